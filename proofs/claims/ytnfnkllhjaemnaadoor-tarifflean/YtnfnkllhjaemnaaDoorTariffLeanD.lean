/- TariffLean answers true for every input, as its tied card says: under the conditions of the card (Rows, Cards, Tie), no more. Part 4 of 8: by one AI agent and its programs; no person has read it. -/
import Derived.Test.YtnfnkllhjaemnaaDoorTariffLeanA
import Derived.Test.YtnfnkllhjaemnaaDoorTariffLeanB
import Derived.Test.YtnfnkllhjaemnaaDoorTariffLeanC
import Derived.Lib.Builder
import Derived.Lib.UnsafeStr
import Derived.Lib.AppendStr
import Derived.Lib.FrozenHead
import Derived.Laws.Externs
import Derived.Lib.ItoaNum
set_option linter.unusedSimpArgs false
set_option linter.unusedVariables false
set_option linter.all false

namespace Go.Pv
open Go.Lib
def bytesI (s : ByteArray) : List Int := s.data.toList.map fun b => (b.toNat : Int)
theorem bytesI_length (s : ByteArray) : (bytesI s).length = s.size := by simp [bytesI]
theorem bytesI_cells (s : ByteArray) : (bytesI s).map (Value.int .u8) = strCells s := by simp [bytesI, strCells]
section
variable {P : Program} {G : List (Nat × PD)} {ro : Option Nat} {N : Nat} {o : Oper} {σ : St} {K : St → Prop}
theorem run_append_str (P : Program) (w : World) (t u ty e : TypeId) {y z : Ty} (ht : tyOf P t = some y) (hd : y.desc = .slice e) (hu : P.underlying u = some .string) (he : tyOf P e = some z) (hz : z.zero = some (.int .u8 0)) (hz1 : z.size = 1) (hz2 : z.bytes = 1)
    (v : Value) (b : Option Nat) (n : Nat) (old : List Value) (hold : old.length = n) (z0 : Nat) (hz0 : z0 ≤ n)
    (hv : ((∃ p0, v = .slice p0 0 0) ∧ b = none ∧ n = 0) ∨ ∃ g cap cur, v = .slice (some ⟨g, 0, none⟩) n cap ∧ b = some g ∧ w.heap[g]? = some (.cells cur e (0, z0)) ∧ n ≤ cap ∧ cap ≤ maxLen ∧ cur.size = cap * 1 ∧ cur.toList.take n = old)
    (s : ByteArray) (hm : 1 ≤ s.size) (h63 : n + s.size ≤ maxLen) (hbytes : n + s.size ≤ 140737488355328) :
    ∃ v' w', (Builtin.append_ #[t, u] ty #[v, .string s]).run P w = .ok v' w' ∧ Appended w w' e 1 b n s.size old (strCells s) v' z0 := by
  obtain ⟨hue, it, hit, hs1, hs2, hs3⟩ := tyOf_parts he
  have hut : P.underlying t = some (.slice e) := by rw [(tyOf_parts ht).1, hd]
  have hs1' : it.size = 1 := hs1.trans hz1
  have hs2' : it.bytes = 1 := hs2.trans hz2
  have hsmall : n + s.size ≤ 9223372036854775807 := by simp only [maxLen] at h63; omega
  have hlen : (old ++ strCells s).length = (n + s.size) * 1 := by rw [List.length_append, hold, strCells_length, Nat.mul_one]
  have grown : ∀ (cp : Nat), cp < n + s.size → Appended w (w.drew.alloc (.cells (old.toArray ++ (strCells s).toArray ++ Builtin.zeroCells (Value.int .u8 0).cells (grownCap w (n + s.size) cp e - (n + s.size))) e)) e 1 b n s.size old (strCells s)
        (.slice (some ⟨w.heap.size, 0, none⟩) (n + s.size) (grownCap w (n + s.size) cp e)) z0 := by
    intro cp ho
    have hge := grownCap_ge w (n + s.size) cp e
    have hcm : grownCap w (n + s.size) cp e ≤ maxLen := grownCap_le_maxLen w (n + s.size) cp e h63
    have hzs : (Value.int IntKind.u8 0).cells.size = 1 := rfl
    refine ⟨⟨w.heap.size, _, _, 0, rfl, heap_alloc_new w.drew _, hge, hcm, ?_, ?_, .inr rfl, .inl rfl⟩, ⟨rfl, rfl, rfl, by simp, fun x hx _ => heap_alloc_old w.drew _ hx⟩⟩
    · simp only [Array.size_append, List.size_toArray, size_zeroCells, hzs, hold, strCells_length]
      omega
    · intro q hq
      rw [← hlen] at hq
      rw [Array.getElem?_append_left (by simpa using hq)]
      simp
  rcases hv with ⟨⟨p0, rfl⟩, rfl, rfl⟩ | ⟨g, cap, cur, rfl, rfl, hg, hnc, hcm, hcs, htake⟩
  · have hx : old = [] := List.eq_nil_of_length_eq_zero hold
    subst hx
    cases p0 with
    | some a0 =>
      have hr := run_append_grow_string (P := P) w t u ty e it (.int .u8 0) hut hu hit (hs3.trans hz) a0 0 0 [] (by simp) (by simp) s (by omega) (by omega) (by rw [hs2']; exact growslice_fits (by omega) (by omega))
      exact ⟨_, _, hr, grown 0 (by omega)⟩
    | none =>
      have hr := run_append_nil_string (P := P) w t u ty e it (.int .u8 0) hut hu hit (hs3.trans hz) s (by omega) (by omega) (by rw [hs2']; omega)
      have hgr := grown 0 (by omega)
      have e1 : (s.data.map fun b => Value.int .u8 b.toNat) = (strCells s).toArray := by
        apply Array.ext'
        simp [strCells]
      simp only [Nat.zero_add, Array.empty_append] at hgr ⊢
      rw [e1] at hr
      exact ⟨_, _, hr, hgr⟩
  · by_cases hroom : n + s.size ≤ cap
    · have hcs' : cur.size = cap := by simpa using hcs
      have hr := run_append_room_stringF (P := P) w t u ty e it hut hu hit hs1' g n cap cur (0, z0) hg hz0 s hroom (by omega)
      refine ⟨_, _, hr, ⟨g, cap, _, z0, rfl, setRow_heap w g cur _ e _ hg, hroom, hcm, ?_, ?_, .inl ⟨rfl, size_setRow _ _ _⟩, .inr rfl⟩, ⟨rfl, rfl, rfl, by simp, fun x _ hx => setRow_other w g x _ (fun e => hx (by rw [e]))⟩⟩
      · simp only [List.size_toArray, List.length_append, List.length_take, List.length_drop, Array.length_toList, strCells_length]
        omega
      · intro q hq
        rw [← hlen] at hq
        rw [htake]
        simp only [List.getElem?_toArray]
        rw [List.getElem?_append_left hq]
    · have holds : ∀ j u, old[j]? = some u → w.cell? ((⟨g, 0, none⟩ : Addr).add j) = some u := fun j u hu => by
        rw [add_eq, Nat.zero_add, cell_of_row w g j cur e (0, z0) hg]
        rw [← htake, List.getElem?_take] at hu
        split at hu
        · simpa using hu
        · cases hu
      have hr := run_append_grow_string (P := P) w t u ty e it (.int .u8 0) hut hu hit (hs3.trans hz) ⟨g, 0, none⟩ n cap old (by rw [hs1', Nat.mul_one]; exact hold) holds s (by omega) (by omega) (by rw [hs2']; exact growslice_fits (by omega) (by omega))
      exact ⟨_, _, hr, grown cap (by omega)⟩
theorem OpT.appendStr {s x : Operand} {t u e : TypeId} {y z : Ty} {r n : Nat} {row : Row} {str : ByteArray} (ho : o.op = .call { callee := .builtin .append, args := #[s, x], argTypes := #[t, u] })
    (ht : tyOf P t = some y) (hde : y.desc = .slice e) (hu : P.underlying u = some .string) (he : tyOf P e = some z) (hz : z.zero = some (.int .u8 0)) (hz1 : z.size = 1) (hz2 : z.bytes = 1)
    (hs : σ.eval s = .slc r 0 n) (hx : hget σ.heap r = some row) (hn : row.els.length = n) (hre : row.e = e) (hrk : row.k = 1) (hp : 1000 ≤ r)
    (hsrc : σ.eval x = .d (.str str)) (hbytes : n + str.size ≤ 140737488355328) (hd : dstOk N o.dst)
    (hK : K ((σ.grown r row (dl (lenc (PD.int .u8) (bytesI str)))).put o.dst (.slc r 0 (n + str.size)))) : OpT P G ro N o σ K := by
  intro B hro a w φ hr next Q hnx
  subst hn
  have hsv := hr.eval s
  rw [hs] at hsv
  have hxv := hr.eval x
  rw [hsrc] at hxv
  have hxv := repV_str hxv
  have hop : ∀ v' w', (Builtin.append_ #[t, u] o.type #[a.eval s, a.eval x]).run P w = .ok v' w' → (o.semAt ro a.eval).run P w = .ok (.value v') w' := by
    intro v' w' h
    rw [Oper.semAt_eq _ _ _ (fun c hc => by rw [ho] at hc; cases hc)]
    simp only [execOp, ho, resolve, invoke, builtin, Sem.run_bind, Sem.run_pure, Result.andThen_ok, List.map_toArray, List.map_cons, List.map_nil, h]
  have hLl : (dl (lenc (PD.int .u8) (bytesI str))).length = str.size := by simp [dl, lenc, bytesI_length]
  obtain ⟨hue, it, hit, hs1, hs2, hs3⟩ := tyOf_parts he
  have hut : P.underlying t = some (.slice e) := by rw [(tyOf_parts ht).1, hde]
  by_cases hm0 : str.size = 0
  · have hL0 : bytesI str = [] := List.eq_nil_of_length_eq_zero (by rw [bytesI_length]; exact hm0)
    obtain ⟨h1, h2⟩ := hr.grown_nil hx
    have hrun : (Builtin.append_ #[t, u] o.type #[a.eval s, a.eval x]).run P w = .ok (a.eval s) w := by
      have hc : ∃ b cap, a.eval s = .slice b row.els.length cap ∧ row.els.length ≤ cap := by
        rcases repV_slc hsv with ⟨⟨p0, h1, _⟩, _, h2, _⟩ | ⟨_, _, cap, h1, _, _, _, h2, _⟩
        · exact ⟨p0, 0, by rw [h1, h2], by omega⟩
        · exact ⟨_, cap, h1, h2⟩
      obtain ⟨b, cap, hc1, hc2⟩ := hc
      rw [hc1, hxv]
      have hf := run_firstCells_string (P := P) w 1 str
      rw [hm0, strCells, show str.data.toList = [] from List.eq_nil_of_length_eq_zero hm0] at hf
      cases b <;> simp [Builtin.append_, run_underlying hut, run_underlying hu, sizeOf, typeInfo, hit, hs1, hz1, Builtin.lenOf, hm0, hf, storeCells, hc2]
    rw [hL0] at hK
    rw [hm0] at hK
    refine wpIn_value (hop _ _ hrun) (hnx _ _ _ φ hK (h1.put hd ?_))
    rcases repV_slc hsv with ⟨⟨p0, h3, hp0⟩, _, h4, h5, _⟩ | ⟨x2, b, cap, h3, hx2, hb, hn, hc, hl, hzz⟩
    · rw [h3, h4]; exact .slc0 h2 h5 (by show 1 ≤ row.k; omega) hp0
    · rw [hx] at hx2; simp only [Option.some.injEq] at hx2; subst hx2
      rw [h3]
      have := RepV.slc (w := w) (X := B.X) (φ := φ) (H := (σ.grown r row []).heap) (x := { row with els := killL r row.els ++ killL r [] }) (lo := 0) (n := row.els.length) (cap := cap) (b := b) h2 hb (by show 1 ≤ row.k; omega) (by simp [killL_length]) hc (by simpa [killL_length, killL] using hl) hzz
      exact this
  · have hcore : ∃ old z0, headOk z0 row.els ∧ old.length = row.els.length ∧
        (((∃ p0, a.eval s = .slice p0 0 0) ∧ φ r = none ∧ row.els.length = 0) ∨ ∃ g cap cur, a.eval s = .slice (some ⟨g, 0, none⟩) row.els.length cap ∧ φ r = some g ∧ w.heap[g]? = some (.cells cur e (0, z0)) ∧ row.els.length ≤ cap ∧ cap ≤ maxLen ∧ cur.size = cap * 1 ∧ cur.toList.take row.els.length = old) ∧
        ∀ i (hi : i < row.els.length), ∃ v, RepV w B.X φ σ.heap v row.els[i] ∧ v.cells.size = row.k ∧ ∀ j, j < row.k → old[i * row.k + j]? = some (v.cells.getD j undef) ∧ flat (v.cells.getD j undef) = true := by
      rcases repV_slc hsv with ⟨⟨p0, h3, _⟩, _, h4, h5, _⟩ | ⟨x2, b, cap, h3, hx2, hb, hn, hc, hl, hzz⟩
      · exact ⟨[], 0, .zero _, by simp [h4], .inl ⟨⟨p0, h3⟩, h5, h4⟩, fun i hi => by omega⟩
      · rw [hx] at hx2; simp only [Option.some.injEq] at hx2; subst hx2
        obtain ⟨cur, C, zf, h1, h2, h3', hzf⟩ := (hr.heap.rows r row b hx hb).here (by omega)
        have hsz := hzz _ _ _ h1
        rw [Nat.zero_add] at hsz hl
        have hCc : C = cap := Nat.eq_of_mul_eq_mul_right (by omega) (h2.1.symm.trans hsz)
        rw [hrk, Nat.mul_one] at hsz
        refine ⟨cur.toList.take row.els.length, zf, hzf, by simp; omega, .inr ⟨b, cap, cur, by rw [h3]; simp, hb, by rw [← hre]; exact h1, hc, by omega, by omega, rfl⟩, fun i hi => ?_⟩
        obtain ⟨v, h4, h5, h6⟩ := h3' i hi
        refine ⟨v, h4, h5, fun j hj => ⟨?_, (h6 j hj).2⟩⟩
        have hj0 : j = 0 := by omega
        subst hj0
        rw [hrk, List.getElem?_take, if_pos (by omega)]
        simpa [hrk] using (h6 0 (by omega)).1
    obtain ⟨old, z0, hzf, hol, hvv, hold⟩ := hcore
    obtain ⟨v', w', hrun, happ⟩ := run_append_str P w t u o.type e ht hde hu he hz hz1 hz2 (a.eval s) (φ r) row.els.length old hol z0 hzf.le hvv str (by omega) (by unfold maxLen; omega) hbytes
    rw [← hxv] at hrun
    rw [← hre, ← hrk] at happ
    obtain ⟨φ', h1, h2⟩ := hr.grown hx (by omega) hp hLl.symm hzf happ hold (by rw [hrk, Nat.mul_one]; exact hol) (fun i hi => by
      have hi' : i < (bytesI str).length := by rw [bytesI_length]; omega
      refine ⟨.int .u8 (bytesI str)[i], ?_, by rw [hrk]; rfl, fun j hj => ?_⟩
      · have e2 : (dl (lenc (PD.int .u8) (bytesI str)))[i] = .d (.int .u8 (bytesI str)[i]) := by simp [dl, lenc]
        rw [e2]; exact .d (.int _ _)
      · have hj0 : j = 0 := by omega
        subst hj0
        refine ⟨?_, rfl⟩
        rw [← bytesI_cells, hrk]
        simp [hi', Value.cells])
    exact wpIn_value (hop _ _ hrun) (hnx _ _ _ φ' hK (h1.put hd h2))
theorem liesAt_self {e : TypeId} (hc : P.cellsOf e ≠ 0) (count : Nat) (hn : 1 ≤ count) : liesAt P P.depth e count 0 e 1 = true := by
  have hd : P.depth = (2 * (P.types.size + Made.depth) + 1) + 1 := rfl
  rw [hd]
  simp only [liesAt, Bool.or_eq_true]
  left
  rw [hd]
  simp [rowAt, hc, hn, sameLayout]
theorem OpT.neqSame {t t' te : TypeId} {x y : Operand} {r i off : Nat} {j : TypeInfo} (ho : o.op = .binOp .neq t x y t') (ht : P.underlying t = some (.pointer te)) (hj : P.info? te = some j) (hx : σ.eval x = .ptr r i off) (hy : σ.eval y = .ptr r i off) (hd : dstOk N o.dst)
    (hK : K (σ.put o.dst (.d (.bool false)))) : OpT P G ro N o σ K := by
  intro B hro a w φ hr next Q hnx
  have hv := hr.eval x
  rw [hx] at hv
  have hv2 := hr.eval y
  rw [hy] at hv2
  obtain ⟨ad, h1, h2⟩ : ∃ ad, a.eval x = .pointer (some ad) ∧ a.eval y = .pointer (some ad) := by
    generalize a.eval x = vx at hv
    generalize a.eval y = vy at hv2
    cases hv with | ptr h1 hb h2 =>
    cases hv2 with | ptr h3 hb2 h4 =>
    rw [h1] at h3; cases h3
    rw [hb] at hb2; cases hb2
    exact ⟨_, rfl, rfl⟩
  have hg : (eqGuard .neq t x y (a.eval x) (a.eval y)).run P w = .ok () w := eqGuard_none (.inl (by rw [h1]; simp)) (.inl (by rw [h1]; simp))
  have hop : (o.semAt ro a.eval).run P w = .ok (.value (.bool false)) w := by
    rw [Oper.semAt_eq _ _ _ (fun c hc => by rw [ho] at hc; cases hc)]
    simp only [execOp, ho]
    refine run_v ?_
    rw [Sem.run_bind, hg]
    simp only [Result.andThen]
    rw [h1, h2]
    exact run_neq_ptr_same w ad ht hj
  exact wpIn_value hop (hnx _ _ _ φ hK (hr.put hd (.d (.bool false))))
theorem ptr_cells {B : Base P} {a : Act} {w : World} {φ : Nm} (hr : Rep G B N σ a w φ) {v : Value} {r : Nat} {row : Row} (hx : hget σ.heap r = some row) (h0 : 0 < row.els.length) (hv : RepV w B.X φ σ.heap v (.ptr r 0 0)) :
    ∃ b n, v = .pointer (some ⟨b, 0, none⟩) ∧ 1 ≤ n ∧ 1 ≤ row.k ∧ w.shape? b = some (row.e, n * row.k) := by
  cases hv with | ptr h1 hb h2 =>
  rename_i b x
  rw [hx] at h1; cases h1
  obtain ⟨c, C, z, h3, h4, _⟩ := (hr.heap.rows r row b hx hb).here h2
  exact ⟨b, C, by simp, by omega, h2, by simp [World.shape?, h3, h4.1]⟩
theorem OpT.toUnsafe {src dst t : TypeId} {x : Operand} {r : Nat} {row : Row} {j : TypeInfo} (ho : o.op = .convert src dst x) (hs : P.underlying src = some (.pointer t)) (hd' : P.underlying dst = some .unsafePointer) (hj : P.info? t = some j) (hj0 : j.size ≠ 0) (hx : σ.eval x = .ptr r 0 0) (hrow : hget σ.heap r = some row)
    (h0 : 0 < row.els.length) (hd : dstOk N o.dst) (hK : K (σ.put o.dst (.ptr r 0 0))) : OpT P G ro N o σ K := by
  intro B hro a w φ hr next Q hnx
  have hv := hr.eval x
  rw [hx] at hv
  obtain ⟨b, n, h1, h2, h3, h4⟩ := ptr_cells hr hrow h0 hv
  have hop : (o.semAt ro a.eval).run P w = .ok (.value (a.eval x)) w := by
    rw [Oper.semAt_eq _ _ _ (fun c hc => by rw [ho] at hc; cases hc)]
    simp only [execOp, ho]
    refine run_v ?_
    rw [h1]
    exact run_to_unsafe w ⟨b, 0, none⟩ hs hd' hj hj0 h4 (Nat.mul_pos (by omega) (by omega))
  exact wpIn_value hop (hnx _ _ _ φ hK (hr.put hd hv))
theorem OpT.fromUnsafe {src dst u : TypeId} {x : Operand} {r : Nat} {row : Row} {j : TypeInfo} (ho : o.op = .convert src dst x) (hs : P.underlying src = some .unsafePointer) (hd' : P.underlying dst = some (.pointer u)) (hj : P.info? u = some j) (hx : σ.eval x = .ptr r 0 0) (hrow : hget σ.heap r = some row)
    (h0 : 0 < row.els.length) (hre : row.e = u) (hrk : row.k = P.cellsOf u) (hd : dstOk N o.dst) (hK : K (σ.put o.dst (.ptr r 0 0))) : OpT P G ro N o σ K := by
  intro B hro a w φ hr next Q hnx
  have hv := hr.eval x
  rw [hx] at hv
  obtain ⟨b, n, h1, h2, h3, h4⟩ := ptr_cells hr hrow h0 hv
  have hop : (o.semAt ro a.eval).run P w = .ok (.value (a.eval x)) w := by
    rw [Oper.semAt_eq _ _ _ (fun c hc => by rw [ho] at hc; cases hc)]
    simp only [execOp, ho]
    refine run_v ?_
    rw [h1]
    refine run_from_unsafe w ⟨b, 0, none⟩ hs hd' hj h4 ?_
    rw [hre, hrk, Nat.mul_div_cancel _ (by omega)]
    exact liesAt_self (by omega) n h2
  exact wpIn_value hop (hnx _ _ _ φ hK (hr.put hd hv))
theorem OpT.noEscape {c : Call} {f : FuncId} {x : Operand} (ho : o.op = .call c) (hc : c.callee = .value (.func f)) (hca : c.args = #[x])
    (hrun : ∀ (w : World) (v : Value), (callFunc f #[v]).run P w = .ok (.value v) w) (hd : dstOk N o.dst) (hK : K (σ.put o.dst (σ.eval x))) : OpT P G ro N o σ K := by
  intro B hro a w φ hr next Q hnx
  have hop : (o.semAt ro a.eval).run P w = .ok (.value (a.eval x)) w := by
    rw [Oper.semAt_eq _ _ _ (fun c hc => by rw [ho] at hc; cases hc)]
    simp only [execOp, ho, hc, hca, resolve, invoke]
    simp [hrun, Act.eval, Deferred.ofValue]
  exact wpIn_value hop (hnx _ _ _ φ hK (hr.put hd (hr.eval x)))
theorem OpT.sliceData {c : Call} {x : Operand} {r n : Nat} (ho : o.op = .call c) (hc : c.callee = .builtin .unsafeSliceData) (hca : c.args = #[x]) (hx : σ.eval x = .slc r 0 n) (hn : n ≠ 0) (hd : dstOk N o.dst) (hK : K (σ.put o.dst (.ptr r 0 0))) : OpT P G ro N o σ K := by
  intro B hro a w φ hr next Q hnx
  have hv := hr.eval x
  rw [hx] at hv
  rcases repV_slc hv with ⟨_, _, h4, _⟩ | ⟨x2, b, cap, h3, hx2, hb, hle, hcp, hl, hzz⟩
  · exact absurd h4 hn
  · have hpos := repV_slc_pos hv hx2
    have hop : (o.semAt ro a.eval).run P w = .ok (.value (.pointer (some ⟨b, 0 * x2.k + 0, none⟩))) w := by
      rw [Oper.semAt_eq _ _ _ (fun c hc => by rw [ho] at hc; cases hc)]
      simp only [execOp, ho, hc, hca, resolve, invoke, builtin, Sem.run_bind, Sem.run_pure, Result.andThen_ok, List.map_toArray, List.map_cons, List.map_nil, h3, run_unsafeSliceData_row (P := P) w _ _ _ n cap (by omega), Nat.add_zero]
    exact wpIn_value hop (hnx _ _ _ φ hK (hr.put hd (.ptr hx2 hb hpos)))
theorem OpT.mkStr {c : Call} {x y : Operand} {pt it e r : Nat} {s : ByteArray} (ho : o.op = .call c) (hc : c.callee = .builtin .unsafeString) (hca : c.args = #[x, y]) (hct : c.argTypes = #[pt, it]) (hpt : P.underlying pt = some (.pointer e)) (hce : P.cellsOf e = 1)
    (hx : σ.eval x = .ptr r 0 0) (hy : σ.eval y = .d (.int .i64 s.size)) (hrow : hget σ.heap r = some ⟨e, 1, dl (lenc (PD.int .u8) (bytesI s))⟩) (hs0 : s.size ≠ 0) (hd : dstOk N o.dst) (hK : K (σ.put o.dst (.d (.str s)))) : OpT P G ro N o σ K := by
  intro B hro a w φ hr next Q hnx
  have hv := hr.eval x
  rw [hx] at hv
  have hyv := hr.eval y
  rw [hy] at hyv
  have hyv := repV_int hyv
  generalize hav : a.eval x = av at hv
  cases hv with | ptr h1 hb h2 =>
  rename_i b x2
  rw [hrow] at h1; cases h1
  obtain ⟨cs, C, z, h3, h4, h5, h6⟩ := (hr.heap.rows r _ b hrow hb).here h2
  have hll : (dl (lenc (PD.int .u8) (bytesI s))).length = s.size := by simp [dl, lenc, bytesI_length]
  have hsl : s.data.toList.length = s.size := by simp
  dsimp only at h3 h4 h5 h6
  rw [hll] at h4
  have hcs : cs.size = C := by rw [h4.1, Nat.mul_one]
  have hcell : ∀ j x, s.data.toList[j]? = some x → w.cell? ((⟨b, 0, none⟩ : Addr).add j) = some (.int .u8 x.toNat) := fun j x hj => by
    obtain ⟨hj', hjx⟩ := List.getElem?_eq_some_iff.1 hj
    obtain ⟨v, g1, g2, g3⟩ := h5 j (by rw [hll, ← hsl]; exact hj')
    have e1 : (dl (lenc (PD.int .u8) (bytesI s)))[j]'(by rw [hll, ← hsl]; exact hj') = .d (.int .u8 (x.toNat : Int)) := by simp [dl, lenc, bytesI, ← hjx]
    rw [e1] at g1
    have e2 := repV_int g1
    subst e2
    rw [add_eq, Nat.zero_add, cell_of_row w b j cs e (0, z) h3]
    have := (g3 0 Nat.one_pos).1
    simpa [Value.cells] using this
  have hrun := run_unsafeString_row (P := P) w pt it o.type e hpt hce b cs.size (by simp [World.shape?, h3]) s.data.toList (fun h => hs0 (by rw [← hsl, h]; rfl)) (by rw [hsl, hcs]; exact h4.2.1) (by rw [hsl]; have := h4.2.1; have := h4.2.2; unfold maxLen at this; omega) hcell
  rw [hsl] at hrun
  have hop : (o.semAt ro a.eval).run P w = .ok (.value (.string s)) (w.freeze ⟨b, 0, none⟩ s.size) := by
    rw [Oper.semAt_eq _ _ _ (fun c hc => by rw [ho] at hc; cases hc)]
    have e3 : (⟨s.data.toList.toArray⟩ : ByteArray) = s := by cases s; simp
    rw [e3] at hrun
    have e4 : (⟨b, 0 * 1 + 0, none⟩ : Addr) = ⟨b, 0, none⟩ := rfl
    simp only [execOp, ho, hc, hca, hct, resolve, invoke, builtin, Sem.run_bind, Sem.run_pure, Result.andThen_ok, List.map_toArray, List.map_cons, List.map_nil, hav, hyv, e4, hrun]
  have hw' : (w.freeze ⟨b, 0, none⟩ s.size).heap[b]? = some (.cells cs e (0, s.size)) := by
    have hz : z ≤ s.size := by have := h6.le; rw [hll] at this; exact this
    simp only [World.freeze, hs0, if_false, Array.getElem?_modify, if_true, h3, Option.map_some, Option.some.injEq, Obj.cells.injEq, true_and]
    by_cases hz0 : z = 0
    · subst hz0; simp
    · rw [if_neg (by simpa using Ne.symm hz0)]
      simp; omega
  have hoth : ∀ c, c ≠ b → (w.freeze ⟨b, 0, none⟩ s.size).heap[c]? = w.heap[c]? := fun c hc => by
    simp [World.freeze, hs0, Array.getElem?_modify, Ne.symm hc]
  have hsz : (w.freeze ⟨b, 0, none⟩ s.size).heap.size = w.heap.size := by simp [World.freeze, hs0]
  have hrep := hr.write (w' := w.freeze ⟨b, 0, none⟩ s.size) hrow hb h2 (els := dl (lenc (PD.int .u8) (bytesI s))) rfl h3 hw' (fun i hi => by
    have hi' : i < (bytesI s).length := by rw [bytesI_length]; exact hi
    exact ⟨.d (.int .u8 (bytesI s)[i]), by simp [dl, lenc, hi'], rfl⟩) rfl ⟨by simp [World.freeze, hs0], by simp [World.freeze, hs0], by simp [World.freeze, hs0], by rw [hsz]; exact Nat.le_refl _, fun c _ hc => hoth c hc⟩ hsz h5
  have hself : hput σ.heap r { (⟨e, 1, dl (lenc (PD.int .u8) (bytesI s))⟩ : Row) with els := dl (lenc (PD.int .u8) (bytesI s)) } = σ.heap := hput_self hrow
  rw [hself] at hrep
  exact wpIn_value hop (hnx _ _ _ φ hK (hrep.put hd (.d (.str s))))
variable {xs : Exc}
theorem OpX.sliceData {K : Foot → St → Prop} {c : Call} {x : Operand} {r n : Nat} (ho : o.op = .call c) (hc : c.callee = .builtin .unsafeSliceData) (hca : c.args = #[x]) (hx : σ.eval x = .slc r 0 n) (hn : n ≠ 0) (hd : dstOk N o.dst) (hxe : exE xs (dstEff o.dst (.ptr r 0 0)))
    (hK : K (some (tmpKeys (opnds o.op), dstKeys o.dst)) (σ.put o.dst (.ptr r 0 0))) : OpX P G ro N xs o σ K := by
  refine ⟨some (tmpKeys (opnds o.op), dstKeys o.dst), σ.put o.dst (.ptr r 0 0), ⟨dstEff o.dst (.ptr r 0 0), fun k hk => by rw [ekeys_dst] at hk; exact hk, hxe, fun σ' hd' hs _ => ?_, look_put _ _ _, St.put_rest _ _ _⟩, hK⟩
  have h1 := eval_agree (σ := σ) (σ' := σ') (l := opnds o.op) fun k hk => hs k hk
  have hmem : x ∈ opnds o.op := by rw [ho]; simp [opnds, hca]
  exact OpT.sliceData ho hc hca ((h1 x hmem).trans hx) hn hd ⟨by rw [St.put_rest]; exact hd', look_put _ _ _⟩
theorem OpX.mkStr {K : Foot → St → Prop} {c : Call} {x y : Operand} {pt it e r : Nat} {s : ByteArray} (ho : o.op = .call c) (hc : c.callee = .builtin .unsafeString) (hca : c.args = #[x, y]) (hct : c.argTypes = #[pt, it]) (hpt : P.underlying pt = some (.pointer e)) (hce : P.cellsOf e = 1)
    (hx : σ.eval x = .ptr r 0 0) (hy : σ.eval y = .d (.int .i64 s.size)) (hrow : hget σ.heap r = some ⟨e, 1, dl (lenc (PD.int .u8) (bytesI s))⟩) (hs0 : s.size ≠ 0) (hd : dstOk N o.dst) (hxe : exE xs (dstEff o.dst (.d (.str s))))
    (hK : K (some (.h r :: tmpKeys (opnds o.op), dstKeys o.dst)) (σ.put o.dst (.d (.str s)))) : OpX P G ro N xs o σ K := by
  refine ⟨some (.h r :: tmpKeys (opnds o.op), dstKeys o.dst), σ.put o.dst (.d (.str s)), ⟨dstEff o.dst (.d (.str s)), fun k hk => by rw [ekeys_dst] at hk; exact hk, hxe, fun σ' hd' hs _ => ?_, look_put _ _ _, St.put_rest _ _ _⟩, hK⟩
  have h1 := eval_agree (σ := σ) (σ' := σ') (l := opnds o.op) fun k hk => hs k (List.mem_cons_of_mem _ hk)
  have h2 : hget σ'.heap r = hget σ.heap r := by
    have := hs (.h r) (List.mem_cons_self ..)
    simpa only [St.look, Cont.r.injEq] using this
  have hm1 : x ∈ opnds o.op := by rw [ho]; simp [opnds, hca]
  have hm2 : y ∈ opnds o.op := by rw [ho]; simp [opnds, hca]
  exact OpT.mkStr ho hc hca hct hpt hce ((h1 x hm1).trans hx) ((h1 y hm2).trans hy) (h2.trans hrow) hs0 hd ⟨by rw [St.put_rest]; exact hd', look_put _ _ _⟩
theorem Sit.more {B : Base P} {w w' : World} {φ : Nm} {H : Heap} {g : Gh} (hro : B.ro = none) (hs : Sit G B w φ H g) (hsz : w.heap.size ≤ w'.heap.size) (hold : ∀ b, b < w.heap.size → w'.heap[b]? = w.heap[b]?) (hos : w'.os = w.os) (ht : w'.tape = w.tape) (hout : w'.output = w.output) : Sit G B w' φ H g := by
  have hr : Rep G B 0 ⟨[], H, [], g⟩ { tmps := #[], defers := [] } w φ := by
    refine Rep.of_sit hs rfl (fun t => .any _) ?_
    rw [B.hheld hro]; exact .nil
  exact (hr.world (ext_more hsz hold (fun s x c h1 h2 => hr.heap.lt h1 h2)) ⟨hos, ht, hout, hsz, fun c h _ => hold c h⟩ (fun s x c h1 h2 => hold c (hr.heap.lt h1 h2)) (fun c h _ => hold c h)).sit
theorem handLU_of {Hc Hc' : Heap} {g : Nat → Nat} {H0 : Heap} : ∀ {l : Heap}, handLU Hc g H0 l → (∀ r x, hget l r = some x → hget Hc' (g r) = hget Hc (g r)) → (∀ r x, hget l r = some x → hget Hc' (g r) = some (x.ren g) ∧ refsInL H0 x.els)
  | l, h, hs, r, x, hx => ⟨(hs r x hx).trans (handLU_get h r x hx).1, (handLU_get h r x hx).2⟩
def handKeys (g : Nat → Nat) : Heap → List Key
  | [] => []
  | (r, _) :: l => .h (g r) :: handKeys g l
theorem handKeys_mem {g : Nat → Nat} : ∀ {l : Heap} {r : Nat} {x : Row}, hget l r = some x → Key.h (g r) ∈ handKeys g l
  | [], r, x, h => by simp [hget] at h
  | (t, y) :: l, r, x, h => by
    simp only [hget] at h
    split at h
    · rename_i e; subst e; simp [handKeys]
    · simp [handKeys, handKeys_mem h]
def allPinned : Heap → Prop
  | [] => True
  | (r, _) :: l => r < 1000 ∧ allPinned l
theorem allPinned_get : ∀ {l : Heap}, allPinned l → ∀ r x, hget l r = some x → r < 1000
  | [], _, r, x, h => by simp [hget] at h
  | (s, y) :: l, h, r, x, hx => by
    simp only [hget] at hx
    split at hx
    · rename_i e; subst e; exact h.1
    · exact allPinned_get h.2 r x hx
def allClean : Heap → Prop
  | [] => True
  | (_, x) :: l => cleanL x.els ∧ allClean l
theorem allClean_get : ∀ {l : Heap}, allClean l → ∀ r x, hget l r = some x → cleanL x.els
  | [], _, r, x, h => by simp [hget] at h
  | (s, y) :: l, h, r, x, hx => by
    simp only [hget] at hx
    split at hx
    · rename_i e; subst e; cases hx; exact h.1
    · exact allClean_get h.2 r x hx
theorem OpX.callR {K : Foot → St → Prop} {c : Call} {f : FuncId} {xo : Operand} {caps args : List PV} {res : PV} {H : Heap} (g : Nat → Nat) (ho : o.op = .call c) (hc : c.callee = .value xo) (hx : calleeV (σ.eval xo) = some (f, caps)) (hcal : callable P f = true)
    (hf : ObjFn P G f args H res H) (hrow : handLU σ.heap g H H) (hinj : injL g H) (hpin : allPinned H) (hcln : allClean H) (ha : ∀ H0, handsOk H0 H g (evalL σ c.args.toList ++ caps) args) (hd : dstOk N o.dst) (hcl : clean res) (hrf : refsIn H res) (hren : res.ren g = res) (hxe : exE xs (dstEff o.dst res))
    (hK : K (some (handKeys g H ++ tmpKeys (xo :: opnds o.op), dstKeys o.dst)) (σ.put o.dst res)) : OpX P G ro N xs o σ K := by
  refine ⟨some (handKeys g H ++ tmpKeys (xo :: opnds o.op), dstKeys o.dst), σ.put o.dst res, ⟨dstEff o.dst res, fun k hk => by rw [ekeys_dst] at hk; exact hk, hxe, fun σ' hd' hs _ => ?_, look_put _ _ _, St.put_rest _ _ _⟩, hK⟩
  have h1 := eval_agree (σ := σ) (σ' := σ') (l := xo :: opnds o.op) fun k hk => hs k (List.mem_append_right _ hk)
  rw [ho] at h1
  have hgt : ∀ r x, hget H r = some x → hget σ'.heap (g r) = hget σ.heap (g r) := fun r x hrx => by
    have := hs (.h (g r)) (List.mem_append_left _ (handKeys_mem hrx))
    simpa only [St.look, Cont.r.injEq] using this
  have hrow' := handLU_of hrow hgt
  have hi : ∀ r s x y, hget H r = some x → hget H s = some y → g r = g s → r = s := fun r s x y h h' => injL_get hinj r s x y (hget_mem h) (hget_mem h')
  refine OpT.callU (H := H) (g := g) (gs := []) (caps := caps) (args := args) ho hc (by rw [h1 xo (by simp)]; exact hx) hcal hf ⟨⟨fun r x h => (hrow' r x h).1, hi, fun r x h => (hrow' r x h).2⟩, fun r x h hr => ?_, fun r x _ _ => by simp, fun s hs => by simp at hs, fun s hs => by simp at hs, fun s hs => by simp at hs, fun s hs => by simp at hs, fun s hs => by simp at hs⟩ ?_ hd ?_
  · have := allPinned_get hpin r x h; omega
  · rw [evalL_agree (l := c.args.toList) fun x hx => h1 x (by simp [opnds, hx])]; exact ha _
  · rintro p H' ⟨rfl, rfl⟩
    refine ⟨g, ⟨fun r x' h _ => ⟨x', h, rfl, rfl, fun _ => rfl⟩, fun r x h _ => ⟨x, h⟩, fun r x' h hr => ?_, hi, fun r x h => ⟨(hrow' r x h).2, allClean_get hcln r x h⟩⟩, hcl, hrf, ?_⟩
    · have := allPinned_get hpin r x' h; omega
    · rw [hren]
      have hm := BackU.merged (σ := σ') (H := H') (H' := H') (g := g) (ρ := g) (gs := []) ⟨fun r x' h _ => ⟨x', h, rfl, rfl, fun _ => rfl⟩, fun r x h _ => ⟨x, h⟩, fun r x' h hr => (by have := allPinned_get hpin r x' h; omega), hi, fun r x h => ⟨(hrow' r x h).2, allClean_get hcln r x h⟩⟩
      refine ⟨by rw [St.put_rest]; exact hd', ?_⟩
      rw [← look_put]
      funext k
      cases k with
      | t n => cases hdst : o.dst <;> simp [St.look, St.put]
      | h n =>
        have : hget (hmerge g H' (hdrop [] σ'.heap)) n = hget σ'.heap n := by
          by_cases hex : ∃ r x, hget H' r = some x ∧ g r = n
          · obtain ⟨r, x, h2, rfl⟩ := hex
            rw [hm.inn r x h2, (hrow' r x h2).1]
          · rw [hm.out n (fun r x h2 h3 => hex ⟨r, x, h2, h3⟩)]; simp
        cases hdst : o.dst <;> simp [St.look, St.put, this]
theorem dclR {f : FuncId} {c : Call} {xo : Operand} {caps args : List PV} {res : PV} {H : Heap} {acc : List Foot} {ops : Array Oper} {rest : List Oper} {σ' : St} {Q : St → Prop} (gl : List (Nat × Nat)) (hf : ObjFn P G f args H res H)
    (h2 : DOps P G ro N xs ops Q rest (acc ++ [some (handKeys (renOf gl) H ++ tmpKeys (xo :: opnds o.op), dstKeys o.dst)]) σ')
    (hg : o.guard = none := by rfl) (ho : o.op = .call c := by rfl) (hc : c.callee = .value xo := by rfl) (hx : calleeV (σ.eval xo) = some (f, caps) := by rfl) (hcal : callable P f = true := by kernel_rfl)
    (hrow : handLU σ.heap (renOf gl) H H := by (simp only [handLU, Row.ren, go_sem, ↓reduceIte]; (repeat' (first | exact trivial | exact rfl | (simp only [List.length_append, List.length_set, List.length_replicate, List.length_cons, List.length_nil, Nat.zero_add]; exact rfl) | apply And.intro))))
    (hinj : injL (renOf gl) H := by (simp only [injL, injOne, go_sem, ↓reduceIte]; (repeat' (first | exact trivial | (intro h; cases h; done) | apply And.intro))))
    (hpin : allPinned H := by (repeat' (first | exact trivial | decide | apply And.intro))) (hcln : allClean H := by (simp only [allClean, go_sem, ↓reduceIte]; (repeat' (first | exact trivial | exact rfl | apply And.intro))))
    (ha : ∀ H0, handsOk H0 H (renOf gl) (evalL σ c.args.toList ++ caps) args := by (intro H0; repeat' (first | exact trivial | exact rfl | apply And.intro | (simp only [go_sem, ↓reduceIte]; done)))) (hd : dstOk N o.dst := by (simp only [go_sem, ↓reduceIte]; done))
    (hp : σ.put o.dst res = σ' := by (simp only [go_sem, ↓reduceIte]; rfl)) (hcl : clean res := by (simp only [clean, cleanL, and_self]; done)) (hrf : refsIn H res := by (simp only [go_sem]; done)) (hren : res.ren (renOf gl) = res := by rfl) (hxe : exE xs (dstEff o.dst res) := by (simp only [go_sem, or_true, true_or, ↓reduceIte]; done)) :
    DOps P G ro N xs ops Q (o :: rest) acc σ := by
  obtain ⟨f1, σ1, h3, h4, h5⟩ := OpX.callR (K := fun f1 σ1 => f1 = some (handKeys (renOf gl) H ++ tmpKeys (xo :: opnds o.op), dstKeys o.dst) ∧ σ1 = σ') (renOf gl) ho hc hx hcal hf hrow hinj hpin hcln ha hd hcl hrf hren hxe ⟨rfl, hp⟩
  rw [h4, h5] at h3
  exact .step (DStep.plain hg h3) h2
end
attribute [go_sem] handKeys allClean
def ofI (l : List Int) : ByteArray := ⟨(l.map fun n => n.toNat.toUInt8).toArray⟩
def byteOk (l : List Int) : Bool := l.all fun n => decide (0 ≤ n) && decide (n < 256)
theorem bytesI_ofI {l : List Int} (h : byteOk l = true) : bytesI (ofI l) = l := by
  simp only [byteOk, List.all_eq_true, Bool.and_eq_true, decide_eq_true_eq] at h
  simp only [bytesI, ofI, List.map_map]
  conv => rhs; rw [← List.map_id l]
  refine List.map_congr_left fun n hn => ?_
  obtain ⟨h1, h2⟩ := h n hn
  simp only [Function.comp, id_eq]
  have : n.toNat.toUInt8.toNat = n.toNat := by simp [Nat.mod_eq_of_lt (show n.toNat < 256 by omega)]
  rw [this]; omega
theorem ofI_size (l : List Int) : (ofI l).size = l.length := by simp [ofI, ByteArray.size]
end Go.Pv

namespace Go.Pv
section
variable {P : Program} {G : List (Nat × PD)} {B : Base P} {N : Nat} {σ τ : St} {a : Act} {w : World} {φ φ' : Nm} {H H' : Heap} {ρ : Nat → Nat}
theorem Row.ren_len (x : Row) : (x.ren ρ).els.length = x.els.length := by simp [Row.ren, renL_length]
theorem RepV.renamed {X : Nat → Prop} (hrow : ∀ r x, hget H r = some x → hget H' (ρ r) = some (x.ren ρ) ∧ φ' (ρ r) = φ r) (hown : ∀ b, own φ' H' b ↔ own φ H b) {v : Value} {p : PV} (h : RepV w X φ H v p) : RepV w X φ' H' v (p.ren ρ) := by
  have hd : ∀ b, okd w X φ H b → okd w X φ' H' b := fun b hb => ⟨hb.1, hb.2.1, fun ho => hb.2.2 ((hown b).1 ho)⟩
  have hb' : ∀ b, okb w φ H b → okb w φ' H' b := fun b hb => ⟨hb.1, fun ho => hb.2 ((hown b).1 ho)⟩
  induction h with
  | any v => simp only [PV.ren]; exact .any v
  | d h => simp only [PV.ren]; exact .d (h.mono hd (fun _ _ => rfl))
  | b h => simp only [PV.ren]; exact .b (h.mono hb' (fun _ _ => rfl))
  | @ptr r i off b x hx hb hk =>
    simp only [PV.ren]
    obtain ⟨h1, h2⟩ := hrow _ _ hx
    exact .ptr (x := x.ren ρ) h1 (h2.trans hb) hk
  | dptr h hi => simp only [PV.ren]; exact .dptr (h.mono hd (fun _ _ => rfl)) hi
  | bptr h hi => simp only [PV.ren]; exact .bptr (h.mono hb' (fun _ _ => rfl)) hi
  | glob g => simp only [PV.ren]; exact .glob g
  | @slc r lo n cap b x hx hb hk hn hc hl hz =>
    simp only [PV.ren]
    obtain ⟨h1, h2⟩ := hrow _ _ hx
    exact .slc (x := x.ren ρ) h1 (h2.trans hb) hk (by rw [Row.ren_len]; exact hn) hc (by rw [Row.ren_len]; exact hl) hz
  | @slc0 r x p hx hb hk hp =>
    simp only [PV.ren]
    obtain ⟨h1, h2⟩ := hrow _ _ hx
    exact .slc0 (x := x.ren ρ) h1 (h2.trans hb) hk hp
  | @mp r b x hx hb hk =>
    simp only [PV.ren]
    obtain ⟨h1, h2⟩ := hrow _ _ hx
    exact .mp (x := x.ren ρ) h1 (h2.trans hb) hk
  | func hs _ ih =>
    simp only [PV.ren]
    exact .func (by rw [renL_length]; exact hs) fun i hi => by rw [renL_get _ _ i (by rw [renL_length] at hi; exact hi) hi]; exact ih i (by rw [renL_length] at hi; exact hi)
  | agg hs _ hf ih =>
    simp only [PV.ren]
    exact .agg (by rw [renL_length]; exact hs) (fun i hi => by rw [renL_get _ _ i (by rw [renL_length] at hi; exact hi) hi]; exact ih i (by rw [renL_length] at hi; exact hi)) fun i hi => hf i (by rw [renL_length] at hi; exact hi)
  | tuple hs _ ih =>
    simp only [PV.ren]
    exact .tuple (by rw [renL_length]; exact hs) fun i hi => by rw [renL_get _ _ i (by rw [renL_length] at hi; exact hi) hi]; exact ih i (by rw [renL_length] at hi; exact hi)
structure Renames (σ τ : St) (ρ : Nat → Nat) : Prop where
  env : ∀ t, eget τ.env t = (eget σ.env t).ren ρ
  row : ∀ r x, hget σ.heap r = some x → hget τ.heap (ρ r) = some (x.ren ρ)
  all : ∀ s y, hget τ.heap s = some y → ∃ r x, hget σ.heap r = some x ∧ s = ρ r
  inj : ∀ r s x y, hget σ.heap r = some x → hget σ.heap s = some y → ρ r = ρ s → r = s
  pin : ∀ r x, hget σ.heap r = some x → r < 1000 → ρ r = r
  big : ∀ r x, hget σ.heap r = some x → 1000 ≤ r → 1000 ≤ ρ r
  dfr : τ.dfr = σ.dfr.map (PV.ren ρ)
  gh : σ.gh = τ.gh
open Classical in
noncomputable def renNm (φ : Nm) (H : Heap) (ρ : Nat → Nat) : Nm := ⟨fun s => if h : ∃ r, (hget H r).isSome = true ∧ ρ r = s then φ (Classical.choose h) else none, φ.T⟩
open Classical in
theorem renNm_at (hi : ∀ r s x y, hget H r = some x → hget H s = some y → ρ r = ρ s → r = s) {r : Nat} {x : Row} (h : hget H r = some x) : (renNm φ H ρ) (ρ r) = φ r := by
  have hex : ∃ r', (hget H r').isSome = true ∧ ρ r' = ρ r := ⟨r, by rw [h]; rfl, rfl⟩
  show (if h : ∃ r', (hget H r').isSome = true ∧ ρ r' = ρ r then φ (Classical.choose h) else none) = _
  rw [dif_pos hex]
  obtain ⟨h1, h2⟩ := Classical.choose_spec hex
  obtain ⟨y, hy⟩ := Option.isSome_iff_exists.1 h1
  rw [hi _ _ _ _ hy h h2]
theorem Sub.ren (h : Renames σ τ ρ) : Sub G N σ τ := by
  intro P B a w φ hr
  have hat : ∀ r x, hget σ.heap r = some x → (renNm φ σ.heap ρ) (ρ r) = φ r := fun r x hx => renNm_at h.inj hx
  have hrow : ∀ b, rowB (renNm φ σ.heap ρ) τ.heap b ↔ rowB φ σ.heap b := fun b => by
    constructor
    · rintro ⟨s, y, h1, h2⟩
      obtain ⟨r, x, h3, rfl⟩ := h.all s y h1
      exact ⟨r, x, h3, (hat r x h3).symm.trans h2⟩
    · rintro ⟨r, x, h1, h2⟩
      exact ⟨ρ r, _, h.row r x h1, (hat r x h1).trans h2⟩
  have hown : ∀ b, own (renNm φ σ.heap ρ) τ.heap b ↔ own φ σ.heap b := fun b => or_congr (hrow b) Iff.rfl
  have hv : ∀ {v p}, RepV w B.X φ σ.heap v p → RepV w B.X (renNm φ σ.heap ρ) τ.heap v (p.ren ρ) := fun {v p} hv => hv.renamed (fun r x hx => ⟨h.row r x hx, hat r x hx⟩) hown
  have hd : ∀ b, okd w B.X φ σ.heap b → okd w B.X (renNm φ σ.heap ρ) τ.heap b := fun b hb => ⟨hb.1, hb.2.1, fun ho => hb.2.2 ((hown b).1 ho)⟩
  refine ⟨renNm φ σ.heap ρ, Rep.of_sit ⟨⟨fun s y b hs hb => ?_, fun s y hs hb => ?_, fun s t y z b hs ht hb hb' => ?_, fun b hT => ⟨(hr.heap.far b hT).1, (hr.heap.far b hT).2.1, fun ho => (hr.heap.far b hT).2.2 ((hrow b).1 ho)⟩⟩, hr.keeps, fun s y b hs hb => ?_, fun s y hs hp => ?_, fun s y b hs hp hb => ?_, ?_, hr.tnew, ?_⟩ hr.size (fun t => ?_) ?_⟩
  · obtain ⟨r, x, h1, rfl⟩ := h.all s y hs
    have h2 := h.row r x h1
    rw [hs] at h2; cases h2
    rw [hat r x h1] at hb
    refine (hr.heap.rows r x b h1 hb).turn rfl rfl (Row.ren_len x) (fun _ _ h => h) (hr.heap.rows r x b h1 hb).free (fun i hi hi' v hv' => ?_) fun z hz => by simp only [Row.ren, renL_map]; exact hz.map fun p hp => ren_byte ρ hp
    simp only [Row.ren]
    rw [renL_get _ _ i hi (by simpa [Row.ren] using hi')]
    exact hv hv'
  · obtain ⟨r, x, h1, rfl⟩ := h.all s y hs
    have h2 := h.row r x h1
    rw [hs] at h2; cases h2
    rw [hat r x h1] at hb
    have := hr.heap.void r x h1 hb
    simp [Row.ren, this, renL]
  · obtain ⟨r, x, h1, rfl⟩ := h.all s y hs
    obtain ⟨r', x', h1', rfl⟩ := h.all t z ht
    rw [hat r x h1] at hb
    rw [hat r' x' h1'] at hb'
    rw [hr.heap.inj r r' x x' b h1 h1' hb hb']
  · obtain ⟨r, x, h1, rfl⟩ := h.all s y hs
    rw [hat r x h1] at hb
    exact hr.new r x b h1 hb
  · obtain ⟨r, x, h1, rfl⟩ := h.all s y hs
    rcases Nat.lt_or_ge r 1000 with hl | hl
    · rw [hat r x h1, h.pin r x h1 hl]
      exact hr.pins r x h1 (by simp [pinned, hl])
    · have := h.big r x h1 hl
      simp [pinned] at hp; omega
  · obtain ⟨r, x, h1, rfl⟩ := h.all s y hs
    rcases Nat.lt_or_ge r 1000 with hl | hl
    · rw [hat r x h1] at hb
      exact hr.psz r x b h1 (by simp [pinned, hl]) hb
    · have := h.big r x h1 hl
      simp [pinned] at hp; omega
  · intro g y hm
    obtain ⟨c, e, f, v, h1, h2, h3, h4, h5, h6⟩ := hr.glob g y hm
    exact ⟨c, e, f, v, h1, fun ho => h2 ((hown g).1 ho), h3.mono hd (fun _ _ => rfl), h4, h5, h6⟩
  · rw [← h.gh]
    exact J_step (w := w) (φ := φ) (H := σ.heap) hr.inv rfl rfl rfl rfl (Nat.le_refl _) (fun _ _ _ => rfl) (fun b hb => .inl ((hrow b).1 hb))
  · rw [h.env t]; exact hv (hr.env t)
  · rw [h.dfr, ← h.gh]
    exact hr.dfr.map (fun D hD => ⟨hd D hD, rfl⟩) fun p _ v hv' => hv hv'
end
def renHeap (ρ : Nat → Nat) : Heap → Heap
  | [] => []
  | (r, x) :: l => (r, x.ren ρ) :: renHeap ρ l
def renEnv (ρ : Nat → Nat) : List (Nat × PV) → List (Nat × PV)
  | [] => []
  | (t, v) :: l => (t, v.ren ρ) :: renEnv ρ l
theorem hget_renHeap (ρ : Nat → Nat) : ∀ (l : Heap) (r : Nat), hget (renHeap ρ l) r = (hget l r).map (Row.ren ρ)
  | [], _ => rfl
  | (s, x) :: l, r => by
    simp only [renHeap, hget]
    split
    · rfl
    · exact hget_renHeap ρ l r
theorem eget_renEnv (ρ : Nat → Nat) : ∀ (l : List (Nat × PV)) (t : Nat), eget (renEnv ρ l) t = (eget l t).ren ρ
  | [], _ => by simp [renEnv, eget, PV.ren]
  | (s, x) :: l, t => by
    simp only [renEnv, eget]
    split
    · rfl
    · exact eget_renEnv ρ l t
def foc (c i q s : Nat) : Nat := if s = sn c i then q else s
def unf (c i q s : Nat) : Nat := if s = q then sn c i else s
theorem foc_low {c i q s : Nat} (h : s < 1000000) : foc c i q s = s := by unfold foc; rw [if_neg (by unfold sn; omega)]
theorem foc_at {c i q : Nat} : foc c i q (sn c i) = q := by simp [foc]
theorem unf_at {c i q : Nat} : unf c i q q = sn c i := by simp [unf]
theorem unf_ne {c i q s : Nat} (h : s ≠ q) : unf c i q s = s := by unfold unf; rw [if_neg h]
theorem sn_inj {c i j : Nat} (h : sn c i = sn c j) : i = j := by unfold sn at h; omega
theorem nelF_focus {α : Type} {c i q : Nat} {F : Nat → α → PV} [NestF F] {L : List α} {x : α} (h : L[i]? = some x) : renL (foc c i q) (nelF c F L) = (nelF c F L).set i (F q x) := by
  rw [renL_map]
  apply List.ext_getElem?
  intro j
  rw [List.getElem?_map, List.getElem?_set]
  simp only [nelF, nels_length, nels_get]
  by_cases hij : i = j
  · subst hij
    rw [h]; simp [NestF.ren, foc_at, (List.getElem?_eq_some_iff.1 h).1]
  · rw [if_neg hij]
    cases L[j]? with
    | none => rfl
    | some y =>
      simp only [Option.map_some, NestF.ren]
      unfold foc
      rw [if_neg (fun e => hij (sn_inj e).symm)]
theorem nelF_unfocus {α : Type} {c i q : Nat} {F : Nat → α → PV} [NestF F] {L : List α} {x : α} (hq : q < 1000000) (hi : i < L.length) : renL (unf c i q) ((nelF c F L).set i (F q x)) = nelF c F (L.set i x) := by
  rw [renL_map]
  apply List.ext_getElem?
  intro j
  rw [List.getElem?_map, List.getElem?_set]
  simp only [nelF, nels_length, nels_get, List.getElem?_set]
  by_cases hij : i = j
  · subst hij
    simp [hi, NestF.ren, unf_at]
  · rw [if_neg hij, if_neg hij]
    cases L[j]? with
    | none => rfl
    | some y =>
      simp only [Option.map_some, NestF.ren]
      rw [unf_ne (by unfold sn; omega)]
theorem nelF_unfocus' {α : Type} {c i q : Nat} {F : Nat → α → PV} [NestF F] {L : List α} {x : α} {p : PV} (hq : q < 1000000) (hi : i < L.length) (hp : p = F q x) : renL (unf c i q) ((nelF c F L).set i p) = nelF c F (L.set i x) := by
  rw [hp]; exact nelF_unfocus hq hi
theorem ren_dl (ρ : Nat → Nat) (l : List PD) : renL ρ (l.map PV.d) = l.map PV.d := by
  rw [renL_map, List.map_map]; rfl
theorem NestG.ren {α : Type} {g : α → Row} [NestG g] (ρ : Nat → Nat) (x : α) : (g x).ren ρ = g x := by
  obtain ⟨_, l, h⟩ := NestG.data (g := g) x
  simp only [Row.ren, h, ren_dl]
  cases hg : g x
  rw [hg] at h; simp only at h; subst h; rfl
section
variable {G : List (Nat × PD)} {N : Nat} {σ : St}
theorem Sub.focus {α : Type} (c i q : Nat) {F : Nat → α → PV} {g : α → Row} [NestF F] [NestG g] {L : List α} {x : α} {l l' : Heap} {e' : List (Nat × PV)} (hx : L[i]? = some x) (hs : σ.heap = dynH c (subs g L) l) (hlow : lows l) (hq : hget l q = none) (hq1 : 1000 ≤ q) (hq2 : q < 1000000)
    (hl : renHeap (foc c i q) l = l') (he : renEnv (foc c i q) σ.env = e') (hd : σ.dfr = []) : Sub G N σ ⟨e', dynH c ((subs g L).set i none) ((q, g x) :: l'), σ.dfr, σ.gh⟩ := by
  subst hl he
  have hsn : ∀ j, hget σ.heap (sn c j) = (L[j]?).map g := fun j => by rw [hs, hget_dyn_sn j hlow, subs_get]
  have hlo : ∀ r, r < 1000000 → hget σ.heap r = hget l r := fun r h => by rw [hs, hget_dyn h]
  have hcase : ∀ r x', hget σ.heap r = some x' → (∃ j, r = sn c j ∧ (L[j]?).map g = some x') ∨ (r < 1000000 ∧ hget l r = some x' ∧ r ≠ q) := fun r x' h => by
    rw [hs] at h
    rcases hget_dyn_some h with ⟨j, h1, h2⟩ | h
    · rw [subs_get] at h2; exact .inl ⟨j, h1, h2⟩
    · by_cases hr : r < 1000000
      · exact .inr ⟨hr, h, fun e => by rw [e, hq] at h; cases h⟩
      · rw [lows_get hlow r (by omega)] at h; cases h
  have hlow' : lows ((q, g x) :: renHeap (foc c i q) l) := ⟨hq2, by
    have : ∀ l : Heap, lows l → lows (renHeap (foc c i q) l) := fun l => by
      induction l with
      | nil => exact fun h => h
      | cons y l ih => obtain ⟨s, y⟩ := y; exact fun h => ⟨h.1, ih h.2⟩
    exact this l hlow⟩
  have hgx : ∀ j, hget (dynH c ((subs g L).set i none) ((q, g x) :: renHeap (foc c i q) l)) (sn c j) = if i = j then none else (L[j]?).map g := fun j => by
    rw [hget_dyn_sn j hlow', subs_hole]
  have hgl : ∀ r, r < 1000000 → hget (dynH c ((subs g L).set i none) ((q, g x) :: renHeap (foc c i q) l)) r = if q = r then some (g x) else (hget l r).map (Row.ren (foc c i q)) := fun r hr => by
    rw [hget_dyn hr]; simp only [hget, hget_renHeap]
  refine Sub.ren (ρ := foc c i q) ⟨fun t => eget_renEnv _ _ t, fun r y hy => ?_, fun s y hy => ?_, fun r s y z hy hz hrs => ?_, fun r y hy hr => ?_, fun r y hy hr => ?_, by rw [hd]; rfl, rfl⟩
  · rcases hcase r y hy with ⟨j, rfl, h2⟩ | ⟨h1, h2, h3⟩
    · by_cases hij : i = j
      · subst hij
        rw [foc_at, hgl q hq2, if_pos rfl]
        rw [hx] at h2; simp only [Option.map_some, Option.some.injEq] at h2; subst h2
        rw [NestG.ren]
      · have e1 : foc c i q (sn c j) = sn c j := by unfold foc; rw [if_neg (fun e => hij (sn_inj e).symm)]
        rw [e1, hgx, if_neg hij, h2]
        cases hj : L[j]? with
        | none => rw [hj] at h2; cases h2
        | some z => rw [hj] at h2; simp only [Option.map_some, Option.some.injEq] at h2; subst h2; rw [NestG.ren]
    · rw [foc_low h1, hgl r h1, if_neg (Ne.symm h3), h2]; rfl
  · rcases hget_dyn_some hy with ⟨j, rfl, h2⟩ | h
    · rw [subs_hole] at h2
      split at h2
      · cases h2
      · rename_i hij
        exact ⟨sn c j, y, (hsn j).trans h2, by unfold foc; rw [if_neg (fun e => hij (sn_inj e).symm)]⟩
    · simp only [hget, hget_renHeap] at h
      split at h
      · rename_i e; subst e
        exact ⟨sn c i, g x, by rw [hsn, hx]; rfl, foc_at.symm⟩
      · simp only [Option.map_eq_some_iff] at h
        obtain ⟨y', h1, _⟩ := h
        have hr : s < 1000000 := Nat.lt_of_not_le fun hge => by rw [lows_get hlow s hge] at h1; cases h1
        exact ⟨s, y', (hlo s hr).trans h1, (foc_low hr).symm⟩
  · rcases hcase r y hy with ⟨j, rfl, h2⟩ | ⟨h1, h2, h3⟩ <;> rcases hcase s z hz with ⟨j', rfl, h2'⟩ | ⟨h1', h2', h3'⟩
    · unfold foc at hrs
      split at hrs <;> split at hrs
      · rename_i e e'; rw [e, e']
      · unfold sn at hrs; omega
      · unfold sn at hrs; omega
      · exact hrs
    · rw [foc_low h1'] at hrs
      unfold foc at hrs
      split at hrs
      · exact absurd hrs.symm h3'
      · unfold sn at hrs; omega
    · rw [foc_low h1] at hrs
      unfold foc at hrs
      split at hrs
      · exact absurd hrs h3
      · unfold sn at hrs; omega
    · rw [foc_low h1, foc_low h1'] at hrs; exact hrs
  · exact foc_low (by omega)
  · unfold foc
    split
    · exact hq1
    · exact hr
theorem hget_hdrop1 (q : Nat) (l : Heap) (s : Nat) : hget (hdrop [q] l) s = if s = q then none else hget l s := by
  rw [hget_hdrop]; simp
theorem Sub.unfocus {α : Type} (c i q : Nat) {F : Nat → α → PV} {g : α → Row} [NestF F] [NestG g] {L : List α} (x : α) {l l' : Heap} {e' : List (Nat × PV)} (hi : i < L.length) (hs : σ.heap = dynH c ((subs g L).set i none) l) (hlow : lows l) (hq : hget l q = some (g x)) (hq1 : 1000 ≤ q) (hq2 : q < 1000000)
    (hl : renHeap (unf c i q) (hdrop [q] l) = l') (he : renEnv (unf c i q) σ.env = e') (hd : σ.dfr = []) : Sub G N σ ⟨e', dynH c (subs g (L.set i x)) l', σ.dfr, σ.gh⟩ := by
  subst hl he
  have hsn : ∀ j, hget σ.heap (sn c j) = if i = j then none else (L[j]?).map g := fun j => by rw [hs, hget_dyn_sn j hlow, subs_hole]
  have hlo : ∀ r, r < 1000000 → hget σ.heap r = hget l r := fun r h => by rw [hs, hget_dyn h]
  have hcase : ∀ r x', hget σ.heap r = some x' → (∃ j, r = sn c j ∧ i ≠ j ∧ (L[j]?).map g = some x') ∨ (r < 1000000 ∧ hget l r = some x') := fun r x' h => by
    rw [hs] at h
    rcases hget_dyn_some h with ⟨j, h1, h2⟩ | h
    · rw [subs_hole] at h2
      split at h2
      · cases h2
      · rename_i hij; exact .inl ⟨j, h1, hij, h2⟩
    · by_cases hr : r < 1000000
      · exact .inr ⟨hr, h⟩
      · rw [lows_get hlow r (by omega)] at h; cases h
  have hget' : ∀ s, hget (renHeap (unf c i q) (hdrop [q] l)) s = if s = q then none else (hget l s).map (Row.ren (unf c i q)) := fun s => by
    rw [hget_renHeap, hget_hdrop1]; split <;> rfl
  have hlow' : lows (renHeap (unf c i q) (hdrop [q] l)) := by
    have h1 : ∀ l : Heap, lows l → lows (renHeap (unf c i q) l) := fun l => by
      induction l with
      | nil => exact fun h => h
      | cons y l ih => obtain ⟨s, y⟩ := y; exact fun h => ⟨h.1, ih h.2⟩
    have h2 : ∀ l : Heap, lows l → lows (hdrop [q] l) := fun l => by
      induction l with
      | nil => exact fun h => h
      | cons y l ih =>
        obtain ⟨s, y⟩ := y
        intro h
        simp only [hdrop]
        split
        · exact ih h.2
        · exact ⟨h.1, ih h.2⟩
    exact h1 _ (h2 l hlow)
  have hgx : ∀ j, hget (dynH c (subs g (L.set i x)) (renHeap (unf c i q) (hdrop [q] l))) (sn c j) = if i = j then some (g x) else (L[j]?).map g := fun j => by
    rw [hget_dyn_sn j hlow', subs_get, List.getElem?_set]
    split
    · rename_i e; subst e; simp [hi]
    · rfl
  refine Sub.ren (ρ := unf c i q) ⟨fun t => eget_renEnv _ _ t, fun r y hy => ?_, fun s y hy => ?_, fun r s y z hy hz hrs => ?_, fun r y hy hr => ?_, fun r y hy hr => ?_, by rw [hd]; rfl, rfl⟩
  · rcases hcase r y hy with ⟨j, rfl, hij, h2⟩ | ⟨h1, h2⟩
    · rw [unf_ne (by unfold sn; omega), hgx, if_neg hij, h2]
      cases hj : L[j]? with
      | none => rw [hj] at h2; cases h2
      | some z => rw [hj] at h2; simp only [Option.map_some, Option.some.injEq] at h2; subst h2; rw [NestG.ren]
    · by_cases hrq : r = q
      · subst hrq
        rw [unf_at, hgx, if_pos rfl]
        rw [hq] at h2; cases h2
        rw [NestG.ren]
      · rw [unf_ne hrq, hget_dyn h1, hget', if_neg hrq, h2]; rfl
  · rcases hget_dyn_some hy with ⟨j, rfl, h2⟩ | h
    · rw [subs_get, List.getElem?_set] at h2
      by_cases hij : i = j
      · subst hij
        exact ⟨q, g x, (hlo q hq2).trans hq, unf_at.symm⟩
      · rw [if_neg hij] at h2
        exact ⟨sn c j, y, by rw [hsn, if_neg hij]; exact h2, by rw [unf_ne (by unfold sn; omega)]⟩
    · rw [hget'] at h
      split at h
      · cases h
      · rename_i hsq
        simp only [Option.map_eq_some_iff] at h
        obtain ⟨y', h1, _⟩ := h
        have hr : s < 1000000 := Nat.lt_of_not_le fun hge => by rw [lows_get hlow s hge] at h1; cases h1
        exact ⟨s, y', (hlo s hr).trans h1, (unf_ne hsq).symm⟩
  · rcases hcase r y hy with ⟨j, rfl, hij, h2⟩ | ⟨h1, h2⟩ <;> rcases hcase s z hz with ⟨j', rfl, hij', h2'⟩ | ⟨h1', h2'⟩
    · rw [unf_ne (by unfold sn; omega), unf_ne (by unfold sn; omega)] at hrs; exact hrs
    · rw [unf_ne (by unfold sn; omega)] at hrs
      unfold unf at hrs
      split at hrs
      · exact absurd (sn_inj hrs).symm hij
      · exact hrs
    · rw [unf_ne (s := sn c j') (by unfold sn; omega)] at hrs
      unfold unf at hrs
      split at hrs
      · exact absurd (sn_inj hrs) hij'
      · exact hrs
    · unfold unf at hrs
      split at hrs <;> split at hrs
      · rename_i e e'; rw [e, e']
      · unfold sn at hrs; omega
      · unfold sn at hrs; omega
      · exact hrs
  · exact unf_ne (by omega)
  · unfold unf
    split
    · unfold sn; omega
    · exact hr
theorem Sub.voidEl (s j e k r : Nat) {x : Row} {p p' : PV} (hs : hget σ.heap s = some x) (hk1 : 1 ≤ x.k) (hels : x.els[j]? = some p) (hpb : isByte p = false) (hr0 : hget σ.heap r = none) (hr : 1000 ≤ r)
    (hval : ∀ (w : World) (X : Nat → Prop) (φ : Nm) (H : Heap) (v : Value), hget H r = some { e, k, els := [] } → φ r = none → RepV w X φ H v p → RepV w X φ H v p') :
    Sub G N σ { env := σ.env, heap := hput (hput σ.heap s { x with els := x.els.set j p' }) r { e, k, els := [] }, dfr := σ.dfr, gh := σ.gh } := by
  intro P B a w φ hrep
  have hsr : s ≠ r := fun h => by subst h; rw [hs] at hr0; cases hr0
  have hgetr : hget (hput (hput σ.heap s { x with els := x.els.set j p' }) r { e, k, els := [] }) r = some { e, k, els := [] } := by rw [hget_hput]; simp
  have hgets : hget (hput (hput σ.heap s { x with els := x.els.set j p' }) r { e, k, els := [] }) s = some { x with els := x.els.set j p' } := by
    rw [hget_hput, if_neg (Ne.symm hsr), hget_hput]; simp
  have hgeto : ∀ t, t ≠ r → t ≠ s → hget (hput (hput σ.heap s { x with els := x.els.set j p' }) r { e, k, els := [] }) t = hget σ.heap t := fun t h1 h2 => by
    rw [hget_hput, if_neg (Ne.symm h1), hget_hput, if_neg (Ne.symm h2)]
  obtain ⟨H2, hH2⟩ : ∃ H2, H2 = hput (hput σ.heap s { x with els := x.els.set j p' }) r { e, k, els := [] } := ⟨_, rfl⟩
  rw [← hH2] at hgetr hgets hgeto ⊢
  have hback : ∀ t y, t ≠ r → hget H2 t = some y → ∃ y', hget σ.heap t = some y' ∧ y.k = y'.k ∧ y.e = y'.e ∧ y.els.length = y'.els.length := fun t y h1 h => by
    by_cases h2 : t = s
    · subst h2; rw [hgets] at h; cases h; exact ⟨x, hs, rfl, rfl, by simp⟩
    · rw [hgeto t h1 h2] at h; exact ⟨y, h, rfl, rfl, rfl⟩
  have hrow : ∀ b, rowB (upd φ r none) H2 b → rowB φ σ.heap b := by
    rintro b ⟨t, y, h1, h2⟩
    by_cases ht : t = r
    · subst ht; simp [upd] at h2
    · simp only [upd, ht, if_false] at h2
      obtain ⟨y', h3, _⟩ := hback t y ht h1
      exact ⟨t, y', h3, h2⟩
  have hown : ∀ b, own (upd φ r none) H2 b → own φ σ.heap b := fun b h => h.imp (hrow b) id
  have hext : Ext w B.X φ σ.heap w (upd φ r none) H2 := by
    refine ⟨fun t y h => ?_, fun b h => ⟨h.1, h.2.1, fun ho => h.2.2 (hown b ho)⟩, fun b h => ⟨h.1, fun ho => h.2 (hown b ho)⟩, fun _ _ => rfl, fun t y b _ _ c e f hh => ⟨c, e, f, hh, rfl⟩⟩
    have htr : t ≠ r := fun e => by subst e; rw [hr0] at h; cases h
    by_cases ht : t = s
    · subst ht; rw [hs] at h; cases h
      exact ⟨_, hgets, rfl, fun _ => by simp, by simp [upd, htr]⟩
    · exact ⟨y, (hgeto t htr ht).trans h, rfl, fun _ => rfl, by simp [upd, htr]⟩
  have hval' : ∀ v, RepV w B.X φ σ.heap v p → RepV w B.X (upd φ r none) H2 v p' := fun v hv => hval _ _ _ _ v hgetr (by simp [upd]) (hv.ext hext)
  refine ⟨upd φ r none, Rep.of_sit ⟨⟨fun t y b ht hb => ?_, fun t y ht hb => ?_, fun t u y z b ht hu hb hb' => ?_, fun b hT => ⟨(hrep.heap.far b hT).1, (hrep.heap.far b hT).2.1, fun h => (hrep.heap.far b hT).2.2 (hrow b h)⟩⟩, hrep.keeps, fun t y b ht hb => ?_, fun t y ht hp' => ?_, fun t y b ht hp' hb => ?_, ?_, hrep.tnew, J_step (w := w) (φ := φ) (H := σ.heap) hrep.inv rfl rfl rfl rfl (Nat.le_refl _) (fun _ _ _ => rfl) (fun b hb => .inl (hrow b hb))⟩ hrep.size (fun t => (hrep.env t).ext hext) (hrep.dfr.ext hext)⟩
  · have htr : t ≠ r := fun e => by subst e; simp [upd] at hb
    simp only [upd, htr, if_false] at hb
    by_cases h : t = s
    · subst h; rw [hgets] at ht; cases ht
      refine (hrep.heap.rows t x b hs hb).turn rfl rfl (by simp) (fun _ _ h => h) (hrep.heap.rows t x b hs hb).free (fun m hm hm' v hv => ?_) fun z hz => hz.set (hz.past hels hpb) p'
      by_cases hjm : j = m
      · subst hjm
        have e1 : x.els[j] = p := (List.getElem?_eq_some_iff.1 hels).2
        rw [e1] at hv
        simpa using hval' v hv
      · have e1 : (x.els.set j p')[m] = x.els[m] := List.getElem_set_ne hjm _
        rw [e1]; exact hv.ext hext
    · rw [hgeto t htr h] at ht
      exact (hrep.heap.rows t y b ht hb).ext hext rfl
  · by_cases htr : t = r
    · subst htr; rw [hgetr] at ht; cases ht; rfl
    · simp only [upd, htr, if_false] at hb
      obtain ⟨y', h1, _, _, h4⟩ := hback t y htr ht
      have := hrep.heap.void t y' h1 hb
      rw [this] at h4
      exact List.eq_nil_of_length_eq_zero h4
  · have htr : t ≠ r := fun e => by subst e; simp [upd] at hb
    have hur : u ≠ r := fun e => by subst e; simp [upd] at hb'
    simp only [upd, htr, hur, if_false] at hb hb'
    obtain ⟨y', h1, _⟩ := hback t y htr ht
    obtain ⟨z', h2, _⟩ := hback u z hur hu
    exact hrep.heap.inj t u y' z' b h1 h2 hb hb'
  · have htr : t ≠ r := fun e => by subst e; simp [upd] at hb
    simp only [upd, htr, if_false] at hb
    obtain ⟨y', h1, _⟩ := hback t y htr ht
    exact hrep.new t y' b h1 hb
  · have hlt : t < 1000 := by simpa [pinned] using hp'
    have htr : t ≠ r := by omega
    simp only [upd, htr, if_false]
    obtain ⟨y', h1, _⟩ := hback t y htr ht
    exact hrep.pins t y' h1 hp'
  · have hlt : t < 1000 := by simpa [pinned] using hp'
    have htr : t ≠ r := by omega
    simp only [upd, htr, if_false] at hb
    obtain ⟨y', h1, _⟩ := hback t y htr ht
    exact hrep.psz t y' b h1 hp' hb
  · exact hrep.glob.ext hext (fun g x hm => by obtain ⟨_, _, _, _, _, h2, _⟩ := hrep.glob g x hm; exact fun ho => h2 (hown g ho))
theorem void_agg {w : World} {X : Nat → Prop} {φ : Nm} {H : Heap} {v : Value} {p : PV} {cs : List PV} {r e k i : Nat} (hp : isAggPV p = true) (hcs : pvCells p = some cs) (hi : cs[i]? = some (.d .nilslice)) (hk : 1 ≤ k) (hg : hget H r = some { e, k, els := [] }) (hφ : φ r = none) (hv : RepV w X φ H v p) : RepV w X φ H v (.agg (cs.set i (.slc r 0 0))) := by
  obtain ⟨vs, rfl⟩ := RepV.agg_of hp hv
  have h1 := pvCells_ok hcs hv
  have hil : i < cs.length := (List.getElem?_eq_some_iff.1 hi).1
  have h2 : RepV w X φ H (vs.getD i undef) (.slc r 0 0) := by
    have h3 := h1.rep i hil
    rw [(List.getElem?_eq_some_iff.1 hi).2] at h3
    have h4 := repD_nilslice (repV_d h3)
    simp only [Value.cells] at h4
    rw [h4]
    exact .slc0 hg hφ hk (by simp)
  have h5 := h1.set i h2 (by have := h1.flat i hil; simpa only [Value.cells] using this)
  have h6 : (Value.agg vs).cells.setIfInBounds i (vs.getD i undef) = vs := by
    apply Array.ext
    · simp [Value.cells]
    · intro j h1 h2
      by_cases hji : i = j
      · subst hji; simp [Value.cells, Array.getD, h2]
      · exact Array.getElem_setIfInBounds_ne h2 hji
  rw [h6] at h5
  exact .agg h5.size h5.rep h5.flat
theorem void_slc {w : World} {X : Nat → Prop} {φ : Nm} {H : Heap} {v : Value} {r e k : Nat} (hk : 1 ≤ k) (hg : hget H r = some { e, k, els := [] }) (hφ : φ r = none) (hv : RepV w X φ H v (.d .nilslice)) : RepV w X φ H v (.slc r 0 0) := by
  have h4 := repD_nilslice (repV_d hv)
  rw [h4]
  exact .slc0 hg hφ hk (by simp)
theorem Sub.push {α : Type} (c R e k : Nat) {F : Nat → α → PV} {g : α → Row} {L : List α} (x : α) {l l' : Heap} {e1 k1 : Nat} {p : PV} (hs : σ.heap = dynH c (subs g L) l) (hlow : lows l) (hR : hget l R = some ⟨e1, k1, nelF c F L ++ [p]⟩) (hk1 : 1 ≤ k1) (hpb : isByte p = false)
    (hg : g x = ⟨e, k, []⟩) (hval : ∀ (w : World) (X : Nat → Prop) (φ : Nm) (H : Heap) (v : Value), hget H (sn c L.length) = some { e, k, els := [] } → φ (sn c L.length) = none → RepV w X φ H v p → RepV w X φ H v (F (sn c L.length) x))
    (hl : hput l R ⟨e1, k1, nelF c F (L ++ [x])⟩ = l') : Sub G N σ ⟨σ.env, dynH c (subs g (L ++ [x])) l', σ.dfr, σ.gh⟩ := by
  subst hl
  have hRl : R < 1000000 := Nat.lt_of_not_le fun h => by rw [lows_get hlow R h] at hR; cases hR
  have hR' : hget σ.heap R = some ⟨e1, k1, nelF c F L ++ [p]⟩ := by rw [hs, hget_dyn hRl]; exact hR
  have hn : hget σ.heap (sn c L.length) = none := by rw [hs, hget_dyn_sn _ hlow, subs_get]; simp
  refine (Sub.voidEl R L.length e k (sn c L.length) hR' hk1 (p := p) (by simp [List.getElem?_append, nelF_length]) hpb hn (by unfold sn; omega) hval).trans ?_
  intro P B a w φ hr
  refine ⟨φ, hr.same ?_ rfl⟩
  funext key
  cases key with
  | t t => rfl
  | h s =>
    simp only [St.look, Cont.r.injEq]
    have e0 : (nelF c F L ++ [p]).set L.length (F (sn c L.length) x) = nelF c F (L ++ [x]) := by
      have h1 : (nelF c F L ++ [p]).set L.length (F (sn c L.length) x) = nelF c F L ++ [F (sn c L.length) x] := by
        rw [List.set_append]; simp [nelF_length]
      rw [h1]; exact nels_push _ L x
    have hlow' : lows (hput l R ⟨e1, k1, nelF c F (L ++ [x])⟩) := by
      have : ∀ l : Heap, lows l → lows (hput l R ⟨e1, k1, nelF c F (L ++ [x])⟩) := fun l => by
        induction l with
        | nil => exact fun _ => ⟨hRl, trivial⟩
        | cons y l ih =>
          obtain ⟨s, y⟩ := y
          intro h
          simp only [hput]
          split
          · exact ⟨h.1, h.2⟩
          · exact ⟨h.1, ih h.2⟩
      exact this l hlow
    rw [hget_hput, hget_hput, e0]
    by_cases h1 : sn c L.length = s
    · subst h1
      rw [if_pos rfl, hget_dyn_sn _ hlow', subs_get]
      simp [hg]
    · rw [if_neg h1]
      by_cases h2 : R = s
      · subst h2
        rw [if_pos rfl, hget_dyn hRl, hget_hput, if_pos rfl]
      · rw [if_neg h2, hs]
        by_cases hlt : s < 1000000
        · rw [hget_dyn hlt, hget_dyn hlt, hget_hput, if_neg h2]
        · have hl1 := lows_get hlow s (by omega)
          have hl2 := lows_get hlow' s (by omega)
          have hd : ∀ (M : List (Option Row)) (l : Heap), hget l s = none → hget (dynH c M l) s = hget (dynGo c 0 M) s := fun M l hl => by
            simp only [dynH, hget_append, hl]; cases hget (dynGo c 0 M) s <;> rfl
          rw [hd _ _ hl1, hd _ _ hl2]
          by_cases hex : ∃ j, s = sn c j
          · obtain ⟨j, rfl⟩ := hex
            have hj : j ≠ L.length := fun e => h1 (by rw [e])
            simp only [hget_dynGo, Nat.zero_le, if_true, Nat.sub_zero, subs_get]
            rw [List.getElem?_append]
            by_cases hjl : j < L.length
            · rw [if_pos hjl]
            · rw [if_neg hjl, List.getElem?_eq_none (by omega), List.getElem?_eq_none (by simp; omega)]
          · have hno : ∀ (M : List (Option Row)), hget (dynGo c 0 M) s = none := fun M => by
              cases hh : hget (dynGo c 0 M) s with
              | none => rfl
              | some y => obtain ⟨j, h3, _⟩ := hget_dynGo_name M 0 hh; exact absurd ⟨j, h3⟩ hex
            rw [hno, hno]
end
class NestP {α : Type} (F : Nat → α → PV) (g : α → Row) (pd : α → PD) : Prop where
  frz : ∀ H r x, hget H r = some (g x) → frz H (F r x) = some (pd x)
def lowEnv : List (Nat × PV) → Prop
  | [] => True
  | (_, v) :: l => ((rowsOf v).all fun r => decide (r < 1000000)) = true ∧ lowEnv l
theorem lowEnv_get : ∀ {l : List (Nat × PV)}, lowEnv l → ∀ t, ∀ r ∈ rowsOf (eget l t), r < 1000000
  | [], _, t, r, h => by simp [eget, rowsOf] at h
  | (s, v) :: l, h, t, r, hr => by
    simp only [eget] at hr
    split at hr
    · have := List.all_eq_true.1 h.1 r hr
      simpa using this
    · exact lowEnv_get h.2 t r hr
def lowRows (R : Nat) : Heap → Prop
  | [] => True
  | (s, x) :: l => (s = R ∨ ((rowsOfL x.els).all fun r => decide (r < 1000000)) = true) ∧ lowRows R l
theorem lowRows_get {R : Nat} : ∀ {l : Heap}, lowRows R l → ∀ s y, hget l s = some y → s ≠ R → ∀ r ∈ rowsOfL y.els, r < 1000000
  | [], _, s, y, h, _, _, _ => by simp [hget] at h
  | (t, x) :: l, h, s, y, hs, hne, r, hr => by
    simp only [hget] at hs
    split at hs
    · rename_i e; subst e; cases hs
      rcases h.1 with h1 | h1
      · exact absurd h1 hne
      · simpa using List.all_eq_true.1 h1 r hr
    · exact lowRows_get h.2 s y hs hne r hr
section
variable {G : List (Nat × PD)} {N : Nat} {σ : St}
theorem Sub.unnest {α : Type} (c R : Nat) {F : Nat → α → PV} {g : α → Row} (pd : α → PD) [NestF F] [NestG g] [NestP F g pd] {L : List α} {l l' : Heap} {e k : Nat} (hs : σ.heap = dynH c (subs g L) l) (hlow : lows l) (hR : hget l R = some ⟨e, k, nelF c F L⟩)
    (henv : lowEnv σ.env) (hrows : lowRows R l) (hd : σ.dfr = []) (hgh : σ.gh = none) (hl : hput l R ⟨e, k, dl (lenc pd L)⟩ = l') : Sub G N σ ⟨σ.env, l', σ.dfr, σ.gh⟩ := by
  subst hl
  intro P B a w φ hr
  have hRl : R < 1000000 := Nat.lt_of_not_le fun h => by rw [lows_get hlow R h] at hR; cases hR
  have hsn : ∀ j, hget σ.heap (sn c j) = (L[j]?).map g := fun j => by rw [hs, hget_dyn_sn j hlow, subs_get]
  have hlo : ∀ r, r < 1000000 → hget σ.heap r = hget l r := fun r h => by rw [hs, hget_dyn h]
  have hsmall : ∀ s y, hget l s = some y → s < 1000000 := fun s y h => Nat.lt_of_not_le fun h2 => by rw [lows_get hlow s h2] at h; cases h
  have hback : ∀ s y, hget (hput l R ⟨e, k, dl (lenc pd L)⟩) s = some y → ∃ y', hget σ.heap s = some y' ∧ y.k = y'.k ∧ y.e = y'.e ∧ y.els.length = y'.els.length ∧ s < 1000000 := fun s y h => by
    rw [hget_hput] at h
    split at h
    · rename_i e1; subst e1; cases h
      exact ⟨_, (hlo R hRl).trans hR, rfl, rfl, by simp [dl, lenc, nelF_length], hRl⟩
    · exact ⟨y, (hlo s (hsmall s y h)).trans h, rfl, rfl, rfl, hsmall s y h⟩
  have hrow : ∀ b, rowB φ (hput l R ⟨e, k, dl (lenc pd L)⟩) b → rowB φ σ.heap b := by
    rintro b ⟨s, y, h1, h2⟩
    obtain ⟨y', h3, _⟩ := hback s y h1
    exact ⟨s, y', h3, h2⟩
  have hown : ∀ b, own φ (hput l R ⟨e, k, dl (lenc pd L)⟩) b → own φ σ.heap b := fun b h => h.imp (hrow b) id
  have hok : ∀ b, okd w B.X φ σ.heap b → okd w B.X φ (hput l R ⟨e, k, dl (lenc pd L)⟩) b := fun b h => ⟨h.1, h.2.1, fun ho => h.2.2 (hown b ho)⟩
  have hext : ExtU ((List.range L.length).map (sn c)) w B.X φ σ.heap w φ (hput l R ⟨e, k, dl (lenc pd L)⟩) := by
    refine ⟨fun s x hns h => ?_, hok, fun b h => ⟨h.1, fun ho => h.2 (hown b ho)⟩, fun _ _ => rfl, fun s x b _ h1 h2 c' e' f' hh => ⟨c', e', f', hh, rfl⟩⟩
    have h0 := h
    rw [hs] at h
    rcases hget_dyn_some h with ⟨j, rfl, h2⟩ | h
    · rw [subs_get] at h2
      have hj : j < L.length := by
        cases hj : L[j]? with
        | none => rw [hj] at h2; cases h2
        | some z => exact (List.getElem?_eq_some_iff.1 hj).1
      exact absurd (List.mem_map.2 ⟨j, by simpa using hj, rfl⟩) hns
    · by_cases hsR : R = s
      · subst hsR; rw [hR] at h; cases h
        exact ⟨⟨e, k, dl (lenc pd L)⟩, by rw [hget_hput, if_pos rfl], rfl, fun _ => by simp [dl, lenc, nelF_length], rfl⟩
      · exact ⟨x, by rw [hget_hput, if_neg hsR]; exact h, rfl, fun _ => rfl, rfl⟩
  have hlowval : ∀ {v p}, RepV w B.X φ σ.heap v p → (∀ r ∈ rowsOf p, r < 1000000) → RepV w B.X φ (hput l R ⟨e, k, dl (lenc pd L)⟩) v p := fun {v p} hv hp => hv.extU hext fun r hr hm => by
    obtain ⟨j, _, rfl⟩ := List.mem_map.1 hm
    have := hp _ hr
    unfold sn at this; omega
  have hsub : ∀ j x b, hget σ.heap (sn c j) = some x → φ (sn c j) = some b → okd w B.X φ (hput l R ⟨e, k, dl (lenc pd L)⟩) b := fun j x b hx hb => ⟨hr.heap.lt hx hb, (hr.heap.rows _ x b hx hb).free, fun ho => by
    rcases ho with ⟨s, y, hy, hs'⟩ | hT
    · obtain ⟨y', h3, _, _, _, h4⟩ := hback s y hy
      have e1 := hr.heap.inj s (sn c j) y' x b h3 hx hs' hb
      subst e1; unfold sn at h4; omega
    · exact (hr.heap.far b hT).2.2 ⟨_, x, hx, hb⟩⟩
  refine ⟨φ, Rep.of_sit ⟨⟨fun s y b hy hb => ?_, fun s y hy hb => ?_, fun s t y z b hy hz hb hb' => ?_, fun b hT => ⟨(hr.heap.far b hT).1, (hr.heap.far b hT).2.1, fun ho => (hr.heap.far b hT).2.2 (hrow b ho)⟩⟩, hr.keeps, fun s y b hy hb => ?_, fun s y hy hp => ?_, fun s y b hy hp hb => ?_, ?_, hr.tnew, ?_⟩ hr.size (fun t => hlowval (hr.env t) (lowEnv_get henv t)) ?_⟩
  · rw [hget_hput] at hy
    by_cases hsR : R = s
    · subst hsR
      rw [if_pos rfl] at hy; cases hy
      refine (hr.heap.rows R _ b ((hlo R hRl).trans hR) hb).turn rfl rfl (by simp [dl, lenc, nelF_length]) (fun _ _ h => h) (hr.heap.rows R _ b ((hlo R hRl).trans hR) hb).free (fun i hi hi' v hv => ?_) fun z hz => ?_
      · have hi2 : i < L.length := by simpa [nelF_length] using hi
        have e1 : (nelF c F L)[i] = F (sn c i) L[i] := by
          have := nelF_get c F L i
          rw [List.getElem?_eq_getElem hi, List.getElem?_eq_getElem hi2] at this
          simpa using this
        have e2 : (dl (lenc pd L))[i] = .d (pd L[i]) := by simp [dl, lenc]
        rw [e1] at hv
        rw [e2]
        have hgi : hget σ.heap (sn c i) = some (g L[i]) := by rw [hsn, List.getElem?_eq_getElem hi2]; rfl
        refine .d (frz_in hr.heap hok hv (fun r hr' x b hx hb => ?_) (NestP.frz σ.heap (sn c i) L[i] hgi))
        have := NestF.rows _ _ _ hr'
        subst this
        exact hsub i x b hx hb
      · have := hz.zero_of fun p hp => by
          obtain ⟨i, hi, rfl⟩ := List.getElem_of_mem hp
          have hi2 : i < L.length := by simpa [nelF_length] using hi
          have := nelF_get c F L i
          rw [List.getElem?_eq_getElem hi, List.getElem?_eq_getElem hi2] at this
          simp only [Option.map_some, Option.some.injEq] at this
          rw [this]; exact NestF.byte _ _
        subst this; exact .zero _
    · rw [if_neg hsR] at hy
      have hy' := (hlo s (hsmall s y hy)).trans hy
      refine (hr.heap.rows s y b hy' hb).turn rfl rfl rfl (fun _ _ h => h) (hr.heap.rows s y b hy' hb).free (fun i hi _ v hv => hlowval hv fun r hr' => lowRows_get hrows s y hy (Ne.symm hsR) r (rowsOfL_mem hi hr')) fun _ h => h
  · obtain ⟨y', h1, _, _, h4, _⟩ := hback s y hy
    have := hr.heap.void s y' h1 hb
    rw [this] at h4
    exact List.eq_nil_of_length_eq_zero h4
  · obtain ⟨y', h1, _⟩ := hback s y hy
    obtain ⟨z', h2, _⟩ := hback t z hz
    exact hr.heap.inj s t y' z' b h1 h2 hb hb'
  · obtain ⟨y', h1, _⟩ := hback s y hy
    exact hr.new s y' b h1 hb
  · obtain ⟨y', h1, _⟩ := hback s y hy
    exact hr.pins s y' h1 hp
  · obtain ⟨y', h1, _⟩ := hback s y hy
    exact hr.psz s y' b h1 hp hb
  · intro n y hm
    obtain ⟨c', e', f', v, h1, h2, h3, h4, h5, h6⟩ := hr.glob n y hm
    exact ⟨c', e', f', v, h1, fun ho => h2 (hown n ho), h3.mono hok (fun _ _ => rfl), h4, h5, h6⟩
  · rw [hgh]
    have := hr.inv
    rw [hgh] at this
    exact this
  · have := hr.dfr
    rw [hd] at this ⊢
    refine this.map (f := id) (fun D hD => ⟨hok D hD, rfl⟩) (fun p hp => by simp at hp)
end
theorem renOf_high {gl : List (Nat × Nat)} (h : (gl.all fun p => decide (p.1 < 1000000)) = true) {s : Nat} (hs : 1000000 ≤ s) : renOf gl s = s := by
  induction gl with
  | nil => rfl
  | cons p l ih =>
    obtain ⟨a, b⟩ := p
    simp only [List.all_cons, Bool.and_eq_true, decide_eq_true_eq] at h
    simp only [renOf]
    rw [if_neg (by omega)]
    exact ih h.2
theorem renOf_low {gl : List (Nat × Nat)} (h : (gl.all fun p => decide (p.2 < 1000000)) = true) {s : Nat} (hs : s < 1000000) : renOf gl s < 1000000 := by
  induction gl with
  | nil => exact hs
  | cons p l ih =>
    obtain ⟨a, b⟩ := p
    simp only [List.all_cons, Bool.and_eq_true, decide_eq_true_eq] at h
    simp only [renOf]
    split
    · exact h.1
    · exact ih h.2
theorem nelF_renOf {α : Type} {c : Nat} {F : Nat → α → PV} [NestF F] {L : List α} {gl : List (Nat × Nat)} (h : (gl.all fun p => decide (p.1 < 1000000)) = true) : renL (renOf gl) (nelF c F L) = nelF c F L := by
  rw [renL_map]
  apply List.ext_getElem?
  intro i
  rw [List.getElem?_map, nelF_get]
  cases L[i]? with
  | none => rfl
  | some x => simp only [Option.map_some, NestF.ren]; rw [renOf_high h (by unfold sn; omega)]
theorem nelF_clean {α : Type} {c : Nat} {F : Nat → α → PV} [NestF F] {L : List α} : cleanL (nelF c F L) := by
  have : ∀ l : List PV, (∀ (i : Nat) (p : PV), l[i]? = some p → clean p) → cleanL l := fun l => by
    induction l with
    | nil => exact fun _ => trivial
    | cons p l ih => exact fun h => ⟨h 0 p rfl, ih fun i q hq => h (i + 1) q (by simpa using hq)⟩
  refine this _ fun i p hp => ?_
  rw [nelF_get, Option.map_eq_some_iff] at hp
  obtain ⟨x, _, rfl⟩ := hp
  exact NestF.clean _ _
def lowOut (g : Nat → Nat) (H : Heap) : Heap → Prop
  | [] => True
  | (s, x) :: l => ((H.any fun y => g y.1 == s) = true ∨ ((rowsOfL x.els).all fun r => decide (r < 1000000)) = true) ∧ lowOut g H l
theorem lowOut_get {g : Nat → Nat} {H : Heap} : ∀ {l : Heap}, lowOut g H l → ∀ t y, hget l t = some y → (∀ r x, hget H r = some x → g r ≠ t) → ∀ s ∈ rowsOfL y.els, s < 1000000
  | [], _, t, y, h, _, _, _ => by simp [hget] at h
  | (s, x) :: l, h, t, y, hy, hn, r, hr => by
    simp only [hget] at hy
    split at hy
    · rename_i e; subst e; cases hy
      rcases h.1 with h1 | h1
      · obtain ⟨r', x', h2, h3⟩ := hget_of_any h1
        exact absurd h3 (hn r' x' h2)
      · simpa using List.all_eq_true.1 h1 r hr
    · exact lowOut_get h.2 t y hy hn r hr
section
variable {P : Program} {G : List (Nat × PD)} {ro : Option Nat} {N : Nat} {ops : Array Oper} {σ σ' : St} {o : Oper} {rest : List Oper}
theorem OpT.relook {K : St → Prop} (h : OpT P G ro N o σ (fun τ => τ.look = σ'.look ∧ τ.rest = σ'.rest)) (hK : K σ') : OpT P G ro N o σ K :=
  fun B hro a w φ hr next Q hn => h B hro a w φ hr next Q fun τ a' w' φ' h1 h2 => hn σ' a' w' φ' hK (h2.same h1.1 h1.2)
theorem OpT.callD {α : Type} {nc : Nat} {g : α → Row} [NestG g] {L L' : List α} {c : Call} {f : FuncId} {xo : Operand} {caps args : List PV} {res : PV} {lH lH' lc : Heap} {K : St → Prop} (gl : List (Nat × Nat)) (gs : List Nat)
    (hf : ObjFn P G f args (dynH nc (subs g L) lH) res (dynH nc (subs g L') lH')) (hs : σ.heap = dynH nc (subs g L) lc) (hlH : lows lH) (hlH' : lows lH') (hlc : lows lc)
    (hg1 : (gl.all fun p => decide (p.1 < 1000000)) = true) (hg2 : (gl.all fun p => decide (p.2 < 1000000)) = true)
    (hd : dstOk N o.dst) (ho : o.op = .call c) (hc : c.callee = .value xo) (hx : calleeV (σ.eval xo) = some (f, caps)) (hcal : callable P f = true)
    (hrow : handLU lc (renOf gl) (dynH nc (subs g L) lH) lH) (hinj : injL (renOf gl) lH) (hgs : givL (renOf gl) gs lH) (him : imgL (renOf gl) lH gs) (hgl : (gs.all fun p => decide (p < 1000000)) = true)
    (henv : freeEnv gs σ.env) (henv2 : lowEnv σ.env) (hdfr : σ.dfr = []) (hout : freeHeap (renOf gl) lH gs lc) (hout2 : lowOut (renOf gl) lH lc)
    (ha : handsOk σ.heap (dynH nc (subs g L) lH) (renOf gl) (evalL σ c.args.toList ++ caps) args)
    (hback : backLU lH (renOf gl) gs (dynH nc (subs g L') lH') lH') (hall : allIn lH' lH) (hinj2 : injL (renOf gl) lH') (hcl : clean res) (hrf : refsIn (dynH nc (subs g L') lH') res)
    (hK : K (({ σ with heap := dynH nc (subs g L') (hmerge (renOf gl) lH' (hdrop gs lc)) } : St).put o.dst (res.ren (renOf gl)))) : OpT P G ro N o σ K := by
  have hsn : ∀ (M : List α) (l : Heap), lows l → ∀ j, hget (dynH nc (subs g M) l) (sn nc j) = (M[j]?).map g := fun M l hl j => by rw [hget_dyn_sn j hl, subs_get]
  have hcase : ∀ (M : List α) (l : Heap), lows l → ∀ r x, hget (dynH nc (subs g M) l) r = some x → (∃ j, r = sn nc j ∧ (M[j]?).map g = some x) ∨ (r < 1000000 ∧ hget l r = some x) := fun M l hl r x h => by
    rcases hget_dyn_some h with ⟨j, h1, h2⟩ | h
    · rw [subs_get] at h2; exact .inl ⟨j, h1, h2⟩
    · by_cases hr : r < 1000000
      · exact .inr ⟨hr, h⟩
      · rw [lows_get hl r (by omega)] at h; cases h
  have hbig : ∀ j, 1000000 ≤ sn nc j := fun j => by unfold sn; omega
  have hlow : ∀ r, r < 1000000 → renOf gl r < 1000000 := fun r h => renOf_low hg2 h
  have hhigh : ∀ j, renOf gl (sn nc j) = sn nc j := fun j => renOf_high hg1 (hbig j)
  have hlen : ∀ (M : List α) j x, (M[j]?).map g = some x → j < M.length ∧ ∃ z, M[j]? = some z ∧ x = g z := fun M j x h => by
    cases hj : M[j]? with
    | none => rw [hj] at h; cases h
    | some z => rw [hj] at h; simp only [Option.map_some, Option.some.injEq] at h; exact ⟨(List.getElem?_eq_some_iff.1 hj).1, z, rfl, h.symm⟩
  have hgsl : ∀ s ∈ gs, s < 1000000 := fun s h => by simpa using List.all_eq_true.1 hgl s h
  have hmem : ∀ s, s ∈ gs ++ (List.range L.length).map (sn nc) ↔ s ∈ gs ∨ ∃ j, j < L.length ∧ s = sn nc j := fun s => by
    simp only [List.mem_append, List.mem_map, List.mem_range]
    exact or_congr Iff.rfl ⟨fun ⟨j, h1, h2⟩ => ⟨j, h1, h2.symm⟩, fun ⟨j, h1, h2⟩ => ⟨j, h1, h2.symm⟩⟩
  have hrefs : ∀ (H0 : Heap) (x : α), refsInL H0 (g x).els := fun H0 x => by
    obtain ⟨_, l, h⟩ := NestG.data (g := g) x
    rw [h, refsInL_d]; trivial
  have hclean : ∀ (x : α), cleanL (g x).els := fun x => by
    obtain ⟨_, l, h⟩ := NestG.data (g := g) x
    rw [h]
    induction l with
    | nil => trivial
    | cons p l ih => exact ⟨trivial, (by have : ∀ l : List PD, cleanL (l.map PV.d) := fun l => by
                                          induction l with
                                          | nil => trivial
                                          | cons q l ih => exact ⟨trivial, ih⟩
                                         exact this l)⟩
  have hinj0 : ∀ (M : List α) (l : Heap), lows l → injL (renOf gl) l → ∀ r s x y, hget (dynH nc (subs g M) l) r = some x → hget (dynH nc (subs g M) l) s = some y → renOf gl r = renOf gl s → r = s := fun M l hl hi r s x y h h' he => by
    rcases hcase M l hl r x h with ⟨j, rfl, _⟩ | ⟨h1, h2⟩ <;> rcases hcase M l hl s y h' with ⟨j', rfl, _⟩ | ⟨h1', h2'⟩
    · rw [hhigh, hhigh] at he; exact he
    · rw [hhigh] at he; have := hlow s h1'; have := hbig j; omega
    · rw [hhigh] at he; have := hlow r h1; have := hbig j'; omega
    · exact injL_get hi r s x y (hget_mem h2) (hget_mem h2') he
  have hnone : ∀ j, L.length ≤ j → hget σ.heap (sn nc j) = none := fun j h => by rw [hs, hsn L lc hlc, List.getElem?_eq_none h]; rfl
  refine OpT.relook (σ' := ({ σ with heap := dynH nc (subs g L') (hmerge (renOf gl) lH' (hdrop gs lc)) } : St).put o.dst (res.ren (renOf gl))) ?_ hK
  refine OpT.callU (H := dynH nc (subs g L) lH) (g := renOf gl) (gs := gs ++ (List.range L.length).map (sn nc)) ho hc hx hcal hf
    ⟨⟨fun r x h => ?_, hinj0 L lH hlH hinj, fun r x h => ?_⟩, fun r x h hr => ?_, fun r x h hr => ?_, fun s h => ?_, fun s h => ?_, fun s h t => ?_, fun s _ => by rw [hdfr]; simp [rowsOfL], fun s h t y hy hn => ?_⟩ ha hd ?_
  · rcases hcase L lH hlH r x h with ⟨j, rfl, h2⟩ | ⟨h1, h2⟩
    · obtain ⟨_, z, _, rfl⟩ := hlen L j x h2
      rw [hhigh, hs, hsn L lc hlc, h2, NestG.ren]
    · rw [hs, hget_dyn (hlow r h1)]; exact (handLU_get hrow r x h2).1
  · rcases hcase L lH hlH r x h with ⟨j, rfl, h2⟩ | ⟨h1, h2⟩
    · obtain ⟨_, z, _, rfl⟩ := hlen L j x h2; exact hrefs _ z
    · exact (handLU_get hrow r x h2).2
  · rw [hmem]
    rcases hcase L lH hlH r x h with ⟨j, rfl, h2⟩ | ⟨h1, h2⟩
    · exact .inr ⟨j, (hlen L j x h2).1, hhigh j⟩
    · have := givL_get hgs r x h2
      rw [if_neg (by omega)] at this; exact .inl this
  · rw [hmem]
    rintro (h3 | ⟨j, _, h3⟩)
    · rcases hcase L lH hlH r x h with ⟨j, rfl, h2⟩ | ⟨h1, h2⟩
      · have := hbig j; omega
      · have := givL_get hgs r x h2
        rw [if_pos hr] at this; exact this h3
    · have := hlow r (by omega); have := hbig j; omega
  · rcases (hmem s).1 h with h | ⟨j, h1, rfl⟩
    · obtain ⟨⟨r, x, h2, h3⟩, _⟩ := imgL_get him s h
      have hr : r < 1000000 := Nat.lt_of_not_le fun h4 => by rw [lows_get hlH r h4] at h2; cases h2
      exact ⟨r, x, by rw [hget_dyn hr]; exact h2, h3⟩
    · exact ⟨sn nc j, g L[j], by rw [hsn L lH hlH, List.getElem?_eq_getElem h1]; rfl, hhigh j⟩
  · rcases (hmem s).1 h with h | ⟨j, h1, rfl⟩
    · exact (imgL_get him s h).2
    · have := hbig j; omega
  · rcases (hmem s).1 h with h | ⟨j, h1, rfl⟩
    · exact freeEnv_get henv s h t
    · intro hm; have := lowEnv_get henv2 t _ hm; have := hbig j; omega
  · have hy0 := hy
    rw [hs] at hy
    have hty : hget lc t = some y := by
      rcases hcase L lc hlc t y hy with ⟨j, rfl, h2⟩ | ⟨h1, h2⟩
      · exact absurd (hhigh j) (hn (sn nc j) y (by rw [hsn L lH hlH]; exact h2))
      · exact h2
    have hn' : ∀ r x, hget lH r = some x → renOf gl r ≠ t := fun r x hx => hn r x (by
      have hr : r < 1000000 := Nat.lt_of_not_le fun h4 => by rw [lows_get hlH r h4] at hx; cases hx
      rw [hget_dyn hr]; exact hx)
    rcases (hmem s).1 h with h | ⟨j, h1, rfl⟩
    · exact freeHeap_get hout s h t y hty hn'
    · intro hm; have := lowOut_get hout2 t y hty hn' _ hm; have := hbig j; omega
  · rintro p H' ⟨rfl, rfl⟩
    have hb : BackU σ (dynH nc (subs g L) lH) (dynH nc (subs g L') lH') (renOf gl) (renOf gl) (gs ++ (List.range L.length).map (sn nc)) := by
      refine ⟨fun r x' h hr => ?_, fun r x h hr => ?_, fun r x' h hr => ?_, hinj0 L' lH' hlH' hinj2, fun r x h => ?_⟩
      · rcases hcase L' lH' hlH' r x' h with ⟨j, rfl, h2⟩ | ⟨h1, h2⟩
        · have := hbig j; omega
        · have := (backLU_get hback r x' h2).1
          rw [if_pos hr] at this
          split at this
          · rename_i y hy; exact ⟨y, by rw [hget_dyn (by omega)]; exact hy, rfl, this.1, fun hk => this.2.resolve_left (by have := this.1; omega)⟩
          · exact this.elim
      · rcases hcase L lH hlH r x h with ⟨j, rfl, h2⟩ | ⟨h1, h2⟩
        · have := hbig j; omega
        · obtain ⟨x', hx'⟩ := Option.isSome_iff_exists.1 (allIn_get hall r x (hget_mem h2))
          exact ⟨x', by rw [hget_dyn h1]; exact hx'⟩
      · rw [hmem]
        rcases hcase L' lH' hlH' r x' h with ⟨j, rfl, h2⟩ | ⟨h1, h2⟩
        · rw [hhigh]
          refine ⟨?_, by have := hbig j; omega⟩
          by_cases hj : j < L.length
          · exact .inr (.inr ⟨j, hj, rfl⟩)
          · exact .inl (hnone j (by omega))
        · have := (backLU_get hback r x' h2).1
          rw [if_neg (by omega)] at this
          exact ⟨.inr (.inl (by simpa using this.1)), this.2⟩
      · rcases hcase L' lH' hlH' r x h with ⟨j, rfl, h2⟩ | ⟨h1, h2⟩
        · obtain ⟨_, z, _, rfl⟩ := hlen L' j x h2; exact ⟨hrefs _ z, hclean z⟩
        · exact (backLU_get hback r x h2).2
    refine ⟨renOf gl, hb, hcl, hrf, ?_⟩
    have hm := hb.merged
    have hmin : ∀ r x, hget lH' r = some x → hget (hmerge (renOf gl) lH' (hdrop gs lc)) (renOf gl r) = some (x.ren (renOf gl)) := (hmerge_ok (ρ := renOf gl) (l := lH') (H0 := hdrop gs lc) (fun r s hr hs he => by
      obtain ⟨x, hx⟩ := Option.isSome_iff_exists.1 hr
      obtain ⟨y, hy⟩ := Option.isSome_iff_exists.1 hs
      exact injL_get hinj2 r s x y (hget_mem hx) (hget_mem hy) he)).1
    have hmout : ∀ s, (∀ r x, hget lH' r = some x → renOf gl r ≠ s) → hget (hmerge (renOf gl) lH' (hdrop gs lc)) s = if s ∈ gs then none else hget lc s := fun s h => ((hmerge_ok (ρ := renOf gl) (l := lH') (H0 := hdrop gs lc) (fun r s hr hs he => by
      obtain ⟨x, hx⟩ := Option.isSome_iff_exists.1 hr
      obtain ⟨y, hy⟩ := Option.isSome_iff_exists.1 hs
      exact injL_get hinj2 r s x y (hget_mem hx) (hget_mem hy) he)).2 s h).trans (hget_hdrop _ _ _)
    have hlm : ∀ s, 1000000 ≤ s → hget (hmerge (renOf gl) lH' (hdrop gs lc)) s = none := fun s h => by
      rw [hmout s fun r x hx e => by
        have hr : r < 1000000 := Nat.lt_of_not_le fun h4 => by rw [lows_get hlH' r h4] at hx; cases hx
        have := hlow r hr; omega]
      split
      · rfl
      · exact lows_get hlc s h
    have hheap : ∀ s, hget (hmerge (renOf gl) (dynH nc (subs g L') lH') (hdrop (gs ++ (List.range L.length).map (sn nc)) σ.heap)) s = hget (dynH nc (subs g L') (hmerge (renOf gl) lH' (hdrop gs lc))) s := fun s => by
      by_cases hex : ∃ r x, hget (dynH nc (subs g L') lH') r = some x ∧ renOf gl r = s
      · obtain ⟨r, x, h1, rfl⟩ := hex
        rw [hm.inn r x h1]
        rcases hcase L' lH' hlH' r x h1 with ⟨j, rfl, h2⟩ | ⟨h3, h2⟩
        · obtain ⟨_, z, _, rfl⟩ := hlen L' j x h2
          rw [hhigh, NestG.ren]
          have : hget (dynH nc (subs g L') (hmerge (renOf gl) lH' (hdrop gs lc))) (sn nc j) = (((subs g L')[j]?).join) := by
            simp only [dynH, hget_append, hget_dynGo, Nat.zero_le, if_true, Nat.sub_zero, hlm _ (hbig j)]
            cases ((subs g L')[j]?).join <;> rfl
          rw [this, subs_get, h2]
        · rw [hget_dyn (hlow r h3), hmin r x h2]
      · have hn : ∀ r x, hget (dynH nc (subs g L') lH') r = some x → renOf gl r ≠ s := fun r x h1 h2 => hex ⟨r, x, h1, h2⟩
        rw [hm.out s hn, hs]
        by_cases hsl : s < 1000000
        · rw [hget_dyn hsl, hget_dyn hsl]
          have hn' : ∀ r x, hget lH' r = some x → renOf gl r ≠ s := fun r x hx => hn r x (by
            have hr : r < 1000000 := Nat.lt_of_not_le fun h4 => by rw [lows_get hlH' r h4] at hx; cases hx
            rw [hget_dyn hr]; exact hx)
          rw [hmout s hn']
          by_cases h1 : s ∈ gs
          · rw [if_pos ((hmem s).2 (.inl h1)), if_pos h1]
          · rw [if_neg h1, if_neg]
            intro h2
            rcases (hmem s).1 h2 with h2 | ⟨j, _, rfl⟩
            · exact h1 h2
            · have := hbig j; omega
        · have hd2 : ∀ (M : List (Option Row)) (l : Heap), hget l s = none → hget (dynH nc M l) s = hget (dynGo nc 0 M) s := fun M l hl => by
            simp only [dynH, hget_append, hl]; cases hget (dynGo nc 0 M) s <;> rfl
          rw [hd2 _ _ (hlm s (by omega))]
          have h0 : hget (dynGo nc 0 (subs g L')) s = none := by
            cases hh : hget (dynGo nc 0 (subs g L')) s with
            | none => rfl
            | some y =>
              obtain ⟨j, rfl, h3, _⟩ := hget_dynGo_name _ 0 hh
              rw [Nat.sub_zero, subs_get] at h3
              exact absurd (hhigh j) (hn (sn nc j) y (by rw [hsn L' lH' hlH']; exact h3))
          rw [h0]
          split
          · rfl
          · rename_i hns
            rw [hd2 _ _ (lows_get hlc s (by omega))]
            cases hh : hget (dynGo nc 0 (subs g L)) s with
            | none => rfl
            | some y =>
              obtain ⟨j, rfl, h3, _⟩ := hget_dynGo_name _ 0 hh
              rw [Nat.sub_zero, subs_get] at h3
              exact absurd ((hmem _).2 (.inr ⟨j, (hlen L j y h3).1, rfl⟩)) hns
    refine ⟨?_, by rw [St.put_rest, St.put_rest]; rfl⟩
    funext key
    cases key with
    | t t => cases hdst : o.dst <;> simp [St.look, St.put]
    | h s =>
      have := hheap s
      cases hdst : o.dst <;> simp [St.look, St.put, this]
end
end Go.Pv

namespace Go.Pv
section
variable {P : Program} {G : List (Nat × PD)} {ro : Option Nat} {N : Nat} {ops : Array Oper} {σ σ' : St} {o : Oper} {rest : List Oper}
@[go_sem] theorem nelF_cleanT {α : Type} {c : Nat} {F : Nat → α → PV} [NestF F] {L : List α} : cleanL (nelF c F L) = True := eq_true nelF_clean
theorem nest0 {α : Type} (c : Nat) (g : α → Row) : Sub G N σ ⟨σ.env, dynH c (subs g []) σ.heap, σ.dfr, σ.gh⟩ := fun _ _ _ _ φ hr => ⟨φ, hr⟩
theorem drp (e' : List (Nat × PV)) (h : envLe e' σ.env := by (repeat' (first | exact trivial | exact rfl | exact slcl (by (simp only [List.length_append, List.length_set, List.length_replicate, List.length_cons, List.length_nil, Nat.zero_add]; done)) | apply And.intro))) : Sub G N σ ⟨e', σ.heap, σ.dfr, σ.gh⟩ := by
  intro P B a w φ hr
  refine ⟨φ, ⟨hr.size, fun t => ?_, hr.heap, hr.keeps, hr.new, hr.pins, hr.psz, hr.glob, hr.tnew, hr.inv, hr.dfr⟩⟩
  rcases envLe_get h t with h | h
  · rw [h]; exact .any _
  · rw [h]; exact hr.env t
theorem Sub.voidVar (s e k r : Nat) {x : Row} (hs : hget σ.heap s = some x) (hk1 : 1 ≤ x.k) (hels : x.els = [.d .nilslice]) (hr0 : hget σ.heap r = none) (hr : 1000 ≤ r) (hk : 1 ≤ k) :
    Sub G N σ { env := σ.env, heap := hput (hput σ.heap s { x with els := [.slc r 0 0] }) r { e, k, els := [] }, dfr := σ.dfr, gh := σ.gh } := by
  have h := Sub.voidEl (G := G) (N := N) (σ := σ) s 0 e k r (x := x) (p := .d .nilslice) (p' := .slc r 0 0) hs hk1 (by rw [hels]; rfl) rfl hr0 hr fun w X φ H v h1 h2 h3 => void_slc hk h1 h2 h3
  rw [hels] at h
  exact h
theorem fcs {α : Type} (c i q : Nat) (y : Row) {F : Nat → α → PV} {g : α → Row} [NestF F] [NestG g] {L : List α} {x : α} {l l' : Heap} {e' : List (Nat × PV)} (hx : L[i]? = some x)
    (hy : g x = y := by rfl) (hs : σ.heap = dynH c (subs g L) l := by rfl) (hlow : lows l := by (repeat' (first | exact trivial | decide | apply And.intro))) (hq : hget l q = none := by rfl) (hq1 : 1000 ≤ q := by decide) (hq2 : q < 1000000 := by decide)
    (hl : renHeap (foc c i q) l = l' := by (simp only [renHeap, Row.ren, renL, PV.ren, dl_ren, mels_ren, optP_ren, foc_low, Nat.reduceLT]; rfl)) (he : renEnv (foc c i q) σ.env = e' := by (simp only [renEnv, renL, PV.ren, optP_ren, foc_low, Nat.reduceLT]; rfl)) (hd : σ.dfr = [] := by rfl) :
    Sub G N σ ⟨e', dynH c ((subs g L).set i none) ((q, y) :: l'), σ.dfr, σ.gh⟩ := hy ▸ Sub.focus (F := F) c i q hx hs hlow hq hq1 hq2 hl he hd
mutual
theorem PV.ren_id : ∀ p : PV, p.ren id = p
  | .func fn l => by simp only [PV.ren, renL_id l]
  | .agg l => by simp only [PV.ren, renL_id l]
  | .tuple l => by simp only [PV.ren, renL_id l]
  | .ptr .. => by simp only [PV.ren, id]
  | .slc .. => by simp only [PV.ren, id]
  | .mp .. => by simp only [PV.ren, id]
  | .any | .d _ | .b _ | .dptr .. | .bptr .. | .glob _ => by simp only [PV.ren]
theorem renL_id : ∀ l : List PV, renL id l = l
  | [] => by simp only [renL]
  | p :: l => by simp only [renL, PV.ren_id p, renL_id l]
end
theorem Row.ren_id (x : Row) : x.ren id = x := by simp only [Row.ren, renL_id]
theorem Sub.same {H : Heap} (h : ∀ r, hget H r = hget σ.heap r) : Sub G N σ ⟨σ.env, H, σ.dfr, σ.gh⟩ :=
  Sub.ren (ρ := id) ⟨fun t => (PV.ren_id _).symm, fun r x hx => by rw [Row.ren_id]; exact (h r).trans hx, fun s y hy => ⟨s, y, (h s).symm.trans hy, rfl⟩, fun r s _ _ _ _ e => e, fun _ _ _ _ => rfl, fun _ _ _ hr => hr, by
    show σ.dfr = σ.dfr.map (PV.ren id)
    rw [← renL_map, renL_id], rfl⟩
def renAt (ρ : Nat → Nat) (o : Option Row) (y : Row) : Prop := match o with
  | some x => x.e = y.e ∧ x.k = y.k ∧ renL ρ x.els = y.els
  | none => False
def renTo (ρ : Nat → Nat) (l : Heap) : Heap → Prop
  | [] => True
  | (s, y) :: m => renAt ρ (hget l s) y ∧ renTo ρ l m
theorem renTo_mem {ρ : Nat → Nat} {l : Heap} : ∀ {m : Heap}, renTo ρ l m → ∀ s y, (s, y) ∈ m → renAt ρ (hget l s) y
  | (r, x) :: m, h, s, y, hm => by
    rcases List.mem_cons.1 hm with hm | hm
    · cases hm; exact h.1
    · exact renTo_mem h.2 s y hm
theorem renTo_eq {ρ : Nat → Nat} {l m : Heap} (h : renTo ρ l m) (hall : allIn m l) (r : Nat) : hget m r = hget (renHeap ρ l) r := by
  rw [hget_renHeap]
  cases hm : hget m r with
  | some y =>
    have := renTo_mem h r y (hget_mem hm)
    cases hl : hget l r with
    | none => rw [hl] at this; exact this.elim
    | some x =>
      rw [hl] at this
      obtain ⟨h2, h3, h4⟩ := this
      simp only [Option.map_some, Row.ren, h4]
      cases x; cases y; simp only at h2 h3; subst h2 h3; rfl
  | none =>
    cases hl : hget l r with
    | none => rfl
    | some x => have := allIn_get hall r x (hget_mem hl); rw [hm] at this; cases this
theorem ufc {α : Type} (c i q : Nat) {F : Nat → α → PV} {g : α → Row} [NestF F] [NestG g] {L : List α} (x : α) (l' : Heap) {l : Heap} {e' : List (Nat × PV)} (hi : i < L.length)
    (hs : σ.heap = dynH c ((subs g L).set i none) l := by rfl) (hlow : lows l := by (repeat' (first | exact trivial | decide | apply And.intro))) (hq : hget l q = some (g x) := by rfl) (hq1 : 1000 ≤ q := by decide) (hq2 : q < 1000000 := by decide)
    (hl : renTo (unf c i q) (hdrop [q] l) l') (hall : allIn l' (hdrop [q] l) := by (repeat' (first | exact trivial | exact rfl | apply And.intro))) (he : renEnv (unf c i q) σ.env = e' := by rfl) (hd : σ.dfr = [] := by rfl) :
    Sub G N σ ⟨e', dynH c (subs g (L.set i x)) l', σ.dfr, σ.gh⟩ := fun P B a w φ hr => by
  obtain ⟨φ, hr⟩ := Sub.unfocus (F := F) c i q x hi hs hlow hq hq1 hq2 rfl he hd P B a w φ hr
  refine Sub.same (fun r => ?_) P B a w φ hr
  simp only [dynH, hget_append, renTo_eq hl hall]
theorem psh {α : Type} (c R j : Nat) {F : Nat → α → PV} {g : α → Row} {L : List α} (x : α) {l l' : Heap} {e k e1 k1 : Nat} {p : PV} {cs : List PV}
    (hs : σ.heap = dynH c (subs g L) l := by rfl) (hlow : lows l := by (repeat' (first | exact trivial | decide | apply And.intro))) (hR : hget l R = some ⟨e1, k1, nelF c F L ++ [p]⟩ := by rfl) (hk1 : 1 ≤ k1 := by decide) (hpb : isByte p = false := by rfl)
    (hg : g x = ⟨e, k, []⟩ := by rfl) (hk : 1 ≤ k := by decide) (hp : isAggPV p = true := by rfl) (hcs : pvCells p = some cs := by rfl) (hi : cs[j]? = some (.d .nilslice) := by rfl) (hF : ∀ r, PV.agg (cs.set j (.slc r 0 0)) = F r x := by (intro r; rfl))
    (hl : hput l R ⟨e1, k1, nelF c F (L ++ [x])⟩ = l' := by (simp only [hput, ↓reduceIte, Nat.reduceEqDiff]; rfl)) : Sub G N σ ⟨σ.env, dynH c (subs g (L ++ [x])) l', σ.dfr, σ.gh⟩ :=
  Sub.push c R e k x hs hlow hR hk1 hpb hg (fun w X φ H v h1 h2 h3 => hF _ ▸ void_agg hp hcs hi hk h1 h2 h3) hl
theorem unn {α : Type} (c R : Nat) {F : Nat → α → PV} {g : α → Row} (pd : α → PD) [NestF F] [NestG g] [NestP F g pd] {L : List α} {l l' : Heap} {e k : Nat}
    (hs : σ.heap = dynH c (subs g L) l := by rfl) (hlow : lows l := by (repeat' (first | exact trivial | decide | apply And.intro))) (hR : hget l R = some ⟨e, k, nelF c F L⟩ := by rfl)
    (henv : lowEnv σ.env := by (repeat' (first | exact trivial | exact rfl | apply And.intro))) (hrows : lowRows R l := by (repeat' (first | exact trivial | exact .inl rfl | exact .inr rfl | exact .inr (by simp only [go_sem, List.all_nil]) | apply And.intro))) (hd : σ.dfr = [] := by rfl) (hgh : σ.gh = none := by rfl)
    (hl : hput l R ⟨e, k, dl (lenc pd L)⟩ = l' := by (simp only [hput, ↓reduceIte, Nat.reduceEqDiff]; rfl)) : Sub G N σ ⟨σ.env, l', σ.dfr, σ.gh⟩ := Sub.unnest (F := F) c R pd hs hlow hR henv hrows hd hgh hl
theorem clD {α : Type} {nc : Nat} {g : α → Row} [NestG g] {L L' : List α} {c : Call} {f : FuncId} {xo : Operand} {caps args : List PV} {res : PV} {lH lH' lc : Heap} {Q : St → Prop} (gl : List (Nat × Nat)) (gs : List Nat)
    (hf : ObjFn P G f args (dynH nc (subs g L) lH) res (dynH nc (subs g L') lH')) (h2 : AOps P G ro N ops rest σ' Q)
    (hd : dstOk N o.dst := by (simp only [go_sem, ↓reduceIte]; done)) (hg : ∀ {K : St → Prop}, OpT P G ro N o σ K → vcOpC P G ro N (dsts ops) o σ K := by (intro K k; simp (disch := omega) only [go_sem, ↓reduceIte]; exact k))
    (hs : σ.heap = dynH nc (subs g L) lc := by rfl) (hlH : lows lH := by (repeat' (first | exact trivial | decide | apply And.intro))) (hlH' : lows lH' := by (repeat' (first | exact trivial | decide | apply And.intro))) (hlc : lows lc := by (repeat' (first | exact trivial | decide | apply And.intro)))
    (hg1 : (gl.all fun p => decide (p.1 < 1000000)) = true := by rfl) (hg2 : (gl.all fun p => decide (p.2 < 1000000)) = true := by rfl)
    (ho : o.op = .call c := by rfl) (hc : c.callee = .value xo := by rfl) (hx : calleeV (σ.eval xo) = some (f, caps) := by rfl) (hcal : callable P f = true := by kernel_rfl)
    (hrow : handLU lc (renOf gl) (dynH nc (subs g L) lH) lH := by (simp (disch := decide) only [handLU, Row.ren, nelF_renOf]; simp only [go_sem, ↓reduceIte]; (repeat' (first | exact trivial | exact rfl | exact dyS rfl | exact nelF_refs (by (repeat' (first | exact trivial | decide | apply And.intro))) | (simp only [List.length_append, List.length_set, List.length_replicate, List.length_cons, List.length_nil, Nat.zero_add]; exact rfl) | apply And.intro))))
    (hinj : injL (renOf gl) lH := by (simp only [injL, injOne, go_sem, ↓reduceIte]; (repeat' (first | exact trivial | (intro h; cases h; done) | apply And.intro))))
    (hgs : givL (renOf gl) gs lH := by (simp only [givL, go_sem, ↓reduceIte]; (repeat' (first | exact trivial | exact rfl | apply And.intro))))
    (him : imgL (renOf gl) lH gs := by (repeat' (first | exact trivial | exact rfl | decide | apply And.intro))) (hgl : (gs.all fun p => decide (p < 1000000)) = true := by rfl)
    (henv : freeEnv gs σ.env := by (repeat' (first | exact trivial | exact rfl | apply And.intro))) (henv2 : lowEnv σ.env := by (repeat' (first | exact trivial | exact rfl | apply And.intro))) (hdfr : σ.dfr = [] := by rfl)
    (hout : freeHeap (renOf gl) lH gs lc := by (repeat' (first | exact trivial | exact .inl rfl | exact .inr rfl | exact .inr (by simp only [go_sem, List.any_nil]) | apply And.intro)))
    (hout2 : lowOut (renOf gl) lH lc := by (repeat' (first | exact trivial | exact .inl rfl | exact .inr rfl | exact .inr (by simp only [go_sem, List.all_nil]) | apply And.intro)))
    (ha : handsOk σ.heap (dynH nc (subs g L) lH) (renOf gl) (evalL σ c.args.toList ++ caps) args := by (repeat' (first | exact trivial | exact rfl | exact dyS rfl | apply And.intro | (simp only [go_sem, ↓reduceIte]; done))))
    (hback : backLU lH (renOf gl) gs (dynH nc (subs g L') lH') lH' := by (simp only [backLU, go_sem, ↓reduceIte]; (repeat' (first | exact trivial | exact rfl | exact dyS rfl | exact nelF_refs (by (repeat' (first | exact trivial | decide | apply And.intro))) | exact nelF_clean | exact .inl trivial | exact .inl rfl | exact .inr rfl | decide | apply And.intro))))
    (hall : allIn lH' lH := by (repeat' (first | exact trivial | exact rfl | apply And.intro))) (hinj2 : injL (renOf gl) lH' := by (simp only [injL, injOne, go_sem, ↓reduceIte]; (repeat' (first | exact trivial | (intro h; cases h; done) | apply And.intro))))
    (hp : ({ σ with heap := dynH nc (subs g L') (hmerge (renOf gl) lH' (hdrop gs lc)) } : St).put o.dst (res.ren (renOf gl)) = σ' := by (simp (disch := decide) only [hmerge, Row.ren, nelF_renOf]; simp only [hdrop, go_sem, ↓reduceIte]; rfl))
    (hcl : clean res := by (simp only [clean, cleanL, and_self]; done)) (hrf : refsIn (dynH nc (subs g L') lH') res := by (first | exact trivial | exact rfl | (simp only [go_sem, ↓reduceIte]; done))) :
    AOps P G ro N ops (o :: rest) σ Q :=
  AOps.consC hd fun K hK => hg (OpT.callD gl gs hf hs hlH hlH' hlc hg1 hg2 hd ho hc hx hcal hrow hinj hgs him hgl henv henv2 hdfr hout hout2 ha hback hall hinj2 hcl hrf (hp ▸ hK _ h2))
end
end Go.Pv

namespace Go.Pv
section
variable {P : Program} {G : List (Nat × PD)} {ro : Option Nat} {N : Nat} {xs : Exc} {σ : St} {o : Oper}
end
end Go.Pv

namespace Go.Pv
structure StringsBuilder where
  addr : Bool
  buf : (List Int)
deriving DecidableEq
instance : Inhabited StringsBuilder := ⟨⟨false, []⟩⟩
structure Band where
  Lo : Int
  Hi : Int
deriving DecidableEq
instance : Inhabited Band := ⟨⟨0, 0⟩⟩
def Band.pd (x : Band) : PD := .agg [(.int .i64 x.Lo), (.int .i64 x.Hi)]
attribute [go_sem] Band.pd
@[go_sem] theorem snoc_Band (l : List Band) (a0 : Int) (a1 : Int) : dl (lenc Band.pd l) ++ [PV.d (PD.agg [(.int .i64 a0), (.int .i64 a1)])] = dl (lenc Band.pd (l ++ [(⟨a0, a1⟩ : Band)])) := lenc_snoc Band.pd l (⟨a0, a1⟩ : Band)
@[go_sem] theorem set_Band (l : List Band) (i : Nat) (a0 : Int) (a1 : Int) : (lenc Band.pd l).set i (PD.agg [(.int .i64 a0), (.int .i64 a1)]) = lenc Band.pd (l.set i (⟨a0, a1⟩ : Band)) := lenc_set Band.pd l i (⟨a0, a1⟩ : Band)
@[go_sem] theorem rep_Band (n : Nat) (a0 : Int) (a1 : Int) : List.replicate n (PD.agg [(.int .i64 a0), (.int .i64 a1)]) = lenc Band.pd (List.replicate n (⟨a0, a1⟩ : Band)) := lenc_rep Band.pd n (⟨a0, a1⟩ : Band)
structure Rule where
  Bands : (List Band)
  Code : Int
deriving DecidableEq
instance : Inhabited Rule := ⟨⟨[], 0⟩⟩
def Rule.pd (x : Rule) : PD := .agg [(.imm 2 (lenc Band.pd x.Bands)), (.int .i64 x.Code)]
attribute [go_sem] Rule.pd
@[go_sem] theorem snoc_Rule (l : List Rule) (a0 : (List Band)) (a1 : Int) : dl (lenc Rule.pd l) ++ [PV.d (PD.agg [(.imm 2 (lenc Band.pd a0)), (.int .i64 a1)])] = dl (lenc Rule.pd (l ++ [(⟨a0, a1⟩ : Rule)])) := lenc_snoc Rule.pd l (⟨a0, a1⟩ : Rule)
@[go_sem] theorem set_Rule (l : List Rule) (i : Nat) (a0 : (List Band)) (a1 : Int) : (lenc Rule.pd l).set i (PD.agg [(.imm 2 (lenc Band.pd a0)), (.int .i64 a1)]) = lenc Rule.pd (l.set i (⟨a0, a1⟩ : Rule)) := lenc_set Rule.pd l i (⟨a0, a1⟩ : Rule)
@[go_sem] theorem rep_Rule (n : Nat) (a0 : (List Band)) (a1 : Int) : List.replicate n (PD.agg [(.imm 2 (lenc Band.pd a0)), (.int .i64 a1)]) = lenc Rule.pd (List.replicate n (⟨a0, a1⟩ : Rule)) := lenc_rep Rule.pd n (⟨a0, a1⟩ : Rule)
structure Arr3_Int where
  c0 : Int
  c1 : Int
  c2 : Int
deriving DecidableEq
instance : Inhabited Arr3_Int := ⟨⟨0, 0, 0⟩⟩
def Arr3_Int.pd (x : Arr3_Int) : PD := .agg [(.int .i64 x.c0), (.int .i64 x.c1), (.int .i64 x.c2)]
attribute [go_sem] Arr3_Int.pd
@[go_sem] theorem snoc_Arr3_Int (l : List Arr3_Int) (a0 : Int) (a1 : Int) (a2 : Int) : dl (lenc Arr3_Int.pd l) ++ [PV.d (PD.agg [(.int .i64 a0), (.int .i64 a1), (.int .i64 a2)])] = dl (lenc Arr3_Int.pd (l ++ [(⟨a0, a1, a2⟩ : Arr3_Int)])) := lenc_snoc Arr3_Int.pd l (⟨a0, a1, a2⟩ : Arr3_Int)
@[go_sem] theorem set_Arr3_Int (l : List Arr3_Int) (i : Nat) (a0 : Int) (a1 : Int) (a2 : Int) : (lenc Arr3_Int.pd l).set i (PD.agg [(.int .i64 a0), (.int .i64 a1), (.int .i64 a2)]) = lenc Arr3_Int.pd (l.set i (⟨a0, a1, a2⟩ : Arr3_Int)) := lenc_set Arr3_Int.pd l i (⟨a0, a1, a2⟩ : Arr3_Int)
@[go_sem] theorem rep_Arr3_Int (n : Nat) (a0 : Int) (a1 : Int) (a2 : Int) : List.replicate n (PD.agg [(.int .i64 a0), (.int .i64 a1), (.int .i64 a2)]) = lenc Arr3_Int.pd (List.replicate n (⟨a0, a1, a2⟩ : Arr3_Int)) := lenc_rep Arr3_Int.pd n (⟨a0, a1, a2⟩ : Arr3_Int)
structure Walker where
  k : Int
  s : (List Rule)
  t : (List Rule)
deriving DecidableEq
instance : Inhabited Walker := ⟨⟨0, [], []⟩⟩
def Walker.pd (x : Walker) : PD := .agg [(.int .i64 x.k), (.imm 2 (lenc Rule.pd x.s)), (.imm 2 (lenc Rule.pd x.t))]
attribute [go_sem] Walker.pd
@[go_sem] theorem snoc_Walker (l : List Walker) (a0 : Int) (a1 : (List Rule)) (a2 : (List Rule)) : dl (lenc Walker.pd l) ++ [PV.d (PD.agg [(.int .i64 a0), (.imm 2 (lenc Rule.pd a1)), (.imm 2 (lenc Rule.pd a2))])] = dl (lenc Walker.pd (l ++ [(⟨a0, a1, a2⟩ : Walker)])) := lenc_snoc Walker.pd l (⟨a0, a1, a2⟩ : Walker)
@[go_sem] theorem set_Walker (l : List Walker) (i : Nat) (a0 : Int) (a1 : (List Rule)) (a2 : (List Rule)) : (lenc Walker.pd l).set i (PD.agg [(.int .i64 a0), (.imm 2 (lenc Rule.pd a1)), (.imm 2 (lenc Rule.pd a2))]) = lenc Walker.pd (l.set i (⟨a0, a1, a2⟩ : Walker)) := lenc_set Walker.pd l i (⟨a0, a1, a2⟩ : Walker)
@[go_sem] theorem rep_Walker (n : Nat) (a0 : Int) (a1 : (List Rule)) (a2 : (List Rule)) : List.replicate n (PD.agg [(.int .i64 a0), (.imm 2 (lenc Rule.pd a1)), (.imm 2 (lenc Rule.pd a2))]) = lenc Walker.pd (List.replicate n (⟨a0, a1, a2⟩ : Walker)) := lenc_rep Walker.pd n (⟨a0, a1, a2⟩ : Walker)
structure Node where
  Mark : Int
  Cuts : (List Int)
  To : (List Int)
deriving DecidableEq
instance : Inhabited Node := ⟨⟨0, [], []⟩⟩
def Node.pd (x : Node) : PD := .agg [(.int .i64 x.Mark), (.imm 1 (lenc (PD.int .i64) x.Cuts)), (.imm 1 (lenc (PD.int .i64) x.To))]
attribute [go_sem] Node.pd
@[go_sem] theorem snoc_Node (l : List Node) (a0 : Int) (a1 : (List Int)) (a2 : (List Int)) : dl (lenc Node.pd l) ++ [PV.d (PD.agg [(.int .i64 a0), (.imm 1 (lenc (PD.int .i64) a1)), (.imm 1 (lenc (PD.int .i64) a2))])] = dl (lenc Node.pd (l ++ [(⟨a0, a1, a2⟩ : Node)])) := lenc_snoc Node.pd l (⟨a0, a1, a2⟩ : Node)
@[go_sem] theorem set_Node (l : List Node) (i : Nat) (a0 : Int) (a1 : (List Int)) (a2 : (List Int)) : (lenc Node.pd l).set i (PD.agg [(.int .i64 a0), (.imm 1 (lenc (PD.int .i64) a1)), (.imm 1 (lenc (PD.int .i64) a2))]) = lenc Node.pd (l.set i (⟨a0, a1, a2⟩ : Node)) := lenc_set Node.pd l i (⟨a0, a1, a2⟩ : Node)
@[go_sem] theorem rep_Node (n : Nat) (a0 : Int) (a1 : (List Int)) (a2 : (List Int)) : List.replicate n (PD.agg [(.int .i64 a0), (.imm 1 (lenc (PD.int .i64) a1)), (.imm 1 (lenc (PD.int .i64) a2))]) = lenc Node.pd (List.replicate n (⟨a0, a1, a2⟩ : Node)) := lenc_rep Node.pd n (⟨a0, a1, a2⟩ : Node)
structure Builder where
  k : Int
  rules : (List Rule)
  known : (List (Arr3_Int × Int))
  same : (List (ByteArray × Int))
  nodes : (List Node)
deriving DecidableEq
instance : Inhabited Builder := ⟨⟨0, [], [], [], []⟩⟩
structure Table where
  heads : (List Int)
  next : (List Int)
  keys : (List Arr3_Int)
deriving DecidableEq
instance : Inhabited Table := ⟨⟨[], [], []⟩⟩
def Table.pd (x : Table) : PD := .agg [(.imm 1 (lenc (PD.int .i64) x.heads)), (.imm 1 (lenc (PD.int .i64) x.next)), (.imm 3 (lenc Arr3_Int.pd x.keys))]
attribute [go_sem] Table.pd
@[go_sem] theorem snoc_Table (l : List Table) (a0 : (List Int)) (a1 : (List Int)) (a2 : (List Arr3_Int)) : dl (lenc Table.pd l) ++ [PV.d (PD.agg [(.imm 1 (lenc (PD.int .i64) a0)), (.imm 1 (lenc (PD.int .i64) a1)), (.imm 3 (lenc Arr3_Int.pd a2))])] = dl (lenc Table.pd (l ++ [(⟨a0, a1, a2⟩ : Table)])) := lenc_snoc Table.pd l (⟨a0, a1, a2⟩ : Table)
@[go_sem] theorem set_Table (l : List Table) (i : Nat) (a0 : (List Int)) (a1 : (List Int)) (a2 : (List Arr3_Int)) : (lenc Table.pd l).set i (PD.agg [(.imm 1 (lenc (PD.int .i64) a0)), (.imm 1 (lenc (PD.int .i64) a1)), (.imm 3 (lenc Arr3_Int.pd a2))]) = lenc Table.pd (l.set i (⟨a0, a1, a2⟩ : Table)) := lenc_set Table.pd l i (⟨a0, a1, a2⟩ : Table)
@[go_sem] theorem rep_Table (n : Nat) (a0 : (List Int)) (a1 : (List Int)) (a2 : (List Arr3_Int)) : List.replicate n (PD.agg [(.imm 1 (lenc (PD.int .i64) a0)), (.imm 1 (lenc (PD.int .i64) a1)), (.imm 3 (lenc Arr3_Int.pd a2))]) = lenc Table.pd (List.replicate n (⟨a0, a1, a2⟩ : Table)) := lenc_rep Table.pd n (⟨a0, a1, a2⟩ : Table)
structure Search where
  k : Int
  t : (List Rule)
  seen : Table
  many : (List (List Int))
  at_ : (List Int)
  nodes : (List Node)
deriving DecidableEq
instance : Inhabited Search := ⟨⟨0, [], ⟨[], [], []⟩, [], [], []⟩⟩
def Search.pd (x : Search) : PD := .agg [(.int .i64 x.k), (.imm 2 (lenc Rule.pd x.t)), (.imm 1 (lenc (PD.int .i64) x.seen.heads)), (.imm 1 (lenc (PD.int .i64) x.seen.next)), (.imm 3 (lenc Arr3_Int.pd x.seen.keys)), (.imm 1 (lenc (slenc 1 (PD.int .i64)) x.many)), (.imm 1 (lenc (PD.int .i64) x.at_)), (.imm 3 (lenc Node.pd x.nodes))]
attribute [go_sem] Search.pd
@[go_sem] theorem snoc_Search (l : List Search) (a0 : Int) (a1 : (List Rule)) (a2 : (List Int)) (a3 : (List Int)) (a4 : (List Arr3_Int)) (a5 : (List (List Int))) (a6 : (List Int)) (a7 : (List Node)) : dl (lenc Search.pd l) ++ [PV.d (PD.agg [(.int .i64 a0), (.imm 2 (lenc Rule.pd a1)), (.imm 1 (lenc (PD.int .i64) a2)), (.imm 1 (lenc (PD.int .i64) a3)), (.imm 3 (lenc Arr3_Int.pd a4)), (.imm 1 (lenc (slenc 1 (PD.int .i64)) a5)), (.imm 1 (lenc (PD.int .i64) a6)), (.imm 3 (lenc Node.pd a7))])] = dl (lenc Search.pd (l ++ [(⟨a0, a1, (⟨a2, a3, a4⟩ : Table), a5, a6, a7⟩ : Search)])) := lenc_snoc Search.pd l (⟨a0, a1, (⟨a2, a3, a4⟩ : Table), a5, a6, a7⟩ : Search)
@[go_sem] theorem set_Search (l : List Search) (i : Nat) (a0 : Int) (a1 : (List Rule)) (a2 : (List Int)) (a3 : (List Int)) (a4 : (List Arr3_Int)) (a5 : (List (List Int))) (a6 : (List Int)) (a7 : (List Node)) : (lenc Search.pd l).set i (PD.agg [(.int .i64 a0), (.imm 2 (lenc Rule.pd a1)), (.imm 1 (lenc (PD.int .i64) a2)), (.imm 1 (lenc (PD.int .i64) a3)), (.imm 3 (lenc Arr3_Int.pd a4)), (.imm 1 (lenc (slenc 1 (PD.int .i64)) a5)), (.imm 1 (lenc (PD.int .i64) a6)), (.imm 3 (lenc Node.pd a7))]) = lenc Search.pd (l.set i (⟨a0, a1, (⟨a2, a3, a4⟩ : Table), a5, a6, a7⟩ : Search)) := lenc_set Search.pd l i (⟨a0, a1, (⟨a2, a3, a4⟩ : Table), a5, a6, a7⟩ : Search)
@[go_sem] theorem rep_Search (n : Nat) (a0 : Int) (a1 : (List Rule)) (a2 : (List Int)) (a3 : (List Int)) (a4 : (List Arr3_Int)) (a5 : (List (List Int))) (a6 : (List Int)) (a7 : (List Node)) : List.replicate n (PD.agg [(.int .i64 a0), (.imm 2 (lenc Rule.pd a1)), (.imm 1 (lenc (PD.int .i64) a2)), (.imm 1 (lenc (PD.int .i64) a3)), (.imm 3 (lenc Arr3_Int.pd a4)), (.imm 1 (lenc (slenc 1 (PD.int .i64)) a5)), (.imm 1 (lenc (PD.int .i64) a6)), (.imm 3 (lenc Node.pd a7))]) = lenc Search.pd (List.replicate n (⟨a0, a1, (⟨a2, a3, a4⟩ : Table), a5, a6, a7⟩ : Search)) := lenc_rep Search.pd n (⟨a0, a1, (⟨a2, a3, a4⟩ : Table), a5, a6, a7⟩ : Search)
structure Compare where
  k : Int
  s : (List Rule)
  t : (List Rule)
  alike : Table
deriving DecidableEq
instance : Inhabited Compare := ⟨⟨0, [], [], ⟨[], [], []⟩⟩⟩
def Compare.pd (x : Compare) : PD := .agg [(.int .i64 x.k), (.imm 2 (lenc Rule.pd x.s)), (.imm 2 (lenc Rule.pd x.t)), (.imm 1 (lenc (PD.int .i64) x.alike.heads)), (.imm 1 (lenc (PD.int .i64) x.alike.next)), (.imm 3 (lenc Arr3_Int.pd x.alike.keys))]
attribute [go_sem] Compare.pd
@[go_sem] theorem snoc_Compare (l : List Compare) (a0 : Int) (a1 : (List Rule)) (a2 : (List Rule)) (a3 : (List Int)) (a4 : (List Int)) (a5 : (List Arr3_Int)) : dl (lenc Compare.pd l) ++ [PV.d (PD.agg [(.int .i64 a0), (.imm 2 (lenc Rule.pd a1)), (.imm 2 (lenc Rule.pd a2)), (.imm 1 (lenc (PD.int .i64) a3)), (.imm 1 (lenc (PD.int .i64) a4)), (.imm 3 (lenc Arr3_Int.pd a5))])] = dl (lenc Compare.pd (l ++ [(⟨a0, a1, a2, (⟨a3, a4, a5⟩ : Table)⟩ : Compare)])) := lenc_snoc Compare.pd l (⟨a0, a1, a2, (⟨a3, a4, a5⟩ : Table)⟩ : Compare)
@[go_sem] theorem set_Compare (l : List Compare) (i : Nat) (a0 : Int) (a1 : (List Rule)) (a2 : (List Rule)) (a3 : (List Int)) (a4 : (List Int)) (a5 : (List Arr3_Int)) : (lenc Compare.pd l).set i (PD.agg [(.int .i64 a0), (.imm 2 (lenc Rule.pd a1)), (.imm 2 (lenc Rule.pd a2)), (.imm 1 (lenc (PD.int .i64) a3)), (.imm 1 (lenc (PD.int .i64) a4)), (.imm 3 (lenc Arr3_Int.pd a5))]) = lenc Compare.pd (l.set i (⟨a0, a1, a2, (⟨a3, a4, a5⟩ : Table)⟩ : Compare)) := lenc_set Compare.pd l i (⟨a0, a1, a2, (⟨a3, a4, a5⟩ : Table)⟩ : Compare)
@[go_sem] theorem rep_Compare (n : Nat) (a0 : Int) (a1 : (List Rule)) (a2 : (List Rule)) (a3 : (List Int)) (a4 : (List Int)) (a5 : (List Arr3_Int)) : List.replicate n (PD.agg [(.int .i64 a0), (.imm 2 (lenc Rule.pd a1)), (.imm 2 (lenc Rule.pd a2)), (.imm 1 (lenc (PD.int .i64) a3)), (.imm 1 (lenc (PD.int .i64) a4)), (.imm 3 (lenc Arr3_Int.pd a5))]) = lenc Compare.pd (List.replicate n (⟨a0, a1, a2, (⟨a3, a4, a5⟩ : Table)⟩ : Compare)) := lenc_rep Compare.pd n (⟨a0, a1, a2, (⟨a3, a4, a5⟩ : Table)⟩ : Compare)
def Node.npv (r : Nat) (x : Node) : PV := .agg [.d (.int .i64 x.Mark), .d (.imm 1 (lenc (PD.int .i64) x.Cuts)), .slc r 0 x.To.length]
def Node.sub (x : Node) : Row := ⟨3, 1, dl (lenc (PD.int .i64) x.To)⟩
attribute [go_sem] Node.npv
instance : NestF Node.npv where
  ren ρ r x := by simp [Node.npv, PV.ren, renL]
  rows r x s h := by simpa [Node.npv, rowsOf, rowsOfL] using h
  refs H r x h := by simp [Node.npv, refsIn, refsInL, h]
  kill q r x h := by simp [Node.npv, PV.kill, killL, h]
  clean r x := by simp [Node.npv, clean, cleanL]
  byte r x := rfl
instance : NestG Node.sub := ⟨fun x => ⟨Nat.le_of_ble_eq_true rfl, _, rfl⟩⟩
instance : NestP Node.npv Node.sub Node.pd := ⟨fun H r x h => by
  simp only [Node.npv, Node.pd, frz, frzL, h, Node.sub, dl_allD, lenc_take, List.drop_zero, List.take_length, Option.map_some]⟩
def cloneO {α : Type} (l : List α) : Option (List α) := if l.length ≤ 4294967296 then some l else none
def bWrite (o : StringsBuilder) (s : ByteArray) : Option StringsBuilder := guardO (o.buf.length + s.size ≤ 4294967296) (some ⟨true, o.buf ++ bytesI s⟩)
def bWriteByte (o : StringsBuilder) (c : Int) : Option StringsBuilder := guardO (o.buf.length + 1 ≤ 4294967296) (some ⟨true, o.buf ++ [c]⟩)
def bString (o : StringsBuilder) : Option ByteArray := guardO (byteOk o.buf = true ∧ o.buf ≠ []) (some (ofI o.buf))
def itoaO (n : Int) : Option ByteArray := guardO (-9223372036854775808 ≤ n ∧ n ≤ 9223372036854775807) (some ⟨(Lib.itoa n).toArray⟩)
def delOk (l : List Rule) (i j : Int) : Bool := decide (0 ≤ i ∧ i ≤ j ∧ j ≤ l.length ∧ l.length ≤ 4294967296)
def delN (l : List Rule) (i j : Int) : Nat := l.length - (j - i).toNat
def delP (l : List Rule) (i j : Int) : List Rule := l.take i.toNat ++ l.drop j.toNat ++ List.replicate (j - i).toNat (⟨[], 0⟩ : Rule)
noncomputable def m_cocketref02_Good_l2 (k1 : Int) (e1 : Rule) : Int → Option (Int ⊕ (Unit ⊕ Int)) := fun m1 =>
 cond (decide (m1 < k1))
  (
  (idx e1.Bands m1).bind fun e2 =>
  cond (decide (e2.Lo < 0))
   (
   some (.inr (.inr 2))
   )
   (
   cond (decide (e2.Hi ≤ e2.Lo))
    (
    some (.inr (.inr 2))
    )
    (
    cond (decide (1000 < e2.Hi))
     (
     some (.inr (.inr 2))
     )
     (
     some (.inl (IntKind.i64.wrap (m1 + 1)))
     )
    )
   )
  )
  (
  some (.inr (.inl ()))
  )
noncomputable def m_cocketref02_Good_l1 (k1 : Int) (t1 : (List Rule)) : Int → Option (Int ⊕ (Unit ⊕ Int)) := fun i1 =>
 cond (decide (i1 < (t1.length : Int)))
  (
  (
  (
   (idx t1 i1).bind fun e1 =>
   cond (((decide (¬(e1.Bands.length : Int) = k1)) || (decide (e1.Code < 0))) || (decide (99 < e1.Code)))
    (
    some (.inr 2)
    )
    (
    (
    (iter (m_cocketref02_Good_l2 k1 e1) 0).bind fun x_33 => match x_33 with
      | (.inl y1) => some (.inl y1)
      | (.inr y2) => some (.inr y2)
    )
    )
   : Option (Unit ⊕ Int)).bind fun o_17 => match o_17 with
    | (.inl _) =>
      some (.inl (IntKind.i64.wrap (i1 + 1)))
    | (.inr y3) => some (.inr (.inr y3))
  )
  )
  (
  some (.inr (.inl ()))
  )
noncomputable def m_cocketref02_Good (k1 : Int) (t1 : (List Rule)) : Option Int :=
 cond ((decide (k1 < 1)) || (decide (4 < k1)))
  (
  some 2
  )
  (
  cond (decide (24 < (t1.length : Int)))
   (
   some 3
   )
   (
   (
   (
    (
    (iter (m_cocketref02_Good_l1 k1 t1) 0).bind fun x_13 => match x_13 with
      | (.inl y4) => some (.inl y4)
      | (.inr y5) => some (.inr y5)
    )
    : Option (Unit ⊕ Int)).bind fun o_7 => match o_7 with
     | (.inl _) =>
       some 0
     | (.inr y6) => some y6
   )
   )
  )
noncomputable def m_cocketref02_all (t1 : (List Rule)) : Option Int :=
 guardO (0 ≤ (t1.length : Int)) <|
 some (IntKind.i64.wrap ((IntKind.i64.wrap (1 * (2 ^ (min ((t1.length : Int)).toNat 64)))) - 1))
noncomputable def m_cocketref02_put_l1 (l1 : (List Int)) (n1 : Int) : (Bool × Int × (List Int)) → Option ((Bool × Int × (List Int)) ⊕ (Bool × (List Int))) := fun (done2, i1, L2) =>
 cond (decide (i1 < (l1.length : Int)))
  (
  (
   ((cond (!done2)
    (
     (idx l1 i1).bind fun e1 =>
     some (decide (n1 ≤ e1))
    )
    (some false)
   ) : Option Bool).bind fun b1 =>
   cond b1
    (
    (idx l1 i1).bind fun e2 =>
    cond (decide (n1 < e2))
     (
     guardO (L2.length + [n1].length ≤ 4294967296) <|
     some (true, (L2 ++ [n1]))
     )
     (
     some (true, L2)
     )
    )
    (
    some (done2, L2)
    )
   : Option (Bool × (List Int))).bind fun (done3, L3) =>
  (idx l1 i1).bind fun e3 =>
  guardO (L3.length + [e3].length ≤ 4294967296) <|
  some (.inl (done3, (IntKind.i64.wrap (i1 + 1)), (L3 ++ [e3])))
  )
  (
  some (.inr (done2, L2))
  )
noncomputable def m_cocketref02_put (l1 : (List Int)) (n1 : Int) : Option (List Int) :=
 (
  (iter (m_cocketref02_put_l1 l1 n1) (false, 0, [])).bind fun x_7 =>
  some x_7
  : Option (Bool × (List Int))).bind fun (done1, L1) =>
 (
  cond (!done1)
   (
   guardO (L1.length + [n1].length ≤ 4294967296) <|
   some (L1 ++ [n1])
   )
   (
   some L1
   )
  : Option (List Int)).bind fun L4 =>
 some L4
noncomputable def m_cocketref02_cuts_l1 (t1 : (List Rule)) (mark1 : Int) (set1 : Int) : ((List Int) × Int) → Option (((List Int) × Int) ⊕ (List Int)) := fun (out2, i1) =>
 cond (decide (i1 < (t1.length : Int)))
  (
  (
   guardO (0 ≤ i1) <|
   cond (decide (((set1.fdiv (2 ^ (min (i1).toNat 64))).tmod 2) = 1))
    (
    (
     (idx t1 i1).bind fun e1 =>
     (idx e1.Bands mark1).bind fun e2 =>
     cond (decide (0 < e2.Lo))
      (
      (idx t1 i1).bind fun e3 =>
      (idx e3.Bands mark1).bind fun e4 =>
      (m_cocketref02_put out2 e4.Lo).bind fun r1 =>
      some r1
      )
      (
      some out2
      )
     : Option (List Int)).bind fun out4 =>
    (idx t1 i1).bind fun e5 =>
    (idx e5.Bands mark1).bind fun e6 =>
    (m_cocketref02_put out4 e6.Hi).bind fun r2 =>
    some r2
    )
    (
    some out2
    )
   : Option (List Int)).bind fun out3 =>
  some (.inl (out3, (IntKind.i64.wrap (i1 + 1))))
  )
  (
  some (.inr out2)
  )
noncomputable def m_cocketref02_cuts (t1 : (List Rule)) (mark1 : Int) (set1 : Int) : Option (List Int) :=
 (
  (iter (m_cocketref02_cuts_l1 t1 mark1 set1) ([1000], 0)).bind fun x_7 =>
  some x_7
  : Option (List Int)).bind fun out1 =>
 some out1
noncomputable def m_cocketref02_Pieces_l1 (k1 : Int) (t1 : (List Rule)) (most1 : Int) : (Int × Int) → Option ((Int × Int) ⊕ Int) := fun (out2, m1) =>
 cond ((decide (m1 < k1)) && (decide (out2 < most1)))
  (
  (m_cocketref02_all t1).bind fun r2 =>
  (m_cocketref02_cuts t1 m1 r2).bind fun r3 =>
  some (.inl ((IntKind.i64.wrap (out2 * (r3.length : Int))), (IntKind.i64.wrap (m1 + 1))))
  )
  (
  some (.inr out2)
  )
noncomputable def m_cocketref02_Pieces (k1 : Int) (t1 : (List Rule)) (most1 : Int) : Option Int :=
 (m_cocketref02_Good k1 t1).bind fun r1 =>
 cond (decide (¬r1 = 0))
  (
  some 0
  )
  (
  (
   (iter (m_cocketref02_Pieces_l1 k1 t1 most1) (1, 0)).bind fun x_10 =>
   some x_10
   : Option Int).bind fun out1 =>
  some out1
  )
noncomputable def m_cocketlaw02_few_l1 (t1 : (List Rule)) : Int → Option (Int ⊕ (Unit ⊕ Bool)) := fun i1 =>
 cond (decide (i1 < (t1.length : Int)))
  (
  ((cond (decide (40 ≤ i1))
   (some true)
   (
    (idx t1 i1).bind fun e1 =>
    some (decide (20 < (e1.Bands.length : Int)))
   )
  ) : Option Bool).bind fun b1 =>
  cond b1
   (
   some (.inr (.inr false))
   )
   (
   some (.inl (IntKind.i64.wrap (i1 + 1)))
   )
  )
  (
  some (.inr (.inl ()))
  )
noncomputable def m_cocketlaw02_few (k1 : Int) (t1 : (List Rule)) : Option Bool :=
 (
 (
  (
  (iter (m_cocketlaw02_few_l1 t1) 0).bind fun x_7 => match x_7 with
    | (.inl y1) => some (.inl y1)
    | (.inr y2) => some (.inr y2)
  )
  : Option (Unit ⊕ Bool)).bind fun o_1 => match o_1 with
   | (.inl _) =>
     (m_cocketref02_Pieces k1 t1 30000).bind fun r1 =>
     some (decide (r1 < 30000))
   | (.inr y3) => some y3
 )
noncomputable def m_cocketlaw02_three : Option (List Rule) :=
 some [(⟨[(⟨0, 10⟩ : Band)], 1⟩ : Rule), (⟨[(⟨5, 20⟩ : Band)], 2⟩ : Rule), (⟨[(⟨0, 20⟩ : Band)], 3⟩ : Rule)]
noncomputable def m_tariff_marks (k1 : Int) : Option Bool :=
 some ((decide (1 ≤ k1)) && (decide (k1 ≤ 4)))
noncomputable def m_tariff_fine_1 (b1 : Band) : Option Bool :=
 some (((decide (b1.Lo < 0)) || (decide (b1.Hi ≤ b1.Lo))) || (decide (1000 < b1.Hi)))
noncomputable def m_slices_IndexFunc_113_f103_l1 (s1 : (List Band)) : Int → Option (Int ⊕ (Unit ⊕ Int)) := fun v1 =>
 cond (decide (v1 < (s1.length : Int)))
  (
  (idx s1 v1).bind fun e1 =>
  (m_tariff_fine_1 e1).bind fun r1 =>
  cond r1
   (
   some (.inr (.inr v1))
   )
   (
   some (.inl (IntKind.i64.wrap (v1 + 1)))
   )
  )
  (
  some (.inr (.inl ()))
  )
noncomputable def m_slices_IndexFunc_113_f103 (s1 : (List Band)) : Option Int :=
 (
 (
  (
  (iter (m_slices_IndexFunc_113_f103_l1 s1) 0).bind fun x_7 => match x_7 with
    | (.inl y1) => some (.inl y1)
    | (.inr y2) => some (.inr y2)
  )
  : Option (Unit ⊕ Int)).bind fun o_1 => match o_1 with
   | (.inl _) =>
     some (-1)
   | (.inr y3) => some y3
 )
noncomputable def m_slices_ContainsFunc_104_f103 (s1 : (List Band)) : Option Bool :=
 (m_slices_IndexFunc_113_f103 s1).bind fun r1 =>
 some (decide (0 ≤ r1))
noncomputable def m_tariff_fine (k1 : Int) (r1 : Rule) : Option Bool :=
 ((cond (((decide ((r1.Bands.length : Int) = k1)) && (decide (0 ≤ r1.Code))) && (decide (r1.Code ≤ 99)))
  (
   (m_slices_ContainsFunc_104_f103 r1.Bands).bind fun r2 =>
   some (!r2)
  )
  (some false)
 ) : Option Bool).bind fun b1 =>
 some b1
noncomputable def m_tariff_checked_1_c (r1 : Rule) (k1 : Int) : Option Bool :=
 (m_tariff_fine k1 r1).bind fun r2 =>
 some (!r2)
noncomputable def m_slices_IndexFunc_99_f77_l1 (s1 : (List Rule)) (f1 : Int) : Int → Option (Int ⊕ (Unit ⊕ Int)) := fun v1 =>
 cond (decide (v1 < (s1.length : Int)))
  (
  (idx s1 v1).bind fun e1 =>
  (m_tariff_checked_1_c e1 f1).bind fun r1 =>
  cond r1
   (
   some (.inr (.inr v1))
   )
   (
   some (.inl (IntKind.i64.wrap (v1 + 1)))
   )
  )
  (
  some (.inr (.inl ()))
  )
noncomputable def m_slices_IndexFunc_99_f77 (s1 : (List Rule)) (f1 : Int) : Option Int :=
 (
 (
  (
  (iter (m_slices_IndexFunc_99_f77_l1 s1 f1) 0).bind fun x_7 => match x_7 with
    | (.inl y1) => some (.inl y1)
    | (.inr y2) => some (.inr y2)
  )
  : Option (Unit ⊕ Int)).bind fun o_1 => match o_1 with
   | (.inl _) =>
     some (-1)
   | (.inr y3) => some y3
 )
noncomputable def m_slices_ContainsFunc_76_f77 (s1 : (List Rule)) (f1 : Int) : Option Bool :=
 (m_slices_IndexFunc_99_f77 s1 f1).bind fun r1 =>
 some (decide (0 ≤ r1))
noncomputable def m_tariff_checked_l1 (k1 : Int) (ts1 : (List (List Rule))) : Int → Option (Int ⊕ (Unit ⊕ Int)) := fun v1 =>
 cond (decide (v1 < (ts1.length : Int)))
  (
  (idx ts1 v1).bind fun e1 =>
  cond (decide (24 < (e1.length : Int)))
   (
   some (.inr (.inr 3))
   )
   (
   (m_slices_ContainsFunc_76_f77 e1 k1).bind fun r2 =>
   cond r2
    (
    some (.inr (.inr 2))
    )
    (
    some (.inl (IntKind.i64.wrap (v1 + 1)))
    )
   )
  )
  (
  some (.inr (.inl ()))
  )
noncomputable def m_tariff_checked (k1 : Int) (ts1 : (List (List Rule))) : Option Int :=
 (m_tariff_marks k1).bind fun r1 =>
 cond (!r1)
  (
  some 2
  )
  (
  (
  (
   (
   (iter (m_tariff_checked_l1 k1 ts1) 0).bind fun x_10 => match x_10 with
     | (.inl y1) => some (.inl y1)
     | (.inr y2) => some (.inr y2)
   )
   : Option (Unit ⊕ Int)).bind fun o_4 => match o_4 with
    | (.inl _) =>
      some 0
    | (.inr y3) => some y3
  )
  )
noncomputable def m_tariff_all (t1 : (List Rule)) : Option Int :=
 guardO (0 ≤ (t1.length : Int)) <|
 some (IntKind.u32.wrap ((IntKind.u32.wrap (1 * (2 ^ (min ((t1.length : Int)).toNat 32)))) - 1))
noncomputable def m_tariff_cuts_l2 (mark1 : Int) (e1 : (List Rule)) : (Int × (List Int)) → Option ((Int × (List Int)) ⊕ (List Int)) := fun (v2, L4) =>
 cond (decide (v2 < (e1.length : Int)))
  (
  (idx e1 v2).bind fun e2 =>
  (idx e2.Bands mark1).bind fun e3 =>
  guardO (L4.length + [e3.Lo, e3.Hi].length ≤ 4294967296) <|
  some (.inl ((IntKind.i64.wrap (v2 + 1)), (L4 ++ [e3.Lo, e3.Hi])))
  )
  (
  some (.inr L4)
  )
noncomputable def m_tariff_cuts_l1 (mark1 : Int) (ts1 : (List (List Rule))) : (Int × (List Int)) → Option ((Int × (List Int)) ⊕ (List Int)) := fun (v1, L2) =>
 cond (decide (v1 < (ts1.length : Int)))
  (
  (
   (idx ts1 v1).bind fun e1 =>
   (iter (m_tariff_cuts_l2 mark1 e1) (0, L2)).bind fun x_21 =>
   some x_21
   : Option (List Int)).bind fun L3 =>
  some (.inl ((IntKind.i64.wrap (v1 + 1)), L3))
  )
  (
  some (.inr L2)
  )
noncomputable def m_tariff_cuts (mark1 : Int) (ts1 : (List (List Rule))) : Option (List Int) :=
 (
  (iter (m_tariff_cuts_l1 mark1 ts1) (0, [1000])).bind fun x_7 =>
  some x_7
  : Option (List Int)).bind fun L1 =>
 guardO (L1.length ≤ 4294967296) <|
 guardO ((sortI L1).length ≤ 4294967296) <|
 (
  (idx (List.take ((compactI (sortI L1)).length) (compactP (sortI L1))) 0).bind fun e4 =>
  cond (decide (e4 = 0))
   (
   guardO (0 ≤ 1 ∧ 1 ≤ ((List.take ((compactI (sortI L1)).length) (compactP (sortI L1))).length : Int) ∧ ((List.take ((compactI (sortI L1)).length) (compactP (sortI L1))).length : Int) ≤ ((List.take ((compactI (sortI L1)).length) (compactP (sortI L1))).length : Int)) <|
   some (((List.take ((compactI (sortI L1)).length) (compactP (sortI L1))).drop 1).take ((((List.take ((compactI (sortI L1)).length) (compactP (sortI L1))).length : Int) : Int) - 1).toNat)
   )
   (
   some (List.take ((compactI (sortI L1)).length) (compactP (sortI L1)))
   )
  : Option (List Int)).bind fun out1 =>
 some out1
noncomputable def m_tariff_fits_l1 (t1 : (List Rule)) (mark1 : Int) (value1 : Int) : (Int × Int) → Option ((Int × Int) ⊕ Int) := fun (out2, v1) =>
 cond (decide (v1 < (t1.length : Int)))
  (
  (
   (idx t1 v1).bind fun e1 =>
   (idx e1.Bands mark1).bind fun e2 =>
   cond ((decide (e2.Lo ≤ value1)) && (decide (value1 < e2.Hi)))
    (
    guardO (0 ≤ v1) <|
    some (IntKind.u32.wrap ↑(BitVec.ofInt IntKind.u32.bits out2 ||| BitVec.ofInt IntKind.u32.bits (IntKind.u32.wrap (1 * (2 ^ (min (v1).toNat 32))))).toNat)
    )
    (
    some out2
    )
   : Option Int).bind fun out3 =>
  some (.inl (out3, (IntKind.i64.wrap (v1 + 1))))
  )
  (
  some (.inr out2)
  )
noncomputable def m_tariff_fits (t1 : (List Rule)) (mark1 : Int) (value1 : Int) : Option Int :=
 (
  (iter (m_tariff_fits_l1 t1 mark1 value1) (0, 0)).bind fun x_7 =>
  some x_7
  : Option Int).bind fun out1 =>
 some out1
noncomputable def m_tariff_set_first_l1 (s1 : Int) : Int → Option (Int ⊕ (Unit ⊕ Int)) := fun v1 =>
 cond (decide (v1 < 24))
  (
  guardO (0 ≤ v1) <|
  cond (decide (¬(IntKind.u32.wrap ↑(BitVec.ofInt IntKind.u32.bits s1 &&& BitVec.ofInt IntKind.u32.bits (IntKind.u32.wrap (1 * (2 ^ (min (v1).toNat 32))))).toNat) = 0))
   (
   some (.inr (.inr v1))
   )
   (
   some (.inl (IntKind.i64.wrap (v1 + 1)))
   )
  )
  (
  some (.inr (.inl ()))
  )
noncomputable def m_tariff_set_first (s1 : Int) : Option Int :=
 (
 (
  (
  (iter (m_tariff_set_first_l1 s1) 0).bind fun x_7 => match x_7 with
    | (.inl y1) => some (.inl y1)
    | (.inr y2) => some (.inr y2)
  )
  : Option (Unit ⊕ Int)).bind fun o_1 => match o_1 with
   | (.inl _) =>
     some (-1)
   | (.inr y3) => some y3
 )
noncomputable def m_tariff_counts_1_h_l2 (from1 : Int) (e1 : Int) (r3 : ((List Int) × (List (Arr3_Int × (List Int))))) : (Int × (List Int)) → Option ((Int × (List Int)) ⊕ ((List (Arr3_Int × (List Int))) × (List Int))) := fun (v2, L5) =>
 cond (decide (v2 < (r3.1.length : Int)))
  (
  (idx r3.1 v2).bind fun e2 =>
  (idx L5 v2).bind fun e3 =>
  some (.inl ((IntKind.i64.wrap (v2 + 1)), (L5.set (v2).toNat (IntKind.i64.wrap (e3 + (IntKind.i64.wrap (e2 * (IntKind.i64.wrap (e1 - from1)))))))))
  )
  (
  some (.inr (r3.2, L5))
  )
noncomputable def m_tariff_counts_1_h_l1 (mark1 : Int) (a1 : Int) (o1 : (List Rule)) (o2 : Int) (self : ((List Rule) → Int → (List (Arr3_Int × (List Int))) → Int → Int → Option ((List Int) × (List (Arr3_Int × (List Int)))))) (r1 : (List Int)) : (Int × Int × (List (Arr3_Int × (List Int))) × (List Int)) → Option ((Int × Int × (List (Arr3_Int × (List Int))) × (List Int)) ⊕ ((List (Arr3_Int × (List Int))) × (List Int))) := fun (from1, v1, M2, L2) =>
 cond (decide (v1 < (r1.length : Int)))
  (
  (
   (idx r1 v1).bind fun e1 =>
   (m_tariff_fits o1 mark1 from1).bind fun r2 =>
   (
    cond (decide ((IntKind.i64.wrap (mark1 + 1)) < o2))
     (
     (self o1 o2 M2 (IntKind.i64.wrap (mark1 + 1)) (IntKind.u32.wrap ↑(BitVec.ofInt IntKind.u32.bits a1 &&& BitVec.ofInt IntKind.u32.bits r2).toNat)).bind fun r3 =>
     (iter (m_tariff_counts_1_h_l2 from1 e1 r3) (0, L2)).bind fun x_30 =>
     some x_30
     )
     (
     (m_tariff_set_first (IntKind.u32.wrap ↑(BitVec.ofInt IntKind.u32.bits a1 &&& BitVec.ofInt IntKind.u32.bits r2).toNat)).bind fun r4 =>
     cond (decide (r4 < 0))
      (
      (idx L2 (o1.length : Int)).bind fun e4 =>
      some (M2, (L2.set ((o1.length : Int)).toNat (IntKind.i64.wrap (e4 + (IntKind.i64.wrap (e1 - from1))))))
      )
      (
      (idx L2 r4).bind fun e5 =>
      some (M2, (L2.set (r4).toNat (IntKind.i64.wrap (e5 + (IntKind.i64.wrap (e1 - from1))))))
      )
     )
    : Option ((List (Arr3_Int × (List Int))) × (List Int))).bind fun (M4, L4) =>
   some (e1, M4, L4)
   : Option (Int × (List (Arr3_Int × (List Int))) × (List Int))).bind fun (from2, M3, L3) =>
  some (.inl (from2, (IntKind.i64.wrap (v1 + 1)), M3, L3))
  )
  (
  some (.inr (M2, L2))
  )
noncomputable def m_tariff_counts_1_h_b (self : ((List Rule) → Int → (List (Arr3_Int × (List Int))) → Int → Int → Option ((List Int) × (List (Arr3_Int × (List Int)))))) (o1 : (List Rule)) (o2 : Int) (m1 : (List (Arr3_Int × (List Int)))) (mark1 : Int) (a1 : Int) : Option ((List Int) × (List (Arr3_Int × (List Int)))) :=
 cond ((mget (⟨mark1, (IntKind.i64.wrap a1), 0⟩ : Arr3_Int) m1).isSome)
  (
  some (((mget (⟨mark1, (IntKind.i64.wrap a1), 0⟩ : Arr3_Int) m1).getD []), m1)
  )
  (
  guardO (0 ≤ (IntKind.i64.wrap ((o1.length : Int) + 1)) ∧ (IntKind.i64.wrap ((o1.length : Int) + 1)) ≤ 4294967296) <|
  (
   (m_tariff_cuts mark1 [o1]).bind fun r1 =>
   (iter (m_tariff_counts_1_h_l1 mark1 a1 o1 o2 self r1) (0, 0, m1, (List.replicate ((IntKind.i64.wrap ((o1.length : Int) + 1))).toNat (0 : Int)))).bind fun x_11 =>
   some x_11
   : Option ((List (Arr3_Int × (List Int))) × (List Int))).bind fun (M1, L1) =>
  some (L1, (mset (⟨mark1, (IntKind.i64.wrap a1), 0⟩ : Arr3_Int) L1 M1))
  )
noncomputable def m_tariff_counts_1_h : Nat → (List Rule) → Int → (List (Arr3_Int × (List Int))) → Int → Int → Option ((List Int) × (List (Arr3_Int × (List Int))))
  | 0 => fun _ _ _ _ _ => none
  | n + 1 => m_tariff_counts_1_h_b (m_tariff_counts_1_h n)
noncomputable def m_tariff_counts (k1 : Int) (t1 : (List Rule)) : Option (List Int) :=
 (m_tariff_all t1).bind fun r1 =>
 (m_tariff_counts_1_h 100 t1 k1 [] 0 r1).bind fun r2 =>
 (cloneO r2.1).bind fun r3 =>
 some r3
noncomputable def m_tariff_Dead_l1 (t1 : (List Rule)) (r2 : (List Int)) : (Int × (List Int)) → Option ((Int × (List Int)) ⊕ (List Int)) := fun (v1, L2) =>
 cond (decide (v1 < ((r2.take (((t1.length : Int) : Int) - 0).toNat).length : Int)))
  (
  (
   (idx (r2.take (((t1.length : Int) : Int) - 0).toNat) v1).bind fun e1 =>
   cond (decide (e1 = 0))
    (
    guardO (L2.length + [v1].length ≤ 4294967296) <|
    some (L2 ++ [v1])
    )
    (
    some L2
    )
   : Option (List Int)).bind fun L3 =>
  some (.inl ((IntKind.i64.wrap (v1 + 1)), L3))
  )
  (
  some (.inr L2)
  )
noncomputable def m_tariff_Dead (k1 : Int) (t1 : (List Rule)) : Option ((List Int) × Int) :=
 (m_tariff_checked k1 [t1]).bind fun r1 =>
 cond (decide (¬r1 = 0))
  (
  some ([], r1)
  )
  (
  (
   (m_tariff_counts k1 t1).bind fun r2 =>
   guardO (0 ≤ 0 ∧ 0 ≤ (t1.length : Int) ∧ (t1.length : Int) ≤ (r2.length : Int)) <|
   (iter (m_tariff_Dead_l1 t1 r2) (0, [])).bind fun x_12 =>
   some x_12
   : Option (List Int)).bind fun L1 =>
  some (L1, 0)
  )
noncomputable def m_tariff_Gap_1 (i1 : Int) (v1 : Int) : Option Bool :=
 some (decide (i1 < 0))
noncomputable def m_tariff_walker_find_1_h_f50_l1 (mark1 : Int) (a1 : Int) (b1 : Int) (o1 : Walker) (self : (Walker → (List (Arr3_Int × Bool)) → Int → Int → Int → Option ((List Int) × Bool × (List (Arr3_Int × Bool))))) (r4 : (List Int)) : (Int × Int × (List (Arr3_Int × Bool))) → Option ((Int × Int × (List (Arr3_Int × Bool))) ⊕ ((List (Arr3_Int × Bool)) ⊕ ((List Int) × Bool × (List (Arr3_Int × Bool))))) := fun (from1, v1, M2) =>
 cond (decide (v1 < (r4.length : Int)))
  (
  (idx r4 v1).bind fun e1 =>
  (m_tariff_fits o1.s mark1 from1).bind fun r5 =>
  (m_tariff_fits o1.t mark1 from1).bind fun r6 =>
  (self o1 M2 (IntKind.i64.wrap (mark1 + 1)) (IntKind.u32.wrap ↑(BitVec.ofInt IntKind.u32.bits a1 &&& BitVec.ofInt IntKind.u32.bits r5).toNat) (IntKind.u32.wrap ↑(BitVec.ofInt IntKind.u32.bits b1 &&& BitVec.ofInt IntKind.u32.bits r6).toNat)).bind fun r7 =>
  cond r7.2.1
   (
   guardO (1 + r7.1.length ≤ 4294967296) <|
   some (.inr (.inr (([from1] ++ r7.1), true, r7.2.2)))
   )
   (
   some (.inl (e1, (IntKind.i64.wrap (v1 + 1)), r7.2.2))
   )
  )
  (
  some (.inr (.inl M2))
  )
noncomputable def m_tariff_walker_find_1_h_f50_b (self : (Walker → (List (Arr3_Int × Bool)) → Int → Int → Int → Option ((List Int) × Bool × (List (Arr3_Int × Bool))))) (o1 : Walker) (m1 : (List (Arr3_Int × Bool))) (mark1 : Int) (a1 : Int) (b1 : Int) : Option ((List Int) × Bool × (List (Arr3_Int × Bool))) :=
 cond (decide (mark1 = o1.k))
  (
  (m_tariff_set_first a1).bind fun r1 =>
  (m_tariff_set_first b1).bind fun r2 =>
  (m_tariff_Gap_1 r1 r2).bind fun r3 =>
  some ([], r3, m1)
  )
  (
  cond ((mget (⟨mark1, (IntKind.i64.wrap a1), (IntKind.i64.wrap b1)⟩ : Arr3_Int) m1).getD false)
   (
   some ([], false, m1)
   )
   (
   (
   (
    (m_tariff_cuts mark1 [o1.s, o1.t]).bind fun r4 =>
    (
    (iter (m_tariff_walker_find_1_h_f50_l1 mark1 a1 b1 o1 self r4) (0, 0, m1)).bind fun x_15 => match x_15 with
      | (.inl y1) => some (.inl y1)
      | (.inr y2) => some (.inr y2)
    )
    : Option ((List (Arr3_Int × Bool)) ⊕ ((List Int) × Bool × (List (Arr3_Int × Bool))))).bind fun o_8 => match o_8 with
     | (.inl M1) =>
       some ([], false, (mset (⟨mark1, (IntKind.i64.wrap a1), (IntKind.i64.wrap b1)⟩ : Arr3_Int) true M1))
     | (.inr y3) => some y3
   )
   )
  )
noncomputable def m_tariff_walker_find_1_h_f50 : Nat → Walker → (List (Arr3_Int × Bool)) → Int → Int → Int → Option ((List Int) × Bool × (List (Arr3_Int × Bool)))
  | 0 => fun _ _ _ _ _ => none
  | n + 1 => m_tariff_walker_find_1_h_f50_b (m_tariff_walker_find_1_h_f50 n)
noncomputable def m_tariff_walker_find_f50 (w1 : Walker) : Option ((List Int) × Bool) :=
 (m_tariff_all w1.s).bind fun r1 =>
 (m_tariff_all w1.t).bind fun r2 =>
 (m_tariff_walker_find_1_h_f50 100 w1 [] 0 r1 r2).bind fun r3 =>
 some (r3.1, r3.2.1)
noncomputable def m_tariff_found (l1 : (List Int)) (ok1 : Bool) : Option ((List Int) × Int) :=
 cond (!ok1)
  (
  some ([], 10)
  )
  (
  some (l1, 0)
  )
noncomputable def m_tariff_Gap (k1 : Int) (t1 : (List Rule)) : Option ((List Int) × Int) :=
 (m_tariff_checked k1 [t1]).bind fun r1 =>
 cond (decide (¬r1 = 0))
  (
  some ([], r1)
  )
  (
  (m_tariff_walker_find_f50 (⟨k1, t1, []⟩ : Walker)).bind fun r2 =>
  (m_tariff_found r2.1 r2.2).bind fun r3 =>
  some (r3.1, r3.2)
  )
noncomputable def m_tariff_builder_leaf_h (o1 : Builder) (a1 : Int) : Option (Int × Builder) :=
 (m_tariff_set_first a1).bind fun r1 =>
 cond (decide (r1 < 0))
  (
  some ((-1), o1)
  )
  (
  (idx o1.rules r1).bind fun e1 =>
  some ((IntKind.i64.wrap ((-2) - e1.Code)), o1)
  )
noncomputable def m_tariff_merged_l1 (ends1 : (List Int)) (to1 : (List Int)) : (Int × (List Int) × (List Int)) → Option ((Int × (List Int) × (List Int)) ⊕ ((List Int) × (List Int))) := fun (v1, L3, L4) =>
 cond (decide (v1 < (to1.length : Int)))
  (
  (
   (idx to1 v1).bind fun e1 =>
   ((cond (decide (0 < (L4.length : Int)))
    (
     (idx L4 (IntKind.i64.wrap ((L4.length : Int) - 1))).bind fun e2 =>
     some (decide (e2 = e1))
    )
    (some false)
   ) : Option Bool).bind fun b1 =>
   cond b1
    (
    (idx ends1 v1).bind fun e3 =>
    (idx L3 (IntKind.i64.wrap ((L4.length : Int) - 1))).bind fun e4 =>
    some ((L3.set ((IntKind.i64.wrap ((L4.length : Int) - 1))).toNat e3), L4)
    )
    (
    (idx ends1 v1).bind fun e5 =>
    guardO (L3.length + [e5].length ≤ 4294967296) <|
    guardO (L4.length + [e1].length ≤ 4294967296) <|
    some ((L3 ++ [e5]), (L4 ++ [e1]))
    )
   : Option ((List Int) × (List Int))).bind fun (L5, L6) =>
  some (.inl ((IntKind.i64.wrap (v1 + 1)), L5, L6))
  )
  (
  some (.inr (L3, L4))
  )
noncomputable def m_tariff_merged (ends1 : (List Int)) (to1 : (List Int)) : Option ((List Int) × (List Int)) :=
 (
  (iter (m_tariff_merged_l1 ends1 to1) (0, [], [])).bind fun x_7 =>
  some x_7
  : Option ((List Int) × (List Int))).bind fun (L1, L2) =>
 some (L1, L2)
noncomputable def m_tariff_builder_node_h_l2 (e1 : (List Int)) : (Int × Bool × (List Int)) → Option ((Int × Bool × (List Int)) ⊕ (Bool × (List Int))) := fun (v2, c5, L5) =>
 cond (decide (v2 < (e1.length : Int)))
  (
  (idx e1 v2).bind fun e2 =>
  (itoaO e2).bind fun r1 =>
  guardO (bsz r1 + bsz (⟨#[32]⟩ : ByteArray) ≤ 4294967296) <|
  (bWrite (⟨c5, L5⟩ : StringsBuilder) (r1 ++ (⟨#[32]⟩ : ByteArray))).bind fun r2 =>
  some (.inl ((IntKind.i64.wrap (v2 + 1)), true, r2.buf))
  )
  (
  some (.inr (c5, L5))
  )
noncomputable def m_tariff_builder_node_h_l1 (x1 : Node) : (Int × Bool × (List Int)) → Option ((Int × Bool × (List Int)) ⊕ (Bool × (List Int))) := fun (v1, c2, L2) =>
 cond (decide (v1 < ([[x1.Mark], x1.Cuts, x1.To].length : Int)))
  (
  (
   (idx [[x1.Mark], x1.Cuts, x1.To] v1).bind fun e1 =>
   (
    (iter (m_tariff_builder_node_h_l2 e1) (0, c2, L2)).bind fun x_23 =>
    some x_23
    : Option (Bool × (List Int))).bind fun (c4, L4) =>
   (bWriteByte (⟨c4, L4⟩ : StringsBuilder) 124).bind fun r3 =>
   some (true, r3.buf)
   : Option (Bool × (List Int))).bind fun (c3, L3) =>
  some (.inl ((IntKind.i64.wrap (v1 + 1)), c3, L3))
  )
  (
  some (.inr (c2, L2))
  )
noncomputable def m_tariff_builder_node_h (o1 : Builder) (x1 : Node) : Option (Int × Builder) :=
 (
  (iter (m_tariff_builder_node_h_l1 x1) (0, false, [])).bind fun x_7 =>
  some x_7
  : Option (Bool × (List Int))).bind fun (c1, L1) =>
 (bString (⟨c1, L1⟩ : StringsBuilder)).bind fun r4 =>
 (
  cond (!((mget r4 o1.same).isSome))
   (
   (bString (⟨c1, L1⟩ : StringsBuilder)).bind fun r5 =>
   guardO (o1.nodes.length + [x1].length ≤ 4294967296) <|
   some ((o1.nodes.length : Int), (mset r5 (o1.nodes.length : Int) o1.same), (o1.nodes ++ [x1]))
   )
   (
   some (((mget r4 o1.same).getD 0), o1.same, o1.nodes)
   )
  : Option (Int × (List (ByteArray × Int)) × (List Node))).bind fun (n1, M1, L6) =>
 some (n1, (⟨o1.k, o1.rules, o1.known, M1, L6⟩ : Builder))
noncomputable def m_tariff_builder_at_h_l1 (mark1 : Int) (a1 : Int) (self : (Builder → Int → Int → Option (Int × Builder))) (r2 : (List Int)) : (Int × Int × Int × (List Rule) × (List (Arr3_Int × Int)) × (List (ByteArray × Int)) × (List Node) × (List Int)) → Option ((Int × Int × Int × (List Rule) × (List (Arr3_Int × Int)) × (List (ByteArray × Int)) × (List Node) × (List Int)) ⊕ (Int × (List Rule) × (List (Arr3_Int × Int)) × (List (ByteArray × Int)) × (List Node) × (List Int))) := fun (from1, v1, c3, c4, M3, M4, L3, L4) =>
 cond (decide (v1 < (r2.length : Int)))
  (
  (idx r2 v1).bind fun e1 =>
  (m_tariff_fits c4 mark1 from1).bind fun r3 =>
  (self (⟨c3, c4, M3, M4, L3⟩ : Builder) (IntKind.i64.wrap (mark1 + 1)) (IntKind.u32.wrap ↑(BitVec.ofInt IntKind.u32.bits a1 &&& BitVec.ofInt IntKind.u32.bits r3).toNat)).bind fun r4 =>
  guardO (L4.length + [r4.1].length ≤ 4294967296) <|
  some (.inl (e1, (IntKind.i64.wrap (v1 + 1)), r4.2.k, r4.2.rules, r4.2.known, r4.2.same, r4.2.nodes, (L4 ++ [r4.1])))
  )
  (
  some (.inr (c3, c4, M3, M4, L3, L4))
  )
noncomputable def m_tariff_builder_at_h_b (self : (Builder → Int → Int → Option (Int × Builder))) (o1 : Builder) (mark1 : Int) (a1 : Int) : Option (Int × Builder) :=
 cond (decide (mark1 = o1.k))
  (
  (m_tariff_builder_leaf_h o1 a1).bind fun r1 =>
  some (r1.1, r1.2)
  )
  (
  cond ((mget (⟨mark1, (IntKind.i64.wrap a1), 0⟩ : Arr3_Int) o1.known).isSome)
   (
   some (((mget (⟨mark1, (IntKind.i64.wrap a1), 0⟩ : Arr3_Int) o1.known).getD 0), o1)
   )
   (
   (m_tariff_cuts mark1 [o1.rules]).bind fun r2 =>
   (
    (iter (m_tariff_builder_at_h_l1 mark1 a1 self r2) (0, 0, o1.k, o1.rules, o1.known, o1.same, o1.nodes, [])).bind fun x_13 =>
    some x_13
    : Option (Int × (List Rule) × (List (Arr3_Int × Int)) × (List (ByteArray × Int)) × (List Node) × (List Int))).bind fun (c1, c2, M1, M2, L1, L2) =>
   (m_tariff_merged r2 L2).bind fun r5 =>
   (idx r5.2 0).bind fun e2 =>
   (
    cond (decide (1 < (r5.2.length : Int)))
     (
     (m_tariff_builder_node_h (⟨c1, c2, M1, M2, L1⟩ : Builder) (⟨mark1, r5.1, r5.2⟩ : Node)).bind fun r6 =>
     some (r6.1, r6.2.k, r6.2.rules, r6.2.known, r6.2.same, r6.2.nodes)
     )
     (
     some (e2, c1, c2, M1, M2, L1)
     )
    : Option (Int × Int × (List Rule) × (List (Arr3_Int × Int)) × (List (ByteArray × Int)) × (List Node))).bind fun (n1, c5, c6, M5, M6, L5) =>
   some (n1, (⟨c5, c6, (mset (⟨mark1, (IntKind.i64.wrap a1), 0⟩ : Arr3_Int) n1 M5), M6, L5⟩ : Builder))
   )
  )
noncomputable def m_tariff_builder_at_h : Nat → Builder → Int → Int → Option (Int × Builder)
  | 0 => fun _ _ _ => none
  | n + 1 => m_tariff_builder_at_h_b (m_tariff_builder_at_h n)
noncomputable def m_tariff_builder_ordered_1_h_l1 (l1 : (List Node)) (o1 : Builder) (self : ((List (Int × Int)) → (List Node) → Builder → Int → Option (Int × (List (Int × Int)) × (List Node)))) (e2 : Node) : (Int × (List (Int × Int)) × (List Node)) → Option ((Int × (List (Int × Int)) × (List Node)) ⊕ ((List (Int × Int)) × (List Node))) := fun (v1, M2, L2) =>
 cond (decide (v1 < (e2.To.length : Int)))
  (
  (idx e2.To v1).bind fun e3 =>
  (self M2 L2 o1 e3).bind fun r2 =>
  (idx r2.2.2 (l1.length : Int)).bind fun e4 =>
  guardO (e4.To.length + [r2.1].length ≤ 4294967296) <|
  some (.inl ((IntKind.i64.wrap (v1 + 1)), r2.2.1, (r2.2.2.set (((l1.length : Int)).toNat) (⟨e4.Mark, e4.Cuts, (e4.To ++ [r2.1])⟩ : Node))))
  )
  (
  some (.inr (M2, L2))
  )
noncomputable def m_tariff_builder_ordered_1_h_b (self : ((List (Int × Int)) → (List Node) → Builder → Int → Option (Int × (List (Int × Int)) × (List Node)))) (m1 : (List (Int × Int))) (l1 : (List Node)) (o1 : Builder) (n1 : Int) : Option (Int × (List (Int × Int)) × (List Node)) :=
 cond (decide (n1 < 0))
  (
  some (n1, m1, l1)
  )
  (
  cond ((mget n1 m1).isSome)
   (
   some (((mget n1 m1).getD 0), m1, l1)
   )
   (
   (idx o1.nodes n1).bind fun e1 =>
   (cloneO e1.Cuts).bind fun r1 =>
   guardO (l1.length + 1 ≤ 4294967296) <|
   (
    (idx o1.nodes n1).bind fun e2 =>
    (iter (m_tariff_builder_ordered_1_h_l1 l1 o1 self e2) (0, (mset n1 (l1.length : Int) m1), (l1 ++ [(⟨e1.Mark, r1, []⟩ : Node)]))).bind fun x_21 =>
    some x_21
    : Option ((List (Int × Int)) × (List Node))).bind fun (M1, L1) =>
   some ((l1.length : Int), M1, L1)
   )
  )
noncomputable def m_tariff_builder_ordered_1_h : Nat → (List (Int × Int)) → (List Node) → Builder → Int → Option (Int × (List (Int × Int)) × (List Node))
  | 0 => fun _ _ _ _ => none
  | n + 1 => m_tariff_builder_ordered_1_h_b (m_tariff_builder_ordered_1_h n)
noncomputable def m_tariff_builder_ordered_h (o1 : Builder) (top1 : Int) : Option ((List Node) × Builder) :=
 (m_tariff_builder_ordered_1_h 100 [] [] o1 top1).bind fun r1 =>
 some (r1.2.2, o1)
noncomputable def m_tariff_Diagram (k1 : Int) (t1 : (List Rule)) : Option ((List Node) × Int) :=
 (m_tariff_checked k1 [t1]).bind fun r1 =>
 cond (decide (¬r1 = 0))
  (
  some ([], r1)
  )
  (
  (m_tariff_all t1).bind fun r2 =>
  (m_tariff_builder_at_h 100 (⟨k1, t1, [], [], []⟩ : Builder) 0 r2).bind fun r3 =>
  cond (decide (r3.1 < 0))
   (
   some ([(⟨0, [1000], [r3.1]⟩ : Node)], 0)
   )
   (
   (m_tariff_builder_ordered_h r3.2 r3.1).bind fun r4 =>
   some (r4.1, 0)
   )
  )
noncomputable def m_cocketlaw02_same_l1 (a1 : (List Int)) (b1 : (List Int)) : Int → Option (Int ⊕ (Unit ⊕ Bool)) := fun i1 =>
 cond (decide (i1 < (a1.length : Int)))
  (
  (idx a1 i1).bind fun e1 =>
  (idx b1 i1).bind fun e2 =>
  cond (decide (¬e1 = e2))
   (
   some (.inr (.inr false))
   )
   (
   some (.inl (IntKind.i64.wrap (i1 + 1)))
   )
  )
  (
  some (.inr (.inl ()))
  )
noncomputable def m_cocketlaw02_same (a1 : (List Int)) (b1 : (List Int)) : Option Bool :=
 cond (decide (¬(a1.length : Int) = (b1.length : Int)))
  (
  some false
  )
  (
  (
  (
   (
   (iter (m_cocketlaw02_same_l1 a1 b1) 0).bind fun x_9 => match x_9 with
     | (.inl y1) => some (.inl y1)
     | (.inr y2) => some (.inr y2)
   )
   : Option (Unit ⊕ Bool)).bind fun o_3 => match o_3 with
    | (.inl _) =>
      some true
    | (.inr y3) => some y3
  )
  )
noncomputable def m_cocketlaw02_alive : Option Bool :=
 (m_cocketlaw02_three).bind fun r1 =>
 (m_tariff_Dead 1 r1).bind fun r2 =>
 (m_cocketlaw02_three).bind fun r3 =>
 (m_tariff_Gap 1 r3).bind fun r4 =>
 (m_cocketlaw02_three).bind fun r5 =>
 (m_tariff_Diagram 1 r5).bind fun r6 =>
 ((cond (decide (r2.2 = 0))
  (
   (m_cocketlaw02_same r2.1 [2]).bind fun r7 =>
   some r7
  )
  (some false)
 ) : Option Bool).bind fun b1 =>
 ((cond (b1 && (decide (r4.2 = 0)))
  (
   (m_cocketlaw02_same r4.1 [20]).bind fun r8 =>
   some r8
  )
  (some false)
 ) : Option Bool).bind fun b2 =>
 ((cond ((b2 && (decide (r6.2 = 0))) && (decide ((r6.1.length : Int) = 1)))
  (
   (idx r6.1 0).bind fun e1 =>
   (m_cocketlaw02_same e1.To [(-3), (-4), (-1)]).bind fun r9 =>
   some r9
  )
  (some false)
 ) : Option Bool).bind fun b3 =>
 some b3
noncomputable def m_cocketlaw02_rules_l3 (a1 : (List Rule)) (b1 : (List Rule)) (i1 : Int) : Int → Option (Int ⊕ (Unit ⊕ Bool)) := fun k2 =>
 (idx a1 i1).bind fun e8 =>
 cond (decide (k2 < (e8.Bands.length : Int)))
  (
  (idx a1 i1).bind fun e9 =>
  (idx e9.Bands k2).bind fun e10 =>
  (idx b1 i1).bind fun e11 =>
  (idx e11.Bands k2).bind fun e12 =>
  cond (!((e10.Lo == e12.Lo) && (e10.Hi == e12.Hi)))
   (
   some (.inr (.inr false))
   )
   (
   some (.inl (IntKind.i64.wrap (k2 + 1)))
   )
  )
  (
  some (.inr (.inl ()))
  )
noncomputable def m_cocketlaw02_rules_l1 (a1 : (List Rule)) (b1 : (List Rule)) : Int → Option (Int ⊕ (Unit ⊕ Bool)) := fun i1 =>
 cond (decide (i1 < (a1.length : Int)))
  (
  (
  (
   (idx a1 i1).bind fun e1 =>
   (idx b1 i1).bind fun e2 =>
   cond (decide (¬e1.Code = e2.Code))
    (
    some (.inr false)
    )
    (
    cond (decide (¬(e1.Bands.length : Int) = (e2.Bands.length : Int)))
     (
     some (.inr false)
     )
     (
     (
     (iter (m_cocketlaw02_rules_l3 a1 b1 i1) 0).bind fun x_61 => match x_61 with
       | (.inl y3) => some (.inl y3)
       | (.inr y4) => some (.inr y4)
     )
     )
    )
   : Option (Unit ⊕ Bool)).bind fun o_13 => match o_13 with
    | (.inl _) =>
      some (.inl (IntKind.i64.wrap (i1 + 1)))
    | (.inr y5) => some (.inr (.inr y5))
  )
  )
  (
  some (.inr (.inl ()))
  )
noncomputable def m_cocketlaw02_rules (a1 : (List Rule)) (b1 : (List Rule)) : Option Bool :=
 cond (decide (¬(a1.length : Int) = (b1.length : Int)))
  (
  some false
  )
  (
  (
  (
   (
   (iter (m_cocketlaw02_rules_l1 a1 b1) 0).bind fun x_9 => match x_9 with
     | (.inl y6) => some (.inl y6)
     | (.inr y7) => some (.inr y7)
   )
   : Option (Unit ⊕ Bool)).bind fun o_3 => match o_3 with
    | (.inl _) =>
      some true
    | (.inr y8) => some y8
  )
  )
noncomputable def m_tariff_Counts (k1 : Int) (t1 : (List Rule)) : Option ((List Int) × Int × Int) :=
 (m_tariff_checked k1 [t1]).bind fun r1 =>
 cond (decide (¬r1 = 0))
  (
  some ([], 0, r1)
  )
  (
  (m_tariff_counts k1 t1).bind fun r2 =>
  guardO (0 ≤ 0 ∧ 0 ≤ (t1.length : Int) ∧ (t1.length : Int) ≤ (r2.length : Int)) <|
  (idx r2 (t1.length : Int)).bind fun e1 =>
  some ((r2.take (((t1.length : Int) : Int) - 0).toNat), e1, 0)
  )
noncomputable def m_tariff_differ_1 (t1 : (List Rule)) (i1 : Int) : Option Int :=
 cond (decide (i1 < 0))
  (
  some (-1)
  )
  (
  (idx t1 i1).bind fun e1 =>
  some e1.Code
  )
noncomputable def m_tariff_differ_2_f94 (i1 : Int) (j1 : Int) (k1 : (List Rule)) (k2 : (List Rule)) : Option Bool :=
 (m_tariff_differ_1 k1 i1).bind fun r1 =>
 (m_tariff_differ_1 k2 j1).bind fun r2 =>
 some (decide (¬r1 = r2))
noncomputable def m_tariff_walker_find_1_h_f95_f94_l1 (mark1 : Int) (a1 : Int) (b1 : Int) (o1 : Walker) (o2 : (List Rule)) (o3 : (List Rule)) (self : (Walker → (List Rule) → (List Rule) → (List (Arr3_Int × Bool)) → Int → Int → Int → Option ((List Int) × Bool × (List (Arr3_Int × Bool))))) (r4 : (List Int)) : (Int × Int × (List (Arr3_Int × Bool))) → Option ((Int × Int × (List (Arr3_Int × Bool))) ⊕ ((List (Arr3_Int × Bool)) ⊕ ((List Int) × Bool × (List (Arr3_Int × Bool))))) := fun (from1, v1, M2) =>
 cond (decide (v1 < (r4.length : Int)))
  (
  (idx r4 v1).bind fun e1 =>
  (m_tariff_fits o1.s mark1 from1).bind fun r5 =>
  (m_tariff_fits o1.t mark1 from1).bind fun r6 =>
  (self o1 o2 o3 M2 (IntKind.i64.wrap (mark1 + 1)) (IntKind.u32.wrap ↑(BitVec.ofInt IntKind.u32.bits a1 &&& BitVec.ofInt IntKind.u32.bits r5).toNat) (IntKind.u32.wrap ↑(BitVec.ofInt IntKind.u32.bits b1 &&& BitVec.ofInt IntKind.u32.bits r6).toNat)).bind fun r7 =>
  cond r7.2.1
   (
   guardO (1 + r7.1.length ≤ 4294967296) <|
   some (.inr (.inr (([from1] ++ r7.1), true, r7.2.2)))
   )
   (
   some (.inl (e1, (IntKind.i64.wrap (v1 + 1)), r7.2.2))
   )
  )
  (
  some (.inr (.inl M2))
  )
noncomputable def m_tariff_walker_find_1_h_f95_f94_b (self : (Walker → (List Rule) → (List Rule) → (List (Arr3_Int × Bool)) → Int → Int → Int → Option ((List Int) × Bool × (List (Arr3_Int × Bool))))) (o1 : Walker) (o2 : (List Rule)) (o3 : (List Rule)) (m1 : (List (Arr3_Int × Bool))) (mark1 : Int) (a1 : Int) (b1 : Int) : Option ((List Int) × Bool × (List (Arr3_Int × Bool))) :=
 cond (decide (mark1 = o1.k))
  (
  (m_tariff_set_first a1).bind fun r1 =>
  (m_tariff_set_first b1).bind fun r2 =>
  (m_tariff_differ_2_f94 r1 r2 o2 o3).bind fun r3 =>
  some ([], r3, m1)
  )
  (
  cond ((mget (⟨mark1, (IntKind.i64.wrap a1), (IntKind.i64.wrap b1)⟩ : Arr3_Int) m1).getD false)
   (
   some ([], false, m1)
   )
   (
   (
   (
    (m_tariff_cuts mark1 [o1.s, o1.t]).bind fun r4 =>
    (
    (iter (m_tariff_walker_find_1_h_f95_f94_l1 mark1 a1 b1 o1 o2 o3 self r4) (0, 0, m1)).bind fun x_15 => match x_15 with
      | (.inl y1) => some (.inl y1)
      | (.inr y2) => some (.inr y2)
    )
    : Option ((List (Arr3_Int × Bool)) ⊕ ((List Int) × Bool × (List (Arr3_Int × Bool))))).bind fun o_8 => match o_8 with
     | (.inl M1) =>
       some ([], false, (mset (⟨mark1, (IntKind.i64.wrap a1), (IntKind.i64.wrap b1)⟩ : Arr3_Int) true M1))
     | (.inr y3) => some y3
   )
   )
  )
noncomputable def m_tariff_walker_find_1_h_f95_f94 : Nat → Walker → (List Rule) → (List Rule) → (List (Arr3_Int × Bool)) → Int → Int → Int → Option ((List Int) × Bool × (List (Arr3_Int × Bool)))
  | 0 => fun _ _ _ _ _ _ _ => none
  | n + 1 => m_tariff_walker_find_1_h_f95_f94_b (m_tariff_walker_find_1_h_f95_f94 n)
noncomputable def m_tariff_walker_find_f95_f94 (w1 : Walker) (wanted1 : (List Rule)) (wanted2 : (List Rule)) : Option ((List Int) × Bool) :=
 (m_tariff_all w1.s).bind fun r1 =>
 (m_tariff_all w1.t).bind fun r2 =>
 (m_tariff_walker_find_1_h_f95_f94 100 w1 wanted1 wanted2 [] 0 r1 r2).bind fun r3 =>
 some (r3.1, r3.2.1)
noncomputable def m_tariff_differ (k1 : Int) (s1 : (List Rule)) (t1 : (List Rule)) : Option ((List Int) × Bool) :=
 (m_tariff_walker_find_f95_f94 (⟨k1, s1, t1⟩ : Walker) s1 t1).bind fun r1 =>
 some (r1.1, r1.2)
noncomputable def m_tariff_Differ (k1 : Int) (s1 : (List Rule)) (t1 : (List Rule)) : Option ((List Int) × Int) :=
 (m_tariff_checked k1 [s1, t1]).bind fun r1 =>
 cond (decide (¬r1 = 0))
  (
  some ([], r1)
  )
  (
  (m_tariff_differ k1 s1 t1).bind fun r2 =>
  (m_tariff_found r2.1 r2.2).bind fun r3 =>
  some (r3.1, r3.2)
  )
noncomputable def m_tariff_Lean_l1 (t1 : (List Rule)) : (Int × (List Rule)) → Option ((Int × (List Rule)) ⊕ (List Rule)) := fun (v1, L2) =>
 cond (decide (v1 < (t1.length : Int)))
  (
  (idx t1 v1).bind fun e1 =>
  (cloneO e1.Bands).bind fun r2 =>
  guardO (L2.length + [(⟨r2, e1.Code⟩ : Rule)].length ≤ 4294967296) <|
  some (.inl ((IntKind.i64.wrap (v1 + 1)), (L2 ++ [(⟨r2, e1.Code⟩ : Rule)])))
  )
  (
  some (.inr L2)
  )
noncomputable def m_tariff_Lean_l2 (k1 : Int) : ((List Rule) × Int) → Option (((List Rule) × Int) ⊕ (List Rule)) := fun (out2, i1) =>
 cond (decide (0 ≤ i1))
  (
  (
   (cloneO out2).bind fun r3 =>
   guardO (delOk r3 i1 (IntKind.i64.wrap (i1 + 1)) = true) <|
   (m_tariff_differ k1 out2 (List.take (delN r3 i1 (IntKind.i64.wrap (i1 + 1))) (delP r3 i1 (IntKind.i64.wrap (i1 + 1))))).bind fun r4 =>
   cond (!r4.2)
    (
    some (List.take (delN r3 i1 (IntKind.i64.wrap (i1 + 1))) (delP r3 i1 (IntKind.i64.wrap (i1 + 1))))
    )
    (
    some out2
    )
   : Option (List Rule)).bind fun out3 =>
  some (.inl (out3, (IntKind.i64.wrap (i1 - 1))))
  )
  (
  some (.inr out2)
  )
noncomputable def m_tariff_Lean (k1 : Int) (t1 : (List Rule)) : Option ((List Rule) × Int) :=
 (m_tariff_checked k1 [t1]).bind fun r1 =>
 cond (decide (¬r1 = 0))
  (
  some ([], r1)
  )
  (
  (
   (iter (m_tariff_Lean_l1 t1) (0, [])).bind fun x_10 =>
   some x_10
   : Option (List Rule)).bind fun L1 =>
  (
   (iter (m_tariff_Lean_l2 k1) (L1, (IntKind.i64.wrap ((L1.length : Int) - 1)))).bind fun x_27 =>
   some x_27
   : Option (List Rule)).bind fun out1 =>
  some (out1, 0)
  )
noncomputable def m_cocketlaw02_TariffLean_l2 (t1 : (List Rule)) (r3 : ((List Rule) × Int)) (i1 : Int) : Int → Option (Int ⊕ Int) := fun at4 =>
 cond (decide (at4 < (t1.length : Int)))
  (
  guardO (0 ≤ at4 ∧ at4 ≤ (IntKind.i64.wrap (at4 + 1)) ∧ (IntKind.i64.wrap (at4 + 1)) ≤ (t1.length : Int)) <|
  guardO (0 ≤ i1 ∧ i1 ≤ (IntKind.i64.wrap (i1 + 1)) ∧ (IntKind.i64.wrap (i1 + 1)) ≤ (r3.1.length : Int)) <|
  (m_cocketlaw02_rules ((t1.drop (at4).toNat).take (((IntKind.i64.wrap (at4 + 1)) : Int) - at4).toNat) ((r3.1.drop (i1).toNat).take (((IntKind.i64.wrap (i1 + 1)) : Int) - i1).toNat)).bind fun r5 =>
  cond (!r5)
   (
   some (.inl (IntKind.i64.wrap (at4 + 1)))
   )
   (
   some (.inr at4)
   )
  )
  (
  some (.inr at4)
  )
noncomputable def m_cocketlaw02_TariffLean_l1 (t1 : (List Rule)) (r3 : ((List Rule) × Int)) : (Int × Int) → Option ((Int × Int) ⊕ (Unit ⊕ Bool)) := fun (at1, i1) =>
 cond (decide (i1 < (r3.1.length : Int)))
  (
  (
  (
   (
    (iter (m_cocketlaw02_TariffLean_l2 t1 r3 i1) at1).bind fun x_29 =>
    some x_29
    : Option Int).bind fun at3 =>
   cond (decide (at3 = (t1.length : Int)))
    (
    some (.inr false)
    )
    (
    some (.inl (IntKind.i64.wrap (at3 + 1)))
    )
   : Option (Int ⊕ Bool)).bind fun o_21 => match o_21 with
    | (.inl at2) =>
      some (.inl (at2, (IntKind.i64.wrap (i1 + 1))))
    | (.inr y1) => some (.inr (.inr y1))
  )
  )
  (
  some (.inr (.inl ()))
  )
noncomputable def m_cocketlaw02_TariffLean (k1 : Int) (t1 : (List Rule)) : Option Bool :=
 (m_cocketlaw02_few k1 t1).bind fun r1 =>
 cond (!r1)
  (
  (m_cocketlaw02_alive).bind fun r2 =>
  some r2
  )
  (
  (m_tariff_Lean k1 t1).bind fun r3 =>
  cond (decide (¬r3.2 = 0))
   (
   ((cond (decide ((r3.1.length : Int) = 0))
    (
     (m_cocketlaw02_alive).bind fun r4 =>
     some r4
    )
    (some false)
   ) : Option Bool).bind fun b1 =>
   some b1
   )
   (
   (
   (
    (
    (iter (m_cocketlaw02_TariffLean_l1 t1 r3) (0, 0)).bind fun x_17 => match x_17 with
      | (.inl y2) => some (.inl y2)
      | (.inr y3) => some (.inr y3)
    )
    : Option (Unit ⊕ Bool)).bind fun o_11 => match o_11 with
     | (.inl _) =>
       (m_tariff_Differ k1 r3.1 t1).bind fun r6 =>
       (m_tariff_Dead k1 r3.1).bind fun r7 =>
       (m_tariff_Lean k1 r3.1).bind fun r8 =>
       ((cond ((((decide (r6.2 = 10)) && (decide (r7.2 = 0))) && (decide ((r7.1.length : Int) = 0))) && (decide (r8.2 = 0)))
        (
         (m_cocketlaw02_rules r8.1 r3.1).bind fun r9 =>
         some r9
        )
        (some false)
       ) : Option Bool).bind fun b2 =>
       ((cond b2
        (
         (m_cocketlaw02_alive).bind fun r10 =>
         some r10
        )
        (some false)
       ) : Option Bool).bind fun b3 =>
       some b3
     | (.inr y4) => some y4
   )
   )
  )
end Go.Pv

