/- TariffLimit answers true for every input, as its tied card says: under the conditions of the card (Rows, Cards, Tie), no more. Part 5 of 6: by one AI agent and its programs; no person has read it. -/
import Derived.Test.YtnfnkllhjaemnaaDoorTariffLimitA
import Derived.Test.YtnfnkllhjaemnaaDoorTariffLimitB
import Derived.Test.YtnfnkllhjaemnaaDoorTariffLimitC
import Derived.Test.YtnfnkllhjaemnaaDoorTariffLimitD
import Derived.Shelf.Sort.Plain
import Derived.Shelf.Slices.CompactI
import Derived.Shelf.Slices.In.SortNone
import Derived.Test.YtnfnkllhjaemnaaDoorProg
import Derived.Shelf.Strconv.Itoa0
import Derived.Shelf.Strconv.Itoa1
import Derived.Shelf.LaysM
import Derived.Shelf.Strconv.Itoa2
import Derived.Shelf.Strconv.Itoa3
set_option linter.unusedSimpArgs false
set_option linter.unusedVariables false
set_option linter.all false

namespace Go.Pv
def q_cocketlaw02_three : Option (List Rule) :=
 some [(⟨[(⟨0, 10⟩ : Band)], 1⟩ : Rule), (⟨[(⟨5, 20⟩ : Band)], 2⟩ : Rule), (⟨[(⟨0, 20⟩ : Band)], 3⟩ : Rule)]
def q_tariff_marks (k1 : Int) : Option Bool :=
 some ((decide (1 ≤ k1)) && (decide (k1 ≤ 4)))
def q_tariff_fine_1 (b1 : Band) : Option Bool :=
 some (((decide (b1.Lo < 0)) || (decide (b1.Hi ≤ b1.Lo))) || (decide (1000 < b1.Hi)))
def q_slices_IndexFunc_113_f103_l1 (s1 : (List Band)) : Int → Option (Int ⊕ (Unit ⊕ Int)) := fun v1 =>
 cond (decide (v1 < (s1.length : Int)))
  (
  (idx s1 v1).bind fun e1 =>
  (q_tariff_fine_1 e1).bind fun r1 =>
  cond r1
   (
   some (.inr (.inr v1))
   )
   (
   some (.inl (IntKind.i64.wrap (v1 + 1)))
   )
  )
  (
  some (.inr (.inl ()))
  )
def q_slices_IndexFunc_113_f103 (s1 : (List Band)) : Option Int :=
 (
 (
  (
  (qIter (q_slices_IndexFunc_113_f103_l1 s1) 0).bind fun x_7 => match x_7 with
    | (.inl y1) => some (.inl y1)
    | (.inr y2) => some (.inr y2)
  )
  : Option (Unit ⊕ Int)).bind fun o_1 => match o_1 with
   | (.inl _) =>
     some (-1)
   | (.inr y3) => some y3
 )
def q_slices_ContainsFunc_104_f103 (s1 : (List Band)) : Option Bool :=
 (q_slices_IndexFunc_113_f103 s1).bind fun r1 =>
 some (decide (0 ≤ r1))
def q_tariff_fine (k1 : Int) (r1 : Rule) : Option Bool :=
 ((cond (((decide ((r1.Bands.length : Int) = k1)) && (decide (0 ≤ r1.Code))) && (decide (r1.Code ≤ 99)))
  (
   (q_slices_ContainsFunc_104_f103 r1.Bands).bind fun r2 =>
   some (!r2)
  )
  (some false)
 ) : Option Bool).bind fun b1 =>
 some b1
def q_tariff_checked_1_c (r1 : Rule) (k1 : Int) : Option Bool :=
 (q_tariff_fine k1 r1).bind fun r2 =>
 some (!r2)
def q_slices_IndexFunc_99_f77_l1 (s1 : (List Rule)) (f1 : Int) : Int → Option (Int ⊕ (Unit ⊕ Int)) := fun v1 =>
 cond (decide (v1 < (s1.length : Int)))
  (
  (idx s1 v1).bind fun e1 =>
  (q_tariff_checked_1_c e1 f1).bind fun r1 =>
  cond r1
   (
   some (.inr (.inr v1))
   )
   (
   some (.inl (IntKind.i64.wrap (v1 + 1)))
   )
  )
  (
  some (.inr (.inl ()))
  )
def q_slices_IndexFunc_99_f77 (s1 : (List Rule)) (f1 : Int) : Option Int :=
 (
 (
  (
  (qIter (q_slices_IndexFunc_99_f77_l1 s1 f1) 0).bind fun x_7 => match x_7 with
    | (.inl y1) => some (.inl y1)
    | (.inr y2) => some (.inr y2)
  )
  : Option (Unit ⊕ Int)).bind fun o_1 => match o_1 with
   | (.inl _) =>
     some (-1)
   | (.inr y3) => some y3
 )
def q_slices_ContainsFunc_76_f77 (s1 : (List Rule)) (f1 : Int) : Option Bool :=
 (q_slices_IndexFunc_99_f77 s1 f1).bind fun r1 =>
 some (decide (0 ≤ r1))
def q_tariff_checked_l1 (k1 : Int) (ts1 : (List (List Rule))) : Int → Option (Int ⊕ (Unit ⊕ Int)) := fun v1 =>
 cond (decide (v1 < (ts1.length : Int)))
  (
  (idx ts1 v1).bind fun e1 =>
  cond (decide (24 < (e1.length : Int)))
   (
   some (.inr (.inr 3))
   )
   (
   (q_slices_ContainsFunc_76_f77 e1 k1).bind fun r2 =>
   cond r2
    (
    some (.inr (.inr 2))
    )
    (
    some (.inl (IntKind.i64.wrap (v1 + 1)))
    )
   )
  )
  (
  some (.inr (.inl ()))
  )
def q_tariff_checked (k1 : Int) (ts1 : (List (List Rule))) : Option Int :=
 (q_tariff_marks k1).bind fun r1 =>
 cond (!r1)
  (
  some 2
  )
  (
  (
  (
   (
   (qIter (q_tariff_checked_l1 k1 ts1) 0).bind fun x_10 => match x_10 with
     | (.inl y1) => some (.inl y1)
     | (.inr y2) => some (.inr y2)
   )
   : Option (Unit ⊕ Int)).bind fun o_4 => match o_4 with
    | (.inl _) =>
      some 0
    | (.inr y3) => some y3
  )
  )
def q_tariff_all (t1 : (List Rule)) : Option Int :=
 guardO (0 ≤ (t1.length : Int)) <|
 some (IntKind.u32.wrap ((IntKind.u32.wrap (1 * (2 ^ (min ((t1.length : Int)).toNat 32)))) - 1))
def q_tariff_cuts_l2 (mark1 : Int) (e1 : (List Rule)) : (Int × (List Int)) → Option ((Int × (List Int)) ⊕ (List Int)) := fun (v2, L4) =>
 cond (decide (v2 < (e1.length : Int)))
  (
  (idx e1 v2).bind fun e2 =>
  (idx e2.Bands mark1).bind fun e3 =>
  guardO (L4.length + [e3.Lo, e3.Hi].length ≤ 4294967296) <|
  some (.inl ((IntKind.i64.wrap (v2 + 1)), (L4 ++ [e3.Lo, e3.Hi])))
  )
  (
  some (.inr L4)
  )
def q_tariff_cuts_l1 (mark1 : Int) (ts1 : (List (List Rule))) : (Int × (List Int)) → Option ((Int × (List Int)) ⊕ (List Int)) := fun (v1, L2) =>
 cond (decide (v1 < (ts1.length : Int)))
  (
  (
   (idx ts1 v1).bind fun e1 =>
   (qIter (q_tariff_cuts_l2 mark1 e1) (0, L2)).bind fun x_21 =>
   some x_21
   : Option (List Int)).bind fun L3 =>
  some (.inl ((IntKind.i64.wrap (v1 + 1)), L3))
  )
  (
  some (.inr L2)
  )
def q_tariff_cuts (mark1 : Int) (ts1 : (List (List Rule))) : Option (List Int) :=
 (
  (qIter (q_tariff_cuts_l1 mark1 ts1) (0, [1000])).bind fun x_7 =>
  some x_7
  : Option (List Int)).bind fun L1 =>
 guardO (L1.length ≤ 4294967296) <|
 guardO ((qSort L1).length ≤ 4294967296) <|
 (
  (idx (List.take ((compactI (qSort L1)).length) (compactP (qSort L1))) 0).bind fun e4 =>
  cond (decide (e4 = 0))
   (
   guardO (0 ≤ 1 ∧ 1 ≤ ((List.take ((compactI (qSort L1)).length) (compactP (qSort L1))).length : Int) ∧ ((List.take ((compactI (qSort L1)).length) (compactP (qSort L1))).length : Int) ≤ ((List.take ((compactI (qSort L1)).length) (compactP (qSort L1))).length : Int)) <|
   some (((List.take ((compactI (qSort L1)).length) (compactP (qSort L1))).drop 1).take ((((List.take ((compactI (qSort L1)).length) (compactP (qSort L1))).length : Int) : Int) - 1).toNat)
   )
   (
   some (List.take ((compactI (qSort L1)).length) (compactP (qSort L1)))
   )
  : Option (List Int)).bind fun out1 =>
 some out1
def q_tariff_fits_l1 (t1 : (List Rule)) (mark1 : Int) (value1 : Int) : (Int × Int) → Option ((Int × Int) ⊕ Int) := fun (out2, v1) =>
 cond (decide (v1 < (t1.length : Int)))
  (
  (
   (idx t1 v1).bind fun e1 =>
   (idx e1.Bands mark1).bind fun e2 =>
   cond ((decide (e2.Lo ≤ value1)) && (decide (value1 < e2.Hi)))
    (
    guardO (0 ≤ v1) <|
    some (IntKind.u32.wrap ↑(BitVec.ofInt IntKind.u32.bits out2 ||| BitVec.ofInt IntKind.u32.bits (IntKind.u32.wrap (1 * (2 ^ (min (v1).toNat 32))))).toNat)
    )
    (
    some out2
    )
   : Option Int).bind fun out3 =>
  some (.inl (out3, (IntKind.i64.wrap (v1 + 1))))
  )
  (
  some (.inr out2)
  )
def q_tariff_fits (t1 : (List Rule)) (mark1 : Int) (value1 : Int) : Option Int :=
 (
  (qIter (q_tariff_fits_l1 t1 mark1 value1) (0, 0)).bind fun x_7 =>
  some x_7
  : Option Int).bind fun out1 =>
 some out1
def q_tariff_set_first_l1 (s1 : Int) : Int → Option (Int ⊕ (Unit ⊕ Int)) := fun v1 =>
 cond (decide (v1 < 24))
  (
  guardO (0 ≤ v1) <|
  cond (decide (¬(IntKind.u32.wrap ↑(BitVec.ofInt IntKind.u32.bits s1 &&& BitVec.ofInt IntKind.u32.bits (IntKind.u32.wrap (1 * (2 ^ (min (v1).toNat 32))))).toNat) = 0))
   (
   some (.inr (.inr v1))
   )
   (
   some (.inl (IntKind.i64.wrap (v1 + 1)))
   )
  )
  (
  some (.inr (.inl ()))
  )
def q_tariff_set_first (s1 : Int) : Option Int :=
 (
 (
  (
  (qIter (q_tariff_set_first_l1 s1) 0).bind fun x_7 => match x_7 with
    | (.inl y1) => some (.inl y1)
    | (.inr y2) => some (.inr y2)
  )
  : Option (Unit ⊕ Int)).bind fun o_1 => match o_1 with
   | (.inl _) =>
     some (-1)
   | (.inr y3) => some y3
 )
def q_tariff_counts_1_h_l2 (from1 : Int) (e1 : Int) (r3 : ((List Int) × (List (Arr3_Int × (List Int))))) : (Int × (List Int)) → Option ((Int × (List Int)) ⊕ ((List (Arr3_Int × (List Int))) × (List Int))) := fun (v2, L5) =>
 cond (decide (v2 < (r3.1.length : Int)))
  (
  (idx r3.1 v2).bind fun e2 =>
  (idx L5 v2).bind fun e3 =>
  some (.inl ((IntKind.i64.wrap (v2 + 1)), (L5.set (v2).toNat (IntKind.i64.wrap (e3 + (IntKind.i64.wrap (e2 * (IntKind.i64.wrap (e1 - from1)))))))))
  )
  (
  some (.inr (r3.2, L5))
  )
def q_tariff_counts_1_h_l1 (mark1 : Int) (a1 : Int) (o1 : (List Rule)) (o2 : Int) (self : ((List Rule) → Int → (List (Arr3_Int × (List Int))) → Int → Int → Option ((List Int) × (List (Arr3_Int × (List Int)))))) (r1 : (List Int)) : (Int × Int × (List (Arr3_Int × (List Int))) × (List Int)) → Option ((Int × Int × (List (Arr3_Int × (List Int))) × (List Int)) ⊕ ((List (Arr3_Int × (List Int))) × (List Int))) := fun (from1, v1, M2, L2) =>
 cond (decide (v1 < (r1.length : Int)))
  (
  (
   (idx r1 v1).bind fun e1 =>
   (q_tariff_fits o1 mark1 from1).bind fun r2 =>
   (
    cond (decide ((IntKind.i64.wrap (mark1 + 1)) < o2))
     (
     (self o1 o2 M2 (IntKind.i64.wrap (mark1 + 1)) (IntKind.u32.wrap ↑(BitVec.ofInt IntKind.u32.bits a1 &&& BitVec.ofInt IntKind.u32.bits r2).toNat)).bind fun r3 =>
     (qIter (q_tariff_counts_1_h_l2 from1 e1 r3) (0, L2)).bind fun x_30 =>
     some x_30
     )
     (
     (q_tariff_set_first (IntKind.u32.wrap ↑(BitVec.ofInt IntKind.u32.bits a1 &&& BitVec.ofInt IntKind.u32.bits r2).toNat)).bind fun r4 =>
     cond (decide (r4 < 0))
      (
      (idx L2 (o1.length : Int)).bind fun e4 =>
      some (M2, (L2.set ((o1.length : Int)).toNat (IntKind.i64.wrap (e4 + (IntKind.i64.wrap (e1 - from1))))))
      )
      (
      (idx L2 r4).bind fun e5 =>
      some (M2, (L2.set (r4).toNat (IntKind.i64.wrap (e5 + (IntKind.i64.wrap (e1 - from1))))))
      )
     )
    : Option ((List (Arr3_Int × (List Int))) × (List Int))).bind fun (M4, L4) =>
   some (e1, M4, L4)
   : Option (Int × (List (Arr3_Int × (List Int))) × (List Int))).bind fun (from2, M3, L3) =>
  some (.inl (from2, (IntKind.i64.wrap (v1 + 1)), M3, L3))
  )
  (
  some (.inr (M2, L2))
  )
def q_tariff_counts_1_h_b (self : ((List Rule) → Int → (List (Arr3_Int × (List Int))) → Int → Int → Option ((List Int) × (List (Arr3_Int × (List Int)))))) (o1 : (List Rule)) (o2 : Int) (m1 : (List (Arr3_Int × (List Int)))) (mark1 : Int) (a1 : Int) : Option ((List Int) × (List (Arr3_Int × (List Int)))) :=
 cond ((mget (⟨mark1, (IntKind.i64.wrap a1), 0⟩ : Arr3_Int) m1).isSome)
  (
  some (((mget (⟨mark1, (IntKind.i64.wrap a1), 0⟩ : Arr3_Int) m1).getD []), m1)
  )
  (
  guardO (0 ≤ (IntKind.i64.wrap ((o1.length : Int) + 1)) ∧ (IntKind.i64.wrap ((o1.length : Int) + 1)) ≤ 4294967296) <|
  (
   (q_tariff_cuts mark1 [o1]).bind fun r1 =>
   (qIter (q_tariff_counts_1_h_l1 mark1 a1 o1 o2 self r1) (0, 0, m1, (List.replicate ((IntKind.i64.wrap ((o1.length : Int) + 1))).toNat (0 : Int)))).bind fun x_11 =>
   some x_11
   : Option ((List (Arr3_Int × (List Int))) × (List Int))).bind fun (M1, L1) =>
  some (L1, (mset (⟨mark1, (IntKind.i64.wrap a1), 0⟩ : Arr3_Int) L1 M1))
  )
def q_tariff_counts_1_h : Nat → (List Rule) → Int → (List (Arr3_Int × (List Int))) → Int → Int → Option ((List Int) × (List (Arr3_Int × (List Int))))
  | 0 => fun _ _ _ _ _ => none
  | n + 1 => q_tariff_counts_1_h_b (q_tariff_counts_1_h n)
def q_tariff_counts (k1 : Int) (t1 : (List Rule)) : Option (List Int) :=
 (q_tariff_all t1).bind fun r1 =>
 (q_tariff_counts_1_h 100 t1 k1 [] 0 r1).bind fun r2 =>
 (cloneO r2.1).bind fun r3 =>
 some r3
def q_tariff_Dead_l1 (t1 : (List Rule)) (r2 : (List Int)) : (Int × (List Int)) → Option ((Int × (List Int)) ⊕ (List Int)) := fun (v1, L2) =>
 cond (decide (v1 < ((r2.take (((t1.length : Int) : Int) - 0).toNat).length : Int)))
  (
  (
   (idx (r2.take (((t1.length : Int) : Int) - 0).toNat) v1).bind fun e1 =>
   cond (decide (e1 = 0))
    (
    guardO (L2.length + [v1].length ≤ 4294967296) <|
    some (L2 ++ [v1])
    )
    (
    some L2
    )
   : Option (List Int)).bind fun L3 =>
  some (.inl ((IntKind.i64.wrap (v1 + 1)), L3))
  )
  (
  some (.inr L2)
  )
def q_tariff_Dead (k1 : Int) (t1 : (List Rule)) : Option ((List Int) × Int) :=
 (q_tariff_checked k1 [t1]).bind fun r1 =>
 cond (decide (¬r1 = 0))
  (
  some ([], r1)
  )
  (
  (
   (q_tariff_counts k1 t1).bind fun r2 =>
   guardO (0 ≤ 0 ∧ 0 ≤ (t1.length : Int) ∧ (t1.length : Int) ≤ (r2.length : Int)) <|
   (qIter (q_tariff_Dead_l1 t1 r2) (0, [])).bind fun x_12 =>
   some x_12
   : Option (List Int)).bind fun L1 =>
  some (L1, 0)
  )
def q_tariff_Gap_1 (i1 : Int) (v1 : Int) : Option Bool :=
 some (decide (i1 < 0))
def q_tariff_walker_find_1_h_f50_l1 (mark1 : Int) (a1 : Int) (b1 : Int) (o1 : Walker) (self : (Walker → (List (Arr3_Int × Bool)) → Int → Int → Int → Option ((List Int) × Bool × (List (Arr3_Int × Bool))))) (r4 : (List Int)) : (Int × Int × (List (Arr3_Int × Bool))) → Option ((Int × Int × (List (Arr3_Int × Bool))) ⊕ ((List (Arr3_Int × Bool)) ⊕ ((List Int) × Bool × (List (Arr3_Int × Bool))))) := fun (from1, v1, M2) =>
 cond (decide (v1 < (r4.length : Int)))
  (
  (idx r4 v1).bind fun e1 =>
  (q_tariff_fits o1.s mark1 from1).bind fun r5 =>
  (q_tariff_fits o1.t mark1 from1).bind fun r6 =>
  (self o1 M2 (IntKind.i64.wrap (mark1 + 1)) (IntKind.u32.wrap ↑(BitVec.ofInt IntKind.u32.bits a1 &&& BitVec.ofInt IntKind.u32.bits r5).toNat) (IntKind.u32.wrap ↑(BitVec.ofInt IntKind.u32.bits b1 &&& BitVec.ofInt IntKind.u32.bits r6).toNat)).bind fun r7 =>
  cond r7.2.1
   (
   guardO (1 + r7.1.length ≤ 4294967296) <|
   some (.inr (.inr (([from1] ++ r7.1), true, r7.2.2)))
   )
   (
   some (.inl (e1, (IntKind.i64.wrap (v1 + 1)), r7.2.2))
   )
  )
  (
  some (.inr (.inl M2))
  )
def q_tariff_walker_find_1_h_f50_b (self : (Walker → (List (Arr3_Int × Bool)) → Int → Int → Int → Option ((List Int) × Bool × (List (Arr3_Int × Bool))))) (o1 : Walker) (m1 : (List (Arr3_Int × Bool))) (mark1 : Int) (a1 : Int) (b1 : Int) : Option ((List Int) × Bool × (List (Arr3_Int × Bool))) :=
 cond (decide (mark1 = o1.k))
  (
  (q_tariff_set_first a1).bind fun r1 =>
  (q_tariff_set_first b1).bind fun r2 =>
  (q_tariff_Gap_1 r1 r2).bind fun r3 =>
  some ([], r3, m1)
  )
  (
  cond ((mget (⟨mark1, (IntKind.i64.wrap a1), (IntKind.i64.wrap b1)⟩ : Arr3_Int) m1).getD false)
   (
   some ([], false, m1)
   )
   (
   (
   (
    (q_tariff_cuts mark1 [o1.s, o1.t]).bind fun r4 =>
    (
    (qIter (q_tariff_walker_find_1_h_f50_l1 mark1 a1 b1 o1 self r4) (0, 0, m1)).bind fun x_15 => match x_15 with
      | (.inl y1) => some (.inl y1)
      | (.inr y2) => some (.inr y2)
    )
    : Option ((List (Arr3_Int × Bool)) ⊕ ((List Int) × Bool × (List (Arr3_Int × Bool))))).bind fun o_8 => match o_8 with
     | (.inl M1) =>
       some ([], false, (mset (⟨mark1, (IntKind.i64.wrap a1), (IntKind.i64.wrap b1)⟩ : Arr3_Int) true M1))
     | (.inr y3) => some y3
   )
   )
  )
def q_tariff_walker_find_1_h_f50 : Nat → Walker → (List (Arr3_Int × Bool)) → Int → Int → Int → Option ((List Int) × Bool × (List (Arr3_Int × Bool)))
  | 0 => fun _ _ _ _ _ => none
  | n + 1 => q_tariff_walker_find_1_h_f50_b (q_tariff_walker_find_1_h_f50 n)
def q_tariff_walker_find_f50 (w1 : Walker) : Option ((List Int) × Bool) :=
 (q_tariff_all w1.s).bind fun r1 =>
 (q_tariff_all w1.t).bind fun r2 =>
 (q_tariff_walker_find_1_h_f50 100 w1 [] 0 r1 r2).bind fun r3 =>
 some (r3.1, r3.2.1)
def q_tariff_found (l1 : (List Int)) (ok1 : Bool) : Option ((List Int) × Int) :=
 cond (!ok1)
  (
  some ([], 10)
  )
  (
  some (l1, 0)
  )
def q_tariff_Gap (k1 : Int) (t1 : (List Rule)) : Option ((List Int) × Int) :=
 (q_tariff_checked k1 [t1]).bind fun r1 =>
 cond (decide (¬r1 = 0))
  (
  some ([], r1)
  )
  (
  (q_tariff_walker_find_f50 (⟨k1, t1, []⟩ : Walker)).bind fun r2 =>
  (q_tariff_found r2.1 r2.2).bind fun r3 =>
  some (r3.1, r3.2)
  )
def q_tariff_builder_leaf_h (o1 : Builder) (a1 : Int) : Option (Int × Builder) :=
 (q_tariff_set_first a1).bind fun r1 =>
 cond (decide (r1 < 0))
  (
  some ((-1), o1)
  )
  (
  (idx o1.rules r1).bind fun e1 =>
  some ((IntKind.i64.wrap ((-2) - e1.Code)), o1)
  )
def q_tariff_merged_l1 (ends1 : (List Int)) (to1 : (List Int)) : (Int × (List Int) × (List Int)) → Option ((Int × (List Int) × (List Int)) ⊕ ((List Int) × (List Int))) := fun (v1, L3, L4) =>
 cond (decide (v1 < (to1.length : Int)))
  (
  (
   (idx to1 v1).bind fun e1 =>
   ((cond (decide (0 < (L4.length : Int)))
    (
     (idx L4 (IntKind.i64.wrap ((L4.length : Int) - 1))).bind fun e2 =>
     some (decide (e2 = e1))
    )
    (some false)
   ) : Option Bool).bind fun b1 =>
   cond b1
    (
    (idx ends1 v1).bind fun e3 =>
    (idx L3 (IntKind.i64.wrap ((L4.length : Int) - 1))).bind fun e4 =>
    some ((L3.set ((IntKind.i64.wrap ((L4.length : Int) - 1))).toNat e3), L4)
    )
    (
    (idx ends1 v1).bind fun e5 =>
    guardO (L3.length + [e5].length ≤ 4294967296) <|
    guardO (L4.length + [e1].length ≤ 4294967296) <|
    some ((L3 ++ [e5]), (L4 ++ [e1]))
    )
   : Option ((List Int) × (List Int))).bind fun (L5, L6) =>
  some (.inl ((IntKind.i64.wrap (v1 + 1)), L5, L6))
  )
  (
  some (.inr (L3, L4))
  )
def q_tariff_merged (ends1 : (List Int)) (to1 : (List Int)) : Option ((List Int) × (List Int)) :=
 (
  (qIter (q_tariff_merged_l1 ends1 to1) (0, [], [])).bind fun x_7 =>
  some x_7
  : Option ((List Int) × (List Int))).bind fun (L1, L2) =>
 some (L1, L2)
def q_tariff_builder_node_h_l2 (e1 : (List Int)) : (Int × Bool × (List Int)) → Option ((Int × Bool × (List Int)) ⊕ (Bool × (List Int))) := fun (v2, c5, L5) =>
 cond (decide (v2 < (e1.length : Int)))
  (
  (idx e1 v2).bind fun e2 =>
  (qItoa e2).bind fun r1 =>
  guardO (bsz r1 + bsz (⟨#[32]⟩ : ByteArray) ≤ 4294967296) <|
  (bWrite (⟨c5, L5⟩ : StringsBuilder) (r1 ++ (⟨#[32]⟩ : ByteArray))).bind fun r2 =>
  some (.inl ((IntKind.i64.wrap (v2 + 1)), true, r2.buf))
  )
  (
  some (.inr (c5, L5))
  )
def q_tariff_builder_node_h_l1 (x1 : Node) : (Int × Bool × (List Int)) → Option ((Int × Bool × (List Int)) ⊕ (Bool × (List Int))) := fun (v1, c2, L2) =>
 cond (decide (v1 < ([[x1.Mark], x1.Cuts, x1.To].length : Int)))
  (
  (
   (idx [[x1.Mark], x1.Cuts, x1.To] v1).bind fun e1 =>
   (
    (qIter (q_tariff_builder_node_h_l2 e1) (0, c2, L2)).bind fun x_23 =>
    some x_23
    : Option (Bool × (List Int))).bind fun (c4, L4) =>
   (bWriteByte (⟨c4, L4⟩ : StringsBuilder) 124).bind fun r3 =>
   some (true, r3.buf)
   : Option (Bool × (List Int))).bind fun (c3, L3) =>
  some (.inl ((IntKind.i64.wrap (v1 + 1)), c3, L3))
  )
  (
  some (.inr (c2, L2))
  )
def q_tariff_builder_node_h (o1 : Builder) (x1 : Node) : Option (Int × Builder) :=
 (
  (qIter (q_tariff_builder_node_h_l1 x1) (0, false, [])).bind fun x_7 =>
  some x_7
  : Option (Bool × (List Int))).bind fun (c1, L1) =>
 (bString (⟨c1, L1⟩ : StringsBuilder)).bind fun r4 =>
 (
  cond (!((mget r4 o1.same).isSome))
   (
   (bString (⟨c1, L1⟩ : StringsBuilder)).bind fun r5 =>
   guardO (o1.nodes.length + [x1].length ≤ 4294967296) <|
   some ((o1.nodes.length : Int), (mset r5 (o1.nodes.length : Int) o1.same), (o1.nodes ++ [x1]))
   )
   (
   some (((mget r4 o1.same).getD 0), o1.same, o1.nodes)
   )
  : Option (Int × (List (ByteArray × Int)) × (List Node))).bind fun (n1, M1, L6) =>
 some (n1, (⟨o1.k, o1.rules, o1.known, M1, L6⟩ : Builder))
def q_tariff_builder_at_h_l1 (mark1 : Int) (a1 : Int) (self : (Builder → Int → Int → Option (Int × Builder))) (r2 : (List Int)) : (Int × Int × Int × (List Rule) × (List (Arr3_Int × Int)) × (List (ByteArray × Int)) × (List Node) × (List Int)) → Option ((Int × Int × Int × (List Rule) × (List (Arr3_Int × Int)) × (List (ByteArray × Int)) × (List Node) × (List Int)) ⊕ (Int × (List Rule) × (List (Arr3_Int × Int)) × (List (ByteArray × Int)) × (List Node) × (List Int))) := fun (from1, v1, c3, c4, M3, M4, L3, L4) =>
 cond (decide (v1 < (r2.length : Int)))
  (
  (idx r2 v1).bind fun e1 =>
  (q_tariff_fits c4 mark1 from1).bind fun r3 =>
  (self (⟨c3, c4, M3, M4, L3⟩ : Builder) (IntKind.i64.wrap (mark1 + 1)) (IntKind.u32.wrap ↑(BitVec.ofInt IntKind.u32.bits a1 &&& BitVec.ofInt IntKind.u32.bits r3).toNat)).bind fun r4 =>
  guardO (L4.length + [r4.1].length ≤ 4294967296) <|
  some (.inl (e1, (IntKind.i64.wrap (v1 + 1)), r4.2.k, r4.2.rules, r4.2.known, r4.2.same, r4.2.nodes, (L4 ++ [r4.1])))
  )
  (
  some (.inr (c3, c4, M3, M4, L3, L4))
  )
def q_tariff_builder_at_h_b (self : (Builder → Int → Int → Option (Int × Builder))) (o1 : Builder) (mark1 : Int) (a1 : Int) : Option (Int × Builder) :=
 cond (decide (mark1 = o1.k))
  (
  (q_tariff_builder_leaf_h o1 a1).bind fun r1 =>
  some (r1.1, r1.2)
  )
  (
  cond ((mget (⟨mark1, (IntKind.i64.wrap a1), 0⟩ : Arr3_Int) o1.known).isSome)
   (
   some (((mget (⟨mark1, (IntKind.i64.wrap a1), 0⟩ : Arr3_Int) o1.known).getD 0), o1)
   )
   (
   (q_tariff_cuts mark1 [o1.rules]).bind fun r2 =>
   (
    (qIter (q_tariff_builder_at_h_l1 mark1 a1 self r2) (0, 0, o1.k, o1.rules, o1.known, o1.same, o1.nodes, [])).bind fun x_13 =>
    some x_13
    : Option (Int × (List Rule) × (List (Arr3_Int × Int)) × (List (ByteArray × Int)) × (List Node) × (List Int))).bind fun (c1, c2, M1, M2, L1, L2) =>
   (q_tariff_merged r2 L2).bind fun r5 =>
   (idx r5.2 0).bind fun e2 =>
   (
    cond (decide (1 < (r5.2.length : Int)))
     (
     (q_tariff_builder_node_h (⟨c1, c2, M1, M2, L1⟩ : Builder) (⟨mark1, r5.1, r5.2⟩ : Node)).bind fun r6 =>
     some (r6.1, r6.2.k, r6.2.rules, r6.2.known, r6.2.same, r6.2.nodes)
     )
     (
     some (e2, c1, c2, M1, M2, L1)
     )
    : Option (Int × Int × (List Rule) × (List (Arr3_Int × Int)) × (List (ByteArray × Int)) × (List Node))).bind fun (n1, c5, c6, M5, M6, L5) =>
   some (n1, (⟨c5, c6, (mset (⟨mark1, (IntKind.i64.wrap a1), 0⟩ : Arr3_Int) n1 M5), M6, L5⟩ : Builder))
   )
  )
def q_tariff_builder_at_h : Nat → Builder → Int → Int → Option (Int × Builder)
  | 0 => fun _ _ _ => none
  | n + 1 => q_tariff_builder_at_h_b (q_tariff_builder_at_h n)
def q_tariff_builder_ordered_1_h_l1 (l1 : (List Node)) (o1 : Builder) (self : ((List (Int × Int)) → (List Node) → Builder → Int → Option (Int × (List (Int × Int)) × (List Node)))) (e2 : Node) : (Int × (List (Int × Int)) × (List Node)) → Option ((Int × (List (Int × Int)) × (List Node)) ⊕ ((List (Int × Int)) × (List Node))) := fun (v1, M2, L2) =>
 cond (decide (v1 < (e2.To.length : Int)))
  (
  (idx e2.To v1).bind fun e3 =>
  (self M2 L2 o1 e3).bind fun r2 =>
  (idx r2.2.2 (l1.length : Int)).bind fun e4 =>
  guardO (e4.To.length + [r2.1].length ≤ 4294967296) <|
  some (.inl ((IntKind.i64.wrap (v1 + 1)), r2.2.1, (r2.2.2.set (((l1.length : Int)).toNat) (⟨e4.Mark, e4.Cuts, (e4.To ++ [r2.1])⟩ : Node))))
  )
  (
  some (.inr (M2, L2))
  )
def q_tariff_builder_ordered_1_h_b (self : ((List (Int × Int)) → (List Node) → Builder → Int → Option (Int × (List (Int × Int)) × (List Node)))) (m1 : (List (Int × Int))) (l1 : (List Node)) (o1 : Builder) (n1 : Int) : Option (Int × (List (Int × Int)) × (List Node)) :=
 cond (decide (n1 < 0))
  (
  some (n1, m1, l1)
  )
  (
  cond ((mget n1 m1).isSome)
   (
   some (((mget n1 m1).getD 0), m1, l1)
   )
   (
   (idx o1.nodes n1).bind fun e1 =>
   (cloneO e1.Cuts).bind fun r1 =>
   guardO (l1.length + 1 ≤ 4294967296) <|
   (
    (idx o1.nodes n1).bind fun e2 =>
    (qIter (q_tariff_builder_ordered_1_h_l1 l1 o1 self e2) (0, (mset n1 (l1.length : Int) m1), (l1 ++ [(⟨e1.Mark, r1, []⟩ : Node)]))).bind fun x_21 =>
    some x_21
    : Option ((List (Int × Int)) × (List Node))).bind fun (M1, L1) =>
   some ((l1.length : Int), M1, L1)
   )
  )
def q_tariff_builder_ordered_1_h : Nat → (List (Int × Int)) → (List Node) → Builder → Int → Option (Int × (List (Int × Int)) × (List Node))
  | 0 => fun _ _ _ _ => none
  | n + 1 => q_tariff_builder_ordered_1_h_b (q_tariff_builder_ordered_1_h n)
def q_tariff_builder_ordered_h (o1 : Builder) (top1 : Int) : Option ((List Node) × Builder) :=
 (q_tariff_builder_ordered_1_h 100 [] [] o1 top1).bind fun r1 =>
 some (r1.2.2, o1)
def q_tariff_Diagram (k1 : Int) (t1 : (List Rule)) : Option ((List Node) × Int) :=
 (q_tariff_checked k1 [t1]).bind fun r1 =>
 cond (decide (¬r1 = 0))
  (
  some ([], r1)
  )
  (
  (q_tariff_all t1).bind fun r2 =>
  (q_tariff_builder_at_h 100 (⟨k1, t1, [], [], []⟩ : Builder) 0 r2).bind fun r3 =>
  cond (decide (r3.1 < 0))
   (
   some ([(⟨0, [1000], [r3.1]⟩ : Node)], 0)
   )
   (
   (q_tariff_builder_ordered_h r3.2 r3.1).bind fun r4 =>
   some (r4.1, 0)
   )
  )
def q_cocketlaw02_same_l1 (a1 : (List Int)) (b1 : (List Int)) : Int → Option (Int ⊕ (Unit ⊕ Bool)) := fun i1 =>
 cond (decide (i1 < (a1.length : Int)))
  (
  (idx a1 i1).bind fun e1 =>
  (idx b1 i1).bind fun e2 =>
  cond (decide (¬e1 = e2))
   (
   some (.inr (.inr false))
   )
   (
   some (.inl (IntKind.i64.wrap (i1 + 1)))
   )
  )
  (
  some (.inr (.inl ()))
  )
def q_cocketlaw02_same (a1 : (List Int)) (b1 : (List Int)) : Option Bool :=
 cond (decide (¬(a1.length : Int) = (b1.length : Int)))
  (
  some false
  )
  (
  (
  (
   (
   (qIter (q_cocketlaw02_same_l1 a1 b1) 0).bind fun x_9 => match x_9 with
     | (.inl y1) => some (.inl y1)
     | (.inr y2) => some (.inr y2)
   )
   : Option (Unit ⊕ Bool)).bind fun o_3 => match o_3 with
    | (.inl _) =>
      some true
    | (.inr y3) => some y3
  )
  )
def q_cocketlaw02_alive : Option Bool :=
 (q_cocketlaw02_three).bind fun r1 =>
 (q_tariff_Dead 1 r1).bind fun r2 =>
 (q_cocketlaw02_three).bind fun r3 =>
 (q_tariff_Gap 1 r3).bind fun r4 =>
 (q_cocketlaw02_three).bind fun r5 =>
 (q_tariff_Diagram 1 r5).bind fun r6 =>
 ((cond (decide (r2.2 = 0))
  (
   (q_cocketlaw02_same r2.1 [2]).bind fun r7 =>
   some r7
  )
  (some false)
 ) : Option Bool).bind fun b1 =>
 ((cond (b1 && (decide (r4.2 = 0)))
  (
   (q_cocketlaw02_same r4.1 [20]).bind fun r8 =>
   some r8
  )
  (some false)
 ) : Option Bool).bind fun b2 =>
 ((cond ((b2 && (decide (r6.2 = 0))) && (decide ((r6.1.length : Int) = 1)))
  (
   (idx r6.1 0).bind fun e1 =>
   (q_cocketlaw02_same e1.To [(-3), (-4), (-1)]).bind fun r9 =>
   some r9
  )
  (some false)
 ) : Option Bool).bind fun b3 =>
 some b3
theorem q_cocketlaw02_three_le  : OLe (q_cocketlaw02_three) (m_cocketlaw02_three) := by
  intros; unfold q_cocketlaw02_three m_cocketlaw02_three; try simp only [sortI_q]; try dsimp only
  repeat' (first | exact OLe.refl _ | refine OLe.bind ?_ (fun _ => ?_) | refine OLe.cond ?_ ?_ | refine OLe.guard ?_ | refine OLe.iterQ (fun _ => ?_) | split)
theorem q_tariff_marks_le (k1 : Int) : OLe (q_tariff_marks k1) (m_tariff_marks k1) := by
  intros; unfold q_tariff_marks m_tariff_marks; try simp only [sortI_q]; try dsimp only
  repeat' (first | exact OLe.refl _ | refine OLe.bind ?_ (fun _ => ?_) | refine OLe.cond ?_ ?_ | refine OLe.guard ?_ | refine OLe.iterQ (fun _ => ?_) | split)
theorem q_tariff_fine_1_le (b1 : Band) : OLe (q_tariff_fine_1 b1) (m_tariff_fine_1 b1) := by
  intros; unfold q_tariff_fine_1 m_tariff_fine_1; try simp only [sortI_q]; try dsimp only
  repeat' (first | exact OLe.refl _ | refine OLe.bind ?_ (fun _ => ?_) | refine OLe.cond ?_ ?_ | refine OLe.guard ?_ | refine OLe.iterQ (fun _ => ?_) | split)
theorem q_slices_IndexFunc_113_f103_l1_le (s1 : (List Band)) : ∀ e0_, OLe (q_slices_IndexFunc_113_f103_l1 s1 e0_) (m_slices_IndexFunc_113_f103_l1 s1 e0_) := by
  intros; unfold q_slices_IndexFunc_113_f103_l1 m_slices_IndexFunc_113_f103_l1; try simp only [sortI_q]; try dsimp only
  repeat' (first | exact OLe.refl _ | exact q_tariff_fine_1_le _ | refine OLe.bind ?_ (fun _ => ?_) | refine OLe.cond ?_ ?_ | refine OLe.guard ?_ | refine OLe.iterQ (fun _ => ?_) | split)
theorem q_slices_IndexFunc_113_f103_le (s1 : (List Band)) : OLe (q_slices_IndexFunc_113_f103 s1) (m_slices_IndexFunc_113_f103 s1) := by
  intros; unfold q_slices_IndexFunc_113_f103 m_slices_IndexFunc_113_f103; try simp only [sortI_q]; try dsimp only
  repeat' (first | exact OLe.refl _ | exact q_slices_IndexFunc_113_f103_l1_le _ _ | refine OLe.bind ?_ (fun _ => ?_) | refine OLe.cond ?_ ?_ | refine OLe.guard ?_ | refine OLe.iterQ (fun _ => ?_) | split)
theorem q_slices_ContainsFunc_104_f103_le (s1 : (List Band)) : OLe (q_slices_ContainsFunc_104_f103 s1) (m_slices_ContainsFunc_104_f103 s1) := by
  intros; unfold q_slices_ContainsFunc_104_f103 m_slices_ContainsFunc_104_f103; try simp only [sortI_q]; try dsimp only
  repeat' (first | exact OLe.refl _ | exact q_slices_IndexFunc_113_f103_le _ | refine OLe.bind ?_ (fun _ => ?_) | refine OLe.cond ?_ ?_ | refine OLe.guard ?_ | refine OLe.iterQ (fun _ => ?_) | split)
theorem q_tariff_fine_le (k1 : Int) (r1 : Rule) : OLe (q_tariff_fine k1 r1) (m_tariff_fine k1 r1) := by
  intros; unfold q_tariff_fine m_tariff_fine; try simp only [sortI_q]; try dsimp only
  repeat' (first | exact OLe.refl _ | exact q_slices_ContainsFunc_104_f103_le _ | refine OLe.bind ?_ (fun _ => ?_) | refine OLe.cond ?_ ?_ | refine OLe.guard ?_ | refine OLe.iterQ (fun _ => ?_) | split)
theorem q_tariff_checked_1_c_le (r1 : Rule) (k1 : Int) : OLe (q_tariff_checked_1_c r1 k1) (m_tariff_checked_1_c r1 k1) := by
  intros; unfold q_tariff_checked_1_c m_tariff_checked_1_c; try simp only [sortI_q]; try dsimp only
  repeat' (first | exact OLe.refl _ | exact q_tariff_fine_le _ _ | refine OLe.bind ?_ (fun _ => ?_) | refine OLe.cond ?_ ?_ | refine OLe.guard ?_ | refine OLe.iterQ (fun _ => ?_) | split)
theorem q_slices_IndexFunc_99_f77_l1_le (s1 : (List Rule)) (f1 : Int) : ∀ e0_, OLe (q_slices_IndexFunc_99_f77_l1 s1 f1 e0_) (m_slices_IndexFunc_99_f77_l1 s1 f1 e0_) := by
  intros; unfold q_slices_IndexFunc_99_f77_l1 m_slices_IndexFunc_99_f77_l1; try simp only [sortI_q]; try dsimp only
  repeat' (first | exact OLe.refl _ | exact q_tariff_checked_1_c_le _ _ | refine OLe.bind ?_ (fun _ => ?_) | refine OLe.cond ?_ ?_ | refine OLe.guard ?_ | refine OLe.iterQ (fun _ => ?_) | split)
theorem q_slices_IndexFunc_99_f77_le (s1 : (List Rule)) (f1 : Int) : OLe (q_slices_IndexFunc_99_f77 s1 f1) (m_slices_IndexFunc_99_f77 s1 f1) := by
  intros; unfold q_slices_IndexFunc_99_f77 m_slices_IndexFunc_99_f77; try simp only [sortI_q]; try dsimp only
  repeat' (first | exact OLe.refl _ | exact q_slices_IndexFunc_99_f77_l1_le _ _ _ | refine OLe.bind ?_ (fun _ => ?_) | refine OLe.cond ?_ ?_ | refine OLe.guard ?_ | refine OLe.iterQ (fun _ => ?_) | split)
theorem q_slices_ContainsFunc_76_f77_le (s1 : (List Rule)) (f1 : Int) : OLe (q_slices_ContainsFunc_76_f77 s1 f1) (m_slices_ContainsFunc_76_f77 s1 f1) := by
  intros; unfold q_slices_ContainsFunc_76_f77 m_slices_ContainsFunc_76_f77; try simp only [sortI_q]; try dsimp only
  repeat' (first | exact OLe.refl _ | exact q_slices_IndexFunc_99_f77_le _ _ | refine OLe.bind ?_ (fun _ => ?_) | refine OLe.cond ?_ ?_ | refine OLe.guard ?_ | refine OLe.iterQ (fun _ => ?_) | split)
theorem q_tariff_checked_l1_le (k1 : Int) (ts1 : (List (List Rule))) : ∀ e0_, OLe (q_tariff_checked_l1 k1 ts1 e0_) (m_tariff_checked_l1 k1 ts1 e0_) := by
  intros; unfold q_tariff_checked_l1 m_tariff_checked_l1; try simp only [sortI_q]; try dsimp only
  repeat' (first | exact OLe.refl _ | exact q_slices_ContainsFunc_76_f77_le _ _ | refine OLe.bind ?_ (fun _ => ?_) | refine OLe.cond ?_ ?_ | refine OLe.guard ?_ | refine OLe.iterQ (fun _ => ?_) | split)
theorem q_tariff_checked_le (k1 : Int) (ts1 : (List (List Rule))) : OLe (q_tariff_checked k1 ts1) (m_tariff_checked k1 ts1) := by
  intros; unfold q_tariff_checked m_tariff_checked; try simp only [sortI_q]; try dsimp only
  repeat' (first | exact OLe.refl _ | exact q_tariff_marks_le _ | exact q_tariff_checked_l1_le _ _ _ | refine OLe.bind ?_ (fun _ => ?_) | refine OLe.cond ?_ ?_ | refine OLe.guard ?_ | refine OLe.iterQ (fun _ => ?_) | split)
theorem q_tariff_all_le (t1 : (List Rule)) : OLe (q_tariff_all t1) (m_tariff_all t1) := by
  intros; unfold q_tariff_all m_tariff_all; try simp only [sortI_q]; try dsimp only
  repeat' (first | exact OLe.refl _ | refine OLe.bind ?_ (fun _ => ?_) | refine OLe.cond ?_ ?_ | refine OLe.guard ?_ | refine OLe.iterQ (fun _ => ?_) | split)
theorem q_tariff_cuts_l2_le (mark1 : Int) (e1 : (List Rule)) : ∀ e0_, OLe (q_tariff_cuts_l2 mark1 e1 e0_) (m_tariff_cuts_l2 mark1 e1 e0_) := by
  intros; unfold q_tariff_cuts_l2 m_tariff_cuts_l2; try simp only [sortI_q]; try dsimp only
  repeat' (first | exact OLe.refl _ | refine OLe.bind ?_ (fun _ => ?_) | refine OLe.cond ?_ ?_ | refine OLe.guard ?_ | refine OLe.iterQ (fun _ => ?_) | split)
theorem q_tariff_cuts_l1_le (mark1 : Int) (ts1 : (List (List Rule))) : ∀ e0_, OLe (q_tariff_cuts_l1 mark1 ts1 e0_) (m_tariff_cuts_l1 mark1 ts1 e0_) := by
  intros; unfold q_tariff_cuts_l1 m_tariff_cuts_l1; try simp only [sortI_q]; try dsimp only
  repeat' (first | exact OLe.refl _ | exact q_tariff_cuts_l2_le _ _ _ | refine OLe.bind ?_ (fun _ => ?_) | refine OLe.cond ?_ ?_ | refine OLe.guard ?_ | refine OLe.iterQ (fun _ => ?_) | split)
theorem q_tariff_cuts_le (mark1 : Int) (ts1 : (List (List Rule))) : OLe (q_tariff_cuts mark1 ts1) (m_tariff_cuts mark1 ts1) := by
  intros; unfold q_tariff_cuts m_tariff_cuts; try simp only [sortI_q]; try dsimp only
  repeat' (first | exact OLe.refl _ | exact q_tariff_cuts_l1_le _ _ _ | refine OLe.bind ?_ (fun _ => ?_) | refine OLe.cond ?_ ?_ | refine OLe.guard ?_ | refine OLe.iterQ (fun _ => ?_) | split)
theorem q_tariff_fits_l1_le (t1 : (List Rule)) (mark1 : Int) (value1 : Int) : ∀ e0_, OLe (q_tariff_fits_l1 t1 mark1 value1 e0_) (m_tariff_fits_l1 t1 mark1 value1 e0_) := by
  intros; unfold q_tariff_fits_l1 m_tariff_fits_l1; try simp only [sortI_q]; try dsimp only
  repeat' (first | exact OLe.refl _ | refine OLe.bind ?_ (fun _ => ?_) | refine OLe.cond ?_ ?_ | refine OLe.guard ?_ | refine OLe.iterQ (fun _ => ?_) | split)
theorem q_tariff_fits_le (t1 : (List Rule)) (mark1 : Int) (value1 : Int) : OLe (q_tariff_fits t1 mark1 value1) (m_tariff_fits t1 mark1 value1) := by
  intros; unfold q_tariff_fits m_tariff_fits; try simp only [sortI_q]; try dsimp only
  repeat' (first | exact OLe.refl _ | exact q_tariff_fits_l1_le _ _ _ _ | refine OLe.bind ?_ (fun _ => ?_) | refine OLe.cond ?_ ?_ | refine OLe.guard ?_ | refine OLe.iterQ (fun _ => ?_) | split)
theorem q_tariff_set_first_l1_le (s1 : Int) : ∀ e0_, OLe (q_tariff_set_first_l1 s1 e0_) (m_tariff_set_first_l1 s1 e0_) := by
  intros; unfold q_tariff_set_first_l1 m_tariff_set_first_l1; try simp only [sortI_q]; try dsimp only
  repeat' (first | exact OLe.refl _ | refine OLe.bind ?_ (fun _ => ?_) | refine OLe.cond ?_ ?_ | refine OLe.guard ?_ | refine OLe.iterQ (fun _ => ?_) | split)
theorem q_tariff_set_first_le (s1 : Int) : OLe (q_tariff_set_first s1) (m_tariff_set_first s1) := by
  intros; unfold q_tariff_set_first m_tariff_set_first; try simp only [sortI_q]; try dsimp only
  repeat' (first | exact OLe.refl _ | exact q_tariff_set_first_l1_le _ _ | refine OLe.bind ?_ (fun _ => ?_) | refine OLe.cond ?_ ?_ | refine OLe.guard ?_ | refine OLe.iterQ (fun _ => ?_) | split)
theorem q_tariff_counts_1_h_l2_le (from1 : Int) (e1 : Int) (r3 : ((List Int) × (List (Arr3_Int × (List Int))))) : ∀ e0_, OLe (q_tariff_counts_1_h_l2 from1 e1 r3 e0_) (m_tariff_counts_1_h_l2 from1 e1 r3 e0_) := by
  intros; unfold q_tariff_counts_1_h_l2 m_tariff_counts_1_h_l2; try simp only [sortI_q]; try dsimp only
  repeat' (first | exact OLe.refl _ | refine OLe.bind ?_ (fun _ => ?_) | refine OLe.cond ?_ ?_ | refine OLe.guard ?_ | refine OLe.iterQ (fun _ => ?_) | split)
theorem q_tariff_counts_1_h_l1_le (mark1 : Int) (a1 : Int) (o1 : (List Rule)) (o2 : Int) (self self' : ((List Rule) → Int → (List (Arr3_Int × (List Int))) → Int → Int → Option ((List Int) × (List (Arr3_Int × (List Int)))))) (hself : ∀ x0 x1 x2 x3 x4, OLe (self x0 x1 x2 x3 x4) (self' x0 x1 x2 x3 x4)) (r1 : (List Int)) : ∀ e0_, OLe (q_tariff_counts_1_h_l1 mark1 a1 o1 o2 self r1 e0_) (m_tariff_counts_1_h_l1 mark1 a1 o1 o2 self' r1 e0_) := by
  intros; unfold q_tariff_counts_1_h_l1 m_tariff_counts_1_h_l1; try simp only [sortI_q]; try dsimp only
  repeat' (first | exact OLe.refl _ | exact q_tariff_fits_le _ _ _ | exact q_tariff_counts_1_h_l2_le _ _ _ _ | exact q_tariff_set_first_le _ | exact hself _ _ _ _ _ | refine OLe.bind ?_ (fun _ => ?_) | refine OLe.cond ?_ ?_ | refine OLe.guard ?_ | refine OLe.iterQ (fun _ => ?_) | split)
theorem q_tariff_counts_1_h_b_le (self self' : ((List Rule) → Int → (List (Arr3_Int × (List Int))) → Int → Int → Option ((List Int) × (List (Arr3_Int × (List Int)))))) (hself : ∀ x0 x1 x2 x3 x4, OLe (self x0 x1 x2 x3 x4) (self' x0 x1 x2 x3 x4)) (o1 : (List Rule)) (o2 : Int) (m1 : (List (Arr3_Int × (List Int)))) (mark1 : Int) (a1 : Int) : OLe (q_tariff_counts_1_h_b self o1 o2 m1 mark1 a1) (m_tariff_counts_1_h_b self' o1 o2 m1 mark1 a1) := by
  intros; unfold q_tariff_counts_1_h_b m_tariff_counts_1_h_b; try simp only [sortI_q]; try dsimp only
  repeat' (first | exact OLe.refl _ | exact q_tariff_cuts_le _ _ | exact q_tariff_counts_1_h_l1_le _ _ _ _ _ _ (by assumption) _ _ | exact hself _ _ _ _ _ | refine OLe.bind ?_ (fun _ => ?_) | refine OLe.cond ?_ ?_ | refine OLe.guard ?_ | refine OLe.iterQ (fun _ => ?_) | split)
theorem q_tariff_counts_1_h_le  : ∀ e0_ e1_ e2_ e3_ e4_ e5_, OLe (q_tariff_counts_1_h e0_ e1_ e2_ e3_ e4_ e5_) (m_tariff_counts_1_h e0_ e1_ e2_ e3_ e4_ e5_) := by
  intro e0_; induction e0_ with
  | zero => intros; exact fun _ h => nomatch h
  | succ k ih => intro e1_ e2_ e3_ e4_ e5_; exact q_tariff_counts_1_h_b_le _ _ ih _ _ _ _ _
theorem q_tariff_counts_le (k1 : Int) (t1 : (List Rule)) : OLe (q_tariff_counts k1 t1) (m_tariff_counts k1 t1) := by
  intros; unfold q_tariff_counts m_tariff_counts; try simp only [sortI_q]; try dsimp only
  repeat' (first | exact OLe.refl _ | exact q_tariff_all_le _ | exact q_tariff_counts_1_h_le _ _ _ _ _ _ | refine OLe.bind ?_ (fun _ => ?_) | refine OLe.cond ?_ ?_ | refine OLe.guard ?_ | refine OLe.iterQ (fun _ => ?_) | split)
theorem q_tariff_Dead_l1_le (t1 : (List Rule)) (r2 : (List Int)) : ∀ e0_, OLe (q_tariff_Dead_l1 t1 r2 e0_) (m_tariff_Dead_l1 t1 r2 e0_) := by
  intros; unfold q_tariff_Dead_l1 m_tariff_Dead_l1; try simp only [sortI_q]; try dsimp only
  repeat' (first | exact OLe.refl _ | refine OLe.bind ?_ (fun _ => ?_) | refine OLe.cond ?_ ?_ | refine OLe.guard ?_ | refine OLe.iterQ (fun _ => ?_) | split)
theorem q_tariff_Dead_le (k1 : Int) (t1 : (List Rule)) : OLe (q_tariff_Dead k1 t1) (m_tariff_Dead k1 t1) := by
  intros; unfold q_tariff_Dead m_tariff_Dead; try simp only [sortI_q]; try dsimp only
  repeat' (first | exact OLe.refl _ | exact q_tariff_checked_le _ _ | exact q_tariff_counts_le _ _ | exact q_tariff_Dead_l1_le _ _ _ | refine OLe.bind ?_ (fun _ => ?_) | refine OLe.cond ?_ ?_ | refine OLe.guard ?_ | refine OLe.iterQ (fun _ => ?_) | split)
theorem q_tariff_Gap_1_le (i1 : Int) (v1 : Int) : OLe (q_tariff_Gap_1 i1 v1) (m_tariff_Gap_1 i1 v1) := by
  intros; unfold q_tariff_Gap_1 m_tariff_Gap_1; try simp only [sortI_q]; try dsimp only
  repeat' (first | exact OLe.refl _ | refine OLe.bind ?_ (fun _ => ?_) | refine OLe.cond ?_ ?_ | refine OLe.guard ?_ | refine OLe.iterQ (fun _ => ?_) | split)
theorem q_tariff_walker_find_1_h_f50_l1_le (mark1 : Int) (a1 : Int) (b1 : Int) (o1 : Walker) (self self' : (Walker → (List (Arr3_Int × Bool)) → Int → Int → Int → Option ((List Int) × Bool × (List (Arr3_Int × Bool))))) (hself : ∀ x0 x1 x2 x3 x4, OLe (self x0 x1 x2 x3 x4) (self' x0 x1 x2 x3 x4)) (r4 : (List Int)) : ∀ e0_, OLe (q_tariff_walker_find_1_h_f50_l1 mark1 a1 b1 o1 self r4 e0_) (m_tariff_walker_find_1_h_f50_l1 mark1 a1 b1 o1 self' r4 e0_) := by
  intros; unfold q_tariff_walker_find_1_h_f50_l1 m_tariff_walker_find_1_h_f50_l1; try simp only [sortI_q]; try dsimp only
  repeat' (first | exact OLe.refl _ | exact q_tariff_fits_le _ _ _ | exact hself _ _ _ _ _ | refine OLe.bind ?_ (fun _ => ?_) | refine OLe.cond ?_ ?_ | refine OLe.guard ?_ | refine OLe.iterQ (fun _ => ?_) | split)
theorem q_tariff_walker_find_1_h_f50_b_le (self self' : (Walker → (List (Arr3_Int × Bool)) → Int → Int → Int → Option ((List Int) × Bool × (List (Arr3_Int × Bool))))) (hself : ∀ x0 x1 x2 x3 x4, OLe (self x0 x1 x2 x3 x4) (self' x0 x1 x2 x3 x4)) (o1 : Walker) (m1 : (List (Arr3_Int × Bool))) (mark1 : Int) (a1 : Int) (b1 : Int) : OLe (q_tariff_walker_find_1_h_f50_b self o1 m1 mark1 a1 b1) (m_tariff_walker_find_1_h_f50_b self' o1 m1 mark1 a1 b1) := by
  intros; unfold q_tariff_walker_find_1_h_f50_b m_tariff_walker_find_1_h_f50_b; try simp only [sortI_q]; try dsimp only
  repeat' (first | exact OLe.refl _ | exact q_tariff_set_first_le _ | exact q_tariff_Gap_1_le _ _ | exact q_tariff_cuts_le _ _ | exact q_tariff_walker_find_1_h_f50_l1_le _ _ _ _ _ _ (by assumption) _ _ | exact hself _ _ _ _ _ | refine OLe.bind ?_ (fun _ => ?_) | refine OLe.cond ?_ ?_ | refine OLe.guard ?_ | refine OLe.iterQ (fun _ => ?_) | split)
theorem q_tariff_walker_find_1_h_f50_le  : ∀ e0_ e1_ e2_ e3_ e4_ e5_, OLe (q_tariff_walker_find_1_h_f50 e0_ e1_ e2_ e3_ e4_ e5_) (m_tariff_walker_find_1_h_f50 e0_ e1_ e2_ e3_ e4_ e5_) := by
  intro e0_; induction e0_ with
  | zero => intros; exact fun _ h => nomatch h
  | succ k ih => intro e1_ e2_ e3_ e4_ e5_; exact q_tariff_walker_find_1_h_f50_b_le _ _ ih _ _ _ _ _
theorem q_tariff_walker_find_f50_le (w1 : Walker) : OLe (q_tariff_walker_find_f50 w1) (m_tariff_walker_find_f50 w1) := by
  intros; unfold q_tariff_walker_find_f50 m_tariff_walker_find_f50; try simp only [sortI_q]; try dsimp only
  repeat' (first | exact OLe.refl _ | exact q_tariff_all_le _ | exact q_tariff_walker_find_1_h_f50_le _ _ _ _ _ _ | refine OLe.bind ?_ (fun _ => ?_) | refine OLe.cond ?_ ?_ | refine OLe.guard ?_ | refine OLe.iterQ (fun _ => ?_) | split)
theorem q_tariff_found_le (l1 : (List Int)) (ok1 : Bool) : OLe (q_tariff_found l1 ok1) (m_tariff_found l1 ok1) := by
  intros; unfold q_tariff_found m_tariff_found; try simp only [sortI_q]; try dsimp only
  repeat' (first | exact OLe.refl _ | refine OLe.bind ?_ (fun _ => ?_) | refine OLe.cond ?_ ?_ | refine OLe.guard ?_ | refine OLe.iterQ (fun _ => ?_) | split)
theorem q_tariff_Gap_le (k1 : Int) (t1 : (List Rule)) : OLe (q_tariff_Gap k1 t1) (m_tariff_Gap k1 t1) := by
  intros; unfold q_tariff_Gap m_tariff_Gap; try simp only [sortI_q]; try dsimp only
  repeat' (first | exact OLe.refl _ | exact q_tariff_checked_le _ _ | exact q_tariff_walker_find_f50_le _ | exact q_tariff_found_le _ _ | refine OLe.bind ?_ (fun _ => ?_) | refine OLe.cond ?_ ?_ | refine OLe.guard ?_ | refine OLe.iterQ (fun _ => ?_) | split)
theorem q_tariff_builder_leaf_h_le (o1 : Builder) (a1 : Int) : OLe (q_tariff_builder_leaf_h o1 a1) (m_tariff_builder_leaf_h o1 a1) := by
  intros; unfold q_tariff_builder_leaf_h m_tariff_builder_leaf_h; try simp only [sortI_q]; try dsimp only
  repeat' (first | exact OLe.refl _ | exact q_tariff_set_first_le _ | refine OLe.bind ?_ (fun _ => ?_) | refine OLe.cond ?_ ?_ | refine OLe.guard ?_ | refine OLe.iterQ (fun _ => ?_) | split)
theorem q_tariff_merged_l1_le (ends1 : (List Int)) (to1 : (List Int)) : ∀ e0_, OLe (q_tariff_merged_l1 ends1 to1 e0_) (m_tariff_merged_l1 ends1 to1 e0_) := by
  intros; unfold q_tariff_merged_l1 m_tariff_merged_l1; try simp only [sortI_q]; try dsimp only
  repeat' (first | exact OLe.refl _ | refine OLe.bind ?_ (fun _ => ?_) | refine OLe.cond ?_ ?_ | refine OLe.guard ?_ | refine OLe.iterQ (fun _ => ?_) | split)
theorem q_tariff_merged_le (ends1 : (List Int)) (to1 : (List Int)) : OLe (q_tariff_merged ends1 to1) (m_tariff_merged ends1 to1) := by
  intros; unfold q_tariff_merged m_tariff_merged; try simp only [sortI_q]; try dsimp only
  repeat' (first | exact OLe.refl _ | exact q_tariff_merged_l1_le _ _ _ | refine OLe.bind ?_ (fun _ => ?_) | refine OLe.cond ?_ ?_ | refine OLe.guard ?_ | refine OLe.iterQ (fun _ => ?_) | split)
theorem q_tariff_builder_node_h_l2_le (e1 : (List Int)) : ∀ e0_, OLe (q_tariff_builder_node_h_l2 e1 e0_) (m_tariff_builder_node_h_l2 e1 e0_) := by
  intros; unfold q_tariff_builder_node_h_l2 m_tariff_builder_node_h_l2; try simp only [sortI_q]; try dsimp only
  repeat' (first | exact OLe.refl _ | exact qItoa_le _ | refine OLe.bind ?_ (fun _ => ?_) | refine OLe.cond ?_ ?_ | refine OLe.guard ?_ | refine OLe.iterQ (fun _ => ?_) | split)
theorem q_tariff_builder_node_h_l1_le (x1 : Node) : ∀ e0_, OLe (q_tariff_builder_node_h_l1 x1 e0_) (m_tariff_builder_node_h_l1 x1 e0_) := by
  intros; unfold q_tariff_builder_node_h_l1 m_tariff_builder_node_h_l1; try simp only [sortI_q]; try dsimp only
  repeat' (first | exact OLe.refl _ | exact q_tariff_builder_node_h_l2_le _ _ | refine OLe.bind ?_ (fun _ => ?_) | refine OLe.cond ?_ ?_ | refine OLe.guard ?_ | refine OLe.iterQ (fun _ => ?_) | split)
theorem q_tariff_builder_node_h_le (o1 : Builder) (x1 : Node) : OLe (q_tariff_builder_node_h o1 x1) (m_tariff_builder_node_h o1 x1) := by
  intros; unfold q_tariff_builder_node_h m_tariff_builder_node_h; try simp only [sortI_q]; try dsimp only
  repeat' (first | exact OLe.refl _ | exact q_tariff_builder_node_h_l1_le _ _ | refine OLe.bind ?_ (fun _ => ?_) | refine OLe.cond ?_ ?_ | refine OLe.guard ?_ | refine OLe.iterQ (fun _ => ?_) | split)
theorem q_tariff_builder_at_h_l1_le (mark1 : Int) (a1 : Int) (self self' : (Builder → Int → Int → Option (Int × Builder))) (hself : ∀ x0 x1 x2, OLe (self x0 x1 x2) (self' x0 x1 x2)) (r2 : (List Int)) : ∀ e0_, OLe (q_tariff_builder_at_h_l1 mark1 a1 self r2 e0_) (m_tariff_builder_at_h_l1 mark1 a1 self' r2 e0_) := by
  intros; unfold q_tariff_builder_at_h_l1 m_tariff_builder_at_h_l1; try simp only [sortI_q]; try dsimp only
  repeat' (first | exact OLe.refl _ | exact q_tariff_fits_le _ _ _ | exact hself _ _ _ | refine OLe.bind ?_ (fun _ => ?_) | refine OLe.cond ?_ ?_ | refine OLe.guard ?_ | refine OLe.iterQ (fun _ => ?_) | split)
theorem q_tariff_builder_at_h_b_le (self self' : (Builder → Int → Int → Option (Int × Builder))) (hself : ∀ x0 x1 x2, OLe (self x0 x1 x2) (self' x0 x1 x2)) (o1 : Builder) (mark1 : Int) (a1 : Int) : OLe (q_tariff_builder_at_h_b self o1 mark1 a1) (m_tariff_builder_at_h_b self' o1 mark1 a1) := by
  intros; unfold q_tariff_builder_at_h_b m_tariff_builder_at_h_b; try simp only [sortI_q]; try dsimp only
  repeat' (first | exact OLe.refl _ | exact q_tariff_builder_leaf_h_le _ _ | exact q_tariff_cuts_le _ _ | exact q_tariff_builder_at_h_l1_le _ _ _ _ (by assumption) _ _ | exact q_tariff_merged_le _ _ | exact q_tariff_builder_node_h_le _ _ | exact hself _ _ _ | refine OLe.bind ?_ (fun _ => ?_) | refine OLe.cond ?_ ?_ | refine OLe.guard ?_ | refine OLe.iterQ (fun _ => ?_) | split)
theorem q_tariff_builder_at_h_le  : ∀ e0_ e1_ e2_ e3_, OLe (q_tariff_builder_at_h e0_ e1_ e2_ e3_) (m_tariff_builder_at_h e0_ e1_ e2_ e3_) := by
  intro e0_; induction e0_ with
  | zero => intros; exact fun _ h => nomatch h
  | succ k ih => intro e1_ e2_ e3_; exact q_tariff_builder_at_h_b_le _ _ ih _ _ _
theorem q_tariff_builder_ordered_1_h_l1_le (l1 : (List Node)) (o1 : Builder) (self self' : ((List (Int × Int)) → (List Node) → Builder → Int → Option (Int × (List (Int × Int)) × (List Node)))) (hself : ∀ x0 x1 x2 x3, OLe (self x0 x1 x2 x3) (self' x0 x1 x2 x3)) (e2 : Node) : ∀ e0_, OLe (q_tariff_builder_ordered_1_h_l1 l1 o1 self e2 e0_) (m_tariff_builder_ordered_1_h_l1 l1 o1 self' e2 e0_) := by
  intros; unfold q_tariff_builder_ordered_1_h_l1 m_tariff_builder_ordered_1_h_l1; try simp only [sortI_q]; try dsimp only
  repeat' (first | exact OLe.refl _ | exact hself _ _ _ _ | refine OLe.bind ?_ (fun _ => ?_) | refine OLe.cond ?_ ?_ | refine OLe.guard ?_ | refine OLe.iterQ (fun _ => ?_) | split)
theorem q_tariff_builder_ordered_1_h_b_le (self self' : ((List (Int × Int)) → (List Node) → Builder → Int → Option (Int × (List (Int × Int)) × (List Node)))) (hself : ∀ x0 x1 x2 x3, OLe (self x0 x1 x2 x3) (self' x0 x1 x2 x3)) (m1 : (List (Int × Int))) (l1 : (List Node)) (o1 : Builder) (n1 : Int) : OLe (q_tariff_builder_ordered_1_h_b self m1 l1 o1 n1) (m_tariff_builder_ordered_1_h_b self' m1 l1 o1 n1) := by
  intros; unfold q_tariff_builder_ordered_1_h_b m_tariff_builder_ordered_1_h_b; try simp only [sortI_q]; try dsimp only
  repeat' (first | exact OLe.refl _ | exact q_tariff_builder_ordered_1_h_l1_le _ _ _ _ (by assumption) _ _ | exact hself _ _ _ _ | refine OLe.bind ?_ (fun _ => ?_) | refine OLe.cond ?_ ?_ | refine OLe.guard ?_ | refine OLe.iterQ (fun _ => ?_) | split)
theorem q_tariff_builder_ordered_1_h_le  : ∀ e0_ e1_ e2_ e3_ e4_, OLe (q_tariff_builder_ordered_1_h e0_ e1_ e2_ e3_ e4_) (m_tariff_builder_ordered_1_h e0_ e1_ e2_ e3_ e4_) := by
  intro e0_; induction e0_ with
  | zero => intros; exact fun _ h => nomatch h
  | succ k ih => intro e1_ e2_ e3_ e4_; exact q_tariff_builder_ordered_1_h_b_le _ _ ih _ _ _ _
theorem q_tariff_builder_ordered_h_le (o1 : Builder) (top1 : Int) : OLe (q_tariff_builder_ordered_h o1 top1) (m_tariff_builder_ordered_h o1 top1) := by
  intros; unfold q_tariff_builder_ordered_h m_tariff_builder_ordered_h; try simp only [sortI_q]; try dsimp only
  repeat' (first | exact OLe.refl _ | exact q_tariff_builder_ordered_1_h_le _ _ _ _ _ | refine OLe.bind ?_ (fun _ => ?_) | refine OLe.cond ?_ ?_ | refine OLe.guard ?_ | refine OLe.iterQ (fun _ => ?_) | split)
theorem q_tariff_Diagram_le (k1 : Int) (t1 : (List Rule)) : OLe (q_tariff_Diagram k1 t1) (m_tariff_Diagram k1 t1) := by
  intros; unfold q_tariff_Diagram m_tariff_Diagram; try simp only [sortI_q]; try dsimp only
  repeat' (first | exact OLe.refl _ | exact q_tariff_checked_le _ _ | exact q_tariff_all_le _ | exact q_tariff_builder_at_h_le _ _ _ _ | exact q_tariff_builder_ordered_h_le _ _ | refine OLe.bind ?_ (fun _ => ?_) | refine OLe.cond ?_ ?_ | refine OLe.guard ?_ | refine OLe.iterQ (fun _ => ?_) | split)
theorem q_cocketlaw02_same_l1_le (a1 : (List Int)) (b1 : (List Int)) : ∀ e0_, OLe (q_cocketlaw02_same_l1 a1 b1 e0_) (m_cocketlaw02_same_l1 a1 b1 e0_) := by
  intros; unfold q_cocketlaw02_same_l1 m_cocketlaw02_same_l1; try simp only [sortI_q]; try dsimp only
  repeat' (first | exact OLe.refl _ | refine OLe.bind ?_ (fun _ => ?_) | refine OLe.cond ?_ ?_ | refine OLe.guard ?_ | refine OLe.iterQ (fun _ => ?_) | split)
theorem q_cocketlaw02_same_le (a1 : (List Int)) (b1 : (List Int)) : OLe (q_cocketlaw02_same a1 b1) (m_cocketlaw02_same a1 b1) := by
  intros; unfold q_cocketlaw02_same m_cocketlaw02_same; try simp only [sortI_q]; try dsimp only
  repeat' (first | exact OLe.refl _ | exact q_cocketlaw02_same_l1_le _ _ _ | refine OLe.bind ?_ (fun _ => ?_) | refine OLe.cond ?_ ?_ | refine OLe.guard ?_ | refine OLe.iterQ (fun _ => ?_) | split)
theorem q_cocketlaw02_alive_le  : OLe (q_cocketlaw02_alive) (m_cocketlaw02_alive) := by
  intros; unfold q_cocketlaw02_alive m_cocketlaw02_alive; try simp only [sortI_q]; try dsimp only
  repeat' (first | exact OLe.refl _ | exact q_cocketlaw02_three_le  | exact q_tariff_Dead_le _ _ | exact q_tariff_Gap_le _ _ | exact q_tariff_Diagram_le _ _ | exact q_cocketlaw02_same_le _ _ | refine OLe.bind ?_ (fun _ => ?_) | refine OLe.cond ?_ ?_ | refine OLe.guard ?_ | refine OLe.iterQ (fun _ => ?_) | split)
end Go.Pv

namespace Go.Pv
theorem q_alive_true : q_cocketlaw02_alive = some true := by decide +kernel
theorem alive_true : m_cocketlaw02_alive = some true := q_cocketlaw02_alive_le _ q_alive_true
end Go.Pv

namespace Go.Pv
end Go.Pv

namespace Go.Pv
end Go.Pv

namespace Go.Pv
theorem idx_in {α : Type} {l : List α} {i : Int} (h0 : 0 ≤ i) (h1 : i < l.length) : ∃ x, idx l i = some x ∧ x ∈ l := by
  have : i.toNat < l.length := by omega
  exact ⟨l[i.toNat], by unfold idx; simp [h0, this], List.getElem_mem this⟩
end Go.Pv

namespace Go.Pv
def toOk (d : List Node) (x : Node) (to : Int) : Bool :=
  !(decide ((d.length : Int) ≤ to)) && !(decide (to < (-101))) && (!(decide (0 ≤ to)) || !(decide ((d.getD to.toNat default).Mark ≤ x.Mark)))
def okFrom (d : List Node) (x : Node) (last : Int) : List Int → List Int → Bool
  | c :: cs, t :: ts => !(decide (c ≤ last)) && (toOk d x t && okFrom d x c cs ts)
  | _, _ => true
theorem idx_at {α : Type} [Inhabited α] {l : List α} {i : Int} (h0 : 0 ≤ i) (h1 : i < l.length) : idx l i = some (l.getD i.toNat default) := by
  have : i.toNat < l.length := by omega
  unfold idx; simp [h0, this]
theorem node_loop (d : List Node) (x : Node) (hl : x.To.length = x.Cuts.length) (hb : x.Cuts.length ≤ 1000000) : ∀ (n v : Nat) (last : Int), n = x.Cuts.length - v → iter (m_tariff_node_l1 d x) (last, (v : Int)) = some (cond (okFrom d x last (x.Cuts.drop v) (x.To.drop v)) (.inl ()) (.inr false))
  | 0, v, last, hn => by
    have h1 : decide ((v : Int) < (x.Cuts.length : Int)) = false := by simp; omega
    rw [iter_eq, drop_all (x.Cuts) (by omega)]
    unfold m_tariff_node_l1
    simp only [h1, cond_false, Option.bind_some, okFrom, cond_true]
  | n + 1, v, last, hn => by
    have hv : v < x.Cuts.length := by omega
    have hv2 : v < x.To.length := by omega
    have h1 : decide ((v : Int) < (x.Cuts.length : Int)) = true := by simp; omega
    have e1 : idx x.Cuts (v : Int) = some x.Cuts[v] := by unfold idx; simp [hv]
    have e2 : idx x.To (v : Int) = some x.To[v] := by unfold idx; simp [hv2]
    have ih := node_loop d x hl hb n (v + 1) x.Cuts[v] (by omega)
    rw [iter_eq, List.drop_eq_getElem_cons hv, List.drop_eq_getElem_cons hv2]
    generalize hf0 : m_tariff_node_l1 d x = f at ih ⊢
    have hf : f (last, (v : Int)) = cond (decide (x.Cuts[v] ≤ last)) (some (.inr (.inr false))) (cond (toOk d x x.To[v]) (some (.inl (x.Cuts[v], IntKind.i64.wrap ((v : Int) + 1)))) (some (.inr (.inr false)))) := by
      rw [← hf0]; unfold m_tariff_node_l1
      simp only [h1, cond_true, e1, e2, Option.bind_some, toOk]
      cases decide (x.Cuts[v] ≤ last) with
      | true => rfl
      | false =>
        simp only [cond_false]
        cases hd : decide ((d.length : Int) ≤ x.To[v]) with
        | true => rfl
        | false =>
          cases decide (x.To[v] < (-101)) with
          | true => rfl
          | false =>
            cases h0 : decide (0 ≤ x.To[v]) with
            | false => rfl
            | true =>
              have hd : ¬ (d.length : Int) ≤ x.To[v] := by simpa using hd
              have h0 : 0 ≤ x.To[v] := by simpa using h0
              simp only [cond_false, cond_true, idx_at h0 (by omega : x.To[v] < d.length), Option.bind_some]
              cases decide ((d.getD x.To[v].toNat default).Mark ≤ x.Mark) <;> rfl
    rw [hf]
    simp only [okFrom]
    cases decide (x.Cuts[v] ≤ last) with
    | true => rfl
    | false =>
      cases toOk d x x.To[v] with
      | false => rfl
      | true =>
        simp only [cond_false, cond_true, Option.bind_some, Bool.not_false, Bool.true_and]
        rw [wrap_i64_eq (by omega), show ((v : Int) + 1) = ((v + 1 : Nat) : Int) by omega]
        exact ih
end Go.Pv

namespace Go.Pv
end Go.Pv

namespace Go.Pv
def headNode (k : Int) (x : Node) : Bool := !((((decide (x.Mark < 0)) || (decide (k ≤ x.Mark))) || (decide ((x.Cuts.length : Int) = 0))) || (decide (¬(x.To.length : Int) = (x.Cuts.length : Int))))
def nodeS (k : Int) (d : List Node) (x : Node) : Bool := headNode k x && (!(decide (¬(x.Cuts.getD (x.Cuts.length - 1) default) = 1000)) && okFrom d x 0 x.Cuts x.To)
theorem headOk_parts {k : Int} {x : Node} (h : headNode k x = true) : 0 ≤ x.Mark ∧ x.Mark < k ∧ 0 < x.Cuts.length ∧ x.To.length = x.Cuts.length := by
  simp only [headNode, Bool.not_eq_true', Bool.or_eq_false_iff, decide_eq_false_iff_not, Decidable.not_not] at h
  omega
theorem node_eq (k : Int) (d : List Node) (x : Node) (hb : x.Cuts.length ≤ 1000000) : m_tariff_node k d x = some (nodeS k d x) := by
  unfold m_tariff_node nodeS
  cases hh : headNode k x with
  | false =>
    have h1 : ((((decide (x.Mark < 0)) || (decide (k ≤ x.Mark))) || (decide ((x.Cuts.length : Int) = 0))) || (decide (¬(x.To.length : Int) = (x.Cuts.length : Int)))) = true := by
      unfold headNode at hh; exact (Bool.not_eq_false' ..).mp hh
    rw [h1]; rfl
  | true =>
    obtain ⟨g1, g2, g3, g4⟩ := headOk_parts hh
    have h1 : ((((decide (x.Mark < 0)) || (decide (k ≤ x.Mark))) || (decide ((x.Cuts.length : Int) = 0))) || (decide (¬(x.To.length : Int) = (x.Cuts.length : Int)))) = false := by
      have := hh; unfold headNode at this; exact (Bool.not_eq_true' ..).mp this
    have h2 : idx x.Cuts (IntKind.i64.wrap ((x.Cuts.length : Int) - 1)) = some (x.Cuts.getD (x.Cuts.length - 1) default) := by
      rw [wrap_i64_eq (by omega), idx_at (by omega) (by omega)]
      congr 2; omega
    rw [h1, cond_false, h2]
    simp only [Option.bind_some, Bool.true_and]
    cases decide (¬(x.Cuts.getD (x.Cuts.length - 1) default) = 1000) with
    | true => rfl
    | false =>
      have hn := node_loop d x g4 hb x.Cuts.length 0 0 (by omega)
      rw [show ((0 : Nat) : Int) = 0 from rfl, List.drop_zero, List.drop_zero] at hn
      rw [cond_false, hn]
      cases okFrom d x 0 x.Cuts x.To <;> rfl
end Go.Pv

namespace Go.Pv
theorem notNode_any (k : Int) (d : List Node) (hd : d.length ≤ 9223372036854775807) (hb : ∀ x ∈ d, x.Cuts.length ≤ 1000000) : m_slices_ContainsFunc_67_f68 d k d = some (d.any fun x => !nodeS k d x) := by
  have hi : m_slices_IndexFunc_102_f68 d k d = some (match d.findIdx? (fun x => !nodeS k d x) with | some j => (j : Int) | none => -1) := by
    unfold m_slices_IndexFunc_102_f68
    have h := iter_find (s := d) (p := fun x => m_tariff_Follow_1_c x k d) (q := fun x => !nodeS k d x) (f := m_slices_IndexFunc_102_f68_l1 d k d) hd (fun v => rfl) (fun x hx => by
      show m_tariff_Follow_1_c x k d = _
      unfold m_tariff_Follow_1_c
      rw [node_eq k d x (hb x hx), Option.bind_some]) (d.length) 0 (by omega)
    rw [show ((0 : Nat) : Int) = 0 from rfl] at h
    rw [h, List.drop_zero]
    cases d.findIdx? (fun x => !nodeS k d x) <;> simp
  unfold m_slices_ContainsFunc_67_f68
  rw [hi, Option.bind_some]
  exact congrArg some (find_nonneg d _)
end Go.Pv

namespace Go.Pv
theorem firstGt_prog {s l : List Int} {m : Int} {c e : List Int} {v : Int} (hs : s.length ≤ 9223372036854775807) (hv : idx l m = some v) : m_slices_IndexFunc_70_f71 s l m c e = some (match s.findIdx? (fun c => decide (v < c)) with | some j => (j : Int) | none => -1) := by
  unfold m_slices_IndexFunc_70_f71
  have h := iter_find (s := s) (p := fun x => m_tariff_Follow_2_c x l m c e) (q := fun c => decide (v < c)) (f := m_slices_IndexFunc_70_f71_l1 s l m c e) hs (fun v => rfl) (fun x _ => by
    show m_tariff_Follow_2_c x l m c e = _
    unfold m_tariff_Follow_2_c
    rw [hv, Option.bind_some]) (s.length) 0 (by omega)
  rw [show ((0 : Nat) : Int) = 0 from rfl] at h
  rw [h, List.drop_zero]
  cases s.findIdx? (fun c => decide (v < c)) <;> simp
end Go.Pv

namespace Go.Pv
def limN : Node := ⟨0, [1000], [(-9)]⟩
theorem lim_loop (n : Nat) (hn : n ≤ 1000000) : ∀ (k i : Nat), n = i + k → iter (m_cocketlaw02_TariffLimit_l1 (n : Int)) ((i : Int), List.replicate i limN ++ List.replicate k (⟨0, [], []⟩ : Node)) = some (List.replicate n limN)
  | 0, i, h => by
    have : n = i := by omega
    subst this
    refine iter_done ?_
    unfold m_cocketlaw02_TariffLimit_l1
    have h1 : decide ((n : Int) < (n : Int)) = false := by simp
    simp only [h1, cond_false, List.replicate_zero, List.append_nil]
  | k + 1, i, h => by
    refine iter_step (s' := (((i + 1 : Nat) : Int), List.replicate (i + 1) limN ++ List.replicate k (⟨0, [], []⟩ : Node))) ?_ (lim_loop n hn k (i + 1) (by omega))
    unfold m_cocketlaw02_TariffLimit_l1
    have h1 : decide ((i : Int) < (n : Int)) = true := by simp; omega
    have hlen : (List.replicate i limN ++ List.replicate (k + 1) (⟨0, [], []⟩ : Node)).length = i + (k + 1) := by simp
    obtain ⟨e, he, _⟩ := idx_in (l := List.replicate i limN ++ List.replicate (k + 1) (⟨0, [], []⟩ : Node)) (i := (i : Int)) (by omega) (by rw [hlen]; omega)
    simp only [h1, cond_true, he, Option.bind_some]
    rw [wrap_i64_eq (by omega)]
    have e2 : (List.replicate i limN ++ List.replicate (k + 1) (⟨0, [], []⟩ : Node)).set ((i : Int)).toNat (⟨0, [1000], [(-9)]⟩ : Node) = List.replicate (i + 1) limN ++ List.replicate k (⟨0, [], []⟩ : Node) := by
      rw [Int.toNat_natCast, List.set_append, if_neg (by simp)]
      simp only [List.length_replicate, Nat.sub_self, List.replicate_succ (n := k), List.set_cons_zero]
      rw [show (⟨0, [1000], [(-9)]⟩ : Node) = limN from rfl, List.replicate_succ' (n := i), List.append_assoc]
      rfl
    rw [e2]
    rfl
theorem lim_node (n : Nat) : nodeS 1 (List.replicate n limN) limN = true := by
  unfold nodeS headNode limN
  simp [okFrom, toOk]
  omega
theorem lim_Follow (n : Nat) (hn : n ≤ 1000000) (hpos : 1 ≤ n) (w : Int) (h0 : 0 ≤ w) (h1 : w ≤ 999) : m_tariff_Follow 1 (List.replicate n limN) [w] = some (if 200000 < n then (0, 2) else (7, 0)) := by
  unfold m_tariff_Follow m_tariff_marks
  have ht : thingS 1 [w] = true := by
    unfold thingS
    simp [markBad]; omega
  have hb : ∀ x ∈ List.replicate n limN, x.Cuts.length ≤ 1000000 := fun x hx => by
    rw [(List.mem_replicate.1 hx).2]; simp [limN]
  rw [thing_eq 1 [w] (by simp), ht, notNode_any 1 _ (by simp; omega) hb]
  have hany : (List.replicate n limN).any (fun x => !nodeS 1 (List.replicate n limN) x) = false := by
    rw [List.any_eq_false]
    intro x hx
    rw [(List.mem_replicate.1 hx).2, lim_node]; simp
  rw [hany]
  have e0 : ((decide ((1 : Int) ≤ 1)) && (decide ((1 : Int) ≤ 4))) = true := by decide
  rw [e0]
  simp only [Option.bind_some, Bool.not_true, cond_false, Bool.false_or, List.length_replicate]
  by_cases hbig : 200000 < n
  · have h2 : ((decide ((n : Int) = 0)) || (decide (200000 < (n : Int)))) = true := by rw [Bool.or_eq_true, decide_eq_true_eq, decide_eq_true_eq]; omega
    rw [h2, if_pos hbig]; rfl
  · have h2 : ((decide ((n : Int) = 0)) || (decide (200000 < (n : Int)))) = false := by rw [Bool.or_eq_false_iff, decide_eq_false_iff_not, decide_eq_false_iff_not]; omega
    rw [h2, if_neg hbig]
    simp only [cond_false, Option.bind_some]
    have hx : idx (List.replicate n limN) 0 = some limN := by
      unfold idx
      simp [show 0 < n by omega]
    have hv : idx [w] limN.Mark = some w := rfl
    have hp := firstGt_prog (s := limN.Cuts) (c := limN.Cuts) (e := limN.To) (by simp [limN]) hv
    have hf : limN.Cuts.findIdx? (fun c => decide (w < c)) = some 0 := by
      simp [limN, List.findIdx?_cons]; omega
    rw [hf] at hp
    have e1 : m_tariff_Follow_l1 (List.replicate n limN) [w] 0 = some (.inl (-9)) := by
      unfold m_tariff_Follow_l1
      rw [decide_eq_true (by omega), cond_true, hx]
      simp only [Option.bind_some]
      rw [hp]
      rfl
    have e2 : m_tariff_Follow_l1 (List.replicate n limN) [w] (-9) = some (.inr (-9)) := by
      unfold m_tariff_Follow_l1
      rfl
    rw [iter_step e1 (iter_done e2)]
    rfl
theorem TariffLimit_law (more : Bool) (value : Int) (h0 : IntKind.u16.min ≤ value) (h1 : value ≤ IntKind.u16.max) : m_cocketlaw02_TariffLimit more value = some true := by
  have hv0 : 0 ≤ value := h0
  have hv1 : value ≤ 65535 := h1
  have hm : value.tmod 1000 = value % 1000 := Int.tmod_eq_emod_of_nonneg hv0
  unfold m_cocketlaw02_TariffLimit
  rw [hm, wrap_i64_eq (by omega), wrap_i64_eq (by omega)]
  have key : ∀ n : Nat, n ≤ 1000000 → iter (m_cocketlaw02_TariffLimit_l1 (n : Int)) (0, List.replicate ((n : Int)).toNat (⟨0, [], []⟩ : Node)) = some (List.replicate n limN) := fun n hn => by
    have := lim_loop n hn n 0 (by omega)
    rw [List.replicate_zero, List.nil_append] at this
    rw [Int.toNat_natCast]
    exact this
  cases more with
  | true =>
    have k1 := key 200001 (by omega)
    have f1 := lim_Follow 200001 (by omega) (by omega) (value % 1000) (by omega) (by omega)
    rw [if_pos (by omega)] at f1
    simp only [cond_true, Option.bind_some]
    rw [guardO_pos (by omega), show ((200000 : Int) + 1) = ((200001 : Nat) : Int) by omega, k1]
    simp only [Option.bind_some]
    rw [f1, alive_true]
    rfl
  | false =>
    have k1 := key 200000 (by omega)
    have f1 := lim_Follow 200000 (by omega) (by omega) (value % 1000) (by omega) (by omega)
    rw [if_neg (by omega)] at f1
    simp only [cond_false, Option.bind_some]
    rw [guardO_pos (by omega), show (200000 : Int) = ((200000 : Nat) : Int) by omega, k1]
    simp only [Option.bind_some]
    rw [f1, alive_true]
    rfl
end Go.Pv

namespace Go.Pv.Tryd
open Go.Proofs Go.Pv
theorem m_tariff_marks_ok (k1 : Int) (r : Bool) (h : m_tariff_marks k1 = some r) : PureFn Tryd.prog G 66 [.d (.int .i64 k1)] (.d (.bool r)) := by
 unfold m_tariff_marks at h
 refine pf Tryd.func66 Tryd.ntmps66 ?_
 refine sg fun K k => ?_
 refine oo ?_
 refine AOps.nil (k _ ?_)
 refine sg fun K k => ?_
 iterate 3 refine oo ?_
 refine ct 3 [] [] (fun  t => (8, .d (.bool ((decide (1 ≤ k1)) && (decide (k1 ≤ 4))))) :: t) ?_ ?_
 ·rcases bt (decide (1 ≤ k1)) with hg_2 | hg_2
  ·rw [hg_2]
   iterate 3 refine oo ?_
   refine AOps.nil ?_
   exact sb
  ·rw [hg_2]
   iterate 3 refine oo ?_
   refine AOps.nil ?_
   exact sb
 refine oo ?_
 refine AOps.nil (k _ ?_)
 refine AWp.ret ?_
 cases h; exact rt
end Go.Pv.Tryd

namespace Go.Pv.Tryd
open Go.Proofs Go.Pv
theorem m_tariff_thing_1_ok (n1 : Int) (r : Bool) (h : m_tariff_thing_1 n1 = some r) : PureFn Tryd.prog G 98 [.d (.int .i64 n1)] (.d (.bool r)) := by
 unfold m_tariff_thing_1 at h
 refine pf Tryd.func98 Tryd.ntmps98 ?_
 refine sg fun K k => ?_
 refine oo ?_
 refine AOps.nil (k _ ?_)
 refine sg fun K k => ?_
 iterate 3 refine oo ?_
 refine ct 3 [] [] (fun  t => (8, .d (.bool ((decide (n1 < 0)) || (decide (999 < n1))))) :: t) ?_ ?_
 ·rcases bt (decide (n1 < 0)) with hg_2 | hg_2
  ·rw [hg_2]
   iterate 3 refine oo ?_
   refine AOps.nil ?_
   exact sb
  ·rw [hg_2]
   iterate 3 refine oo ?_
   refine AOps.nil ?_
   exact sb
 refine oo ?_
 refine AOps.nil (k _ ?_)
 refine AWp.ret ?_
 cases h; exact rt
end Go.Pv.Tryd

namespace Go.Pv.Tryd
open Go.Proofs Go.Pv
theorem m_slices_IndexFunc_70_f98_ok (s1 : (List Int)) (r : Int) (h : m_slices_IndexFunc_70_f98 s1 = some r) : PureFn Tryd.prog G 70 [.d (.imm 1 (lenc (PD.int .i64) s1)), .d (.fn (.func 98))] (.d (.int .i64 r)) := by
 unfold m_slices_IndexFunc_70_f98 at h
 refine pf Tryd.func70 Tryd.ntmps70 ?_
 refine sg fun K k => ?_
 refine oo ?_
 refine AOps.nil (k _ ?_)
 refine jm (ι := Unit) [] [] (fun i t => t) (fun i t => t) .inl h ?_ ?_
 ·intro _ hj_2 h
  refine sg fun K k => ?_
  iterate 3 refine oo ?_
  refine AOps.nil (k _ ?_)
  refine AWp.block ?_
  obtain ⟨x_7, hl_4, h2_5⟩ := bind_some hj_2
  refine lp (S := Int) [0, 1, 7] [] (fun i t => (8, .d (.int .i64 i)) :: t) (fun i t => t) hl_4 ?_ ?_; exact sb; clear hl_4
  rintro v1 _ hb_6; unfold m_slices_IndexFunc_70_f98_l1 at hb_6; try dsimp only at hb_6
  try dsimp only
  refine sg fun K k => ?_
  refine oo ?_
  refine AOps.nil (k _ ?_)
  refine AWp.seq fun _ K_9 => ?_
  refine cd hb_6 (fun hb_6 => ?_) (fun hb_6 => ?_)
  ·refine AWp.skip ?_
   refine K_9 _ ?_
   refine AWp.seq fun _ K_11 => ?_
   refine AWp.block ?_
   refine sg fun K k => ?_
   iterate 2 refine oo ?_
   refine AOps.nil (k _ ?_)
   refine sg fun K k => ?_
   obtain ⟨e1, ⟨f_12, f_13, f_14, f_15⟩, hb_6⟩ := idx_bind hb_6
   iterate 4 refine oo ?_
   refine oo ?_ (by intro K k; simp (disch := omega) only [go_sem, f_14, ↓reduceIte]; exact k)
   obtain ⟨r1, hx_16, hb_6⟩ := bind_some hb_6
   refine clV (m_tariff_thing_1_ok e1 _ hx_16) ?_
   refine AOps.nil (k _ ?_)
   refine cd hb_6 (fun hb_6 => ?_) (fun hb_6 => ?_)
   ·refine sg fun K k => ?_
    iterate 2 refine oo ?_
    refine AOps.nil (k _ ?_)
    refine AWp.ret ?_
    refine lx hb_6 fun hx => ?_; cases hx; try dsimp only at h2_5
    cases h2_5; try dsimp only at h
    cases h; exact rt
   ·refine AWp.skip ?_
    refine K_11 _ ?_
    refine AWp.reg ?_
    iterate 2 refine oo ?_
    refine AOps.nil ?_
    exact ln hb_6 sb
  ·refine AWp.exit ?_
   refine lx hb_6 fun hx => ?_; cases hx; try dsimp only at h2_5
   exact ln h2_5 sb
 ·rintro _ h; dsimp only at h ⊢
  refine sg fun K k => ?_
  refine oo ?_
  refine AOps.nil (k _ ?_)
  refine AWp.ret ?_
  cases h; exact rt
end Go.Pv.Tryd

namespace Go.Pv.Tryd
open Go.Proofs Go.Pv
theorem m_slices_ContainsFunc_97_f98_ok (s1 : (List Int)) (r : Bool) (h : m_slices_ContainsFunc_97_f98 s1 = some r) : PureFn Tryd.prog G 97 [.d (.imm 1 (lenc (PD.int .i64) s1)), .d (.fn (.func 98))] (.d (.bool r)) := by
 unfold m_slices_ContainsFunc_97_f98 at h
 refine pf Tryd.func97 Tryd.ntmps97 ?_
 refine sg fun K k => ?_
 refine oo ?_
 refine AOps.nil (k _ ?_)
 refine sg fun K k => ?_
 iterate 2 refine oo ?_
 obtain ⟨r1, hx_1, h⟩ := bind_some h
 refine clC (m_slices_IndexFunc_70_f98_ok s1 _ hx_1) ?_
 iterate 2 refine oo ?_
 refine AOps.nil (k _ ?_)
 refine AWp.ret ?_
 cases h; exact rt
end Go.Pv.Tryd

namespace Go.Pv.Tryd
open Go.Proofs Go.Pv
theorem m_tariff_thing_ok (k1 : Int) (l1 : (List Int)) (r : Bool) (h : m_tariff_thing k1 l1 = some r) : PureFn Tryd.prog G 63 [.d (.int .i64 k1), .d (.imm 1 (lenc (PD.int .i64) l1))] (.d (.bool r)) := by
 unfold m_tariff_thing at h
 refine pf Tryd.func63 Tryd.ntmps63 ?_
 refine sg fun K k => ?_
 refine oo ?_
 refine AOps.nil (k _ ?_)
 refine sg fun K k => ?_
 iterate 5 refine oo ?_
 obtain ⟨b1, hc_1, h⟩ := bind_some h
 refine ct 4 [] [] (fun  t => (13, .d (.bool b1)) :: t) ?_ ?_
 ·rcases bt (decide ((l1.length : Int) = k1)) with hg_3 | hg_3
  ·rw [hg_3]
   rw [hg_3, cond_true] at hc_1
   refine oo ?_
   obtain ⟨r1, hx_2, hc_1⟩ := bind_some hc_1
   refine clC (m_slices_ContainsFunc_97_f98_ok l1 _ hx_2) ?_
   iterate 2 refine oo ?_
   refine AOps.nil ?_
   cases hc_1
   exact sb
  ·rw [hg_3]
   rw [hg_3, cond_false] at hc_1
   iterate 4 refine oo ?_
   refine AOps.nil ?_
   cases hc_1
   exact sb
 refine oo ?_
 refine AOps.nil (k _ ?_)
 refine AWp.ret ?_
 cases h; exact rt
end Go.Pv.Tryd

namespace Go.Pv.Tryd
open Go.Proofs Go.Pv
set_option maxHeartbeats 4000000 in
theorem m_tariff_node_ok (k1 : Int) (d1 : (List Node)) (x1 : Node) (r : Bool) (h : m_tariff_node k1 d1 x1 = some r) : PureFn Tryd.prog G 69 [.d (.int .i64 k1), .d (.imm 3 (lenc Node.pd d1)), .d (.agg [(.int .i64 x1.Mark), (.imm 1 (lenc (PD.int .i64) x1.Cuts)), (.imm 1 (lenc (PD.int .i64) x1.To))])] (.d (.bool r)) := by
 unfold m_tariff_node at h
 refine pf Tryd.func69 Tryd.ntmps69 ?_
 refine sg fun K k => ?_
 iterate 2 refine oo ?_
 refine AOps.nil (k _ ?_)
 refine AWp.seq fun _ K_1 => ?_
 refine sg fun K k => ?_
 iterate 4 refine oo ?_
 refine ct 5 [1, 5] [1000] (fun  t => (19, .d (.bool ((decide (x1.Mark < 0)) || (decide (k1 ≤ x1.Mark))))) :: t) ?_ ?_
 ·rcases bt (decide (x1.Mark < 0)) with hg_3 | hg_3
  ·rw [hg_3]
   iterate 5 refine oo ?_
   refine AOps.nil ?_
   exact sb
  ·rw [hg_3]
   iterate 5 refine oo ?_
   refine AOps.nil ?_
   exact sb
 refine oo ?_
 refine ct 5 [1, 5] [1000] (fun  t => (25, .d (.bool (((decide (x1.Mark < 0)) || (decide (k1 ≤ x1.Mark))) || (decide ((x1.Cuts.length : Int) = 0))))) :: t) ?_ ?_
 ·rcases bt ((decide (x1.Mark < 0)) || (decide (k1 ≤ x1.Mark))) with hg_5 | hg_5
  ·rw [hg_5]
   iterate 5 refine oo ?_
   refine AOps.nil ?_
   exact sb
  ·rw [hg_5]
   iterate 5 refine oo ?_
   refine AOps.nil ?_
   exact sb
 refine oo ?_
 refine ct 8 [1, 5] [1000] (fun  t => (34, .d (.bool ((((decide (x1.Mark < 0)) || (decide (k1 ≤ x1.Mark))) || (decide ((x1.Cuts.length : Int) = 0))) || (decide (¬(x1.To.length : Int) = (x1.Cuts.length : Int)))))) :: t) ?_ ?_
 ·rcases bt (((decide (x1.Mark < 0)) || (decide (k1 ≤ x1.Mark))) || (decide ((x1.Cuts.length : Int) = 0))) with hg_7 | hg_7
  ·rw [hg_7]
   iterate 8 refine oo ?_
   refine AOps.nil ?_
   exact sb
  ·rw [hg_7]
   iterate 8 refine oo ?_
   refine AOps.nil ?_
   exact sb
 refine oo ?_
 obtain ⟨b1, hc_8, h⟩ := bind_some h
 refine ct 10 [1, 5] [1000] (fun  t => (45, .d (.bool b1)) :: t) ?_ ?_
 ·rcases bt ((((decide (x1.Mark < 0)) || (decide (k1 ≤ x1.Mark))) || (decide ((x1.Cuts.length : Int) = 0))) || (decide (¬(x1.To.length : Int) = (x1.Cuts.length : Int)))) with hg_13 | hg_13
  ·rw [hg_13]
   rw [hg_13, cond_true] at hc_8
   iterate 10 refine oo ?_
   refine AOps.nil ?_
   cases hc_8
   exact sb
  ·rw [hg_13]
   rw [hg_13, cond_false] at hc_8
   obtain ⟨e1, ⟨f_9, f_10, f_11, f_12⟩, hc_8⟩ := idx_bind hc_8
   try simp only [Int.toNat_natCast] at f_11 f_12
   iterate 7 refine oo ?_
   refine oo ?_ (by intro K k; simp (disch := omega) only [go_sem, f_11, Int.toNat_natCast, ↓reduceIte]; exact k)
   iterate 2 refine oo ?_
   refine AOps.nil ?_
   cases hc_8
   exact sb
 refine AOps.nil (k _ ?_)
 refine cd h (fun h => ?_) (fun h => ?_)
 ·refine sg fun K k => ?_
  refine oo ?_
  refine AOps.nil (k _ ?_)
  refine AWp.ret ?_
  cases h; exact rt
 ·refine AWp.skip ?_
  refine K_1 _ ?_
  refine sg fun K k => ?_
  refine oo ?_
  refine AOps.nil (k _ ?_)
  refine jm (ι := Unit) [] [] (fun i t => t) (fun i t => t) .inl h ?_ ?_
  ·intro _ hj_16 h
   refine sg fun K k => ?_
   iterate 4 refine oo ?_
   refine AOps.nil (k _ ?_)
   refine AWp.block ?_
   obtain ⟨x_21, hl_18, h2_19⟩ := bind_some hj_16
   refine lp (S := (Int × Int)) [1, 5, 47, 48] [1000] (fun i t => (7, .d (.int .i64 i.1)) :: (49, .d (.int .i64 i.2)) :: t) (fun i t => t) hl_18 ?_ ?_; exact sb; clear hl_18
   rintro ⟨last1, v1⟩ _ hb_20; unfold m_tariff_node_l1 at hb_20; try dsimp only at hb_20
   try dsimp only
   refine sg fun K k => ?_
   refine oo ?_
   refine AOps.nil (k _ ?_)
   refine AWp.seq fun _ K_23 => ?_
   refine cd hb_20 (fun hb_20 => ?_) (fun hb_20 => ?_)
   ·refine AWp.skip ?_
    refine K_23 _ ?_
    refine AWp.seq fun _ K_25 => ?_
    refine AWp.block ?_
    refine sg fun K k => ?_
    obtain ⟨e2, ⟨f_26, f_27, f_28, f_29⟩, hb_20⟩ := idx_bind hb_20
    iterate 2 refine oo ?_
    refine oo ?_ (by intro K k; simp (disch := omega) only [go_sem, f_28, ↓reduceIte]; exact k)
    iterate 2 refine oo ?_
    refine AOps.nil (k _ ?_)
    refine AWp.seq fun _ K_30 => ?_
    refine sg fun K k => ?_
    iterate 3 refine oo ?_
    refine AOps.nil (k _ ?_)
    refine cd hb_20 (fun hb_20 => ?_) (fun hb_20 => ?_)
    ·refine sg fun K k => ?_
     refine oo ?_
     refine AOps.nil (k _ ?_)
     refine AWp.ret ?_
     refine lx hb_20 fun hx => ?_; cases hx; try dsimp only at h2_19
     cases h2_19; try dsimp only at h
     cases h; exact rt
    ·refine AWp.skip ?_
     refine K_30 _ ?_
     refine sg fun K k => ?_
     iterate 2 refine oo ?_
     refine AOps.nil (k _ ?_)
     refine sg fun K k => ?_
     obtain ⟨e3, ⟨f_32, f_33, f_34, f_35⟩, hb_20⟩ := idx_bind hb_20
     iterate 4 refine oo ?_
     refine oo ?_ (by intro K k; simp (disch := omega) only [go_sem, f_34, ↓reduceIte]; exact k)
     refine oo ?_
     refine AOps.nil (k _ ?_)
     refine sd mo fun K k => ?_
     iterate 5 refine dd ?_
     rcases bt (decide ((d1.length : Int) ≤ e3)) with hg_36 | hg_36
     ·rw [hg_36]
      rw [hg_36, cond_true] at hb_20
      iterate 17 refine dd ?_
      refine DOps.nil (by kernel_rfl) (k _ ?_)
      refine cdt ?_
      refine sg fun K k => ?_
      refine oo ?_
      refine AOps.nil (k _ ?_)
      refine AWp.ret ?_
      refine lx hb_20 fun hx => ?_; cases hx; try dsimp only at h2_19
      cases h2_19; try dsimp only at h
      cases h; exact rt
     ·rw [hg_36]
      rw [hg_36, cond_false] at hb_20
      iterate 4 refine dd ?_
      rcases bt (decide (e3 < (-101))) with hg_38 | hg_38
      ·rw [hg_38]
       rw [hg_38, cond_true] at hb_20
       iterate 13 refine dd ?_
       refine DOps.nil (by kernel_rfl) (k _ ?_)
       refine cdt ?_
       refine sg fun K k => ?_
       refine oo ?_
       refine AOps.nil (k _ ?_)
       refine AWp.ret ?_
       refine lx hb_20 fun hx => ?_; cases hx; try dsimp only at h2_19
       cases h2_19; try dsimp only at h
       cases h; exact rt
      ·rw [hg_38]
       rw [hg_38, cond_false] at hb_20
       iterate 3 refine dd ?_
       rcases bt (decide (0 ≤ e3)) with hg_40 | hg_40
       ·rw [hg_40]
        rw [hg_40, cond_true] at hb_20
        obtain ⟨e4, ⟨f_41, f_42, f_43, f_44⟩, hb_20⟩ := idx_bind hb_20
        iterate 4 refine dd ?_
        refine dd ?_ (by intro K k; simp (disch := omega) only [go_sem, f_43, ↓reduceIte]; exact k)
        iterate 5 refine dd ?_
        refine DOps.nil (by kernel_rfl) (k _ ?_)
        refine cd hb_20 (fun hb_20 => ?_) (fun hb_20 => ?_)
        ·refine sg fun K k => ?_
         refine oo ?_
         refine AOps.nil (k _ ?_)
         refine AWp.ret ?_
         refine lx hb_20 fun hx => ?_; cases hx; try dsimp only at h2_19
         cases h2_19; try dsimp only at h
         cases h; exact rt
        ·refine AWp.skip ?_
         refine K_25 _ ?_
         refine AWp.reg ?_
         iterate 2 refine oo ?_
         refine AOps.nil ?_
         exact ln hb_20 sb
       ·rw [hg_40]
        rw [hg_40, cond_false] at hb_20
        iterate 10 refine dd ?_
        refine DOps.nil (by kernel_rfl) (k _ ?_)
        refine cdf ?_
        refine AWp.skip ?_
        refine K_25 _ ?_
        refine AWp.reg ?_
        iterate 2 refine oo ?_
        refine AOps.nil ?_
        exact ln hb_20 sb
   ·refine AWp.exit ?_
    refine lx hb_20 fun hx => ?_; cases hx; try dsimp only at h2_19
    exact ln h2_19 sb
  ·rintro _ h; dsimp only at h ⊢
   refine sg fun K k => ?_
   refine oo ?_
   refine AOps.nil (k _ ?_)
   refine AWp.ret ?_
   cases h; exact rt
end Go.Pv.Tryd

namespace Go.Pv.Tryd
open Go.Proofs Go.Pv
theorem m_tariff_Follow_1_c_ok (x1 : Node) (k1 : Int) (k2 : (List Node)) (r : Bool) (h : m_tariff_Follow_1_c x1 k1 k2 = some r) : PureFn Tryd.prog G 68 [.d (.agg [(.int .i64 x1.Mark), (.imm 1 (lenc (PD.int .i64) x1.Cuts)), (.imm 1 (lenc (PD.int .i64) x1.To))]), .dptr 1 [(.int .i64 k1)] 0 0, .dptr 1 [(.imm 3 (lenc Node.pd k2))] 0 0] (.d (.bool r)) := by
 unfold m_tariff_Follow_1_c at h
 refine pf Tryd.func68 Tryd.ntmps68 ?_
 refine sg fun K k => ?_
 iterate 2 refine oo ?_
 refine AOps.nil (k _ ?_)
 refine sg fun K k => ?_
 iterate 3 refine oo ?_
 obtain ⟨r1, hx_1, h⟩ := bind_some h
 refine cl (m_tariff_node_ok k1 k2 x1 _ hx_1) ?_
 iterate 2 refine oo ?_
 refine AOps.nil (k _ ?_)
 refine AWp.ret ?_
 cases h; exact rt
end Go.Pv.Tryd

namespace Go.Pv.Tryd
open Go.Proofs Go.Pv
theorem m_slices_IndexFunc_102_f68_ok (s1 : (List Node)) (f1 : Int) (f2 : (List Node)) (r : Int) (h : m_slices_IndexFunc_102_f68 s1 f1 f2 = some r) : PureFn Tryd.prog G 102 [.d (.imm 3 (lenc Node.pd s1)), .func (.func 68) [.dptr 1 [(.int .i64 f1)] 0 0, .dptr 1 [(.imm 3 (lenc Node.pd f2))] 0 0]] (.d (.int .i64 r)) := by
 unfold m_slices_IndexFunc_102_f68 at h
 refine pf Tryd.func102 Tryd.ntmps102 ?_
 refine sg fun K k => ?_
 refine oo ?_
 refine AOps.nil (k _ ?_)
 refine jm (ι := Unit) [] [] (fun i t => t) (fun i t => t) .inl h ?_ ?_
 ·intro _ hj_2 h
  refine sg fun K k => ?_
  iterate 3 refine oo ?_
  refine AOps.nil (k _ ?_)
  refine AWp.block ?_
  obtain ⟨x_7, hl_4, h2_5⟩ := bind_some hj_2
  refine lp (S := Int) [0, 1, 7] [] (fun i t => (8, .d (.int .i64 i)) :: t) (fun i t => t) hl_4 ?_ ?_; exact sb; clear hl_4
  rintro v1 _ hb_6; unfold m_slices_IndexFunc_102_f68_l1 at hb_6; try dsimp only at hb_6
  try dsimp only
  refine sg fun K k => ?_
  refine oo ?_
  refine AOps.nil (k _ ?_)
  refine AWp.seq fun _ K_9 => ?_
  refine cd hb_6 (fun hb_6 => ?_) (fun hb_6 => ?_)
  ·refine AWp.skip ?_
   refine K_9 _ ?_
   refine AWp.seq fun _ K_11 => ?_
   refine AWp.block ?_
   refine sg fun K k => ?_
   iterate 2 refine oo ?_
   refine AOps.nil (k _ ?_)
   refine sg fun K k => ?_
   obtain ⟨e1, ⟨f_12, f_13, f_14, f_15⟩, hb_6⟩ := idx_bind hb_6
   iterate 4 refine oo ?_
   refine oo ?_ (by intro K k; simp (disch := omega) only [go_sem, f_14, ↓reduceIte]; exact k)
   obtain ⟨r1, hx_16, hb_6⟩ := bind_some hb_6
   refine clC (m_tariff_Follow_1_c_ok e1 f1 f2 _ hx_16) ?_
   refine AOps.nil (k _ ?_)
   refine cd hb_6 (fun hb_6 => ?_) (fun hb_6 => ?_)
   ·refine sg fun K k => ?_
    iterate 2 refine oo ?_
    refine AOps.nil (k _ ?_)
    refine AWp.ret ?_
    refine lx hb_6 fun hx => ?_; cases hx; try dsimp only at h2_5
    cases h2_5; try dsimp only at h
    cases h; exact rt
   ·refine AWp.skip ?_
    refine K_11 _ ?_
    refine AWp.reg ?_
    iterate 2 refine oo ?_
    refine AOps.nil ?_
    exact ln hb_6 sb
  ·refine AWp.exit ?_
   refine lx hb_6 fun hx => ?_; cases hx; try dsimp only at h2_5
   exact ln h2_5 sb
 ·rintro _ h; dsimp only at h ⊢
  refine sg fun K k => ?_
  refine oo ?_
  refine AOps.nil (k _ ?_)
  refine AWp.ret ?_
  cases h; exact rt
end Go.Pv.Tryd

namespace Go.Pv.Tryd
open Go.Proofs Go.Pv
theorem m_slices_ContainsFunc_67_f68_ok (s1 : (List Node)) (f1 : Int) (f2 : (List Node)) (r : Bool) (h : m_slices_ContainsFunc_67_f68 s1 f1 f2 = some r) : PureFn Tryd.prog G 67 [.d (.imm 3 (lenc Node.pd s1)), .func (.func 68) [.dptr 1 [(.int .i64 f1)] 0 0, .dptr 1 [(.imm 3 (lenc Node.pd f2))] 0 0]] (.d (.bool r)) := by
 unfold m_slices_ContainsFunc_67_f68 at h
 refine pf Tryd.func67 Tryd.ntmps67 ?_
 refine sg fun K k => ?_
 refine oo ?_
 refine AOps.nil (k _ ?_)
 refine sg fun K k => ?_
 iterate 2 refine oo ?_
 obtain ⟨r1, hx_1, h⟩ := bind_some h
 refine clC (m_slices_IndexFunc_102_f68_ok s1 f1 f2 _ hx_1) ?_
 iterate 2 refine oo ?_
 refine AOps.nil (k _ ?_)
 refine AWp.ret ?_
 cases h; exact rt
end Go.Pv.Tryd

namespace Go.Pv.Tryd
open Go.Proofs Go.Pv
theorem m_tariff_Follow_2_c_ok (c1 : Int) (k1 : (List Int)) (k2 : Int) (k3 : (List Int)) (k4 : (List Int)) (r : Bool) (h : m_tariff_Follow_2_c c1 k1 k2 k3 k4 = some r) : PureFn Tryd.prog G 71 [.d (.int .i64 c1), .dptr 1 [(.imm 1 (lenc (PD.int .i64) k1))] 0 0, .dptr 3 [.agg [(.int .i64 k2), (.imm 1 (lenc (PD.int .i64) k3)), (.imm 1 (lenc (PD.int .i64) k4))]] 0 0] (.d (.bool r)) := by
 unfold m_tariff_Follow_2_c at h
 refine pf Tryd.func71 Tryd.ntmps71 ?_
 refine sg fun K k => ?_
 refine oo ?_
 refine AOps.nil (k _ ?_)
 refine sg fun K k => ?_
 obtain ⟨e1, ⟨f_1, f_2, f_3, f_4⟩, h⟩ := idx_bind h
 iterate 4 refine oo ?_
 refine oo ?_ (by intro K k; simp (disch := omega) only [go_sem, f_3, ↓reduceIte]; exact k)
 iterate 3 refine oo ?_
 refine AOps.nil (k _ ?_)
 refine AWp.ret ?_
 cases h; exact rt
end Go.Pv.Tryd

namespace Go.Pv.Tryd
open Go.Proofs Go.Pv
theorem m_slices_IndexFunc_70_f71_ok (s1 : (List Int)) (f1 : (List Int)) (f2 : Int) (f3 : (List Int)) (f4 : (List Int)) (r : Int) (h : m_slices_IndexFunc_70_f71 s1 f1 f2 f3 f4 = some r) : PureFn Tryd.prog G 70 [.d (.imm 1 (lenc (PD.int .i64) s1)), .func (.func 71) [.dptr 1 [(.imm 1 (lenc (PD.int .i64) f1))] 0 0, .dptr 3 [.agg [(.int .i64 f2), (.imm 1 (lenc (PD.int .i64) f3)), (.imm 1 (lenc (PD.int .i64) f4))]] 0 0]] (.d (.int .i64 r)) := by
 unfold m_slices_IndexFunc_70_f71 at h
 refine pf Tryd.func70 Tryd.ntmps70 ?_
 refine sg fun K k => ?_
 refine oo ?_
 refine AOps.nil (k _ ?_)
 refine jm (ι := Unit) [] [] (fun i t => t) (fun i t => t) .inl h ?_ ?_
 ·intro _ hj_2 h
  refine sg fun K k => ?_
  iterate 3 refine oo ?_
  refine AOps.nil (k _ ?_)
  refine AWp.block ?_
  obtain ⟨x_7, hl_4, h2_5⟩ := bind_some hj_2
  refine lp (S := Int) [0, 1, 7] [] (fun i t => (8, .d (.int .i64 i)) :: t) (fun i t => t) hl_4 ?_ ?_; exact sb; clear hl_4
  rintro v1 _ hb_6; unfold m_slices_IndexFunc_70_f71_l1 at hb_6; try dsimp only at hb_6
  try dsimp only
  refine sg fun K k => ?_
  refine oo ?_
  refine AOps.nil (k _ ?_)
  refine AWp.seq fun _ K_9 => ?_
  refine cd hb_6 (fun hb_6 => ?_) (fun hb_6 => ?_)
  ·refine AWp.skip ?_
   refine K_9 _ ?_
   refine AWp.seq fun _ K_11 => ?_
   refine AWp.block ?_
   refine sg fun K k => ?_
   iterate 2 refine oo ?_
   refine AOps.nil (k _ ?_)
   refine sg fun K k => ?_
   obtain ⟨e1, ⟨f_12, f_13, f_14, f_15⟩, hb_6⟩ := idx_bind hb_6
   iterate 4 refine oo ?_
   refine oo ?_ (by intro K k; simp (disch := omega) only [go_sem, f_14, ↓reduceIte]; exact k)
   obtain ⟨r1, hx_16, hb_6⟩ := bind_some hb_6
   refine clC (m_tariff_Follow_2_c_ok e1 f1 f2 f3 f4 _ hx_16) ?_
   refine AOps.nil (k _ ?_)
   refine cd hb_6 (fun hb_6 => ?_) (fun hb_6 => ?_)
   ·refine sg fun K k => ?_
    iterate 2 refine oo ?_
    refine AOps.nil (k _ ?_)
    refine AWp.ret ?_
    refine lx hb_6 fun hx => ?_; cases hx; try dsimp only at h2_5
    cases h2_5; try dsimp only at h
    cases h; exact rt
   ·refine AWp.skip ?_
    refine K_11 _ ?_
    refine AWp.reg ?_
    iterate 2 refine oo ?_
    refine AOps.nil ?_
    exact ln hb_6 sb
  ·refine AWp.exit ?_
   refine lx hb_6 fun hx => ?_; cases hx; try dsimp only at h2_5
   exact ln h2_5 sb
 ·rintro _ h; dsimp only at h ⊢
  refine sg fun K k => ?_
  refine oo ?_
  refine AOps.nil (k _ ?_)
  refine AWp.ret ?_
  cases h; exact rt
end Go.Pv.Tryd

namespace Go.Pv.Tryd
open Go.Proofs Go.Pv
set_option maxHeartbeats 4000000 in
theorem m_tariff_Follow_ok (k1 : Int) (d1 : (List Node)) (l1 : (List Int)) (r : (Int × Int)) (h : m_tariff_Follow k1 d1 l1 = some r) : PureFn Tryd.prog G 38 [.d (.int .i64 k1), .d (.imm 3 (lenc Node.pd d1)), .d (.imm 1 (lenc (PD.int .i64) l1))] (.tuple [.d (.int .i64 r.1), .d (.int .i64 r.2)]) := by
 unfold m_tariff_Follow at h
 refine pf Tryd.func38 Tryd.ntmps38 ?_
 refine sg fun K k => ?_
 iterate 5 refine oo ?_
 refine AOps.nil (k _ ?_)
 refine AWp.seq fun _ K_1 => ?_
 refine sg fun K k => ?_
 refine oo ?_
 obtain ⟨r1, hx_2, h⟩ := bind_some h
 refine cl (m_tariff_marks_ok k1 _ hx_2) ?_
 iterate 2 refine oo ?_
 obtain ⟨b1, hc_3, h⟩ := bind_some h
 refine ct 5 [3, 4, 5] [1000, 1001, 1002] (fun  t => (18, .d (.bool b1)) :: t) ?_ ?_
 ·rcases bt (!r1) with hg_5 | hg_5
  ·rw [hg_5]
   rw [hg_5, cond_true] at hc_3
   iterate 5 refine oo ?_
   refine AOps.nil ?_
   cases hc_3
   exact sb
  ·rw [hg_5]
   rw [hg_5, cond_false] at hc_3
   iterate 2 refine oo ?_
   obtain ⟨r2, hx_4, hc_3⟩ := bind_some hc_3
   refine cl (m_tariff_thing_ok k1 l1 _ hx_4) ?_
   iterate 2 refine oo ?_
   refine AOps.nil ?_
   cases hc_3
   exact sb
 refine oo ?_
 refine ct 4 [3, 4, 5] [1000, 1001, 1002] (fun  t => (23, .d (.bool (b1 || (decide ((d1.length : Int) = 0))))) :: t) ?_ ?_
 ·rcases bt b1 with hg_7 | hg_7
  ·rw [hg_7]
   iterate 4 refine oo ?_
   refine AOps.nil ?_
   exact sb
  ·rw [hg_7]
   iterate 4 refine oo ?_
   refine AOps.nil ?_
   exact sb
 refine oo ?_
 refine ct 4 [3, 4, 5] [1000, 1001, 1002] (fun  t => (28, .d (.bool ((b1 || (decide ((d1.length : Int) = 0))) || (decide (200000 < (d1.length : Int)))))) :: t) ?_ ?_
 ·rcases bt (b1 || (decide ((d1.length : Int) = 0))) with hg_9 | hg_9
  ·rw [hg_9]
   iterate 4 refine oo ?_
   refine AOps.nil ?_
   exact sb
  ·rw [hg_9]
   iterate 4 refine oo ?_
   refine AOps.nil ?_
   exact sb
 refine oo ?_
 obtain ⟨b2, hc_10, h⟩ := bind_some h
 refine ct 4 [5] [1002] (fun  t => (4, .dptr 1 [(.imm 3 (lenc Node.pd d1))] 0 0) :: (33, .d (.bool b2)) :: t) ?_ ?_
 ·rcases bt ((b1 || (decide ((d1.length : Int) = 0))) || (decide (200000 < (d1.length : Int)))) with hg_12 | hg_12
  ·rw [hg_12]
   rw [hg_12, cond_true] at hc_10
   iterate 4 refine oo ?_
   refine AOps.nil ?_
   cases hc_10
   exact sc
  ·rw [hg_12]
   rw [hg_12, cond_false] at hc_10
   iterate 2 refine oo ?_
   refine AOps.sub (τ := ⟨[(4, .dptr 1 [(.imm 3 (lenc Node.pd d1))] 0 0), (5, .ptr 1002 0 0), (29, .d (.bool false)), (30, .d (.imm 3 (lenc Node.pd d1))), (31, .func (.func 68) [.dptr 1 [(.int .i64 k1)] 0 0, .dptr 1 [(.imm 3 (lenc Node.pd d1))] 0 0])], [(1002, ⟨26, 1, [.d (.imm 1 (lenc (PD.int .i64) l1))]⟩)], [], none⟩) sc ?_
   obtain ⟨r3, hx_11, hc_10⟩ := bind_some hc_10
   refine clC (m_slices_ContainsFunc_67_f68_ok d1 k1 d1 _ hx_11) ?_
   refine oo ?_
   refine AOps.nil ?_
   cases hc_10
   exact sb
 refine AOps.nil (k _ ?_)
 refine cd h (fun h => ?_) (fun h => ?_)
 ·refine sg fun K k => ?_
  iterate 2 refine oo ?_
  refine AOps.nil (k _ ?_)
  refine AWp.ret ?_
  cases h; exact rt
 ·refine AWp.skip ?_
  refine K_1 _ ?_
  refine sg fun K k => ?_
  refine oo ?_
  refine AOps.nil (k _ ?_)
  refine jn (α := Int) [] [] (fun i t => (8, .d (.int .i64 i)) :: t) (fun i t => t) h ?_ ?_
  ·intro _ hj_15
   refine AWp.block ?_
   obtain ⟨x_20, hl_17, h2_18⟩ := bind_some hj_15
   refine lp (S := Int) [4] [] (fun i t => (5, .dptr 1 [(.imm 1 (lenc (PD.int .i64) l1))] 0 0) :: (8, .d (.int .i64 i)) :: t) (fun i t => t) hl_17 ?_ ?_; exact sc; clear hl_17
   rintro at2 _ hb_19; unfold m_tariff_Follow_l1 at hb_19; try dsimp only at hb_19
   try dsimp only
   refine AWp.seq fun _ K_22 => ?_
   refine sg fun K k => ?_
   iterate 2 refine oo ?_
   refine AOps.nil (k _ ?_)
   refine cd hb_19 (fun hb_19 => ?_) (fun hb_19 => ?_)
   ·refine AWp.skip ?_
    refine K_22 _ ?_
    refine AWp.block ?_
    refine sg fun K k => ?_
    obtain ⟨e1, ⟨f_24, f_25, f_26, f_27⟩, hb_19⟩ := idx_bind hb_19
    iterate 3 refine oo ?_
    refine oo ?_ (by intro K k; simp (disch := omega) only [go_sem, f_26, ↓reduceIte]; exact k)
    iterate 2 refine oo ?_
    refine AOps.nil (k _ ?_)
    refine AWp.sub (τ := ⟨[(4, .dptr 1 [(.imm 3 (lenc Node.pd d1))] 0 0), (5, .dptr 1 [(.imm 1 (lenc (PD.int .i64) l1))] 0 0), (8, .d (.int .i64 at2)), (9, .dptr 3 [.agg [(.int .i64 e1.Mark), (.imm 1 (lenc (PD.int .i64) e1.Cuts)), (.imm 1 (lenc (PD.int .i64) e1.To))]] 0 0)], [], [], none⟩) sc ?_
    refine AWp.draw mo [] trivial ?_
    iterate 5 refine dd ?_
    obtain ⟨r4, hx_28, hb_19⟩ := bind_some hb_19
    refine dclC (m_slices_IndexFunc_70_f71_ok e1.Cuts l1 e1.Mark e1.Cuts e1.To _ hx_28) ?_
    obtain ⟨e2, ⟨f_29, f_30, f_31, f_32⟩, hb_19⟩ := idx_bind hb_19
    refine dd ?_
    refine dd ?_ (by intro K k; simp (disch := omega) only [go_sem, f_31, ↓reduceIte]; exact k)
    refine dd ?_
    refine DOps.nil (by kernel_rfl) ?_
    exact ln hb_19 sb
   ·refine AWp.exit ?_
    refine lx hb_19 fun hx => ?_; cases hx; try dsimp only at h2_18
    cases h2_18; exact sb
  ·rintro at1 h; dsimp only at h ⊢
   refine AWp.seq fun _ K_33 => ?_
   refine sg fun K k => ?_
   iterate 2 refine oo ?_
   refine AOps.nil (k _ ?_)
   refine cd h (fun h => ?_) (fun h => ?_)
   ·refine sg fun K k => ?_
    iterate 2 refine oo ?_
    refine AOps.nil (k _ ?_)
    refine AWp.ret ?_
    cases h; exact rt
   ·refine AWp.skip ?_
    refine K_33 _ ?_
    refine sg fun K k => ?_
    iterate 4 refine oo ?_
    refine AOps.nil (k _ ?_)
    refine AWp.ret ?_
    cases h; exact rt
end Go.Pv.Tryd

namespace Go.Pv.Tryd
open Go.Proofs Go.Pv
theorem m_cocketlaw02_three_ok (r : (List Rule)) (h : m_cocketlaw02_three = some r) : PureFn Tryd.prog G 46 [] (.d (.imm 2 (lenc Rule.pd r))) := by
 unfold m_cocketlaw02_three at h
 refine pf Tryd.func46 Tryd.ntmps46 ?_
 refine sg fun K k => ?_
 refine oo ?_
 refine AOps.nil (k _ ?_)
 refine sg fun K k => ?_
 refine oo ?_
 refine ol ?_
 iterate 2 refine oo ?_
 refine ol ?_
 iterate 2 refine oo ?_
 refine ol ?_
 refine oo ?_
 refine ol ?_
 refine oo ?_
 refine AOps.nil (k _ ?_)
 refine AWp.ret ?_
 cases h; exact rt
end Go.Pv.Tryd

namespace Go.Pv.Tryd
open Go.Proofs Go.Pv
theorem m_tariff_fine_1_ok (b1 : Band) (r : Bool) (h : m_tariff_fine_1 b1 = some r) : PureFn Tryd.prog G 103 [.d (.agg [(.int .i64 b1.Lo), (.int .i64 b1.Hi)])] (.d (.bool r)) := by
 unfold m_tariff_fine_1 at h
 refine pf Tryd.func103 Tryd.ntmps103 ?_
 refine sg fun K k => ?_
 iterate 2 refine oo ?_
 refine AOps.nil (k _ ?_)
 refine sg fun K k => ?_
 iterate 4 refine oo ?_
 refine ct 6 [1] [1000] (fun  t => (12, .d (.bool ((decide (b1.Lo < 0)) || (decide (b1.Hi ≤ b1.Lo))))) :: t) ?_ ?_
 ·rcases bt (decide (b1.Lo < 0)) with hg_2 | hg_2
  ·rw [hg_2]
   iterate 6 refine oo ?_
   refine AOps.nil ?_
   exact sb
  ·rw [hg_2]
   iterate 6 refine oo ?_
   refine AOps.nil ?_
   exact sb
 refine oo ?_
 refine ct 4 [] [] (fun  t => (17, .d (.bool (((decide (b1.Lo < 0)) || (decide (b1.Hi ≤ b1.Lo))) || (decide (1000 < b1.Hi))))) :: t) ?_ ?_
 ·rcases bt ((decide (b1.Lo < 0)) || (decide (b1.Hi ≤ b1.Lo))) with hg_4 | hg_4
  ·rw [hg_4]
   iterate 4 refine oo ?_
   refine AOps.nil ?_
   exact sb
  ·rw [hg_4]
   iterate 4 refine oo ?_
   refine AOps.nil ?_
   exact sb
 refine oo ?_
 refine AOps.nil (k _ ?_)
 refine AWp.ret ?_
 cases h; exact rt
end Go.Pv.Tryd

namespace Go.Pv.Tryd
open Go.Proofs Go.Pv
theorem m_slices_IndexFunc_113_f103_ok (s1 : (List Band)) (r : Int) (h : m_slices_IndexFunc_113_f103 s1 = some r) : PureFn Tryd.prog G 113 [.d (.imm 2 (lenc Band.pd s1)), .d (.fn (.func 103))] (.d (.int .i64 r)) := by
 unfold m_slices_IndexFunc_113_f103 at h
 refine pf Tryd.func113 Tryd.ntmps113 ?_
 refine sg fun K k => ?_
 refine oo ?_
 refine AOps.nil (k _ ?_)
 refine jm (ι := Unit) [] [] (fun i t => t) (fun i t => t) .inl h ?_ ?_
 ·intro _ hj_2 h
  refine sg fun K k => ?_
  iterate 3 refine oo ?_
  refine AOps.nil (k _ ?_)
  refine AWp.block ?_
  obtain ⟨x_7, hl_4, h2_5⟩ := bind_some hj_2
  refine lp (S := Int) [0, 1, 7] [] (fun i t => (8, .d (.int .i64 i)) :: t) (fun i t => t) hl_4 ?_ ?_; exact sb; clear hl_4
  rintro v1 _ hb_6; unfold m_slices_IndexFunc_113_f103_l1 at hb_6; try dsimp only at hb_6
  try dsimp only
  refine sg fun K k => ?_
  refine oo ?_
  refine AOps.nil (k _ ?_)
  refine AWp.seq fun _ K_9 => ?_
  refine cd hb_6 (fun hb_6 => ?_) (fun hb_6 => ?_)
  ·refine AWp.skip ?_
   refine K_9 _ ?_
   refine AWp.seq fun _ K_11 => ?_
   refine AWp.block ?_
   refine sg fun K k => ?_
   iterate 2 refine oo ?_
   refine AOps.nil (k _ ?_)
   refine sg fun K k => ?_
   obtain ⟨e1, ⟨f_12, f_13, f_14, f_15⟩, hb_6⟩ := idx_bind hb_6
   iterate 4 refine oo ?_
   refine oo ?_ (by intro K k; simp (disch := omega) only [go_sem, f_14, ↓reduceIte]; exact k)
   obtain ⟨r1, hx_16, hb_6⟩ := bind_some hb_6
   refine clV (m_tariff_fine_1_ok e1 _ hx_16) ?_
   refine AOps.nil (k _ ?_)
   refine cd hb_6 (fun hb_6 => ?_) (fun hb_6 => ?_)
   ·refine sg fun K k => ?_
    iterate 2 refine oo ?_
    refine AOps.nil (k _ ?_)
    refine AWp.ret ?_
    refine lx hb_6 fun hx => ?_; cases hx; try dsimp only at h2_5
    cases h2_5; try dsimp only at h
    cases h; exact rt
   ·refine AWp.skip ?_
    refine K_11 _ ?_
    refine AWp.reg ?_
    iterate 2 refine oo ?_
    refine AOps.nil ?_
    exact ln hb_6 sb
  ·refine AWp.exit ?_
   refine lx hb_6 fun hx => ?_; cases hx; try dsimp only at h2_5
   exact ln h2_5 sb
 ·rintro _ h; dsimp only at h ⊢
  refine sg fun K k => ?_
  refine oo ?_
  refine AOps.nil (k _ ?_)
  refine AWp.ret ?_
  cases h; exact rt
end Go.Pv.Tryd

namespace Go.Pv.Tryd
open Go.Proofs Go.Pv
theorem m_slices_ContainsFunc_104_f103_ok (s1 : (List Band)) (r : Bool) (h : m_slices_ContainsFunc_104_f103 s1 = some r) : PureFn Tryd.prog G 104 [.d (.imm 2 (lenc Band.pd s1)), .d (.fn (.func 103))] (.d (.bool r)) := by
 unfold m_slices_ContainsFunc_104_f103 at h
 refine pf Tryd.func104 Tryd.ntmps104 ?_
 refine sg fun K k => ?_
 refine oo ?_
 refine AOps.nil (k _ ?_)
 refine sg fun K k => ?_
 iterate 2 refine oo ?_
 obtain ⟨r1, hx_1, h⟩ := bind_some h
 refine clC (m_slices_IndexFunc_113_f103_ok s1 _ hx_1) ?_
 iterate 2 refine oo ?_
 refine AOps.nil (k _ ?_)
 refine AWp.ret ?_
 cases h; exact rt
end Go.Pv.Tryd

namespace Go.Pv.Tryd
open Go.Proofs Go.Pv
theorem m_tariff_fine_ok (k1 : Int) (r1 : Rule) (r : Bool) (h : m_tariff_fine k1 r1 = some r) : PureFn Tryd.prog G 78 [.d (.int .i64 k1), .d (.agg [(.imm 2 (lenc Band.pd r1.Bands)), (.int .i64 r1.Code)])] (.d (.bool r)) := by
 unfold m_tariff_fine at h
 refine pf Tryd.func78 Tryd.ntmps78 ?_
 refine sg fun K k => ?_
 iterate 2 refine oo ?_
 refine AOps.nil (k _ ?_)
 refine sg fun K k => ?_
 refine oo ?_
 refine AOps.nil (k _ ?_)
 refine sg fun K k => ?_
 iterate 6 refine oo ?_
 refine ct 4 [3, 5] [1000] (fun  t => (15, .d (.bool ((decide ((r1.Bands.length : Int) = k1)) && (decide (0 ≤ r1.Code))))) :: t) ?_ ?_
 ·rcases bt (decide ((r1.Bands.length : Int) = k1)) with hg_2 | hg_2
  ·rw [hg_2]
   iterate 4 refine oo ?_
   refine AOps.nil ?_
   exact sb
  ·rw [hg_2]
   iterate 4 refine oo ?_
   refine AOps.nil ?_
   exact sb
 refine oo ?_
 refine ct 4 [3, 5] [1000] (fun  t => (20, .d (.bool (((decide ((r1.Bands.length : Int) = k1)) && (decide (0 ≤ r1.Code))) && (decide (r1.Code ≤ 99))))) :: t) ?_ ?_
 ·rcases bt ((decide ((r1.Bands.length : Int) = k1)) && (decide (0 ≤ r1.Code))) with hg_4 | hg_4
  ·rw [hg_4]
   iterate 4 refine oo ?_
   refine AOps.nil ?_
   exact sb
  ·rw [hg_4]
   iterate 4 refine oo ?_
   refine AOps.nil ?_
   exact sb
 refine oo ?_
 obtain ⟨b1, hc_5, h⟩ := bind_some h
 refine ct 6 [] [] (fun  t => (27, .d (.bool b1)) :: t) ?_ ?_
 ·rcases bt (((decide ((r1.Bands.length : Int) = k1)) && (decide (0 ≤ r1.Code))) && (decide (r1.Code ≤ 99))) with hg_7 | hg_7
  ·rw [hg_7]
   rw [hg_7, cond_true] at hc_5
   iterate 3 refine oo ?_
   obtain ⟨r2, hx_6, hc_5⟩ := bind_some hc_5
   refine clC (m_slices_ContainsFunc_104_f103_ok r1.Bands _ hx_6) ?_
   iterate 2 refine oo ?_
   refine AOps.nil ?_
   cases hc_5
   exact sb
  ·rw [hg_7]
   rw [hg_7, cond_false] at hc_5
   iterate 6 refine oo ?_
   refine AOps.nil ?_
   cases hc_5
   exact sb
 refine oo ?_
 refine AOps.nil (k _ ?_)
 refine AWp.ret ?_
 cases h; exact rt
end Go.Pv.Tryd

namespace Go.Pv.Tryd
open Go.Proofs Go.Pv
theorem m_tariff_checked_1_c_ok (r1 : Rule) (k1 : Int) (r : Bool) (h : m_tariff_checked_1_c r1 k1 = some r) : PureFn Tryd.prog G 77 [.d (.agg [(.imm 2 (lenc Band.pd r1.Bands)), (.int .i64 r1.Code)]), .dptr 1 [(.int .i64 k1)] 0 0] (.d (.bool r)) := by
 unfold m_tariff_checked_1_c at h
 refine pf Tryd.func77 Tryd.ntmps77 ?_
 refine sg fun K k => ?_
 iterate 2 refine oo ?_
 refine AOps.nil (k _ ?_)
 refine sg fun K k => ?_
 iterate 2 refine oo ?_
 obtain ⟨r2, hx_1, h⟩ := bind_some h
 refine cl (m_tariff_fine_ok k1 r1 _ hx_1) ?_
 iterate 2 refine oo ?_
 refine AOps.nil (k _ ?_)
 refine AWp.ret ?_
 cases h; exact rt
end Go.Pv.Tryd

namespace Go.Pv.Tryd
open Go.Proofs Go.Pv
theorem m_slices_IndexFunc_99_f77_ok (s1 : (List Rule)) (f1 : Int) (r : Int) (h : m_slices_IndexFunc_99_f77 s1 f1 = some r) : PureFn Tryd.prog G 99 [.d (.imm 2 (lenc Rule.pd s1)), .func (.func 77) [.dptr 1 [(.int .i64 f1)] 0 0]] (.d (.int .i64 r)) := by
 unfold m_slices_IndexFunc_99_f77 at h
 refine pf Tryd.func99 Tryd.ntmps99 ?_
 refine sg fun K k => ?_
 refine oo ?_
 refine AOps.nil (k _ ?_)
 refine jm (ι := Unit) [] [] (fun i t => t) (fun i t => t) .inl h ?_ ?_
 ·intro _ hj_2 h
  refine sg fun K k => ?_
  iterate 3 refine oo ?_
  refine AOps.nil (k _ ?_)
  refine AWp.block ?_
  obtain ⟨x_7, hl_4, h2_5⟩ := bind_some hj_2
  refine lp (S := Int) [0, 1, 7] [] (fun i t => (8, .d (.int .i64 i)) :: t) (fun i t => t) hl_4 ?_ ?_; exact sb; clear hl_4
  rintro v1 _ hb_6; unfold m_slices_IndexFunc_99_f77_l1 at hb_6; try dsimp only at hb_6
  try dsimp only
  refine sg fun K k => ?_
  refine oo ?_
  refine AOps.nil (k _ ?_)
  refine AWp.seq fun _ K_9 => ?_
  refine cd hb_6 (fun hb_6 => ?_) (fun hb_6 => ?_)
  ·refine AWp.skip ?_
   refine K_9 _ ?_
   refine AWp.seq fun _ K_11 => ?_
   refine AWp.block ?_
   refine sg fun K k => ?_
   iterate 2 refine oo ?_
   refine AOps.nil (k _ ?_)
   refine sg fun K k => ?_
   obtain ⟨e1, ⟨f_12, f_13, f_14, f_15⟩, hb_6⟩ := idx_bind hb_6
   iterate 4 refine oo ?_
   refine oo ?_ (by intro K k; simp (disch := omega) only [go_sem, f_14, ↓reduceIte]; exact k)
   obtain ⟨r1, hx_16, hb_6⟩ := bind_some hb_6
   refine clC (m_tariff_checked_1_c_ok e1 f1 _ hx_16) ?_
   refine AOps.nil (k _ ?_)
   refine cd hb_6 (fun hb_6 => ?_) (fun hb_6 => ?_)
   ·refine sg fun K k => ?_
    iterate 2 refine oo ?_
    refine AOps.nil (k _ ?_)
    refine AWp.ret ?_
    refine lx hb_6 fun hx => ?_; cases hx; try dsimp only at h2_5
    cases h2_5; try dsimp only at h
    cases h; exact rt
   ·refine AWp.skip ?_
    refine K_11 _ ?_
    refine AWp.reg ?_
    iterate 2 refine oo ?_
    refine AOps.nil ?_
    exact ln hb_6 sb
  ·refine AWp.exit ?_
   refine lx hb_6 fun hx => ?_; cases hx; try dsimp only at h2_5
   exact ln h2_5 sb
 ·rintro _ h; dsimp only at h ⊢
  refine sg fun K k => ?_
  refine oo ?_
  refine AOps.nil (k _ ?_)
  refine AWp.ret ?_
  cases h; exact rt
end Go.Pv.Tryd

namespace Go.Pv.Tryd
open Go.Proofs Go.Pv
theorem m_slices_ContainsFunc_76_f77_ok (s1 : (List Rule)) (f1 : Int) (r : Bool) (h : m_slices_ContainsFunc_76_f77 s1 f1 = some r) : PureFn Tryd.prog G 76 [.d (.imm 2 (lenc Rule.pd s1)), .func (.func 77) [.dptr 1 [(.int .i64 f1)] 0 0]] (.d (.bool r)) := by
 unfold m_slices_ContainsFunc_76_f77 at h
 refine pf Tryd.func76 Tryd.ntmps76 ?_
 refine sg fun K k => ?_
 refine oo ?_
 refine AOps.nil (k _ ?_)
 refine sg fun K k => ?_
 iterate 2 refine oo ?_
 obtain ⟨r1, hx_1, h⟩ := bind_some h
 refine clC (m_slices_IndexFunc_99_f77_ok s1 f1 _ hx_1) ?_
 iterate 2 refine oo ?_
 refine AOps.nil (k _ ?_)
 refine AWp.ret ?_
 cases h; exact rt
end Go.Pv.Tryd

namespace Go.Pv.Tryd
open Go.Proofs Go.Pv
theorem m_tariff_checked_ok (k1 : Int) (ts1 : (List (List Rule))) (r : Int) (h : m_tariff_checked k1 ts1 = some r) : PureFn Tryd.prog G 47 [.d (.int .i64 k1), .d (.imm 1 (lenc (slenc 2 Rule.pd) ts1))] (.d (.int .i64 r)) := by
 unfold m_tariff_checked at h
 refine pf Tryd.func47 Tryd.ntmps47 ?_
 refine sg fun K k => ?_
 iterate 2 refine oo ?_
 refine AOps.nil (k _ ?_)
 refine AWp.seq fun _ K_1 => ?_
 refine sg fun K k => ?_
 refine oo ?_
 obtain ⟨r1, hx_2, h⟩ := bind_some h
 refine cl (m_tariff_marks_ok k1 _ hx_2) ?_
 refine oo ?_
 refine AOps.nil (k _ ?_)
 refine cd h (fun h => ?_) (fun h => ?_)
 ·refine sg fun K k => ?_
  refine oo ?_
  refine AOps.nil (k _ ?_)
  refine AWp.ret ?_
  cases h; exact rt
 ·refine AWp.skip ?_
  refine K_1 _ ?_
  refine jm (ι := Unit) [] [] (fun i t => t) (fun i t => t) .inl h ?_ ?_
  ·intro _ hj_5 h
   refine sg fun K k => ?_
   iterate 3 refine oo ?_
   refine AOps.nil (k _ ?_)
   refine AWp.block ?_
   obtain ⟨x_10, hl_7, h2_8⟩ := bind_some hj_5
   refine lp (S := Int) [10, 11] [] (fun i t => (2, .dptr 1 [(.int .i64 k1)] 0 0) :: (12, .d (.int .i64 i)) :: t) (fun i t => t) hl_7 ?_ ?_; exact sc; clear hl_7
   rintro v1 _ hb_9; unfold m_tariff_checked_l1 at hb_9; try dsimp only at hb_9
   try dsimp only
   refine sg fun K k => ?_
   refine oo ?_
   refine AOps.nil (k _ ?_)
   refine AWp.seq fun _ K_12 => ?_
   refine cd hb_9 (fun hb_9 => ?_) (fun hb_9 => ?_)
   ·refine AWp.skip ?_
    refine K_12 _ ?_
    refine AWp.seq fun _ K_14 => ?_
    refine AWp.block ?_
    refine sg fun K k => ?_
    obtain ⟨e1, ⟨f_15, f_16, f_17, f_18⟩, hb_9⟩ := idx_bind hb_9
    refine oo ?_
    refine oo ?_ (by intro K k; simp (disch := omega) only [go_sem, f_17, ↓reduceIte]; exact k)
    refine oo ?_
    refine AOps.nil (k _ ?_)
    refine AWp.seq fun _ K_19 => ?_
    refine sg fun K k => ?_
    iterate 3 refine oo ?_
    refine AOps.nil (k _ ?_)
    refine cd hb_9 (fun hb_9 => ?_) (fun hb_9 => ?_)
    ·refine sg fun K k => ?_
     refine oo ?_
     refine AOps.nil (k _ ?_)
     refine AWp.ret ?_
     refine lx hb_9 fun hx => ?_; cases hx; try dsimp only at h2_8
     cases h2_8; try dsimp only at h
     cases h; exact rt
    ·refine AWp.skip ?_
     refine K_19 _ ?_
     refine sg fun K k => ?_
     iterate 2 refine oo ?_
     obtain ⟨r2, hx_21, hb_9⟩ := bind_some hb_9
     refine clC (m_slices_ContainsFunc_76_f77_ok e1 k1 _ hx_21) ?_
     refine AOps.nil (k _ ?_)
     refine cd hb_9 (fun hb_9 => ?_) (fun hb_9 => ?_)
     ·refine sg fun K k => ?_
      refine oo ?_
      refine AOps.nil (k _ ?_)
      refine AWp.ret ?_
      refine lx hb_9 fun hx => ?_; cases hx; try dsimp only at h2_8
      cases h2_8; try dsimp only at h
      cases h; exact rt
     ·refine AWp.skip ?_
      refine K_14 _ ?_
      refine AWp.reg ?_
      iterate 2 refine oo ?_
      refine AOps.nil ?_
      exact ln hb_9 sb
   ·refine AWp.exit ?_
    refine lx hb_9 fun hx => ?_; cases hx; try dsimp only at h2_8
    exact ln h2_8 sb
  ·rintro _ h; dsimp only at h ⊢
   refine sg fun K k => ?_
   refine oo ?_
   refine AOps.nil (k _ ?_)
   refine AWp.ret ?_
   cases h; exact rt
end Go.Pv.Tryd

namespace Go.Pv.Tryd
open Go.Proofs Go.Pv
theorem m_tariff_all_ok (t1 : (List Rule)) (r : Int) (h : m_tariff_all t1 = some r) : PureFn Tryd.prog G 58 [.d (.imm 2 (lenc Rule.pd t1))] (.d (.int .u32 r)) := by
 unfold m_tariff_all at h
 refine pf Tryd.func58 Tryd.ntmps58 ?_
 refine sg fun K k => ?_
 refine oo ?_
 refine AOps.nil (k _ ?_)
 refine sg fun K k => ?_
 obtain ⟨hg_1, h⟩ := guardO_some h
 iterate 5 refine oo ?_
 refine AOps.nil (k _ ?_)
 refine AWp.ret ?_
 cases h; exact rt
end Go.Pv.Tryd

namespace Go.Proofs
open Go.Shelf
def Tryd.lays189_ren : Go.Shelf.Ren := ⟨fun | 189 => 105 | 125 => 115 | 257 => 114 | 128 => 127 | 129 => 128 | 294 => 118 | 295 => 119 | 296 => 120 | 297 => 121 | 298 => 122 | 299 => 123 | 216 => 124 | 300 => 125 | 301 => 126 | 328 => 131 | 329 => 132 | 330 => 133 | 331 => 134 | 332 => 135 | 215 => 136 | 343 => 141 | n => n, fun | 28 => 26 | 3 => 3 | 46 => 159 | 0 => 0 | 51 => 94 | 53 => 170 | 4 => 4 | 183 => 163 | 182 => 162 | 131 => 130 | 5 => 5 | 9 => 9 | 218 => 174 | 222 => 178 | 228 => 184 | 229 => 185 | n => n, fun | n => n⟩
theorem Tryd.lays189 : Go.Proofs.Lays.n189 Tryd.prog Tryd.lays189_ren := {
  mixed := by kernel_rfl
  f125 := Tryd.func115.trans (congrArg some (by kernel_rfl))
  f128 := Tryd.func127.trans (congrArg some (by kernel_rfl))
  f129 := Tryd.func128.trans (congrArg some (by kernel_rfl))
  f189 := Tryd.func105.trans (congrArg some (by kernel_rfl))
  f215 := Tryd.func136.trans (congrArg some (by kernel_rfl))
  f216 := Tryd.func124.trans (congrArg some (by kernel_rfl))
  f257 := Tryd.func114.trans (congrArg some (by kernel_rfl))
  f294 := Tryd.func118.trans (congrArg some (by kernel_rfl))
  f295 := Tryd.func119.trans (congrArg some (by kernel_rfl))
  f296 := Tryd.func120.trans (congrArg some (by kernel_rfl))
  f297 := Tryd.func121.trans (congrArg some (by kernel_rfl))
  f298 := Tryd.func122.trans (congrArg some (by kernel_rfl))
  f299 := Tryd.func123.trans (congrArg some (by kernel_rfl))
  f300 := Tryd.func125.trans (congrArg some (by kernel_rfl))
  f301 := Tryd.func126.trans (congrArg some (by kernel_rfl))
  f328 := Tryd.func131.trans (congrArg some (by kernel_rfl))
  f329 := Tryd.func132.trans (congrArg some (by kernel_rfl))
  f330 := Tryd.func133.trans (congrArg some (by kernel_rfl))
  f331 := Tryd.func134.trans (congrArg some (by kernel_rfl))
  f332 := Tryd.func135.trans (congrArg some (by kernel_rfl))
  f343 := Tryd.func141.trans (congrArg some (by kernel_rfl))
  t0 := Tryd.underlying0
  a0 := Tryd.isAgg0
  z0 := Tryd.sizeOf0
  v0 := Tryd.zeroValue0
  t3 := Tryd.underlying3
  a3 := Tryd.isAgg3
  z3 := Tryd.sizeOf3
  v3 := Tryd.zeroValue3
  t4 := Tryd.underlying4
  a4 := Tryd.isAgg4
  z4 := Tryd.sizeOf4
  v4 := Tryd.zeroValue4
  t5 := Tryd.underlying5
  a5 := Tryd.isAgg5
  z5 := Tryd.sizeOf5
  v5 := Tryd.zeroValue5
  t9 := Tryd.underlying9
  a9 := Tryd.isAgg9
  z9 := Tryd.sizeOf9
  v9 := Tryd.zeroValue9
  t28 := Tryd.underlying26
  a28 := Tryd.isAgg26
  z28 := Tryd.sizeOf26
  v28 := Tryd.zeroValue26
  t46 := Tryd.underlying159
  a46 := Tryd.isAgg159
  z46 := Tryd.sizeOf159
  v46 := Tryd.zeroValue159
  t51 := Tryd.underlying94
  a51 := Tryd.isAgg94
  z51 := Tryd.sizeOf94
  v51 := Tryd.zeroValue94
  t53 := Tryd.underlying170
  a53 := Tryd.isAgg170
  z53 := Tryd.sizeOf170
  v53 := Tryd.zeroValue170
  t131 := Tryd.underlying130
  a131 := Tryd.isAgg130
  z131 := Tryd.sizeOf130
  v131 := Tryd.zeroValue130
  t182 := Tryd.underlying162
  a182 := Tryd.isAgg162
  z182 := Tryd.sizeOf162
  v182 := Tryd.zeroValue162
  t183 := Tryd.underlying163
  a183 := Tryd.isAgg163
  z183 := Tryd.sizeOf163
  v183 := Tryd.zeroValue163
  t218 := Tryd.underlying174
  a218 := Tryd.isAgg174
  z218 := Tryd.sizeOf174
  v218 := Tryd.zeroValue174
  t222 := Tryd.underlying178
  a222 := Tryd.isAgg178
  z222 := Tryd.sizeOf178
  v222 := Tryd.zeroValue178
  t228 := Tryd.underlying184
  a228 := Tryd.isAgg184
  z228 := Tryd.sizeOf184
  v228 := Tryd.zeroValue184
  t229 := Tryd.underlying185
  a229 := Tryd.isAgg185
  z229 := Tryd.sizeOf185
  v229 := Tryd.zeroValue185 }
open Go.Sort Go.RowKit in
theorem Tryd.slices_Sort_int (blk off cap : Nat) (zs : List Int) (w : World) (hH : Holds (Value.int .i64) w blk off zs.toArray) (hblk : blk < w.heap.size) (hsz : zs.length < 4611686018427387904) :
    Calls Tryd.prog 105 #[.slice (some ⟨blk, off, none⟩) zs.length cap] w fun e w' =>
      e = .returned (.tuple #[]) ∧ ∃ n os, w' = grow (putRow (Value.int .i64) (Sort.ahead w n) blk off (zs.mergeSort fun x y => decide (x ≤ y)).toArray) os := Any.slices_Sort_int Tryd.lays189 blk off cap zs w hH hblk hsz
def Tryd.laysNm220_ren : Go.Shelf.Ren := ⟨fun | 20 => 106 | n => n, fun | 22 => 26 | 3 => 3 | 4 => 4 | 0 => 0 | n => n, fun | n => n⟩
theorem Tryd.laysNm220 : Go.Proofs.Lays2.n20 Tryd.prog Tryd.laysNm220_ren := {
  mixed := by kernel_rfl
  f20 := Tryd.func106.trans (congrArg some (by kernel_rfl))
  t0 := Tryd.underlying0
  a0 := Tryd.isAgg0
  z0 := Tryd.sizeOf0
  v0 := Tryd.zeroValue0
  t3 := Tryd.underlying3
  a3 := Tryd.isAgg3
  z3 := Tryd.sizeOf3
  v3 := Tryd.zeroValue3
  t4 := Tryd.underlying4
  a4 := Tryd.isAgg4
  z4 := Tryd.sizeOf4
  v4 := Tryd.zeroValue4
  t22 := Tryd.underlying26
  a22 := Tryd.isAgg26
  z22 := Tryd.sizeOf26
  v22 := Tryd.zeroValue26
  i3 := by kernel_rfl }
open Go.RowKit Go.Lib Go.Sort in
theorem Tryd.slices_Compact_int (blk off cap : Nat) (zs : List Int) (w : World) (hH : Holds (Value.int .i64) w blk off zs.toArray) (hsz : zs.length ≤ 9223372036854775807) (hcap : zs.length ≤ cap) :
    Calls Tryd.prog 106 #[.slice (some ⟨blk, off, none⟩) zs.length cap] w fun e w' => e = .returned (.slice (some ⟨blk, off, none⟩) (Lib.compact zs).length cap) ∧ ∃ q, w' = putRow (Value.int .i64) (Sort.ahead w q) blk off (Lib.compact zs ++ List.replicate (zs.length - (Lib.compact zs).length) 0).toArray := Any.slices_Compact_int Tryd.laysNm220 blk off cap zs w hH hsz hcap
open Go.RowKit Go.Lib Go.Sort in
theorem Tryd.slices_Compact_int_empty (a : Option Addr) (cap : Nat) (w : World) :
    Calls Tryd.prog 106 #[.slice a 0 cap] w fun e w' => e = .returned (.slice a 0 cap) ∧ w' = w := Any.slices_Compact_int_empty Tryd.laysNm220 a cap w
open Go.RowKit Go.Sort in
theorem Tryd.slices_Sort_int_none (p : Option Addr) (cap : Nat) (w : World) :
    Calls Tryd.prog 105 #[.slice p 0 cap] w fun e w' => e = .returned (.tuple #[]) ∧ w' = w := Any.slices_Sort_int_none Tryd.lays189 p cap w
end Go.Proofs

namespace Go.Pv
open Go.Lib Go.Sort
theorem compactUpTo_le (d : Array Int) : ∀ m : Nat, (compactUpTo d m).length ≤ m
  | 0 => by simp [compactUpTo]
  | m + 1 => by
    rw [compactUpTo_succ, List.length_append]
    have := compactUpTo_le d m
    split <;> simp <;> omega
theorem compactI_le (l : List Int) : (compactI l).length ≤ l.length := by unfold compactI compact; exact compactUpTo_le _ _
theorem compactP_length (l : List Int) : (compactP l).length = l.length := by
  have := compactI_le l
  unfold compactP; simp; omega
theorem rep_i64 (w : World) (ok : Nat → Prop) (x : Int) : RepD w ok (.int .i64 x) (.int .i64 x) := .int .i64 x
theorem un_i64 (w : World) (X : Nat → Prop) (φ : Nm) (H : Heap) (v : Value) (x : Int) (h : RepV w X φ H v (.d (.int .i64 x))) : v = .int .i64 x := by cases h with | d h => cases h; rfl
namespace Tryd
open Go.Proofs
theorem one_arg {vs : List Value} {p : PV} (h : vs.length = [p].length) : ∃ v, vs = [v] := by
  match vs, h with
  | [v], _ => exact ⟨v, rfl⟩
theorem sort_hand (L : List Int) (hL : L.length ≤ 4294967296) : HandFn Tryd.prog G 105 [.slc 0 0 L.length] 0 3 1 (lenc (PD.int .i64) L) (.tuple []) (lenc (PD.int .i64) (sortI L)) := by
  intro B φ vs h0 h1 h2 h3
  obtain ⟨v, rfl⟩ := one_arg h1
  have hv : RepV B.w0 B.X φ [(0, ⟨3, 1, dl (lenc (PD.int .i64) L)⟩)] v (.slc 0 0 L.length) := h2 0 (by simp)
  have hlen : (lenc (PD.int .i64) (sortI L)).length = (lenc (PD.int .i64) L).length := by simp [lenc, sortI_length]
  generalize hn : L.length = n at hv
  cases hv with
  | slc hx hb hk1 h4 h5 h6 h7 =>
    rename_i cap b x
    obtain ⟨_, rfl⟩ := hget1 hx
    obtain ⟨hH, hlt⟩ := h3.holds (enc := Value.int .i64) (pd := PD.int .i64) un_i64 (fun _ => rfl) hb
    have hc := Tryd.slices_Sort_int b 0 cap L B.w0 hH hlt (by omega)
    rw [hn] at hc
    have e0 : (0 : Nat) * (⟨3, 1, dl (lenc (PD.int .i64) L)⟩ : Row).k = 0 := Nat.zero_mul _
    rw [e0]
    refine (callsIn_wide.2 hc).mono ?_
    rintro e w' ⟨rfl, m, os, rfl⟩
    refine ⟨_, .tuple [], [(0, ⟨3, 1, dl (lenc (PD.int .i64) (sortI L))⟩)], none, φ, rfl, ⟨rfl, rfl, hlen⟩, .tuple rfl (fun i hi => by simp at hi), ?_⟩
    have := h3.putRow (enc := Value.int .i64) (pd := PD.int .i64) (L' := sortI L) rep_i64 (fun _ => rfl) h0 (sortI_length L) hb m os
    unfold sortI at this ⊢
    exact this
  | slc0 hx hb hk1 hp =>
    rename_i x p
    have hL0 : L = [] := List.length_eq_zero_iff.1 hn
    subst hL0
    refine (callsIn_wide.2 (Tryd.slices_Sort_int_none p 0 B.w0)).mono ?_
    rintro e w' ⟨rfl, rfl⟩
    have e1 : sortI [] = [] := List.length_eq_zero_iff.1 (by rw [sortI_length]; rfl)
    refine ⟨_, .tuple [], [(0, ⟨3, 1, dl (lenc (PD.int .i64) (sortI []))⟩)], none, φ, rfl, ⟨rfl, rfl, hlen⟩, .tuple rfl (fun i hi => by simp at hi), ?_⟩
    rw [e1]; exact h3
theorem compact_hand (L : List Int) (hL : L.length ≤ 4294967296) : HandFn Tryd.prog G 106 [.slc 0 0 L.length] 0 3 1 (lenc (PD.int .i64) L) (.slc 0 0 (compactI L).length) (lenc (PD.int .i64) (compactP L)) := by
  intro B φ vs h0 h1 h2 h3
  obtain ⟨v, rfl⟩ := one_arg h1
  have hv : RepV B.w0 B.X φ [(0, ⟨3, 1, dl (lenc (PD.int .i64) L)⟩)] v (.slc 0 0 L.length) := h2 0 (by simp)
  have hlen : (lenc (PD.int .i64) (compactP L)).length = (lenc (PD.int .i64) L).length := by simp [lenc, compactP_length]
  have hle := compactI_le L
  generalize hn : L.length = n at hv
  cases hv with
  | slc hx hb hk1 h4 h5 h6 h7 =>
    rename_i cap b x
    obtain ⟨_, rfl⟩ := hget1 hx
    obtain ⟨hH, hlt⟩ := h3.holds (enc := Value.int .i64) (pd := PD.int .i64) un_i64 (fun _ => rfl) hb
    have hc := Tryd.slices_Compact_int b 0 cap L B.w0 hH (by omega) (by omega)
    rw [hn] at hc
    have e0 : (0 : Nat) * (⟨3, 1, dl (lenc (PD.int .i64) L)⟩ : Row).k = 0 := Nat.zero_mul _
    rw [e0]
    refine (callsIn_wide.2 hc).mono ?_
    rintro e w' ⟨rfl, m, rfl⟩
    have hs := h3.putRow (enc := Value.int .i64) (pd := PD.int .i64) (L' := compactP L) rep_i64 (fun _ => rfl) h0 (compactP_length L) hb m #[]
    have eg : ∀ w : World, grow w #[] = w := fun w => by simp [grow]
    rw [eg] at hs
    have hx' : hget ([(0, ⟨3, 1, dl (lenc (PD.int .i64) (compactP L))⟩)] : Heap) 0 = some ⟨3, 1, dl (lenc (PD.int .i64) (compactP L))⟩ := rfl
    have hll : (dl (lenc (PD.int .i64) (compactP L))).length = L.length := by simp [dl, lenc, compactP_length]
    have hll0 : (dl (lenc (PD.int .i64) L)).length = L.length := by simp [dl, lenc]
    dsimp only at h4 h6 h7
    rw [hll0] at h4 h6
    refine ⟨_, .slc 0 0 (compactI L).length, [(0, ⟨3, 1, dl (lenc (PD.int .i64) (compactP L))⟩)], none, φ, rfl, ⟨rfl, rfl, hlen⟩, ?_, ?_⟩
    · have hr : RepV (Sort.putRow (Value.int .i64) (Sort.ahead B.w0 m) b 0 (compactP L).toArray) B.X φ [(0, ⟨3, 1, dl (lenc (PD.int .i64) (compactP L))⟩)] (.slice (some ⟨b, 0 * (⟨3, 1, dl (lenc (PD.int .i64) (compactP L))⟩ : Row).k, none⟩) (compactI L).length cap) (.slc 0 0 (compactI L).length) :=
        .slc hx' hb (Nat.le_refl 1) (by dsimp only; rw [hll]; omega) (by omega) (by dsimp only; rw [hll]; omega) (fun c e f hh => by
          rw [heap_putRow, if_pos rfl] at hh
          obtain ⟨ob, ho1, ho2⟩ := Option.map_eq_some_iff.1 hh
          cases ob with
          | cells c0 e0 f0 =>
            simp only [onCells, Obj.cells.injEq] at ho2
            have := h7 c0 e0 f0 ho1
            rw [← ho2.1]
            simpa [putCells] using this
          | _ => simp [onCells] at ho2)
      rw [Nat.zero_mul] at hr
      unfold compactP compactI at hr ⊢
      rw [hn] at hr ⊢
      exact hr
    · unfold compactP compactI at hs ⊢
      rw [hn] at hs ⊢
      exact hs
  | slc0 hx hb hk1 hp =>
    rename_i x p
    have hL0 : L = [] := List.length_eq_zero_iff.1 hn
    subst hL0
    refine (callsIn_wide.2 (Tryd.slices_Compact_int_empty p 0 B.w0)).mono ?_
    rintro e w' ⟨rfl, rfl⟩
    have e1 : compactP [] = [] := List.length_eq_zero_iff.1 (by rw [compactP_length]; rfl)
    have e2 : (compactI []).length = 0 := by have := compactI_le []; simp at this; simp [this]
    refine ⟨_, .slc 0 0 (compactI []).length, [(0, ⟨3, 1, dl (lenc (PD.int .i64) (compactP []))⟩)], none, φ, rfl, ⟨rfl, rfl, hlen⟩, ?_, ?_⟩
    · rw [e1, e2]; exact .slc0 hx hb hk1 hp
    · rw [e1]; exact h3
end Tryd
end Go.Pv

namespace Go.Pv.Tryd
open Go.Proofs Go.Pv
theorem m_tariff_cuts_ok (mark1 : Int) (ts1 : (List (List Rule))) (r : (List Int)) (h : m_tariff_cuts mark1 ts1 = some r) : PureFn Tryd.prog G 81 [.d (.int .i64 mark1), .d (.imm 1 (lenc (slenc 2 Rule.pd) ts1))] (.d (.imm 1 (lenc (PD.int .i64) r))) := by
 unfold m_tariff_cuts at h
 refine pf Tryd.func81 Tryd.ntmps81 ?_
 refine sg fun K k => ?_
 refine oo ?_
 refine AOps.nil (k _ ?_)
 refine sg fun K k => ?_
 iterate 2 refine oo ?_
 refine AOps.nil (k _ ?_)
 refine jn (α := (List Int)) [] [] (fun i t => (5, .slc 1000 0 i.length) :: t) (fun i t => (1000, ⟨3, 1, dl (lenc (PD.int .i64) i)⟩) :: t) h ?_ ?_
 ·intro _ hj_2
  refine sg fun K k => ?_
  iterate 3 refine oo ?_
  refine AOps.nil (k _ ?_)
  refine AWp.block ?_
  obtain ⟨x_7, hl_4, h2_5⟩ := bind_some hj_2
  refine lp (S := (Int × (List Int))) [0, 11, 12] [] (fun i t => (5, .slc 1000 0 i.2.length) :: (13, .d (.int .i64 i.1)) :: t) (fun i t => (1000, ⟨3, 1, dl (lenc (PD.int .i64) i.2)⟩) :: t) hl_4 ?_ ?_; exact sb; clear hl_4
  rintro ⟨v1, L2⟩ _ hb_6; unfold m_tariff_cuts_l1 at hb_6; try dsimp only at hb_6
  try dsimp only
  refine sg fun K k => ?_
  refine oo ?_
  refine AOps.nil (k _ ?_)
  refine AWp.seq fun _ K_9 => ?_
  refine cd hb_6 (fun hb_6 => ?_) (fun hb_6 => ?_)
  ·refine AWp.skip ?_
   refine K_9 _ ?_
   refine jn (α := (List Int)) [0, 11, 12, 13] [] (fun i t => (5, .slc 1000 0 i.length) :: t) (fun i t => (1000, ⟨3, 1, dl (lenc (PD.int .i64) i)⟩) :: t) hb_6 ?_ ?_
   ·intro _ hj_12
    refine AWp.block ?_
    refine sg fun K k => ?_
    obtain ⟨e1, ⟨f_13, f_14, f_15, f_16⟩, hj_12⟩ := idx_bind hj_12
    refine oo ?_
    refine oo ?_ (by intro K k; simp (disch := omega) only [go_sem, f_15, ↓reduceIte]; exact k)
    refine oo ?_
    refine AOps.nil (k _ ?_)
    refine sg fun K k => ?_
    iterate 3 refine oo ?_
    refine AOps.nil (k _ ?_)
    refine AWp.block ?_
    obtain ⟨x_21, hl_18, h2_19⟩ := bind_some hj_12
    refine lp (S := (Int × (List Int))) [0, 11, 12, 13, 17, 18] [] (fun i t => (5, .slc 1000 0 i.2.length) :: (19, .d (.int .i64 i.1)) :: t) (fun i t => (1000, ⟨3, 1, dl (lenc (PD.int .i64) i.2)⟩) :: t) hl_18 ?_ ?_; exact sb; clear hl_18
    rintro ⟨v2, L4⟩ _ hb_20; unfold m_tariff_cuts_l2 at hb_20; try dsimp only at hb_20
    try dsimp only
    refine sg fun K k => ?_
    refine oo ?_
    refine AOps.nil (k _ ?_)
    refine AWp.seq fun _ K_23 => ?_
    refine cd hb_20 (fun hb_20 => ?_) (fun hb_20 => ?_)
    ·refine AWp.skip ?_
     refine K_23 _ ?_
     refine AWp.seq fun _ K_25 => ?_
     refine AWp.block ?_
     refine sg fun K k => ?_
     obtain ⟨e2, ⟨f_26, f_27, f_28, f_29⟩, hb_20⟩ := idx_bind hb_20
     refine oo ?_
     refine oo ?_ (by intro K k; simp (disch := omega) only [go_sem, f_28, ↓reduceIte]; exact k)
     iterate 2 refine oo ?_
     refine AOps.nil (k _ ?_)
     refine AWp.draw mo [] trivial ?_
     obtain ⟨e3, ⟨f_30, f_31, f_32, f_33⟩, hb_20⟩ := idx_bind hb_20
     iterate 6 refine dd ?_
     refine dd ?_ (by intro K k; simp (disch := omega) only [go_sem, f_32, ↓reduceIte]; exact k)
     iterate 5 refine dd ?_
     refine dd ?_ (by intro K k; simp (disch := omega) only [go_sem, f_32, ↓reduceIte]; exact k)
     refine ddl ?_
     obtain ⟨hg_34, hb_20⟩ := guardO_some hb_20
     iterate 2 refine dd ?_
     refine DOps.nil (by kernel_rfl) ?_
     refine K_25 _ ?_
     refine AWp.reg ?_
     iterate 2 refine oo ?_
     refine AOps.nil ?_
     exact ln hb_20 sb
    ·refine AWp.exit ?_
     refine lx hb_20 fun hx => ?_; cases hx; try dsimp only at h2_19
     cases h2_19; exact sb
   ·rintro L3 hb_6; dsimp only at hb_6 ⊢
    refine AWp.reg ?_
    iterate 2 refine oo ?_
    refine AOps.nil ?_
    exact ln hb_6 sb
  ·refine AWp.exit ?_
   refine lx hb_6 fun hx => ?_; cases hx; try dsimp only at h2_5
   cases h2_5; exact sb
 ·rintro L1 h; dsimp only at h ⊢
  refine sg fun K k => ?_
  obtain ⟨hg_35, h⟩ := guardO_some h
  refine oo ?_
  refine clH 1000 (sort_hand L1 hg_35) ?_
  refine AOps.nil (k _ ?_)
  refine sg fun K k => ?_
  obtain ⟨hg_36, h⟩ := guardO_some h
  refine oo ?_
  refine clH 1000 (compact_hand (sortI L1) hg_36) ?_
  refine AOps.sub (τ := ⟨[(43, .d (.imm 1 (lenc (PD.int .i64) (List.take ((compactI (sortI L1)).length) (compactP (sortI L1))))))], [], [], none⟩) sct ?_
  refine oo ?_
  refine AOps.nil (k _ ?_)
  refine jn (α := (List Int)) [] [] (fun i t => (5, .d (.imm 1 (lenc (PD.int .i64) i))) :: t) (fun i t => t) h ?_ ?_
  ·intro _ hj_38
   refine sg fun K k => ?_
   obtain ⟨e4, ⟨f_39, f_40, f_41, f_42⟩, hj_38⟩ := idx_bind hj_38
   try simp only [List.length_append, List.length_set, List.length_replicate, List.length_cons, List.length_nil] at f_40 f_42
   try simp only [Int.reduceToNat] at f_41 f_42
   iterate 2 refine oo ?_
   refine oo ?_ (by intro K k; simp (disch := omega) only [go_sem, f_41, ↓reduceIte]; exact k)
   refine oo ?_
   refine AOps.nil (k _ ?_)
   refine cd hj_38 (fun hj_38 => ?_) (fun hj_38 => ?_)
   ·refine AWp.reg ?_
    obtain ⟨hg_44, hj_38⟩ := guardO_some hj_38
    iterate 3 refine oo ?_
    refine AOps.nil ?_
    cases hj_38; exact sb
   ·refine AWp.skip ?_
    cases hj_38; exact sb
  ·rintro out1 h; dsimp only at h ⊢
   refine sg fun K k => ?_
   iterate 2 refine oo ?_
   refine AOps.nil (k _ ?_)
   refine AWp.ret ?_
   cases h; exact rt
end Go.Pv.Tryd

namespace Go.Pv.Tryd
open Go.Proofs Go.Pv
theorem m_tariff_fits_ok (t1 : (List Rule)) (mark1 : Int) (value1 : Int) (r : Int) (h : m_tariff_fits t1 mark1 value1 = some r) : PureFn Tryd.prog G 82 [.d (.imm 2 (lenc Rule.pd t1)), .d (.int .i64 mark1), .d (.int .i64 value1)] (.d (.int .u32 r)) := by
 unfold m_tariff_fits at h
 refine pf Tryd.func82 Tryd.ntmps82 ?_
 refine sg fun K k => ?_
 refine oo ?_
 refine AOps.nil (k _ ?_)
 refine sg fun K k => ?_
 refine oo ?_
 refine AOps.nil (k _ ?_)
 refine jn (α := Int) [] [] (fun i t => (7, .d (.int .u32 i)) :: t) (fun i t => t) h ?_ ?_
 ·intro _ hj_2
  refine sg fun K k => ?_
  iterate 3 refine oo ?_
  refine AOps.nil (k _ ?_)
  refine AWp.block ?_
  obtain ⟨x_7, hl_4, h2_5⟩ := bind_some hj_2
  refine lp (S := (Int × Int)) [1, 2, 11, 12] [] (fun i t => (7, .d (.int .u32 i.1)) :: (13, .d (.int .i64 i.2)) :: t) (fun i t => t) hl_4 ?_ ?_; exact sb; clear hl_4
  rintro ⟨out2, v1⟩ _ hb_6; unfold m_tariff_fits_l1 at hb_6; try dsimp only at hb_6
  try dsimp only
  refine sg fun K k => ?_
  refine oo ?_
  refine AOps.nil (k _ ?_)
  refine AWp.seq fun _ K_9 => ?_
  refine cd hb_6 (fun hb_6 => ?_) (fun hb_6 => ?_)
  ·refine AWp.skip ?_
   refine K_9 _ ?_
   refine jn (α := Int) [1, 2, 11, 12, 13] [] (fun i t => (7, .d (.int .u32 i)) :: t) (fun i t => t) hb_6 ?_ ?_
   ·intro _ hj_12
    refine AWp.block ?_
    refine sg fun K k => ?_
    obtain ⟨e1, ⟨f_13, f_14, f_15, f_16⟩, hj_12⟩ := idx_bind hj_12
    iterate 2 refine oo ?_
    refine oo ?_ (by intro K k; simp (disch := omega) only [go_sem, f_15, ↓reduceIte]; exact k)
    iterate 3 refine oo ?_
    refine AOps.nil (k _ ?_)
    refine sg fun K k => ?_
    obtain ⟨e2, ⟨f_17, f_18, f_19, f_20⟩, hj_12⟩ := idx_bind hj_12
    iterate 4 refine oo ?_
    refine oo ?_ (by intro K k; simp (disch := omega) only [go_sem, f_19, ↓reduceIte]; exact k)
    iterate 2 refine oo ?_
    refine AOps.nil (k _ ?_)
    refine sg fun K k => ?_
    iterate 5 refine oo ?_
    refine ct 5 [1, 2, 7, 8, 11, 12, 13] [] (fun  t => (32, .d (.bool ((decide (e2.Lo ≤ value1)) && (decide (value1 < e2.Hi))))) :: t) ?_ ?_
    ·rcases bt (decide (e2.Lo ≤ value1)) with hg_22 | hg_22
     ·rw [hg_22]
      iterate 5 refine oo ?_
      refine AOps.nil ?_
      exact sb
     ·rw [hg_22]
      iterate 5 refine oo ?_
      refine AOps.nil ?_
      exact sb
    refine AOps.nil (k _ ?_)
    refine cd hj_12 (fun hj_12 => ?_) (fun hj_12 => ?_)
    ·refine AWp.reg ?_
     obtain ⟨hg_24, hj_12⟩ := guardO_some hj_12
     iterate 5 refine oo ?_
     refine AOps.nil ?_
     cases hj_12; exact sb
    ·refine AWp.skip ?_
     cases hj_12; exact sb
   ·rintro out3 hb_6; dsimp only at hb_6 ⊢
    refine AWp.reg ?_
    iterate 2 refine oo ?_
    refine AOps.nil ?_
    exact ln hb_6 sb
  ·refine AWp.exit ?_
   refine lx hb_6 fun hx => ?_; cases hx; try dsimp only at h2_5
   cases h2_5; exact sb
 ·rintro out1 h; dsimp only at h ⊢
  refine sg fun K k => ?_
  iterate 2 refine oo ?_
  refine AOps.nil (k _ ?_)
  refine AWp.ret ?_
  cases h; exact rt
end Go.Pv.Tryd

namespace Go.Pv.Tryd
open Go.Proofs Go.Pv
theorem m_tariff_set_first_ok (s1 : Int) (r : Int) (h : m_tariff_set_first s1 = some r) : PureFn Tryd.prog G 80 [.d (.int .u32 s1)] (.d (.int .i64 r)) := by
 unfold m_tariff_set_first at h
 refine pf Tryd.func80 Tryd.ntmps80 ?_
 refine sg fun K k => ?_
 refine oo ?_
 refine AOps.nil (k _ ?_)
 refine jm (ι := Unit) [] [] (fun i t => t) (fun i t => t) .inl h ?_ ?_
 ·intro _ hj_2 h
  refine sg fun K k => ?_
  refine oo ?_
  refine AOps.nil (k _ ?_)
  refine AWp.block ?_
  obtain ⟨x_7, hl_4, h2_5⟩ := bind_some hj_2
  refine lp (S := Int) [0] [] (fun i t => (4, .d (.int .i64 i)) :: t) (fun i t => t) hl_4 ?_ ?_; exact sb; clear hl_4
  rintro v1 _ hb_6; unfold m_tariff_set_first_l1 at hb_6; try dsimp only at hb_6
  try dsimp only
  refine sg fun K k => ?_
  refine oo ?_
  refine AOps.nil (k _ ?_)
  refine AWp.seq fun _ K_9 => ?_
  refine cd hb_6 (fun hb_6 => ?_) (fun hb_6 => ?_)
  ·refine AWp.skip ?_
   refine K_9 _ ?_
   refine AWp.seq fun _ K_11 => ?_
   refine AWp.block ?_
   refine sg fun K k => ?_
   iterate 2 refine oo ?_
   refine AOps.nil (k _ ?_)
   refine sg fun K k => ?_
   obtain ⟨hg_12, hb_6⟩ := guardO_some hb_6
   iterate 5 refine oo ?_
   refine AOps.nil (k _ ?_)
   refine cd hb_6 (fun hb_6 => ?_) (fun hb_6 => ?_)
   ·refine sg fun K k => ?_
    iterate 2 refine oo ?_
    refine AOps.nil (k _ ?_)
    refine AWp.ret ?_
    refine lx hb_6 fun hx => ?_; cases hx; try dsimp only at h2_5
    cases h2_5; try dsimp only at h
    cases h; exact rt
   ·refine AWp.skip ?_
    refine K_11 _ ?_
    refine AWp.reg ?_
    iterate 2 refine oo ?_
    refine AOps.nil ?_
    exact ln hb_6 sb
  ·refine AWp.exit ?_
   refine lx hb_6 fun hx => ?_; cases hx; try dsimp only at h2_5
   exact ln h2_5 sb
 ·rintro _ h; dsimp only at h ⊢
  refine sg fun K k => ?_
  refine oo ?_
  refine AOps.nil (k _ ?_)
  refine AWp.ret ?_
  cases h; exact rt
end Go.Pv.Tryd

namespace Go.Pv.Tryd
open Go.Proofs Go.Pv
set_option maxHeartbeats 4000000 in
theorem m_tariff_counts_1_h_ok (n : Nat) : ∀ (o1 : (List Rule)) (o2 : Int) (m1 : (List (Arr3_Int × (List Int)))) (mark1 : Int) (a1 : Int) (r : ((List Int) × (List (Arr3_Int × (List Int))))) (h : m_tariff_counts_1_h n o1 o2 m1 mark1 a1 = some r), ObjFn Tryd.prog G 93 [.d (.int .i64 mark1), .d (.int .u32 a1), .ptr 0 0 0, .ptr 1 0 0, .ptr 2 0 0, .ptr 3 0 0] [(0, ⟨135, 1, [.mp 4]⟩), (1, ⟨22, 1, [.d (.imm 2 (lenc Rule.pd o1))]⟩), (2, ⟨3, 1, [.d (.int .i64 o2)]⟩), (3, ⟨136, 1, [.func (.func 93) [.ptr 0 0 0, .ptr 1 0 0, .ptr 2 0 0, .ptr 3 0 0]]⟩), (4, ⟨135, 0, mels Arr3_Int.pd (slenc 1 (PD.int .i64)) m1⟩)] (.d (.imm 1 (lenc (PD.int .i64) r.1))) [(0, ⟨135, 1, [.mp 4]⟩), (1, ⟨22, 1, [.d (.imm 2 (lenc Rule.pd o1))]⟩), (2, ⟨3, 1, [.d (.int .i64 o2)]⟩), (3, ⟨136, 1, [.func (.func 93) [.ptr 0 0 0, .ptr 1 0 0, .ptr 2 0 0, .ptr 3 0 0]]⟩), (4, ⟨135, 0, mels Arr3_Int.pd (slenc 1 (PD.int .i64)) r.2⟩)] := by
 induction n with
 | zero => intro o1 o2 m1 mark1 a1 r h; cases h
 | succ n ih =>
  intro o1 o2 m1 mark1 a1 r h
  replace h : m_tariff_counts_1_h_b (m_tariff_counts_1_h n) o1 o2 m1 mark1 a1 = some r := h
  unfold m_tariff_counts_1_h_b at h
  refine ObjFn.pf Tryd.func93 Tryd.ntmps93 ?_
  refine sg fun K k => ?_
  refine oo ?_
  refine AOps.nil (k _ ?_)
  refine sg fun K k => ?_
  iterate 6 refine oo ?_
  refine AOps.nil (k _ ?_)
  refine AWp.seq fun _ K_1 => ?_
  refine sg fun K k => ?_
  iterate 2 refine oo ?_
  refine oml (k := (⟨mark1, (IntKind.i64.wrap a1), 0⟩ : Arr3_Int)) (L := m1) (v0 := []) (encV := (slenc 1 (PD.int .i64))) KE121 MU135 ty26 MZ26 (fun _ _ => .imm0 _) ?_
  iterate 5 refine oo ?_
  refine AOps.nil (k _ ?_)
  refine sg fun K k => ?_
  refine oo ?_
  refine AOps.nil (k _ ?_)
  refine cd h (fun h => ?_) (fun h => ?_)
  ·refine sg fun K k => ?_
   iterate 2 refine oo ?_
   refine AOps.nil (k _ ?_)
   refine AWp.ret ?_
   cases h; exact rtO
  ·refine AWp.skip ?_
   refine K_1 _ ?_
   refine sg fun K k => ?_
   obtain ⟨hg_3, h⟩ := guardO_some h
   iterate 5 refine oo ?_
   refine AOps.nil (k _ ?_)
   refine sg fun K k => ?_
   refine oo ?_
   refine AOps.nil (k _ ?_)
   refine jn (α := ((List (Arr3_Int × (List Int))) × (List Int))) [2, 9] [1, 2, 3, 1000] (fun i t => (12, .slc 1001 0 i.2.length) :: t) (fun i t => (0, ⟨135, 1, [.mp 4]⟩) :: (4, ⟨135, 0, mels Arr3_Int.pd (slenc 1 (PD.int .i64)) i.1⟩) :: (1001, ⟨3, 1, dl (lenc (PD.int .i64) i.2)⟩) :: t) h ?_ ?_
   ·intro _ hj_5
    refine sg fun K k => ?_
    iterate 2 refine oo ?_
    refine ol ?_
    obtain ⟨r1, hx_6, hj_5⟩ := bind_some hj_5
    refine cl (m_tariff_cuts_ok mark1 [o1] _ hx_6) ?_
    iterate 2 refine oo ?_
    refine AOps.nil (k _ ?_)
    refine AWp.block ?_
    obtain ⟨x_11, hl_8, h2_9⟩ := bind_some hj_5
    refine lp (S := (Int × Int × (List (Arr3_Int × (List Int))) × (List Int))) [0, 1, 2, 3, 4, 5, 9, 39, 40] [1, 2, 3, 1000] (fun i t => (12, .slc 1001 0 i.2.2.2.length) :: (13, .d (.int .i64 i.1)) :: (41, .d (.int .i64 i.2.1)) :: t) (fun i t => (0, ⟨135, 1, [.mp 4]⟩) :: (4, ⟨135, 0, mels Arr3_Int.pd (slenc 1 (PD.int .i64)) i.2.2.1⟩) :: (1001, ⟨3, 1, dl (lenc (PD.int .i64) i.2.2.2)⟩) :: t) hl_8 ?_ ?_; exact sb; clear hl_8
    rintro ⟨from1, v1, M2, L2⟩ _ hb_10; unfold m_tariff_counts_1_h_l1 at hb_10; try dsimp only at hb_10
    try dsimp only
    refine sg fun K k => ?_
    refine oo ?_
    refine AOps.nil (k _ ?_)
    refine AWp.seq fun _ K_13 => ?_
    refine cd hb_10 (fun hb_10 => ?_) (fun hb_10 => ?_)
    ·refine AWp.skip ?_
     refine K_13 _ ?_
     refine jn (α := (Int × (List (Arr3_Int × (List Int))) × (List Int))) [0, 1, 2, 3, 4, 5, 9, 39, 40, 41] [1, 2, 3, 1000] (fun i t => (12, .slc 1001 0 i.2.2.length) :: (13, .d (.int .i64 i.1)) :: t) (fun i t => (0, ⟨135, 1, [.mp 4]⟩) :: (4, ⟨135, 0, mels Arr3_Int.pd (slenc 1 (PD.int .i64)) i.2.1⟩) :: (1001, ⟨3, 1, dl (lenc (PD.int .i64) i.2.2)⟩) :: t) hb_10 ?_ ?_
     ·intro _ hj_16
      refine AWp.block ?_
      refine sg fun K k => ?_
      obtain ⟨e1, ⟨f_17, f_18, f_19, f_20⟩, hj_16⟩ := idx_bind hj_16
      refine oo ?_
      refine oo ?_ (by intro K k; simp (disch := omega) only [go_sem, f_19, ↓reduceIte]; exact k)
      refine oo ?_
      refine AOps.nil (k _ ?_)
      refine sg fun K k => ?_
      iterate 4 refine oo ?_
      obtain ⟨r2, hx_21, hj_16⟩ := bind_some hj_16
      refine cl (m_tariff_fits_ok o1 mark1 from1 _ hx_21) ?_
      iterate 2 refine oo ?_
      refine AOps.nil (k _ ?_)
      refine jn (α := ((List (Arr3_Int × (List Int))) × (List Int))) [0, 1, 2, 3, 4, 5, 9, 15, 39, 40, 41] [1, 2, 3, 1000] (fun i t => (12, .slc 1001 0 i.2.length) :: t) (fun i t => (0, ⟨135, 1, [.mp 4]⟩) :: (4, ⟨135, 0, mels Arr3_Int.pd (slenc 1 (PD.int .i64)) i.1⟩) :: (1001, ⟨3, 1, dl (lenc (PD.int .i64) i.2)⟩) :: t) hj_16 ?_ ?_
      ·intro _ hj_23
       refine sg fun K k => ?_
       iterate 4 refine oo ?_
       refine AOps.nil (k _ ?_)
       refine cd hj_23 (fun hj_23 => ?_) (fun hj_23 => ?_)
       ·refine sg fun K k => ?_
        iterate 4 refine oo ?_
        obtain ⟨r3, hx_25, hj_23⟩ := bind_some hj_23
        refine clU [(0, 0), (1, 1), (2, 2), (3, 3), (4, 4)] [] (ih o1 o2 M2 (IntKind.i64.wrap (mark1 + 1)) (IntKind.u32.wrap ↑(BitVec.ofInt IntKind.u32.bits a1 &&& BitVec.ofInt IntKind.u32.bits r2).toNat) _ hx_25) ?_
        iterate 2 refine oo ?_
        refine AOps.nil (k _ ?_)
        refine AWp.block ?_
        obtain ⟨x_30, hl_27, h2_28⟩ := bind_some hj_23
        refine lp (S := (Int × (List Int))) [0, 1, 2, 3, 4, 5, 9, 13, 15, 39, 40, 41, 59, 60] [0, 1, 2, 3, 4, 1000] (fun i t => (12, .slc 1001 0 i.2.length) :: (61, .d (.int .i64 i.1)) :: t) (fun i t => (1001, ⟨3, 1, dl (lenc (PD.int .i64) i.2)⟩) :: t) hl_27 ?_ ?_; exact sb; clear hl_27
        rintro ⟨v2, L5⟩ _ hb_29; unfold m_tariff_counts_1_h_l2 at hb_29; try dsimp only at hb_29
        try dsimp only
        refine sg fun K k => ?_
        refine oo ?_
        refine AOps.nil (k _ ?_)
        refine AWp.seq fun _ K_32 => ?_
        refine cd hb_29 (fun hb_29 => ?_) (fun hb_29 => ?_)
        ·refine AWp.skip ?_
         refine K_32 _ ?_
         refine AWp.seq fun _ K_34 => ?_
         refine AWp.block ?_
         refine sg fun K k => ?_
         obtain ⟨e2, ⟨f_35, f_36, f_37, f_38⟩, hb_29⟩ := idx_bind hb_29
         iterate 2 refine oo ?_
         refine oo ?_ (by intro K k; simp (disch := omega) only [go_sem, f_37, ↓reduceIte]; exact k)
         iterate 2 refine oo ?_
         refine AOps.nil (k _ ?_)
         refine AWp.reg ?_
         obtain ⟨e3, ⟨f_39, f_40, f_41, f_42⟩, hb_29⟩ := idx_bind hb_29
         iterate 3 refine oo ?_
         refine oo ?_ (by intro K k; simp (disch := omega) only [go_sem, f_41, ↓reduceIte]; exact k)
         iterate 7 refine oo ?_
         refine oo ?_ (by intro K k; simp (disch := omega) only [go_sem, f_41, ↓reduceIte]; exact k)
         refine AOps.nil ?_
         refine K_34 _ ?_
         refine AWp.reg ?_
         iterate 2 refine oo ?_
         refine AOps.nil ?_
         exact ln hb_29 sb
        ·refine AWp.exit ?_
         refine lx hb_29 fun hx => ?_; cases hx; try dsimp only at h2_28
         cases h2_28; exact sb
       ·refine sg fun K k => ?_
        refine oo ?_
        obtain ⟨r4, hx_43, hj_23⟩ := bind_some hj_23
        refine cl (m_tariff_set_first_ok (IntKind.u32.wrap ↑(BitVec.ofInt IntKind.u32.bits a1 &&& BitVec.ofInt IntKind.u32.bits r2).toNat) _ hx_43) ?_
        refine oo ?_
        refine AOps.nil (k _ ?_)
        refine sg fun K k => ?_
        iterate 2 refine oo ?_
        refine AOps.nil (k _ ?_)
        refine cd hj_23 (fun hj_23 => ?_) (fun hj_23 => ?_)
        ·refine AWp.reg ?_
         obtain ⟨e4, ⟨f_45, f_46, f_47, f_48⟩, hj_23⟩ := idx_bind hj_23
         try simp only [Int.toNat_natCast] at f_47 f_48
         iterate 4 refine oo ?_
         refine oo ?_ (by intro K k; simp (disch := omega) only [go_sem, f_47, Int.toNat_natCast, ↓reduceIte]; exact k)
         iterate 5 refine oo ?_
         refine oo ?_ (by intro K k; simp (disch := omega) only [go_sem, f_47, Int.toNat_natCast, ↓reduceIte]; exact k)
         refine AOps.nil ?_
         cases hj_23; exact sb
        ·refine AWp.reg ?_
         obtain ⟨e5, ⟨f_49, f_50, f_51, f_52⟩, hj_23⟩ := idx_bind hj_23
         iterate 3 refine oo ?_
         refine oo ?_ (by intro K k; simp (disch := omega) only [go_sem, f_51, ↓reduceIte]; exact k)
         iterate 5 refine oo ?_
         refine oo ?_ (by intro K k; simp (disch := omega) only [go_sem, f_51, ↓reduceIte]; exact k)
         refine AOps.nil ?_
         cases hj_23; exact sb
      ·rintro ⟨M4, L4⟩ hj_16; dsimp only at hj_16 ⊢
       refine AWp.reg ?_
       iterate 2 refine oo ?_
       refine AOps.nil ?_
       cases hj_16; exact sb
     ·rintro ⟨from2, M3, L3⟩ hb_10; dsimp only at hb_10 ⊢
      refine AWp.reg ?_
      iterate 2 refine oo ?_
      refine AOps.nil ?_
      exact ln hb_10 sb
    ·refine AWp.exit ?_
     refine lx hb_10 fun hx => ?_; cases hx; try dsimp only at h2_9
     cases h2_9; exact sb
   ·rintro ⟨M1, L1⟩ h; dsimp only at h ⊢
    refine sg fun K k => ?_
    iterate 3 refine oo ?_
    refine AOps.sub (τ := ⟨[(12, .d (.imm 1 (lenc (PD.int .i64) L1))), (103, .mp 4), (104, .d (.agg [(.int .i64 mark1), (.int .i64 (IntKind.i64.wrap a1)), (.int .i64 0)])), (105, .d (.imm 1 (lenc (PD.int .i64) L1)))], [(0, ⟨135, 1, [.mp 4]⟩), (1, ⟨22, 1, [.d (.imm 2 (lenc Rule.pd o1))]⟩), (2, ⟨3, 1, [.d (.int .i64 o2)]⟩), (3, ⟨136, 1, [.func (.func 93) [.ptr 0 0 0, .ptr 1 0 0, .ptr 2 0 0, .ptr 3 0 0]]⟩), (4, ⟨135, 0, mels Arr3_Int.pd (slenc 1 (PD.int .i64)) M1⟩)], [], none⟩) sc ?_
    refine oms (k := (⟨mark1, (IntKind.i64.wrap a1), 0⟩ : Arr3_Int)) (L := M1) (v := L1) (encV := (slenc 1 (PD.int .i64))) KE121 MU135 ?_
    refine AOps.nil (k _ ?_)
    refine sg fun K k => ?_
    iterate 2 refine oo ?_
    refine AOps.nil (k _ ?_)
    refine AWp.ret ?_
    cases h; exact rtO
end Go.Pv.Tryd

namespace Go.Pv.Tryd
open Go.Proofs Go.Pv
theorem lenc_nil_of {α : Type} {f : α → PD} {l : List α} (h : lenc f l = []) : l = [] := by simpa [lenc] using h
theorem clone_92 (l r : List Int) (h : cloneO l = some r) : RowFn Tryd.prog G 92 [.d (.imm 1 (lenc (PD.int .i64) l))] 3 1 (lenc (PD.int .i64) r) := by
  unfold cloneO at h
  split at h
  · rename_i hlen
    cases h
    refine Fn.pf Tryd.func92 Tryd.ntmps92 ?_
    refine sg fun K k => ?_
    refine oo ?_
    refine AOps.nil (k _ ?_)
    refine AWp.seq fun _ K_1 => ?_
    refine sg fun K k => ?_
    refine oo ?_
    refine nt ty26 T26_desc (fun he => ?_) ?_
    · simp only [go_sem, ↓reduceIte]
      refine AOps.nil (k _ ?_)
      refine cdt ?_
      cases lenc_nil_of he
      refine sg fun K k => ?_
      refine oo ?_
      refine AOps.nil (k _ ?_)
      refine AWp.sub (Sub.void 2 3 1 1000 (by rfl) (by rfl) (by decide) (by decide)) ?_
      simp only [eput, hput, ↓reduceIte, Nat.reduceEqDiff]
      refine AWp.ret ?_
      exact rtRow (hn := by rfl)
    · simp only [go_sem, ↓reduceIte]
      refine AOps.nil (k _ ?_)
      refine cdf ?_
      refine AWp.skip ?_
      refine K_1 _ ?_
      refine sg fun K k => ?_
      iterate 4 refine oo ?_
      refine AOps.nil (k _ ?_)
      refine AWp.ret ?_
      exact rtRow (hn := by rw [lenc_length])
  · cases h
end Go.Pv.Tryd

namespace Go.Pv.Tryd
open Go.Proofs Go.Pv
theorem m_tariff_counts_ok (k1 : Int) (t1 : (List Rule)) (r : (List Int)) (h : m_tariff_counts k1 t1 = some r) : PureFn Tryd.prog G 60 [.d (.int .i64 k1), .d (.imm 2 (lenc Rule.pd t1))] (.d (.imm 1 (lenc (PD.int .i64) r))) := by
 unfold m_tariff_counts at h
 refine pf Tryd.func60 Tryd.ntmps60 ?_
 refine sg fun K k => ?_
 iterate 3 refine oo ?_
 refine AOps.nil (k _ ?_)
 refine sg fun K k => ?_
 refine omk (α := Arr3_Int) (β := (List Int)) Arr3_Int.pd (slenc 1 (PD.int .i64)) 1002 ?_
 iterate 2 refine oo ?_
 refine AOps.nil (k _ ?_)
 refine sg fun K k => ?_
 refine oo ?_
 refine AOps.nil (k _ ?_)
 refine sg fun K k => ?_
 iterate 2 refine oo ?_
 refine AOps.nil (k _ ?_)
 refine sd mo fun K k => ?_
 iterate 2 refine dd ?_
 obtain ⟨r1, hx_1, h⟩ := bind_some h
 refine dcl (m_tariff_all_ok t1 _ hx_1) ?_
 refine DOps.stop (by kernel_rfl) ?_
 obtain ⟨r2, hx_2, h⟩ := bind_some h
 refine clU [(0, 1003), (1, 1001), (2, 1000), (3, 1004), (4, 1002)] [] (m_tariff_counts_1_h_ok 100 t1 k1 [] 0 r1 _ hx_2) ?_
 obtain ⟨r3, hx_3, h⟩ := bind_some h
 refine clRow 1005 (clone_92 r2.1 _ hx_3) ?_
 refine oo ?_
 refine AOps.nil (k _ ?_)
 refine AWp.ret ?_
 cases h; exact rt
end Go.Pv.Tryd

namespace Go.Pv.Tryd
open Go.Proofs Go.Pv
theorem m_tariff_Dead_ok (k1 : Int) (t1 : (List Rule)) (r : ((List Int) × Int)) (h : m_tariff_Dead k1 t1 = some r) : PureFn Tryd.prog G 30 [.d (.int .i64 k1), .d (.imm 2 (lenc Rule.pd t1))] (.tuple [.d (.imm 1 (lenc (PD.int .i64) r.1)), .d (.int .i64 r.2)]) := by
 unfold m_tariff_Dead at h
 refine pf Tryd.func30 Tryd.ntmps30 ?_
 refine sg fun K k => ?_
 iterate 2 refine oo ?_
 refine AOps.nil (k _ ?_)
 refine AWp.seq fun _ K_1 => ?_
 refine sg fun K k => ?_
 iterate 2 refine oo ?_
 refine ol ?_
 obtain ⟨r1, hx_2, h⟩ := bind_some h
 refine cl (m_tariff_checked_ok k1 [t1] _ hx_2) ?_
 refine oo ?_
 refine AOps.nil (k _ ?_)
 refine sg fun K k => ?_
 iterate 2 refine oo ?_
 refine AOps.nil (k _ ?_)
 refine cd h (fun h => ?_) (fun h => ?_)
 ·refine sg fun K k => ?_
  iterate 3 refine oo ?_
  refine AOps.nil (k _ ?_)
  refine AWp.ret ?_
  cases h; exact rt
 ·refine AWp.skip ?_
  refine K_1 _ ?_
  refine sg fun K k => ?_
  refine oo ?_
  refine AOps.nil (k _ ?_)
  refine AWp.sub (Sub.void 7 3 1 1000 (by rfl) (by rfl) (by decide) (by decide)) ?_
  simp only [eput, hput, reduceCtorEq, ↓reduceIte, Nat.reduceAdd, Nat.reduceMul, Nat.reduceLT, Nat.reduceLeDiff, Nat.reduceEqDiff, Nat.reduceBEq, Int.reduceToNat]
  refine jn (α := (List Int)) [] [] (fun i t => (7, .slc 1000 0 i.length) :: t) (fun i t => (1000, ⟨3, 1, dl (lenc (PD.int .i64) i)⟩) :: t) h ?_ ?_
  ·intro _ hj_5
   refine sg fun K k => ?_
   iterate 2 refine oo ?_
   obtain ⟨r2, hx_6, hj_5⟩ := bind_some hj_5
   refine cl (m_tariff_counts_ok k1 t1 _ hx_6) ?_
   obtain ⟨hg_7, hj_5⟩ := guardO_some hj_5
   iterate 5 refine oo ?_
   refine AOps.nil (k _ ?_)
   refine AWp.block ?_
   obtain ⟨x_12, hl_9, h2_10⟩ := bind_some hj_5
   refine lp (S := (Int × (List Int))) [22, 23] [] (fun i t => (7, .slc 1000 0 i.2.length) :: (24, .d (.int .i64 i.1)) :: t) (fun i t => (1000, ⟨3, 1, dl (lenc (PD.int .i64) i.2)⟩) :: t) hl_9 ?_ ?_; exact sb; clear hl_9
   rintro ⟨v1, L2⟩ _ hb_11; unfold m_tariff_Dead_l1 at hb_11; try dsimp only at hb_11
   try dsimp only
   refine sg fun K k => ?_
   refine oo ?_
   refine AOps.nil (k _ ?_)
   refine AWp.seq fun _ K_14 => ?_
   refine cd hb_11 (fun hb_11 => ?_) (fun hb_11 => ?_)
   ·refine AWp.skip ?_
    refine K_14 _ ?_
    refine jn (α := (List Int)) [22, 23, 24] [] (fun i t => (7, .slc 1000 0 i.length) :: t) (fun i t => (1000, ⟨3, 1, dl (lenc (PD.int .i64) i)⟩) :: t) hb_11 ?_ ?_
    ·intro _ hj_17
     refine AWp.block ?_
     refine sg fun K k => ?_
     obtain ⟨e1, ⟨f_18, f_19, f_20, f_21⟩, hj_17⟩ := idx_bind hj_17
     try simp only [List.length_append, List.length_set, List.length_replicate, List.length_cons, List.length_nil] at f_19 f_21
     iterate 2 refine oo ?_
     refine oo ?_ (by intro K k; simp (disch := omega) only [go_sem, f_20, ↓reduceIte]; exact k)
     iterate 2 refine oo ?_
     refine AOps.nil (k _ ?_)
     refine sg fun K k => ?_
     iterate 2 refine oo ?_
     refine AOps.nil (k _ ?_)
     refine cd hj_17 (fun hj_17 => ?_) (fun hj_17 => ?_)
     ·refine AWp.reg ?_
      iterate 2 refine oo ?_
      refine ol ?_
      obtain ⟨hg_23, hj_17⟩ := guardO_some hj_17
      iterate 2 refine oo ?_
      refine AOps.nil ?_
      cases hj_17; exact sb
     ·refine AWp.skip ?_
      cases hj_17; exact sb
    ·rintro L3 hb_11; dsimp only at hb_11 ⊢
     refine AWp.reg ?_
     iterate 2 refine oo ?_
     refine AOps.nil ?_
     exact ln hb_11 sb
   ·refine AWp.exit ?_
    refine lx hb_11 fun hx => ?_; cases hx; try dsimp only at h2_10
    cases h2_10; exact sb
  ·rintro L1 h; dsimp only at h ⊢
   refine sg fun K k => ?_
   iterate 3 refine oo ?_
   refine AOps.nil (k _ ?_)
   refine AWp.ret ?_
   cases h; exact rt
end Go.Pv.Tryd

namespace Go.Pv.Tryd
open Go.Proofs Go.Pv
theorem m_tariff_Gap_1_ok (i1 : Int) (v1 : Int) (r : Bool) (h : m_tariff_Gap_1 i1 v1 = some r) : PureFn Tryd.prog G 50 [.d (.int .i64 i1), .d (.int .i64 v1)] (.d (.bool r)) := by
 unfold m_tariff_Gap_1 at h
 refine pf Tryd.func50 Tryd.ntmps50 ?_
 refine sg fun K k => ?_
 refine oo ?_
 refine AOps.nil (k _ ?_)
 refine sg fun K k => ?_
 iterate 3 refine oo ?_
 refine AOps.nil (k _ ?_)
 refine AWp.ret ?_
 cases h; exact rt
end Go.Pv.Tryd

namespace Go.Pv.Tryd
open Go.Proofs Go.Pv
set_option maxHeartbeats 4000000 in
theorem m_tariff_walker_find_1_h_f50_ok (n : Nat) : ∀ (o1 : Walker) (m1 : (List (Arr3_Int × Bool))) (mark1 : Int) (a1 : Int) (b1 : Int) (r : ((List Int) × Bool × (List (Arr3_Int × Bool)))) (h : m_tariff_walker_find_1_h_f50 n o1 m1 mark1 a1 b1 = some r), ObjFn Tryd.prog G 79 [.d (.int .i64 mark1), .d (.int .u32 a1), .d (.int .u32 b1), .ptr 0 0 0, .ptr 1 0 0, .ptr 2 0 0, .ptr 3 0 0] [(0, ⟨72, 3, [.d (.agg [(.int .i64 o1.k), (.imm 2 (lenc Rule.pd o1.s)), (.imm 2 (lenc Rule.pd o1.t))])]⟩), (1, ⟨74, 1, [.d (.fn (.func 50))]⟩), (2, ⟨117, 1, [.mp 4]⟩), (3, ⟨118, 1, [.func (.func 79) [.ptr 0 0 0, .ptr 1 0 0, .ptr 2 0 0, .ptr 3 0 0]]⟩), (4, ⟨117, 0, mels Arr3_Int.pd PD.bool m1⟩)] (.tuple [.d (.imm 1 (lenc (PD.int .i64) r.1)), .d (.bool r.2.1)]) [(0, ⟨72, 3, [.d (.agg [(.int .i64 o1.k), (.imm 2 (lenc Rule.pd o1.s)), (.imm 2 (lenc Rule.pd o1.t))])]⟩), (1, ⟨74, 1, [.d (.fn (.func 50))]⟩), (2, ⟨117, 1, [.mp 4]⟩), (3, ⟨118, 1, [.func (.func 79) [.ptr 0 0 0, .ptr 1 0 0, .ptr 2 0 0, .ptr 3 0 0]]⟩), (4, ⟨117, 0, mels Arr3_Int.pd PD.bool r.2.2⟩)] := by
 induction n with
 | zero => intro o1 m1 mark1 a1 b1 r h; cases h
 | succ n ih =>
  intro o1 m1 mark1 a1 b1 r h
  replace h : m_tariff_walker_find_1_h_f50_b (m_tariff_walker_find_1_h_f50 n) o1 m1 mark1 a1 b1 = some r := h
  unfold m_tariff_walker_find_1_h_f50_b at h
  refine ObjFn.pf Tryd.func79 Tryd.ntmps79 ?_
  refine sg fun K k => ?_
  iterate 2 refine oo ?_
  refine AOps.nil (k _ ?_)
  refine AWp.seq fun _ K_1 => ?_
  refine sg fun K k => ?_
  iterate 4 refine oo ?_
  refine AOps.nil (k _ ?_)
  refine cd h (fun h => ?_) (fun h => ?_)
  ·refine sd mo fun K k => ?_
   iterate 2 refine dd ?_
   obtain ⟨r1, hx_3, h⟩ := bind_some h
   refine dcl (m_tariff_set_first_ok a1 _ hx_3) ?_
   refine dd ?_
   obtain ⟨r2, hx_4, h⟩ := bind_some h
   refine dcl (m_tariff_set_first_ok b1 _ hx_4) ?_
   refine DOps.stop (by kernel_rfl) ?_
   obtain ⟨r3, hx_5, h⟩ := bind_some h
   refine clV (m_tariff_Gap_1_ok r1 r2 _ hx_5) ?_
   iterate 2 refine oo ?_
   refine AOps.nil (k _ ?_)
   refine AWp.sub (τ := ⟨[(10, .d (.imm 1 (lenc (PD.int .i64) []))), (11, .d (.bool r3))], [(0, ⟨72, 3, [.d (.agg [(.int .i64 o1.k), (.imm 2 (lenc Rule.pd o1.s)), (.imm 2 (lenc Rule.pd o1.t))])]⟩), (1, ⟨74, 1, [.d (.fn (.func 50))]⟩), (2, ⟨117, 1, [.mp 4]⟩), (3, ⟨118, 1, [.func (.func 79) [.ptr 0 0 0, .ptr 1 0 0, .ptr 2 0 0, .ptr 3 0 0]]⟩), (4, ⟨117, 0, mels Arr3_Int.pd PD.bool m1⟩)], [], none⟩) sc ?_
   refine AWp.ret ?_
   cases h; exact rtO
  ·refine AWp.skip ?_
   refine K_1 _ ?_
   refine sg fun K k => ?_
   iterate 8 refine oo ?_
   refine AOps.nil (k _ ?_)
   refine AWp.seq fun _ K_6 => ?_
   refine sg fun K k => ?_
   iterate 2 refine oo ?_
   refine oml (k := (⟨mark1, (IntKind.i64.wrap a1), (IntKind.i64.wrap b1)⟩ : Arr3_Int)) (L := m1) (v0 := false) (encV := PD.bool) KE121 MU117 ty4 MZ4 (fun _ _ => .bool _) ?_
   refine AOps.nil (k _ ?_)
   refine cd h (fun h => ?_) (fun h => ?_)
   ·refine sg fun K k => ?_
    iterate 2 refine oo ?_
    refine AOps.nil (k _ ?_)
    refine AWp.sub (τ := ⟨[(10, .d (.imm 1 (lenc (PD.int .i64) []))), (11, .d (.bool false))], [(0, ⟨72, 3, [.d (.agg [(.int .i64 o1.k), (.imm 2 (lenc Rule.pd o1.s)), (.imm 2 (lenc Rule.pd o1.t))])]⟩), (1, ⟨74, 1, [.d (.fn (.func 50))]⟩), (2, ⟨117, 1, [.mp 4]⟩), (3, ⟨118, 1, [.func (.func 79) [.ptr 0 0 0, .ptr 1 0 0, .ptr 2 0 0, .ptr 3 0 0]]⟩), (4, ⟨117, 0, mels Arr3_Int.pd PD.bool m1⟩)], [], none⟩) sc ?_
    refine AWp.ret ?_
    cases h; exact rtO
   ·refine AWp.skip ?_
    refine K_6 _ ?_
    refine sg fun K k => ?_
    refine oo ?_
    refine AOps.nil (k _ ?_)
    refine jm (ι := (List (Arr3_Int × Bool))) [5, 12] [0, 1, 3, 1000] (fun i t => t) (fun i t => (2, ⟨117, 1, [.mp 4]⟩) :: (4, ⟨117, 0, mels Arr3_Int.pd PD.bool i⟩) :: t) .inl h ?_ ?_
    ·intro _ hj_9 h
     refine sg fun K k => ?_
     iterate 5 refine oo ?_
     refine ol ?_
     obtain ⟨r4, hx_10, hj_9⟩ := bind_some hj_9
     refine cl (m_tariff_cuts_ok mark1 [o1.s, o1.t] _ hx_10) ?_
     iterate 2 refine oo ?_
     refine AOps.nil (k _ ?_)
     refine AWp.block ?_
     obtain ⟨x_15, hl_12, h2_13⟩ := bind_some hj_9
     refine lp (S := (Int × Int × (List (Arr3_Int × Bool)))) [0, 1, 2, 3, 5, 6, 12, 43, 44] [0, 1, 3, 1000] (fun i t => (13, .d (.int .i64 i.1)) :: (45, .d (.int .i64 i.2.1)) :: t) (fun i t => (2, ⟨117, 1, [.mp 4]⟩) :: (4, ⟨117, 0, mels Arr3_Int.pd PD.bool i.2.2⟩) :: t) hl_12 ?_ ?_; exact sb; clear hl_12
     rintro ⟨from1, v1, M2⟩ _ hb_14; unfold m_tariff_walker_find_1_h_f50_l1 at hb_14; try dsimp only at hb_14
     try dsimp only
     refine sg fun K k => ?_
     refine oo ?_
     refine AOps.nil (k _ ?_)
     refine AWp.seq fun _ K_17 => ?_
     refine cd hb_14 (fun hb_14 => ?_) (fun hb_14 => ?_)
     ·refine AWp.skip ?_
      refine K_17 _ ?_
      refine AWp.seq fun _ K_19 => ?_
      refine AWp.block ?_
      refine sg fun K k => ?_
      obtain ⟨e1, ⟨f_20, f_21, f_22, f_23⟩, hb_14⟩ := idx_bind hb_14
      refine oo ?_
      refine oo ?_ (by intro K k; simp (disch := omega) only [go_sem, f_22, ↓reduceIte]; exact k)
      refine oo ?_
      refine AOps.nil (k _ ?_)
      refine AWp.seq fun _ K_24 => ?_
      refine sd mo fun K k => ?_
      iterate 8 refine dd ?_
      obtain ⟨r5, hx_25, hb_14⟩ := bind_some hb_14
      refine dcl (m_tariff_fits_ok o1.s mark1 from1 _ hx_25) ?_
      iterate 6 refine dd ?_
      obtain ⟨r6, hx_26, hb_14⟩ := bind_some hb_14
      refine dcl (m_tariff_fits_ok o1.t mark1 from1 _ hx_26) ?_
      refine dd ?_
      refine DOps.bar (by kernel_rfl) ?_
      refine BOps.hard (by kernel_rfl) ?_
      obtain ⟨r7, hx_27, hb_14⟩ := bind_some hb_14
      refine clU [(0, 0), (1, 1), (2, 2), (3, 3), (4, 4)] [] (ih o1 M2 (IntKind.i64.wrap (mark1 + 1)) (IntKind.u32.wrap ↑(BitVec.ofInt IntKind.u32.bits a1 &&& BitVec.ofInt IntKind.u32.bits r5).toNat) (IntKind.u32.wrap ↑(BitVec.ofInt IntKind.u32.bits b1 &&& BitVec.ofInt IntKind.u32.bits r6).toNat) _ hx_27) ?_
      refine AOps.nil ?_
      refine BOps.draw [] trivial (Nat.le_of_ble_eq_true rfl) ?_
      iterate 5 refine dd ?_
      refine DOps.nil (by kernel_rfl) (k _ ?_)
      refine sg fun K k => ?_
      refine oo ?_
      refine AOps.nil (k _ ?_)
      refine cd hb_14 (fun hb_14 => ?_) (fun hb_14 => ?_)
      ·refine sg fun K k => ?_
       obtain ⟨hg_29, hb_14⟩ := guardO_some hb_14
       iterate 6 refine oo ?_
       refine AOps.nil (k _ ?_)
       refine AWp.sub (τ := ⟨[(10, .d (.imm 1 (lenc (PD.int .i64) ([from1] ++ r7.1)))), (11, .d (.bool true))], [(0, ⟨72, 3, [.d (.agg [(.int .i64 o1.k), (.imm 2 (lenc Rule.pd o1.s)), (.imm 2 (lenc Rule.pd o1.t))])]⟩), (1, ⟨74, 1, [.d (.fn (.func 50))]⟩), (2, ⟨117, 1, [.mp 4]⟩), (3, ⟨118, 1, [.func (.func 79) [.ptr 0 0 0, .ptr 1 0 0, .ptr 2 0 0, .ptr 3 0 0]]⟩), (4, ⟨117, 0, mels Arr3_Int.pd PD.bool r7.2.2⟩)], [], none⟩) sc ?_
       refine AWp.ret ?_
       refine lx hb_14 fun hx => ?_; cases hx; try dsimp only at h2_13
       cases h2_13; try dsimp only at h
       cases h; exact rtO
      ·refine AWp.skip ?_
       refine K_24 _ ?_
       refine AWp.reg ?_
       iterate 2 refine oo ?_
       refine AOps.nil ?_
       refine K_19 _ ?_
       refine AWp.reg ?_
       iterate 2 refine oo ?_
       refine AOps.nil ?_
       exact ln hb_14 sb
     ·refine AWp.exit ?_
      refine lx hb_14 fun hx => ?_; cases hx; try dsimp only at h2_13
      exact ln h2_13 sb
    ·rintro M1 h; dsimp only at h ⊢
     refine sg fun K k => ?_
     iterate 2 refine oo ?_
     refine oms (k := (⟨mark1, (IntKind.i64.wrap a1), (IntKind.i64.wrap b1)⟩ : Arr3_Int)) (L := M1) (v := true) (encV := PD.bool) KE121 MU117 ?_
     refine AOps.nil (k _ ?_)
     refine sg fun K k => ?_
     iterate 2 refine oo ?_
     refine AOps.nil (k _ ?_)
     refine AWp.sub (τ := ⟨[(10, .d (.imm 1 (lenc (PD.int .i64) []))), (11, .d (.bool false))], [(0, ⟨72, 3, [.d (.agg [(.int .i64 o1.k), (.imm 2 (lenc Rule.pd o1.s)), (.imm 2 (lenc Rule.pd o1.t))])]⟩), (1, ⟨74, 1, [.d (.fn (.func 50))]⟩), (2, ⟨117, 1, [.mp 4]⟩), (3, ⟨118, 1, [.func (.func 79) [.ptr 0 0 0, .ptr 1 0 0, .ptr 2 0 0, .ptr 3 0 0]]⟩), (4, ⟨117, 0, mels Arr3_Int.pd PD.bool (mset (⟨mark1, (IntKind.i64.wrap a1), (IntKind.i64.wrap b1)⟩ : Arr3_Int) true M1)⟩)], [], none⟩) sc ?_
     refine AWp.ret ?_
     cases h; exact rtO
end Go.Pv.Tryd

namespace Go.Pv.Tryd
open Go.Proofs Go.Pv
theorem m_tariff_walker_find_f50_ok (w1 : Walker) (r : ((List Int) × Bool)) (h : m_tariff_walker_find_f50 w1 = some r) : PureFn Tryd.prog G 49 [.d (.agg [(.int .i64 w1.k), (.imm 2 (lenc Rule.pd w1.s)), (.imm 2 (lenc Rule.pd w1.t))]), .d (.fn (.func 50))] (.tuple [.d (.imm 1 (lenc (PD.int .i64) r.1)), .d (.bool r.2)]) := by
 unfold m_tariff_walker_find_f50 at h
 refine pf Tryd.func49 Tryd.ntmps49 ?_
 refine sg fun K k => ?_
 iterate 4 refine oo ?_
 refine AOps.nil (k _ ?_)
 refine sg fun K k => ?_
 refine omk (α := Arr3_Int) (β := Bool) Arr3_Int.pd PD.bool 1002 ?_
 iterate 2 refine oo ?_
 refine AOps.nil (k _ ?_)
 refine sg fun K k => ?_
 refine oo ?_
 refine AOps.nil (k _ ?_)
 refine sg fun K k => ?_
 iterate 2 refine oo ?_
 refine AOps.nil (k _ ?_)
 refine sd mo fun K k => ?_
 iterate 3 refine dd ?_
 obtain ⟨r1, hx_1, h⟩ := bind_some h
 refine dcl (m_tariff_all_ok w1.s _ hx_1) ?_
 iterate 2 refine dd ?_
 obtain ⟨r2, hx_2, h⟩ := bind_some h
 refine dcl (m_tariff_all_ok w1.t _ hx_2) ?_
 refine DOps.bar (by kernel_rfl) ?_
 refine BOps.hard (by kernel_rfl) ?_
 obtain ⟨r3, hx_3, h⟩ := bind_some h
 refine clU [(0, 1000), (1, 1001), (2, 1003), (3, 1004), (4, 1002)] [] (m_tariff_walker_find_1_h_f50_ok 100 w1 [] 0 r1 r2 _ hx_3) ?_
 refine AOps.nil ?_
 refine BOps.draw [] trivial (Nat.le_of_ble_eq_true rfl) ?_
 iterate 4 refine dd ?_
 refine DOps.nil (by kernel_rfl) (k _ ?_)
 refine AWp.ret ?_
 cases h; exact rt
end Go.Pv.Tryd

namespace Go.Pv.Tryd
open Go.Proofs Go.Pv
theorem m_tariff_found_ok (l1 : (List Int)) (ok1 : Bool) (r : ((List Int) × Int)) (h : m_tariff_found l1 ok1 = some r) : PureFn Tryd.prog G 48 [.d (.imm 1 (lenc (PD.int .i64) l1)), .d (.bool ok1)] (.tuple [.d (.imm 1 (lenc (PD.int .i64) r.1)), .d (.int .i64 r.2)]) := by
 unfold m_tariff_found at h
 refine pf Tryd.func48 Tryd.ntmps48 ?_
 refine sg fun K k => ?_
 iterate 2 refine oo ?_
 refine AOps.nil (k _ ?_)
 refine AWp.seq fun _ K_1 => ?_
 refine sg fun K k => ?_
 iterate 2 refine oo ?_
 refine AOps.nil (k _ ?_)
 refine cd h (fun h => ?_) (fun h => ?_)
 ·refine sg fun K k => ?_
  iterate 2 refine oo ?_
  refine AOps.nil (k _ ?_)
  refine AWp.ret ?_
  cases h; exact rt
 ·refine AWp.skip ?_
  refine K_1 _ ?_
  refine sg fun K k => ?_
  iterate 3 refine oo ?_
  refine AOps.nil (k _ ?_)
  refine AWp.ret ?_
  cases h; exact rt
end Go.Pv.Tryd

namespace Go.Pv.Tryd
open Go.Proofs Go.Pv
theorem m_tariff_Gap_ok (k1 : Int) (t1 : (List Rule)) (r : ((List Int) × Int)) (h : m_tariff_Gap k1 t1 = some r) : PureFn Tryd.prog G 21 [.d (.int .i64 k1), .d (.imm 2 (lenc Rule.pd t1))] (.tuple [.d (.imm 1 (lenc (PD.int .i64) r.1)), .d (.int .i64 r.2)]) := by
 unfold m_tariff_Gap at h
 refine pf Tryd.func21 Tryd.ntmps21 ?_
 refine sg fun K k => ?_
 iterate 2 refine oo ?_
 refine AOps.nil (k _ ?_)
 refine AWp.seq fun _ K_1 => ?_
 refine sg fun K k => ?_
 iterate 2 refine oo ?_
 refine ol ?_
 obtain ⟨r1, hx_2, h⟩ := bind_some h
 refine cl (m_tariff_checked_ok k1 [t1] _ hx_2) ?_
 refine oo ?_
 refine AOps.nil (k _ ?_)
 refine sg fun K k => ?_
 iterate 2 refine oo ?_
 refine AOps.nil (k _ ?_)
 refine cd h (fun h => ?_) (fun h => ?_)
 ·refine sg fun K k => ?_
  iterate 3 refine oo ?_
  refine AOps.nil (k _ ?_)
  refine AWp.ret ?_
  cases h; exact rt
 ·refine AWp.skip ?_
  refine K_1 _ ?_
  refine sg fun K k => ?_
  iterate 3 refine oo ?_
  refine AOps.sub (τ := ⟨[(16, .d (.agg [(.int .i64 k1), (.imm 2 (lenc Rule.pd t1)), (.imm 2 (lenc Rule.pd []))]))], [], [], none⟩) sc ?_
  obtain ⟨r2, hx_4, h⟩ := bind_some h
  refine clC (m_tariff_walker_find_f50_ok (⟨k1, t1, []⟩ : Walker) _ hx_4) ?_
  iterate 2 refine oo ?_
  obtain ⟨r3, hx_5, h⟩ := bind_some h
  refine cl (m_tariff_found_ok r2.1 r2.2 _ hx_5) ?_
  iterate 4 refine oo ?_
  refine AOps.nil (k _ ?_)
  refine AWp.ret ?_
  cases h; exact rt
end Go.Pv.Tryd

namespace Go.Pv.Tryd
open Go.Proofs Go.Pv
theorem m_tariff_builder_leaf_h_ok (o1 : Builder) (a1 : Int) (r : (Int × Builder)) (h : m_tariff_builder_leaf_h o1 a1 = some r) : ObjFn Tryd.prog G 88 [.ptr 0 0 0, .d (.int .u32 a1)] [(0, ⟨92, 5, [.agg [.d (.int .i64 o1.k), .d (.imm 2 (lenc Rule.pd o1.rules)), .mp 1, .mp 2, .slc 1003 0 o1.nodes.length]]⟩), (1, ⟨89, 0, mels Arr3_Int.pd (PD.int .i64) o1.known⟩), (2, ⟨90, 0, mels PD.str (PD.int .i64) o1.same⟩), (1003, ⟨37, 3, dl (lenc Node.pd o1.nodes)⟩)] (.d (.int .i64 r.1)) [(0, ⟨92, 5, [.agg [.d (.int .i64 r.2.k), .d (.imm 2 (lenc Rule.pd r.2.rules)), .mp 1, .mp 2, .slc 1003 0 r.2.nodes.length]]⟩), (1, ⟨89, 0, mels Arr3_Int.pd (PD.int .i64) r.2.known⟩), (2, ⟨90, 0, mels PD.str (PD.int .i64) r.2.same⟩), (1003, ⟨37, 3, dl (lenc Node.pd r.2.nodes)⟩)] := by
 unfold m_tariff_builder_leaf_h at h
 refine ObjFn.pf Tryd.func88 Tryd.ntmps88 ?_
 refine sg fun K k => ?_
 refine oo ?_
 refine AOps.nil (k _ ?_)
 refine sg fun K k => ?_
 refine oo ?_
 obtain ⟨r1, hx_1, h⟩ := bind_some h
 refine cl (m_tariff_set_first_ok a1 _ hx_1) ?_
 refine oo ?_
 refine AOps.nil (k _ ?_)
 refine AWp.seq fun _ K_2 => ?_
 refine sg fun K k => ?_
 iterate 2 refine oo ?_
 refine AOps.nil (k _ ?_)
 refine cd h (fun h => ?_) (fun h => ?_)
 ·refine sg fun K k => ?_
  refine oo ?_
  refine AOps.nil (k _ ?_)
  refine AWp.ret ?_
  cases h; exact rtO
 ·refine AWp.skip ?_
  refine K_2 _ ?_
  refine sg fun K k => ?_
  obtain ⟨e1, ⟨f_4, f_5, f_6, f_7⟩, h⟩ := idx_bind h
  iterate 7 refine oo ?_
  refine oo ?_ (by intro K k; simp (disch := omega) only [go_sem, f_6, ↓reduceIte]; exact k)
  iterate 2 refine oo ?_
  refine AOps.nil (k _ ?_)
  refine AWp.ret ?_
  cases h; exact rtO
end Go.Pv.Tryd

namespace Go.Pv.Tryd
open Go.Proofs Go.Pv
theorem m_tariff_merged_ok (ends1 : (List Int)) (to1 : (List Int)) (r : ((List Int) × (List Int))) (h : m_tariff_merged ends1 to1 = some r) : PureFn Tryd.prog G 89 [.d (.imm 1 (lenc (PD.int .i64) ends1)), .d (.imm 1 (lenc (PD.int .i64) to1))] (.tuple [.d (.imm 1 (lenc (PD.int .i64) r.1)), .d (.imm 1 (lenc (PD.int .i64) r.2))]) := by
 unfold m_tariff_merged at h
 refine pf Tryd.func89 Tryd.ntmps89 ?_
 refine sg fun K k => ?_
 iterate 2 refine oo ?_
 refine AOps.nil (k _ ?_)
 refine sg fun K k => ?_
 iterate 2 refine oo ?_
 refine AOps.nil (k _ ?_)
 refine AWp.sub (Sub.void 6 3 1 1000 (by rfl) (by rfl) (by decide) (by decide)) ?_
 simp only [eput, hput, reduceCtorEq, ↓reduceIte, Nat.reduceAdd, Nat.reduceMul, Nat.reduceLT, Nat.reduceLeDiff, Nat.reduceEqDiff, Nat.reduceBEq, Int.reduceToNat]
 refine AWp.sub (Sub.void 7 3 1 1001 (by rfl) (by rfl) (by decide) (by decide)) ?_
 simp only [eput, hput, reduceCtorEq, ↓reduceIte, Nat.reduceAdd, Nat.reduceMul, Nat.reduceLT, Nat.reduceLeDiff, Nat.reduceEqDiff, Nat.reduceBEq, Int.reduceToNat]
 refine jn (α := ((List Int) × (List Int))) [] [] (fun i t => (6, .slc 1000 0 i.1.length) :: (7, .slc 1001 0 i.2.length) :: t) (fun i t => (1000, ⟨3, 1, dl (lenc (PD.int .i64) i.1)⟩) :: (1001, ⟨3, 1, dl (lenc (PD.int .i64) i.2)⟩) :: t) h ?_ ?_
 ·intro _ hj_2
  refine sg fun K k => ?_
  iterate 3 refine oo ?_
  refine AOps.nil (k _ ?_)
  refine AWp.block ?_
  obtain ⟨x_7, hl_4, h2_5⟩ := bind_some hj_2
  refine lp (S := (Int × (List Int) × (List Int))) [0, 11, 12] [] (fun i t => (6, .slc 1000 0 i.2.1.length) :: (7, .slc 1001 0 i.2.2.length) :: (13, .d (.int .i64 i.1)) :: t) (fun i t => (1000, ⟨3, 1, dl (lenc (PD.int .i64) i.2.1)⟩) :: (1001, ⟨3, 1, dl (lenc (PD.int .i64) i.2.2)⟩) :: t) hl_4 ?_ ?_; exact sb; clear hl_4
  rintro ⟨v1, L3, L4⟩ _ hb_6; unfold m_tariff_merged_l1 at hb_6; try dsimp only at hb_6
  try dsimp only
  refine sg fun K k => ?_
  refine oo ?_
  refine AOps.nil (k _ ?_)
  refine AWp.seq fun _ K_9 => ?_
  refine cd hb_6 (fun hb_6 => ?_) (fun hb_6 => ?_)
  ·refine AWp.skip ?_
   refine K_9 _ ?_
   refine jn (α := ((List Int) × (List Int))) [0, 11, 12, 13] [] (fun i t => (6, .slc 1000 0 i.1.length) :: (7, .slc 1001 0 i.2.length) :: t) (fun i t => (1000, ⟨3, 1, dl (lenc (PD.int .i64) i.1)⟩) :: (1001, ⟨3, 1, dl (lenc (PD.int .i64) i.2)⟩) :: t) hb_6 ?_ ?_
   ·intro _ hj_12
    refine AWp.block ?_
    refine sg fun K k => ?_
    obtain ⟨e1, ⟨f_13, f_14, f_15, f_16⟩, hj_12⟩ := idx_bind hj_12
    iterate 2 refine oo ?_
    refine oo ?_ (by intro K k; simp (disch := omega) only [go_sem, f_15, ↓reduceIte]; exact k)
    iterate 2 refine oo ?_
    refine AOps.nil (k _ ?_)
    refine AWp.seq fun _ K_17 => ?_
    refine sg fun K k => ?_
    iterate 3 refine oo ?_
    refine AOps.nil (k _ ?_)
    refine sg fun K k => ?_
    iterate 3 refine oo ?_
    obtain ⟨b1, hc_18, hj_12⟩ := bind_some hj_12
    refine ct 8 [0, 6, 7, 8, 9, 10, 11, 12, 13] [1000, 1001] (fun  t => (30, .d (.bool b1)) :: t) ?_ ?_
    ·rcases bt (decide (0 < (L4.length : Int))) with hg_23 | hg_23
     ·rw [hg_23]
      rw [hg_23, cond_true] at hc_18
      obtain ⟨e2, ⟨f_19, f_20, f_21, f_22⟩, hc_18⟩ := idx_bind hc_18
      try simp only [Int.toNat_natCast] at f_21 f_22
      iterate 4 refine oo ?_
      refine oo ?_ (by intro K k; simp (disch := omega) only [go_sem, f_21, Int.toNat_natCast, ↓reduceIte]; exact k)
      iterate 3 refine oo ?_
      refine AOps.nil ?_
      cases hc_18
      exact sb
     ·rw [hg_23]
      rw [hg_23, cond_false] at hc_18
      iterate 8 refine oo ?_
      refine AOps.nil ?_
      cases hc_18
      exact sb
    refine AOps.nil (k _ ?_)
    refine cd hj_12 (fun hj_12 => ?_) (fun hj_12 => ?_)
    ·refine sg fun K k => ?_
     obtain ⟨e3, ⟨f_25, f_26, f_27, f_28⟩, hj_12⟩ := idx_bind hj_12
     iterate 6 refine oo ?_
     refine oo ?_ (by intro K k; simp (disch := omega) only [go_sem, f_27, ↓reduceIte]; exact k)
     obtain ⟨e4, ⟨f_29, f_30, f_31, f_32⟩, hj_12⟩ := idx_bind hj_12
     try simp only [Int.toNat_natCast] at f_31 f_32
     refine oo ?_
     refine oo ?_ (by intro K k; simp (disch := omega) only [go_sem, f_31, Int.toNat_natCast, ↓reduceIte]; exact k)
     refine AOps.nil (k _ ?_)
     refine AWp.exit ?_
     cases hj_12; exact sb
    ·refine AWp.skip ?_
     refine K_17 _ ?_
     refine AWp.reg ?_
     obtain ⟨e5, ⟨f_33, f_34, f_35, f_36⟩, hj_12⟩ := idx_bind hj_12
     iterate 4 refine oo ?_
     refine oo ?_ (by intro K k; simp (disch := omega) only [go_sem, f_35, ↓reduceIte]; exact k)
     refine ol ?_
     obtain ⟨hg_37, hj_12⟩ := guardO_some hj_12
     iterate 3 refine oo ?_
     refine ol ?_
     obtain ⟨hg_38, hj_12⟩ := guardO_some hj_12
     iterate 3 refine oo ?_
     refine AOps.nil ?_
     cases hj_12; exact sb
   ·rintro ⟨L5, L6⟩ hb_6; dsimp only at hb_6 ⊢
    refine AWp.reg ?_
    iterate 2 refine oo ?_
    refine AOps.nil ?_
    exact ln hb_6 sb
  ·refine AWp.exit ?_
   refine lx hb_6 fun hx => ?_; cases hx; try dsimp only at h2_5
   cases h2_5; exact sb
 ·rintro ⟨L1, L2⟩ h; dsimp only at h ⊢
  refine sg fun K k => ?_
  iterate 4 refine oo ?_
  refine AOps.nil (k _ ?_)
  refine AWp.ret ?_
  cases h; exact rt
end Go.Pv.Tryd

namespace Go.Proofs
open Go.Shelf
def Tryd.laysM171_ren : Go.Shelf.Ren := ⟨fun | 171 => 110 | 243 => 117 | 246 => 130 | 283 => 137 | 284 => 138 | 285 => 139 | 286 => 140 | 129 => 128 | 317 => 142 | 318 => 143 | 319 => 144 | 320 => 145 | 337 => 146 | 338 => 147 | n => n, fun | 3 => 3 | 9 => 9 | 2 => 2 | 4 => 4 | 171 => 180 | 0 => 0 | 53 => 170 | 37 => 52 | 5 => 5 | 173 => 182 | 212 => 188 | 51 => 94 | 20 => 20 | 213 => 189 | 46 => 159 | 232 => 190 | 233 => 191 | n => n, fun | 17 => 0 | 18 => 1 | 19 => 2 | n => n⟩
theorem Tryd.laysM171 : Go.Proofs.LaysM.n171 Tryd.prog Tryd.laysM171_ren := {
  mixed := by kernel_rfl
  f129 := Tryd.func128.trans (congrArg some (by kernel_rfl))
  f171 := Tryd.func110.trans (congrArg some (by kernel_rfl))
  f243 := Tryd.func117.trans (congrArg some (by kernel_rfl))
  f246 := Tryd.func130.trans (congrArg some (by kernel_rfl))
  f283 := Tryd.func137.trans (congrArg some (by kernel_rfl))
  f284 := Tryd.func138.trans (congrArg some (by kernel_rfl))
  f285 := Tryd.func139.trans (congrArg some (by kernel_rfl))
  f286 := Tryd.func140.trans (congrArg some (by kernel_rfl))
  f317 := Tryd.func142.trans (congrArg some (by kernel_rfl))
  f318 := Tryd.func143.trans (congrArg some (by kernel_rfl))
  f319 := Tryd.func144.trans (congrArg some (by kernel_rfl))
  f320 := Tryd.func145.trans (congrArg some (by kernel_rfl))
  f337 := Tryd.func146.trans (congrArg some (by kernel_rfl))
  f338 := Tryd.func147.trans (congrArg some (by kernel_rfl))
  t0 := Tryd.underlying0
  a0 := Tryd.isAgg0
  z0 := Tryd.sizeOf0
  v0 := Tryd.zeroValue0
  t2 := Tryd.underlying2
  a2 := Tryd.isAgg2
  z2 := Tryd.sizeOf2
  v2 := Tryd.zeroValue2
  t3 := Tryd.underlying3
  a3 := Tryd.isAgg3
  z3 := Tryd.sizeOf3
  v3 := Tryd.zeroValue3
  t4 := Tryd.underlying4
  a4 := Tryd.isAgg4
  z4 := Tryd.sizeOf4
  v4 := Tryd.zeroValue4
  t5 := Tryd.underlying5
  a5 := Tryd.isAgg5
  z5 := Tryd.sizeOf5
  v5 := Tryd.zeroValue5
  t9 := Tryd.underlying9
  a9 := Tryd.isAgg9
  z9 := Tryd.sizeOf9
  v9 := Tryd.zeroValue9
  t20 := Tryd.underlying20
  a20 := Tryd.isAgg20
  z20 := Tryd.sizeOf20
  v20 := Tryd.zeroValue20
  t37 := Tryd.underlying52
  a37 := Tryd.isAgg52
  z37 := Tryd.sizeOf52
  v37 := Tryd.zeroValue52
  t46 := Tryd.underlying159
  a46 := Tryd.isAgg159
  z46 := Tryd.sizeOf159
  v46 := Tryd.zeroValue159
  t51 := Tryd.underlying94
  a51 := Tryd.isAgg94
  z51 := Tryd.sizeOf94
  v51 := Tryd.zeroValue94
  t53 := Tryd.underlying170
  a53 := Tryd.isAgg170
  z53 := Tryd.sizeOf170
  v53 := Tryd.zeroValue170
  t171 := Tryd.underlying180
  a171 := Tryd.isAgg180
  z171 := Tryd.sizeOf180
  v171 := Tryd.zeroValue180
  t173 := Tryd.underlying182
  a173 := Tryd.isAgg182
  z173 := Tryd.sizeOf182
  v173 := Tryd.zeroValue182
  t212 := Tryd.underlying188
  a212 := Tryd.isAgg188
  z212 := Tryd.sizeOf188
  v212 := Tryd.zeroValue188
  t213 := Tryd.underlying189
  a213 := Tryd.isAgg189
  z213 := Tryd.sizeOf189
  t232 := Tryd.underlying190
  a232 := Tryd.isAgg190
  z232 := Tryd.sizeOf190
  v232 := Tryd.zeroValue190
  t233 := Tryd.underlying191
  a233 := Tryd.isAgg191
  z233 := Tryd.sizeOf191
  v233 := Tryd.zeroValue191
  g17 := by kernel_rfl
  g18 := by kernel_rfl
  g19 := by kernel_rfl
  i0 := by kernel_rfl
  i2 := by kernel_rfl
  i3 := by kernel_rfl
  i4 := by kernel_rfl
  i5 := by kernel_rfl
  i9 := by kernel_rfl
  i20 := by kernel_rfl
  i37 := by kernel_rfl
  i46 := by kernel_rfl
  i51 := by kernel_rfl
  i53 := by kernel_rfl
  i171 := by kernel_rfl
  i173 := by kernel_rfl
  i212 := by kernel_rfl
  i232 := by kernel_rfl
  i233 := by kernel_rfl
  m17 := by kernel_rfl
  m18 := by kernel_rfl
  m19 := by kernel_rfl }
open Go.RowKit Go.Sort Go.Lib in
theorem Tryd.strconv_Itoa (n : Int) (h0 : -9223372036854775808 ≤ n) (h1 : n ≤ 9223372036854775807) (w : World) (htab : Lib.TabIs Tryd.prog w "internal/strconv.uint64pow10" .u64 Lib.pow10Tab) :
    Calls Tryd.prog 110 #[.int .i64 n] w fun e w' => e = .returned (.string ⟨(Lib.itoa n).toArray⟩) ∧ ∃ k os, w' = grow (w.drewN k) os := Any.strconv_Itoa Tryd.laysM171 n h0 h1 w htab
end Go.Proofs

namespace Go.Pv.Tryd
open Go.Proofs Go.Pv
theorem noEscape_run (w : World) (v : Value) : (callFunc 129 #[v]).run Tryd.prog w = .ok (.value v) w := by
  rw [run_callFunc_extern Tryd.func129 (by kernel_rfl) (by kernel_rfl) (by kernel_rfl) (e := Extern.AbiNoEscape.same) (by kernel_rfl)]
  rfl
theorem info148 : ∃ j, Tryd.prog.info? 148 = some j ∧ j.size = 2 := by
  have h : (Tryd.prog.info? 148).map (·.size) = some 2 := by kernel_rfl
  simpa [Option.map_eq_some_iff] using h
theorem ccheck_new (L : List Int) : ObjFn Tryd.prog G 116 [.ptr 0 0 0] [(0, ⟨148, 2, [.agg [.d .nilptr, .slc 1 0 L.length]]⟩), (1, ⟨5, 1, dl (lenc (PD.int .u8) L)⟩)] (.tuple []) [(0, ⟨148, 2, [.agg [.ptr 0 0 0, .slc 1 0 L.length]]⟩), (1, ⟨5, 1, dl (lenc (PD.int .u8) L)⟩)] := by
  obtain ⟨j, hj, hjs⟩ := info148
  refine ObjFn.pf Tryd.func116 Tryd.ntmps116 ?_
  refine AWp.seq fun _ K_1 => ?_
  refine AWp.reg ?_
  iterate 5 refine oo ?_
  refine AOps.nil ?_
  refine K_1 _ ?_
  refine cdt ?_
  refine AWp.reg ?_
  iterate 2 refine oo ?_
  refine on (fun K' hK' => OpT.toUnsafe (t := 148) (r := 0) rfl (by kernel_rfl) (by kernel_rfl) hj (by omega) (by rfl) (by rfl) (by exact Nat.one_pos) (by decide) (hK' _ ?_))
  refine on (fun K' hK' => OpT.noEscape rfl rfl rfl noEscape_run (by decide) (hK' _ ?_))
  refine on (fun K' hK' => OpT.fromUnsafe (u := 148) (r := 0) rfl (by kernel_rfl) (by kernel_rfl) hj (by rfl) (by rfl) (by exact Nat.one_pos) rfl (by kernel_rfl) (by decide) (hK' _ ?_))
  iterate 3 refine oo ?_
  refine AOps.nil ?_
  exact rtO
theorem ccheck_old (L : List Int) : ObjFn Tryd.prog G 116 [.ptr 0 0 0] [(0, ⟨148, 2, [.agg [.ptr 0 0 0, .slc 1 0 L.length]]⟩), (1, ⟨5, 1, dl (lenc (PD.int .u8) L)⟩)] (.tuple []) [(0, ⟨148, 2, [.agg [.ptr 0 0 0, .slc 1 0 L.length]]⟩), (1, ⟨5, 1, dl (lenc (PD.int .u8) L)⟩)] := by
  obtain ⟨j, hj, hjs⟩ := info148
  refine ObjFn.pf Tryd.func116 Tryd.ntmps116 ?_
  refine AWp.seq fun _ K_1 => ?_
  refine AWp.reg ?_
  iterate 5 refine oo ?_
  refine AOps.nil ?_
  refine K_1 _ ?_
  refine cdf ?_
  refine AWp.seq fun _ K_2 => ?_
  refine AWp.reg ?_
  iterate 5 refine oo ?_
  refine on (fun K' hK' => OpT.neqSame (te := 148) (r := 0) (i := 0) (off := 0) rfl (by kernel_rfl) hj (by rfl) (by rfl) (by decide) (hK' _ ?_))
  refine AOps.nil ?_
  refine K_2 _ ?_
  refine cdf ?_
  refine AWp.skip ?_
  exact rtO
theorem ccheck_ok (b : Bool) (L : List Int) : ObjFn Tryd.prog G 116 [.ptr 0 0 0] [(0, ⟨148, 2, [.agg [optP b 0, .slc 1 0 L.length]]⟩), (1, ⟨5, 1, dl (lenc (PD.int .u8) L)⟩)] (.tuple []) [(0, ⟨148, 2, [.agg [.ptr 0 0 0, .slc 1 0 L.length]]⟩), (1, ⟨5, 1, dl (lenc (PD.int .u8) L)⟩)] := by
  cases b
  · exact ccheck_new L
  · exact ccheck_old L
theorem bWrite_ok (o : StringsBuilder) (s : ByteArray) (r : StringsBuilder) (h : bWrite o s = some r) : ObjFn Tryd.prog G 109 [.ptr 0 0 0, .d (.str s)] [(0, ⟨148, 2, [.agg [optP o.addr 0, .slc 1001 0 o.buf.length]]⟩), (1001, ⟨5, 1, dl (lenc (PD.int .u8) o.buf)⟩)]
    (.tuple [.d (.int .i64 s.size), .d .niliface]) [(0, ⟨148, 2, [.agg [.ptr 0 0 0, .slc 1001 0 r.buf.length]]⟩), (1001, ⟨5, 1, dl (lenc (PD.int .u8) r.buf)⟩)] := by
  unfold bWrite at h
  obtain ⟨hg, h⟩ := guardO_some h
  refine ObjFn.pf Tryd.func109 Tryd.ntmps109 ?_
  refine sg fun K k => ?_
  iterate 2 refine oo ?_
  refine AOps.nil (k _ ?_)
  refine sg fun K k => ?_
  refine oo ?_
  refine clU [(0, 0), (1, 1001)] [] (ccheck_ok o.addr o.buf) ?_
  refine AOps.nil (k _ ?_)
  refine sg fun K k => ?_
  iterate 6 refine oo ?_
  refine on (fun K' hK' => OpT.appendStr (r := 1001) (str := s) (row := ⟨5, 1, dl (lenc (PD.int .u8) o.buf)⟩) rfl ty52 T52_desc (by kernel_rfl) ty5 (by kernel_rfl) (by kernel_rfl) (by kernel_rfl) (by rfl) (by rfl) (by simp only [go_sem]) rfl rfl (by decide) (by rfl) (by omega) (by decide) (hK' _ ?_))
  simp only [go_sem, ↓reduceIte]
  iterate 3 refine oo ?_
  refine AOps.nil (k _ ?_)
  refine sg fun K k => ?_
  iterate 4 refine oo ?_
  refine AOps.nil (k _ ?_)
  refine AWp.ret ?_
  cases h
  have e1 : (o.buf ++ bytesI s).length = o.buf.length + s.size := by rw [List.length_append, bytesI_length]
  dsimp only
  rw [e1]
  exact rtO
theorem bWriteByte_ok (o : StringsBuilder) (c : Int) (r : StringsBuilder) (h : bWriteByte o c = some r) : ObjFn Tryd.prog G 111 [.ptr 0 0 0, .d (.int .u8 c)] [(0, ⟨148, 2, [.agg [optP o.addr 0, .slc 1001 0 o.buf.length]]⟩), (1001, ⟨5, 1, dl (lenc (PD.int .u8) o.buf)⟩)]
    (.d .niliface) [(0, ⟨148, 2, [.agg [.ptr 0 0 0, .slc 1001 0 r.buf.length]]⟩), (1001, ⟨5, 1, dl (lenc (PD.int .u8) r.buf)⟩)] := by
  unfold bWriteByte at h
  obtain ⟨hg, h⟩ := guardO_some h
  refine ObjFn.pf Tryd.func111 Tryd.ntmps111 ?_
  refine sg fun K k => ?_
  iterate 1 refine oo ?_
  refine AOps.nil (k _ ?_)
  refine sg fun K k => ?_
  refine oo ?_
  refine clU [(0, 0), (1, 1001)] [] (ccheck_ok o.addr o.buf) ?_
  refine AOps.nil (k _ ?_)
  refine sg fun K k => ?_
  iterate 6 refine oo ?_
  refine ol ?_
  iterate 4 refine oo ?_
  refine AOps.nil (k _ ?_)
  refine sg fun K k => ?_
  iterate 1 refine oo ?_
  refine AOps.nil (k _ ?_)
  refine AWp.ret ?_
  cases h
  exact rtO
theorem bString_ok (o : StringsBuilder) (r : ByteArray) (h : bString o = some r) (q : PV) (hq : clean q) (hq2 : refsIn [(0, (⟨148, 2, [.agg [q, .slc 1 0 o.buf.length]]⟩ : Row)), (1, (⟨5, 1, dl (lenc (PD.int .u8) o.buf)⟩ : Row))] q) : ObjFn Tryd.prog G 112 [.ptr 0 0 0] [(0, ⟨148, 2, [.agg [q, .slc 1 0 o.buf.length]]⟩), (1, ⟨5, 1, dl (lenc (PD.int .u8) o.buf)⟩)]
    (.d (.str r)) [(0, ⟨148, 2, [.agg [q, .slc 1 0 o.buf.length]]⟩), (1, ⟨5, 1, dl (lenc (PD.int .u8) o.buf)⟩)] := by
  unfold bString at h
  obtain ⟨⟨hg, hg2⟩, h⟩ := guardO_some h
  cases h
  have hl0 : o.buf.length ≠ 0 := by simpa using hg2
  refine ObjFn.pf Tryd.func112 Tryd.ntmps112 (hrh := ⟨⟨⟨hq2, ⟨rfl, trivial⟩⟩, trivial⟩, row_refs _ _, trivial⟩) ?_
  refine sg fun K k => ?_
  refine oo ?_
  refine AOps.nil (k _ ?_)
  refine sd mo fun K k => ?_
  iterate 4 refine dd ?_
  refine dap rfl (by intro K k; refine OpX.sliceData (r := 1) (n := o.buf.length) rfl rfl rfl (by rfl) hl0 (by decide) (by rw [exE_nil]; trivial) ?_; exact k) ?_
  simp only [go_sem, ↓reduceIte]
  iterate 5 refine dd ?_
  refine dap rfl (by intro K k; refine OpX.mkStr (r := 1) (s := ofI o.buf) rfl rfl rfl rfl (by kernel_rfl) (by kernel_rfl) (by rfl) (by rw [ofI_size]; rfl) (by rw [bytesI_ofI hg]; rfl) (by rw [ofI_size]; exact hl0) (by decide) (by rw [exE_nil]; trivial) ?_; exact k) ?_
  simp only [go_sem, ↓reduceIte]
  refine dd ?_
  refine DOps.nil (by kernel_rfl) (k _ ?_)
  refine AWp.ret ?_
  exact rtO
theorem bString_opt (o : StringsBuilder) (r : ByteArray) (h : bString o = some r) : ObjFn Tryd.prog G 112 [.ptr 0 0 0] [(0, ⟨148, 2, [.agg [optP o.addr 0, .slc 1 0 o.buf.length]]⟩), (1, ⟨5, 1, dl (lenc (PD.int .u8) o.buf)⟩)]
    (.d (.str r)) [(0, ⟨148, 2, [.agg [optP o.addr 0, .slc 1 0 o.buf.length]]⟩), (1, ⟨5, 1, dl (lenc (PD.int .u8) o.buf)⟩)] :=
  bString_ok o r h _ (by rw [optP_clean]; trivial) (by rw [optP_refs rfl]; trivial)
theorem tab_of {B : Base Tryd.prog} {w : World} {φ : Nm} {H : Heap} {g : Gh} (hs : Sit G B w φ H g) : Lib.TabIs Tryd.prog w "internal/strconv.uint64pow10" .u64 Lib.pow10Tab := by
  obtain ⟨c, e, f, v, h1, h2, h3, h4, h5, h6⟩ := hs.glob tabG (.agg (Lib.pow10Tab.map (PD.int .u64))) (by simp [G])
  have hg : Tryd.prog.globalNamed "internal/strconv.uint64pow10" = some tabG := by kernel_rfl
  unfold Lib.TabIs World.var?
  rw [hg, Option.bind_some, h1]
  simp only [Option.some.injEq]
  cases h3 with
  | @agg vs _ hsz h hf =>
    have hl : vs.size = Lib.pow10Tab.length := by simpa using hsz
    have e0 : (Value.agg vs).cells = vs := rfl
    rw [e0] at h4 h5
    refine Array.ext (by simp; omega) fun j hj1 hj2 => ?_
    have hj : j < Lib.pow10Tab.length := by omega
    have hj' : j < vs.size := by omega
    have a1 := h j (by simpa using hj)
    simp only [List.getElem_map] at a1
    have a2 := repD_int a1
    have a3 := (h5 j hj').1
    rw [a2, Array.getElem?_eq_getElem hj1] at a3
    simp only [Option.some.injEq] at a3
    rw [a3]; simp
theorem itoa_ok (n : Int) (r : ByteArray) (h : itoaO n = some r) : PureFn Tryd.prog G 110 [.d (.int .i64 n)] (.d (.str r)) := by
  unfold itoaO at h
  obtain ⟨⟨hg1, hg2⟩, h⟩ := guardO_some h
  cases h
  intro B φ vs h0 h1 h2 h3
  obtain ⟨v, rfl⟩ : ∃ v, vs = [v] := by
    match vs, h1 with
    | [v], _ => exact ⟨v, rfl⟩
  have hv : RepV B.w0 B.X φ [] v (.d (.int .i64 n)) := h2 0 (by simp)
  obtain rfl := repV_int hv
  have hc := Tryd.strconv_Itoa n hg1 hg2 B.w0 (tab_of h3)
  refine (callsIn_wide.2 hc).mono ?_
  rintro e w' ⟨rfl, k, os, rfl⟩
  refine ⟨_, _, [], none, φ, rfl, ⟨rfl, rfl⟩, .d (.str _), ?_⟩
  exact Sit.more h0 h3 (by simp [Sort.grow]) (fun b hb => heap_grow (B.w0.drewN k) os hb) rfl rfl rfl
end Go.Pv.Tryd

namespace Go.Pv.Tryd
open Go.Proofs Go.Pv
set_option maxHeartbeats 4000000 in
theorem m_tariff_builder_node_h_ok (o1 : Builder) (x1 : Node) (r : (Int × Builder)) (h : m_tariff_builder_node_h o1 x1 = some r) : ObjFn Tryd.prog G 90 [.ptr 0 0 0, .d (.agg [(.int .i64 x1.Mark), (.imm 1 (lenc (PD.int .i64) x1.Cuts)), (.imm 1 (lenc (PD.int .i64) x1.To))])] [(0, ⟨92, 5, [.agg [.d (.int .i64 o1.k), .d (.imm 2 (lenc Rule.pd o1.rules)), .mp 1, .mp 2, .slc 1003 0 o1.nodes.length]]⟩), (1, ⟨89, 0, mels Arr3_Int.pd (PD.int .i64) o1.known⟩), (2, ⟨90, 0, mels PD.str (PD.int .i64) o1.same⟩), (1003, ⟨37, 3, dl (lenc Node.pd o1.nodes)⟩)] (.d (.int .i64 r.1)) [(0, ⟨92, 5, [.agg [.d (.int .i64 r.2.k), .d (.imm 2 (lenc Rule.pd r.2.rules)), .mp 1, .mp 2, .slc 1003 0 r.2.nodes.length]]⟩), (1, ⟨89, 0, mels Arr3_Int.pd (PD.int .i64) r.2.known⟩), (2, ⟨90, 0, mels PD.str (PD.int .i64) r.2.same⟩), (1003, ⟨37, 3, dl (lenc Node.pd r.2.nodes)⟩)] := by
 unfold m_tariff_builder_node_h at h
 refine ObjFn.pf Tryd.func90 Tryd.ntmps90 ?_
 refine sg fun K k => ?_
 iterate 2 refine oo ?_
 refine AOps.nil (k _ ?_)
 refine sg fun K k => ?_
 refine oo ?_
 refine AOps.sub (Sub.voidCell 1005 1 5 1 1006 (x := ⟨148, 2, [.d (.agg [.nilptr, .nilslice])]⟩) (p := .d (.agg [.nilptr, .nilslice])) (cs := [.d .nilptr, .d .nilslice]) rfl (Nat.le_of_ble_eq_true rfl) rfl rfl rfl rfl rfl (by decide) (by decide)) ?_
 simp only [hput, List.set_cons_succ, List.set_cons_zero, reduceCtorEq, ↓reduceIte, Nat.reduceAdd, Nat.reduceMul, Nat.reduceLT, Nat.reduceLeDiff, Nat.reduceEqDiff, Nat.reduceBEq, Int.reduceToNat]
 refine AOps.nil (k _ ?_)
 refine jn (α := (Bool × (List Int))) [0, 3] [0, 1, 2, 1003, 1004] (fun i t => (5, .ptr 1005 0 0) :: t) (fun i t => (1005, ⟨148, 2, [.agg [optP i.1 1005, .slc 1006 0 i.2.length]]⟩) :: (1006, ⟨5, 1, dl (lenc (PD.int .u8) i.2)⟩) :: t) h ?_ ?_
 ·intro _ hj_2
  refine sg fun K k => ?_
  iterate 2 refine oo ?_
  refine ol ?_
  iterate 4 refine oo ?_
  refine ol ?_
  refine AOps.sub (τ := ⟨[(0, .ptr 0 0 0), (3, .ptr 1004 0 0), (5, .ptr 1005 0 0), (19, .d (.imm 1 (lenc (slenc 1 (PD.int .i64)) [[x1.Mark], x1.Cuts, x1.To])))], [(0, ⟨92, 5, [.agg [.d (.int .i64 o1.k), .d (.imm 2 (lenc Rule.pd o1.rules)), .mp 1, .mp 2, .slc 1003 0 o1.nodes.length]]⟩), (1, ⟨89, 0, mels Arr3_Int.pd (PD.int .i64) o1.known⟩), (2, ⟨90, 0, mels PD.str (PD.int .i64) o1.same⟩), (1003, ⟨37, 3, dl (lenc Node.pd o1.nodes)⟩), (1004, ⟨37, 3, [.d (.agg [(.int .i64 x1.Mark), (.imm 1 (lenc (PD.int .i64) x1.Cuts)), (.imm 1 (lenc (PD.int .i64) x1.To))])]⟩), (1005, ⟨148, 2, [.agg [.d .nilptr, .slc 1006 0 0]]⟩), (1006, ⟨5, 1, dl (lenc (PD.int .u8) [])⟩)], [], none⟩) sb ?_
  iterate 2 refine oo ?_
  refine AOps.nil (k _ ?_)
  refine AWp.block ?_
  obtain ⟨x_7, hl_4, h2_5⟩ := bind_some hj_2
  refine lp (S := (Int × Bool × (List Int))) [0, 3, 19, 20] [0, 1, 2, 1003, 1004] (fun i t => (5, .ptr 1005 0 0) :: (21, .d (.int .i64 i.1)) :: t) (fun i t => (1005, ⟨148, 2, [.agg [optP i.2.1 1005, .slc 1006 0 i.2.2.length]]⟩) :: (1006, ⟨5, 1, dl (lenc (PD.int .u8) i.2.2)⟩) :: t) hl_4 ?_ ?_; exact sb; clear hl_4
  rintro ⟨v1, c2, L2⟩ _ hb_6; unfold m_tariff_builder_node_h_l1 at hb_6; try dsimp only at hb_6
  try dsimp only
  refine sg fun K k => ?_
  refine oo ?_
  refine AOps.nil (k _ ?_)
  refine AWp.seq fun _ K_9 => ?_
  refine cd hb_6 (fun hb_6 => ?_) (fun hb_6 => ?_)
  ·refine AWp.skip ?_
   refine K_9 _ ?_
   refine jn (α := (Bool × (List Int))) [0, 3, 19, 20, 21] [0, 1, 2, 1003, 1004] (fun i t => (5, .ptr 1005 0 0) :: t) (fun i t => (1005, ⟨148, 2, [.agg [optP i.1 1005, .slc 1006 0 i.2.length]]⟩) :: (1006, ⟨5, 1, dl (lenc (PD.int .u8) i.2)⟩) :: t) hb_6 ?_ ?_
   ·intro _ hj_12
    refine AWp.block ?_
    refine sg fun K k => ?_
    obtain ⟨e1, ⟨f_13, f_14, f_15, f_16⟩, hj_12⟩ := idx_bind hj_12
    try simp only [List.length_append, List.length_set, List.length_replicate, List.length_cons, List.length_nil] at f_14 f_16
    refine oo ?_
    refine oo ?_ (by intro K k; simp (disch := omega) only [go_sem, f_15, ↓reduceIte]; exact k)
    refine oo ?_
    refine AOps.nil (k _ ?_)
    refine jn (α := (Bool × (List Int))) [0, 3, 19, 20, 21] [0, 1, 2, 1003, 1004] (fun i t => (5, .ptr 1005 0 0) :: t) (fun i t => (1005, ⟨148, 2, [.agg [optP i.1 1005, .slc 1006 0 i.2.length]]⟩) :: (1006, ⟨5, 1, dl (lenc (PD.int .u8) i.2)⟩) :: t) hj_12 ?_ ?_
    ·intro _ hj_18
     refine sg fun K k => ?_
     iterate 3 refine oo ?_
     refine AOps.nil (k _ ?_)
     refine AWp.block ?_
     obtain ⟨x_23, hl_20, h2_21⟩ := bind_some hj_18
     refine lp (S := (Int × Bool × (List Int))) [0, 3, 19, 20, 21, 25, 26] [0, 1, 2, 1003, 1004] (fun i t => (5, .ptr 1005 0 0) :: (27, .d (.int .i64 i.1)) :: t) (fun i t => (1005, ⟨148, 2, [.agg [optP i.2.1 1005, .slc 1006 0 i.2.2.length]]⟩) :: (1006, ⟨5, 1, dl (lenc (PD.int .u8) i.2.2)⟩) :: t) hl_20 ?_ ?_; exact sb; clear hl_20
     rintro ⟨v2, c5, L5⟩ _ hb_22; unfold m_tariff_builder_node_h_l2 at hb_22; try dsimp only at hb_22
     try dsimp only
     refine sg fun K k => ?_
     refine oo ?_
     refine AOps.nil (k _ ?_)
     refine AWp.seq fun _ K_25 => ?_
     refine cd hb_22 (fun hb_22 => ?_) (fun hb_22 => ?_)
     ·refine AWp.skip ?_
      refine K_25 _ ?_
      refine AWp.seq fun _ K_27 => ?_
      refine AWp.block ?_
      refine sg fun K k => ?_
      obtain ⟨e2, ⟨f_28, f_29, f_30, f_31⟩, hb_22⟩ := idx_bind hb_22
      refine oo ?_
      refine oo ?_ (by intro K k; simp (disch := omega) only [go_sem, f_30, ↓reduceIte]; exact k)
      refine oo ?_
      refine AOps.nil (k _ ?_)
      refine AWp.reg ?_
      refine oo ?_
      obtain ⟨r1, hx_32, hb_22⟩ := bind_some hb_22
      refine cl (itoa_ok e2 _ hx_32) ?_
      obtain ⟨hg_33, hb_22⟩ := guardO_some hb_22
      refine oo ?_
      obtain ⟨r2, hx_34, hb_22⟩ := bind_some hb_22
      refine clU [(0, 1005), (1001, 1006)] [1006] (bWrite_ok (⟨c5, L5⟩ : StringsBuilder) (r1 ++ (⟨#[32]⟩ : ByteArray)) _ hx_34) ?_
      refine AOps.nil ?_
      refine K_27 _ ?_
      refine AWp.reg ?_
      iterate 2 refine oo ?_
      refine AOps.nil ?_
      exact ln hb_22 sb
     ·refine AWp.exit ?_
      refine lx hb_22 fun hx => ?_; cases hx; try dsimp only at h2_21
      cases h2_21; exact sb
    ·rintro ⟨c4, L4⟩ hj_12; dsimp only at hj_12 ⊢
     refine AWp.reg ?_
     obtain ⟨r3, hx_35, hj_12⟩ := bind_some hj_12
     refine clU [(0, 1005), (1001, 1006)] [1006] (bWriteByte_ok (⟨c4, L4⟩ : StringsBuilder) 124 _ hx_35) ?_
     refine AOps.nil ?_
     cases hj_12; exact sb
   ·rintro ⟨c3, L3⟩ hb_6; dsimp only at hb_6 ⊢
    refine AWp.reg ?_
    iterate 2 refine oo ?_
    refine AOps.nil ?_
    exact ln hb_6 sb
  ·refine AWp.exit ?_
   refine lx hb_6 fun hx => ?_; cases hx; try dsimp only at h2_5
   cases h2_5; exact sb
 ·rintro ⟨c1, L1⟩ h; dsimp only at h ⊢
  refine sd mo fun K k => ?_
  iterate 4 refine dd ?_
  obtain ⟨r4, hx_36, h⟩ := bind_some h
  refine dclR [(0, 1005), (1, 1006)] (bString_opt (⟨c1, L1⟩ : StringsBuilder) _ hx_36) ?_
  refine DOps.bar (by kernel_rfl) ?_
  refine BOps.hard (by kernel_rfl) ?_
  refine oml (k := r4) (L := o1.same) (v0 := 0) (encV := (PD.int .i64)) KE9 MU90 ty3 MZ3 (fun _ _ => .int _ _) ?_
  refine AOps.nil ?_
  refine BOps.draw [] trivial (Nat.le_of_ble_eq_true rfl) ?_
  iterate 5 refine dd ?_
  refine DOps.nil (by kernel_rfl) (k _ ?_)
  refine jn (α := (Int × (List (ByteArray × Int)) × (List Node))) [] [1] (fun i t => (10, .d (.int .i64 i.1)) :: t) (fun i t => (0, ⟨92, 5, [.agg [.d (.int .i64 o1.k), .d (.imm 2 (lenc Rule.pd o1.rules)), .mp 1, .mp 2, .slc 1003 0 i.2.2.length]]⟩) :: (2, ⟨90, 0, mels PD.str (PD.int .i64) i.2.1⟩) :: (1003, ⟨37, 3, dl (lenc Node.pd i.2.2)⟩) :: t) h ?_ ?_
  ·intro _ hj_38
   refine sg fun K k => ?_
   iterate 2 refine oo ?_
   refine AOps.nil (k _ ?_)
   refine cd hj_38 (fun hj_38 => ?_) (fun hj_38 => ?_)
   ·refine sg fun K k => ?_
    iterate 6 refine oo ?_
    refine AOps.nil (k _ ?_)
    refine sd mo fun K k => ?_
    iterate 4 refine dd ?_
    obtain ⟨r5, hx_40, hj_38⟩ := bind_some hj_38
    refine dclR [(0, 1005), (1, 1006)] (bString_opt (⟨c1, L1⟩ : StringsBuilder) _ hx_40) ?_
    refine dd ?_
    refine DOps.stop (by kernel_rfl) ?_
    refine oms (k := r5) (L := o1.same) (v := (o1.nodes.length : Int)) (encV := (PD.int .i64)) KE9 MU90 ?_
    refine AOps.nil (k _ ?_)
    refine AWp.sub (τ := ⟨[(0, .ptr 0 0 0), (3, .ptr 1004 0 0), (5, .ptr 1005 0 0), (10, .d (.int .i64 (o1.nodes.length : Int))), (11, .d (.bool ((mget r4 o1.same).isSome))), (38, .tuple [.d (.int .i64 ((mget r4 o1.same).getD 0)), .d (.bool ((mget r4 o1.same).isSome))]), (39, .ptr 0 0 0), (40, .ptr 0 0 0), (41, .ptr 0 0 3), (42, .mp 2), (43, .d (.str r4)), (44, .tuple [.d (.int .i64 ((mget r4 o1.same).getD 0)), .d (.bool ((mget r4 o1.same).isSome))]), (45, .d (.int .i64 ((mget r4 o1.same).getD 0))), (46, .d (.bool ((mget r4 o1.same).isSome))), (47, .d (.bool ((mget r4 o1.same).isSome))), (48, .d (.bool (!((mget r4 o1.same).isSome)))), (49, .ptr 0 0 0), (50, .ptr 0 0 0), (51, .ptr 0 0 4), (53, .d (.int .i64 (o1.nodes.length : Int))), (54, .ptr 0 0 0), (55, .ptr 0 0 0), (56, .ptr 0 0 3), (57, .mp 2), (58, .d (.str r5)), (59, .d (.int .i64 (o1.nodes.length : Int)))], [(0, ⟨92, 5, [.agg [.d (.int .i64 o1.k), .d (.imm 2 (lenc Rule.pd o1.rules)), .mp 1, .mp 2, .slc 1003 0 o1.nodes.length]]⟩), (1, ⟨89, 0, mels Arr3_Int.pd (PD.int .i64) o1.known⟩), (2, ⟨90, 0, mels PD.str (PD.int .i64) (mset r5 (o1.nodes.length : Int) o1.same)⟩), (1003, ⟨37, 3, dl (lenc Node.pd o1.nodes)⟩), (1004, ⟨37, 3, [.d (.agg [(.int .i64 x1.Mark), (.imm 1 (lenc (PD.int .i64) x1.Cuts)), (.imm 1 (lenc (PD.int .i64) x1.To))])]⟩), (1005, ⟨148, 2, [.agg [optP c1 1005, .slc 1006 0 L1.length]]⟩), (1006, ⟨5, 1, dl (lenc (PD.int .u8) L1)⟩)], [], none⟩) sb ?_
    refine drX mo [(1003, [64, 67, 1000000])] ?_
    iterate 6 (refine dd ?_ (by intro K k; simp (disch := omega) only [go_sem, true_or, or_true, and_self, true_and, and_true, ↓reduceIte]; exact k))
    refine ddl ?_ (by intro K k; simp (disch := omega) only [go_sem, true_or, or_true, and_self, true_and, and_true, ↓reduceIte]; exact k)
    obtain ⟨hg_41, hj_38⟩ := guardO_some hj_38
    refine dapH [64, 67, 1000000] [(0, ⟨92, 5, [.agg [.d (.int .i64 o1.k), .d (.imm 2 (lenc Rule.pd o1.rules)), .mp 1, .mp 2, .slc 1003 0 o1.nodes.length]]⟩)] (dl (lenc Node.pd [x1])) se32 ?_
    iterate 3 (refine dd ?_ (by intro K k; simp (disch := omega) only [go_sem, true_or, or_true, and_self, true_and, and_true, ↓reduceIte]; exact k))
    refine DOps.nil (by kernel_rfl) ?_
    cases hj_38; exact sb
   ·refine AWp.skip ?_
    cases hj_38; exact sb
  ·rintro ⟨n1, M1, L6⟩ h; dsimp only at h ⊢
   refine sg fun K k => ?_
   iterate 2 refine oo ?_
   refine AOps.nil (k _ ?_)
   refine AWp.ret ?_
   cases h; exact rtO
end Go.Pv.Tryd

namespace Go.Pv.Tryd
open Go.Proofs Go.Pv
set_option maxHeartbeats 4000000 in
theorem m_tariff_builder_at_h_ok (n : Nat) : ∀ (o1 : Builder) (mark1 : Int) (a1 : Int) (r : (Int × Builder)) (h : m_tariff_builder_at_h n o1 mark1 a1 = some r), ObjFn Tryd.prog G 57 [.ptr 0 0 0, .d (.int .i64 mark1), .d (.int .u32 a1)] [(0, ⟨92, 5, [.agg [.d (.int .i64 o1.k), .d (.imm 2 (lenc Rule.pd o1.rules)), .mp 1, .mp 2, .slc 1003 0 o1.nodes.length]]⟩), (1, ⟨89, 0, mels Arr3_Int.pd (PD.int .i64) o1.known⟩), (2, ⟨90, 0, mels PD.str (PD.int .i64) o1.same⟩), (1003, ⟨37, 3, dl (lenc Node.pd o1.nodes)⟩)] (.d (.int .i64 r.1)) [(0, ⟨92, 5, [.agg [.d (.int .i64 r.2.k), .d (.imm 2 (lenc Rule.pd r.2.rules)), .mp 1, .mp 2, .slc 1003 0 r.2.nodes.length]]⟩), (1, ⟨89, 0, mels Arr3_Int.pd (PD.int .i64) r.2.known⟩), (2, ⟨90, 0, mels PD.str (PD.int .i64) r.2.same⟩), (1003, ⟨37, 3, dl (lenc Node.pd r.2.nodes)⟩)] := by
 induction n with
 | zero => intro o1 mark1 a1 r h; cases h
 | succ n ih =>
  intro o1 mark1 a1 r h
  replace h : m_tariff_builder_at_h_b (m_tariff_builder_at_h n) o1 mark1 a1 = some r := h
  unfold m_tariff_builder_at_h_b at h
  refine ObjFn.pf Tryd.func57 Tryd.ntmps57 ?_
  refine sg fun K k => ?_
  refine oo ?_
  refine AOps.nil (k _ ?_)
  refine AWp.seq fun _ K_1 => ?_
  refine sg fun K k => ?_
  iterate 6 refine oo ?_
  refine AOps.nil (k _ ?_)
  refine cd h (fun h => ?_) (fun h => ?_)
  ·refine sg fun K k => ?_
   iterate 2 refine oo ?_
   obtain ⟨r1, hx_3, h⟩ := bind_some h
   refine clU [(0, 0), (1, 1), (2, 2), (1003, 1003)] [1003] (m_tariff_builder_leaf_h_ok o1 a1 _ hx_3) ?_
   refine oo ?_
   refine AOps.nil (k _ ?_)
   refine AWp.ret ?_
   cases h; exact rtO
  ·refine AWp.skip ?_
   refine K_1 _ ?_
   refine sg fun K k => ?_
   iterate 6 refine oo ?_
   refine AOps.nil (k _ ?_)
   refine AWp.seq fun _ K_4 => ?_
   refine sd mo fun K k => ?_
   iterate 5 refine dd ?_
   refine DOps.bar (by kernel_rfl) ?_
   refine BOps.hard (by kernel_rfl) ?_
   refine oml (k := (⟨mark1, (IntKind.i64.wrap a1), 0⟩ : Arr3_Int)) (L := o1.known) (v0 := 0) (encV := (PD.int .i64)) KE121 MU89 ty3 MZ3 (fun _ _ => .int _ _) ?_
   refine AOps.nil ?_
   refine BOps.draw [] trivial (Nat.le_of_ble_eq_true rfl) ?_
   iterate 5 refine dd ?_
   refine DOps.nil (by kernel_rfl) (k _ ?_)
   refine sg fun K k => ?_
   refine oo ?_
   refine AOps.nil (k _ ?_)
   refine cd h (fun h => ?_) (fun h => ?_)
   ·refine sg fun K k => ?_
    iterate 2 refine oo ?_
    refine AOps.nil (k _ ?_)
    refine AWp.ret ?_
    cases h; exact rtO
   ·refine AWp.skip ?_
    refine K_4 _ ?_
    refine sg fun K k => ?_
    iterate 5 refine oo ?_
    refine ol ?_
    obtain ⟨r2, hx_6, h⟩ := bind_some h
    refine cl (m_tariff_cuts_ok mark1 [o1.rules] _ hx_6) ?_
    refine oo ?_
    refine AOps.nil (k _ ?_)
    refine sg fun K k => ?_
    refine oo ?_
    refine AOps.nil (k _ ?_)
    refine AWp.sub (Sub.void 11 3 1 1005 (by rfl) (by rfl) (by decide) (by decide)) ?_
    simp only [eput, hput, reduceCtorEq, ↓reduceIte, Nat.reduceAdd, Nat.reduceMul, Nat.reduceLT, Nat.reduceLeDiff, Nat.reduceEqDiff, Nat.reduceBEq, Int.reduceToNat]
    refine sg fun K k => ?_
    refine oo ?_
    refine AOps.nil (k _ ?_)
    refine jn (α := (Int × (List Rule) × (List (Arr3_Int × Int)) × (List (ByteArray × Int)) × (List Node) × (List Int))) [1, 7, 10] [1004] (fun i t => (0, .ptr 0 0 0) :: (11, .slc 1005 0 i.2.2.2.2.2.length) :: t) (fun i t => (0, ⟨92, 5, [.agg [.d (.int .i64 i.1), .d (.imm 2 (lenc Rule.pd i.2.1)), .mp 1, .mp 2, .slc 1003 0 i.2.2.2.2.1.length]]⟩) :: (1, ⟨89, 0, mels Arr3_Int.pd (PD.int .i64) i.2.2.1⟩) :: (2, ⟨90, 0, mels PD.str (PD.int .i64) i.2.2.2.1⟩) :: (1003, ⟨37, 3, dl (lenc Node.pd i.2.2.2.2.1)⟩) :: (1005, ⟨3, 1, dl (lenc (PD.int .i64) i.2.2.2.2.2)⟩) :: t) h ?_ ?_
    ·intro _ hj_8
     refine sg fun K k => ?_
     iterate 3 refine oo ?_
     refine AOps.nil (k _ ?_)
     refine AWp.block ?_
     obtain ⟨x_13, hl_10, h2_11⟩ := bind_some hj_8
     refine lp (S := (Int × Int × Int × (List Rule) × (List (Arr3_Int × Int)) × (List (ByteArray × Int)) × (List Node) × (List Int))) [1, 2, 7, 10, 49, 50] [1004] (fun i t => (0, .ptr 0 0 0) :: (11, .slc 1005 0 i.2.2.2.2.2.2.2.length) :: (12, .d (.int .i64 i.1)) :: (51, .d (.int .i64 i.2.1)) :: t) (fun i t => (0, ⟨92, 5, [.agg [.d (.int .i64 i.2.2.1), .d (.imm 2 (lenc Rule.pd i.2.2.2.1)), .mp 1, .mp 2, .slc 1003 0 i.2.2.2.2.2.2.1.length]]⟩) :: (1, ⟨89, 0, mels Arr3_Int.pd (PD.int .i64) i.2.2.2.2.1⟩) :: (2, ⟨90, 0, mels PD.str (PD.int .i64) i.2.2.2.2.2.1⟩) :: (1003, ⟨37, 3, dl (lenc Node.pd i.2.2.2.2.2.2.1)⟩) :: (1005, ⟨3, 1, dl (lenc (PD.int .i64) i.2.2.2.2.2.2.2)⟩) :: t) hl_10 ?_ ?_; exact sb; clear hl_10
     rintro ⟨from1, v1, c3, c4, M3, M4, L3, L4⟩ _ hb_12; unfold m_tariff_builder_at_h_l1 at hb_12; try dsimp only at hb_12
     try dsimp only
     refine sg fun K k => ?_
     refine oo ?_
     refine AOps.nil (k _ ?_)
     refine AWp.seq fun _ K_15 => ?_
     refine cd hb_12 (fun hb_12 => ?_) (fun hb_12 => ?_)
     ·refine AWp.skip ?_
      refine K_15 _ ?_
      refine AWp.seq fun _ K_17 => ?_
      refine AWp.block ?_
      refine sg fun K k => ?_
      obtain ⟨e1, ⟨f_18, f_19, f_20, f_21⟩, hb_12⟩ := idx_bind hb_12
      refine oo ?_
      refine oo ?_ (by intro K k; simp (disch := omega) only [go_sem, f_20, ↓reduceIte]; exact k)
      refine oo ?_
      refine AOps.nil (k _ ?_)
      refine sg fun K k => ?_
      iterate 11 refine oo ?_
      obtain ⟨r3, hx_22, hb_12⟩ := bind_some hb_12
      refine cl (m_tariff_fits_ok c4 mark1 from1 _ hx_22) ?_
      refine oo ?_
      obtain ⟨r4, hx_23, hb_12⟩ := bind_some hb_12
      refine clU [(0, 0), (1, 1), (2, 2), (1003, 1003)] [1003] (ih (⟨c3, c4, M3, M4, L3⟩ : Builder) (IntKind.i64.wrap (mark1 + 1)) (IntKind.u32.wrap ↑(BitVec.ofInt IntKind.u32.bits a1 &&& BitVec.ofInt IntKind.u32.bits r3).toNat) _ hx_23) ?_
      refine ol ?_
      obtain ⟨hg_24, hb_12⟩ := guardO_some hb_12
      iterate 2 refine oo ?_
      refine AOps.nil (k _ ?_)
      refine AWp.reg ?_
      iterate 2 refine oo ?_
      refine AOps.nil ?_
      refine K_17 _ ?_
      refine AWp.reg ?_
      iterate 2 refine oo ?_
      refine AOps.nil ?_
      exact ln hb_12 sb
     ·refine AWp.exit ?_
      refine lx hb_12 fun hx => ?_; cases hx; try dsimp only at h2_11
      cases h2_11; exact sb
    ·rintro ⟨c1, c2, M1, M2, L1, L2⟩ h; dsimp only at h ⊢
     refine sg fun K k => ?_
     iterate 2 refine oo ?_
     refine AOps.sub (τ := ⟨[(0, .ptr 0 0 0), (1, .d (.int .i64 mark1)), (7, .ptr 1004 0 0), (74, .d (.imm 1 (lenc (PD.int .i64) r2))), (75, .d (.imm 1 (lenc (PD.int .i64) L2)))], [(0, ⟨92, 5, [.agg [.d (.int .i64 c1), .d (.imm 2 (lenc Rule.pd c2)), .mp 1, .mp 2, .slc 1003 0 L1.length]]⟩), (1, ⟨89, 0, mels Arr3_Int.pd (PD.int .i64) M1⟩), (2, ⟨90, 0, mels PD.str (PD.int .i64) M2⟩), (1003, ⟨37, 3, dl (lenc Node.pd L1)⟩), (1004, ⟨121, 3, [.d (.agg [(.int .i64 mark1), (.int .i64 (IntKind.i64.wrap a1)), (.int .i64 0)])]⟩)], [], none⟩) sc ?_
     obtain ⟨r5, hx_25, h⟩ := bind_some h
     refine cl (m_tariff_merged_ok r2 L2 _ hx_25) ?_
     iterate 5 refine oo ?_
     refine AOps.nil (k _ ?_)
     refine sg fun K k => ?_
     obtain ⟨e2, ⟨f_26, f_27, f_28, f_29⟩, h⟩ := idx_bind h
     try simp only [Int.reduceToNat] at f_28 f_29
     iterate 2 refine oo ?_
     refine oo ?_ (by intro K k; simp (disch := omega) only [go_sem, f_28, ↓reduceIte]; exact k)
     refine oo ?_
     refine AOps.nil (k _ ?_)
     refine jn (α := (Int × Int × (List Rule) × (List (Arr3_Int × Int)) × (List (ByteArray × Int)) × (List Node))) [7] [1004] (fun i t => (0, .ptr 0 0 0) :: (17, .d (.int .i64 i.1)) :: t) (fun i t => (0, ⟨92, 5, [.agg [.d (.int .i64 i.2.1), .d (.imm 2 (lenc Rule.pd i.2.2.1)), .mp 1, .mp 2, .slc 1003 0 i.2.2.2.2.2.length]]⟩) :: (1, ⟨89, 0, mels Arr3_Int.pd (PD.int .i64) i.2.2.2.1⟩) :: (2, ⟨90, 0, mels PD.str (PD.int .i64) i.2.2.2.2.1⟩) :: (1003, ⟨37, 3, dl (lenc Node.pd i.2.2.2.2.2)⟩) :: t) h ?_ ?_
     ·intro _ hj_31
      refine sg fun K k => ?_
      iterate 3 refine oo ?_
      refine AOps.nil (k _ ?_)
      refine cd hj_31 (fun hj_31 => ?_) (fun hj_31 => ?_)
      ·refine AWp.reg ?_
       iterate 5 refine oo ?_
       refine AOps.sub (τ := ⟨[(0, .ptr 0 0 0), (7, .ptr 1004 0 0), (85, .ptr 0 0 0), (89, .d (.agg [(.int .i64 mark1), (.imm 1 (lenc (PD.int .i64) r5.1)), (.imm 1 (lenc (PD.int .i64) r5.2))]))], [(0, ⟨92, 5, [.agg [.d (.int .i64 c1), .d (.imm 2 (lenc Rule.pd c2)), .mp 1, .mp 2, .slc 1003 0 L1.length]]⟩), (1, ⟨89, 0, mels Arr3_Int.pd (PD.int .i64) M1⟩), (2, ⟨90, 0, mels PD.str (PD.int .i64) M2⟩), (1003, ⟨37, 3, dl (lenc Node.pd L1)⟩), (1004, ⟨121, 3, [.d (.agg [(.int .i64 mark1), (.int .i64 (IntKind.i64.wrap a1)), (.int .i64 0)])]⟩)], [], none⟩) sb ?_
       obtain ⟨r6, hx_33, hj_31⟩ := bind_some hj_31
       refine clU [(0, 0), (1, 1), (2, 2), (1003, 1003)] [1003] (m_tariff_builder_node_h_ok (⟨c1, c2, M1, M2, L1⟩ : Builder) (⟨mark1, r5.1, r5.2⟩ : Node) _ hx_33) ?_
       refine oo ?_
       refine AOps.nil ?_
       cases hj_31; exact sb
      ·refine AWp.skip ?_
       cases hj_31; exact sb
     ·rintro ⟨n1, c5, c6, M5, M6, L5⟩ h; dsimp only at h ⊢
      refine sd mo fun K k => ?_
      iterate 6 refine dd ?_
      refine DOps.stop (by kernel_rfl) ?_
      refine oms (k := (⟨mark1, (IntKind.i64.wrap a1), 0⟩ : Arr3_Int)) (L := M5) (v := n1) (encV := (PD.int .i64)) KE121 MU89 ?_
      refine AOps.nil (k _ ?_)
      refine sg fun K k => ?_
      iterate 2 refine oo ?_
      refine AOps.nil (k _ ?_)
      refine AWp.ret ?_
      cases h; exact rtO
end Go.Pv.Tryd

namespace Go.Pv.Tryd
open Go.Proofs Go.Pv
theorem m_tariff_builder_ordered_1_h_ok (n : Nat) : ∀ (m1 : (List (Int × Int))) (l1 : (List Node)) (o1 : Builder) (n1 : Int) (r : (Int × (List (Int × Int)) × (List Node))) (h : m_tariff_builder_ordered_1_h n m1 l1 o1 n1 = some r), ObjFn Tryd.prog G 91 [.d (.int .i64 n1), .ptr 0 0 0, .ptr 1 0 0, .ptr 2 0 0, .ptr 3 0 0] (dynH 0 (subs Node.sub l1) ([(0, ⟨133, 1, [.mp 4]⟩), (1, ⟨32, 1, [.slc 1005 0 l1.length]⟩), (2, ⟨88, 1, [.ptr 6 0 0]⟩), (3, ⟨124, 1, [.func (.func 91) [.ptr 0 0 0, .ptr 1 0 0, .ptr 2 0 0, .ptr 3 0 0]]⟩), (4, ⟨133, 0, mels (PD.int .i64) (PD.int .i64) m1⟩), (1005, ⟨37, 3, nelF 0 Node.npv l1⟩), (6, ⟨92, 5, [.agg [.d (.int .i64 o1.k), .d (.imm 2 (lenc Rule.pd o1.rules)), .mp 7, .mp 8, .slc 1009 0 o1.nodes.length]]⟩), (7, ⟨89, 0, mels Arr3_Int.pd (PD.int .i64) o1.known⟩), (8, ⟨90, 0, mels PD.str (PD.int .i64) o1.same⟩), (1009, ⟨37, 3, dl (lenc Node.pd o1.nodes)⟩)])) (.d (.int .i64 r.1)) (dynH 0 (subs Node.sub r.2.2) ([(0, ⟨133, 1, [.mp 4]⟩), (1, ⟨32, 1, [.slc 1005 0 r.2.2.length]⟩), (2, ⟨88, 1, [.ptr 6 0 0]⟩), (3, ⟨124, 1, [.func (.func 91) [.ptr 0 0 0, .ptr 1 0 0, .ptr 2 0 0, .ptr 3 0 0]]⟩), (4, ⟨133, 0, mels (PD.int .i64) (PD.int .i64) r.2.1⟩), (1005, ⟨37, 3, nelF 0 Node.npv r.2.2⟩), (6, ⟨92, 5, [.agg [.d (.int .i64 o1.k), .d (.imm 2 (lenc Rule.pd o1.rules)), .mp 7, .mp 8, .slc 1009 0 o1.nodes.length]]⟩), (7, ⟨89, 0, mels Arr3_Int.pd (PD.int .i64) o1.known⟩), (8, ⟨90, 0, mels PD.str (PD.int .i64) o1.same⟩), (1009, ⟨37, 3, dl (lenc Node.pd o1.nodes)⟩)])) := by
 induction n with
 | zero => intro m1 l1 o1 n1 r h; cases h
 | succ n ih =>
  intro m1 l1 o1 n1 r h
  replace h : m_tariff_builder_ordered_1_h_b (m_tariff_builder_ordered_1_h n) m1 l1 o1 n1 = some r := h
  unfold m_tariff_builder_ordered_1_h_b at h
  refine ObjFn.pf Tryd.func91 Tryd.ntmps91 ?_
  refine sg fun K k => ?_
  refine oo ?_
  refine AOps.nil (k _ ?_)
  refine AWp.seq fun _ K_1 => ?_
  refine sg fun K k => ?_
  iterate 2 refine oo ?_
  refine AOps.nil (k _ ?_)
  refine cd h (fun h => ?_) (fun h => ?_)
  ·refine sg fun K k => ?_
   iterate 2 refine oo ?_
   refine AOps.nil (k _ ?_)
   refine AWp.ret ?_
   cases h; exact rtO
  ·refine AWp.skip ?_
   refine K_1 _ ?_
   refine AWp.seq fun _ K_3 => ?_
   refine sg fun K k => ?_
   iterate 2 refine oo ?_
   refine oml (k := n1) (L := m1) (v0 := 0) (encV := (PD.int .i64)) KE3 MU133 ty3 MZ3 (fun _ _ => .int _ _) ?_
   iterate 5 refine oo ?_
   refine AOps.nil (k _ ?_)
   refine sg fun K k => ?_
   refine oo ?_
   refine AOps.nil (k _ ?_)
   refine cd h (fun h => ?_) (fun h => ?_)
   ·refine sg fun K k => ?_
    iterate 2 refine oo ?_
    refine AOps.nil (k _ ?_)
    refine AWp.ret ?_
    cases h; exact rtO
   ·refine AWp.skip ?_
    refine K_3 _ ?_
    refine sg fun K k => ?_
    iterate 3 refine oo ?_
    refine AOps.nil (k _ ?_)
    refine sg fun K k => ?_
    iterate 3 refine oo ?_
    refine oms (k := n1) (L := m1) (v := (l1.length : Int)) (encV := (PD.int .i64)) KE3 MU133 ?_
    refine AOps.nil (k _ ?_)
    refine AWp.sub (τ := ⟨[(0, .d (.int .i64 n1)), (1, .ptr 0 0 0), (2, .ptr 1 0 0), (3, .ptr 2 0 0), (4, .ptr 3 0 0), (6, .d (.int .i64 0)), (7, .d (.int .i64 ((mget n1 m1).getD 0))), (8, .d (.bool ((mget n1 m1).isSome))), (9, .d (.int .i64 (l1.length : Int))), (13, .d (.int .i64 n1)), (14, .d (.bool (decide (n1 < 0)))), (16, .tuple [.d (.int .i64 ((mget n1 m1).getD 0)), .d (.bool ((mget n1 m1).isSome))]), (17, .mp 4), (18, .d (.int .i64 n1)), (19, .tuple [.d (.int .i64 ((mget n1 m1).getD 0)), .d (.bool ((mget n1 m1).isSome))]), (20, .d (.int .i64 ((mget n1 m1).getD 0))), (21, .d (.bool ((mget n1 m1).isSome))), (22, .d (.bool ((mget n1 m1).isSome))), (25, .d (.int .i64 (l1.length : Int))), (26, .mp 4), (27, .d (.int .i64 n1)), (28, .d (.int .i64 (l1.length : Int)))], (dynH 0 (subs Node.sub l1) ([(0, ⟨133, 1, [.mp 4]⟩), (1, ⟨32, 1, [.slc 1005 0 l1.length]⟩), (2, ⟨88, 1, [.ptr 6 0 0]⟩), (3, ⟨124, 1, [.func (.func 91) [.ptr 0 0 0, .ptr 1 0 0, .ptr 2 0 0, .ptr 3 0 0]]⟩), (4, ⟨133, 0, mels (PD.int .i64) (PD.int .i64) (mset n1 (l1.length : Int) m1)⟩), (1005, ⟨37, 3, nelF 0 Node.npv l1⟩), (6, ⟨92, 5, [.agg [.d (.int .i64 o1.k), .d (.imm 2 (lenc Rule.pd o1.rules)), .mp 7, .mp 8, .slc 1009 0 o1.nodes.length]]⟩), (7, ⟨89, 0, mels Arr3_Int.pd (PD.int .i64) o1.known⟩), (8, ⟨90, 0, mels PD.str (PD.int .i64) o1.same⟩), (1009, ⟨37, 3, dl (lenc Node.pd o1.nodes)⟩)])), [], none⟩) sb ?_
    refine sdX mo [(1005, [29, 49, 1000001])] fun K k => ?_
    obtain ⟨e1, ⟨f_5, f_6, f_7, f_8⟩, h⟩ := idx_bind h
    iterate 8 (refine dd ?_ (by intro K k; simp (disch := omega) only [go_sem, true_or, or_true, and_self, true_and, and_true, ↓reduceIte]; exact k))
    refine dd ?_ (by intro K k; simp (disch := omega) only [go_sem, f_7, true_or, or_true, and_self, true_and, and_true, ↓reduceIte]; exact k)
    iterate 7 (refine dd ?_ (by intro K k; simp (disch := omega) only [go_sem, true_or, or_true, and_self, true_and, and_true, ↓reduceIte]; exact k))
    refine dd ?_ (by intro K k; simp (disch := omega) only [go_sem, f_7, true_or, or_true, and_self, true_and, and_true, ↓reduceIte]; exact k)
    obtain ⟨r1, hx_9, h⟩ := bind_some h
    refine dcl (RowFn.pure (clone_92 e1.Cuts _ hx_9)) ?_
    refine dd ?_ (by intro K k; simp (disch := omega) only [go_sem, true_or, or_true, and_self, true_and, and_true, ↓reduceIte]; exact k)
    refine ddl ?_ (by intro K k; simp (disch := omega) only [go_sem, true_or, or_true, and_self, true_and, and_true, ↓reduceIte]; exact k)
    obtain ⟨hg_10, h⟩ := guardO_some h
    refine dapH [29, 49, 1000001] [(1, ⟨32, 1, [.slc 1005 0 l1.length]⟩)] [.d (.agg [(.int .i64 e1.Mark), (.imm 1 (lenc (PD.int .i64) r1)), .nilslice])] se32 ?_
    refine dd ?_ (by intro K k; simp (disch := omega) only [go_sem, true_or, or_true, and_self, true_and, and_true, ↓reduceIte]; exact k)
    refine DOps.nil (by kernel_rfl) (k _ ?_)
    refine AWp.sub (psh 0 1005 2 (⟨e1.Mark, r1, []⟩ : Node)) ?_
    refine jn (α := ((List (Int × Int)) × (List Node))) [9] [2, 3, 6, 7, 8, 1009] (fun i t => t) (fun i t => dynH 0 (subs Node.sub i.2) ((0, ⟨133, 1, [.mp 4]⟩) :: (1, ⟨32, 1, [.slc 1005 0 i.2.length]⟩) :: (4, ⟨133, 0, mels (PD.int .i64) (PD.int .i64) i.1⟩) :: (1005, ⟨37, 3, nelF 0 Node.npv i.2⟩) :: t)) h ?_ ?_
    ·intro _ hj_12
     refine sg fun K k => ?_
     obtain ⟨e2, ⟨f_13, f_14, f_15, f_16⟩, hj_12⟩ := idx_bind hj_12
     iterate 7 refine oo ?_
     refine oo ?_ (by intro K k; simp (disch := omega) only [go_sem, f_15, ↓reduceIte]; exact k)
     iterate 2 refine oo ?_
     refine AOps.nil (k _ ?_)
     refine AWp.block ?_
     obtain ⟨x_21, hl_18, h2_19⟩ := bind_some hj_12
     refine lp (S := (Int × (List (Int × Int)) × (List Node))) [2, 4, 9, 57, 58] [2, 3, 6, 7, 8, 1009] (fun i t => (59, .d (.int .i64 i.1)) :: t) (fun i t => dynH 0 (subs Node.sub i.2.2) ((0, ⟨133, 1, [.mp 4]⟩) :: (1, ⟨32, 1, [.slc 1005 0 i.2.2.length]⟩) :: (4, ⟨133, 0, mels (PD.int .i64) (PD.int .i64) i.2.1⟩) :: (1005, ⟨37, 3, nelF 0 Node.npv i.2.2⟩) :: t)) hl_18 ?_ ?_; exact sb; clear hl_18
     rintro ⟨v1, M2, L2⟩ _ hb_20; unfold m_tariff_builder_ordered_1_h_l1 at hb_20; try dsimp only at hb_20
     try dsimp only
     refine sg fun K k => ?_
     refine oo ?_
     refine AOps.nil (k _ ?_)
     refine AWp.seq fun _ K_23 => ?_
     refine cd hb_20 (fun hb_20 => ?_) (fun hb_20 => ?_)
     ·refine AWp.skip ?_
      refine K_23 _ ?_
      refine AWp.seq fun _ K_25 => ?_
      refine AWp.block ?_
      refine sg fun K k => ?_
      obtain ⟨e3, ⟨f_26, f_27, f_28, f_29⟩, hb_20⟩ := idx_bind hb_20
      refine oo ?_
      refine oo ?_ (by intro K k; simp (disch := omega) only [go_sem, f_28, ↓reduceIte]; exact k)
      refine oo ?_
      refine AOps.nil (k _ ?_)
      refine sg fun K k => ?_
      iterate 2 refine oo ?_
      obtain ⟨r2, hx_30, hb_20⟩ := bind_some hb_20
      refine clD [(0, 0), (1, 1), (2, 2), (3, 3), (4, 4), (1005, 1005), (6, 6), (7, 7), (8, 8), (1009, 1009)] [1005, 1009] (ih M2 L2 o1 e3 _ hx_30) ?_
      refine oo ?_
      refine AOps.nil (k _ ?_)
      obtain ⟨e4, ⟨f_31, f_32, f_33, f_34⟩, hb_20⟩ := idx_bind hb_20
      try simp only [Int.toNat_natCast] at f_33 f_34
      have hF_35 := fun p => nelF_hole (c := 0) (i := ((l1.length : Int)).toNat) (F := Node.npv) f_33 p
      have hf_36 := nelF_focus (c := 0) (i := ((l1.length : Int)).toNat) (q := 1010) (F := Node.npv) f_33
      refine AWp.sub (fcs 0 (((l1.length : Int)).toNat) 1010 (⟨3, 1, dl (lenc (PD.int .i64) e4.To)⟩ : Row) (F := Node.npv) (g := Node.sub) f_33 (hl := by (simp only [renHeap, Row.ren, renL, PV.ren, dl_ren, mels_ren, optP_ren, foc_low, Nat.reduceLT, hf_36]; rfl))) ?_
      refine drX mo [(1010, [72, 75, 1001005])] ?_
      iterate 6 (refine dd ?_ (by intro K k; simp (disch := omega) only [go_sem, true_or, or_true, and_self, true_and, and_true, ↓reduceIte]; exact k))
      refine dd ?_ (by intro K k; simp (disch := omega) only [go_sem, hF_35, List.set_set, true_or, or_true, and_self, true_and, and_true, ↓reduceIte]; exact k)
      refine dd ?_ (by intro K k; simp (disch := omega) only [go_sem, true_or, or_true, and_self, true_and, and_true, ↓reduceIte]; exact k)
      refine ddl ?_ (by intro K k; simp (disch := omega) only [go_sem, true_or, or_true, and_self, true_and, and_true, ↓reduceIte]; exact k)
      obtain ⟨hg_37, hb_20⟩ := guardO_some hb_20
      refine dapH [72, 75, 1001005] [(1005, ⟨37, 3, (nelF 0 Node.npv r2.2.2).set (((l1.length : Int)).toNat) (.agg [.d (.int .i64 e4.Mark), .d (.imm 1 (lenc (PD.int .i64) e4.Cuts)), .slc 1010 0 e4.To.length])⟩)] (dl (lenc (PD.int .i64) [r2.1])) se26 ?_
      iterate 2 (refine dd ?_ (by intro K k; simp (disch := omega) only [go_sem, true_or, or_true, and_self, true_and, and_true, ↓reduceIte]; exact k))
      refine dd ?_ (by intro K k; simp (disch := omega) only [go_sem, hF_35, List.set_set, true_or, or_true, and_self, true_and, and_true, ↓reduceIte]; exact k)
      refine DOps.nil (by kernel_rfl) ?_
      refine K_25 _ ?_
      refine AWp.sub (drp [(2, .ptr 1 0 0), (4, .ptr 3 0 0), (9, .d (.int .i64 (l1.length : Int))), (11, .d (.int .i64 e3)), (12, .d (.int .i64 r2.1)), (57, .d (.imm 1 (lenc (PD.int .i64) e2.To))), (58, .d (.int .i64 (e2.To.length : Int))), (59, .d (.int .i64 v1)), (60, .d (.bool (decide (v1 < (e2.To.length : Int))))), (61, .dptr 1 (lenc (PD.int .i64) e2.To) ((v1).toNat) 0), (62, .d (.int .i64 e3)), (63, .func (.func 91) [.ptr 0 0 0, .ptr 1 0 0, .ptr 2 0 0, .ptr 3 0 0]), (64, .d (.int .i64 e3)), (65, .d (.int .i64 r2.1)), (66, .slc 1005 0 ((r2.2.2.set (((l1.length : Int)).toNat) (⟨e4.Mark, e4.Cuts, (e4.To ++ [r2.1])⟩ : Node)).length)), (67, .d (.int .i64 (l1.length : Int))), (68, .slc 1005 0 ((r2.2.2.set (((l1.length : Int)).toNat) (⟨e4.Mark, e4.Cuts, (e4.To ++ [r2.1])⟩ : Node)).length)), (69, .d (.int .i64 (l1.length : Int))), (70, .ptr 1005 (((l1.length : Int)).toNat) 0), (71, .ptr 1005 (((l1.length : Int)).toNat) 2), (73, .d (.int .i64 r2.1)), (74, .d (.imm 1 (lenc (PD.int .i64) [r2.1]))), (76, .ptr 1005 (((l1.length : Int)).toNat) 0), (77, .ptr 1005 (((l1.length : Int)).toNat) 2)]) ?_
      refine AWp.sub (ufc (F := Node.npv) (g := Node.sub) 0 (((l1.length : Int)).toNat) 1010 (⟨e4.Mark, e4.Cuts, (e4.To ++ [r2.1])⟩ : Node) [(0, ⟨133, 1, [.mp 4]⟩), (1, ⟨32, 1, [.slc 1005 0 ((r2.2.2.set (((l1.length : Int)).toNat) (⟨e4.Mark, e4.Cuts, (e4.To ++ [r2.1])⟩ : Node)).length)]⟩), (2, ⟨88, 1, [.ptr 6 0 0]⟩), (3, ⟨124, 1, [.func (.func 91) [.ptr 0 0 0, .ptr 1 0 0, .ptr 2 0 0, .ptr 3 0 0]]⟩), (4, ⟨133, 0, mels (PD.int .i64) (PD.int .i64) r2.2.1⟩), (6, ⟨92, 5, [.agg [.d (.int .i64 o1.k), .d (.imm 2 (lenc Rule.pd o1.rules)), .mp 7, .mp 8, .slc 1009 0 o1.nodes.length]]⟩), (7, ⟨89, 0, mels Arr3_Int.pd (PD.int .i64) o1.known⟩), (8, ⟨90, 0, mels PD.str (PD.int .i64) o1.same⟩), (1005, ⟨37, 3, nelF 0 Node.npv (r2.2.2.set (((l1.length : Int)).toNat) (⟨e4.Mark, e4.Cuts, (e4.To ++ [r2.1])⟩ : Node))⟩), (1009, ⟨37, 3, dl (lenc Node.pd o1.nodes)⟩)] f_34 (hl := by (repeat' (first | exact trivial | exact rfl | exact dl_ren _ _ | exact mels_ren _ _ _ _ | exact nelF_unfocus (by decide) f_34 | exact nelF_unfocus' (by decide) f_34 (by (simp only [go_sem, List.length_append, List.length_set, List.length_replicate, List.length_cons, List.length_nil, Nat.zero_add]; done)) | (simp only [renL, PV.ren, List.length_append, List.length_set, List.length_replicate, List.length_cons, List.length_nil, Nat.zero_add]; exact rfl) | apply And.intro)))) ?_
      refine AWp.reg ?_
      iterate 2 refine oo ?_
      refine AOps.nil ?_
      exact ln hb_20 sb
     ·refine AWp.exit ?_
      refine lx hb_20 fun hx => ?_; cases hx; try dsimp only at h2_19
      cases h2_19; exact sb
    ·rintro ⟨M1, L1⟩ h; dsimp only at h ⊢
     refine sg fun K k => ?_
     iterate 2 refine oo ?_
     refine AOps.nil (k _ ?_)
     refine AWp.ret ?_
     cases h; exact rtO
end Go.Pv.Tryd

namespace Go.Pv.Tryd
open Go.Proofs Go.Pv
theorem m_tariff_builder_ordered_h_ok (o1 : Builder) (top1 : Int) (r : ((List Node) × Builder)) (h : m_tariff_builder_ordered_h o1 top1 = some r) : ObjFn Tryd.prog G 59 [.ptr 0 0 0, .d (.int .i64 top1)] [(0, ⟨92, 5, [.agg [.d (.int .i64 o1.k), .d (.imm 2 (lenc Rule.pd o1.rules)), .mp 1, .mp 2, .slc 1003 0 o1.nodes.length]]⟩), (1, ⟨89, 0, mels Arr3_Int.pd (PD.int .i64) o1.known⟩), (2, ⟨90, 0, mels PD.str (PD.int .i64) o1.same⟩), (1003, ⟨37, 3, dl (lenc Node.pd o1.nodes)⟩)] (.d (.imm 3 (lenc Node.pd r.1))) [(0, ⟨92, 5, [.agg [.d (.int .i64 r.2.k), .d (.imm 2 (lenc Rule.pd r.2.rules)), .mp 1, .mp 2, .slc 1003 0 r.2.nodes.length]]⟩), (1, ⟨89, 0, mels Arr3_Int.pd (PD.int .i64) r.2.known⟩), (2, ⟨90, 0, mels PD.str (PD.int .i64) r.2.same⟩), (1003, ⟨37, 3, dl (lenc Node.pd r.2.nodes)⟩)] := by
 unfold m_tariff_builder_ordered_h at h
 refine ObjFn.pf Tryd.func59 Tryd.ntmps59 ?_
 refine sg fun K k => ?_
 iterate 2 refine oo ?_
 refine AOps.nil (k _ ?_)
 refine sg fun K k => ?_
 refine oo ?_
 refine AOps.sub (Sub.voidVar 1005 37 3 1006 rfl (by decide) rfl rfl (by decide) (by decide)) ?_
 simp only [hput, reduceCtorEq, ↓reduceIte, Nat.reduceAdd, Nat.reduceMul, Nat.reduceLT, Nat.reduceLeDiff, Nat.reduceEqDiff, Nat.reduceBEq, Int.reduceToNat]
 refine AOps.sub (nest0 0 Node.sub) ?_
 refine AOps.nil (k _ ?_)
 refine sg fun K k => ?_
 refine omk (α := Int) (β := Int) (PD.int .i64) (PD.int .i64) 1007 ?_
 iterate 2 refine oo ?_
 refine AOps.nil (k _ ?_)
 refine sg fun K k => ?_
 refine oo ?_
 refine AOps.nil (k _ ?_)
 refine sg fun K k => ?_
 iterate 2 refine oo ?_
 refine AOps.nil (k _ ?_)
 refine sg fun K k => ?_
 iterate 2 refine oo ?_
 obtain ⟨r1, hx_1, h⟩ := bind_some h
 refine clD [(0, 1008), (1, 1005), (2, 1004), (3, 1009), (4, 1007), (1005, 1006), (6, 0), (7, 1), (8, 2), (1009, 1003)] [1006, 1003] (m_tariff_builder_ordered_1_h_ok 100 [] [] o1 top1 _ hx_1) ?_
 refine AOps.nil (k _ ?_)
 refine sg fun K k => ?_
 iterate 2 refine oo ?_
 refine AOps.nil (k _ ?_)
 refine AWp.sub (unn 0 1006 Node.pd) ?_
 refine AWp.sub (τ := ⟨[(4, .d (.imm 3 (lenc Node.pd r1.2.2)))], [(0, ⟨92, 5, [.agg [.d (.int .i64 o1.k), .d (.imm 2 (lenc Rule.pd o1.rules)), .mp 1, .mp 2, .slc 1003 0 o1.nodes.length]]⟩), (1, ⟨89, 0, mels Arr3_Int.pd (PD.int .i64) o1.known⟩), (2, ⟨90, 0, mels PD.str (PD.int .i64) o1.same⟩), (1003, ⟨37, 3, dl (lenc Node.pd o1.nodes)⟩)], [], none⟩) sc ?_
 refine AWp.ret ?_
 cases h; exact rtO
end Go.Pv.Tryd

namespace Go.Pv.Tryd
open Go.Proofs Go.Pv
theorem m_tariff_Diagram_ok (k1 : Int) (t1 : (List Rule)) (r : ((List Node) × Int)) (h : m_tariff_Diagram k1 t1 = some r) : PureFn Tryd.prog G 26 [.d (.int .i64 k1), .d (.imm 2 (lenc Rule.pd t1))] (.tuple [.d (.imm 3 (lenc Node.pd r.1)), .d (.int .i64 r.2)]) := by
 unfold m_tariff_Diagram at h
 refine pf Tryd.func26 Tryd.ntmps26 ?_
 refine sg fun K k => ?_
 iterate 2 refine oo ?_
 refine AOps.nil (k _ ?_)
 refine AWp.seq fun _ K_1 => ?_
 refine sg fun K k => ?_
 iterate 2 refine oo ?_
 refine ol ?_
 obtain ⟨r1, hx_2, h⟩ := bind_some h
 refine cl (m_tariff_checked_ok k1 [t1] _ hx_2) ?_
 refine oo ?_
 refine AOps.nil (k _ ?_)
 refine sg fun K k => ?_
 iterate 2 refine oo ?_
 refine AOps.nil (k _ ?_)
 refine cd h (fun h => ?_) (fun h => ?_)
 ·refine sg fun K k => ?_
  iterate 3 refine oo ?_
  refine AOps.nil (k _ ?_)
  refine AWp.ret ?_
  cases h; exact rt
 ·refine AWp.skip ?_
  refine K_1 _ ?_
  refine sg fun K k => ?_
  iterate 2 refine oo ?_
  refine omk (α := Arr3_Int) (β := Int) Arr3_Int.pd (PD.int .i64) 1000 ?_
  refine omk (α := ByteArray) (β := Int) PD.str (PD.int .i64) 1001 ?_
  iterate 3 refine oo ?_
  refine AOps.sub (Sub.voidCell 1002 4 37 3 1003 (x := ⟨92, 5, [.agg [.d (.int .i64 k1), .d (.imm 2 (lenc Rule.pd t1)), .mp 1000, .mp 1001, .d .nilslice]]⟩) (p := .agg [.d (.int .i64 k1), .d (.imm 2 (lenc Rule.pd t1)), .mp 1000, .mp 1001, .d .nilslice]) (cs := [.d (.int .i64 k1), .d (.imm 2 (lenc Rule.pd t1)), .mp 1000, .mp 1001, .d .nilslice]) rfl (Nat.le_of_ble_eq_true rfl) rfl rfl rfl rfl rfl (by decide) (by decide)) ?_
  simp only [hput, List.set_cons_succ, List.set_cons_zero, reduceCtorEq, ↓reduceIte, Nat.reduceAdd, Nat.reduceMul, Nat.reduceLT, Nat.reduceLeDiff, Nat.reduceEqDiff, Nat.reduceBEq, Int.reduceToNat]
  refine AOps.nil (k _ ?_)
  refine sg fun K k => ?_
  iterate 2 refine oo ?_
  obtain ⟨r2, hx_4, h⟩ := bind_some h
  refine cl (m_tariff_all_ok t1 _ hx_4) ?_
  obtain ⟨r3, hx_5, h⟩ := bind_some h
  refine clU [(0, 1002), (1, 1000), (2, 1001), (1003, 1003)] [1003] (m_tariff_builder_at_h_ok 100 (⟨k1, t1, [], [], []⟩ : Builder) 0 r2 _ hx_5) ?_
  refine oo ?_
  refine AOps.nil (k _ ?_)
  refine AWp.seq fun _ K_6 => ?_
  refine sg fun K k => ?_
  iterate 2 refine oo ?_
  refine AOps.nil (k _ ?_)
  refine cd h (fun h => ?_) (fun h => ?_)
  ·refine sg fun K k => ?_
   refine ol ?_
   refine oo ?_
   refine ol ?_
   refine oo ?_
   refine ol ?_
   iterate 2 refine oo ?_
   refine AOps.nil (k _ ?_)
   refine AWp.ret ?_
   cases h; exact rt
  ·refine AWp.skip ?_
   refine K_6 _ ?_
   refine sg fun K k => ?_
   iterate 2 refine oo ?_
   obtain ⟨r4, hx_8, h⟩ := bind_some h
   refine clU [(0, 1002), (1, 1000), (2, 1001), (1003, 1003)] [1003] (m_tariff_builder_ordered_h_ok r3.2 r3.1 _ hx_8) ?_
   iterate 2 refine oo ?_
   refine AOps.nil (k _ ?_)
   refine AWp.ret ?_
   cases h; exact rt
end Go.Pv.Tryd

namespace Go.Pv.Tryd
open Go.Proofs Go.Pv
theorem m_cocketlaw02_same_ok (a1 : (List Int)) (b1 : (List Int)) (r : Bool) (h : m_cocketlaw02_same a1 b1 = some r) : PureFn Tryd.prog G 23 [.d (.imm 1 (lenc (PD.int .i64) a1)), .d (.imm 1 (lenc (PD.int .i64) b1))] (.d (.bool r)) := by
 unfold m_cocketlaw02_same at h
 refine pf Tryd.func23 Tryd.ntmps23 ?_
 refine sg fun K k => ?_
 refine oo ?_
 refine AOps.nil (k _ ?_)
 refine AWp.seq fun _ K_1 => ?_
 refine sg fun K k => ?_
 iterate 5 refine oo ?_
 refine AOps.nil (k _ ?_)
 refine cd h (fun h => ?_) (fun h => ?_)
 ·refine sg fun K k => ?_
  refine oo ?_
  refine AOps.nil (k _ ?_)
  refine AWp.ret ?_
  cases h; exact rt
 ·refine AWp.skip ?_
  refine K_1 _ ?_
  refine jm (ι := Unit) [] [] (fun i t => t) (fun i t => t) .inl h ?_ ?_
  ·intro _ hj_4 h
   refine sg fun K k => ?_
   refine oo ?_
   refine AOps.nil (k _ ?_)
   refine AWp.block ?_
   obtain ⟨x_9, hl_6, h2_7⟩ := bind_some hj_4
   refine lp (S := Int) [0, 1] [] (fun i t => (5, .d (.int .i64 i)) :: t) (fun i t => t) hl_6 ?_ ?_; exact sb; clear hl_6
   rintro i1 _ hb_8; unfold m_cocketlaw02_same_l1 at hb_8; try dsimp only at hb_8
   try dsimp only
   refine AWp.seq fun _ K_11 => ?_
   refine sg fun K k => ?_
   iterate 4 refine oo ?_
   refine AOps.nil (k _ ?_)
   refine cd hb_8 (fun hb_8 => ?_) (fun hb_8 => ?_)
   ·refine AWp.skip ?_
    refine K_11 _ ?_
    refine AWp.seq fun _ K_13 => ?_
    refine AWp.block ?_
    refine sd mo fun K k => ?_
    obtain ⟨e1, ⟨f_14, f_15, f_16, f_17⟩, hb_8⟩ := idx_bind hb_8
    iterate 3 refine dd ?_
    refine dd ?_ (by intro K k; simp (disch := omega) only [go_sem, f_16, ↓reduceIte]; exact k)
    obtain ⟨e2, ⟨f_18, f_19, f_20, f_21⟩, hb_8⟩ := idx_bind hb_8
    iterate 3 refine dd ?_
    refine dd ?_ (by intro K k; simp (disch := omega) only [go_sem, f_20, ↓reduceIte]; exact k)
    refine dd ?_
    refine DOps.nil (by kernel_rfl) (k _ ?_)
    refine cd hb_8 (fun hb_8 => ?_) (fun hb_8 => ?_)
    ·refine sg fun K k => ?_
     refine oo ?_
     refine AOps.nil (k _ ?_)
     refine AWp.ret ?_
     refine lx hb_8 fun hx => ?_; cases hx; try dsimp only at h2_7
     cases h2_7; try dsimp only at h
     cases h; exact rt
    ·refine AWp.skip ?_
     refine K_13 _ ?_
     refine AWp.reg ?_
     iterate 3 refine oo ?_
     refine AOps.nil ?_
     exact ln hb_8 sb
   ·refine AWp.exit ?_
    refine lx hb_8 fun hx => ?_; cases hx; try dsimp only at h2_7
    exact ln h2_7 sb
  ·rintro _ h; dsimp only at h ⊢
   refine sg fun K k => ?_
   refine oo ?_
   refine AOps.nil (k _ ?_)
   refine AWp.ret ?_
   cases h; exact rt
end Go.Pv.Tryd

namespace Go.Pv.Tryd
open Go.Proofs Go.Pv
set_option maxHeartbeats 4000000 in
theorem m_cocketlaw02_alive_ok (r : Bool) (h : m_cocketlaw02_alive = some r) : PureFn Tryd.prog G 19 [] (.d (.bool r)) := by
 unfold m_cocketlaw02_alive at h
 refine pf Tryd.func19 Tryd.ntmps19 ?_
 refine sg fun K k => ?_
 refine oo ?_
 refine AOps.nil (k _ ?_)
 refine sg fun K k => ?_
 obtain ⟨r1, hx_1, h⟩ := bind_some h
 refine cl (m_cocketlaw02_three_ok _ hx_1) ?_
 obtain ⟨r2, hx_2, h⟩ := bind_some h
 refine cl (m_tariff_Dead_ok 1 r1 _ hx_2) ?_
 iterate 5 refine oo ?_
 refine AOps.nil (k _ ?_)
 refine sg fun K k => ?_
 obtain ⟨r3, hx_3, h⟩ := bind_some h
 refine cl (m_cocketlaw02_three_ok _ hx_3) ?_
 obtain ⟨r4, hx_4, h⟩ := bind_some h
 refine cl (m_tariff_Gap_ok 1 r3 _ hx_4) ?_
 iterate 5 refine oo ?_
 refine AOps.nil (k _ ?_)
 refine sg fun K k => ?_
 obtain ⟨r5, hx_5, h⟩ := bind_some h
 refine cl (m_cocketlaw02_three_ok _ hx_5) ?_
 obtain ⟨r6, hx_6, h⟩ := bind_some h
 refine cl (m_tariff_Diagram_ok 1 r5 _ hx_6) ?_
 iterate 5 refine oo ?_
 refine AOps.nil (k _ ?_)
 refine sg fun K k => ?_
 iterate 3 refine oo ?_
 obtain ⟨b1, hc_7, h⟩ := bind_some h
 refine ct 4 [3, 4, 5, 6] [] (fun  t => (28, .d (.bool b1)) :: t) ?_ ?_
 ·rcases bt (decide (r2.2 = 0)) with hg_9 | hg_9
  ·rw [hg_9]
   rw [hg_9, cond_true] at hc_7
   refine oo ?_
   refine ol ?_
   obtain ⟨r7, hx_8, hc_7⟩ := bind_some hc_7
   refine cl (m_cocketlaw02_same_ok r2.1 [2] _ hx_8) ?_
   refine oo ?_
   refine AOps.nil ?_
   cases hc_7
   exact sb
  ·rw [hg_9]
   rw [hg_9, cond_false] at hc_7
   iterate 4 refine oo ?_
   refine AOps.nil ?_
   cases hc_7
   exact sb
 refine oo ?_
 refine ct 3 [3, 5, 6] [] (fun  t => (32, .d (.bool (b1 && (decide (r4.2 = 0))))) :: t) ?_ ?_
 ·rcases bt b1 with hg_11 | hg_11
  ·rw [hg_11]
   iterate 3 refine oo ?_
   refine AOps.nil ?_
   exact sb
  ·rw [hg_11]
   iterate 3 refine oo ?_
   refine AOps.nil ?_
   exact sb
 refine oo ?_
 obtain ⟨b2, hc_12, h⟩ := bind_some h
 refine ct 4 [5, 6] [] (fun  t => (37, .d (.bool b2)) :: t) ?_ ?_
 ·rcases bt (b1 && (decide (r4.2 = 0))) with hg_14 | hg_14
  ·rw [hg_14]
   rw [hg_14, cond_true] at hc_12
   refine oo ?_
   refine ol ?_
   obtain ⟨r8, hx_13, hc_12⟩ := bind_some hc_12
   refine cl (m_cocketlaw02_same_ok r4.1 [20] _ hx_13) ?_
   refine oo ?_
   refine AOps.nil ?_
   cases hc_12
   exact sb
  ·rw [hg_14]
   rw [hg_14, cond_false] at hc_12
   iterate 4 refine oo ?_
   refine AOps.nil ?_
   cases hc_12
   exact sb
 refine oo ?_
 refine ct 3 [5] [] (fun  t => (41, .d (.bool (b2 && (decide (r6.2 = 0))))) :: t) ?_ ?_
 ·rcases bt b2 with hg_16 | hg_16
  ·rw [hg_16]
   iterate 3 refine oo ?_
   refine AOps.nil ?_
   exact sb
  ·rw [hg_16]
   iterate 3 refine oo ?_
   refine AOps.nil ?_
   exact sb
 refine oo ?_
 refine ct 4 [5] [] (fun  t => (46, .d (.bool ((b2 && (decide (r6.2 = 0))) && (decide ((r6.1.length : Int) = 1))))) :: t) ?_ ?_
 ·rcases bt (b2 && (decide (r6.2 = 0))) with hg_18 | hg_18
  ·rw [hg_18]
   iterate 4 refine oo ?_
   refine AOps.nil ?_
   exact sb
  ·rw [hg_18]
   iterate 4 refine oo ?_
   refine AOps.nil ?_
   exact sb
 refine oo ?_
 obtain ⟨b3, hc_19, h⟩ := bind_some h
 refine ct 7 [] [] (fun  t => (54, .d (.bool b3)) :: t) ?_ ?_
 ·rcases bt ((b2 && (decide (r6.2 = 0))) && (decide ((r6.1.length : Int) = 1))) with hg_25 | hg_25
  ·rw [hg_25]
   rw [hg_25, cond_true] at hc_19
   obtain ⟨e1, ⟨f_20, f_21, f_22, f_23⟩, hc_19⟩ := idx_bind hc_19
   try simp only [Int.reduceToNat] at f_22 f_23
   iterate 3 refine oo ?_
   refine oo ?_ (by intro K k; simp (disch := omega) only [go_sem, f_22, ↓reduceIte]; exact k)
   refine ol ?_
   obtain ⟨r9, hx_24, hc_19⟩ := bind_some hc_19
   refine cl (m_cocketlaw02_same_ok e1.To [(-3), (-4), (-1)] _ hx_24) ?_
   refine oo ?_
   refine AOps.nil ?_
   cases hc_19
   exact sb
  ·rw [hg_25]
   rw [hg_25, cond_false] at hc_19
   iterate 7 refine oo ?_
   refine AOps.nil ?_
   cases hc_19
   exact sb
 refine oo ?_
 refine AOps.nil (k _ ?_)
 refine AWp.ret ?_
 cases h; exact rt
end Go.Pv.Tryd

namespace Go.Pv.Tryd
open Go.Proofs Go.Pv
set_option maxHeartbeats 4000000 in
theorem m_cocketlaw02_TariffLimit_ok (more1 : Bool) (value1 : Int) (r : Bool) (h : m_cocketlaw02_TariffLimit more1 value1 = some r) : PureFn Tryd.prog G 11 [.d (.bool more1), .d (.int .u16 value1)] (.d (.bool r)) := by
 unfold m_cocketlaw02_TariffLimit at h
 refine pf Tryd.func11 Tryd.ntmps11 ?_
 refine sg fun K k => ?_
 refine oo ?_
 refine AOps.nil (k _ ?_)
 refine sg fun K k => ?_
 refine oo ?_
 refine AOps.nil (k _ ?_)
 refine jn (α := Int) [0, 1] [] (fun i t => (5, .d (.int .i64 i)) :: t) (fun i t => t) h ?_ ?_
 ·intro _ hj_2
  refine sg fun K k => ?_
  refine oo ?_
  refine AOps.nil (k _ ?_)
  refine cd hj_2 (fun hj_2 => ?_) (fun hj_2 => ?_)
  ·refine AWp.reg ?_
   iterate 3 refine oo ?_
   refine AOps.nil ?_
   cases hj_2; exact sb
  ·refine AWp.skip ?_
   cases hj_2; exact sb
 ·rintro n1 h; dsimp only at h ⊢
  refine sg fun K k => ?_
  obtain ⟨hg_4, h⟩ := guardO_some h
  iterate 2 refine oo ?_
  refine AOps.sub (τ := ⟨[(0, .d (.bool more1)), (1, .d (.int .u16 value1)), (5, .d (.int .i64 n1)), (16, .slc 1000 0 ((n1).toNat))], [(1000, ⟨37, 3, dl (lenc Node.pd (List.replicate (n1).toNat (⟨0, [], []⟩ : Node)))⟩)], [], none⟩) sch ?_
  refine oo ?_
  refine AOps.nil (k _ ?_)
  refine sg fun K k => ?_
  refine ol ?_
  refine ol ?_
  iterate 2 refine oo ?_
  refine AOps.nil (k _ ?_)
  refine jn (α := (List Node)) [0, 1] [] (fun i t => (6, .slc 1000 0 i.length) :: t) (fun i t => (1000, ⟨37, 3, dl (lenc Node.pd i)⟩) :: t) h ?_ ?_
  ·intro _ hj_6
   refine sg fun K k => ?_
   refine oo ?_
   refine AOps.nil (k _ ?_)
   refine AWp.block ?_
   obtain ⟨x_11, hl_8, h2_9⟩ := bind_some hj_6
   refine lp (S := (Int × (List Node))) [0, 1, 5, 7, 8] [] (fun i t => (6, .slc 1000 0 i.2.length) :: (9, .d (.int .i64 i.1)) :: t) (fun i t => (1000, ⟨37, 3, dl (lenc Node.pd i.2)⟩) :: t) hl_8 ?_ ?_; exact sb; clear hl_8
   rintro ⟨i1, L2⟩ _ hb_10; unfold m_cocketlaw02_TariffLimit_l1 at hb_10; try dsimp only at hb_10
   try dsimp only
   refine AWp.seq fun _ K_13 => ?_
   refine sg fun K k => ?_
   iterate 3 refine oo ?_
   refine AOps.nil (k _ ?_)
   refine cd hb_10 (fun hb_10 => ?_) (fun hb_10 => ?_)
   ·refine AWp.skip ?_
    refine K_13 _ ?_
    refine AWp.seq fun _ K_15 => ?_
    refine AWp.block ?_
    refine AWp.reg ?_
    obtain ⟨e1, ⟨f_16, f_17, f_18, f_19⟩, hb_10⟩ := idx_bind hb_10
    iterate 6 refine oo ?_
    refine oo ?_ (by intro K k; simp (disch := omega) only [go_sem, f_18, ↓reduceIte]; exact k)
    refine AOps.nil ?_
    refine K_15 _ ?_
    refine AWp.reg ?_
    iterate 3 refine oo ?_
    refine AOps.nil ?_
    exact ln hb_10 sb
   ·refine AWp.exit ?_
    refine lx hb_10 fun hx => ?_; cases hx; try dsimp only at h2_9
    cases h2_9; exact sb
  ·rintro L1 h; dsimp only at h ⊢
   refine sg fun K k => ?_
   iterate 4 refine oo ?_
   refine ol ?_
   refine AOps.sub (τ := ⟨[(0, .d (.bool more1)), (31, .d (.imm 3 (lenc Node.pd L1))), (35, .d (.imm 1 (lenc (PD.int .i64) [(IntKind.i64.wrap (value1.tmod 1000))])))], [], [], none⟩) sc ?_
   obtain ⟨r1, hx_20, h⟩ := bind_some h
   refine cl (m_tariff_Follow_ok 1 L1 [(IntKind.i64.wrap (value1.tmod 1000))] _ hx_20) ?_
   iterate 5 refine oo ?_
   refine AOps.nil (k _ ?_)
   refine AWp.seq fun _ K_21 => ?_
   refine sg fun K k => ?_
   refine oo ?_
   refine AOps.nil (k _ ?_)
   refine cd h (fun h => ?_) (fun h => ?_)
   ·refine sg fun K k => ?_
    iterate 3 refine oo ?_
    refine ct 3 [] [] (fun  t => (45, .d (.bool ((decide (r1.1 = 0)) && (decide (r1.2 = 2))))) :: t) ?_ ?_
    ·rcases bt (decide (r1.1 = 0)) with hg_24 | hg_24
     ·rw [hg_24]
      iterate 3 refine oo ?_
      refine AOps.nil ?_
      exact sb
     ·rw [hg_24]
      iterate 3 refine oo ?_
      refine AOps.nil ?_
      exact sb
    refine oo ?_
    obtain ⟨b1, hc_25, h⟩ := bind_some h
    refine ct 2 [] [] (fun  t => (48, .d (.bool b1)) :: t) ?_ ?_
    ·rcases bt ((decide (r1.1 = 0)) && (decide (r1.2 = 2))) with hg_27 | hg_27
     ·rw [hg_27]
      rw [hg_27, cond_true] at hc_25
      obtain ⟨r2, hx_26, hc_25⟩ := bind_some hc_25
      refine cl (m_cocketlaw02_alive_ok _ hx_26) ?_
      refine oo ?_
      refine AOps.nil ?_
      cases hc_25
      exact sb
     ·rw [hg_27]
      rw [hg_27, cond_false] at hc_25
      iterate 2 refine oo ?_
      refine AOps.nil ?_
      cases hc_25
      exact sb
    refine oo ?_
    refine AOps.nil (k _ ?_)
    refine AWp.ret ?_
    cases h; exact rt
   ·refine AWp.skip ?_
    refine K_21 _ ?_
    refine sg fun K k => ?_
    iterate 3 refine oo ?_
    refine ct 3 [] [] (fun  t => (54, .d (.bool ((decide (r1.1 = 7)) && (decide (r1.2 = 0))))) :: t) ?_ ?_
    ·rcases bt (decide (r1.1 = 7)) with hg_29 | hg_29
     ·rw [hg_29]
      iterate 3 refine oo ?_
      refine AOps.nil ?_
      exact sb
     ·rw [hg_29]
      iterate 3 refine oo ?_
      refine AOps.nil ?_
      exact sb
    refine oo ?_
    obtain ⟨b2, hc_30, h⟩ := bind_some h
    refine ct 2 [] [] (fun  t => (57, .d (.bool b2)) :: t) ?_ ?_
    ·rcases bt ((decide (r1.1 = 7)) && (decide (r1.2 = 0))) with hg_32 | hg_32
     ·rw [hg_32]
      rw [hg_32, cond_true] at hc_30
      obtain ⟨r3, hx_31, hc_30⟩ := bind_some hc_30
      refine cl (m_cocketlaw02_alive_ok _ hx_31) ?_
      refine oo ?_
      refine AOps.nil ?_
      cases hc_30
      exact sb
     ·rw [hg_32]
      rw [hg_32, cond_false] at hc_30
      iterate 2 refine oo ?_
      refine AOps.nil ?_
      cases hc_30
      exact sb
    refine oo ?_
    refine AOps.nil (k _ ?_)
    refine AWp.ret ?_
    cases h; exact rt
end Go.Pv.Tryd

