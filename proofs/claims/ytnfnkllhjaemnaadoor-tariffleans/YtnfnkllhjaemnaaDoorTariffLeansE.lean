/- TariffLeans answers true for every input, as its tied card says: under the conditions of the card (Rows, Cards, Tie), no more. Part 5 of 7: by one AI agent and its programs; no person has read it. -/
import Derived.Test.YtnfnkllhjaemnaaDoorTariffLeansA
import Derived.Test.YtnfnkllhjaemnaaDoorTariffLeansB
import Derived.Test.YtnfnkllhjaemnaaDoorTariffLeansC
import Derived.Test.YtnfnkllhjaemnaaDoorTariffLeansD
import Derived.Shelf.Sort.Plain
import Derived.Shelf.Slices.CompactI
import Derived.Shelf.Slices.In.SortNone
import Derived.Test.YtnfnkllhjaemnaaDoorProg
import Derived.Shelf.Strconv.Itoa0
import Derived.Shelf.Strconv.Itoa1
import Derived.Shelf.LaysM
import Derived.Shelf.Strconv.Itoa2
import Derived.Shelf.Strconv.Itoa3
set_option linter.unusedSimpArgs false
set_option linter.unusedVariables false
set_option linter.all false

namespace Go.Pv
def wdq : Option (List Rule) :=
 some [(⟨[(⟨0, 10⟩ : Band)], 1⟩ : Rule), (⟨[(⟨5, 20⟩ : Band)], 2⟩ : Rule), (⟨[(⟨0, 20⟩ : Band)], 3⟩ : Rule)]
def wg0 (k1 : Int) : Option Bool :=
 some ((decide (1 ≤ k1)) && (decide (k1 ≤ 4)))
def wgA (b1 : Band) : Option Bool :=
 some (((decide (b1.Lo < 0)) || (decide (b1.Hi ≤ b1.Lo))) || (decide (1000 < b1.Hi)))
def wdf (s1 : (List Band)) : Int → Option (Int ⊕ (Unit ⊕ Int)) := fun v1 =>
 cond (decide (v1 < (s1.length : Int)))
  (
  (idx s1 v1).bind fun e1 =>
  (wgA e1).bind fun r1 =>
  cond r1
   (
   some (.inr (.inr v1))
   )
   (
   some (.inl (IntKind.i64.wrap (v1 + 1)))
   )
  )
  (
  some (.inr (.inl ()))
  )
def wdG (s1 : (List Band)) : Option Int :=
 (
 (
  (
  (wed (wdf s1) 0).bind fun x_7 => match x_7 with
    | (.inl y1) => some (.inl y1)
    | (.inr y2) => some (.inr y2)
  )
  : Option (Unit ⊕ Int)).bind fun o_1 => match o_1 with
   | (.inl _) =>
     some (-1)
   | (.inr y3) => some y3
 )
def wdg (s1 : (List Band)) : Option Bool :=
 (wdG s1).bind fun r1 =>
 some (decide (0 ≤ r1))
def whw (k1 : Int) (r1 : Rule) : Option Bool :=
 ((cond (((decide ((r1.Bands.length : Int) = k1)) && (decide (0 ≤ r1.Code))) && (decide (r1.Code ≤ 99)))
  (
   (wdg r1.Bands).bind fun r2 =>
   some (!r2)
  )
  (some false)
 ) : Option Bool).bind fun b1 =>
 some b1
def we5 (r1 : Rule) (k1 : Int) : Option Bool :=
 (whw k1 r1).bind fun r2 =>
 some (!r2)
def wdv (s1 : (List Rule)) (f1 : Int) : Int → Option (Int ⊕ (Unit ⊕ Int)) := fun v1 =>
 cond (decide (v1 < (s1.length : Int)))
  (
  (idx s1 v1).bind fun e1 =>
  (we5 e1 f1).bind fun r1 =>
  cond r1
   (
   some (.inr (.inr v1))
   )
   (
   some (.inl (IntKind.i64.wrap (v1 + 1)))
   )
  )
  (
  some (.inr (.inl ()))
  )
def wd0 (s1 : (List Rule)) (f1 : Int) : Option Int :=
 (
 (
  (
  (wed (wdv s1 f1) 0).bind fun x_7 => match x_7 with
    | (.inl y1) => some (.inl y1)
    | (.inr y2) => some (.inr y2)
  )
  : Option (Unit ⊕ Int)).bind fun o_1 => match o_1 with
   | (.inl _) =>
     some (-1)
   | (.inr y3) => some y3
 )
def wdw (s1 : (List Rule)) (f1 : Int) : Option Bool :=
 (wd0 s1 f1).bind fun r1 =>
 some (decide (0 ≤ r1))
def wfk (k1 : Int) (ts1 : (List (List Rule))) : Int → Option (Int ⊕ (Unit ⊕ Int)) := fun v1 =>
 cond (decide (v1 < (ts1.length : Int)))
  (
  (idx ts1 v1).bind fun e1 =>
  cond (decide (24 < (e1.length : Int)))
   (
   some (.inr (.inr 3))
   )
   (
   (wdw e1 k1).bind fun r2 =>
   cond r2
    (
    some (.inr (.inr 2))
    )
    (
    some (.inl (IntKind.i64.wrap (v1 + 1)))
    )
   )
  )
  (
  some (.inr (.inl ()))
  )
def wea (k1 : Int) (ts1 : (List (List Rule))) : Option Int :=
 (wg0 k1).bind fun r1 =>
 cond (!r1)
  (
  some 2
  )
  (
  (
  (
   (
   (wed (wfk k1 ts1) 0).bind fun x_10 => match x_10 with
     | (.inl y1) => some (.inl y1)
     | (.inr y2) => some (.inr y2)
   )
   : Option (Unit ⊕ Int)).bind fun o_4 => match o_4 with
    | (.inl _) =>
      some 0
    | (.inr y3) => some y3
  )
  )
def weH (t1 : (List Rule)) : Option Int :=
 wah (0 ≤ (t1.length : Int)) <|
 some (IntKind.u32.wrap ((IntKind.u32.wrap (1 * (2 ^ (min ((t1.length : Int)).toNat 32)))) - 1))
def wf4 (mark1 : Int) (e1 : (List Rule)) : (Int × (List Int)) → Option ((Int × (List Int)) ⊕ (List Int)) := fun (v2, L4) =>
 cond (decide (v2 < (e1.length : Int)))
  (
  (idx e1 v2).bind fun e2 =>
  (idx e2.Bands mark1).bind fun e3 =>
  wah (L4.length + [e3.Lo, e3.Hi].length ≤ 4294967296) <|
  some (.inl ((IntKind.i64.wrap (v2 + 1)), (L4 ++ [e3.Lo, e3.Hi])))
  )
  (
  some (.inr L4)
  )
def wf5 (mark1 : Int) (ts1 : (List (List Rule))) : (Int × (List Int)) → Option ((Int × (List Int)) ⊕ (List Int)) := fun (v1, L2) =>
 cond (decide (v1 < (ts1.length : Int)))
  (
  (
   (idx ts1 v1).bind fun e1 =>
   (wed (wf4 mark1 e1) (0, L2)).bind fun x_21 =>
   some x_21
   : Option (List Int)).bind fun L3 =>
  some (.inl ((IntKind.i64.wrap (v1 + 1)), L3))
  )
  (
  some (.inr L2)
  )
def wff (mark1 : Int) (ts1 : (List (List Rule))) : Option (List Int) :=
 (
  (wed (wf5 mark1 ts1) (0, [1000])).bind fun x_7 =>
  some x_7
  : Option (List Int)).bind fun L1 =>
 wah (L1.length ≤ 4294967296) <|
 wah ((wdZ L1).length ≤ 4294967296) <|
 (
  (idx (List.take ((compactI (wdZ L1)).length) (waH (wdZ L1))) 0).bind fun e4 =>
  cond (decide (e4 = 0))
   (
   wah (0 ≤ 1 ∧ 1 ≤ ((List.take ((compactI (wdZ L1)).length) (waH (wdZ L1))).length : Int) ∧ ((List.take ((compactI (wdZ L1)).length) (waH (wdZ L1))).length : Int) ≤ ((List.take ((compactI (wdZ L1)).length) (waH (wdZ L1))).length : Int)) <|
   some (((List.take ((compactI (wdZ L1)).length) (waH (wdZ L1))).drop 1).take ((((List.take ((compactI (wdZ L1)).length) (waH (wdZ L1))).length : Int) : Int) - 1).toNat)
   )
   (
   some (List.take ((compactI (wdZ L1)).length) (waH (wdZ L1)))
   )
  : Option (List Int)).bind fun out1 =>
 some out1
def wf6 (t1 : (List Rule)) (mark1 : Int) (value1 : Int) : (Int × Int) → Option ((Int × Int) ⊕ Int) := fun (out2, v1) =>
 cond (decide (v1 < (t1.length : Int)))
  (
  (
   (idx t1 v1).bind fun e1 =>
   (idx e1.Bands mark1).bind fun e2 =>
   cond ((decide (e2.Lo ≤ value1)) && (decide (value1 < e2.Hi)))
    (
    wah (0 ≤ v1) <|
    some (IntKind.u32.wrap ↑(BitVec.ofInt IntKind.u32.bits out2 ||| BitVec.ofInt IntKind.u32.bits (IntKind.u32.wrap (1 * (2 ^ (min (v1).toNat 32))))).toNat)
    )
    (
    some out2
    )
   : Option Int).bind fun out3 =>
  some (.inl (out3, (IntKind.i64.wrap (v1 + 1))))
  )
  (
  some (.inr out2)
  )
def wel (t1 : (List Rule)) (mark1 : Int) (value1 : Int) : Option Int :=
 (
  (wed (wf6 t1 mark1 value1) (0, 0)).bind fun x_7 =>
  some x_7
  : Option Int).bind fun out1 =>
 some out1
def weI (s1 : Int) : Int → Option (Int ⊕ (Unit ⊕ Int)) := fun v1 =>
 cond (decide (v1 < 24))
  (
  wah (0 ≤ v1) <|
  cond (decide (¬(IntKind.u32.wrap ↑(BitVec.ofInt IntKind.u32.bits s1 &&& BitVec.ofInt IntKind.u32.bits (IntKind.u32.wrap (1 * (2 ^ (min (v1).toNat 32))))).toNat) = 0))
   (
   some (.inr (.inr v1))
   )
   (
   some (.inl (IntKind.i64.wrap (v1 + 1)))
   )
  )
  (
  some (.inr (.inl ()))
  )
def wc1 (s1 : Int) : Option Int :=
 (
 (
  (
  (wed (weI s1) 0).bind fun x_7 => match x_7 with
    | (.inl y1) => some (.inl y1)
    | (.inr y2) => some (.inr y2)
  )
  : Option (Unit ⊕ Int)).bind fun o_1 => match o_1 with
   | (.inl _) =>
     some (-1)
   | (.inr y3) => some y3
 )
def wex (from1 : Int) (e1 : Int) (r3 : ((List Int) × (List (Arr3_Int × (List Int))))) : (Int × (List Int)) → Option ((Int × (List Int)) ⊕ ((List (Arr3_Int × (List Int))) × (List Int))) := fun (v2, L5) =>
 cond (decide (v2 < (r3.1.length : Int)))
  (
  (idx r3.1 v2).bind fun e2 =>
  (idx L5 v2).bind fun e3 =>
  some (.inl ((IntKind.i64.wrap (v2 + 1)), (L5.set (v2).toNat (IntKind.i64.wrap (e3 + (IntKind.i64.wrap (e2 * (IntKind.i64.wrap (e1 - from1)))))))))
  )
  (
  some (.inr (r3.2, L5))
  )
def wey (mark1 : Int) (a1 : Int) (o1 : (List Rule)) (o2 : Int) (self : ((List Rule) → Int → (List (Arr3_Int × (List Int))) → Int → Int → Option ((List Int) × (List (Arr3_Int × (List Int)))))) (r1 : (List Int)) : (Int × Int × (List (Arr3_Int × (List Int))) × (List Int)) → Option ((Int × Int × (List (Arr3_Int × (List Int))) × (List Int)) ⊕ ((List (Arr3_Int × (List Int))) × (List Int))) := fun (from1, v1, M2, L2) =>
 cond (decide (v1 < (r1.length : Int)))
  (
  (
   (idx r1 v1).bind fun e1 =>
   (wel o1 mark1 from1).bind fun r2 =>
   (
    cond (decide ((IntKind.i64.wrap (mark1 + 1)) < o2))
     (
     (self o1 o2 M2 (IntKind.i64.wrap (mark1 + 1)) (IntKind.u32.wrap ↑(BitVec.ofInt IntKind.u32.bits a1 &&& BitVec.ofInt IntKind.u32.bits r2).toNat)).bind fun r3 =>
     (wed (wex from1 e1 r3) (0, L2)).bind fun x_30 =>
     some x_30
     )
     (
     (wc1 (IntKind.u32.wrap ↑(BitVec.ofInt IntKind.u32.bits a1 &&& BitVec.ofInt IntKind.u32.bits r2).toNat)).bind fun r4 =>
     cond (decide (r4 < 0))
      (
      (idx L2 (o1.length : Int)).bind fun e4 =>
      some (M2, (L2.set ((o1.length : Int)).toNat (IntKind.i64.wrap (e4 + (IntKind.i64.wrap (e1 - from1))))))
      )
      (
      (idx L2 r4).bind fun e5 =>
      some (M2, (L2.set (r4).toNat (IntKind.i64.wrap (e5 + (IntKind.i64.wrap (e1 - from1))))))
      )
     )
    : Option ((List (Arr3_Int × (List Int))) × (List Int))).bind fun (M4, L4) =>
   some (e1, M4, L4)
   : Option (Int × (List (Arr3_Int × (List Int))) × (List Int))).bind fun (from2, M3, L3) =>
  some (.inl (from2, (IntKind.i64.wrap (v1 + 1)), M3, L3))
  )
  (
  some (.inr (M2, L2))
  )
def weJ (self : ((List Rule) → Int → (List (Arr3_Int × (List Int))) → Int → Int → Option ((List Int) × (List (Arr3_Int × (List Int)))))) (o1 : (List Rule)) (o2 : Int) (m1 : (List (Arr3_Int × (List Int)))) (mark1 : Int) (a1 : Int) : Option ((List Int) × (List (Arr3_Int × (List Int)))) :=
 cond ((waP (⟨mark1, (IntKind.i64.wrap a1), 0⟩ : Arr3_Int) m1).isSome)
  (
  some (((waP (⟨mark1, (IntKind.i64.wrap a1), 0⟩ : Arr3_Int) m1).getD []), m1)
  )
  (
  wah (0 ≤ (IntKind.i64.wrap ((o1.length : Int) + 1)) ∧ (IntKind.i64.wrap ((o1.length : Int) + 1)) ≤ 4294967296) <|
  (
   (wff mark1 [o1]).bind fun r1 =>
   (wed (wey mark1 a1 o1 o2 self r1) (0, 0, m1, (List.replicate ((IntKind.i64.wrap ((o1.length : Int) + 1))).toNat (0 : Int)))).bind fun x_11 =>
   some x_11
   : Option ((List (Arr3_Int × (List Int))) × (List Int))).bind fun (M1, L1) =>
  some (L1, (wdt (⟨mark1, (IntKind.i64.wrap a1), 0⟩ : Arr3_Int) L1 M1))
  )
def wfl : Nat → (List Rule) → Int → (List (Arr3_Int × (List Int))) → Int → Int → Option ((List Int) × (List (Arr3_Int × (List Int))))
 | 0 => fun _ _ _ _ _ => none
 | n + 1 => weJ (wfl n)
def wgB (k1 : Int) (t1 : (List Rule)) : Option (List Int) :=
 (weH t1).bind fun r1 =>
 (wfl 100 t1 k1 [] 0 r1).bind fun r2 =>
 (wdX r2.1).bind fun r3 =>
 some r3
def wf7 (t1 : (List Rule)) (r2 : (List Int)) : (Int × (List Int)) → Option ((Int × (List Int)) ⊕ (List Int)) := fun (v1, L2) =>
 cond (decide (v1 < ((r2.take (((t1.length : Int) : Int) - 0).toNat).length : Int)))
  (
  (
   (idx (r2.take (((t1.length : Int) : Int) - 0).toNat) v1).bind fun e1 =>
   cond (decide (e1 = 0))
    (
    wah (L2.length + [v1].length ≤ 4294967296) <|
    some (L2 ++ [v1])
    )
    (
    some L2
    )
   : Option (List Int)).bind fun L3 =>
  some (.inl ((IntKind.i64.wrap (v1 + 1)), L3))
  )
  (
  some (.inr L2)
  )
def whx (k1 : Int) (t1 : (List Rule)) : Option ((List Int) × Int) :=
 (wea k1 [t1]).bind fun r1 =>
 cond (decide (¬r1 = 0))
  (
  some ([], r1)
  )
  (
  (
   (wgB k1 t1).bind fun r2 =>
   wah (0 ≤ 0 ∧ 0 ≤ (t1.length : Int) ∧ (t1.length : Int) ≤ (r2.length : Int)) <|
   (wed (wf7 t1 r2) (0, [])).bind fun x_12 =>
   some x_12
   : Option (List Int)).bind fun L1 =>
  some (L1, 0)
  )
def wg1 (i1 : Int) (v1 : Int) : Option Bool :=
 some (decide (i1 < 0))
def wc2 (mark1 : Int) (a1 : Int) (b1 : Int) (o1 : Walker) (self : (Walker → (List (Arr3_Int × Bool)) → Int → Int → Int → Option ((List Int) × Bool × (List (Arr3_Int × Bool))))) (r4 : (List Int)) : (Int × Int × (List (Arr3_Int × Bool))) → Option ((Int × Int × (List (Arr3_Int × Bool))) ⊕ ((List (Arr3_Int × Bool)) ⊕ ((List Int) × Bool × (List (Arr3_Int × Bool))))) := fun (from1, v1, M2) =>
 cond (decide (v1 < (r4.length : Int)))
  (
  (idx r4 v1).bind fun e1 =>
  (wel o1.s mark1 from1).bind fun r5 =>
  (wel o1.t mark1 from1).bind fun r6 =>
  (self o1 M2 (IntKind.i64.wrap (mark1 + 1)) (IntKind.u32.wrap ↑(BitVec.ofInt IntKind.u32.bits a1 &&& BitVec.ofInt IntKind.u32.bits r5).toNat) (IntKind.u32.wrap ↑(BitVec.ofInt IntKind.u32.bits b1 &&& BitVec.ofInt IntKind.u32.bits r6).toNat)).bind fun r7 =>
  cond r7.2.1
   (
   wah (1 + r7.1.length ≤ 4294967296) <|
   some (.inr (.inr (([from1] ++ r7.1), true, r7.2.2)))
   )
   (
   some (.inl (e1, (IntKind.i64.wrap (v1 + 1)), r7.2.2))
   )
  )
  (
  some (.inr (.inl M2))
  )
def wdh (self : (Walker → (List (Arr3_Int × Bool)) → Int → Int → Int → Option ((List Int) × Bool × (List (Arr3_Int × Bool))))) (o1 : Walker) (m1 : (List (Arr3_Int × Bool))) (mark1 : Int) (a1 : Int) (b1 : Int) : Option ((List Int) × Bool × (List (Arr3_Int × Bool))) :=
 cond (decide (mark1 = o1.k))
  (
  (wc1 a1).bind fun r1 =>
  (wc1 b1).bind fun r2 =>
  (wg1 r1 r2).bind fun r3 =>
  some ([], r3, m1)
  )
  (
  cond ((waP (⟨mark1, (IntKind.i64.wrap a1), (IntKind.i64.wrap b1)⟩ : Arr3_Int) m1).getD false)
   (
   some ([], false, m1)
   )
   (
   (
   (
    (wff mark1 [o1.s, o1.t]).bind fun r4 =>
    (
    (wed (wc2 mark1 a1 b1 o1 self r4) (0, 0, m1)).bind fun x_15 => match x_15 with
      | (.inl y1) => some (.inl y1)
      | (.inr y2) => some (.inr y2)
    )
    : Option ((List (Arr3_Int × Bool)) ⊕ ((List Int) × Bool × (List (Arr3_Int × Bool))))).bind fun o_8 => match o_8 with
     | (.inl M1) =>
       some ([], false, (wdt (⟨mark1, (IntKind.i64.wrap a1), (IntKind.i64.wrap b1)⟩ : Arr3_Int) true M1))
     | (.inr y3) => some y3
   )
   )
  )
def wdx : Nat → Walker → (List (Arr3_Int × Bool)) → Int → Int → Int → Option ((List Int) × Bool × (List (Arr3_Int × Bool)))
 | 0 => fun _ _ _ _ _ => none
 | n + 1 => wdh (wdx n)
def web (w1 : Walker) : Option ((List Int) × Bool) :=
 (weH w1.s).bind fun r1 =>
 (weH w1.t).bind fun r2 =>
 (wdx 100 w1 [] 0 r1 r2).bind fun r3 =>
 some (r3.1, r3.2.1)
def wg2 (l1 : (List Int)) (ok1 : Bool) : Option ((List Int) × Int) :=
 cond (!ok1)
  (
  some ([], 10)
  )
  (
  some (l1, 0)
  )
def wh6 (k1 : Int) (t1 : (List Rule)) : Option ((List Int) × Int) :=
 (wea k1 [t1]).bind fun r1 =>
 cond (decide (¬r1 = 0))
  (
  some ([], r1)
  )
  (
  (web (⟨k1, t1, []⟩ : Walker)).bind fun r2 =>
  (wg2 r2.1 r2.2).bind fun r3 =>
  some (r3.1, r3.2)
  )
def wef (o1 : Builder) (a1 : Int) : Option (Int × Builder) :=
 (wc1 a1).bind fun r1 =>
 cond (decide (r1 < 0))
  (
  some ((-1), o1)
  )
  (
  (idx o1.rules r1).bind fun e1 =>
  some ((IntKind.i64.wrap ((-2) - e1.Code)), o1)
  )
def wfD (ends1 : (List Int)) (to1 : (List Int)) : (Int × (List Int) × (List Int)) → Option ((Int × (List Int) × (List Int)) ⊕ ((List Int) × (List Int))) := fun (v1, L3, L4) =>
 cond (decide (v1 < (to1.length : Int)))
  (
  (
   (idx to1 v1).bind fun e1 =>
   ((cond (decide (0 < (L4.length : Int)))
    (
     (idx L4 (IntKind.i64.wrap ((L4.length : Int) - 1))).bind fun e2 =>
     some (decide (e2 = e1))
    )
    (some false)
   ) : Option Bool).bind fun b1 =>
   cond b1
    (
    (idx ends1 v1).bind fun e3 =>
    (idx L3 (IntKind.i64.wrap ((L4.length : Int) - 1))).bind fun e4 =>
    some ((L3.set ((IntKind.i64.wrap ((L4.length : Int) - 1))).toNat e3), L4)
    )
    (
    (idx ends1 v1).bind fun e5 =>
    wah (L3.length + [e5].length ≤ 4294967296) <|
    wah (L4.length + [e1].length ≤ 4294967296) <|
    some ((L3 ++ [e5]), (L4 ++ [e1]))
    )
   : Option ((List Int) × (List Int))).bind fun (L5, L6) =>
  some (.inl ((IntKind.i64.wrap (v1 + 1)), L5, L6))
  )
  (
  some (.inr (L3, L4))
  )
def wgC (ends1 : (List Int)) (to1 : (List Int)) : Option ((List Int) × (List Int)) :=
 (
  (wed (wfD ends1 to1) (0, [], [])).bind fun x_7 =>
  some x_7
  : Option ((List Int) × (List Int))).bind fun (L1, L2) =>
 some (L1, L2)
def wdT (e1 : (List Int)) : (Int × Bool × (List Int)) → Option ((Int × Bool × (List Int)) ⊕ (Bool × (List Int))) := fun (v2, c5, L5) =>
 cond (decide (v2 < (e1.length : Int)))
  (
  (idx e1 v2).bind fun e2 =>
  (wqJ e2).bind fun r1 =>
  wah (bsz r1 + bsz (⟨#[32]⟩ : ByteArray) ≤ 4294967296) <|
  (wmF (⟨c5, L5⟩ : StringsBuilder) (r1 ++ (⟨#[32]⟩ : ByteArray))).bind fun r2 =>
  some (.inl ((IntKind.i64.wrap (v2 + 1)), true, r2.buf))
  )
  (
  some (.inr (c5, L5))
  )
def wdU (x1 : Node) : (Int × Bool × (List Int)) → Option ((Int × Bool × (List Int)) ⊕ (Bool × (List Int))) := fun (v1, c2, L2) =>
 cond (decide (v1 < ([[x1.Mark], x1.Cuts, x1.To].length : Int)))
  (
  (
   (idx [[x1.Mark], x1.Cuts, x1.To] v1).bind fun e1 =>
   (
    (wed (wdT e1) (0, c2, L2)).bind fun x_23 =>
    some x_23
    : Option (Bool × (List Int))).bind fun (c4, L4) =>
   (whJ (⟨c4, L4⟩ : StringsBuilder) 124).bind fun r3 =>
   some (true, r3.buf)
   : Option (Bool × (List Int))).bind fun (c3, L3) =>
  some (.inl ((IntKind.i64.wrap (v1 + 1)), c3, L3))
  )
  (
  some (.inr (c2, L2))
  )
def weg (o1 : Builder) (x1 : Node) : Option (Int × Builder) :=
 (
  (wed (wdU x1) (0, false, [])).bind fun x_7 =>
  some x_7
  : Option (Bool × (List Int))).bind fun (c1, L1) =>
 (wgZ (⟨c1, L1⟩ : StringsBuilder)).bind fun r4 =>
 (
  cond (!((waP r4 o1.same).isSome))
   (
   (wgZ (⟨c1, L1⟩ : StringsBuilder)).bind fun r5 =>
   wah (o1.nodes.length + [x1].length ≤ 4294967296) <|
   some ((o1.nodes.length : Int), (wdt r5 (o1.nodes.length : Int) o1.same), (o1.nodes ++ [x1]))
   )
   (
   some (((waP r4 o1.same).getD 0), o1.same, o1.nodes)
   )
  : Option (Int × (List (ByteArray × Int)) × (List Node))).bind fun (n1, M1, L6) =>
 some (n1, (⟨o1.k, o1.rules, o1.known, M1, L6⟩ : Builder))
def wec (mark1 : Int) (a1 : Int) (self : (Builder → Int → Int → Option (Int × Builder))) (r2 : (List Int)) : (Int × Int × Int × (List Rule) × (List (Arr3_Int × Int)) × (List (ByteArray × Int)) × (List Node) × (List Int)) → Option ((Int × Int × Int × (List Rule) × (List (Arr3_Int × Int)) × (List (ByteArray × Int)) × (List Node) × (List Int)) ⊕ (Int × (List Rule) × (List (Arr3_Int × Int)) × (List (ByteArray × Int)) × (List Node) × (List Int))) := fun (from1, v1, c3, c4, M3, M4, L3, L4) =>
 cond (decide (v1 < (r2.length : Int)))
  (
  (idx r2 v1).bind fun e1 =>
  (wel c4 mark1 from1).bind fun r3 =>
  (self (⟨c3, c4, M3, M4, L3⟩ : Builder) (IntKind.i64.wrap (mark1 + 1)) (IntKind.u32.wrap ↑(BitVec.ofInt IntKind.u32.bits a1 &&& BitVec.ofInt IntKind.u32.bits r3).toNat)).bind fun r4 =>
  wah (L4.length + [r4.1].length ≤ 4294967296) <|
  some (.inl (e1, (IntKind.i64.wrap (v1 + 1)), r4.2.k, r4.2.rules, r4.2.known, r4.2.same, r4.2.nodes, (L4 ++ [r4.1])))
  )
  (
  some (.inr (c3, c4, M3, M4, L3, L4))
  )
def weh (self : (Builder → Int → Int → Option (Int × Builder))) (o1 : Builder) (mark1 : Int) (a1 : Int) : Option (Int × Builder) :=
 cond (decide (mark1 = o1.k))
  (
  (wef o1 a1).bind fun r1 =>
  some (r1.1, r1.2)
  )
  (
  cond ((waP (⟨mark1, (IntKind.i64.wrap a1), 0⟩ : Arr3_Int) o1.known).isSome)
   (
   some (((waP (⟨mark1, (IntKind.i64.wrap a1), 0⟩ : Arr3_Int) o1.known).getD 0), o1)
   )
   (
   (wff mark1 [o1.rules]).bind fun r2 =>
   (
    (wed (wec mark1 a1 self r2) (0, 0, o1.k, o1.rules, o1.known, o1.same, o1.nodes, [])).bind fun x_13 =>
    some x_13
    : Option (Int × (List Rule) × (List (Arr3_Int × Int)) × (List (ByteArray × Int)) × (List Node) × (List Int))).bind fun (c1, c2, M1, M2, L1, L2) =>
   (wgC r2 L2).bind fun r5 =>
   (idx r5.2 0).bind fun e2 =>
   (
    cond (decide (1 < (r5.2.length : Int)))
     (
     (weg (⟨c1, c2, M1, M2, L1⟩ : Builder) (⟨mark1, r5.1, r5.2⟩ : Node)).bind fun r6 =>
     some (r6.1, r6.2.k, r6.2.rules, r6.2.known, r6.2.same, r6.2.nodes)
     )
     (
     some (e2, c1, c2, M1, M2, L1)
     )
    : Option (Int × Int × (List Rule) × (List (Arr3_Int × Int)) × (List (ByteArray × Int)) × (List Node))).bind fun (n1, c5, c6, M5, M6, L5) =>
   some (n1, (⟨c5, c6, (wdt (⟨mark1, (IntKind.i64.wrap a1), 0⟩ : Arr3_Int) n1 M5), M6, L5⟩ : Builder))
   )
  )
def weK : Nat → Builder → Int → Int → Option (Int × Builder)
 | 0 => fun _ _ _ => none
 | n + 1 => weh (weK n)
def wc3 (l1 : (List Node)) (o1 : Builder) (self : ((List (Int × Int)) → (List Node) → Builder → Int → Option (Int × (List (Int × Int)) × (List Node)))) (e2 : Node) : (Int × (List (Int × Int)) × (List Node)) → Option ((Int × (List (Int × Int)) × (List Node)) ⊕ ((List (Int × Int)) × (List Node))) := fun (v1, M2, L2) =>
 cond (decide (v1 < (e2.To.length : Int)))
  (
  (idx e2.To v1).bind fun e3 =>
  (self M2 L2 o1 e3).bind fun r2 =>
  (idx r2.2.2 (l1.length : Int)).bind fun e4 =>
  wah (e4.To.length + [r2.1].length ≤ 4294967296) <|
  some (.inl ((IntKind.i64.wrap (v1 + 1)), r2.2.1, (r2.2.2.set (((l1.length : Int)).toNat) (⟨e4.Mark, e4.Cuts, (e4.To ++ [r2.1])⟩ : Node))))
  )
  (
  some (.inr (M2, L2))
  )
def wdi (self : ((List (Int × Int)) → (List Node) → Builder → Int → Option (Int × (List (Int × Int)) × (List Node)))) (m1 : (List (Int × Int))) (l1 : (List Node)) (o1 : Builder) (n1 : Int) : Option (Int × (List (Int × Int)) × (List Node)) :=
 cond (decide (n1 < 0))
  (
  some (n1, m1, l1)
  )
  (
  cond ((waP n1 m1).isSome)
   (
   some (((waP n1 m1).getD 0), m1, l1)
   )
   (
   (idx o1.nodes n1).bind fun e1 =>
   (wdX e1.Cuts).bind fun r1 =>
   wah (l1.length + 1 ≤ 4294967296) <|
   (
    (idx o1.nodes n1).bind fun e2 =>
    (wed (wc3 l1 o1 self e2) (0, (wdt n1 (l1.length : Int) m1), (l1 ++ [(⟨e1.Mark, r1, []⟩ : Node)]))).bind fun x_21 =>
    some x_21
    : Option ((List (Int × Int)) × (List Node))).bind fun (M1, L1) =>
   some ((l1.length : Int), M1, L1)
   )
  )
def wdy : Nat → (List (Int × Int)) → (List Node) → Builder → Int → Option (Int × (List (Int × Int)) × (List Node))
 | 0 => fun _ _ _ _ => none
 | n + 1 => wdi (wdy n)
def wdV (o1 : Builder) (top1 : Int) : Option ((List Node) × Builder) :=
 (wdy 100 [] [] o1 top1).bind fun r1 =>
 some (r1.2.2, o1)
def wf8 (k1 : Int) (t1 : (List Rule)) : Option ((List Node) × Int) :=
 (wea k1 [t1]).bind fun r1 =>
 cond (decide (¬r1 = 0))
  (
  some ([], r1)
  )
  (
  (weH t1).bind fun r2 =>
  (weK 100 (⟨k1, t1, [], [], []⟩ : Builder) 0 r2).bind fun r3 =>
  cond (decide (r3.1 < 0))
   (
   some ([(⟨0, [1000], [r3.1]⟩ : Node)], 0)
   )
   (
   (wdV r3.2 r3.1).bind fun r4 =>
   some (r4.1, 0)
   )
  )
def weL (a1 : (List Int)) (b1 : (List Int)) : Int → Option (Int ⊕ (Unit ⊕ Bool)) := fun i1 =>
 cond (decide (i1 < (a1.length : Int)))
  (
  (idx a1 i1).bind fun e1 =>
  (idx b1 i1).bind fun e2 =>
  cond (decide (¬e1 = e2))
   (
   some (.inr (.inr false))
   )
   (
   some (.inl (IntKind.i64.wrap (i1 + 1)))
   )
  )
  (
  some (.inr (.inl ()))
  )
def wdH (a1 : (List Int)) (b1 : (List Int)) : Option Bool :=
 cond (decide (¬(a1.length : Int) = (b1.length : Int)))
  (
  some false
  )
  (
  (
  (
   (
   (wed (weL a1 b1) 0).bind fun x_9 => match x_9 with
     | (.inl y1) => some (.inl y1)
     | (.inr y2) => some (.inr y2)
   )
   : Option (Unit ⊕ Bool)).bind fun o_3 => match o_3 with
    | (.inl _) =>
      some true
    | (.inr y3) => some y3
  )
  )
def wfm : Option Bool :=
 (wdq).bind fun r1 =>
 (whx 1 r1).bind fun r2 =>
 (wdq).bind fun r3 =>
 (wh6 1 r3).bind fun r4 =>
 (wdq).bind fun r5 =>
 (wf8 1 r5).bind fun r6 =>
 ((cond (decide (r2.2 = 0))
  (
   (wdH r2.1 [2]).bind fun r7 =>
   some r7
  )
  (some false)
 ) : Option Bool).bind fun b1 =>
 ((cond (b1 && (decide (r4.2 = 0)))
  (
   (wdH r4.1 [20]).bind fun r8 =>
   some r8
  )
  (some false)
 ) : Option Bool).bind fun b2 =>
 ((cond ((b2 && (decide (r6.2 = 0))) && (decide ((r6.1.length : Int) = 1)))
  (
   (idx r6.1 0).bind fun e1 =>
   (wdH e1.To [(-3), (-4), (-1)]).bind fun r9 =>
   some r9
  )
  (some false)
 ) : Option Bool).bind fun b3 =>
 some b3
theorem wiK  : OLe (wdq) (wb6) := by
 intros; unfold wdq wb6; try simp only [way]; try dsimp only
 repeat' (first | exact OLe.refl _ | refine OLe.bind ?_ (fun _ => ?_) | refine OLe.cond ?_ ?_ | refine OLe.guard ?_ | refine OLe.iterQ (fun _ => ?_) | split)
theorem wll (k1 : Int) : OLe (wg0 k1) (wd5 k1) := by
 intros; unfold wg0 wd5; try simp only [way]; try dsimp only
 repeat' (first | exact OLe.refl _ | refine OLe.bind ?_ (fun _ => ?_) | refine OLe.cond ?_ ?_ | refine OLe.guard ?_ | refine OLe.iterQ (fun _ => ?_) | split)
theorem wkU (b1 : Band) : OLe (wgA b1) (wdL b1) := by
 intros; unfold wgA wdL; try simp only [way]; try dsimp only
 repeat' (first | exact OLe.refl _ | refine OLe.bind ?_ (fun _ => ?_) | refine OLe.cond ?_ ?_ | refine OLe.guard ?_ | refine OLe.iterQ (fun _ => ?_) | split)
theorem wfO (s1 : (List Band)) : ∀ e0_, OLe (wdf s1 e0_) (wbv s1 e0_) := by
 intros; unfold wdf wbv; try simp only [way]; try dsimp only
 repeat' (first | exact OLe.refl _ | exact wkU _ | refine OLe.bind ?_ (fun _ => ?_) | refine OLe.cond ?_ ?_ | refine OLe.guard ?_ | refine OLe.iterQ (fun _ => ?_) | split)
theorem wgD (s1 : (List Band)) : OLe (wdG s1) (wa6 s1) := by
 intros; unfold wdG wa6; try simp only [way]; try dsimp only
 repeat' (first | exact OLe.refl _ | exact wfO _ _ | refine OLe.bind ?_ (fun _ => ?_) | refine OLe.cond ?_ ?_ | refine OLe.guard ?_ | refine OLe.iterQ (fun _ => ?_) | split)
theorem wfP (s1 : (List Band)) : OLe (wdg s1) (waR s1) := by
 intros; unfold wdg waR; try simp only [way]; try dsimp only
 repeat' (first | exact OLe.refl _ | exact wgD _ | refine OLe.bind ?_ (fun _ => ?_) | refine OLe.cond ?_ ?_ | refine OLe.guard ?_ | refine OLe.iterQ (fun _ => ?_) | split)
theorem wl1 (k1 : Int) (r1 : Rule) : OLe (whw k1 r1) (wdR k1 r1) := by
 intros; unfold whw wdR; try simp only [way]; try dsimp only
 repeat' (first | exact OLe.refl _ | exact wfP _ | refine OLe.bind ?_ (fun _ => ?_) | refine OLe.cond ?_ ?_ | refine OLe.guard ?_ | refine OLe.iterQ (fun _ => ?_) | split)
theorem wif (r1 : Rule) (k1 : Int) : OLe (we5 r1 k1) (wbW r1 k1) := by
 intros; unfold we5 wbW; try simp only [way]; try dsimp only
 repeat' (first | exact OLe.refl _ | exact wl1 _ _ | refine OLe.bind ?_ (fun _ => ?_) | refine OLe.cond ?_ ?_ | refine OLe.guard ?_ | refine OLe.iterQ (fun _ => ?_) | split)
theorem wgi (s1 : (List Rule)) (f1 : Int) : ∀ e0_, OLe (wdv s1 f1 e0_) (wbK s1 f1 e0_) := by
 intros; unfold wdv wbK; try simp only [way]; try dsimp only
 repeat' (first | exact OLe.refl _ | exact wif _ _ | refine OLe.bind ?_ (fun _ => ?_) | refine OLe.cond ?_ ?_ | refine OLe.guard ?_ | refine OLe.iterQ (fun _ => ?_) | split)
theorem wg3 (s1 : (List Rule)) (f1 : Int) : OLe (wd0 s1 f1) (wbi s1 f1) := by
 intros; unfold wd0 wbi; try simp only [way]; try dsimp only
 repeat' (first | exact OLe.refl _ | exact wgi _ _ _ | refine OLe.bind ?_ (fun _ => ?_) | refine OLe.cond ?_ ?_ | refine OLe.guard ?_ | refine OLe.iterQ (fun _ => ?_) | split)
theorem wgj (s1 : (List Rule)) (f1 : Int) : OLe (wdw s1 f1) (waO s1 f1) := by
 intros; unfold wdw waO; try simp only [way]; try dsimp only
 repeat' (first | exact OLe.refl _ | exact wg3 _ _ | refine OLe.bind ?_ (fun _ => ?_) | refine OLe.cond ?_ ?_ | refine OLe.guard ?_ | refine OLe.iterQ (fun _ => ?_) | split)
theorem wiL (k1 : Int) (ts1 : (List (List Rule))) : ∀ e0_, OLe (wfk k1 ts1 e0_) (wbC k1 ts1 e0_) := by
 intros; unfold wfk wbC; try simp only [way]; try dsimp only
 repeat' (first | exact OLe.refl _ | exact wgj _ _ | refine OLe.bind ?_ (fun _ => ?_) | refine OLe.cond ?_ ?_ | refine OLe.guard ?_ | refine OLe.iterQ (fun _ => ?_) | split)
theorem wfn (k1 : Int) (ts1 : (List (List Rule))) : OLe (wea k1 ts1) (wbm k1 ts1) := by
 intros; unfold wea wbm; try simp only [way]; try dsimp only
 repeat' (first | exact OLe.refl _ | exact wll _ | exact wiL _ _ _ | refine OLe.bind ?_ (fun _ => ?_) | refine OLe.cond ?_ ?_ | refine OLe.guard ?_ | refine OLe.iterQ (fun _ => ?_) | split)
theorem wgE (t1 : (List Rule)) : OLe (weH t1) (wbZ t1) := by
 intros; unfold weH wbZ; try simp only [way]; try dsimp only
 repeat' (first | exact OLe.refl _ | refine OLe.bind ?_ (fun _ => ?_) | refine OLe.cond ?_ ?_ | refine OLe.guard ?_ | refine OLe.iterQ (fun _ => ?_) | split)
theorem wkc (mark1 : Int) (e1 : (List Rule)) : ∀ e0_, OLe (wf4 mark1 e1 e0_) (wcO mark1 e1 e0_) := by
 intros; unfold wf4 wcO; try simp only [way]; try dsimp only
 repeat' (first | exact OLe.refl _ | refine OLe.bind ?_ (fun _ => ?_) | refine OLe.cond ?_ ?_ | refine OLe.guard ?_ | refine OLe.iterQ (fun _ => ?_) | split)
theorem wkd (mark1 : Int) (ts1 : (List (List Rule))) : ∀ e0_, OLe (wf5 mark1 ts1 e0_) (wcP mark1 ts1 e0_) := by
 intros; unfold wf5 wcP; try simp only [way]; try dsimp only
 repeat' (first | exact OLe.refl _ | exact wkc _ _ _ | refine OLe.bind ?_ (fun _ => ?_) | refine OLe.cond ?_ ?_ | refine OLe.guard ?_ | refine OLe.iterQ (fun _ => ?_) | split)
theorem wf9 (mark1 : Int) (ts1 : (List (List Rule))) : OLe (wff mark1 ts1) (wbG mark1 ts1) := by
 intros; unfold wff wbG; try simp only [way]; try dsimp only
 repeat' (first | exact OLe.refl _ | exact wkd _ _ _ | refine OLe.bind ?_ (fun _ => ?_) | refine OLe.cond ?_ ?_ | refine OLe.guard ?_ | refine OLe.iterQ (fun _ => ?_) | split)
theorem wke (t1 : (List Rule)) (mark1 : Int) (value1 : Int) : ∀ e0_, OLe (wf6 t1 mark1 value1 e0_) (wcQ t1 mark1 value1 e0_) := by
 intros; unfold wf6 wcQ; try simp only [way]; try dsimp only
 repeat' (first | exact OLe.refl _ | refine OLe.bind ?_ (fun _ => ?_) | refine OLe.cond ?_ ?_ | refine OLe.guard ?_ | refine OLe.iterQ (fun _ => ?_) | split)
theorem wga (t1 : (List Rule)) (mark1 : Int) (value1 : Int) : OLe (wel t1 mark1 value1) (wbH t1 mark1 value1) := by
 intros; unfold wel wbH; try simp only [way]; try dsimp only
 repeat' (first | exact OLe.refl _ | exact wke _ _ _ _ | refine OLe.bind ?_ (fun _ => ?_) | refine OLe.cond ?_ ?_ | refine OLe.guard ?_ | refine OLe.iterQ (fun _ => ?_) | split)
theorem wh7 (s1 : Int) : ∀ e0_, OLe (weI s1 e0_) (wbn s1 e0_) := by
 intros; unfold weI wbn; try simp only [way]; try dsimp only
 repeat' (first | exact OLe.refl _ | refine OLe.bind ?_ (fun _ => ?_) | refine OLe.cond ?_ ?_ | refine OLe.guard ?_ | refine OLe.iterQ (fun _ => ?_) | split)
theorem weM (s1 : Int) : OLe (wc1 s1) (waU s1) := by
 intros; unfold wc1 waU; try simp only [way]; try dsimp only
 repeat' (first | exact OLe.refl _ | exact wh7 _ _ | refine OLe.bind ?_ (fun _ => ?_) | refine OLe.cond ?_ ?_ | refine OLe.guard ?_ | refine OLe.iterQ (fun _ => ?_) | split)
theorem whK (from1 : Int) (e1 : Int) (r3 : ((List Int) × (List (Arr3_Int × (List Int))))) : ∀ e0_, OLe (wex from1 e1 r3 e0_) (wdD from1 e1 r3 e0_) := by
 intros; unfold wex wdD; try simp only [way]; try dsimp only
 repeat' (first | exact OLe.refl _ | refine OLe.bind ?_ (fun _ => ?_) | refine OLe.cond ?_ ?_ | refine OLe.guard ?_ | refine OLe.iterQ (fun _ => ?_) | split)
theorem whL (mark1 : Int) (a1 : Int) (o1 : (List Rule)) (o2 : Int) (self self' : ((List Rule) → Int → (List (Arr3_Int × (List Int))) → Int → Int → Option ((List Int) × (List (Arr3_Int × (List Int)))))) (hself : ∀ x0 x1 x2 x3 x4, OLe (self x0 x1 x2 x3 x4) (self' x0 x1 x2 x3 x4)) (r1 : (List Int)) : ∀ e0_, OLe (wey mark1 a1 o1 o2 self r1 e0_) (wdE mark1 a1 o1 o2 self' r1 e0_) := by
 intros; unfold wey wdE; try simp only [way]; try dsimp only
 repeat' (first | exact OLe.refl _ | exact wga _ _ _ | exact whK _ _ _ _ | exact weM _ | exact hself _ _ _ _ _ | refine OLe.bind ?_ (fun _ => ?_) | refine OLe.cond ?_ ?_ | refine OLe.guard ?_ | refine OLe.iterQ (fun _ => ?_) | split)
theorem wh8 (self self' : ((List Rule) → Int → (List (Arr3_Int × (List Int))) → Int → Int → Option ((List Int) × (List (Arr3_Int × (List Int)))))) (hself : ∀ x0 x1 x2 x3 x4, OLe (self x0 x1 x2 x3 x4) (self' x0 x1 x2 x3 x4)) (o1 : (List Rule)) (o2 : Int) (m1 : (List (Arr3_Int × (List Int)))) (mark1 : Int) (a1 : Int) : OLe (weJ self o1 o2 m1 mark1 a1) (wcV self' o1 o2 m1 mark1 a1) := by
 intros; unfold weJ wcV; try simp only [way]; try dsimp only
 repeat' (first | exact OLe.refl _ | exact wf9 _ _ | exact whL _ _ _ _ _ _ (by assumption) _ _ | exact hself _ _ _ _ _ | refine OLe.bind ?_ (fun _ => ?_) | refine OLe.cond ?_ ?_ | refine OLe.guard ?_ | refine OLe.iterQ (fun _ => ?_) | split)
theorem wiM  : ∀ e0_ e1_ e2_ e3_ e4_ e5_, OLe (wfl e0_ e1_ e2_ e3_ e4_ e5_) (wdo e0_ e1_ e2_ e3_ e4_ e5_) := by
 intro e0_; induction e0_ with
 | zero => intros; exact fun _ h => nomatch h
 | succ k ih => intro e1_ e2_ e3_ e4_ e5_; exact wh8 _ _ ih _ _ _ _ _
theorem wkV (k1 : Int) (t1 : (List Rule)) : OLe (wgB k1 t1) (wep k1 t1) := by
 intros; unfold wgB wep; try simp only [way]; try dsimp only
 repeat' (first | exact OLe.refl _ | exact wgE _ | exact wiM _ _ _ _ _ _ | refine OLe.bind ?_ (fun _ => ?_) | refine OLe.cond ?_ ?_ | refine OLe.guard ?_ | refine OLe.iterQ (fun _ => ?_) | split)
theorem wkf (t1 : (List Rule)) (r2 : (List Int)) : ∀ e0_, OLe (wf7 t1 r2 e0_) (we4 t1 r2 e0_) := by
 intros; unfold wf7 we4; try simp only [way]; try dsimp only
 repeat' (first | exact OLe.refl _ | refine OLe.bind ?_ (fun _ => ?_) | refine OLe.cond ?_ ?_ | refine OLe.guard ?_ | refine OLe.iterQ (fun _ => ?_) | split)
theorem wl2 (k1 : Int) (t1 : (List Rule)) : OLe (whx k1 t1) (wfe k1 t1) := by
 intros; unfold whx wfe; try simp only [way]; try dsimp only
 repeat' (first | exact OLe.refl _ | exact wfn _ _ | exact wkV _ _ | exact wkf _ _ _ | refine OLe.bind ?_ (fun _ => ?_) | refine OLe.cond ?_ ?_ | refine OLe.guard ?_ | refine OLe.iterQ (fun _ => ?_) | split)
theorem wlm (i1 : Int) (v1 : Int) : OLe (wg1 i1 v1) (weG i1 v1) := by
 intros; unfold wg1 weG; try simp only [way]; try dsimp only
 repeat' (first | exact OLe.refl _ | refine OLe.bind ?_ (fun _ => ?_) | refine OLe.cond ?_ ?_ | refine OLe.guard ?_ | refine OLe.iterQ (fun _ => ?_) | split)
theorem wfK (mark1 : Int) (a1 : Int) (b1 : Int) (o1 : Walker) (self self' : (Walker → (List (Arr3_Int × Bool)) → Int → Int → Int → Option ((List Int) × Bool × (List (Arr3_Int × Bool))))) (hself : ∀ x0 x1 x2 x3 x4, OLe (self x0 x1 x2 x3 x4) (self' x0 x1 x2 x3 x4)) (r4 : (List Int)) : ∀ e0_, OLe (wc2 mark1 a1 b1 o1 self r4 e0_) (wb2 mark1 a1 b1 o1 self' r4 e0_) := by
 intros; unfold wc2 wb2; try simp only [way]; try dsimp only
 repeat' (first | exact OLe.refl _ | exact wga _ _ _ | exact hself _ _ _ _ _ | refine OLe.bind ?_ (fun _ => ?_) | refine OLe.cond ?_ ?_ | refine OLe.guard ?_ | refine OLe.iterQ (fun _ => ?_) | split)
theorem wfQ (self self' : (Walker → (List (Arr3_Int × Bool)) → Int → Int → Int → Option ((List Int) × Bool × (List (Arr3_Int × Bool))))) (hself : ∀ x0 x1 x2 x3 x4, OLe (self x0 x1 x2 x3 x4) (self' x0 x1 x2 x3 x4)) (o1 : Walker) (m1 : (List (Arr3_Int × Bool))) (mark1 : Int) (a1 : Int) (b1 : Int) : OLe (wdh self o1 m1 mark1 a1 b1) (wbw self' o1 m1 mark1 a1 b1) := by
 intros; unfold wdh wbw; try simp only [way]; try dsimp only
 repeat' (first | exact OLe.refl _ | exact weM _ | exact wlm _ _ | exact wf9 _ _ | exact wfK _ _ _ _ _ _ (by assumption) _ _ | exact hself _ _ _ _ _ | refine OLe.bind ?_ (fun _ => ?_) | refine OLe.cond ?_ ?_ | refine OLe.guard ?_ | refine OLe.iterQ (fun _ => ?_) | split)
theorem wgk  : ∀ e0_ e1_ e2_ e3_ e4_ e5_, OLe (wdx e0_ e1_ e2_ e3_ e4_ e5_) (wbL e0_ e1_ e2_ e3_ e4_ e5_) := by
 intro e0_; induction e0_ with
 | zero => intros; exact fun _ h => nomatch h
 | succ k ih => intro e1_ e2_ e3_ e4_ e5_; exact wfQ _ _ ih _ _ _ _ _
theorem whq (w1 : Walker) : OLe (web w1) (wck w1) := by
 intros; unfold web wck; try simp only [way]; try dsimp only
 repeat' (first | exact OLe.refl _ | exact wgE _ | exact wgk _ _ _ _ _ _ | refine OLe.bind ?_ (fun _ => ?_) | refine OLe.cond ?_ ?_ | refine OLe.guard ?_ | refine OLe.iterQ (fun _ => ?_) | split)
theorem wln (l1 : (List Int)) (ok1 : Bool) : OLe (wg2 l1 ok1) (wcW l1 ok1) := by
 intros; unfold wg2 wcW; try simp only [way]; try dsimp only
 repeat' (first | exact OLe.refl _ | refine OLe.bind ?_ (fun _ => ?_) | refine OLe.cond ?_ ?_ | refine OLe.guard ?_ | refine OLe.iterQ (fun _ => ?_) | split)
theorem wmN (k1 : Int) (t1 : (List Rule)) : OLe (wh6 k1 t1) (wfB k1 t1) := by
 intros; unfold wh6 wfB; try simp only [way]; try dsimp only
 repeat' (first | exact OLe.refl _ | exact wfn _ _ | exact whq _ | exact wln _ _ | refine OLe.bind ?_ (fun _ => ?_) | refine OLe.cond ?_ ?_ | refine OLe.guard ?_ | refine OLe.iterQ (fun _ => ?_) | split)
theorem why (o1 : Builder) (a1 : Int) : OLe (wef o1 a1) (wcu o1 a1) := by
 intros; unfold wef wcu; try simp only [way]; try dsimp only
 repeat' (first | exact OLe.refl _ | exact weM _ | refine OLe.bind ?_ (fun _ => ?_) | refine OLe.cond ?_ ?_ | refine OLe.guard ?_ | refine OLe.iterQ (fun _ => ?_) | split)
theorem wi8 (ends1 : (List Int)) (to1 : (List Int)) : ∀ e0_, OLe (wfD ends1 to1 e0_) (weq ends1 to1 e0_) := by
 intros; unfold wfD weq; try simp only [way]; try dsimp only
 repeat' (first | exact OLe.refl _ | refine OLe.bind ?_ (fun _ => ?_) | refine OLe.cond ?_ ?_ | refine OLe.guard ?_ | refine OLe.iterQ (fun _ => ?_) | split)
theorem wkW (ends1 : (List Int)) (to1 : (List Int)) : OLe (wgC ends1 to1) (wer ends1 to1) := by
 intros; unfold wgC wer; try simp only [way]; try dsimp only
 repeat' (first | exact OLe.refl _ | exact wi8 _ _ _ | refine OLe.bind ?_ (fun _ => ?_) | refine OLe.cond ?_ ?_ | refine OLe.guard ?_ | refine OLe.iterQ (fun _ => ?_) | split)
theorem wgK (e1 : (List Int)) : ∀ e0_, OLe (wdT e1 e0_) (wcI e1 e0_) := by
 intros; unfold wdT wcI; try simp only [way]; try dsimp only
 repeat' (first | exact OLe.refl _ | exact wrW _ | refine OLe.bind ?_ (fun _ => ?_) | refine OLe.cond ?_ ?_ | refine OLe.guard ?_ | refine OLe.iterQ (fun _ => ?_) | split)
theorem wgL (x1 : Node) : ∀ e0_, OLe (wdU x1 e0_) (wcJ x1 e0_) := by
 intros; unfold wdU wcJ; try simp only [way]; try dsimp only
 repeat' (first | exact OLe.refl _ | exact wgK _ _ | refine OLe.bind ?_ (fun _ => ?_) | refine OLe.cond ?_ ?_ | refine OLe.guard ?_ | refine OLe.iterQ (fun _ => ?_) | split)
theorem whz (o1 : Builder) (x1 : Node) : OLe (weg o1 x1) (wcv o1 x1) := by
 intros; unfold weg wcv; try simp only [way]; try dsimp only
 repeat' (first | exact OLe.refl _ | exact wgL _ _ | refine OLe.bind ?_ (fun _ => ?_) | refine OLe.cond ?_ ?_ | refine OLe.guard ?_ | refine OLe.iterQ (fun _ => ?_) | split)
theorem whr (mark1 : Int) (a1 : Int) (self self' : (Builder → Int → Int → Option (Int × Builder))) (hself : ∀ x0 x1 x2, OLe (self x0 x1 x2) (self' x0 x1 x2)) (r2 : (List Int)) : ∀ e0_, OLe (wec mark1 a1 self r2 e0_) (wdc mark1 a1 self' r2 e0_) := by
 intros; unfold wec wdc; try simp only [way]; try dsimp only
 repeat' (first | exact OLe.refl _ | exact wga _ _ _ | exact hself _ _ _ | refine OLe.bind ?_ (fun _ => ?_) | refine OLe.cond ?_ ?_ | refine OLe.guard ?_ | refine OLe.iterQ (fun _ => ?_) | split)
theorem whA (self self' : (Builder → Int → Int → Option (Int × Builder))) (hself : ∀ x0 x1 x2, OLe (self x0 x1 x2) (self' x0 x1 x2)) (o1 : Builder) (mark1 : Int) (a1 : Int) : OLe (weh self o1 mark1 a1) (wcw self' o1 mark1 a1) := by
 intros; unfold weh wcw; try simp only [way]; try dsimp only
 repeat' (first | exact OLe.refl _ | exact why _ _ | exact wf9 _ _ | exact whr _ _ _ _ (by assumption) _ _ | exact wkW _ _ | exact whz _ _ | exact hself _ _ _ | refine OLe.bind ?_ (fun _ => ?_) | refine OLe.cond ?_ ?_ | refine OLe.guard ?_ | refine OLe.iterQ (fun _ => ?_) | split)
theorem wh9  : ∀ e0_ e1_ e2_ e3_, OLe (weK e0_ e1_ e2_ e3_) (wcX e0_ e1_ e2_ e3_) := by
 intro e0_; induction e0_ with
 | zero => intros; exact fun _ h => nomatch h
 | succ k ih => intro e1_ e2_ e3_; exact whA _ _ ih _ _ _
theorem wfL (l1 : (List Node)) (o1 : Builder) (self self' : ((List (Int × Int)) → (List Node) → Builder → Int → Option (Int × (List (Int × Int)) × (List Node)))) (hself : ∀ x0 x1 x2 x3, OLe (self x0 x1 x2 x3) (self' x0 x1 x2 x3)) (e2 : Node) : ∀ e0_, OLe (wc3 l1 o1 self e2 e0_) (wb3 l1 o1 self' e2 e0_) := by
 intros; unfold wc3 wb3; try simp only [way]; try dsimp only
 repeat' (first | exact OLe.refl _ | exact hself _ _ _ _ | refine OLe.bind ?_ (fun _ => ?_) | refine OLe.cond ?_ ?_ | refine OLe.guard ?_ | refine OLe.iterQ (fun _ => ?_) | split)
theorem wfR (self self' : ((List (Int × Int)) → (List Node) → Builder → Int → Option (Int × (List (Int × Int)) × (List Node)))) (hself : ∀ x0 x1 x2 x3, OLe (self x0 x1 x2 x3) (self' x0 x1 x2 x3)) (m1 : (List (Int × Int))) (l1 : (List Node)) (o1 : Builder) (n1 : Int) : OLe (wdi self m1 l1 o1 n1) (wbx self' m1 l1 o1 n1) := by
 intros; unfold wdi wbx; try simp only [way]; try dsimp only
 repeat' (first | exact OLe.refl _ | exact wfL _ _ _ _ (by assumption) _ _ | exact hself _ _ _ _ | refine OLe.bind ?_ (fun _ => ?_) | refine OLe.cond ?_ ?_ | refine OLe.guard ?_ | refine OLe.iterQ (fun _ => ?_) | split)
theorem wgl  : ∀ e0_ e1_ e2_ e3_ e4_, OLe (wdy e0_ e1_ e2_ e3_ e4_) (wbM e0_ e1_ e2_ e3_ e4_) := by
 intro e0_; induction e0_ with
 | zero => intros; exact fun _ h => nomatch h
 | succ k ih => intro e1_ e2_ e3_ e4_; exact wfR _ _ ih _ _ _ _
theorem wgM (o1 : Builder) (top1 : Int) : OLe (wdV o1 top1) (wb0 o1 top1) := by
 intros; unfold wdV wb0; try simp only [way]; try dsimp only
 repeat' (first | exact OLe.refl _ | exact wgl _ _ _ _ _ | refine OLe.bind ?_ (fun _ => ?_) | refine OLe.cond ?_ ?_ | refine OLe.guard ?_ | refine OLe.iterQ (fun _ => ?_) | split)
theorem wkg (k1 : Int) (t1 : (List Rule)) : OLe (wf8 k1 t1) (wd9 k1 t1) := by
 intros; unfold wf8 wd9; try simp only [way]; try dsimp only
 repeat' (first | exact OLe.refl _ | exact wfn _ _ | exact wgE _ | exact wh9 _ _ _ _ | exact wgM _ _ | refine OLe.bind ?_ (fun _ => ?_) | refine OLe.cond ?_ ?_ | refine OLe.guard ?_ | refine OLe.iterQ (fun _ => ?_) | split)
theorem wia (a1 : (List Int)) (b1 : (List Int)) : ∀ e0_, OLe (weL a1 b1 e0_) (wdM a1 b1 e0_) := by
 intros; unfold weL wdM; try simp only [way]; try dsimp only
 repeat' (first | exact OLe.refl _ | refine OLe.bind ?_ (fun _ => ?_) | refine OLe.cond ?_ ?_ | refine OLe.guard ?_ | refine OLe.iterQ (fun _ => ?_) | split)
theorem wi9 (a1 : (List Int)) (b1 : (List Int)) : OLe (wdH a1 b1) (wcl a1 b1) := by
 intros; unfold wdH wcl; try simp only [way]; try dsimp only
 repeat' (first | exact OLe.refl _ | exact wia _ _ _ | refine OLe.bind ?_ (fun _ => ?_) | refine OLe.cond ?_ ?_ | refine OLe.guard ?_ | refine OLe.iterQ (fun _ => ?_) | split)
theorem wiN  : OLe (wfm) (wbD) := by
 intros; unfold wfm wbD; try simp only [way]; try dsimp only
 repeat' (first | exact OLe.refl _ | exact wiK  | exact wl2 _ _ | exact wmN _ _ | exact wkg _ _ | exact wi9 _ _ | refine OLe.bind ?_ (fun _ => ?_) | refine OLe.cond ?_ ?_ | refine OLe.guard ?_ | refine OLe.iterQ (fun _ => ?_) | split)
end Go.Pv

namespace Go.Pv
theorem wpa : wfm = some true := by decide +kernel
theorem wmO : wbD = some true := wiN _ wpa
end Go.Pv

namespace Go.Pv
def wqK (t : List Rule) : Int := IntKind.i64.wrap ((IntKind.i64.wrap (1 * (2 ^ (min ((t.length : Int)).toNat 64)))) - 1)
theorem wnV (t : List Rule) : wb4 t = some (wqK t) := by
 unfold wb4
 have hz : (0 : Int) ≤ (t.length : Int) := by omega
 simp only [wah, hz, if_true]; rfl
theorem wlH {k : Int} {t : List Rule} (h : chk k [t] = 0) (most : Int) : ∀ (n m : Nat) (out : Int), n = k.toNat - m → ∃ v, iter (wbT k t most) (out, (m : Int)) = some v
 | 0, m, out, hn => by
  obtain ⟨h1, h2, _⟩ := wew h
  have h3 : decide ((m : Int) < k) = false := by simp; omega
  rw [wbB]
  unfold wbT
  simp only [h3, Bool.false_and, cond_false, Option.bind_some]
  exact ⟨_, rfl⟩
 | n + 1, m, out, hn => by
  obtain ⟨h1, h2, ht, hf⟩ := wew h
  have h3 : decide ((m : Int) < k) = true := by simp; omega
  have ih := fun out => wlH h most n (m + 1) out (by omega)
  rw [wbB]
  generalize hf0 : wbT k t most = f at ih ⊢
  have hff : f (out, (m : Int)) = cond (decide (out < most)) (some (.inl (IntKind.i64.wrap (out * ((wcg m (wqK t) 0 t [1000]).length : Int)), IntKind.i64.wrap ((m : Int) + 1)))) (some (.inr out)) := by
   rw [← hf0]; unfold wbT
   simp only [h3, Bool.true_and]
   cases decide (out < most) with
   | false => rfl
   | true => simp only [cond_true, wnV, Option.bind_some, wmL t m (wqK t) (by omega) (fun r hr => by have := wjO (hf r hr); omega)]
  rw [hff]
  cases decide (out < most) with
  | false => exact ⟨_, rfl⟩
  | true =>
   simp only [cond_true, Option.bind_some]
   rw [wal (by omega : -9223372036854775808 ≤ (m : Int) + 1 ∧ (m : Int) + 1 ≤ 9223372036854775807), show ((m : Int) + 1) = ((m + 1 : Nat) : Int) by omega]
   exact ih _
theorem wpb (k : Int) (t : List Rule) (most : Int) : ∃ v, wdb k t most = some v := by
 unfold wdb
 rw [wi7 k t, Option.bind_some]
 by_cases h : chk k [t] = 0
 ·rw [decide_eq_false (by simp [h]), cond_false]
  obtain ⟨v, hv⟩ := wlH h most k.toNat 0 1 (by omega)
  rw [show ((0 : Nat) : Int) = 0 from rfl] at hv
  rw [hv]; exact ⟨_, rfl⟩
 ·rw [decide_eq_true (by simpa using h), cond_true]; exact ⟨_, rfl⟩
theorem wpc (t : List Rule) : ∀ (n i : Nat), n = 41 - i → i ≤ 40 → ∃ v, iter (waG t) (i : Int) = some v
 | 0, i, hn, hi => by omega
 | n + 1, i, hn, hi => by
  rw [wbB]
  by_cases hlt : i < t.length
  ·have h1 : decide ((i : Int) < (t.length : Int)) = true := by simp; omega
   have h2 : idx t (i : Int) = some t[i] := by unfold idx; simp [hlt]
   by_cases h40 : i = 40
   ·have h3 : decide (40 ≤ (i : Int)) = true := by simp; omega
    unfold waG
    simp only [h1, h3, cond_true, Option.bind_some]
    exact ⟨_, rfl⟩
   ·have h3 : decide (40 ≤ (i : Int)) = false := by simp; omega
    have ih := wpc t n (i + 1) (by omega) (by omega)
    generalize hf0 : waG t = f at ih ⊢
    have hf : f (i : Int) = cond (decide (20 < (t[i].Bands.length : Int))) (some (.inr (.inr false))) (some (.inl (IntKind.i64.wrap ((i : Int) + 1)))) := by
     rw [← hf0]; unfold waG
     simp only [h1, h3, cond_true, cond_false, Option.bind_some, h2]
    rw [hf]
    cases decide (20 < (t[i].Bands.length : Int)) with
    | true => exact ⟨_, rfl⟩
    | false =>
     simp only [cond_false, Option.bind_some]
     rw [wal (by omega), show ((i : Int) + 1) = ((i + 1 : Nat) : Int) by omega]
     exact ih
  ·have h1 : decide ((i : Int) < (t.length : Int)) = false := by simp; omega
   unfold waG
   simp only [h1, cond_false, Option.bind_some]
   exact ⟨_, rfl⟩
theorem wrl (k : Int) (t : List Rule) : ∃ b, wcz k t = some b := by
 unfold wcz
 obtain ⟨v, hv⟩ := wpc t 41 0 (by omega) (by omega)
 rw [show ((0 : Nat) : Int) = 0 from rfl] at hv
 rw [hv]
 cases v with
 | inl u =>
  obtain ⟨p, hp⟩ := wpb k t 30000
  simp only [Option.bind_some, hp]; exact ⟨_, rfl⟩
 | inr b => exact ⟨b, rfl⟩
end Go.Pv

namespace Go.Pv
end Go.Pv

namespace Go.Pv
end Go.Pv

namespace Go.Pv
theorem wpd {α : Type} [Inhabited α] {l : List α} {i : Int} (h0 : 0 ≤ i) (h1 : i < l.length) : idx l i = some (l.getD i.toNat default) := by
 have : i.toNat < l.length := by omega
 unfold idx; simp [h0, this]
end Go.Pv

namespace Go.Pv
end Go.Pv

namespace Go.Pv
end Go.Pv

namespace Go.Pv
end Go.Pv

namespace Go.Pv
end Go.Pv

namespace Go.Pv
end Go.Pv

namespace Go.Pv
theorem whc {x : Int} (h : 0 ≤ x ∧ x < 4294967296) : IntKind.u32.wrap x = x := by
 have : IntKind.u32.wrap x = x % 4294967296 := by simp [IntKind.wrap, IntKind.bits, IntKind.signed]
 rw [this]; exact Int.emod_eq_of_lt h.1 h.2
theorem wfZ {a : Nat} (h : a < 4294967296) : (BitVec.ofInt IntKind.u32.bits (a : Int)).toNat = a := by
 rw [BitVec.toNat_ofInt, show ((2 ^ IntKind.u32.bits : Nat) : Int) = 4294967296 by decide, Int.emod_eq_of_lt (by omega) (by omega), Int.toNat_natCast]
theorem wj6 {a : Nat} (h : a < 4294967296) : (BitVec.ofInt IntKind.i64.bits (a : Int)).toNat = a := by
 rw [BitVec.toNat_ofInt, show ((2 ^ IntKind.i64.bits : Nat) : Int) = 18446744073709551616 by decide, Int.emod_eq_of_lt (by omega) (by omega), Int.toNat_natCast]
theorem wnq {a b : Nat} (ha : a < 4294967296) (hb : b < 4294967296) : IntKind.u32.wrap ↑(BitVec.ofInt IntKind.u32.bits (a : Int) &&& BitVec.ofInt IntKind.u32.bits (b : Int)).toNat = ((a &&& b : Nat) : Int) := by
 rw [BitVec.toNat_and, wfZ ha, wfZ hb]
 have := Nat.and_le_left (n := a) (m := b)
 exact whc (by omega)
theorem wsH {a b : Nat} (ha : a < 4294967296) (hb : b < 4294967296) : IntKind.u32.wrap ↑(BitVec.ofInt IntKind.u32.bits (a : Int) ||| BitVec.ofInt IntKind.u32.bits (b : Int)).toNat = ((a ||| b : Nat) : Int) := by
 rw [BitVec.toNat_or, wfZ ha, wfZ hb]
 have : a ||| b < 2 ^ 32 := Nat.or_lt_two_pow (by omega) (by omega)
 exact whc (by omega)
theorem wsI {a b : Nat} (ha : a < 4294967296) (hb : b < 4294967296) : IntKind.i64.wrap ↑(BitVec.ofInt IntKind.i64.bits (a : Int) ||| BitVec.ofInt IntKind.i64.bits (b : Int)).toNat = ((a ||| b : Nat) : Int) := by
 rw [BitVec.toNat_or, wj6 ha, wj6 hb]
 have : a ||| b < 2 ^ 32 := Nat.or_lt_two_pow (by omega) (by omega)
 exact wal (by omega)
theorem wnr {i : Nat} (h : i < 32) : IntKind.u32.wrap (1 * (2 ^ (min ((i : Int)).toNat 32))) = ((2 ^ i : Nat) : Int) := by
 rw [Int.toNat_natCast, Nat.min_eq_left (by omega), Int.one_mul]
 have h1 : 2 ^ i < 2 ^ 32 := Nat.pow_lt_pow_right (by omega) h
 have e : (2 : Int) ^ i = ((2 ^ i : Nat) : Int) := by simp
 rw [e]
 generalize (2 : Nat) ^ i = q at h1
 exact whc (by omega)
theorem wp6 {i : Nat} (h : i < 32) : IntKind.i64.wrap (1 * (2 ^ (min ((i : Int)).toNat 64))) = ((2 ^ i : Nat) : Int) := by
 rw [Int.toNat_natCast, Nat.min_eq_left (by omega), Int.one_mul]
 have h1 : 2 ^ i < 2 ^ 32 := Nat.pow_lt_pow_right (by omega) h
 have e : (2 : Int) ^ i = ((2 ^ i : Nat) : Int) := by simp
 rw [e]
 generalize (2 : Nat) ^ i = q at h1
 exact wal (by omega)
theorem wp7 (a i : Nat) : a &&& 2 ^ i = cond (a.testBit i) (2 ^ i) 0 := by
 apply Nat.eq_of_testBit_eq
 intro j
 rw [Nat.testBit_and, Nat.testBit_two_pow]
 by_cases h : i = j
 ·subst h
  cases hb : a.testBit i <;> simp [Nat.testBit_two_pow]
 ·cases hb : a.testBit i <;> simp [Nat.testBit_two_pow, h]
theorem wns (a i : Nat) (hi : i < 64) : decide ((((a : Int)).fdiv (2 ^ (min ((i : Int)).toNat 64))).tmod 2 = 1) = a.testBit i := by
 rw [Int.toNat_natCast, Nat.min_eq_left (by omega)]
 have e : (2 : Int) ^ i = ((2 ^ i : Nat) : Int) := by simp
 rw [e, Int.fdiv_eq_ediv_of_nonneg _ (Int.natCast_nonneg _), ← Int.natCast_ediv, Int.tmod_eq_emod_of_nonneg (Int.natCast_nonneg _)]
 rw [Nat.testBit_eq_decide_div_mod_eq, decide_eq_decide]
 omega
theorem wrX {a i : Nat} (ha : a < 4294967296) (hi : i < 32) : decide (¬(IntKind.u32.wrap ↑(BitVec.ofInt IntKind.u32.bits (a : Int) &&& BitVec.ofInt IntKind.u32.bits (IntKind.u32.wrap (1 * (2 ^ (min ((i : Int)).toNat 32))))).toNat) = 0) = a.testBit i := by
 have h1 : 2 ^ i < 2 ^ 32 := Nat.pow_lt_pow_right (by omega) hi
 rw [wnr hi, wnq ha (by omega), wp7]
 have h2 : 0 < 2 ^ i := Nat.two_pow_pos i
 generalize (2 : Nat) ^ i = q at h2
 cases a.testBit i with
 | true => rw [cond_true]; exact decide_eq_true (by omega)
 | false => rfl
def wf0 {α : Type} (p : α → Bool) : Nat → List α → Nat
 | _, [] => 0
 | i, x :: l => (cond (p x) (2 ^ i) 0) ||| wf0 p (i + 1) l
theorem wiy {α : Type} (p : α → Bool) : ∀ (l : List α) (i j : Nat), (wf0 p i l).testBit j = (decide (i ≤ j) && ((l[j - i]?).map p).getD false)
 | [], i, j => by simp [wf0]
 | x :: l, i, j => by
  rw [wf0, Nat.testBit_or, wiy p l (i + 1) j]
  by_cases h : i ≤ j
  ·by_cases h2 : i = j
   ·subst h2
    cases hp : p x with
    | true => simp [hp]
    | false => simp [hp]; intro h3; omega
   ·have e1 : (cond (p x) (2 ^ i) 0).testBit j = false := by
     cases p x with
     | true => exact Nat.testBit_two_pow_of_ne h2
     | false => simp
    rw [e1, show j - i = (j - (i + 1)) + 1 by omega, List.getElem?_cons_succ]
    simp [h, show i + 1 ≤ j by omega]
  ·have e1 : (cond (p x) (2 ^ i) 0).testBit j = false := by
    cases p x with
    | true => exact Nat.testBit_two_pow_of_ne (by omega)
    | false => simp
   rw [e1]
   simp [h, show ¬ i + 1 ≤ j by omega]
theorem wpe {α : Type} (p : α → Bool) : ∀ (l : List α) (i n : Nat), i + l.length ≤ n → wf0 p i l < 2 ^ n
 | [], i, n, _ => Nat.two_pow_pos n
 | x :: l, i, n, h => by
  simp only [List.length_cons] at h
  refine Nat.or_lt_two_pow ?_ (wpe p l (i + 1) n (by omega))
  cases p x with
  | true => exact Nat.pow_lt_pow_right (by omega) (by omega)
  | false => exact Nat.two_pow_pos n
def inB (mark : Nat) (x : Int) (r : Rule) : Bool := (decide ((wav r mark).Lo ≤ x)) && (decide (x < (wav r mark).Hi))
def wca (t : List Rule) (mark : Nat) (x : Int) : Nat := wf0 (inB mark x) 0 t
theorem wjP {r : Rule} {mark : Nat} (h : mark < r.Bands.length) : idx r.Bands (mark : Int) = some (wav r mark) := by
 rw [wpd (by omega) (by omega), Int.toNat_natCast]; rfl
theorem wnW (t : List Rule) (mark : Nat) (x : Int) (ht : t.length ≤ 24) (hm : ∀ r ∈ t, mark < r.Bands.length) : ∀ (n i : Nat) (out : Nat), n = t.length - i → out < 2 ^ 24 → iter (wcQ t (mark : Int) x) ((out : Int), (i : Int)) = some ((out ||| wf0 (inB mark x) i (t.drop i) : Nat) : Int)
 | 0, i, out, hn, ho => by
  have h1 : decide ((i : Int) < (t.length : Int)) = false := by simp; omega
  rw [wdu (t) (by omega)]
  refine wbu ?_
  unfold wcQ
  simp only [h1, cond_false, wf0, Nat.or_zero]
 | n + 1, i, out, hn, ho => by
  have hi : i < t.length := by omega
  have h1 : decide ((i : Int) < (t.length : Int)) = true := by simp; omega
  have h2 : idx t (i : Int) = some t[i] := by unfold idx; simp [hi]
  have hmi := hm t[i] (List.getElem_mem hi)
  have hp : (2 : Nat) ^ i < 2 ^ 24 := Nat.pow_lt_pow_right (by omega) (by omega)
  rw [List.drop_eq_getElem_cons hi, wf0]
  have ho2 : out ||| cond (inB mark x t[i]) (2 ^ i) 0 < 2 ^ 24 := Nat.or_lt_two_pow ho (by cases inB mark x t[i] <;> simp <;> omega)
  have ih := wnW t mark x ht hm n (i + 1) (out ||| cond (inB mark x t[i]) (2 ^ i) 0) (by omega) ho2
  rw [Nat.or_assoc] at ih
  refine wcB ?_ ih
  unfold wcQ
  simp only [h1, cond_true, h2, Option.bind_some, wjP hmi]
  have e : ((decide ((wav t[i] mark).Lo ≤ x)) && (decide (x < (wav t[i] mark).Hi))) = inB mark x t[i] := rfl
  rw [e, wal (by omega)]
  cases inB mark x t[i] with
  | true =>
   simp only [cond_true]
   rw [wbV (by omega), wnr (by omega), wsH (by omega) (by omega)]
   rfl
  | false => simp only [cond_false, Nat.or_zero, Option.bind_some]; rfl
theorem wp8 (t : List Rule) (mark : Nat) (x : Int) (ht : t.length ≤ 24) (hm : ∀ r ∈ t, mark < r.Bands.length) : wbH t (mark : Int) x = some (wca t mark x : Int) := by
 unfold wbH
 have h := wnW t mark x ht hm t.length 0 0 (by omega) (by omega)
 rw [Nat.zero_or, List.drop_zero, show (((0 : Nat) : Int), ((0 : Nat) : Int)) = ((0 : Int), (0 : Int)) from rfl] at h
 rw [h]; rfl
theorem wnX (t : List Rule) (mark : Nat) (a : Nat) (x : Int) (ht : t.length ≤ 24) (hm : ∀ r ∈ t, mark < r.Bands.length) : ∀ (n i : Nat) (out : Nat), n = t.length - i → out < 2 ^ 24 → iter (wcZ t (mark : Int) (a : Int) x) ((out : Int), (i : Int)) = some ((out ||| (a &&& wf0 (inB mark x) i (t.drop i)) : Nat) : Int)
 | 0, i, out, hn, ho => by
  have h1 : decide ((i : Int) < (t.length : Int)) = false := by simp; omega
  rw [wdu (t) (by omega)]
  refine wbu ?_
  unfold wcZ
  simp only [h1, cond_false, wf0, Nat.and_zero, Nat.or_zero]
 | n + 1, i, out, hn, ho => by
  have hi : i < t.length := by omega
  have h1 : decide ((i : Int) < (t.length : Int)) = true := by simp; omega
  have h2 : idx t (i : Int) = some t[i] := by unfold idx; simp [hi]
  have hmi := hm t[i] (List.getElem_mem hi)
  have hp : (2 : Nat) ^ i < 2 ^ 24 := Nat.pow_lt_pow_right (by omega) (by omega)
  rw [List.drop_eq_getElem_cons hi, wf0]
  have hb : a &&& (cond (inB mark x t[i]) (2 ^ i) 0) = cond (a.testBit i && inB mark x t[i]) (2 ^ i) 0 := by
   cases inB mark x t[i] with
   | true => rw [cond_true, wp7]; cases a.testBit i <;> simp
   | false => simp
  have ho2 : out ||| cond (a.testBit i && inB mark x t[i]) (2 ^ i) 0 < 2 ^ 24 := Nat.or_lt_two_pow ho (by cases (a.testBit i && inB mark x t[i]) <;> simp <;> omega)
  have ih := wnX t mark a x ht hm n (i + 1) (out ||| cond (a.testBit i && inB mark x t[i]) (2 ^ i) 0) (by omega) ho2
  rw [Nat.and_or_distrib_left, hb, ← Nat.or_assoc]
  refine wcB ?_ ih
  unfold wcZ
  simp only [h1, cond_true, h2, Option.bind_some, wjP hmi]
  have hw : IntKind.i64.wrap ((i : Int) + 1) = ((i + 1 : Nat) : Int) := by rw [wal (by omega)]; rfl
  rw [wbV (by omega), wns a i (by omega), hw]
  cases a.testBit i with
  | false => simp only [cond_false, Option.bind_some, Bool.false_and, Nat.or_zero]
  | true =>
   simp only [cond_true, Option.bind_some, Bool.true_and]
   have e : inB mark x t[i] = ((decide ((wav t[i] mark).Lo ≤ x)) && (decide (x < (wav t[i] mark).Hi))) := rfl
   rw [e]
   cases decide ((wav t[i] mark).Lo ≤ x) with
   | false => simp only [cond_false, Option.bind_some, Bool.false_and, Nat.or_zero]
   | true =>
    simp only [cond_true, Option.bind_some, Bool.true_and]
    cases decide (x < (wav t[i] mark).Hi) with
    | false => simp only [cond_false, Option.bind_some, Nat.or_zero]
    | true =>
     simp only [cond_true]
     rw [wbV (by omega), wp6 (by omega), wsI (by omega) (by omega)]
     rfl
theorem wp9 (t : List Rule) (mark : Nat) (a : Nat) (x : Int) (ht : t.length ≤ 24) (hm : ∀ r ∈ t, mark < r.Bands.length) : waV t (mark : Int) (a : Int) x = some ((a &&& wca t mark x : Nat) : Int) := by
 unfold waV
 have h := wnX t mark a x ht hm t.length 0 0 (by omega) (by omega)
 rw [Nat.zero_or, List.drop_zero, show (((0 : Nat) : Int), ((0 : Nat) : Int)) = ((0 : Int), (0 : Int)) from rfl] at h
 rw [h]; rfl
end Go.Pv

namespace Go.Pv
def wbS (a : Nat) : Nat → Nat → Option Nat
 | _, 0 => none
 | i, n + 1 => cond (a.testBit i) (some i) (wbS a (i + 1) n)
def wdY (a : Nat) : Int := match wbS a 0 24 with | some i => (i : Int) | none => -1
theorem wj7 (a : Nat) (ha : a < 4294967296) : ∀ (n i : Nat), n = 24 - i → iter (wbn (a : Int)) (i : Int) = some (match wbS a i n with | some j => .inr (j : Int) | none => .inl ())
 | 0, i, hn => by
  refine wbu ?_
  unfold wbn
  rw [decide_eq_false (by omega)]; rfl
 | n + 1, i, hn => by
  rw [wbB]
  have hf : wbn (a : Int) (i : Int) = cond (a.testBit i) (some (.inr (.inr (i : Int)))) (some (.inl ((i + 1 : Nat) : Int))) := by
   unfold wbn
   rw [decide_eq_true (by omega), cond_true, wbV (by omega), wrX ha (by omega), wal (by omega)]
   rfl
  rw [hf]
  simp only [wbS]
  cases a.testBit i with
  | true => rfl
  | false => exact wj7 a ha n (i + 1) (by omega)
theorem wlI (a : Nat) (ha : a < 4294967296) : waU (a : Int) = some (wdY a) := by
 unfold waU wdY
 have h := wj7 a ha 24 0 (by omega)
 rw [show ((0 : Nat) : Int) = 0 from rfl] at h
 rw [h]
 cases wbS a 0 24 <;> rfl
theorem wja {a : Nat} : ∀ {n i : Nat}, (∃ j, i ≤ j ∧ j < i + n ∧ a.testBit j = true) → ∃ j, wbS a i n = some j
 | 0, i, ⟨j, h1, h2, _⟩ => by omega
 | n + 1, i, ⟨j, h1, h2, h3⟩ => by
  simp only [wbS]
  cases hb : a.testBit i with
  | true => exact ⟨i, rfl⟩
  | false =>
   have : i ≠ j := by intro e; subst e; rw [hb] at h3; cases h3
   exact wja ⟨j, by omega, by omega, h3⟩
theorem wj8 (a : Nat) : ∀ (n i j : Nat), n = 24 - i → wbS a i n = some j → iter (wcE (a : Int)) (i : Int) = some (j : Int)
 | 0, i, j, _, h => by cases h
 | n + 1, i, j, hn, h => by
  rw [wbB]
  have hf : wcE (a : Int) (i : Int) = cond (a.testBit i) (some (.inr (i : Int))) (some (.inl ((i + 1 : Nat) : Int))) := by
   unfold wcE
   have hb := wns a i (by omega)
   rw [wbV (by omega), wal (by omega)]
   have h2 : (((a : Int)).fdiv (2 ^ (min ((i : Int)).toNat 64))).tmod 2 = 0 ∨ (((a : Int)).fdiv (2 ^ (min ((i : Int)).toNat 64))).tmod 2 = 1 := by
    rw [Int.toNat_natCast, Nat.min_eq_left (by omega)]
    have e : (2 : Int) ^ i = ((2 ^ i : Nat) : Int) := by simp
    rw [e, Int.fdiv_eq_ediv_of_nonneg _ (Int.natCast_nonneg _), ← Int.natCast_ediv, Int.tmod_eq_emod_of_nonneg (Int.natCast_nonneg _)]
    omega
   rcases h2 with h2 | h2
   ·rw [h2] at hb ⊢
    rw [← hb]; rfl
   ·rw [h2] at hb ⊢
    rw [← hb]; rfl
  rw [hf]
  simp only [wbS] at h
  cases hb : a.testBit i with
  | true => rw [hb] at h; cases h; rfl
  | false => rw [hb] at h; exact wj8 a n (i + 1) j (by omega) h
theorem wpT (a : Nat) (ha : a < 2 ^ 24) : wdp (a : Int) = some (wdY a) := by
 unfold wdp wdY
 by_cases h0 : a = 0
 ·subst h0
  have : wbS 0 0 24 = none := by decide
  rw [this]; rfl
 ·have h1 : decide (((a : Nat) : Int) = 0) = false := decide_eq_false (by omega)
  obtain ⟨j, hj⟩ : ∃ j, wbS a 0 24 = some j := by
   obtain ⟨j, hj⟩ := Nat.exists_testBit_of_ne_zero h0
   refine wja ⟨j, by omega, ?_, hj⟩
   refine Nat.lt_of_not_le fun hge => ?_
   have : a < 2 ^ j := Nat.lt_of_lt_of_le ha (Nat.pow_le_pow_right (by omega) (by omega))
   rw [Nat.testBit_lt_two_pow this] at hj
   cases hj
  have h := wj8 a 24 0 j (by omega) hj
  rw [show ((0 : Nat) : Int) = 0 from rfl] at h
  rw [h1, cond_false, h, hj]; rfl
def wiz (t : List Rule) (a : Nat) : Int := if wdY a < 0 then -1 else (t.getD (wdY a).toNat default).Code
theorem wj9 {a : Nat} : ∀ {n i j : Nat}, wbS a i n = some j → a.testBit j = true ∧ j < i + n
 | 0, i, j, h => by cases h
 | n + 1, i, j, h => by
  simp only [wbS] at h
  cases hb : a.testBit i with
  | true => rw [hb] at h; cases h; exact ⟨hb, by omega⟩
  | false =>
   rw [hb] at h
   obtain ⟨h1, h2⟩ := wj9 (n := n) h
   exact ⟨h1, by omega⟩
theorem wnY {a n : Nat} (ha : a < 2 ^ n) (h : ¬ wdY a < 0) : (wdY a).toNat < n := by
 unfold wdY at h ⊢
 cases hf : wbS a 0 24 with
 | none => rw [hf] at h; exact absurd (by decide) h
 | some j =>
  obtain ⟨h1, _⟩ := wj9 hf
  simp only [Int.toNat_natCast]
  refine Nat.lt_of_not_le fun hge => ?_
  have : a < 2 ^ j := Nat.lt_of_lt_of_le ha (Nat.pow_le_pow_right (by omega) hge)
  rw [Nat.testBit_lt_two_pow this] at h1
  cases h1
theorem wnZ (t : List Rule) (a : Nat) (ha : a < 2 ^ t.length) : wdj t (wdY a) = some (wiz t a) := by
 unfold wdj wiz
 by_cases h : wdY a < 0
 ·rw [decide_eq_true h, if_pos h]; rfl
 ·have := wnY ha h
  rw [decide_eq_false h, if_neg h, cond_false, wpd (by omega) (by omega)]; rfl
theorem wpf (t : List Rule) (a : Nat) (ht : t.length ≤ 24) (ha : a < 2 ^ t.length) : wc0 t (a : Int) = some (wiz t a) := by
 unfold wc0 wiz
 have ha2 : a < 2 ^ 24 := Nat.lt_of_lt_of_le ha (Nat.pow_le_pow_right (by omega) ht)
 rw [wpT a ha2, Option.bind_some]
 by_cases h : wdY a < 0
 ·rw [decide_eq_true h, if_pos h]; rfl
 ·have := wnY ha h
  rw [decide_eq_false h, if_neg h, cond_false, wpd (by omega) (by omega)]; rfl
def wdm (t : List Rule) : Nat := 2 ^ t.length - 1
theorem wjb (t : List Rule) : wdm t < 2 ^ t.length := by
 have := Nat.two_pow_pos t.length
 unfold wdm; omega
theorem wpg (t : List Rule) (ht : t.length ≤ 24) : wbZ t = some (wdm t : Int) := by
 unfold wbZ wdm
 have h1 : 2 ^ t.length ≤ 2 ^ 24 := Nat.pow_le_pow_right (by omega) ht
 have h2 := Nat.two_pow_pos t.length
 rw [wbV (by omega), wnr (by omega)]
 generalize (2 : Nat) ^ t.length = q at h1 h2
 rw [whc (by omega)]
 congr 1; omega
theorem wqa (t : List Rule) (ht : t.length ≤ 24) : wb4 t = some (wdm t : Int) := by
 rw [wnV]
 unfold wqK wdm
 have h1 : 2 ^ t.length ≤ 2 ^ 24 := Nat.pow_le_pow_right (by omega) ht
 have h2 := Nat.two_pow_pos t.length
 rw [wp6 (by omega)]
 generalize (2 : Nat) ^ t.length = q at h1 h2
 rw [wal (by omega)]
 congr 1; omega
end Go.Pv

set_option linter.unusedSimpArgs false
set_option linter.unusedVariables false
namespace Go.Pv
open Go.Lib
theorem wnt {s : List Int} (hs : s.Pairwise (· ≤ ·)) : (compactI s).Pairwise (· < ·) ∧ ∀ x, x ∈ compactI s ↔ x ∈ s := by
 have hle : ∀ i j : Nat, i ≤ j → j < s.length → s.toArray[i]! ≤ s.toArray[j]! := fun i j hij hj => by
  have h1 : s.toArray[i]! = s[i]'(by omega) := by simp [show i < s.length by omega]
  have h2 : s.toArray[j]! = s[j] := by simp [hj]
  rw [h1, h2]
  rcases Nat.lt_or_ge i j with h | h
  ·exact List.pairwise_iff_getElem.1 hs i j (by omega) hj h
  ·have : i = j := by omega
   subst this; exact Int.le_refl _
 have key : ∀ m : Nat, m ≤ s.length → (compactUpTo s.toArray m).Pairwise (· < ·) ∧ (∀ x ∈ compactUpTo s.toArray m, ∃ j, j < m ∧ x = s.toArray[j]!) ∧ ∀ j, j < m → s.toArray[j]! ∈ compactUpTo s.toArray m := by
  intro m
  induction m with
  | zero => intro _; exact ⟨by simp [compactUpTo], fun x hx => by simp [compactUpTo] at hx, fun j hj => absurd hj (by omega)⟩
  | succ m ih =>
   intro hm
   obtain ⟨h1, h2, h3⟩ := ih (by omega)
   rw [compactUpTo_succ]
   cases hk : keeps s.toArray m with
   | true =>
    simp only [if_true]
    refine ⟨?_, fun x hx => ?_, fun j hj => ?_⟩
    ·rw [List.pairwise_append]
     refine ⟨h1, by simp, fun x hx y hy => ?_⟩
     have hy := List.mem_singleton.1 hy
     obtain ⟨j, hj, e⟩ := h2 x hx
     simp only [keeps, decide_eq_true_eq] at hk
     have a1 := hle j (m - 1) (by omega) (by omega)
     have a2 := hle (m - 1) m (by omega) (by omega)
     rw [e, hy]
     rcases hk with h | h
     ·omega
     ·omega
    ·rcases List.mem_append.1 hx with h | h
     ·obtain ⟨j, hj, e⟩ := h2 x h
      exact ⟨j, by omega, e⟩
     ·simp only [List.mem_singleton] at h
      exact ⟨m, by omega, h⟩
    ·rcases Nat.lt_or_ge j m with h | h
     ·exact List.mem_append_left _ (h3 j h)
     ·have : j = m := by omega
      subst this
      exact List.mem_append_right _ (List.mem_singleton.2 rfl)
   | false =>
    simp only [Bool.false_eq_true, if_false, List.append_nil]
    refine ⟨h1, fun x hx => ?_, fun j hj => ?_⟩
    ·obtain ⟨j, hj, e⟩ := h2 x hx
     exact ⟨j, by omega, e⟩
    ·rcases Nat.lt_or_ge j m with h | h
     ·exact h3 j h
     ·have : j = m := by omega
      subst this
      simp only [keeps, decide_eq_false_iff_not] at hk
      have e : s.toArray[j]! = s.toArray[j - 1]! := by
       refine Classical.byContradiction fun h => hk (.inr h)
      rw [e]
      refine h3 (j - 1) ?_
      have : j ≠ 0 := fun h => hk (.inl h)
      omega
 obtain ⟨h1, h2, h3⟩ := key s.length (Nat.le_refl _)
 unfold compactI compact
 refine ⟨h1, fun x => ⟨fun hx => ?_, fun hx => ?_⟩⟩
 ·obtain ⟨j, hj, e⟩ := h2 x hx
  rw [e, show s.toArray[j]! = s[j] by simp [hj]]
  exact List.getElem_mem hj
 ·obtain ⟨j, hj, rfl⟩ := List.getElem_of_mem hx
  rw [show s[j] = s.toArray[j]! by simp [hj]]
  exact h3 j hj
theorem wqL (l : List Int) : (sortI l).Perm l := by unfold sortI; exact List.mergeSort_perm l _
theorem wph (l : List Int) : (sortI l).Pairwise (· ≤ ·) := by
 unfold sortI
 have := List.pairwise_mergeSort (le := fun x y : Int => decide (x ≤ y)) (fun a b c h1 h2 => by simp at *; omega) (fun a b => by simp; omega) l
 simpa using this
theorem wrY (l : List Int) : List.take ((compactI l).length) (waH l) = compactI l := by
 unfold waH; simp
def wgF (mark : Nat) (t : List Rule) : List Int := t.flatMap fun r => [(wav r mark).Lo, (wav r mark).Hi]
theorem wjQ (mark : Nat) : ∀ t : List Rule, (wgF mark t).length = 2 * t.length
 | [] => rfl
 | r :: t => by
  have := wjQ mark t
  unfold wgF at this ⊢
  simp only [List.flatMap_cons, List.length_append, List.length_cons, List.length_nil, this]; omega
theorem wmP (mark : Nat) (t : List Rule) (ht : t.length ≤ 24) (hm : ∀ r ∈ t, mark < r.Bands.length) : ∀ (n i : Nat) (L : List Int), n = t.length - i → L.length + 2 * n ≤ 1000 → iter (wcO (mark : Int) t) ((i : Int), L) = some (L ++ wgF mark (t.drop i))
 | 0, i, L, hn, hL => by
  rw [wdu (t) (by omega)]
  refine wbu ?_
  unfold wcO
  dsimp only
  rw [decide_eq_false (by omega)]
  simp [wgF]
 | n + 1, i, L, hn, hL => by
  have hi : i < t.length := by omega
  have h2 : idx t (i : Int) = some t[i] := by unfold idx; simp [hi]
  have hmi := hm t[i] (List.getElem_mem hi)
  have ih := wmP mark t ht hm n (i + 1) (L ++ [(wav t[i] mark).Lo, (wav t[i] mark).Hi]) (by omega) (by simp; omega)
  rw [List.append_assoc] at ih
  rw [List.drop_eq_getElem_cons hi]
  refine wcB ?_ ih
  unfold wcO
  dsimp only
  rw [decide_eq_true (by omega), cond_true, h2]
  simp only [Option.bind_some, wjP hmi]
  rw [wbV (by simp; omega), wal (by omega)]
  rfl
theorem wmQ (mark : Nat) (ts : List (List Rule)) (hts : ts.length ≤ 2) (ht : ∀ t ∈ ts, t.length ≤ 24 ∧ ∀ r ∈ t, mark < r.Bands.length) : ∀ (n i : Nat) (L : List Int), n = ts.length - i → L.length + 48 * n ≤ 900 → iter (wcP (mark : Int) ts) ((i : Int), L) = some (L ++ (ts.drop i).flatMap (wgF mark))
 | 0, i, L, hn, hL => by
  rw [wdu (ts) (by omega)]
  refine wbu ?_
  unfold wcP
  dsimp only
  rw [decide_eq_false (by omega)]
  simp
 | n + 1, i, L, hn, hL => by
  have hi : i < ts.length := by omega
  have h2 : idx ts (i : Int) = some ts[i] := by unfold idx; simp [hi]
  obtain ⟨hl, hmi⟩ := ht ts[i] (List.getElem_mem hi)
  have hlen := wjQ mark ts[i]
  have ih := wmQ mark ts hts ht n (i + 1) (L ++ wgF mark ts[i]) (by omega) (by simp; omega)
  rw [List.append_assoc] at ih
  rw [List.drop_eq_getElem_cons hi]
  refine wcB ?_ ih
  unfold wcP
  dsimp only
  have h3 := wmP mark ts[i] hl hmi ts[i].length 0 L (by omega) (by omega)
  rw [show ((0 : Nat) : Int) = 0 from rfl, List.drop_zero] at h3
  rw [decide_eq_true (by omega), cond_true, h2]
  simp only [Option.bind_some]
  rw [h3, wal (by omega)]
  rfl
structure Cuts (mark : Nat) (ts : List (List Rule)) (cs : List Int) : Prop where
 up : cs.Pairwise (· < ·)
 pos : ∀ c ∈ cs, 0 < c ∧ c ≤ 1000
 last : (1000 : Int) ∈ cs
 lo : ∀ t ∈ ts, ∀ r ∈ t, 0 < (wav r mark).Lo → (wav r mark).Lo ∈ cs
 hi : ∀ t ∈ ts, ∀ r ∈ t, (wav r mark).Hi ∈ cs
theorem wrm (mark : Nat) (ts : List (List Rule)) (hts : ts.length ≤ 2) (ht : ∀ t ∈ ts, t.length ≤ 24 ∧ ∀ r ∈ t, mark < r.Bands.length) (hb : ∀ t ∈ ts, ∀ r ∈ t, 0 ≤ (wav r mark).Lo ∧ (wav r mark).Lo < (wav r mark).Hi ∧ (wav r mark).Hi ≤ 1000) :
  ∃ cs, wbG (mark : Int) ts = some cs ∧ Cuts mark ts cs ∧ cs.length ≤ 97 := by
 unfold wbG
 have h1 := wmQ mark ts hts ht ts.length 0 [1000] (by omega) (by simp; omega)
 rw [show ((0 : Nat) : Int) = 0 from rfl, List.drop_zero] at h1
 rw [h1]
 simp only [Option.bind_some]
 generalize hL : [1000] ++ ts.flatMap (wgF mark) = L
 have hlen : L.length ≤ 97 := by
  rw [← hL]
  have : ∀ l : List (List Rule), (∀ t ∈ l, t.length ≤ 24) → (l.flatMap (wgF mark)).length ≤ 48 * l.length := fun l => by
   induction l with
   | nil => simp
   | cons t l ih =>
    intro h
    have a := ih fun t ht => h t (List.mem_cons_of_mem _ ht)
    have b := wjQ mark t
    have c := h t (List.mem_cons_self ..)
    simp only [List.flatMap_cons, List.length_append, List.length_cons]; omega
  have := this ts fun t h => (ht t h).1
  simp only [List.length_append, List.length_cons, List.length_nil]; omega
 have hmem : ∀ x, x ∈ L ↔ x = 1000 ∨ ∃ t ∈ ts, ∃ r ∈ t, x = (wav r mark).Lo ∨ x = (wav r mark).Hi := fun x => by
  rw [← hL]
  simp [wgF]
 have hge : ∀ x ∈ L, 0 ≤ x ∧ x ≤ 1000 := fun x hx => by
  rcases (hmem x).1 hx with rfl | ⟨t, ht1, r, hr, h | h⟩
  ·omega
  ·have := hb t ht1 r hr; omega
  ·have := hb t ht1 r hr; omega
 rw [wbV (by omega), wbV (by rw [sortI_length]; omega), wrY]
 obtain ⟨hup, hcm⟩ := wnt (wph L)
 have hcm2 : ∀ x, x ∈ compactI (sortI L) ↔ x ∈ L := fun x => (hcm x).trans (wqL L).mem_iff
 have hcl : (compactI (sortI L)).length ≤ L.length := by
  refine Nat.le_trans ?_ (Nat.le_of_eq (sortI_length L))
  unfold compactI Go.Lib.compact compactUpTo
  rw [List.length_map]
  exact Nat.le_trans (List.length_filter_le _ _) (by simp)
 have h1000 : (1000 : Int) ∈ compactI (sortI L) := (hcm2 _).2 ((hmem _).2 (.inl rfl))
 generalize compactI (sortI L) = C at hup hcm2 hcl h1000
 cases C with
 | nil => simp at h1000
 | cons c C =>
  have e0 : idx (c :: C) 0 = some c := rfl
  rw [e0]
  simp only [Option.bind_some]
  rw [List.pairwise_cons] at hup
  by_cases hc : c = 0
  ·subst hc
   rw [decide_eq_true rfl, cond_true, wbV (by simp; omega)]
   have e1 : ((0 :: C).drop 1).take (((((0 : Int) :: C).length : Int)) - 1).toNat = C := by
    simp
   rw [e1]
   refine ⟨C, rfl, ⟨hup.2, fun x hx => ⟨hup.1 x hx, (hge x ((hcm2 x).1 (List.mem_cons_of_mem _ hx))).2⟩, ?_, fun t h1 r h2 h3 => ?_, fun t h1 r h2 => ?_⟩, by simp at hcl; omega⟩
   ·rcases List.mem_cons.1 h1000 with h | h
    ·omega
    ·exact h
   ·rcases List.mem_cons.1 ((hcm2 _).2 ((hmem _).2 (.inr ⟨t, h1, r, h2, .inl rfl⟩))) with h | h
    ·omega
    ·exact h
   ·rcases List.mem_cons.1 ((hcm2 _).2 ((hmem _).2 (.inr ⟨t, h1, r, h2, .inr rfl⟩))) with h | h
    ·have := hb t h1 r h2; omega
    ·exact h
  ·rw [decide_eq_false hc, cond_false]
   have hc0 := hge c ((hcm2 c).1 (List.mem_cons_self ..))
   refine ⟨c :: C, rfl, ⟨List.pairwise_cons.2 hup, fun x hx => ⟨?_, (hge x ((hcm2 x).1 hx)).2⟩, h1000, fun t h1 r h2 h3 => (hcm2 _).2 ((hmem _).2 (.inr ⟨t, h1, r, h2, .inl rfl⟩)), fun t h1 r h2 => (hcm2 _).2 ((hmem _).2 (.inr ⟨t, h1, r, h2, .inr rfl⟩))⟩, by omega⟩
   rcases List.mem_cons.1 hx with rfl | hx
   ·omega
   ·have := hup.1 x hx; omega
end Go.Pv

namespace Go.Pv
def weN (t : List Rule) : Nat → Nat → List Int → Nat
 | _, a, [] => a
 | mark, a, x :: xs => weN t (mark + 1) (a &&& wca t mark x) xs
def Pts (n : Nat) (xs : List Int) : Prop := xs.length = n ∧ ∀ x ∈ xs, 0 ≤ x ∧ x < 1000
def wiA : List Int → List Int → Prop
 | [], _ => True
 | _ :: _, [] => False
 | x :: xs, y :: ys => x < y ∨ (x = y ∧ wiA xs ys)
theorem wmR : ∀ {xs ys : List Int}, xs.length = ys.length → wiA xs ys → wiA ys xs → xs = ys
 | [], [], _, _, _ => rfl
 | [], _ :: _, h, _, _ => by simp at h
 | _ :: _, [], h, _, _ => by simp at h
 | x :: xs, y :: ys, h, h1, h2 => by
  simp only [wiA] at h1 h2
  have e : x = y := by omega
  subst e
  have h3 : wiA xs ys := h1.elim (fun h => by omega) (fun h => h.2)
  have h4 : wiA ys xs := h2.elim (fun h => by omega) (fun h => h.2)
  rw [wmR (by simpa using h) h3 h4]
structure Ans (s t : List Rule) (P : Nat → Nat → Bool) (mark n a b : Nat) (f : Bool) (xs : List Int) : Prop where
 hit : f = true → Pts n xs ∧ P (weN s mark a xs) (weN t mark b xs) = true ∧ ∀ ys, Pts n ys → P (weN s mark a ys) (weN t mark b ys) = true → wiA xs ys
 miss : f = false → xs = [] ∧ ∀ ys, Pts n ys → P (weN s mark a ys) (weN t mark b ys) = false
theorem Ans.uniq {s t : List Rule} {P : Nat → Nat → Bool} {mark n a b : Nat} {f g : Bool} {xs ys : List Int} (h : Ans s t P mark n a b f xs) (h' : Ans s t P mark n a b g ys) : f = g ∧ xs = ys := by
 cases f with
 | true =>
  obtain ⟨h1, h2, h3⟩ := h.hit rfl
  cases g with
  | true =>
   obtain ⟨g1, g2, g3⟩ := h'.hit rfl
   exact ⟨rfl, wmR (h1.1.trans g1.1.symm) (h3 _ g1 g2) (g3 _ h1 h2)⟩
  | false =>
   have := (h'.miss rfl).2 _ h1
   rw [h2] at this; cases this
 | false =>
  obtain ⟨h1, h2⟩ := h.miss rfl
  cases g with
  | true =>
   obtain ⟨g1, g2, g3⟩ := h'.hit rfl
   have := h2 _ g1
   rw [g2] at this; cases this
  | false => exact ⟨rfl, h1.trans (h'.miss rfl).1.symm⟩
def wib (mark : Nat) (t : List Rule) (a : Nat) (cs : List Int) : Prop :=
 ∀ (i : Nat) (r : Rule), t[i]? = some r → a.testBit i = true → (0 < (wav r mark).Lo → (wav r mark).Lo ∈ cs) ∧ (wav r mark).Hi ∈ cs
theorem wmS {mark : Nat} {t : List Rule} {a : Nat} {cs : List Int} (h : wib mark t a cs) {u x : Int} (h0 : 0 ≤ u) (hu : u ≤ x) (hc : ∀ c ∈ cs, ¬ (u < c ∧ c ≤ x)) : a &&& wca t mark x = a &&& wca t mark u := by
 apply Nat.eq_of_testBit_eq
 intro j
 rw [Nat.testBit_and, Nat.testBit_and]
 unfold wca
 rw [wiy, wiy]
 cases hb : a.testBit j with
 | false => simp
 | true =>
  cases ht : t[j]? with
  | none => simp [ht]
  | some r =>
   obtain ⟨h1, h2⟩ := h j r ht hb
   have e : inB mark x r = inB mark u r := by
    unfold inB
    have e1 : decide ((wav r mark).Lo ≤ x) = decide ((wav r mark).Lo ≤ u) := by
     rw [decide_eq_decide]
     constructor
     ·intro h3
      refine Int.not_lt.1 fun h4 => ?_
      exact hc _ (h1 (by omega)) ⟨h4, h3⟩
     ·intro h3; omega
    have e2 : decide (x < (wav r mark).Hi) = decide (u < (wav r mark).Hi) := by
     rw [decide_eq_decide]
     constructor
     ·intro h3; omega
     ·intro h3
      refine Int.not_le.1 fun h4 => ?_
      exact hc _ h2 ⟨h3, h4⟩
    rw [e1, e2]
   simp [ht, e]
def wfS {σ : Type} (rec : σ → Int → Option (List Int × Bool × σ)) : Int → List Int → σ → Option (σ ⊕ (List Int × Bool × σ))
 | _, [], M => some (.inl M)
 | u, c :: cs, M => (rec M u).bind fun r => cond r.2.1 (wah (1 + r.1.length ≤ 4294967296) (some (.inr (u :: r.1, true, r.2.2)))) (wfS rec c cs r.2.2)
theorem wl3 {σ : Type} {rec : σ → Int → Option (List Int × Bool × σ)} {s t : List Rule} {P : Nat → Nat → Bool} {mark n a b : Nat} (J : σ → Prop) (sz : σ → Nat) (B C : Nat) (hn : n ≤ 1000) {all : List Int} (hs : wib mark s a all) (ht : wib mark t b all)
  (hrec : ∀ M u, J M → sz M + B ≤ C → 0 ≤ u → u < 1000 → ∃ xs f M', rec M u = some (xs, f, M') ∧ J M' ∧ sz M' ≤ sz M + B ∧ Ans s t P (mark + 1) n (a &&& wca s mark u) (b &&& wca t mark u) f xs) :
  ∀ (cs : List Int) (u : Int) (M : σ), J M → sz M + cs.length * B ≤ C → 0 ≤ u → (u :: cs).Pairwise (· < ·) → (∀ c ∈ all, u < c → c ∈ cs) → (∀ c ∈ cs, c ≤ 1000) → (u < 1000 → (1000 : Int) ∈ cs) → (u = 1000 ∨ u < 1000) → (∀ y ys, 0 ≤ y → y < u → Pts n ys → P (weN s mark a (y :: ys)) (weN t mark b (y :: ys)) = false) →
   ∃ r, wfS rec u cs M = some r ∧ match r with
    | .inl M' => J M' ∧ sz M' ≤ sz M + cs.length * B ∧ Ans s t P mark (n + 1) a b false []
    | .inr (xs, f, M') => f = true ∧ J M' ∧ sz M' ≤ sz M + cs.length * B ∧ Ans s t P mark (n + 1) a b true xs
 | [], u, M, hJ, hsz, h0, hup, hall, hle, hmem, hu, hno => by
  have hu : u = 1000 := by
   rcases hu with h | h
   ·exact h
   ·have := hmem h; simp at this
  refine ⟨.inl M, rfl, hJ, by simp, ⟨(fun h => by cases h), fun _ => ⟨rfl, fun ys hys => ?_⟩⟩⟩
  cases ys with
  | nil => have := hys.1; simp at this
  | cons y ys =>
   have hy := hys.2 y (List.mem_cons_self ..)
   exact hno y ys hy.1 (by omega) ⟨by have := hys.1; simpa using this, fun x hx => hys.2 x (List.mem_cons_of_mem _ hx)⟩
 | c :: cs, u, M, hJ, hsz, h0, hup, hall, hle, hmem, hu, hno => by
  rw [List.pairwise_cons] at hup
  have huc : u < c := hup.1 c (List.mem_cons_self ..)
  have hc1000 := hle c (List.mem_cons_self ..)
  have hup2 := hup.2
  rw [List.pairwise_cons] at hup2
  have hlen : (c :: cs).length * B = cs.length * B + B := by rw [List.length_cons, Nat.succ_mul]
  rw [hlen] at hsz
  obtain ⟨xs, f, M', h1, h2, h3, h4⟩ := hrec M u hJ (by omega) h0 (by omega)
  have hpiece : ∀ y, u ≤ y → y < c → (a &&& wca s mark y = a &&& wca s mark u) ∧ (b &&& wca t mark y = b &&& wca t mark u) := fun y hy1 hy2 => by
   have hcs : ∀ d ∈ all, ¬ (u < d ∧ d ≤ y) := fun d hd ⟨g1, g2⟩ => by
    rcases List.mem_cons.1 (hall d hd g1) with rfl | hm
    ·omega
    ·have := hup2.1 d hm; omega
   exact ⟨wmS hs h0 hy1 hcs, wmS ht h0 hy1 hcs⟩
  simp only [wfS, h1, Option.bind_some]
  cases f with
  | true =>
   obtain ⟨k1, k2, k3⟩ := h4.hit rfl
   refine ⟨.inr (u :: xs, true, M'), by rw [cond_true, wbV (by rw [k1.1]; omega)], rfl, h2, by rw [hlen]; omega, ⟨fun _ => ⟨⟨by simp [k1.1], fun x hx => ?_⟩, k2, fun ys hys hP => ?_⟩, fun h => by cases h⟩⟩
   ·rcases List.mem_cons.1 hx with rfl | hx
    ·exact ⟨h0, by omega⟩
    ·exact k1.2 x hx
   ·cases ys with
    | nil => have := hys.1; simp at this
    | cons y ys =>
     have hy := hys.2 y (List.mem_cons_self ..)
     have hys2 : Pts n ys := ⟨by have := hys.1; simpa using this, fun x hx => hys.2 x (List.mem_cons_of_mem _ hx)⟩
     simp only [wiA]
     by_cases hyu : y < u
     ·rw [hno y ys hy.1 hyu hys2] at hP; cases hP
     ·by_cases hyu2 : u = y
      ·subst hyu2
       exact .inr ⟨rfl, k3 ys hys2 hP⟩
      ·exact .inl (by omega)
  | false =>
   obtain ⟨k1, k2⟩ := h4.miss rfl
   have hno2 : ∀ y ys, 0 ≤ y → y < c → Pts n ys → P (weN s mark a (y :: ys)) (weN t mark b (y :: ys)) = false := fun y ys hy0 hyc hys => by
    by_cases hyu : y < u
    ·exact hno y ys hy0 hyu hys
    ·obtain ⟨g1, g2⟩ := hpiece y (by omega) hyc
     have := k2 ys hys
     simp only [weN, g1, g2]
     exact this
   obtain ⟨r, hr1, hr2⟩ := wl3 J sz B C hn hs ht hrec cs c M' h2 (by omega) (by omega) hup.2 (fun d hd hcd => by
    rcases List.mem_cons.1 (hall d hd (by omega)) with rfl | hm
    ·omega
    ·exact hm) (fun d hd => hle d (List.mem_cons_of_mem _ hd)) (fun hc => by
    rcases List.mem_cons.1 (hmem (by omega)) with h | h
    ·omega
    ·exact h) (by omega) hno2
   refine ⟨r, hr1, ?_⟩
   cases r with
   | inl M2 => exact ⟨hr2.1, by rw [hlen]; have := hr2.2.1; omega, hr2.2.2⟩
   | inr q =>
    obtain ⟨xs2, f2, M2⟩ := q
    exact ⟨hr2.1, hr2.2.1, by rw [hlen]; have := hr2.2.2.1; omega, hr2.2.2.2⟩
end Go.Pv

namespace Go.Pv
theorem wmT {σ : Type} {rec : σ → Int → Option (List Int × Bool × σ)} {cs : List Int} {f : (Int × Int × σ) → Option ((Int × Int × σ) ⊕ (σ ⊕ (List Int × Bool × σ)))}
  (hf : ∀ u (v : Nat) M e, v < cs.length → idx cs (v : Int) = some e → f (u, (v : Int), M) = (rec M u).bind fun r => cond r.2.1 (wah (1 + r.1.length ≤ 4294967296) (some (.inr (.inr (u :: r.1, true, r.2.2))))) (some (.inl (e, ((v + 1 : Nat) : Int), r.2.2))))
  (hend : ∀ u M, f (u, (cs.length : Int), M) = some (.inr (.inl M))) : ∀ (n v : Nat) (u : Int) (M : σ), n = cs.length - v → v ≤ cs.length → iter f (u, (v : Int), M) = wfS rec u (cs.drop v) M
 | 0, v, u, M, hn, hv => by
  have : v = cs.length := by omega
  subst this
  rw [wbu (hend u M), wdu cs (Nat.le_refl _)]; rfl
 | n + 1, v, u, M, hn, hv => by
  have hv : v < cs.length := by omega
  have e1 : idx cs (v : Int) = some cs[v] := by unfold idx; simp [hv]
  rw [wbB, hf u v M cs[v] hv e1, List.drop_eq_getElem_cons hv]
  simp only [wfS]
  cases rec M u with
  | none => rfl
  | some r =>
   simp only [Option.bind_some]
   cases r.2.1 with
   | true =>
    simp only [cond_true]
    unfold wah
    split <;> rfl
   | false => exact wmT hf hend n (v + 1) cs[v] r.2.2 (by omega) (by omega)
def wpi (s t : List Rule) (P : Nat → Nat → Bool) (k : Nat) (M : List (Arr3_Int × Bool)) : Prop :=
 ∀ mark a b : Nat, mark ≤ k → waP (⟨(mark : Int), (a : Int), (b : Int)⟩ : Arr3_Int) M = some true → Ans s t P mark (k - mark) a b false []
def wrn (key : Arr3_Int) : (List (Arr3_Int × Bool)) ⊕ (List Int × Bool × List (Arr3_Int × Bool)) → Option (List Int × Bool × List (Arr3_Int × Bool))
 | .inl M => some ([], false, wdt key true M)
 | .inr r => some r
theorem wn0 {mark : Nat} {ts : List (List Rule)} {t : List Rule} {a : Nat} {cs : List Int} (h : Cuts mark ts cs) (ht : t ∈ ts) : wib mark t a cs := fun i r hr _ => by
 have hm : r ∈ t := List.mem_of_getElem? hr
 exact ⟨h.lo t ht r hm, h.hi t ht r hm⟩
theorem wqb {s t : List Rule} {P : Nat → Nat → Bool} {k : Nat} (hk : k ≤ 4) {F : Nat → List (Arr3_Int × Bool) → Int → Int → Int → Option (List Int × Bool × List (Arr3_Int × Bool))} {cs : Nat → List Int} (hcs : ∀ mark, mark < k → Cuts mark [s, t] (cs mark))
  (hF : ∀ n M (mark a b : Nat), mark ≤ k → a < 2 ^ s.length → b < 2 ^ t.length → F (n + 1) M (mark : Int) (a : Int) (b : Int) = if mark = k then some ([], P a b, M) else
   cond ((waP (⟨(mark : Int), (a : Int), (b : Int)⟩ : Arr3_Int) M).getD false) (some ([], false, M))
    ((wfS (fun M u => F n M ((mark + 1 : Nat) : Int) ((a &&& wca s mark u : Nat) : Int) ((b &&& wca t mark u : Nat) : Int)) 0 (cs mark) M).bind (wrn ⟨(mark : Int), (a : Int), (b : Int)⟩))) :
  ∀ (d n : Nat) M (mark a b : Nat), k - mark = d → d < n → mark ≤ k → a < 2 ^ s.length → b < 2 ^ t.length → wpi s t P k M → ∃ xs f M', F n M (mark : Int) (a : Int) (b : Int) = some (xs, f, M') ∧ wpi s t P k M' ∧ Ans s t P mark (k - mark) a b f xs
 | d, 0, M, mark, a, b, hd, hn, hm, ha, hb, hM => by omega
 | 0, n + 1, M, mark, a, b, hd, hn, hm, ha, hb, hM => by
  have : mark = k := by omega
  rw [hF n M mark a b hm ha hb, if_pos this]
  refine ⟨_, _, _, rfl, hM, ?_⟩
  rw [hd]
  refine ⟨fun h => ⟨⟨rfl, fun x hx => by cases hx⟩, h, fun ys _ _ => trivial⟩, fun h => ⟨rfl, fun ys hys => ?_⟩⟩
  have : ys = [] := List.length_eq_zero_iff.1 hys.1
  subst this; exact h
 | d + 1, n + 1, M, mark, a, b, hd, hn, hm, ha, hb, hM => by
  have hne : mark ≠ k := by omega
  rw [hF n M mark a b hm ha hb, if_neg hne]
  cases hmem : (waP (⟨(mark : Int), (a : Int), (b : Int)⟩ : Arr3_Int) M).getD false with
  | true =>
   have h1 : waP (⟨(mark : Int), (a : Int), (b : Int)⟩ : Arr3_Int) M = some true := by
    cases hg : waP (⟨(mark : Int), (a : Int), (b : Int)⟩ : Arr3_Int) M with
    | none => rw [hg] at hmem; cases hmem
    | some v => rw [hg] at hmem; have : v = true := hmem; rw [this]
   exact ⟨_, _, _, rfl, hM, hM mark a b hm h1⟩
  | false =>
   simp only [cond_false]
   have hc := hcs mark (by omega)
   obtain ⟨r, hr1, hr2⟩ := wl3 (s := s) (t := t) (P := P) (mark := mark) (n := k - (mark + 1)) (a := a) (b := b) (wpi s t P k) (fun _ => 0) 0 0 (by omega) (all := cs mark) (wn0 hc (by simp)) (wn0 hc (by simp))
    (rec := fun M u => F n M ((mark + 1 : Nat) : Int) ((a &&& wca s mark u : Nat) : Int) ((b &&& wca t mark u : Nat) : Int))
    (fun M u hJ _ h0 h1 => by
     obtain ⟨xs, f, M', g1, g2, g3⟩ := wqb hk hcs hF d n M (mark + 1) (a &&& wca s mark u) (b &&& wca t mark u) (by omega) (by omega) (by omega) (Nat.lt_of_le_of_lt Nat.and_le_left ha) (Nat.lt_of_le_of_lt Nat.and_le_left hb) hJ
     exact ⟨xs, f, M', g1, g2, Nat.zero_le _, g3⟩)
    (cs mark) 0 M hM (by simp) (by omega) (List.pairwise_cons.2 ⟨fun c h => (hc.pos c h).1, hc.up⟩) (fun c h _ => h) (fun c h => (hc.pos c h).2) (fun _ => hc.last) (by omega) (fun y ys h0 h1 => by omega)
   rw [hr1]
   simp only [Option.bind_some]
   have he : k - mark = (k - (mark + 1)) + 1 := by omega
   rw [he]
   cases r with
   | inr q =>
    obtain ⟨xs, f, M'⟩ := q
    obtain ⟨g1, g2, _, g4⟩ := hr2
    subst g1
    exact ⟨xs, true, M', rfl, g2, g4⟩
   | inl M' =>
    obtain ⟨g2, _, g4⟩ := hr2
    refine ⟨_, _, _, rfl, fun mark' a' b' hm' hg => ?_, g4⟩
    rw [wnQ] at hg
    split at hg
    ·rename_i heq
     simp only [Arr3_Int.mk.injEq] at heq
     obtain ⟨e1, e2, e3⟩ := heq
     have e1 : mark' = mark := by omega
     have e2 : a' = a := by omega
     have e3 : b' = b := by omega
     subst e1 e2 e3
     rw [he]; exact g4
    ·exact g2 mark' a' b' hm' hg
end Go.Pv

namespace Go.Pv
theorem wd3 {k : Nat} {r : Rule} (h : wbb (k : Int) r = true) {mark : Nat} (hm : mark < k) : mark < r.Bands.length ∧ 0 ≤ (wav r mark).Lo ∧ (wav r mark).Lo < (wav r mark).Hi ∧ (wav r mark).Hi ≤ 1000 := by
 have hl := wjO h
 have hlt : mark < r.Bands.length := by omega
 unfold wbb at h
 simp only [Bool.and_eq_true, Bool.not_eq_true', List.any_eq_false] at h
 have hb := h.2 (wav r mark) (by
  unfold wav
  simp only [List.getD, List.getElem?_eq_getElem hlt, Option.getD_some]
  exact List.getElem_mem hlt)
 simp only [wfj, Bool.or_eq_true, decide_eq_true_eq, not_or] at hb
 omega
theorem wpj {t : List Rule} (ht : t.length ≤ 24) (mark : Nat) (x : Int) : wca t mark x < 2 ^ 24 := wpe _ _ _ _ (by omega)
noncomputable def wic (s t : List Rule) (mark : Nat) : List Int := (wbG (mark : Int) [s, t]).getD []
theorem wqc {k : Nat} {s t : List Rule} (hs : s.length ≤ 24 ∧ ∀ r ∈ s, wbb (k : Int) r = true) (ht : t.length ≤ 24 ∧ ∀ r ∈ t, wbb (k : Int) r = true) {mark : Nat} (hm : mark < k) : wbG (mark : Int) [s, t] = some (wic s t mark) ∧ Cuts mark [s, t] (wic s t mark) ∧ (wic s t mark).length ≤ 97 := by
 obtain ⟨cs, h1, h2, h3⟩ := wrm mark [s, t] (by simp) (fun u hu => by
  simp only [List.mem_cons, List.not_mem_nil, or_false] at hu
  rcases hu with rfl | rfl
  ·exact ⟨hs.1, fun r hr => (wd3 (hs.2 r hr) hm).1⟩
  ·exact ⟨ht.1, fun r hr => (wd3 (ht.2 r hr) hm).1⟩) (fun u hu r hr => by
  simp only [List.mem_cons, List.not_mem_nil, or_false] at hu
  rcases hu with rfl | rfl
  ·exact (wd3 (hs.2 r hr) hm).2
  ·exact (wd3 (ht.2 r hr) hm).2)
 have e : wic s t mark = cs := by unfold wic; rw [h1]; rfl
 rw [e]; exact ⟨h1, h2, h3⟩
def wf1 (s t : List Rule) (a b : Nat) : Bool := decide (¬ wiz s a = wiz t b)
theorem wrZ {k : Nat} (hk : k ≤ 4) {s t : List Rule} (hs : s.length ≤ 24 ∧ ∀ r ∈ s, wbb (k : Int) r = true) (ht : t.length ≤ 24 ∧ ∀ r ∈ t, wbb (k : Int) r = true) (n : Nat) (M : List (Arr3_Int × Bool)) (mark a b : Nat) (hm : mark ≤ k) (ha : a < 2 ^ s.length) (hb : b < 2 ^ t.length) :
  wat (n + 1) (⟨(k : Int), s, t⟩ : Walker) s t M (mark : Int) (a : Int) (b : Int) = if mark = k then some ([], wf1 s t a b, M) else
   cond ((waP (⟨(mark : Int), (a : Int), (b : Int)⟩ : Arr3_Int) M).getD false) (some ([], false, M))
    ((wfS (fun M u => wat n (⟨(k : Int), s, t⟩ : Walker) s t M ((mark + 1 : Nat) : Int) ((a &&& wca s mark u : Nat) : Int) ((b &&& wca t mark u : Nat) : Int)) 0 (wic s t mark) M).bind (wrn ⟨(mark : Int), (a : Int), (b : Int)⟩)) := by
 have ha2 : a < 2 ^ 24 := Nat.lt_of_lt_of_le ha (Nat.pow_le_pow_right (by omega) hs.1)
 have hb2 : b < 2 ^ 24 := Nat.lt_of_lt_of_le hb (Nat.pow_le_pow_right (by omega) ht.1)
 show wbh (wat n) (⟨(k : Int), s, t⟩ : Walker) s t M (mark : Int) (a : Int) (b : Int) = _
 unfold wbh
 dsimp only
 by_cases he : mark = k
 ·subst he
  rw [if_pos rfl, decide_eq_true rfl, cond_true, wlI a (by omega), wlI b (by omega)]
  simp only [Option.bind_some]
  unfold wdN
  rw [wnZ s a ha, wnZ t b hb]
  rfl
 ·obtain ⟨c1, c2, c3⟩ := wqc hs ht (show mark < k by omega)
  rw [if_neg he, decide_eq_false (by omega), cond_false, wal (x := (a : Int)) (by omega), wal (x := (b : Int)) (by omega), c1]
  cases (waP (⟨(mark : Int), (a : Int), (b : Int)⟩ : Arr3_Int) M).getD false with
  | true => rfl
  | false =>
   simp only [cond_false, Option.bind_some]
   have hl := wmT (cs := wic s t mark) (rec := fun M u => wat n (⟨(k : Int), s, t⟩ : Walker) s t M ((mark + 1 : Nat) : Int) ((a &&& wca s mark u : Nat) : Int) ((b &&& wca t mark u : Nat) : Int))
    (f := wa8 (mark : Int) (a : Int) (b : Int) (⟨(k : Int), s, t⟩ : Walker) s t (wat n) (wic s t mark))
    (fun u v M e hv hi => by
     unfold wa8
     dsimp only
     have hfs := wpj hs.1 mark u
     have hft := wpj ht.1 mark u
     have hw : IntKind.i64.wrap ((v : Int) + 1) = ((v + 1 : Nat) : Int) := by rw [wal (by omega)]; rfl
     have hw2 : IntKind.i64.wrap ((mark : Int) + 1) = ((mark + 1 : Nat) : Int) := by rw [wal (by omega)]; rfl
     rw [decide_eq_true (by omega), cond_true, hi]
     simp only [Option.bind_some]
     rw [wp8 s mark u hs.1 (fun r hr => (wd3 (hs.2 r hr) (by omega)).1), wp8 t mark u ht.1 (fun r hr => (wd3 (ht.2 r hr) (by omega)).1)]
     simp only [Option.bind_some]
     rw [wnq (by omega) (by omega), wnq (by omega) (by omega), hw, hw2]
     rfl)
    (fun u M => by
     unfold wa8
     dsimp only
     rw [decide_eq_false (by omega)]; rfl) (wic s t mark).length 0 0 M (by omega) (by omega)
   rw [show ((0 : Nat) : Int) = 0 from rfl, List.drop_zero] at hl
   rw [hl]
   cases wfS (fun M u => wat n (⟨(k : Int), s, t⟩ : Walker) s t M ((mark + 1 : Nat) : Int) ((a &&& wca s mark u : Nat) : Int) ((b &&& wca t mark u : Nat) : Int)) 0 (wic s t mark) M with
   | none => rfl
   | some o => cases o <;> rfl
theorem wiO {k : Nat} (hk : k ≤ 4) {s t : List Rule} (hs : s.length ≤ 24 ∧ ∀ r ∈ s, wbb (k : Int) r = true) (ht : t.length ≤ 24 ∧ ∀ r ∈ t, wbb (k : Int) r = true) : ∃ xs f, wdd (k : Int) s t = some (xs, f) ∧ Ans s t (wf1 s t) 0 k (wdm s) (wdm t) f xs := by
 unfold wdd wct
 dsimp only
 rw [wpg s hs.1, wpg t ht.1]
 simp only [Option.bind_some]
 obtain ⟨xs, f, M', h1, _, h3⟩ := wqb hk (cs := wic s t) (P := wf1 s t) (s := s) (t := t) (k := k) (fun mark hm => (wqc hs ht hm).2.1) (F := fun n M m a b => wat n (⟨(k : Int), s, t⟩ : Walker) s t M m a b)
  (fun n M mark a b hm ha hb => wrZ hk hs ht n M mark a b hm ha hb) k 100 [] 0 (wdm s) (wdm t) (by omega) (by omega) (by omega) (wjb s) (wjb t) (fun mark a b _ h => by cases h)
 have h1 : wat 100 (⟨(k : Int), s, t⟩ : Walker) s t [] 0 (wdm s : Int) (wdm t : Int) = some (xs, f, M') := h1
 rw [h1]
 exact ⟨xs, f, rfl, h3⟩
end Go.Pv

namespace Go.Pv
theorem wjc (n : Int) : ∀ {l : List Int}, l.Pairwise (· < ·) → (wdS n l).Pairwise (· < ·) ∧ ∀ x, x ∈ wdS n l ↔ x = n ∨ x ∈ l
 | [], _ => ⟨List.pairwise_singleton .., fun x => by simp [wdS]⟩
 | y :: l, h => by
  have hc := List.pairwise_cons.1 h
  simp only [wdS]
  by_cases h1 : n ≤ y
  ·rw [decide_eq_true h1, cond_true]
   by_cases h2 : n < y
   ·rw [decide_eq_true h2, cond_true]
    refine ⟨List.pairwise_cons.2 ⟨fun x hx => ?_, h⟩, fun x => by simp⟩
    rcases List.mem_cons.1 hx with rfl | hx
    ·exact h2
    ·have := hc.1 x hx; omega
   ·rw [decide_eq_false h2, cond_false]
    have : n = y := by omega
    subst this
    exact ⟨h, fun x => by simp⟩
  ·rw [decide_eq_false h1, cond_false]
   obtain ⟨g1, g2⟩ := wjc n hc.2
   refine ⟨List.pairwise_cons.2 ⟨fun x hx => ?_, g1⟩, fun x => ?_⟩
   ·rcases (g2 x).1 hx with rfl | hx
    ·omega
    ·exact hc.1 x hx
   ·rw [List.mem_cons, g2, List.mem_cons]
    constructor
    ·rintro (h | h | h)
     ·exact .inr (.inl h)
     ·exact .inl h
     ·exact .inr (.inr h)
    ·rintro (h | h | h)
     ·exact .inr (.inl h)
     ·exact .inl h
     ·exact .inr (.inr h)
theorem wr0 (a i : Nat) (hi : i < 64) : wo7 (a : Int) i = a.testBit i := by
 have := wns a i hi
 rw [Int.toNat_natCast] at this
 exact this
theorem wl4 (mark a : Nat) : ∀ (l : List Rule) (i : Nat) (out : List Int), i + l.length ≤ 24 → out.Pairwise (· < ·) →
  (wcg mark (a : Int) i l out).Pairwise (· < ·) ∧ (∀ x ∈ out, x ∈ wcg mark (a : Int) i l out) ∧ (∀ x ∈ wcg mark (a : Int) i l out, x ∈ out ∨ ∃ r ∈ l, (x = (wav r mark).Lo ∧ 0 < x) ∨ x = (wav r mark).Hi) ∧
   (∀ (j : Nat) (r : Rule), l[j]? = some r → a.testBit (i + j) = true → (0 < (wav r mark).Lo → (wav r mark).Lo ∈ wcg mark (a : Int) i l out) ∧ (wav r mark).Hi ∈ wcg mark (a : Int) i l out) ∧ (wcg mark (a : Int) i l out).length ≤ out.length + 2 * l.length
 | [], i, out, _, h => ⟨h, fun x hx => hx, fun x hx => .inl hx, fun j r hr => by simp at hr, by simp [wcg]⟩
 | r :: l, i, out, hl, h => by
  simp only [List.length_cons] at hl
  simp only [wcg]
  rw [wr0 a i (by omega)]
  cases hb : a.testBit i with
  | false =>
   simp only [cond_false]
   obtain ⟨g1, g2, g3, g4, g5⟩ := wl4 mark a l (i + 1) out (by omega) h
   refine ⟨g1, g2, fun x hx => ?_, fun j q hq hj => ?_, by simp only [List.length_cons]; omega⟩
   ·rcases g3 x hx with h | ⟨q, h1, h2⟩
    ·exact .inl h
    ·exact .inr ⟨q, List.mem_cons_of_mem _ h1, h2⟩
   ·cases j with
    | zero => rw [Nat.add_zero, hb] at hj; cases hj
    | succ j => exact g4 j q (by simpa using hq) (by rw [← hj]; congr 1; omega)
  | true =>
   simp only [cond_true]
   have hout : ∃ o2, (cond (decide (0 < (wav r mark).Lo)) (wdS (wav r mark).Lo out) out) = o2 ∧ o2.Pairwise (· < ·) ∧ (∀ x, x ∈ o2 ↔ (x = (wav r mark).Lo ∧ 0 < x) ∨ x ∈ out) ∧ o2.length ≤ out.length + 1 := by
    by_cases h0 : 0 < (wav r mark).Lo
    ·rw [decide_eq_true h0, cond_true]
     obtain ⟨k1, k2⟩ := wjc (wav r mark).Lo h
     refine ⟨_, rfl, k1, fun x => ?_, wfC _ _⟩
     rw [k2]
     constructor
     ·rintro (h | h)
      ·exact .inl ⟨h, by omega⟩
      ·exact .inr h
     ·rintro (h | h)
      ·exact .inl h.1
      ·exact .inr h
    ·rw [decide_eq_false h0, cond_false]
     refine ⟨_, rfl, h, fun x => ?_, by omega⟩
     constructor
     ·exact .inr
     ·rintro (h | h)
      ·omega
      ·exact h
   obtain ⟨o2, e, k1, k2, k3⟩ := hout
   rw [e]
   obtain ⟨m1, m2⟩ := wjc (wav r mark).Hi k1
   have m3 := wfC (wav r mark).Hi o2
   obtain ⟨g1, g2, g3, g4, g5⟩ := wl4 mark a l (i + 1) (wdS (wav r mark).Hi o2) (by omega) m1
   refine ⟨g1, fun x hx => g2 x ((m2 x).2 (.inr ((k2 x).2 (.inr hx)))), fun x hx => ?_, fun j q hq hj => ?_, by simp only [List.length_cons]; omega⟩
   ·rcases g3 x hx with h | ⟨q, h1, h2⟩
    ·rcases (m2 x).1 h with h | h
     ·exact .inr ⟨r, List.mem_cons_self .., .inr h⟩
     ·rcases (k2 x).1 h with h | h
      ·exact .inr ⟨r, List.mem_cons_self .., .inl h⟩
      ·exact .inl h
    ·exact .inr ⟨q, List.mem_cons_of_mem _ h1, h2⟩
   ·cases j with
    | zero =>
     simp only [List.getElem?_cons_zero, Option.some.injEq] at hq
     subst hq
     exact ⟨fun h0 => g2 _ ((m2 _).2 (.inr ((k2 _).2 (.inl ⟨rfl, h0⟩)))), g2 _ ((m2 _).2 (.inl rfl))⟩
    | succ j => exact g4 j q (by simpa using hq) (by rw [← hj]; congr 1; omega)
def wgG (l m : List Int) : List Int := m.foldl (fun L c => wdS c L) l
theorem wn1 : ∀ (m l : List Int), l.Pairwise (· < ·) → (wgG l m).Pairwise (· < ·) ∧ (∀ x, x ∈ wgG l m ↔ x ∈ l ∨ x ∈ m) ∧ (wgG l m).length ≤ l.length + m.length
 | [], l, h => ⟨h, fun x => by simp [wgG], by simp [wgG]⟩
 | c :: m, l, h => by
  obtain ⟨k1, k2⟩ := wjc c h
  have k3 := wfC c l
  obtain ⟨g1, g2, g3⟩ := wn1 m (wdS c l) k1
  have e : wgG l (c :: m) = wgG (wdS c l) m := rfl
  rw [e]
  refine ⟨g1, fun x => ?_, by simp only [List.length_cons]; omega⟩
  rw [g2, k2, List.mem_cons]
  constructor
  ·rintro ((h | h) | h)
   ·exact .inr (.inl h)
   ·exact .inl h
   ·exact .inr (.inr h)
  ·rintro (h | h | h)
   ·exact .inl (.inr h)
   ·exact .inl (.inl h)
   ·exact .inr h
theorem wmU (m : List Int) (hm : m.length ≤ 1000) : ∀ (n i : Nat) (L : List Int), n = m.length - i → L.length + n ≤ 5000 → L.Pairwise (· < ·) → iter (wbk m) (L, (i : Int)) = some (wgG L (m.drop i))
 | 0, i, L, hn, hL, hp => by
  rw [wdu m (by omega)]
  refine wbu ?_
  unfold wbk
  dsimp only
  rw [decide_eq_false (by omega)]; rfl
 | n + 1, i, L, hn, hL, hp => by
  have hi : i < m.length := by omega
  have h2 : idx m (i : Int) = some m[i] := by unfold idx; simp [hi]
  have hl := wfC m[i] L
  have ih := wmU m hm n (i + 1) (wdS m[i] L) (by omega) (by omega) (wjc m[i] hp).1
  rw [List.drop_eq_getElem_cons hi]
  refine wcB ?_ ih
  unfold wbk
  dsimp only
  rw [decide_eq_true (by omega), cond_true, h2]
  simp only [Option.bind_some]
  rw [wmK L m[i] (by omega), wal (by omega)]
  rfl
end Go.Pv

namespace Go.Pv
structure TabOk (t : Table) : Prop where
 size : t.heads = [] ∨ t.heads.length = 4096
 next : t.next.length = t.keys.length
 heads : ∀ x ∈ t.heads, -1 ≤ x ∧ x < t.keys.length
 back : ∀ (i : Nat) (x : Int), t.next[i]? = some x → -1 ≤ x ∧ x < i
 few : t.keys.length ≤ 2000000000
theorem wqd {mark a b : Nat} (hm : mark ≤ 4) : ∃ n : Nat, n < 4096 ∧ wcY (⟨(mark : Int), (a : Int), (b : Int)⟩ : Arr3_Int) = some (n : Int) := by
 unfold wcY
 dsimp only
 have ea : (a : Int).tmod 1000003 = (a : Int) % 1000003 := Int.tmod_eq_emod_of_nonneg (by omega)
 have eb : (b : Int).tmod 1000003 = (b : Int) % 1000003 := Int.tmod_eq_emod_of_nonneg (by omega)
 rw [ea, eb]
 have ha : 0 ≤ (a : Int) % 1000003 ∧ (a : Int) % 1000003 < 1000003 := by omega
 have hb : 0 ≤ (b : Int) % 1000003 ∧ (b : Int) % 1000003 < 1000003 := by omega
 generalize (a : Int) % 1000003 = x at ha
 generalize (b : Int) % 1000003 = y at hb
 rw [wal (x := (mark : Int) * 7) (by omega), wal (x := x * 31) (by omega), wal (x := y * 17) (by omega), wal (x := (mark : Int) * 7 + x * 31) (by omega), wal (x := (mark : Int) * 7 + x * 31 + y * 17) (by omega), Int.tmod_eq_emod_of_nonneg (by omega)]
 exact ⟨(((mark : Int) * 7 + x * 31 + y * 17) % 4096).toNat, by omega, by congr 1; omega⟩
theorem wn2 {o : Compare} (h : TabOk o.alike) (key : Arr3_Int) : ∀ (n : Nat) (i : Int), i < n → -1 ≤ i → i < o.alike.keys.length → ∃ j, iter (wa5 key o) i = some j ∧ (j < 0 ∨ key ∈ o.alike.keys)
 | n, i, hn, h1, h2 => by
  by_cases h0 : 0 ≤ i
  ·obtain ⟨m, rfl⟩ : ∃ m : Nat, i = m := ⟨i.toNat, by omega⟩
   have hm : m < o.alike.keys.length := by omega
   have e1 : idx o.alike.keys (m : Int) = some o.alike.keys[m] := by unfold idx; simp [hm]
   have hm2 : m < o.alike.next.length := by rw [h.next]; exact hm
   have e2 : idx o.alike.next (m : Int) = some o.alike.next[m] := by unfold idx; simp [hm2]
   have hf : wa5 key o (m : Int) = cond (!((o.alike.keys[m].c0 == key.c0) && ((o.alike.keys[m].c1 == key.c1) && (o.alike.keys[m].c2 == key.c2)))) (some (.inl o.alike.next[m])) (some (.inr (m : Int))) := by
    unfold wa5
    rw [decide_eq_true h0, cond_true, e1]
    simp only [Option.bind_some, e2]
   cases hk : ((o.alike.keys[m].c0 == key.c0) && ((o.alike.keys[m].c1 == key.c1) && (o.alike.keys[m].c2 == key.c2))) with
   | true =>
    rw [hk] at hf
    refine ⟨m, wbu hf, .inr ?_⟩
    simp only [Bool.and_eq_true, beq_iff_eq] at hk
    have : o.alike.keys[m] = key := by
     generalize o.alike.keys[m] = q at hk
     cases q; cases key; simp_all
    rw [← this]; exact List.getElem_mem hm
   | false =>
    rw [hk] at hf
    obtain ⟨b1, b2⟩ := h.back m o.alike.next[m] (List.getElem?_eq_getElem hm2)
    cases n with
    | zero => omega
    | succ n =>
     obtain ⟨j, g1, g2⟩ := wn2 h key n o.alike.next[m] (by omega) b1 (by omega)
     exact ⟨j, wcB hf g1, g2⟩
  ·refine ⟨i, wbu ?_, .inl (by omega)⟩
   unfold wa5
   rw [decide_eq_false h0]; rfl
theorem wsu {o : Compare} (h : TabOk o.alike) {mark a b : Nat} (hm : mark ≤ 4) : ∃ j, wbN o (⟨(mark : Int), (a : Int), (b : Int)⟩ : Arr3_Int) = some (j, o) ∧ (j < 0 ∨ (⟨(mark : Int), (a : Int), (b : Int)⟩ : Arr3_Int) ∈ o.alike.keys) := by
 unfold wbN
 rcases h.size with h0 | h0
 ·have : decide ((o.alike.heads.length : Int) = 0) = true := decide_eq_true (by rw [h0]; rfl)
  rw [this]
  exact ⟨-1, rfl, .inl (by omega)⟩
 ·have : decide ((o.alike.heads.length : Int) = 0) = false := decide_eq_false (by omega)
  obtain ⟨n, hn, hs⟩ := wqd (a := a) (b := b) hm
  have hl : n < o.alike.heads.length := by omega
  have e1 : idx o.alike.heads (n : Int) = some o.alike.heads[n] := by unfold idx; simp [hl]
  obtain ⟨b1, b2⟩ := h.heads _ (List.getElem_mem hl)
  obtain ⟨j, g1, g2⟩ := wn2 h (⟨(mark : Int), (a : Int), (b : Int)⟩ : Arr3_Int) o.alike.keys.length o.alike.heads[n] b2 b1 b2
  rw [this, cond_false, hs]
  simp only [Option.bind_some, e1, g1]
  exact ⟨j, rfl, g2⟩
theorem wjR : ∀ (n : Nat) (L : List Int), L.length + n = 4096 → iter wa9 L = some (L ++ List.replicate n (-1))
 | 0, L, h => by
  refine wbu ?_
  unfold wa9
  rw [decide_eq_false (by omega)]; simp
 | n + 1, L, h => by
  have ih := wjR n (L ++ [-1]) (by simp; omega)
  rw [List.append_assoc] at ih
  refine wcB ?_ ih
  unfold wa9
  rw [decide_eq_true (by omega), cond_true, wbV (by simp; omega)]
theorem wsJ {o : Compare} (h : TabOk o.alike) (hfew : o.alike.keys.length + 1 ≤ 2000000000) {mark a b : Nat} (hm : mark ≤ 4) : ∃ o', wbo o (⟨(mark : Int), (a : Int), (b : Int)⟩ : Arr3_Int) = some o' ∧ o'.k = o.k ∧ o'.s = o.s ∧ o'.t = o.t ∧ TabOk o'.alike ∧ o'.alike.keys = o.alike.keys ++ [⟨(mark : Int), (a : Int), (b : Int)⟩] := by
 unfold wbo
 obtain ⟨L1, hL, hlen, hin⟩ : ∃ L1, iter wa9 o.alike.heads = some L1 ∧ L1.length = 4096 ∧ ∀ x ∈ L1, -1 ≤ x ∧ x < o.alike.keys.length := by
  rcases h.size with h0 | h0
  ·refine ⟨_, wjR 4096 o.alike.heads (by rw [h0]; rfl), by rw [h0, List.nil_append, List.length_replicate], fun x hx => ?_⟩
   rw [h0, List.nil_append] at hx
   have := (List.mem_replicate.1 hx).2
   omega
  ·refine ⟨_, wjR 0 o.alike.heads (by omega), by simpa using h0, fun x hx => h.heads x (by simpa using hx)⟩
 obtain ⟨n, hn, hs⟩ := wqd (a := a) (b := b) hm
 have hl : n < L1.length := by omega
 have e1 : idx L1 (n : Int) = some L1[n] := by unfold idx; simp [hl]
 have hx := hin _ (List.getElem_mem hl)
 rw [hL]
 simp only [Option.bind_some]
 rw [hs]
 simp only [Option.bind_some]
 rw [wbV (by simp; omega), e1]
 simp only [Option.bind_some]
 rw [wbV (by have := h.next; simp; omega)]
 have hw : IntKind.i64.wrap (((o.alike.keys.length + [(⟨(mark : Int), (a : Int), (b : Int)⟩ : Arr3_Int)].length : Nat) : Int) - 1) = (o.alike.keys.length : Int) := by
  rw [wal (by simp; omega)]; simp
 refine ⟨_, rfl, rfl, rfl, rfl, ⟨.inr (by simp [hlen]), by simp [h.next], fun x hx => ?_, fun i x hi => ?_, by simp; omega⟩, rfl⟩
 ·rcases List.mem_or_eq_of_mem_set hx with hx | hx
  ·have := hin x hx; simp; omega
  ·have hx : x = IntKind.i64.wrap (((o.alike.keys.length + [(⟨(mark : Int), (a : Int), (b : Int)⟩ : Arr3_Int)].length : Nat) : Int) - 1) := by rw [hx]; simp
   rw [hw] at hx; simp; omega
 ·by_cases hi2 : i < o.alike.next.length
  ·rw [List.getElem?_append_left hi2] at hi
   exact h.back i x hi
  ·rw [List.getElem?_append_right (by omega)] at hi
   cases hd : i - o.alike.next.length with
   | zero =>
    rw [hd] at hi
    simp only [List.getElem?_cons_zero, Option.some.injEq] at hi
    subst hi
    have := h.next
    omega
   | succ m => rw [hd] at hi; simp at hi
end Go.Pv

namespace Go.Pv
theorem wlJ {σ τ : Type} {to : σ → τ} {rec : σ → Int → Option (List Int × Bool × σ)} {cs : List Int} {f : (Int × Int × τ) → Option ((Int × Int × τ) ⊕ (τ ⊕ (List Int × Bool × σ)))}
  (hf : ∀ u (v : Nat) M e, v < cs.length → idx cs (v : Int) = some e → f (u, (v : Int), to M) = (rec M u).bind fun r => cond r.2.1 (wah (1 + r.1.length ≤ 4294967296) (some (.inr (.inr (u :: r.1, true, r.2.2))))) (some (.inl (e, ((v + 1 : Nat) : Int), to r.2.2))))
  (hend : ∀ u M, f (u, (cs.length : Int), to M) = some (.inr (.inl (to M)))) : ∀ (n v : Nat) (u : Int) (M : σ), n = cs.length - v → v ≤ cs.length → iter f (u, (v : Int), to M) = (wfS rec u (cs.drop v) M).map (Sum.map to id)
 | 0, v, u, M, hn, hv => by
  have : v = cs.length := by omega
  subst this
  rw [wbu (hend u M), wdu cs (Nat.le_refl _)]; rfl
 | n + 1, v, u, M, hn, hv => by
  have hv : v < cs.length := by omega
  have e1 : idx cs (v : Int) = some cs[v] := by unfold idx; simp [hv]
  rw [wbB, hf u v M cs[v] hv e1, List.drop_eq_getElem_cons hv]
  simp only [wfS]
  cases rec M u with
  | none => rfl
  | some r =>
   simp only [Option.bind_some]
   cases r.2.1 with
   | true =>
    simp only [cond_true]
    unfold wah
    split <;> rfl
   | false => exact wlJ hf hend n (v + 1) cs[v] r.2.2 (by omega) (by omega)
def bnd : Nat → Nat
 | 0 => 0
 | d + 1 => 1 + 98 * bnd d
theorem wsK : ∀ {d : Nat}, d ≤ 4 → bnd d ≤ 1000000
 | 0, _ => by decide
 | 1, _ => by decide
 | 2, _ => by decide
 | 3, _ => by decide
 | 4, _ => by decide
 | d + 5, h => by omega
abbrev CT := Int × List Rule × List Rule × List Int × List Int × List Arr3_Int
def wqM (o : Compare) : CT := (o.k, o.s, o.t, o.alike.heads, o.alike.next, o.alike.keys)
structure CmpOk (s t : List Rule) (P : Nat → Nat → Bool) (k : Nat) (o : Compare) : Prop where
 ek : o.k = (k : Int)
 es : o.s = s
 et : o.t = t
 tab : TabOk o.alike
 memo : ∀ mark a b : Nat, mark ≤ k → (⟨(mark : Int), (a : Int), (b : Int)⟩ : Arr3_Int) ∈ o.alike.keys → Ans s t P mark (k - mark) a b false []
theorem wmV {k : Nat} {t : List Rule} (ht : t.length ≤ 24 ∧ ∀ r ∈ t, wbb (k : Int) r = true) {mark : Nat} (hm : mark < k) (a : Nat) : wbj t (mark : Int) (a : Int) = some (wcg mark (a : Int) 0 t [1000]) ∧ (wcg mark (a : Int) 0 t [1000]).Pairwise (· < ·) ∧ (1000 : Int) ∈ wcg mark (a : Int) 0 t [1000] ∧ (∀ c ∈ wcg mark (a : Int) 0 t [1000], 0 < c ∧ c ≤ 1000) ∧ wib mark t a (wcg mark (a : Int) 0 t [1000]) ∧ (wcg mark (a : Int) 0 t [1000]).length ≤ 49 := by
 obtain ⟨g1, g2, g3, g4, g5⟩ := wl4 mark a t 0 [1000] (by omega) (List.pairwise_singleton ..)
 refine ⟨wmL t mark (a : Int) (by omega) fun r hr => (wd3 (ht.2 r hr) hm).1, g1, g2 _ (by simp), fun c hc => ?_, fun i r hr hb => g4 i r hr (by simpa using hb), by simp only [List.length_cons, List.length_nil] at g5; omega⟩
 rcases g3 c hc with h | ⟨r, h1, h2⟩
 ·simp only [List.mem_singleton] at h; omega
 ·have := wd3 (ht.2 r h1) hm
  omega
theorem wpk {k : Nat} (hk : k ≤ 4) {s t : List Rule} (hs : s.length ≤ 24 ∧ ∀ r ∈ s, wbb (k : Int) r = true) (ht : t.length ≤ 24 ∧ ∀ r ∈ t, wbb (k : Int) r = true) :
  ∀ (d n : Nat) (o : Compare) (mark a b : Nat), k - mark = d → d < n → mark ≤ k → a < 2 ^ s.length → b < 2 ^ t.length → CmpOk s t (wf1 s t) k o → o.alike.keys.length + bnd d ≤ 2000000000 →
   ∃ xs f o', waw n o (mark : Int) (a : Int) (b : Int) = some (xs, f, o') ∧ CmpOk s t (wf1 s t) k o' ∧ o'.alike.keys.length ≤ o.alike.keys.length + bnd d ∧ Ans s t (wf1 s t) mark (k - mark) a b f xs
 | d, 0, o, mark, a, b, hd, hn, hm, ha, hb, ho, hf => by omega
 | 0, n + 1, o, mark, a, b, hd, hn, hm, ha, hb, ho, hf => by
  have : mark = k := by omega
  show ∃ xs f o', waM (waw n) o (mark : Int) (a : Int) (b : Int) = some (xs, f, o') ∧ _
  unfold waM
  rw [decide_eq_true (by rw [ho.ek]; omega), cond_true, ho.es, ho.et, wpf s a hs.1 ha, wpf t b ht.1 hb]
  refine ⟨_, _, _, rfl, ho, by omega, ?_⟩
  rw [hd]
  refine ⟨fun h => ⟨⟨rfl, fun x hx => by cases hx⟩, h, fun ys _ _ => trivial⟩, fun h => ⟨rfl, fun ys hys => ?_⟩⟩
  have : ys = [] := List.length_eq_zero_iff.1 hys.1
  subst this; exact h
 | d + 1, n + 1, o, mark, a, b, hd, hn, hm, ha, hb, ho, hf => by
  have hne : mark < k := by omega
  have he : k - mark = (k - (mark + 1)) + 1 := by omega
  show ∃ xs f o', waM (waw n) o (mark : Int) (a : Int) (b : Int) = some (xs, f, o') ∧ _
  unfold waM
  obtain ⟨j, hj1, hj2⟩ := wsu (a := a) (b := b) ho.tab (show mark ≤ 4 by omega)
  rw [decide_eq_false (by rw [ho.ek]; omega), cond_false, hj1]
  simp only [Option.bind_some]
  by_cases hj : 0 ≤ j
  ·rw [decide_eq_true hj, cond_true]
   refine ⟨_, _, _, rfl, ho, by omega, ho.memo mark a b hm ?_⟩
   rcases hj2 with h | h
   ·omega
   ·exact h
  ·obtain ⟨p1, p2, p3, p4, p5, p6⟩ := wmV hs hne a
   obtain ⟨q1, q2, q3, q4, q5, q6⟩ := wmV ht hne b
   have p1' : wbj o.s (mark : Int) (a : Int) = some (wcg mark (a : Int) 0 s [1000]) := by rw [ho.es]; exact p1
   have q1' : wbj o.t (mark : Int) (b : Int) = some (wcg mark (b : Int) 0 t [1000]) := by rw [ho.et]; exact q1
   rw [decide_eq_false hj, cond_false, p1', q1']
   simp only [Option.bind_some]
   have hml := wmU (wcg mark (b : Int) 0 t [1000]) (by omega) _ 0 (wcg mark (a : Int) 0 s [1000]) rfl (by omega) p2
   rw [show ((0 : Nat) : Int) = 0 from rfl, List.drop_zero] at hml
   rw [hml]
   simp only [Option.bind_some]
   obtain ⟨m1, m2, m3⟩ := wn1 (wcg mark (b : Int) 0 t [1000]) (wcg mark (a : Int) 0 s [1000]) p2
   generalize wgG (wcg mark (a : Int) 0 s [1000]) (wcg mark (b : Int) 0 t [1000]) = cs at m1 m2 m3
   have hin1 : wib mark s a cs := fun i r hr hb => ⟨fun h => (m2 _).2 (.inl ((p5 i r hr hb).1 h)), (m2 _).2 (.inl (p5 i r hr hb).2)⟩
   have hin2 : wib mark t b cs := fun i r hr hb => ⟨fun h => (m2 _).2 (.inr ((q5 i r hr hb).1 h)), (m2 _).2 (.inr (q5 i r hr hb).2)⟩
   have hpos : ∀ c ∈ cs, 0 < c ∧ c ≤ 1000 := fun c hc => by
    rcases (m2 c).1 hc with h | h
    ·exact p4 c h
    ·exact q4 c h
   have hB : cs.length * bnd d ≤ 98 * bnd d := Nat.mul_le_mul_right _ (by omega)
   have hbnd : bnd (d + 1) = 1 + 98 * bnd d := rfl
   rw [hbnd] at hf
   obtain ⟨r, hr1, hr2⟩ := wl3 (s := s) (t := t) (P := wf1 s t) (mark := mark) (n := k - (mark + 1)) (a := a) (b := b) (CmpOk s t (wf1 s t) k) (fun o => o.alike.keys.length) (bnd d) (o.alike.keys.length + cs.length * bnd d) (by omega) (all := cs) hin1 hin2
    (rec := fun M u => (waV M.s (mark : Int) (a : Int) u).bind fun r7 => (waV M.t (mark : Int) (b : Int) u).bind fun r8 => waw n M ((mark + 1 : Nat) : Int) r7 r8)
    (fun M u hJ hsz h0 h1 => by
     rw [hJ.es, hJ.et, wp9 s mark a u hs.1 (fun r hr => (wd3 (hs.2 r hr) hne).1), wp9 t mark b u ht.1 (fun r hr => (wd3 (ht.2 r hr) hne).1)]
     simp only [Option.bind_some]
     exact wpk hk hs ht d n M (mark + 1) (a &&& wca s mark u) (b &&& wca t mark u) (by omega) (by omega) (by omega) (Nat.lt_of_le_of_lt Nat.and_le_left ha) (Nat.lt_of_le_of_lt Nat.and_le_left hb) hJ (by omega))
    cs 0 o ho (Nat.le_refl _) (by omega) (List.pairwise_cons.2 ⟨fun c h => (hpos c h).1, m1⟩) (fun c h _ => h) (fun c h => (hpos c h).2) (fun _ => (m2 _).2 (.inl p3)) (by omega) (fun y ys h0 h1 => by omega)
   have hl := wlJ (to := wqM) (cs := cs) (rec := fun M u => (waV M.s (mark : Int) (a : Int) u).bind fun r7 => (waV M.t (mark : Int) (b : Int) u).bind fun r8 => waw n M ((mark + 1 : Nat) : Int) r7 r8)
    (f := waY (mark : Int) (a : Int) (b : Int) (waw n) cs)
    (fun u v M e hv hi => by
     unfold waY wqM
     dsimp only
     have hw : IntKind.i64.wrap ((v : Int) + 1) = ((v + 1 : Nat) : Int) := by rw [wal (by omega)]; rfl
     have hw2 : IntKind.i64.wrap ((mark : Int) + 1) = ((mark + 1 : Nat) : Int) := by rw [wal (by omega)]; rfl
     rw [decide_eq_true (by omega), cond_true, hi, hw, hw2]
     simp only [Option.bind_some]
     cases waV M.s (mark : Int) (a : Int) u with
     | none => rfl
     | some r7 =>
      cases waV M.t (mark : Int) (b : Int) u with
      | none => rfl
      | some r8 => rfl)
    (fun u M => by
     unfold waY wqM
     dsimp only
     rw [decide_eq_false (by omega)]; rfl) cs.length 0 0 o (by omega) (by omega)
   rw [show ((0 : Nat) : Int) = 0 from rfl, List.drop_zero, hr1] at hl
   have hl : iter (waY (mark : Int) (a : Int) (b : Int) (waw n) cs) (0, 0, o.k, o.s, o.t, o.alike.heads, o.alike.next, o.alike.keys) = (some r).map (Sum.map wqM id) := hl
   rw [hl, hbnd, he]
   cases r with
   | inr q =>
    obtain ⟨xs, f, M'⟩ := q
    obtain ⟨g1, g2, g3, g4⟩ := hr2
    subst g1
    have g3 : M'.alike.keys.length ≤ o.alike.keys.length + cs.length * bnd d := g3
    exact ⟨xs, true, M', rfl, g2, by omega, g4⟩
   | inl M' =>
    obtain ⟨g2, g3, g4⟩ := hr2
    have g3 : M'.alike.keys.length ≤ o.alike.keys.length + cs.length * bnd d := g3
    obtain ⟨o', a1, a2, a3, a4, a5, a6⟩ := wsJ (a := a) (b := b) g2.tab (by omega) (show mark ≤ 4 by omega)
    refine ⟨[], false, o', ?_, ⟨a2.trans g2.ek, a3.trans g2.es, a4.trans g2.et, a5, fun mark' a' b' hm' hmem => ?_⟩, ?_, g4⟩
    ·show (wbo M' (⟨(mark : Int), (a : Int), (b : Int)⟩ : Arr3_Int)).bind _ = _
     rw [a1]; rfl
    ·rw [a6] at hmem
     rcases List.mem_append.1 hmem with h | h
     ·exact g2.memo mark' a' b' hm' h
     ·simp only [List.mem_singleton, Arr3_Int.mk.injEq] at h
      obtain ⟨e1, e2, e3⟩ := h
      have e1 : mark' = mark := by omega
      have e2 : a' = a := by omega
      have e3 : b' = b := by omega
      subst e1 e2 e3
      rw [he]; exact g4
    ·rw [a6]
     simp only [List.length_append, List.length_cons, List.length_nil]
     omega
end Go.Pv

namespace Go.Pv
theorem wqe (k : Int) (s t : List Rule) : chk k [s, t] = if chk k [s] = 0 then chk k [t] else chk k [s] := by
 unfold chk
 by_cases hk : 1 ≤ k ∧ k ≤ 4
 ·simp only [if_pos hk, wh5]
  cases h : wkO k s == 0 with
  | true => simp
  | false =>
   have : wkO k s ≠ 0 := by simpa using h
   simp [this]
 ·simp [if_neg hk]
theorem wro (k : Int) (s t : List Rule) : ∃ r, wes k s t = some r ∧ wde k s t = some r ∧ r.1.length ≤ 4 := by
 unfold wes wde
 rw [wgz k [s, t] (by simp), wi7, wi7, wqe]
 simp only [Option.bind_some]
 by_cases h1 : chk k [s] = 0
 ·rw [if_pos h1, h1, decide_eq_true rfl]
  simp only [cond_true, Option.bind_some]
  by_cases h2 : chk k [t] = 0
  ·rw [h2]
   obtain ⟨k1, k2, s1, s2⟩ := wew h1
   obtain ⟨_, _, t1, t2⟩ := wew h2
   obtain ⟨n, rfl⟩ : ∃ n : Nat, k = n := ⟨k.toNat, by omega⟩
   have hk : n ≤ 4 := by omega
   obtain ⟨xs, f, g1, g2⟩ := wiO hk ⟨s1, s2⟩ ⟨t1, t2⟩
   obtain ⟨ys, g, o', e1, _, _, e4⟩ := wpk hk ⟨s1, s2⟩ ⟨t1, t2⟩ n 100 (⟨(n : Int), s, t, (⟨[], [], []⟩ : Table)⟩ : Compare) 0 (wdm s) (wdm t) (by omega) (by omega) (by omega) (wjb s) (wjb t)
    ⟨rfl, rfl, rfl, ⟨.inl rfl, rfl, (fun x hx => by cases hx), (fun i x hx => by simp at hx), (by simp)⟩, (fun mark a b _ h => by cases h)⟩ (by have := wsK hk; simp; omega)
   obtain ⟨rfl, rfl⟩ := g2.uniq e4
   have e1 : waw 100 (⟨(n : Int), s, t, (⟨[], [], []⟩ : Table)⟩ : Compare) 0 (wdm s : Int) (wdm t : Int) = some (xs, f, o') := e1
   rw [g1, wqa s s1, wqa t t1]
   simp only [decide_true, decide_not, Bool.not_true, cond_false, Option.bind_some]
   rw [e1]
   unfold wcW
   cases f with
   | true =>
    obtain ⟨p1, _, _⟩ := g2.hit rfl
    exact ⟨(xs, 0), rfl, rfl, by have := p1.1; simp only; omega⟩
   | false => exact ⟨([], 10), rfl, rfl, by simp⟩
  ·have h3 : decide (¬ chk k [t] = 0) = true := decide_eq_true h2
   rw [h3]
   exact ⟨([], chk k [t]), rfl, rfl, by simp⟩
 ·have h3 : decide (¬ chk k [s] = 0) = true := decide_eq_true h1
  rw [if_neg h1, decide_eq_false h1]
  simp only [cond_false, Option.bind_some]
  rw [h3]
  exact ⟨([], chk k [s]), rfl, rfl, by simp⟩
end Go.Pv

namespace Go.Pv
end Go.Pv

namespace Go.Pv
def ws4 (m a : Nat) : Nat := if wdY a < 0 then m else (wdY a).toNat
def wsZ (m a : Nat) : List Int := (List.replicate (m + 1) (0 : Int)).set (ws4 m a) 1
def ws5 (l : List Int) (c : Int) (v : List Int) : List Int := List.zipWith (fun x y => x + c * y) l v
def wsL (m : Nat) (g : Int → List Int) : Nat → List Int
 | 0 => List.replicate (m + 1) 0
 | n + 1 => ws5 (wsL m g n) 1 (g (n : Int))
def wsM (t : List Rule) : Nat → Nat → Nat → List Int
 | 0, _, a => wsZ t.length a
 | d + 1, mark, a => wsL t.length (fun x => wsM t d (mark + 1) (a &&& wca t mark x)) 1000
end Go.Pv

namespace Go.Pv
end Go.Pv

namespace Go.Pv
end Go.Pv

namespace Go.Pv
end Go.Pv

namespace Go.Pv
end Go.Pv

namespace Go.Pv
structure SrchOk (t : List Rule) (k : Nat) (o : Search) : Prop where
 ek : o.k = (k : Int)
 et : o.t = t
 tab : TabOk o.seen
 many : o.many.length = o.seen.keys.length
 memo : ∀ (i mark a : Nat) (V : List Int), o.seen.keys[i]? = some (⟨(mark : Int), (a : Int), 0⟩ : Arr3_Int) → o.many[i]? = some V → mark < k → V = wsM t (k - mark) mark a
end Go.Pv

namespace Go.Pv
end Go.Pv

namespace Go.Pv
end Go.Pv

namespace Go.Pv
end Go.Pv

namespace Go.Pv
end Go.Pv

namespace Go.Pv
def wjd (r : Rule) : Nat → List Int → Bool
 | _, [] => true
 | mark, y :: ys => inB mark y r && wjd r (mark + 1) ys
theorem wpl {t : List Rule} : ∀ (ys : List Int) (mark a : Nat), a < 2 ^ t.length → ∀ i, (weN t mark a ys).testBit i = (a.testBit i && ((t[i]?).map fun r => wjd r mark ys).getD false)
 | [], mark, a, ha, i => by
  simp only [weN, wjd]
  cases hi : t[i]? with
  | some r => simp
  | none =>
   rw [List.getElem?_eq_none_iff] at hi
   have : a < 2 ^ i := Nat.lt_of_lt_of_le ha (Nat.pow_le_pow_right (by omega) hi)
   rw [Nat.testBit_lt_two_pow this]; rfl
 | y :: ys, mark, a, ha, i => by
  rw [weN, wpl ys (mark + 1) _ (Nat.lt_of_le_of_lt Nat.and_le_left ha) i, Nat.testBit_and]
  unfold wca
  rw [wiy]
  cases hi : t[i]? with
  | none => simp
  | some r => simp [hi, wjd, Bool.and_assoc]
theorem wr1 {r : Rule} {mark : Nat} (h : mark < r.Bands.length) (x : Int) : inB mark x r = wo5 r.Bands[mark] x := by
 have e : wav r mark = r.Bands[mark] := by
  have h1 := wjP h
  have h2 : idx r.Bands (mark : Int) = some r.Bands[mark] := by unfold idx; simp [h]
  rw [h2] at h1; simpa using h1.symm
 unfold inB wo5
 rw [e]
 have e1 : decide (r.Bands[mark].Lo ≤ x) = !(decide (x < r.Bands[mark].Lo)) := by
  by_cases h : r.Bands[mark].Lo ≤ x
  ·rw [decide_eq_true h, decide_eq_false (by omega)]; rfl
  ·rw [decide_eq_false h, decide_eq_true (by omega)]; rfl
 have e2 : decide (x < r.Bands[mark].Hi) = !(decide (r.Bands[mark].Hi ≤ x)) := by
  by_cases h : x < r.Bands[mark].Hi
  ·rw [decide_eq_true h, decide_eq_false (by omega)]; rfl
  ·rw [decide_eq_false h, decide_eq_true (by omega)]; rfl
 rw [e1, e2]
theorem wn3 (r : Rule) : ∀ (ys : List Int) (mark : Nat), mark + ys.length = r.Bands.length → wjd r mark ys = wfr (r.Bands.drop mark) ys
 | [], mark, h => by
  cases r.Bands.drop mark <;> rfl
 | y :: ys, mark, h => by
  simp only [List.length_cons] at h
  rw [List.drop_eq_getElem_cons (by omega)]
  simp only [wjd, wfr]
  rw [wr1 (by omega) y, wn3 r ys (mark + 1) (by omega)]
theorem wg4 {p : Rule → Bool} {A : Nat} : ∀ (n i : Nat) (l : List Rule), (∀ j, A.testBit (i + j) = ((l[j]?).map p).getD false) → l.length ≤ n → wbS A i n = (l.findIdx? p).map (i + ·)
 | 0, i, l, _, hl => by
  have : l = [] := List.length_eq_zero_iff.1 (by omega)
  subst this; rfl
 | n + 1, i, [], h, _ => by
  have h0 := h 0
  simp only [Nat.add_zero, List.getElem?_nil, Option.map_none, Option.getD_none] at h0
  simp only [wbS, h0, cond_false]
  rw [wg4 (p := p) n (i + 1) [] (fun j => by have := h (j + 1); rw [show i + (j + 1) = i + 1 + j by omega] at this; rw [this]; simp) (by simp)]
  rfl
 | n + 1, i, x :: l, h, hl => by
  have h0 := h 0
  simp only [Nat.add_zero, List.getElem?_cons_zero, Option.map_some, Option.getD_some] at h0
  simp only [wbS, h0, List.findIdx?_cons]
  cases p x with
  | true => rfl
  | false =>
   rw [cond_false, wg4 (p := p) n (i + 1) l (fun j => by have := h (j + 1); rw [show i + (j + 1) = i + 1 + j by omega] at this; rw [this, List.getElem?_cons_succ]) (by simp only [List.length_cons] at hl; omega)]
   cases l.findIdx? p with
   | none => rfl
   | some j => simp; omega
theorem wr2 (t : List Rule) (i : Nat) : (wdm t).testBit i = decide (i < t.length) := by
 unfold wdm; rw [Nat.testBit_two_pow_sub_one]
theorem wpm {k : Nat} {t : List Rule} (ht : t.length ≤ 24 ∧ ∀ r ∈ t, wbb (k : Int) r = true) {xs : List Int} (hx : xs.length = k) : wdY (weN t 0 (wdm t) xs) = wnn t xs := by
 have h : ∀ j, (weN t 0 (wdm t) xs).testBit (0 + j) = ((t[j]?).map fun r => wfr r.Bands xs).getD false := fun j => by
  rw [Nat.zero_add, wpl xs 0 (wdm t) (wjb t) j, wr2]
  cases hj : t[j]? with
  | none => simp
  | some r =>
   obtain ⟨hlt, e⟩ := List.getElem?_eq_some_iff.1 hj
   have hm : r ∈ t := by rw [← e]; exact List.getElem_mem hlt
   have hl := wjO (ht.2 r hm)
   simp only [Option.map_some, Option.getD_some, decide_eq_true hlt, Bool.true_and]
   rw [wn3 r xs 0 (by omega), List.drop_zero]
 unfold wdY wnn
 rw [wg4 24 0 t h ht.1]
 cases t.findIdx? (fun r => wfr r.Bands xs) with
 | none => rfl
 | some j => simp
end Go.Pv

namespace Go.Pv
theorem wqN {k : Nat} {s t : List Rule} (hs : chk (k : Int) [s] = 0) (ht : chk (k : Int) [t] = 0) : ∃ xs f, wes (k : Int) s t = some (cond f (xs, 0) ([], 10)) ∧ Ans s t (wf1 s t) 0 k (wdm s) (wdm t) f xs := by
 unfold wes
 rw [wgz (k : Int) [s, t] (by simp), wqe, if_pos hs, ht]
 obtain ⟨k1, k2, s1, s2⟩ := wew hs
 obtain ⟨_, _, t1, t2⟩ := wew ht
 obtain ⟨xs, f, e1, e2⟩ := wiO (k := k) (by omega) ⟨s1, s2⟩ ⟨t1, t2⟩
 refine ⟨xs, f, ?_, e2⟩
 simp only [Option.bind_some, decide_not, decide_true, Bool.not_true, cond_false, e1]
 unfold wcW
 cases f <;> rfl
end Go.Pv

namespace Go.Pv
def weB (t : List Rule) (xs : List Int) : Int := match t.find? (fun r => wfr r.Bands xs) with | some r => r.Code | none => -1
def we6 (k : Nat) (s t : List Rule) : Prop := ∀ xs, Pts k xs → weB s xs = weB t xs
theorem wpn {p : Rule → Bool} : ∀ (t : List Rule), (match t.findIdx? p with | some j => t[j]? | none => none) = t.find? p
 | [] => rfl
 | x :: t => by
  rw [List.findIdx?_cons, List.find?_cons]
  cases p x with
  | true => rfl
  | false =>
   have ih := wpn (p := p) t
   cases h : t.findIdx? p with
   | none => rw [h] at ih; simpa using ih
   | some j => rw [h] at ih; simpa using ih
theorem wqf {k : Nat} {t : List Rule} (ht : t.length ≤ 24 ∧ ∀ r ∈ t, wbb (k : Int) r = true) {xs : List Int} (hx : xs.length = k) : wiz t (weN t 0 (wdm t) xs) = weB t xs := by
 have h := wpn (p := fun r => wfr r.Bands xs) t
 unfold wiz weB
 rw [wpm ht hx]
 unfold wnn
 cases hf : t.findIdx? (fun r => wfr r.Bands xs) with
 | none => rw [hf] at h; simp only at h; rw [← h]; rfl
 | some j =>
  rw [hf] at h
  simp only at h
  obtain ⟨hj, _⟩ := List.findIdx?_eq_some_iff_getElem.1 hf
  rw [← h, List.getElem?_eq_getElem hj]
  have : ¬ ((j : Int) < 0) := by omega
  simp only [if_neg this, Int.toNat_natCast]
  rw [List.getD, List.getElem?_eq_getElem hj]; rfl
theorem wpo {k : Nat} {s t : List Rule} (hs : s.length ≤ 24 ∧ ∀ r ∈ s, wbb (k : Int) r = true) (ht : t.length ≤ 24 ∧ ∀ r ∈ t, wbb (k : Int) r = true) {f : Bool} {xs : List Int} (h : Ans s t (wf1 s t) 0 k (wdm s) (wdm t) f xs) : (f = false ↔ we6 k s t) ∧ (f = true → Pts k xs ∧ weB s xs ≠ weB t xs) := by
 have key : ∀ ys, Pts k ys → (wf1 s t (weN s 0 (wdm s) ys) (weN t 0 (wdm t) ys) = true ↔ weB s ys ≠ weB t ys) := fun ys hy => by
  unfold wf1
  rw [wqf hs hy.1, wqf ht hy.1, decide_eq_true_eq]
 refine ⟨⟨fun hf ys hy => ?_, fun hsame => ?_⟩, fun hf => ?_⟩
 ·refine Classical.byContradiction fun hne => ?_
  have := (h.miss hf).2 ys hy
  rw [(key ys hy).2 hne] at this; cases this
 ·cases hf : f with
  | false => rfl
  | true =>
   obtain ⟨h1, h2, _⟩ := h.hit hf
   exact absurd (hsame xs h1) ((key xs h1).1 h2)
 ·obtain ⟨h1, h2, _⟩ := h.hit hf
  exact ⟨h1, (key xs h1).1 h2⟩
theorem wqO {k : Nat} (hk : k ≤ 4) {s t : List Rule} (hs : s.length ≤ 24 ∧ ∀ r ∈ s, wbb (k : Int) r = true) (ht : t.length ≤ 24 ∧ ∀ r ∈ t, wbb (k : Int) r = true) : ∃ xs f, wdd (k : Int) s t = some (xs, f) ∧ (f = false ↔ we6 k s t) := by
 obtain ⟨xs, f, h1, h2⟩ := wiO hk hs ht
 exact ⟨xs, f, h1, (wpo hs ht h2).1⟩
theorem wrp {k : Int} {t : List Rule} (h1 : 1 ≤ k) (h2 : k ≤ 4) (h3 : t.length ≤ 24) (h4 : ∀ r ∈ t, wbb k r = true) : chk k [t] = 0 := by
 unfold chk
 rw [if_pos ⟨h1, h2⟩]
 have e1 : decide (24 < (t.length : Int)) = false := decide_eq_false (by omega)
 have e2 : (t.any fun r => !wbb k r) = false := by
  rw [List.any_eq_false]
  intro r hr
  rw [h4 r hr]; simp
 simp [wh5, wkO, e1, e2]
theorem wqP {k : Nat} {s t : List Rule} (hs : chk (k : Int) [s] = 0) (ht : chk (k : Int) [t] = 0) : ∃ xs f, wes (k : Int) s t = some (cond f (xs, 0) ([], 10)) ∧ (f = false ↔ we6 k s t) ∧ (f = true → Pts k xs ∧ weB s xs ≠ weB t xs) := by
 obtain ⟨xs, f, h1, h2⟩ := wqN hs ht
 obtain ⟨_, _, s1, s2⟩ := wew hs
 obtain ⟨_, _, t1, t2⟩ := wew ht
 exact ⟨xs, f, h1, wpo ⟨s1, s2⟩ ⟨t1, t2⟩ h2⟩
end Go.Pv

namespace Go.Pv
theorem wmW {p : Rule → Bool} : ∀ (l : List Rule) (j : Nat) (hj : j < l.length), p l[j] = false → (l.eraseIdx j).find? p = l.find? p
 | [], j, hj, _ => by simp at hj
 | x :: l, 0, _, h => by simp only [List.getElem_cons_zero] at h; simp [h]
 | x :: l, j + 1, hj, h => by
  simp only [List.eraseIdx_cons_succ, List.find?_cons]
  rw [wmW l j (by simpa using hj) (by simpa using h)]
theorem wlK {p : Rule → Bool} : ∀ (l : List Rule) (j i : Nat) (hj : j < l.length) (hi : i < j), p (l[i]'(by omega)) = true → (l.eraseIdx j).find? p = l.find? p
 | [], j, i, hj, _, _ => by simp at hj
 | x :: l, j + 1, 0, hj, hi, h => by
  simp only [List.getElem_cons_zero] at h
  simp only [List.eraseIdx_cons_succ, List.find?_cons, h]
 | x :: l, j + 1, i + 1, hj, hi, h => by
  simp only [List.eraseIdx_cons_succ, List.find?_cons]
  rw [wlK l j i (by simpa using hj) (by omega) (by simpa using h)]
theorem wiP {l : List Rule} {j : Nat} (hj : j < l.length) {xs : List Int} (h : wfr l[j].Bands xs = false) : weB (l.eraseIdx j) xs = weB l xs := by
 unfold weB; rw [wmW l j hj h]
theorem wr3 {l : List Rule} {j : Nat} (hj : j < l.length) {xs : List Int} (h : weB l xs ≠ weB (l.eraseIdx j) xs) : wfr l[j].Bands xs = true ∧ ∀ i (hi : i < j), wfr (l[i]'(by omega)).Bands xs = false := by
 refine ⟨?_, fun i hi => ?_⟩
 ·cases hf : wfr l[j].Bands xs with
  | true => rfl
  | false => exact absurd (wiP hj hf).symm h
 ·cases hf : wfr (l[i]'(by omega)).Bands xs with
  | false => rfl
  | true =>
   refine absurd ?_ h
   unfold weB
   rw [wlK l j i hj hi hf]
theorem wmX : ∀ (l : List Rule) (i j : Nat), i ≤ j → (l.eraseIdx i).eraseIdx j = (l.eraseIdx (j + 1)).eraseIdx i
 | [], i, j, _ => by simp
 | x :: l, 0, j, _ => by simp
 | x :: l, i + 1, j + 1, h => by
  simp only [List.eraseIdx_cons_succ]
  rw [wmX l i j (by omega)]
def wg5 (k i : Nat) (l : List Rule) : Prop := ∀ j, i ≤ j → j < l.length → ¬ we6 k l (l.eraseIdx j)
theorem wr4 {k i : Nat} {l : List Rule} (hi : i < l.length) (h : wg5 k (i + 1) l) : wg5 k i (l.eraseIdx i) := by
 intro j hij hj hs
 rw [List.length_eraseIdx_of_lt hi] at hj
 refine h (j + 1) (by omega) (by omega) fun xs hx => ?_
 refine Classical.byContradiction fun hne => ?_
 obtain ⟨h1, h2⟩ := wr3 (by omega) hne
 have h3 := h2 i (by omega)
 have h4 := hs xs hx
 rw [wmX l i j hij, wiP hi h3] at h4
 have h5 : (l.eraseIdx (j + 1))[i]'(by rw [List.length_eraseIdx_of_lt (by omega)]; omega) = l[i] := List.getElem_eraseIdx_of_lt _ (by omega)
 rw [wiP (by rw [List.length_eraseIdx_of_lt (by omega)]; omega) (by rw [h5]; exact h3)] at h4
 exact hne h4
theorem wqQ (k : Nat) (l : List Rule) : we6 k l l := fun _ _ => rfl
theorem wqR {k : Nat} {s t : List Rule} (h : we6 k s t) : we6 k t s := fun xs hx => (h xs hx).symm
theorem wpU {k : Nat} {s t u : List Rule} (h : we6 k s t) (h' : we6 k t u) : we6 k s u := fun xs hx => (h xs hx).trans (h' xs hx)
def whd (k : Nat) (l : List Rule) : Prop := l.length ≤ 24 ∧ ∀ r ∈ l, wbb (k : Int) r = true
theorem wjS {k : Nat} {l : List Rule} (h : whd k l) (i : Nat) : whd k (l.eraseIdx i) :=
 ⟨Nat.le_trans (List.eraseIdx_sublist l i).length_le h.1, fun r hr => h.2 r ((List.eraseIdx_sublist l i).subset hr)⟩
theorem wsN {l : List Rule} {i : Nat} (hi : i < l.length) : wmH l (i : Int) ((i + 1 : Nat) : Int) = decide (l.length ≤ 4294967296) ∧ List.take (wh4 l (i : Int) ((i + 1 : Nat) : Int)) (wf3 l (i : Int) ((i + 1 : Nat) : Int)) = l.eraseIdx i := by
 refine ⟨?_, ?_⟩
 ·unfold wmH
  rw [decide_eq_decide]; omega
 ·unfold wh4 wf3
  rw [show (((i + 1 : Nat) : Int) - (i : Int)).toNat = 1 by omega, Int.toNat_natCast, Int.toNat_natCast, List.take_append_of_le_length (by simp; omega), List.take_of_length_le (by simp; omega), List.eraseIdx_eq_take_drop_succ]
theorem wn4 {k : Nat} (hk : k ≤ 4) {l : List Rule} (hl : whd k l) {i : Nat} (hi : i < l.length) : ∃ l', wbf (k : Int) (l, (i : Int)) = some (.inl (l', (i : Int) - 1)) ∧ ((l' = l ∧ ¬ we6 k l (l.eraseIdx i)) ∨ (l' = l.eraseIdx i ∧ we6 k l (l.eraseIdx i))) := by
 obtain ⟨d1, d2⟩ := wsN hi
 have h24 := hl.1
 have hw : IntKind.i64.wrap ((i : Int) + 1) = ((i + 1 : Nat) : Int) := by rw [wal (by omega)]; rfl
 obtain ⟨xs, f, h1, h2⟩ := wqO hk hl (wjS hl i)
 have hc : wdX l = some l := by unfold wdX; rw [if_pos (by omega)]
 have hstep : wbf (k : Int) (l, (i : Int)) = some (.inl (cond (!f) (l.eraseIdx i) l, (i : Int) - 1)) := by
  unfold wbf
  dsimp only
  rw [decide_eq_true (by omega), cond_true, hc]
  simp only [Option.bind_some]
  rw [hw, d1, d2]
  unfold wah
  rw [if_pos (decide_eq_true (by omega)), h1]
  simp only [Option.bind_some]
  rw [wal (by omega)]
  cases f <;> rfl
 refine ⟨_, hstep, ?_⟩
 cases f with
 | false => exact .inr ⟨rfl, h2.1 rfl⟩
 | true => exact .inl ⟨rfl, fun h => by have := h2.2 h; cases this⟩
theorem wkX {k : Nat} (hk : k ≤ 4) (t : List Rule) : ∀ (n : Nat) (l : List Rule), n ≤ l.length → whd k l → l.Sublist t → we6 k l t → wg5 k n l → ∃ out, iter (wbf (k : Int)) (l, (n : Int) - 1) = some out ∧ whd k out ∧ out.Sublist t ∧ we6 k out t ∧ wg5 k 0 out ∧ (wg5 k 0 l → out = l)
 | 0, l, hn, hl, hs, hsame, hirr => by
  refine ⟨l, wbu ?_, hl, hs, hsame, hirr, fun _ => rfl⟩
  unfold wbf
  dsimp only
  rw [decide_eq_false (by omega)]; rfl
 | n + 1, l, hn, hl, hs, hsame, hirr => by
  obtain ⟨l', h1, h2⟩ := wn4 hk hl (show n < l.length by omega)
  have e : ((n + 1 : Nat) : Int) - 1 = (n : Int) := by omega
  rw [e]
  rcases h2 with ⟨rfl, h2⟩ | ⟨rfl, h2⟩
  ·obtain ⟨out, g1, g2⟩ := wkX hk t n l' (by omega) hl hs hsame (fun j hj hj2 => by
    by_cases hjn : j = n
    ·subst hjn; exact h2
    ·exact hirr j (by omega) hj2)
   exact ⟨out, wcB h1 g1, g2⟩
  ·obtain ⟨out, g1, g2, g3, g4, g5, _⟩ := wkX hk t n (l.eraseIdx n) (by rw [List.length_eraseIdx_of_lt (by omega)]; omega) (wjS hl n) ((List.eraseIdx_sublist l n).trans hs) (wpU (wqR h2) hsame) (wr4 (by omega) hirr)
   exact ⟨out, wcB h1 g1, g2, g3, g4, g5, fun hi => absurd h2 (hi n (by omega) (by omega))⟩
theorem wkY (t : List Rule) {k : Nat} (hk : k ≤ 4) (ht : whd k t) : ∀ (n i : Nat) (L : List Rule), n = t.length - i → L.length ≤ i → iter (wcR t) ((i : Int), L) = some (L ++ t.drop i)
 | 0, i, L, hn, hL => by
  rw [wdu t (by omega), List.append_nil]
  refine wbu ?_
  unfold wcR
  dsimp only
  rw [decide_eq_false (by omega)]; rfl
 | n + 1, i, L, hn, hL => by
  have hi : i < t.length := by omega
  have h24 := ht.1
  have h2 : idx t (i : Int) = some t[i] := by unfold idx; simp [hi]
  have hb := wjO (ht.2 t[i] (List.getElem_mem hi))
  have hc : wdX t[i].Bands = some t[i].Bands := by unfold wdX; rw [if_pos (by omega)]
  have ih := wkY t hk ht n (i + 1) (L ++ [t[i]]) (by omega) (by simp; omega)
  rw [List.append_assoc] at ih
  rw [List.drop_eq_getElem_cons hi]
  refine wcB ?_ ih
  unfold wcR
  dsimp only
  rw [decide_eq_true (by omega), cond_true, h2]
  simp only [Option.bind_some, hc]
  rw [wal (by omega)]
  unfold wah
  rw [if_pos (by simp; omega)]; rfl
theorem wr5 {k : Nat} {t : List Rule} (h : chk (k : Int) [t] = 0) : ∃ out, wcn (k : Int) t = some (out, 0) ∧ whd k out ∧ out.Sublist t ∧ we6 k out t ∧ wg5 k 0 out ∧ (wg5 k 0 t → out = t) := by
 obtain ⟨k1, k2, t1, t2⟩ := wew h
 have hk : k ≤ 4 := by omega
 have hc := wkY t hk ⟨t1, t2⟩ t.length 0 [] (by omega) (by simp)
 have hc : iter (wcR t) (0, []) = some ([] ++ t.drop 0) := hc
 rw [List.nil_append, List.drop_zero] at hc
 obtain ⟨out, g1, g2⟩ := wkX hk t t.length t (Nat.le_refl _) ⟨t1, t2⟩ (List.Sublist.refl _) (wqQ k t) (fun j h1 h2 => by omega)
 refine ⟨out, ?_, g2⟩
 unfold wcn
 rw [wgz (k : Int) [t] (by simp), h]
 simp only [Option.bind_some, decide_not, decide_true, Bool.not_true, cond_false, hc]
 rw [wal (by omega), g1]; rfl
theorem wr6 {k : Int} {t : List Rule} (h : chk k [t] ≠ 0) : wcn k t = some ([], chk k [t]) := by
 unfold wcn
 rw [wgz k [t] (by simp), Option.bind_some]
 have hz : decide (¬ chk k [t] = 0) = true := decide_eq_true h
 rw [hz]; rfl
end Go.Pv

namespace Go.Pv
end Go.Pv

namespace Go.Pv
def wli (t : List Rule) : Prop := t.length ≤ 40 ∧ ∀ r ∈ t, r.Bands.length ≤ 20
theorem wn5 (t : List Rule) : ∀ (n i : Nat), n = 41 - i → i ≤ 40 → (iter (waG t) (i : Int) = some (.inr false)) ∨ (iter (waG t) (i : Int) = some (.inl ()) ∧ t.length ≤ 40 ∧ ∀ r ∈ t.drop i, r.Bands.length ≤ 20)
 | 0, i, hn, hi => by omega
 | n + 1, i, hn, hi => by
  rw [wbB]
  by_cases hlt : i < t.length
  ·have h1 : decide ((i : Int) < (t.length : Int)) = true := by simp; omega
   have h2 : idx t (i : Int) = some t[i] := by unfold idx; simp [hlt]
   by_cases h40 : i = 40
   ·have h3 : decide (40 ≤ (i : Int)) = true := by simp; omega
    refine .inl ?_
    unfold waG
    simp only [h1, h3, cond_true, Option.bind_some]
   ·have h3 : decide (40 ≤ (i : Int)) = false := by simp; omega
    have ih := wn5 t n (i + 1) (by omega) (by omega)
    generalize hf0 : waG t = f at ih ⊢
    have hf : f (i : Int) = cond (decide (20 < (t[i].Bands.length : Int))) (some (.inr (.inr false))) (some (.inl (IntKind.i64.wrap ((i : Int) + 1)))) := by
     rw [← hf0]; unfold waG
     simp only [h1, h3, cond_true, cond_false, Option.bind_some, h2]
    rw [hf]
    by_cases hb : 20 < (t[i].Bands.length : Int)
    ·rw [decide_eq_true hb]; exact .inl rfl
    ·rw [decide_eq_false hb]
     simp only [cond_false, Option.bind_some]
     rw [wal (by omega), show ((i : Int) + 1) = ((i + 1 : Nat) : Int) by omega]
     rcases ih with ih | ⟨g1, g2, g3⟩
     ·exact .inl ih
     ·refine .inr ⟨g1, g2, fun r hr => ?_⟩
      rw [List.drop_eq_getElem_cons hlt] at hr
      rcases List.mem_cons.1 hr with rfl | hr
      ·omega
      ·exact g3 r hr
  ·have h1 : decide ((i : Int) < (t.length : Int)) = false := by simp; omega
   refine .inr ⟨?_, by omega, fun r hr => ?_⟩
   ·unfold waG
    simp only [h1, cond_false, Option.bind_some]
   ·rw [wdu t (by omega)] at hr; cases hr
theorem wrq {k : Int} {t : List Rule} (h : wcz k t = some true) : wli t := by
 unfold wcz at h
 have h2 := wn5 t 41 0 (by omega) (by omega)
 rw [show ((0 : Nat) : Int) = 0 from rfl, List.drop_zero] at h2
 rcases h2 with h2 | h2
 ·rw [h2] at h; simp at h
 ·exact h2.2
theorem wlL (t : List Rule) (hs : wli t) : ∀ (n i : Nat) (L : List Rule), n = t.length - i → L.length ≤ i → iter (wbU t) ((i : Int), L) = some (L ++ t.drop i)
 | 0, i, L, hn, hL => by
  rw [wdu t (by omega), List.append_nil]
  refine wbu ?_
  unfold wbU
  dsimp only
  rw [decide_eq_false (by omega)]; rfl
 | n + 1, i, L, hn, hL => by
  have hi : i < t.length := by omega
  have h2 : idx t (i : Int) = some t[i] := by unfold idx; simp [hi]
  have hb := hs.2 t[i] (List.getElem_mem hi)
  have hs1 := hs.1
  have ih := wlL t hs n (i + 1) (L ++ [t[i]]) (by omega) (by simp; omega)
  rw [List.append_assoc] at ih
  rw [List.drop_eq_getElem_cons hi]
  refine wcB ?_ ih
  unfold wbU
  dsimp only
  rw [decide_eq_true (by omega), cond_true, h2]
  simp only [Option.bind_some]
  rw [wal (by omega)]
  unfold wah
  rw [if_pos (by omega), if_pos (by simp; omega)]; rfl
theorem wrr {t : List Rule} (hs : wli t) : wcs t = some t := by
 unfold wcs
 have h := wlL t hs t.length 0 [] (by omega) (by simp)
 have h : iter (wbU t) (0, []) = some ([] ++ t.drop 0) := h
 rw [h]; rfl
theorem wlM (t : List Rule) {i : Nat} (hi : i < t.length) (hb : t[i].Bands.length ≤ 20) : ∀ (n j : Nat), n = t[i].Bands.length - j → iter (wcF t t (i : Int)) (j : Int) = some (.inl ())
 | 0, j, hn => by
  have h2 : idx t (i : Int) = some t[i] := by unfold idx; simp [hi]
  refine wbu ?_
  unfold wcF
  rw [h2]
  simp only [Option.bind_some]
  rw [decide_eq_false (by omega)]; rfl
 | n + 1, j, hn => by
  have h2 : idx t (i : Int) = some t[i] := by unfold idx; simp [hi]
  have hj : j < t[i].Bands.length := by omega
  have h3 : idx t[i].Bands (j : Int) = some t[i].Bands[j] := by unfold idx; simp [hj]
  have ih := wlM t hi hb n (j + 1) (by omega)
  refine wcB ?_ ih
  unfold wcF
  rw [h2]
  simp only [Option.bind_some]
  rw [decide_eq_true (by omega), cond_true, h3]
  simp only [Option.bind_some, beq_self_eq_true, Bool.and_self, Bool.not_true, cond_false]
  rw [wal (by omega)]; rfl
theorem wmY (t : List Rule) (hs : wli t) : ∀ (n i : Nat), n = t.length - i → iter (wcG t t) (i : Int) = some (.inl ())
 | 0, i, hn => by
  refine wbu ?_
  unfold wcG
  rw [decide_eq_false (by omega)]; rfl
 | n + 1, i, hn => by
  have hi : i < t.length := by omega
  have h2 : idx t (i : Int) = some t[i] := by unfold idx; simp [hi]
  have hb := hs.2 t[i] (List.getElem_mem hi)
  have hs1 := hs.1
  have ih := wmY t hs n (i + 1) (by omega)
  have h3 := wlM t hi hb t[i].Bands.length 0 (by omega)
  rw [show ((0 : Nat) : Int) = 0 from rfl] at h3
  refine wcB ?_ ih
  unfold wcG
  rw [decide_eq_true (by omega), cond_true, h2]
  simp only [Option.bind_some]
  simp only [not_true_eq_false, decide_false, cond_false]
  rw [h3]
  simp only [Option.bind_some]
  rw [wal (by omega)]; rfl
theorem wmZ {t : List Rule} (hs : wli t) : wbE t t = some true := by
 unfold wbE
 have h := wmY t hs t.length 0 (by omega)
 rw [show ((0 : Nat) : Int) = 0 from rfl] at h
 simp only [not_true_eq_false, decide_false, cond_false]
 rw [h]; rfl
end Go.Pv

namespace Go.Pv.Tryd
open Go.Proofs Go.Pv
set_option maxHeartbeats 4000000 in
theorem wdO (k1 : Int) (t1 : (List Rule)) (r : Int) (h : wbR k1 t1 = some r) : PureFn Tryd.prog G 40 [.d (.int .i64 k1), .d (.imm 2 (wab Rule.pd t1))] (.d (.int .i64 r)) := by
 unfold wbR at h
 refine pf Tryd.func40 Tryd.ntmps40 ?_
 refine sg fun K k => ?_
 refine oo ?_
 refine AOps.nil (k _ ?_)
 refine AWp.seq fun _ K_1 => ?_
 refine sg fun K k => ?_
 iterate 3 refine oo ?_
 refine ct 3 [0, 1] [] (fun  t => (13, .d (.bool ((decide (k1 < 1)) || (decide (4 < k1))))) :: t) ?_ ?_
 ·rcases bt (decide (k1 < 1)) with hg_3 | hg_3
  ·rw [hg_3]
   iterate 3 refine oo ?_
   refine AOps.nil ?_
   exact sb
  ·rw [hg_3]
   iterate 3 refine oo ?_
   refine AOps.nil ?_
   exact sb
 refine AOps.nil (k _ ?_)
 refine cd h (fun h => ?_) (fun h => ?_)
 ·refine sg fun K k => ?_
  refine oo ?_
  refine AOps.nil (k _ ?_)
  refine AWp.ret ?_
  cases h; exact rt
 ·refine AWp.skip ?_
  refine K_1 _ ?_
  refine AWp.seq fun _ K_5 => ?_
  refine sg fun K k => ?_
  iterate 3 refine oo ?_
  refine AOps.nil (k _ ?_)
  refine cd h (fun h => ?_) (fun h => ?_)
  ·refine sg fun K k => ?_
   refine oo ?_
   refine AOps.nil (k _ ?_)
   refine AWp.ret ?_
   cases h; exact rt
  ·refine AWp.skip ?_
   refine K_5 _ ?_
   refine jm (ι := Unit) [] [] (fun i t => t) (fun i t => t) .inl h ?_ ?_
   ·intro _ hj_8 h
    refine sg fun K k => ?_
    refine oo ?_
    refine AOps.nil (k _ ?_)
    refine AWp.block ?_
    obtain ⟨x_13, hl_10, h2_11⟩ := bind_some hj_8
    refine lp (S := Int) [0, 1] [] (fun i t => (5, .d (.int .i64 i)) :: t) (fun i t => t) hl_10 ?_ ?_; exact sb; clear hl_10
    rintro i1 _ hb_12; unfold wcc at hb_12; try dsimp only at hb_12
    try dsimp only
    refine AWp.seq fun _ K_15 => ?_
    refine sg fun K k => ?_
    iterate 4 refine oo ?_
    refine AOps.nil (k _ ?_)
    refine cd hb_12 (fun hb_12 => ?_) (fun hb_12 => ?_)
    ·refine AWp.skip ?_
     refine K_15 _ ?_
     refine jm (ι := Unit) [0, 1, 5] [] (fun i t => t) (fun i t => t) .inl hb_12 ?_ ?_
     ·intro _ hj_18 hb_12
      refine AWp.block ?_
      refine sg fun K k => ?_
      obtain ⟨e1, ⟨f_19, f_20, f_21, f_22⟩, hj_18⟩ := wak hj_18
      iterate 3 refine oo ?_
      refine oo ?_ (by intro K k; simp (disch := omega) only [go_sem, f_21, ↓reduceIte]; exact k)
      iterate 2 refine oo ?_
      refine AOps.nil (k _ ?_)
      refine AWp.seq fun _ K_23 => ?_
      refine sg fun K k => ?_
      iterate 6 refine oo ?_
      refine ct 4 [0, 1, 5, 6] [1000] (fun  t => (36, .d (.bool ((decide (¬(e1.Bands.length : Int) = k1)) || (decide (e1.Code < 0))))) :: t) ?_ ?_
      ·rcases bt (decide (¬(e1.Bands.length : Int) = k1)) with hg_25 | hg_25
       ·rw [hg_25]
        iterate 4 refine oo ?_
        refine AOps.nil ?_
        exact sb
       ·rw [hg_25]
        iterate 4 refine oo ?_
        refine AOps.nil ?_
        exact sb
      refine oo ?_
      refine ct 4 [0, 1, 5, 6] [1000] (fun  t => (41, .d (.bool (((decide (¬(e1.Bands.length : Int) = k1)) || (decide (e1.Code < 0))) || (decide (99 < e1.Code))))) :: t) ?_ ?_
      ·rcases bt ((decide (¬(e1.Bands.length : Int) = k1)) || (decide (e1.Code < 0))) with hg_27 | hg_27
       ·rw [hg_27]
        iterate 4 refine oo ?_
        refine AOps.nil ?_
        exact sb
       ·rw [hg_27]
        iterate 4 refine oo ?_
        refine AOps.nil ?_
        exact sb
      refine AOps.nil (k _ ?_)
      refine cd hj_18 (fun hj_18 => ?_) (fun hj_18 => ?_)
      ·refine sg fun K k => ?_
       refine oo ?_
       refine AOps.nil (k _ ?_)
       refine AWp.ret ?_
       cases hj_18; try dsimp only at hb_12
       refine lx hb_12 fun hx => ?_; cases hx; try dsimp only at h2_11
       cases h2_11; try dsimp only at h
       cases h; exact rt
      ·refine AWp.skip ?_
       refine K_23 _ ?_
       refine sg fun K k => ?_
       refine oo ?_
       refine AOps.nil (k _ ?_)
       refine AWp.block ?_
       obtain ⟨x_33, hl_30, h2_31⟩ := bind_some hj_18
       refine lp (S := Int) [0, 1, 5, 6] [1000] (fun i t => (7, .d (.int .i64 i)) :: t) (fun i t => t) hl_30 ?_ ?_; exact sb; clear hl_30
       rintro m1 _ hb_32; unfold wcb at hb_32; try dsimp only at hb_32
       try dsimp only
       refine AWp.seq fun _ K_35 => ?_
       refine sg fun K k => ?_
       iterate 3 refine oo ?_
       refine AOps.nil (k _ ?_)
       refine cd hb_32 (fun hb_32 => ?_) (fun hb_32 => ?_)
       ·refine AWp.skip ?_
        refine K_35 _ ?_
        refine AWp.seq fun _ K_37 => ?_
        refine AWp.block ?_
        refine sd mo fun K k => ?_
        obtain ⟨e2, ⟨f_38, f_39, f_40, f_41⟩, hb_32⟩ := wak hb_32
        iterate 5 refine dd ?_
        refine dd ?_ (by intro K k; simp (disch := omega) only [go_sem, f_40, ↓reduceIte]; exact k)
        iterate 2 refine dd ?_
        rcases bt (decide (e2.Lo < 0)) with hg_42 | hg_42
        ·rw [hg_42]
         rw [hg_42, cond_true] at hb_32
         iterate 23 refine dd ?_
         refine DOps.nil (by kernel_rfl) (k _ ?_)
         refine cdt ?_
         refine sg fun K k => ?_
         refine oo ?_
         refine AOps.nil (k _ ?_)
         refine AWp.ret ?_
         refine lx hb_32 fun hx => ?_; cases hx; try dsimp only at h2_31
         cases h2_31; try dsimp only at hb_12
         refine lx hb_12 fun hx => ?_; cases hx; try dsimp only at h2_11
         cases h2_11; try dsimp only at h
         cases h; exact rt
        ·rw [hg_42]
         rw [hg_42, cond_false] at hb_32
         iterate 5 refine dd ?_
         refine dd ?_ (by intro K k; simp (disch := omega) only [go_sem, f_40, ↓reduceIte]; exact k)
         iterate 5 refine dd ?_
         refine dd ?_ (by intro K k; simp (disch := omega) only [go_sem, f_40, ↓reduceIte]; exact k)
         iterate 3 refine dd ?_
         rcases bt (decide (e2.Hi ≤ e2.Lo)) with hg_44 | hg_44
         ·rw [hg_44]
          rw [hg_44, cond_true] at hb_32
          iterate 8 refine dd ?_
          refine DOps.nil (by kernel_rfl) (k _ ?_)
          refine cdt ?_
          refine sg fun K k => ?_
          refine oo ?_
          refine AOps.nil (k _ ?_)
          refine AWp.ret ?_
          refine lx hb_32 fun hx => ?_; cases hx; try dsimp only at h2_31
          cases h2_31; try dsimp only at hb_12
          refine lx hb_12 fun hx => ?_; cases hx; try dsimp only at h2_11
          cases h2_11; try dsimp only at h
          cases h; exact rt
         ·rw [hg_44]
          rw [hg_44, cond_false] at hb_32
          iterate 5 refine dd ?_
          refine dd ?_ (by intro K k; simp (disch := omega) only [go_sem, f_40, ↓reduceIte]; exact k)
          iterate 2 refine dd ?_
          refine DOps.nil (by kernel_rfl) (k _ ?_)
          refine cd hb_32 (fun hb_32 => ?_) (fun hb_32 => ?_)
          ·refine sg fun K k => ?_
           refine oo ?_
           refine AOps.nil (k _ ?_)
           refine AWp.ret ?_
           refine lx hb_32 fun hx => ?_; cases hx; try dsimp only at h2_31
           cases h2_31; try dsimp only at hb_12
           refine lx hb_12 fun hx => ?_; cases hx; try dsimp only at h2_11
           cases h2_11; try dsimp only at h
           cases h; exact rt
          ·refine AWp.skip ?_
           refine K_37 _ ?_
           refine AWp.reg ?_
           iterate 3 refine oo ?_
           refine AOps.nil ?_
           exact ln hb_32 sb
       ·refine AWp.exit ?_
        refine lx hb_32 fun hx => ?_; cases hx; try dsimp only at h2_31
        exact ln h2_31 sb
     ·rintro _ hb_12; dsimp only at hb_12 ⊢
      refine AWp.reg ?_
      iterate 3 refine oo ?_
      refine AOps.nil ?_
      exact ln hb_12 sb
    ·refine AWp.exit ?_
     refine lx hb_12 fun hx => ?_; cases hx; try dsimp only at h2_11
     exact ln h2_11 sb
   ·rintro _ h; dsimp only at h ⊢
    refine sg fun K k => ?_
    refine oo ?_
    refine AOps.nil (k _ ?_)
    refine AWp.ret ?_
    cases h; exact rt
end Go.Pv.Tryd

namespace Go.Pv.Tryd
open Go.Proofs Go.Pv
theorem we7 (t1 : (List Rule)) (r : Int) (h : wb4 t1 = some r) : PureFn Tryd.prog G 51 [.d (.imm 2 (wab Rule.pd t1))] (.d (.int .i64 r)) := by
 unfold wb4 at h
 refine pf Tryd.func51 Tryd.ntmps51 ?_
 refine sg fun K k => ?_
 refine oo ?_
 refine AOps.nil (k _ ?_)
 refine sg fun K k => ?_
 obtain ⟨hg_1, h⟩ := wae h
 iterate 5 refine oo ?_
 refine AOps.nil (k _ ?_)
 refine AWp.ret ?_
 cases h; exact rt
end Go.Pv.Tryd

namespace Go.Pv.Tryd
open Go.Proofs Go.Pv
theorem we8 (l1 : (List Int)) (n1 : Int) (r : (List Int)) (h : wcy l1 n1 = some r) : PureFn Tryd.prog G 86 [.d (.imm 1 (wab (PD.int .i64) l1)), .d (.int .i64 n1)] (.d (.imm 1 (wab (PD.int .i64) r))) := by
 unfold wcy at h
 refine pf Tryd.func86 Tryd.ntmps86 ?_
 refine sg fun K k => ?_
 refine oo ?_
 refine AOps.nil (k _ ?_)
 refine sg fun K k => ?_
 refine oo ?_
 refine AOps.nil (k _ ?_)
 refine AWp.sub (Sub.void 5 3 1 1000 (by rfl) (by rfl) (by decide) (by decide)) ?_
 simp only [wcK, waj, reduceCtorEq, ↓reduceIte, Nat.reduceAdd, Nat.reduceMul, Nat.reduceLT, Nat.reduceLeDiff, Nat.reduceEqDiff, Nat.reduceBEq, Int.reduceToNat]
 refine sg fun K k => ?_
 refine oo ?_
 refine AOps.nil (k _ ?_)
 refine jn (α := (Bool × (List Int))) [1] [] (fun i t => (5, .slc 1000 0 i.2.length) :: (6, .d (.bool i.1)) :: t) (fun i t => (1000, ⟨3, 1, dl (wab (PD.int .i64) i.2)⟩) :: t) h ?_ ?_
 ·intro _ hj_2
  refine sg fun K k => ?_
  refine oo ?_
  refine AOps.nil (k _ ?_)
  refine AWp.block ?_
  obtain ⟨x_7, hl_4, h2_5⟩ := bind_some hj_2
  refine lp (S := (Bool × Int × (List Int))) [0, 1] [] (fun i t => (5, .slc 1000 0 i.2.2.length) :: (6, .d (.bool i.1)) :: (7, .d (.int .i64 i.2.1)) :: t) (fun i t => (1000, ⟨3, 1, dl (wab (PD.int .i64) i.2.2)⟩) :: t) hl_4 ?_ ?_; exact sb; clear hl_4
  rintro ⟨done2, i1, L2⟩ _ hb_6; unfold wa4 at hb_6; try dsimp only at hb_6
  try dsimp only
  refine AWp.seq fun _ K_9 => ?_
  refine sg fun K k => ?_
  iterate 4 refine oo ?_
  refine AOps.nil (k _ ?_)
  refine cd hb_6 (fun hb_6 => ?_) (fun hb_6 => ?_)
  ·refine AWp.skip ?_
   refine K_9 _ ?_
   refine AWp.seq fun _ K_11 => ?_
   refine AWp.block ?_
   refine jn (α := (Bool × (List Int))) [0, 1, 7] [] (fun i t => (5, .slc 1000 0 i.2.length) :: (6, .d (.bool i.1)) :: t) (fun i t => (1000, ⟨3, 1, dl (wab (PD.int .i64) i.2)⟩) :: t) hb_6 ?_ ?_
   ·intro _ hj_13
    refine sg fun K k => ?_
    iterate 3 refine oo ?_
    obtain ⟨b1, hc_14, hj_13⟩ := bind_some hj_13
    refine ct 7 [0, 1, 5, 6, 7] [1000] (fun  t => (23, .d (.bool b1)) :: t) ?_ ?_
    ·rcases bt (!done2) with hg_19 | hg_19
     ·rw [hg_19]
      rw [hg_19, cond_true] at hc_14
      obtain ⟨e1, ⟨f_15, f_16, f_17, f_18⟩, hc_14⟩ := wak hc_14
      iterate 4 refine oo ?_
      refine oo ?_ (by intro K k; simp (disch := omega) only [go_sem, f_17, ↓reduceIte]; exact k)
      iterate 2 refine oo ?_
      refine AOps.nil ?_
      cases hc_14
      exact sb
     ·rw [hg_19]
      rw [hg_19, cond_false] at hc_14
      iterate 7 refine oo ?_
      refine AOps.nil ?_
      cases hc_14
      exact sb
    refine AOps.nil (k _ ?_)
    refine cd hj_13 (fun hj_13 => ?_) (fun hj_13 => ?_)
    ·refine sg fun K k => ?_
     refine oo ?_
     refine AOps.nil (k _ ?_)
     refine sg fun K k => ?_
     obtain ⟨e2, ⟨f_21, f_22, f_23, f_24⟩, hj_13⟩ := wak hj_13
     iterate 4 refine oo ?_
     refine oo ?_ (by intro K k; simp (disch := omega) only [go_sem, f_23, ↓reduceIte]; exact k)
     refine oo ?_
     refine AOps.nil (k _ ?_)
     refine cd hj_13 (fun hj_13 => ?_) (fun hj_13 => ?_)
     ·refine AWp.reg ?_
      iterate 2 refine oo ?_
      refine ol ?_
      obtain ⟨hg_26, hj_13⟩ := wae hj_13
      iterate 2 refine oo ?_
      refine AOps.nil ?_
      cases hj_13; exact sb
     ·refine AWp.skip ?_
      cases hj_13; exact sb
    ·refine AWp.skip ?_
     cases hj_13; exact sb
   ·rintro ⟨done3, L3⟩ hb_6; dsimp only at hb_6 ⊢
    refine AWp.reg ?_
    obtain ⟨e3, ⟨f_27, f_28, f_29, f_30⟩, hb_6⟩ := wak hb_6
    iterate 4 refine oo ?_
    refine oo ?_ (by intro K k; simp (disch := omega) only [go_sem, f_29, ↓reduceIte]; exact k)
    refine ol ?_
    obtain ⟨hg_31, hb_6⟩ := wae hb_6
    iterate 2 refine oo ?_
    refine AOps.nil ?_
    refine K_11 _ ?_
    refine AWp.reg ?_
    iterate 3 refine oo ?_
    refine AOps.nil ?_
    exact ln hb_6 sb
  ·refine AWp.exit ?_
   refine lx hb_6 fun hx => ?_; cases hx; try dsimp only at h2_5
   cases h2_5; exact sb
 ·rintro ⟨done1, L1⟩ h; dsimp only at h ⊢
  refine jn (α := (List Int)) [] [] (fun i t => (5, .slc 1000 0 i.length) :: t) (fun i t => (1000, ⟨3, 1, dl (wab (PD.int .i64) i)⟩) :: t) h ?_ ?_
  ·intro _ hj_33
   refine sg fun K k => ?_
   iterate 2 refine oo ?_
   refine AOps.nil (k _ ?_)
   refine cd hj_33 (fun hj_33 => ?_) (fun hj_33 => ?_)
   ·refine AWp.reg ?_
    iterate 2 refine oo ?_
    refine ol ?_
    obtain ⟨hg_35, hj_33⟩ := wae hj_33
    iterate 2 refine oo ?_
    refine AOps.nil ?_
    cases hj_33; exact sb
   ·refine AWp.skip ?_
    cases hj_33; exact sb
  ·rintro L4 h; dsimp only at h ⊢
   refine sg fun K k => ?_
   iterate 2 refine oo ?_
   refine AOps.nil (k _ ?_)
   refine AWp.ret ?_
   cases h; exact rt
end Go.Pv.Tryd

namespace Go.Pv.Tryd
open Go.Proofs Go.Pv
theorem weO (t1 : (List Rule)) (mark1 : Int) (set1 : Int) (r : (List Int)) (h : wbj t1 mark1 set1 = some r) : PureFn Tryd.prog G 53 [.d (.imm 2 (wab Rule.pd t1)), .d (.int .i64 mark1), .d (.int .i64 set1)] (.d (.imm 1 (wab (PD.int .i64) r))) := by
 unfold wbj at h
 refine pf Tryd.func53 Tryd.ntmps53 ?_
 refine sg fun K k => ?_
 refine oo ?_
 refine AOps.nil (k _ ?_)
 refine sg fun K k => ?_
 refine ol ?_
 refine oo ?_
 refine AOps.nil (k _ ?_)
 refine jn (α := (List Int)) [] [] (fun i t => (7, .d (.imm 1 (wab (PD.int .i64) i))) :: t) (fun i t => t) h ?_ ?_
 ·intro _ hj_2
  refine sg fun K k => ?_
  refine oo ?_
  refine AOps.nil (k _ ?_)
  refine AWp.block ?_
  obtain ⟨x_7, hl_4, h2_5⟩ := bind_some hj_2
  refine lp (S := ((List Int) × Int)) [0, 1, 2] [] (fun i t => (7, .d (.imm 1 (wab (PD.int .i64) i.1))) :: (8, .d (.int .i64 i.2)) :: t) (fun i t => t) hl_4 ?_ ?_; exact sb; clear hl_4
  rintro ⟨out2, i1⟩ _ hb_6; unfold wcd at hb_6; try dsimp only at hb_6
  try dsimp only
  refine AWp.seq fun _ K_9 => ?_
  refine sg fun K k => ?_
  iterate 4 refine oo ?_
  refine AOps.nil (k _ ?_)
  refine cd hb_6 (fun hb_6 => ?_) (fun hb_6 => ?_)
  ·refine AWp.skip ?_
   refine K_9 _ ?_
   refine jn (α := (List Int)) [0, 1, 2, 8] [] (fun i t => (7, .d (.imm 1 (wab (PD.int .i64) i))) :: t) (fun i t => t) hb_6 ?_ ?_
   ·intro _ hj_12
    refine AWp.block ?_
    refine sg fun K k => ?_
    obtain ⟨hg_13, hj_12⟩ := wae hj_12
    iterate 5 refine oo ?_
    refine AOps.nil (k _ ?_)
    refine cd hj_12 (fun hj_12 => ?_) (fun hj_12 => ?_)
    ·refine jn (α := (List Int)) [0, 1, 2, 8] [] (fun i t => (7, .d (.imm 1 (wab (PD.int .i64) i))) :: t) (fun i t => t) hj_12 ?_ ?_
     ·intro _ hj_16
      refine sg fun K k => ?_
      obtain ⟨e1, ⟨f_17, f_18, f_19, f_20⟩, hj_16⟩ := wak hj_16
      iterate 4 refine oo ?_
      refine oo ?_ (by intro K k; simp (disch := omega) only [go_sem, f_19, ↓reduceIte]; exact k)
      obtain ⟨e2, ⟨f_21, f_22, f_23, f_24⟩, hj_16⟩ := wak hj_16
      iterate 3 refine oo ?_
      refine oo ?_ (by intro K k; simp (disch := omega) only [go_sem, f_23, ↓reduceIte]; exact k)
      refine oo ?_
      refine AOps.nil (k _ ?_)
      refine cd hj_16 (fun hj_16 => ?_) (fun hj_16 => ?_)
      ·refine AWp.reg ?_
       obtain ⟨e3, ⟨f_26, f_27, f_28, f_29⟩, hj_16⟩ := wak hj_16
       iterate 5 refine oo ?_
       refine oo ?_ (by intro K k; simp (disch := omega) only [go_sem, f_28, ↓reduceIte]; exact k)
       obtain ⟨e4, ⟨f_30, f_31, f_32, f_33⟩, hj_16⟩ := wak hj_16
       iterate 3 refine oo ?_
       refine oo ?_ (by intro K k; simp (disch := omega) only [go_sem, f_32, ↓reduceIte]; exact k)
       obtain ⟨r1, hx_34, hj_16⟩ := bind_some hj_16
       refine cl (we8 out2 e4.Lo _ hx_34) ?_
       refine oo ?_
       refine AOps.nil ?_
       cases hj_16; exact sb
      ·refine AWp.skip ?_
       cases hj_16; exact sb
     ·rintro out4 hj_12; dsimp only at hj_12 ⊢
      refine AWp.reg ?_
      obtain ⟨e5, ⟨f_35, f_36, f_37, f_38⟩, hj_12⟩ := wak hj_12
      iterate 5 refine oo ?_
      refine oo ?_ (by intro K k; simp (disch := omega) only [go_sem, f_37, ↓reduceIte]; exact k)
      obtain ⟨e6, ⟨f_39, f_40, f_41, f_42⟩, hj_12⟩ := wak hj_12
      iterate 3 refine oo ?_
      refine oo ?_ (by intro K k; simp (disch := omega) only [go_sem, f_41, ↓reduceIte]; exact k)
      obtain ⟨r2, hx_43, hj_12⟩ := bind_some hj_12
      refine cl (we8 out4 e6.Hi _ hx_43) ?_
      refine oo ?_
      refine AOps.nil ?_
      cases hj_12; exact sb
    ·refine AWp.skip ?_
     cases hj_12; exact sb
   ·rintro out3 hb_6; dsimp only at hb_6 ⊢
    refine AWp.reg ?_
    iterate 3 refine oo ?_
    refine AOps.nil ?_
    exact ln hb_6 sb
  ·refine AWp.exit ?_
   refine lx hb_6 fun hx => ?_; cases hx; try dsimp only at h2_5
   cases h2_5; exact sb
 ·rintro out1 h; dsimp only at h ⊢
  refine sg fun K k => ?_
  iterate 2 refine oo ?_
  refine AOps.nil (k _ ?_)
  refine AWp.ret ?_
  cases h; exact rt
end Go.Pv.Tryd

namespace Go.Pv.Tryd
open Go.Proofs Go.Pv
theorem wig (k1 : Int) (t1 : (List Rule)) (most1 : Int) (r : Int) (h : wdb k1 t1 most1 = some r) : PureFn Tryd.prog G 45 [.d (.int .i64 k1), .d (.imm 2 (wab Rule.pd t1)), .d (.int .i64 most1)] (.d (.int .i64 r)) := by
 unfold wdb at h
 refine pf Tryd.func45 Tryd.ntmps45 ?_
 refine sg fun K k => ?_
 refine oo ?_
 refine AOps.nil (k _ ?_)
 refine AWp.seq fun _ K_1 => ?_
 refine sg fun K k => ?_
 iterate 2 refine oo ?_
 obtain ⟨r1, hx_2, h⟩ := bind_some h
 refine cl (wdO k1 t1 _ hx_2) ?_
 refine oo ?_
 refine AOps.nil (k _ ?_)
 refine cd h (fun h => ?_) (fun h => ?_)
 ·refine sg fun K k => ?_
  refine oo ?_
  refine AOps.nil (k _ ?_)
  refine AWp.ret ?_
  cases h; exact rt
 ·refine AWp.skip ?_
  refine K_1 _ ?_
  refine sg fun K k => ?_
  refine oo ?_
  refine AOps.nil (k _ ?_)
  refine jn (α := Int) [] [] (fun i t => (7, .d (.int .i64 i)) :: t) (fun i t => t) h ?_ ?_
  ·intro _ hj_5
   refine sg fun K k => ?_
   refine oo ?_
   refine AOps.nil (k _ ?_)
   refine AWp.block ?_
   obtain ⟨x_10, hl_7, h2_8⟩ := bind_some hj_5
   refine lp (S := (Int × Int)) [0, 1, 2] [] (fun i t => (7, .d (.int .i64 i.1)) :: (8, .d (.int .i64 i.2)) :: t) (fun i t => t) hl_7 ?_ ?_; exact sb; clear hl_7
   rintro ⟨out2, m1⟩ _ hb_9; unfold wbT at hb_9; try dsimp only at hb_9
   try dsimp only
   refine AWp.seq fun _ K_12 => ?_
   refine sg fun K k => ?_
   iterate 4 refine oo ?_
   refine ct 4 [0, 1, 2, 7, 8] [] (fun  t => (20, .d (.bool ((decide (m1 < k1)) && (decide (out2 < most1))))) :: t) ?_ ?_
   ·rcases bt (decide (m1 < k1)) with hg_14 | hg_14
    ·rw [hg_14]
     iterate 4 refine oo ?_
     refine AOps.nil ?_
     exact sb
    ·rw [hg_14]
     iterate 4 refine oo ?_
     refine AOps.nil ?_
     exact sb
   refine AOps.nil (k _ ?_)
   refine cd hb_9 (fun hb_9 => ?_) (fun hb_9 => ?_)
   ·refine AWp.skip ?_
    refine K_12 _ ?_
    refine AWp.seq fun _ K_16 => ?_
    refine AWp.block ?_
    refine AWp.reg ?_
    iterate 4 refine oo ?_
    obtain ⟨r2, hx_17, hb_9⟩ := bind_some hb_9
    refine cl (we7 t1 _ hx_17) ?_
    obtain ⟨r3, hx_18, hb_9⟩ := bind_some hb_9
    refine cl (weO t1 m1 r2 _ hx_18) ?_
    iterate 3 refine oo ?_
    refine AOps.nil ?_
    refine K_16 _ ?_
    refine AWp.reg ?_
    iterate 3 refine oo ?_
    refine AOps.nil ?_
    exact ln hb_9 sb
   ·refine AWp.exit ?_
    refine lx hb_9 fun hx => ?_; cases hx; try dsimp only at h2_8
    cases h2_8; exact sb
  ·rintro out1 h; dsimp only at h ⊢
   refine sg fun K k => ?_
   iterate 2 refine oo ?_
   refine AOps.nil (k _ ?_)
   refine AWp.ret ?_
   cases h; exact rt
end Go.Pv.Tryd

namespace Go.Pv.Tryd
open Go.Proofs Go.Pv
theorem wjT (k1 : Int) (t1 : (List Rule)) (r : Bool) (h : wcz k1 t1 = some r) : PureFn Tryd.prog G 18 [.d (.int .i64 k1), .d (.imm 2 (wab Rule.pd t1))] (.d (.bool r)) := by
 unfold wcz at h
 refine pf Tryd.func18 Tryd.ntmps18 ?_
 refine sg fun K k => ?_
 refine oo ?_
 refine AOps.nil (k _ ?_)
 refine jm (ι := Unit) [0, 1] [] (fun i t => t) (fun i t => t) .inl h ?_ ?_
 ·intro _ hj_2 h
  refine sg fun K k => ?_
  refine oo ?_
  refine AOps.nil (k _ ?_)
  refine AWp.block ?_
  obtain ⟨x_7, hl_4, h2_5⟩ := bind_some hj_2
  refine lp (S := Int) [0, 1] [] (fun i t => (5, .d (.int .i64 i)) :: t) (fun i t => t) hl_4 ?_ ?_; exact sb; clear hl_4
  rintro i1 _ hb_6; unfold waG at hb_6; try dsimp only at hb_6
  try dsimp only
  refine AWp.seq fun _ K_9 => ?_
  refine sg fun K k => ?_
  iterate 4 refine oo ?_
  refine AOps.nil (k _ ?_)
  refine cd hb_6 (fun hb_6 => ?_) (fun hb_6 => ?_)
  ·refine AWp.skip ?_
   refine K_9 _ ?_
   refine AWp.seq fun _ K_11 => ?_
   refine AWp.block ?_
   refine sg fun K k => ?_
   iterate 3 refine oo ?_
   obtain ⟨b1, hc_12, hb_6⟩ := bind_some hb_6
   refine ct 8 [0, 1, 5] [] (fun  t => (22, .d (.bool b1)) :: t) ?_ ?_
   ·rcases bt (decide (40 ≤ i1)) with hg_17 | hg_17
    ·rw [hg_17]
     rw [hg_17, cond_true] at hc_12
     iterate 8 refine oo ?_
     refine AOps.nil ?_
     cases hc_12
     exact sb
    ·rw [hg_17]
     rw [hg_17, cond_false] at hc_12
     obtain ⟨e1, ⟨f_13, f_14, f_15, f_16⟩, hc_12⟩ := wak hc_12
     iterate 4 refine oo ?_
     refine oo ?_ (by intro K k; simp (disch := omega) only [go_sem, f_15, ↓reduceIte]; exact k)
     iterate 3 refine oo ?_
     refine AOps.nil ?_
     cases hc_12
     exact sb
   refine AOps.nil (k _ ?_)
   refine cd hb_6 (fun hb_6 => ?_) (fun hb_6 => ?_)
   ·refine sg fun K k => ?_
    refine oo ?_
    refine AOps.nil (k _ ?_)
    refine AWp.ret ?_
    refine lx hb_6 fun hx => ?_; cases hx; try dsimp only at h2_5
    cases h2_5; try dsimp only at h
    cases h; exact rt
   ·refine AWp.skip ?_
    refine K_11 _ ?_
    refine AWp.reg ?_
    iterate 3 refine oo ?_
    refine AOps.nil ?_
    exact ln hb_6 sb
  ·refine AWp.exit ?_
   refine lx hb_6 fun hx => ?_; cases hx; try dsimp only at h2_5
   exact ln h2_5 sb
 ·rintro _ h; dsimp only at h ⊢
  refine sg fun K k => ?_
  iterate 2 refine oo ?_
  obtain ⟨r1, hx_19, h⟩ := bind_some h
  refine cl (wig k1 t1 30000 _ hx_19) ?_
  iterate 2 refine oo ?_
  refine AOps.nil (k _ ?_)
  refine AWp.ret ?_
  cases h; exact rt
end Go.Pv.Tryd

namespace Go.Pv.Tryd
open Go.Proofs Go.Pv
theorem wez (r : (List Rule)) (h : wb6 = some r) : PureFn Tryd.prog G 46 [] (.d (.imm 2 (wab Rule.pd r))) := by
 unfold wb6 at h
 refine pf Tryd.func46 Tryd.ntmps46 ?_
 refine sg fun K k => ?_
 refine oo ?_
 refine AOps.nil (k _ ?_)
 refine sg fun K k => ?_
 refine oo ?_
 refine ol ?_
 iterate 2 refine oo ?_
 refine ol ?_
 iterate 2 refine oo ?_
 refine ol ?_
 refine oo ?_
 refine ol ?_
 refine oo ?_
 refine AOps.nil (k _ ?_)
 refine AWp.ret ?_
 cases h; exact rt
end Go.Pv.Tryd

namespace Go.Pv.Tryd
open Go.Proofs Go.Pv
theorem wlo (k1 : Int) (r : Bool) (h : wd5 k1 = some r) : PureFn Tryd.prog G 66 [.d (.int .i64 k1)] (.d (.bool r)) := by
 unfold wd5 at h
 refine pf Tryd.func66 Tryd.ntmps66 ?_
 refine sg fun K k => ?_
 refine oo ?_
 refine AOps.nil (k _ ?_)
 refine sg fun K k => ?_
 iterate 3 refine oo ?_
 refine ct 3 [] [] (fun  t => (8, .d (.bool ((decide (1 ≤ k1)) && (decide (k1 ≤ 4))))) :: t) ?_ ?_
 ·rcases bt (decide (1 ≤ k1)) with hg_2 | hg_2
  ·rw [hg_2]
   iterate 3 refine oo ?_
   refine AOps.nil ?_
   exact sb
  ·rw [hg_2]
   iterate 3 refine oo ?_
   refine AOps.nil ?_
   exact sb
 refine oo ?_
 refine AOps.nil (k _ ?_)
 refine AWp.ret ?_
 cases h; exact rt
end Go.Pv.Tryd

namespace Go.Pv.Tryd
open Go.Proofs Go.Pv
theorem wkZ (b1 : Band) (r : Bool) (h : wdL b1 = some r) : PureFn Tryd.prog G 103 [.d (.agg [(.int .i64 b1.Lo), (.int .i64 b1.Hi)])] (.d (.bool r)) := by
 unfold wdL at h
 refine pf Tryd.func103 Tryd.ntmps103 ?_
 refine sg fun K k => ?_
 iterate 2 refine oo ?_
 refine AOps.nil (k _ ?_)
 refine sg fun K k => ?_
 iterate 4 refine oo ?_
 refine ct 6 [1] [1000] (fun  t => (12, .d (.bool ((decide (b1.Lo < 0)) || (decide (b1.Hi ≤ b1.Lo))))) :: t) ?_ ?_
 ·rcases bt (decide (b1.Lo < 0)) with hg_2 | hg_2
  ·rw [hg_2]
   iterate 6 refine oo ?_
   refine AOps.nil ?_
   exact sb
  ·rw [hg_2]
   iterate 6 refine oo ?_
   refine AOps.nil ?_
   exact sb
 refine oo ?_
 refine ct 4 [] [] (fun  t => (17, .d (.bool (((decide (b1.Lo < 0)) || (decide (b1.Hi ≤ b1.Lo))) || (decide (1000 < b1.Hi))))) :: t) ?_ ?_
 ·rcases bt ((decide (b1.Lo < 0)) || (decide (b1.Hi ≤ b1.Lo))) with hg_4 | hg_4
  ·rw [hg_4]
   iterate 4 refine oo ?_
   refine AOps.nil ?_
   exact sb
  ·rw [hg_4]
   iterate 4 refine oo ?_
   refine AOps.nil ?_
   exact sb
 refine oo ?_
 refine AOps.nil (k _ ?_)
 refine AWp.ret ?_
 cases h; exact rt
end Go.Pv.Tryd

namespace Go.Pv.Tryd
open Go.Proofs Go.Pv
theorem wgH (s1 : (List Band)) (r : Int) (h : wa6 s1 = some r) : PureFn Tryd.prog G 113 [.d (.imm 2 (wab Band.pd s1)), .d (.fn (.func 103))] (.d (.int .i64 r)) := by
 unfold wa6 at h
 refine pf Tryd.func113 Tryd.ntmps113 ?_
 refine sg fun K k => ?_
 refine oo ?_
 refine AOps.nil (k _ ?_)
 refine jm (ι := Unit) [] [] (fun i t => t) (fun i t => t) .inl h ?_ ?_
 ·intro _ hj_2 h
  refine sg fun K k => ?_
  iterate 3 refine oo ?_
  refine AOps.nil (k _ ?_)
  refine AWp.block ?_
  obtain ⟨x_7, hl_4, h2_5⟩ := bind_some hj_2
  refine lp (S := Int) [0, 1, 7] [] (fun i t => (8, .d (.int .i64 i)) :: t) (fun i t => t) hl_4 ?_ ?_; exact sb; clear hl_4
  rintro v1 _ hb_6; unfold wbv at hb_6; try dsimp only at hb_6
  try dsimp only
  refine sg fun K k => ?_
  refine oo ?_
  refine AOps.nil (k _ ?_)
  refine AWp.seq fun _ K_9 => ?_
  refine cd hb_6 (fun hb_6 => ?_) (fun hb_6 => ?_)
  ·refine AWp.skip ?_
   refine K_9 _ ?_
   refine AWp.seq fun _ K_11 => ?_
   refine AWp.block ?_
   refine sg fun K k => ?_
   iterate 2 refine oo ?_
   refine AOps.nil (k _ ?_)
   refine sg fun K k => ?_
   obtain ⟨e1, ⟨f_12, f_13, f_14, f_15⟩, hb_6⟩ := wak hb_6
   iterate 4 refine oo ?_
   refine oo ?_ (by intro K k; simp (disch := omega) only [go_sem, f_14, ↓reduceIte]; exact k)
   obtain ⟨r1, hx_16, hb_6⟩ := bind_some hb_6
   refine clV (wkZ e1 _ hx_16) ?_
   refine AOps.nil (k _ ?_)
   refine cd hb_6 (fun hb_6 => ?_) (fun hb_6 => ?_)
   ·refine sg fun K k => ?_
    iterate 2 refine oo ?_
    refine AOps.nil (k _ ?_)
    refine AWp.ret ?_
    refine lx hb_6 fun hx => ?_; cases hx; try dsimp only at h2_5
    cases h2_5; try dsimp only at h
    cases h; exact rt
   ·refine AWp.skip ?_
    refine K_11 _ ?_
    refine AWp.reg ?_
    iterate 2 refine oo ?_
    refine AOps.nil ?_
    exact ln hb_6 sb
  ·refine AWp.exit ?_
   refine lx hb_6 fun hx => ?_; cases hx; try dsimp only at h2_5
   exact ln h2_5 sb
 ·rintro _ h; dsimp only at h ⊢
  refine sg fun K k => ?_
  refine oo ?_
  refine AOps.nil (k _ ?_)
  refine AWp.ret ?_
  cases h; exact rt
end Go.Pv.Tryd

namespace Go.Pv.Tryd
open Go.Proofs Go.Pv
theorem wfT (s1 : (List Band)) (r : Bool) (h : waR s1 = some r) : PureFn Tryd.prog G 104 [.d (.imm 2 (wab Band.pd s1)), .d (.fn (.func 103))] (.d (.bool r)) := by
 unfold waR at h
 refine pf Tryd.func104 Tryd.ntmps104 ?_
 refine sg fun K k => ?_
 refine oo ?_
 refine AOps.nil (k _ ?_)
 refine sg fun K k => ?_
 iterate 2 refine oo ?_
 obtain ⟨r1, hx_1, h⟩ := bind_some h
 refine clC (wgH s1 _ hx_1) ?_
 iterate 2 refine oo ?_
 refine AOps.nil (k _ ?_)
 refine AWp.ret ?_
 cases h; exact rt
end Go.Pv.Tryd

namespace Go.Pv.Tryd
open Go.Proofs Go.Pv
theorem wl5 (k1 : Int) (r1 : Rule) (r : Bool) (h : wdR k1 r1 = some r) : PureFn Tryd.prog G 78 [.d (.int .i64 k1), .d (.agg [(.imm 2 (wab Band.pd r1.Bands)), (.int .i64 r1.Code)])] (.d (.bool r)) := by
 unfold wdR at h
 refine pf Tryd.func78 Tryd.ntmps78 ?_
 refine sg fun K k => ?_
 iterate 2 refine oo ?_
 refine AOps.nil (k _ ?_)
 refine sg fun K k => ?_
 refine oo ?_
 refine AOps.nil (k _ ?_)
 refine sg fun K k => ?_
 iterate 6 refine oo ?_
 refine ct 4 [3, 5] [1000] (fun  t => (15, .d (.bool ((decide ((r1.Bands.length : Int) = k1)) && (decide (0 ≤ r1.Code))))) :: t) ?_ ?_
 ·rcases bt (decide ((r1.Bands.length : Int) = k1)) with hg_2 | hg_2
  ·rw [hg_2]
   iterate 4 refine oo ?_
   refine AOps.nil ?_
   exact sb
  ·rw [hg_2]
   iterate 4 refine oo ?_
   refine AOps.nil ?_
   exact sb
 refine oo ?_
 refine ct 4 [3, 5] [1000] (fun  t => (20, .d (.bool (((decide ((r1.Bands.length : Int) = k1)) && (decide (0 ≤ r1.Code))) && (decide (r1.Code ≤ 99))))) :: t) ?_ ?_
 ·rcases bt ((decide ((r1.Bands.length : Int) = k1)) && (decide (0 ≤ r1.Code))) with hg_4 | hg_4
  ·rw [hg_4]
   iterate 4 refine oo ?_
   refine AOps.nil ?_
   exact sb
  ·rw [hg_4]
   iterate 4 refine oo ?_
   refine AOps.nil ?_
   exact sb
 refine oo ?_
 obtain ⟨b1, hc_5, h⟩ := bind_some h
 refine ct 6 [] [] (fun  t => (27, .d (.bool b1)) :: t) ?_ ?_
 ·rcases bt (((decide ((r1.Bands.length : Int) = k1)) && (decide (0 ≤ r1.Code))) && (decide (r1.Code ≤ 99))) with hg_7 | hg_7
  ·rw [hg_7]
   rw [hg_7, cond_true] at hc_5
   iterate 3 refine oo ?_
   obtain ⟨r2, hx_6, hc_5⟩ := bind_some hc_5
   refine clC (wfT r1.Bands _ hx_6) ?_
   iterate 2 refine oo ?_
   refine AOps.nil ?_
   cases hc_5
   exact sb
  ·rw [hg_7]
   rw [hg_7, cond_false] at hc_5
   iterate 6 refine oo ?_
   refine AOps.nil ?_
   cases hc_5
   exact sb
 refine oo ?_
 refine AOps.nil (k _ ?_)
 refine AWp.ret ?_
 cases h; exact rt
end Go.Pv.Tryd

namespace Go.Pv.Tryd
open Go.Proofs Go.Pv
theorem wih (r1 : Rule) (k1 : Int) (r : Bool) (h : wbW r1 k1 = some r) : PureFn Tryd.prog G 77 [.d (.agg [(.imm 2 (wab Band.pd r1.Bands)), (.int .i64 r1.Code)]), .dptr 1 [(.int .i64 k1)] 0 0] (.d (.bool r)) := by
 unfold wbW at h
 refine pf Tryd.func77 Tryd.ntmps77 ?_
 refine sg fun K k => ?_
 iterate 2 refine oo ?_
 refine AOps.nil (k _ ?_)
 refine sg fun K k => ?_
 iterate 2 refine oo ?_
 obtain ⟨r2, hx_1, h⟩ := bind_some h
 refine cl (wl5 k1 r1 _ hx_1) ?_
 iterate 2 refine oo ?_
 refine AOps.nil (k _ ?_)
 refine AWp.ret ?_
 cases h; exact rt
end Go.Pv.Tryd

namespace Go.Pv.Tryd
open Go.Proofs Go.Pv
theorem wg6 (s1 : (List Rule)) (f1 : Int) (r : Int) (h : wbi s1 f1 = some r) : PureFn Tryd.prog G 99 [.d (.imm 2 (wab Rule.pd s1)), .func (.func 77) [.dptr 1 [(.int .i64 f1)] 0 0]] (.d (.int .i64 r)) := by
 unfold wbi at h
 refine pf Tryd.func99 Tryd.ntmps99 ?_
 refine sg fun K k => ?_
 refine oo ?_
 refine AOps.nil (k _ ?_)
 refine jm (ι := Unit) [] [] (fun i t => t) (fun i t => t) .inl h ?_ ?_
 ·intro _ hj_2 h
  refine sg fun K k => ?_
  iterate 3 refine oo ?_
  refine AOps.nil (k _ ?_)
  refine AWp.block ?_
  obtain ⟨x_7, hl_4, h2_5⟩ := bind_some hj_2
  refine lp (S := Int) [0, 1, 7] [] (fun i t => (8, .d (.int .i64 i)) :: t) (fun i t => t) hl_4 ?_ ?_; exact sb; clear hl_4
  rintro v1 _ hb_6; unfold wbK at hb_6; try dsimp only at hb_6
  try dsimp only
  refine sg fun K k => ?_
  refine oo ?_
  refine AOps.nil (k _ ?_)
  refine AWp.seq fun _ K_9 => ?_
  refine cd hb_6 (fun hb_6 => ?_) (fun hb_6 => ?_)
  ·refine AWp.skip ?_
   refine K_9 _ ?_
   refine AWp.seq fun _ K_11 => ?_
   refine AWp.block ?_
   refine sg fun K k => ?_
   iterate 2 refine oo ?_
   refine AOps.nil (k _ ?_)
   refine sg fun K k => ?_
   obtain ⟨e1, ⟨f_12, f_13, f_14, f_15⟩, hb_6⟩ := wak hb_6
   iterate 4 refine oo ?_
   refine oo ?_ (by intro K k; simp (disch := omega) only [go_sem, f_14, ↓reduceIte]; exact k)
   obtain ⟨r1, hx_16, hb_6⟩ := bind_some hb_6
   refine clC (wih e1 f1 _ hx_16) ?_
   refine AOps.nil (k _ ?_)
   refine cd hb_6 (fun hb_6 => ?_) (fun hb_6 => ?_)
   ·refine sg fun K k => ?_
    iterate 2 refine oo ?_
    refine AOps.nil (k _ ?_)
    refine AWp.ret ?_
    refine lx hb_6 fun hx => ?_; cases hx; try dsimp only at h2_5
    cases h2_5; try dsimp only at h
    cases h; exact rt
   ·refine AWp.skip ?_
    refine K_11 _ ?_
    refine AWp.reg ?_
    iterate 2 refine oo ?_
    refine AOps.nil ?_
    exact ln hb_6 sb
  ·refine AWp.exit ?_
   refine lx hb_6 fun hx => ?_; cases hx; try dsimp only at h2_5
   exact ln h2_5 sb
 ·rintro _ h; dsimp only at h ⊢
  refine sg fun K k => ?_
  refine oo ?_
  refine AOps.nil (k _ ?_)
  refine AWp.ret ?_
  cases h; exact rt
end Go.Pv.Tryd

namespace Go.Pv.Tryd
open Go.Proofs Go.Pv
theorem wgm (s1 : (List Rule)) (f1 : Int) (r : Bool) (h : waO s1 f1 = some r) : PureFn Tryd.prog G 76 [.d (.imm 2 (wab Rule.pd s1)), .func (.func 77) [.dptr 1 [(.int .i64 f1)] 0 0]] (.d (.bool r)) := by
 unfold waO at h
 refine pf Tryd.func76 Tryd.ntmps76 ?_
 refine sg fun K k => ?_
 refine oo ?_
 refine AOps.nil (k _ ?_)
 refine sg fun K k => ?_
 iterate 2 refine oo ?_
 obtain ⟨r1, hx_1, h⟩ := bind_some h
 refine clC (wg6 s1 f1 _ hx_1) ?_
 iterate 2 refine oo ?_
 refine AOps.nil (k _ ?_)
 refine AWp.ret ?_
 cases h; exact rt
end Go.Pv.Tryd

namespace Go.Pv.Tryd
open Go.Proofs Go.Pv
theorem wee (k1 : Int) (ts1 : (List (List Rule))) (r : Int) (h : wbm k1 ts1 = some r) : PureFn Tryd.prog G 47 [.d (.int .i64 k1), .d (.imm 1 (wab (wda 2 Rule.pd) ts1))] (.d (.int .i64 r)) := by
 unfold wbm at h
 refine pf Tryd.func47 Tryd.ntmps47 ?_
 refine sg fun K k => ?_
 iterate 2 refine oo ?_
 refine AOps.nil (k _ ?_)
 refine AWp.seq fun _ K_1 => ?_
 refine sg fun K k => ?_
 refine oo ?_
 obtain ⟨r1, hx_2, h⟩ := bind_some h
 refine cl (wlo k1 _ hx_2) ?_
 refine oo ?_
 refine AOps.nil (k _ ?_)
 refine cd h (fun h => ?_) (fun h => ?_)
 ·refine sg fun K k => ?_
  refine oo ?_
  refine AOps.nil (k _ ?_)
  refine AWp.ret ?_
  cases h; exact rt
 ·refine AWp.skip ?_
  refine K_1 _ ?_
  refine jm (ι := Unit) [] [] (fun i t => t) (fun i t => t) .inl h ?_ ?_
  ·intro _ hj_5 h
   refine sg fun K k => ?_
   iterate 3 refine oo ?_
   refine AOps.nil (k _ ?_)
   refine AWp.block ?_
   obtain ⟨x_10, hl_7, h2_8⟩ := bind_some hj_5
   refine lp (S := Int) [10, 11] [] (fun i t => (2, .dptr 1 [(.int .i64 k1)] 0 0) :: (12, .d (.int .i64 i)) :: t) (fun i t => t) hl_7 ?_ ?_; exact sc; clear hl_7
   rintro v1 _ hb_9; unfold wbC at hb_9; try dsimp only at hb_9
   try dsimp only
   refine sg fun K k => ?_
   refine oo ?_
   refine AOps.nil (k _ ?_)
   refine AWp.seq fun _ K_12 => ?_
   refine cd hb_9 (fun hb_9 => ?_) (fun hb_9 => ?_)
   ·refine AWp.skip ?_
    refine K_12 _ ?_
    refine AWp.seq fun _ K_14 => ?_
    refine AWp.block ?_
    refine sg fun K k => ?_
    obtain ⟨e1, ⟨f_15, f_16, f_17, f_18⟩, hb_9⟩ := wak hb_9
    refine oo ?_
    refine oo ?_ (by intro K k; simp (disch := omega) only [go_sem, f_17, ↓reduceIte]; exact k)
    refine oo ?_
    refine AOps.nil (k _ ?_)
    refine AWp.seq fun _ K_19 => ?_
    refine sg fun K k => ?_
    iterate 3 refine oo ?_
    refine AOps.nil (k _ ?_)
    refine cd hb_9 (fun hb_9 => ?_) (fun hb_9 => ?_)
    ·refine sg fun K k => ?_
     refine oo ?_
     refine AOps.nil (k _ ?_)
     refine AWp.ret ?_
     refine lx hb_9 fun hx => ?_; cases hx; try dsimp only at h2_8
     cases h2_8; try dsimp only at h
     cases h; exact rt
    ·refine AWp.skip ?_
     refine K_19 _ ?_
     refine sg fun K k => ?_
     iterate 2 refine oo ?_
     obtain ⟨r2, hx_21, hb_9⟩ := bind_some hb_9
     refine clC (wgm e1 k1 _ hx_21) ?_
     refine AOps.nil (k _ ?_)
     refine cd hb_9 (fun hb_9 => ?_) (fun hb_9 => ?_)
     ·refine sg fun K k => ?_
      refine oo ?_
      refine AOps.nil (k _ ?_)
      refine AWp.ret ?_
      refine lx hb_9 fun hx => ?_; cases hx; try dsimp only at h2_8
      cases h2_8; try dsimp only at h
      cases h; exact rt
     ·refine AWp.skip ?_
      refine K_14 _ ?_
      refine AWp.reg ?_
      iterate 2 refine oo ?_
      refine AOps.nil ?_
      exact ln hb_9 sb
   ·refine AWp.exit ?_
    refine lx hb_9 fun hx => ?_; cases hx; try dsimp only at h2_8
    exact ln h2_8 sb
  ·rintro _ h; dsimp only at h ⊢
   refine sg fun K k => ?_
   refine oo ?_
   refine AOps.nil (k _ ?_)
   refine AWp.ret ?_
   cases h; exact rt
end Go.Pv.Tryd

namespace Go.Pv.Tryd
open Go.Proofs Go.Pv
theorem wdP (t1 : (List Rule)) (r : Int) (h : wbZ t1 = some r) : PureFn Tryd.prog G 58 [.d (.imm 2 (wab Rule.pd t1))] (.d (.int .u32 r)) := by
 unfold wbZ at h
 refine pf Tryd.func58 Tryd.ntmps58 ?_
 refine sg fun K k => ?_
 refine oo ?_
 refine AOps.nil (k _ ?_)
 refine sg fun K k => ?_
 obtain ⟨hg_1, h⟩ := wae h
 iterate 5 refine oo ?_
 refine AOps.nil (k _ ?_)
 refine AWp.ret ?_
 cases h; exact rt
end Go.Pv.Tryd

namespace Go.Proofs
open Go.Shelf
def Tryd.lays189_ren : Go.Shelf.Ren := ⟨fun | 189 => 105 | 125 => 115 | 257 => 114 | 128 => 127 | 129 => 128 | 294 => 118 | 295 => 119 | 296 => 120 | 297 => 121 | 298 => 122 | 299 => 123 | 216 => 124 | 300 => 125 | 301 => 126 | 328 => 131 | 329 => 132 | 330 => 133 | 331 => 134 | 332 => 135 | 215 => 136 | 343 => 141 | n => n, fun | 28 => 26 | 3 => 3 | 46 => 159 | 0 => 0 | 51 => 94 | 53 => 170 | 4 => 4 | 183 => 163 | 182 => 162 | 131 => 130 | 5 => 5 | 9 => 9 | 218 => 174 | 222 => 178 | 228 => 184 | 229 => 185 | n => n, fun | n => n⟩
theorem Tryd.lays189 : Go.Proofs.Lays.n189 Tryd.prog Tryd.lays189_ren := {
 mixed := by kernel_rfl
 f125 := Tryd.func115.trans (congrArg some (by kernel_rfl))
 f128 := Tryd.func127.trans (congrArg some (by kernel_rfl))
 f129 := Tryd.func128.trans (congrArg some (by kernel_rfl))
 f189 := Tryd.func105.trans (congrArg some (by kernel_rfl))
 f215 := Tryd.func136.trans (congrArg some (by kernel_rfl))
 f216 := Tryd.func124.trans (congrArg some (by kernel_rfl))
 f257 := Tryd.func114.trans (congrArg some (by kernel_rfl))
 f294 := Tryd.func118.trans (congrArg some (by kernel_rfl))
 f295 := Tryd.func119.trans (congrArg some (by kernel_rfl))
 f296 := Tryd.func120.trans (congrArg some (by kernel_rfl))
 f297 := Tryd.func121.trans (congrArg some (by kernel_rfl))
 f298 := Tryd.func122.trans (congrArg some (by kernel_rfl))
 f299 := Tryd.func123.trans (congrArg some (by kernel_rfl))
 f300 := Tryd.func125.trans (congrArg some (by kernel_rfl))
 f301 := Tryd.func126.trans (congrArg some (by kernel_rfl))
 f328 := Tryd.func131.trans (congrArg some (by kernel_rfl))
 f329 := Tryd.func132.trans (congrArg some (by kernel_rfl))
 f330 := Tryd.func133.trans (congrArg some (by kernel_rfl))
 f331 := Tryd.func134.trans (congrArg some (by kernel_rfl))
 f332 := Tryd.func135.trans (congrArg some (by kernel_rfl))
 f343 := Tryd.func141.trans (congrArg some (by kernel_rfl))
 t0 := Tryd.underlying0
 a0 := Tryd.isAgg0
 z0 := Tryd.sizeOf0
 v0 := Tryd.zeroValue0
 t3 := Tryd.underlying3
 a3 := Tryd.isAgg3
 z3 := Tryd.sizeOf3
 v3 := Tryd.zeroValue3
 t4 := Tryd.underlying4
 a4 := Tryd.isAgg4
 z4 := Tryd.sizeOf4
 v4 := Tryd.zeroValue4
 t5 := Tryd.underlying5
 a5 := Tryd.isAgg5
 z5 := Tryd.sizeOf5
 v5 := Tryd.zeroValue5
 t9 := Tryd.underlying9
 a9 := Tryd.isAgg9
 z9 := Tryd.sizeOf9
 v9 := Tryd.zeroValue9
 t28 := Tryd.underlying26
 a28 := Tryd.isAgg26
 z28 := Tryd.sizeOf26
 v28 := Tryd.zeroValue26
 t46 := Tryd.underlying159
 a46 := Tryd.isAgg159
 z46 := Tryd.sizeOf159
 v46 := Tryd.zeroValue159
 t51 := Tryd.underlying94
 a51 := Tryd.isAgg94
 z51 := Tryd.sizeOf94
 v51 := Tryd.zeroValue94
 t53 := Tryd.underlying170
 a53 := Tryd.isAgg170
 z53 := Tryd.sizeOf170
 v53 := Tryd.zeroValue170
 t131 := Tryd.underlying130
 a131 := Tryd.isAgg130
 z131 := Tryd.sizeOf130
 v131 := Tryd.zeroValue130
 t182 := Tryd.underlying162
 a182 := Tryd.isAgg162
 z182 := Tryd.sizeOf162
 v182 := Tryd.zeroValue162
 t183 := Tryd.underlying163
 a183 := Tryd.isAgg163
 z183 := Tryd.sizeOf163
 v183 := Tryd.zeroValue163
 t218 := Tryd.underlying174
 a218 := Tryd.isAgg174
 z218 := Tryd.sizeOf174
 v218 := Tryd.zeroValue174
 t222 := Tryd.underlying178
 a222 := Tryd.isAgg178
 z222 := Tryd.sizeOf178
 v222 := Tryd.zeroValue178
 t228 := Tryd.underlying184
 a228 := Tryd.isAgg184
 z228 := Tryd.sizeOf184
 v228 := Tryd.zeroValue184
 t229 := Tryd.underlying185
 a229 := Tryd.isAgg185
 z229 := Tryd.sizeOf185
 v229 := Tryd.zeroValue185 }
open Go.Sort Go.RowKit in
theorem Tryd.slices_Sort_int (blk off cap : Nat) (zs : List Int) (w : World) (hH : Holds (Value.int .i64) w blk off zs.toArray) (hblk : blk < w.heap.size) (hsz : zs.length < 4611686018427387904) :
  Calls Tryd.prog 105 #[.slice (some ⟨blk, off, none⟩) zs.length cap] w fun e w' =>
   e = .returned (.tuple #[]) ∧ ∃ n os, w' = grow (putRow (Value.int .i64) (Sort.ahead w n) blk off (zs.mergeSort fun x y => decide (x ≤ y)).toArray) os := Any.slices_Sort_int Tryd.lays189 blk off cap zs w hH hblk hsz
def Tryd.laysNm220_ren : Go.Shelf.Ren := ⟨fun | 20 => 106 | n => n, fun | 22 => 26 | 3 => 3 | 4 => 4 | 0 => 0 | n => n, fun | n => n⟩
theorem Tryd.laysNm220 : Go.Proofs.Lays2.n20 Tryd.prog Tryd.laysNm220_ren := {
 mixed := by kernel_rfl
 f20 := Tryd.func106.trans (congrArg some (by kernel_rfl))
 t0 := Tryd.underlying0
 a0 := Tryd.isAgg0
 z0 := Tryd.sizeOf0
 v0 := Tryd.zeroValue0
 t3 := Tryd.underlying3
 a3 := Tryd.isAgg3
 z3 := Tryd.sizeOf3
 v3 := Tryd.zeroValue3
 t4 := Tryd.underlying4
 a4 := Tryd.isAgg4
 z4 := Tryd.sizeOf4
 v4 := Tryd.zeroValue4
 t22 := Tryd.underlying26
 a22 := Tryd.isAgg26
 z22 := Tryd.sizeOf26
 v22 := Tryd.zeroValue26
 i3 := by kernel_rfl }
open Go.RowKit Go.Lib Go.Sort in
theorem Tryd.slices_Compact_int (blk off cap : Nat) (zs : List Int) (w : World) (hH : Holds (Value.int .i64) w blk off zs.toArray) (hsz : zs.length ≤ 9223372036854775807) (hcap : zs.length ≤ cap) :
  Calls Tryd.prog 106 #[.slice (some ⟨blk, off, none⟩) zs.length cap] w fun e w' => e = .returned (.slice (some ⟨blk, off, none⟩) (Lib.compact zs).length cap) ∧ ∃ q, w' = putRow (Value.int .i64) (Sort.ahead w q) blk off (Lib.compact zs ++ List.replicate (zs.length - (Lib.compact zs).length) 0).toArray := Any.slices_Compact_int Tryd.laysNm220 blk off cap zs w hH hsz hcap
open Go.RowKit Go.Lib Go.Sort in
theorem Tryd.slices_Compact_int_empty (a : Option Addr) (cap : Nat) (w : World) :
  Calls Tryd.prog 106 #[.slice a 0 cap] w fun e w' => e = .returned (.slice a 0 cap) ∧ w' = w := Any.slices_Compact_int_empty Tryd.laysNm220 a cap w
open Go.RowKit Go.Sort in
theorem Tryd.slices_Sort_int_none (p : Option Addr) (cap : Nat) (w : World) :
  Calls Tryd.prog 105 #[.slice p 0 cap] w fun e w' => e = .returned (.tuple #[]) ∧ w' = w := Any.slices_Sort_int_none Tryd.lays189 p cap w
end Go.Proofs

namespace Go.Pv
open Go.Lib Go.Sort
theorem wje (d : Array Int) : ∀ m : Nat, (compactUpTo d m).length ≤ m
 | 0 => by simp [compactUpTo]
 | m + 1 => by
  rw [compactUpTo_succ, List.length_append]
  have := wje d m
  split <;> simp <;> omega
theorem wiQ (l : List Int) : (compactI l).length ≤ l.length := by unfold compactI compact; exact wje _ _
theorem wfs (l : List Int) : (waH l).length = l.length := by
 have := wiQ l
 unfold waH; simp; omega
theorem wqg (w : World) (ok : Nat → Prop) (x : Int) : RepD w ok (.int .i64 x) (.int .i64 x) := .int .i64 x
theorem wrs (w : World) (X : Nat → Prop) (φ : Nm) (H : wac) (v : Value) (x : Int) (h : RepV w X φ H v (.d (.int .i64 x))) : v = .int .i64 x := by cases h with | d h => cases h; rfl
namespace Tryd
open Go.Proofs
theorem wqh {vs : List Value} {p : PV} (h : vs.length = [p].length) : ∃ v, vs = [v] := by
 match vs, h with
 | [v], _ => exact ⟨v, rfl⟩
theorem wrt (L : List Int) (hL : L.length ≤ 4294967296) : HandFn Tryd.prog G 105 [.slc 0 0 L.length] 0 3 1 (wab (PD.int .i64) L) (.tuple []) (wab (PD.int .i64) (sortI L)) := by
 intro B φ vs h0 h1 h2 h3
 obtain ⟨v, rfl⟩ := wqh h1
 have hv : RepV B.w0 B.X φ [(0, ⟨3, 1, dl (wab (PD.int .i64) L)⟩)] v (.slc 0 0 L.length) := h2 0 (by simp)
 have hlen : (wab (PD.int .i64) (sortI L)).length = (wab (PD.int .i64) L).length := by simp [wab, sortI_length]
 generalize hn : L.length = n at hv
 cases hv with
 | slc hx hb hk1 h4 h5 h6 h7 =>
  rename_i cap b x
  obtain ⟨_, rfl⟩ := we0 hx
  obtain ⟨hH, hlt⟩ := h3.holds (enc := Value.int .i64) (pd := PD.int .i64) wrs (fun _ => rfl) hb
  have hc := Tryd.slices_Sort_int b 0 cap L B.w0 hH hlt (by omega)
  rw [hn] at hc
  have e0 : (0 : Nat) * (⟨3, 1, dl (wab (PD.int .i64) L)⟩ : Row).k = 0 := Nat.zero_mul _
  rw [e0]
  refine (callsIn_wide.2 hc).mono ?_
  rintro e w' ⟨rfl, m, os, rfl⟩
  refine ⟨_, .tuple [], [(0, ⟨3, 1, dl (wab (PD.int .i64) (sortI L))⟩)], none, φ, rfl, ⟨rfl, rfl, hlen⟩, .tuple rfl (fun i hi => by simp at hi), ?_⟩
  have := h3.putRow (enc := Value.int .i64) (pd := PD.int .i64) (L' := sortI L) wqg (fun _ => rfl) h0 (sortI_length L) hb m os
  unfold sortI at this ⊢
  exact this
 | slc0 hx hb hk1 hp =>
  rename_i x p
  have hL0 : L = [] := List.length_eq_zero_iff.1 hn
  subst hL0
  refine (callsIn_wide.2 (Tryd.slices_Sort_int_none p 0 B.w0)).mono ?_
  rintro e w' ⟨rfl, rfl⟩
  have e1 : sortI [] = [] := List.length_eq_zero_iff.1 (by rw [sortI_length]; rfl)
  refine ⟨_, .tuple [], [(0, ⟨3, 1, dl (wab (PD.int .i64) (sortI []))⟩)], none, φ, rfl, ⟨rfl, rfl, hlen⟩, .tuple rfl (fun i hi => by simp at hi), ?_⟩
  rw [e1]; exact h3
theorem wpp (L : List Int) (hL : L.length ≤ 4294967296) : HandFn Tryd.prog G 106 [.slc 0 0 L.length] 0 3 1 (wab (PD.int .i64) L) (.slc 0 0 (compactI L).length) (wab (PD.int .i64) (waH L)) := by
 intro B φ vs h0 h1 h2 h3
 obtain ⟨v, rfl⟩ := wqh h1
 have hv : RepV B.w0 B.X φ [(0, ⟨3, 1, dl (wab (PD.int .i64) L)⟩)] v (.slc 0 0 L.length) := h2 0 (by simp)
 have hlen : (wab (PD.int .i64) (waH L)).length = (wab (PD.int .i64) L).length := by simp [wab, wfs]
 have hle := wiQ L
 generalize hn : L.length = n at hv
 cases hv with
 | slc hx hb hk1 h4 h5 h6 h7 =>
  rename_i cap b x
  obtain ⟨_, rfl⟩ := we0 hx
  obtain ⟨hH, hlt⟩ := h3.holds (enc := Value.int .i64) (pd := PD.int .i64) wrs (fun _ => rfl) hb
  have hc := Tryd.slices_Compact_int b 0 cap L B.w0 hH (by omega) (by omega)
  rw [hn] at hc
  have e0 : (0 : Nat) * (⟨3, 1, dl (wab (PD.int .i64) L)⟩ : Row).k = 0 := Nat.zero_mul _
  rw [e0]
  refine (callsIn_wide.2 hc).mono ?_
  rintro e w' ⟨rfl, m, rfl⟩
  have hs := h3.putRow (enc := Value.int .i64) (pd := PD.int .i64) (L' := waH L) wqg (fun _ => rfl) h0 (wfs L) hb m #[]
  have eg : ∀ w : World, grow w #[] = w := fun w => by simp [grow]
  rw [eg] at hs
  have hx' : waa ([(0, ⟨3, 1, dl (wab (PD.int .i64) (waH L))⟩)] : wac) 0 = some ⟨3, 1, dl (wab (PD.int .i64) (waH L))⟩ := rfl
  have hll : (dl (wab (PD.int .i64) (waH L))).length = L.length := by simp [dl, wab, wfs]
  have hll0 : (dl (wab (PD.int .i64) L)).length = L.length := by simp [dl, wab]
  dsimp only at h4 h6 h7
  rw [hll0] at h4 h6
  refine ⟨_, .slc 0 0 (compactI L).length, [(0, ⟨3, 1, dl (wab (PD.int .i64) (waH L))⟩)], none, φ, rfl, ⟨rfl, rfl, hlen⟩, ?_, ?_⟩
  ·have hr : RepV (Sort.putRow (Value.int .i64) (Sort.ahead B.w0 m) b 0 (waH L).toArray) B.X φ [(0, ⟨3, 1, dl (wab (PD.int .i64) (waH L))⟩)] (.slice (some ⟨b, 0 * (⟨3, 1, dl (wab (PD.int .i64) (waH L))⟩ : Row).k, none⟩) (compactI L).length cap) (.slc 0 0 (compactI L).length) :=
    .slc hx' hb (Nat.le_refl 1) (by dsimp only; rw [hll]; omega) (by omega) (by dsimp only; rw [hll]; omega) (fun c e f hh => by
     rw [wiH, if_pos rfl] at hh
     obtain ⟨ob, ho1, ho2⟩ := Option.map_eq_some_iff.1 hh
     cases ob with
     | cells c0 e0 f0 =>
      simp only [onCells, Obj.cells.injEq] at ho2
      have := h7 c0 e0 f0 ho1
      rw [← ho2.1]
      simpa [putCells] using this
     | _ => simp [onCells] at ho2)
   rw [Nat.zero_mul] at hr
   unfold waH compactI at hr ⊢
   rw [hn] at hr ⊢
   exact hr
  ·unfold waH compactI at hs ⊢
   rw [hn] at hs ⊢
   exact hs
 | slc0 hx hb hk1 hp =>
  rename_i x p
  have hL0 : L = [] := List.length_eq_zero_iff.1 hn
  subst hL0
  refine (callsIn_wide.2 (Tryd.slices_Compact_int_empty p 0 B.w0)).mono ?_
  rintro e w' ⟨rfl, rfl⟩
  have e1 : waH [] = [] := List.length_eq_zero_iff.1 (by rw [wfs]; rfl)
  have e2 : (compactI []).length = 0 := by have := wiQ []; simp at this; simp [this]
  refine ⟨_, .slc 0 0 (compactI []).length, [(0, ⟨3, 1, dl (wab (PD.int .i64) (waH []))⟩)], none, φ, rfl, ⟨rfl, rfl, hlen⟩, ?_, ?_⟩
  ·rw [e1, e2]; exact .slc0 hx hb hk1 hp
  ·rw [e1]; exact h3
end Tryd
end Go.Pv

namespace Go.Pv.Tryd
open Go.Proofs Go.Pv
theorem we9 (mark1 : Int) (ts1 : (List (List Rule))) (r : (List Int)) (h : wbG mark1 ts1 = some r) : PureFn Tryd.prog G 81 [.d (.int .i64 mark1), .d (.imm 1 (wab (wda 2 Rule.pd) ts1))] (.d (.imm 1 (wab (PD.int .i64) r))) := by
 unfold wbG at h
 refine pf Tryd.func81 Tryd.ntmps81 ?_
 refine sg fun K k => ?_
 refine oo ?_
 refine AOps.nil (k _ ?_)
 refine sg fun K k => ?_
 iterate 2 refine oo ?_
 refine AOps.nil (k _ ?_)
 refine jn (α := (List Int)) [] [] (fun i t => (5, .slc 1000 0 i.length) :: t) (fun i t => (1000, ⟨3, 1, dl (wab (PD.int .i64) i)⟩) :: t) h ?_ ?_
 ·intro _ hj_2
  refine sg fun K k => ?_
  iterate 3 refine oo ?_
  refine AOps.nil (k _ ?_)
  refine AWp.block ?_
  obtain ⟨x_7, hl_4, h2_5⟩ := bind_some hj_2
  refine lp (S := (Int × (List Int))) [0, 11, 12] [] (fun i t => (5, .slc 1000 0 i.2.length) :: (13, .d (.int .i64 i.1)) :: t) (fun i t => (1000, ⟨3, 1, dl (wab (PD.int .i64) i.2)⟩) :: t) hl_4 ?_ ?_; exact sb; clear hl_4
  rintro ⟨v1, L2⟩ _ hb_6; unfold wcP at hb_6; try dsimp only at hb_6
  try dsimp only
  refine sg fun K k => ?_
  refine oo ?_
  refine AOps.nil (k _ ?_)
  refine AWp.seq fun _ K_9 => ?_
  refine cd hb_6 (fun hb_6 => ?_) (fun hb_6 => ?_)
  ·refine AWp.skip ?_
   refine K_9 _ ?_
   refine jn (α := (List Int)) [0, 11, 12, 13] [] (fun i t => (5, .slc 1000 0 i.length) :: t) (fun i t => (1000, ⟨3, 1, dl (wab (PD.int .i64) i)⟩) :: t) hb_6 ?_ ?_
   ·intro _ hj_12
    refine AWp.block ?_
    refine sg fun K k => ?_
    obtain ⟨e1, ⟨f_13, f_14, f_15, f_16⟩, hj_12⟩ := wak hj_12
    refine oo ?_
    refine oo ?_ (by intro K k; simp (disch := omega) only [go_sem, f_15, ↓reduceIte]; exact k)
    refine oo ?_
    refine AOps.nil (k _ ?_)
    refine sg fun K k => ?_
    iterate 3 refine oo ?_
    refine AOps.nil (k _ ?_)
    refine AWp.block ?_
    obtain ⟨x_21, hl_18, h2_19⟩ := bind_some hj_12
    refine lp (S := (Int × (List Int))) [0, 11, 12, 13, 17, 18] [] (fun i t => (5, .slc 1000 0 i.2.length) :: (19, .d (.int .i64 i.1)) :: t) (fun i t => (1000, ⟨3, 1, dl (wab (PD.int .i64) i.2)⟩) :: t) hl_18 ?_ ?_; exact sb; clear hl_18
    rintro ⟨v2, L4⟩ _ hb_20; unfold wcO at hb_20; try dsimp only at hb_20
    try dsimp only
    refine sg fun K k => ?_
    refine oo ?_
    refine AOps.nil (k _ ?_)
    refine AWp.seq fun _ K_23 => ?_
    refine cd hb_20 (fun hb_20 => ?_) (fun hb_20 => ?_)
    ·refine AWp.skip ?_
     refine K_23 _ ?_
     refine AWp.seq fun _ K_25 => ?_
     refine AWp.block ?_
     refine sg fun K k => ?_
     obtain ⟨e2, ⟨f_26, f_27, f_28, f_29⟩, hb_20⟩ := wak hb_20
     refine oo ?_
     refine oo ?_ (by intro K k; simp (disch := omega) only [go_sem, f_28, ↓reduceIte]; exact k)
     iterate 2 refine oo ?_
     refine AOps.nil (k _ ?_)
     refine AWp.draw mo [] trivial ?_
     obtain ⟨e3, ⟨f_30, f_31, f_32, f_33⟩, hb_20⟩ := wak hb_20
     iterate 6 refine dd ?_
     refine dd ?_ (by intro K k; simp (disch := omega) only [go_sem, f_32, ↓reduceIte]; exact k)
     iterate 5 refine dd ?_
     refine dd ?_ (by intro K k; simp (disch := omega) only [go_sem, f_32, ↓reduceIte]; exact k)
     refine ddl ?_
     refine DOps.stop (by kernel_rfl) ?_
     obtain ⟨hg_34, hb_20⟩ := wae hb_20
     iterate 2 refine oo ?_
     refine AOps.nil ?_
     refine K_25 _ ?_
     refine AWp.reg ?_
     iterate 2 refine oo ?_
     refine AOps.nil ?_
     exact ln hb_20 sb
    ·refine AWp.exit ?_
     refine lx hb_20 fun hx => ?_; cases hx; try dsimp only at h2_19
     cases h2_19; exact sb
   ·rintro L3 hb_6; dsimp only at hb_6 ⊢
    refine AWp.reg ?_
    iterate 2 refine oo ?_
    refine AOps.nil ?_
    exact ln hb_6 sb
  ·refine AWp.exit ?_
   refine lx hb_6 fun hx => ?_; cases hx; try dsimp only at h2_5
   cases h2_5; exact sb
 ·rintro L1 h; dsimp only at h ⊢
  refine sg fun K k => ?_
  obtain ⟨hg_35, h⟩ := wae h
  refine oo ?_
  refine clH 1000 (wrt L1 hg_35) ?_
  refine AOps.nil (k _ ?_)
  refine sg fun K k => ?_
  obtain ⟨hg_36, h⟩ := wae h
  refine oo ?_
  refine clH 1000 (wpp (sortI L1) hg_36) ?_
  refine AOps.sub (τ := ⟨[(43, .d (.imm 1 (wab (PD.int .i64) (List.take ((compactI (sortI L1)).length) (waH (sortI L1))))))], [], [], none⟩) sct ?_
  refine oo ?_
  refine AOps.nil (k _ ?_)
  refine jn (α := (List Int)) [] [] (fun i t => (5, .d (.imm 1 (wab (PD.int .i64) i))) :: t) (fun i t => t) h ?_ ?_
  ·intro _ hj_38
   refine sg fun K k => ?_
   obtain ⟨e4, ⟨f_39, f_40, f_41, f_42⟩, hj_38⟩ := wak hj_38
   try simp only [List.length_append, List.length_set, List.length_replicate, List.length_cons, List.length_nil] at f_40 f_42
   try simp only [Int.reduceToNat] at f_41 f_42
   iterate 2 refine oo ?_
   refine oo ?_ (by intro K k; simp (disch := omega) only [go_sem, f_41, ↓reduceIte]; exact k)
   refine oo ?_
   refine AOps.nil (k _ ?_)
   refine cd hj_38 (fun hj_38 => ?_) (fun hj_38 => ?_)
   ·refine AWp.reg ?_
    obtain ⟨hg_44, hj_38⟩ := wae hj_38
    iterate 3 refine oo ?_
    refine AOps.nil ?_
    cases hj_38; exact sb
   ·refine AWp.skip ?_
    cases hj_38; exact sb
  ·rintro out1 h; dsimp only at h ⊢
   refine sg fun K k => ?_
   iterate 2 refine oo ?_
   refine AOps.nil (k _ ?_)
   refine AWp.ret ?_
   cases h; exact rt
end Go.Pv.Tryd

namespace Go.Pv.Tryd
open Go.Proofs Go.Pv
theorem wdz (t1 : (List Rule)) (mark1 : Int) (value1 : Int) (r : Int) (h : wbH t1 mark1 value1 = some r) : PureFn Tryd.prog G 82 [.d (.imm 2 (wab Rule.pd t1)), .d (.int .i64 mark1), .d (.int .i64 value1)] (.d (.int .u32 r)) := by
 unfold wbH at h
 refine pf Tryd.func82 Tryd.ntmps82 ?_
 refine sg fun K k => ?_
 refine oo ?_
 refine AOps.nil (k _ ?_)
 refine sg fun K k => ?_
 refine oo ?_
 refine AOps.nil (k _ ?_)
 refine jn (α := Int) [] [] (fun i t => (7, .d (.int .u32 i)) :: t) (fun i t => t) h ?_ ?_
 ·intro _ hj_2
  refine sg fun K k => ?_
  iterate 3 refine oo ?_
  refine AOps.nil (k _ ?_)
  refine AWp.block ?_
  obtain ⟨x_7, hl_4, h2_5⟩ := bind_some hj_2
  refine lp (S := (Int × Int)) [1, 2, 11, 12] [] (fun i t => (7, .d (.int .u32 i.1)) :: (13, .d (.int .i64 i.2)) :: t) (fun i t => t) hl_4 ?_ ?_; exact sb; clear hl_4
  rintro ⟨out2, v1⟩ _ hb_6; unfold wcQ at hb_6; try dsimp only at hb_6
  try dsimp only
  refine sg fun K k => ?_
  refine oo ?_
  refine AOps.nil (k _ ?_)
  refine AWp.seq fun _ K_9 => ?_
  refine cd hb_6 (fun hb_6 => ?_) (fun hb_6 => ?_)
  ·refine AWp.skip ?_
   refine K_9 _ ?_
   refine jn (α := Int) [1, 2, 11, 12, 13] [] (fun i t => (7, .d (.int .u32 i)) :: t) (fun i t => t) hb_6 ?_ ?_
   ·intro _ hj_12
    refine AWp.block ?_
    refine sg fun K k => ?_
    obtain ⟨e1, ⟨f_13, f_14, f_15, f_16⟩, hj_12⟩ := wak hj_12
    iterate 2 refine oo ?_
    refine oo ?_ (by intro K k; simp (disch := omega) only [go_sem, f_15, ↓reduceIte]; exact k)
    iterate 3 refine oo ?_
    refine AOps.nil (k _ ?_)
    refine sg fun K k => ?_
    obtain ⟨e2, ⟨f_17, f_18, f_19, f_20⟩, hj_12⟩ := wak hj_12
    iterate 4 refine oo ?_
    refine oo ?_ (by intro K k; simp (disch := omega) only [go_sem, f_19, ↓reduceIte]; exact k)
    iterate 2 refine oo ?_
    refine AOps.nil (k _ ?_)
    refine sg fun K k => ?_
    iterate 5 refine oo ?_
    refine ct 5 [1, 2, 7, 8, 11, 12, 13] [] (fun  t => (32, .d (.bool ((decide (e2.Lo ≤ value1)) && (decide (value1 < e2.Hi))))) :: t) ?_ ?_
    ·rcases bt (decide (e2.Lo ≤ value1)) with hg_22 | hg_22
     ·rw [hg_22]
      iterate 5 refine oo ?_
      refine AOps.nil ?_
      exact sb
     ·rw [hg_22]
      iterate 5 refine oo ?_
      refine AOps.nil ?_
      exact sb
    refine AOps.nil (k _ ?_)
    refine cd hj_12 (fun hj_12 => ?_) (fun hj_12 => ?_)
    ·refine AWp.reg ?_
     obtain ⟨hg_24, hj_12⟩ := wae hj_12
     iterate 5 refine oo ?_
     refine AOps.nil ?_
     cases hj_12; exact sb
    ·refine AWp.skip ?_
     cases hj_12; exact sb
   ·rintro out3 hb_6; dsimp only at hb_6 ⊢
    refine AWp.reg ?_
    iterate 2 refine oo ?_
    refine AOps.nil ?_
    exact ln hb_6 sb
  ·refine AWp.exit ?_
   refine lx hb_6 fun hx => ?_; cases hx; try dsimp only at h2_5
   cases h2_5; exact sb
 ·rintro out1 h; dsimp only at h ⊢
  refine sg fun K k => ?_
  iterate 2 refine oo ?_
  refine AOps.nil (k _ ?_)
  refine AWp.ret ?_
  cases h; exact rt
end Go.Pv.Tryd

namespace Go.Pv.Tryd
open Go.Proofs Go.Pv
theorem wce (s1 : Int) (r : Int) (h : waU s1 = some r) : PureFn Tryd.prog G 80 [.d (.int .u32 s1)] (.d (.int .i64 r)) := by
 unfold waU at h
 refine pf Tryd.func80 Tryd.ntmps80 ?_
 refine sg fun K k => ?_
 refine oo ?_
 refine AOps.nil (k _ ?_)
 refine jm (ι := Unit) [] [] (fun i t => t) (fun i t => t) .inl h ?_ ?_
 ·intro _ hj_2 h
  refine sg fun K k => ?_
  refine oo ?_
  refine AOps.nil (k _ ?_)
  refine AWp.block ?_
  obtain ⟨x_7, hl_4, h2_5⟩ := bind_some hj_2
  refine lp (S := Int) [0] [] (fun i t => (4, .d (.int .i64 i)) :: t) (fun i t => t) hl_4 ?_ ?_; exact sb; clear hl_4
  rintro v1 _ hb_6; unfold wbn at hb_6; try dsimp only at hb_6
  try dsimp only
  refine sg fun K k => ?_
  refine oo ?_
  refine AOps.nil (k _ ?_)
  refine AWp.seq fun _ K_9 => ?_
  refine cd hb_6 (fun hb_6 => ?_) (fun hb_6 => ?_)
  ·refine AWp.skip ?_
   refine K_9 _ ?_
   refine AWp.seq fun _ K_11 => ?_
   refine AWp.block ?_
   refine sg fun K k => ?_
   iterate 2 refine oo ?_
   refine AOps.nil (k _ ?_)
   refine sg fun K k => ?_
   obtain ⟨hg_12, hb_6⟩ := wae hb_6
   iterate 5 refine oo ?_
   refine AOps.nil (k _ ?_)
   refine cd hb_6 (fun hb_6 => ?_) (fun hb_6 => ?_)
   ·refine sg fun K k => ?_
    iterate 2 refine oo ?_
    refine AOps.nil (k _ ?_)
    refine AWp.ret ?_
    refine lx hb_6 fun hx => ?_; cases hx; try dsimp only at h2_5
    cases h2_5; try dsimp only at h
    cases h; exact rt
   ·refine AWp.skip ?_
    refine K_11 _ ?_
    refine AWp.reg ?_
    iterate 2 refine oo ?_
    refine AOps.nil ?_
    exact ln hb_6 sb
  ·refine AWp.exit ?_
   refine lx hb_6 fun hx => ?_; cases hx; try dsimp only at h2_5
   exact ln h2_5 sb
 ·rintro _ h; dsimp only at h ⊢
  refine sg fun K k => ?_
  refine oo ?_
  refine AOps.nil (k _ ?_)
  refine AWp.ret ?_
  cases h; exact rt
end Go.Pv.Tryd

namespace Go.Pv.Tryd
open Go.Proofs Go.Pv
set_option maxHeartbeats 4000000 in
theorem wiR (n : Nat) : ∀ (o1 : (List Rule)) (o2 : Int) (m1 : (List (Arr3_Int × (List Int)))) (mark1 : Int) (a1 : Int) (r : ((List Int) × (List (Arr3_Int × (List Int))))) (h : wdo n o1 o2 m1 mark1 a1 = some r), ObjFn Tryd.prog G 93 [.d (.int .i64 mark1), .d (.int .u32 a1), .ptr 0 0 0, .ptr 1 0 0, .ptr 2 0 0, .ptr 3 0 0] [(0, ⟨135, 1, [.mp 4]⟩), (1, ⟨22, 1, [.d (.imm 2 (wab Rule.pd o1))]⟩), (2, ⟨3, 1, [.d (.int .i64 o2)]⟩), (3, ⟨136, 1, [.func (.func 93) [.ptr 0 0 0, .ptr 1 0 0, .ptr 2 0 0, .ptr 3 0 0]]⟩), (4, ⟨135, 0, wap Arr3_Int.pd (wda 1 (PD.int .i64)) m1⟩)] (.d (.imm 1 (wab (PD.int .i64) r.1))) [(0, ⟨135, 1, [.mp 4]⟩), (1, ⟨22, 1, [.d (.imm 2 (wab Rule.pd o1))]⟩), (2, ⟨3, 1, [.d (.int .i64 o2)]⟩), (3, ⟨136, 1, [.func (.func 93) [.ptr 0 0 0, .ptr 1 0 0, .ptr 2 0 0, .ptr 3 0 0]]⟩), (4, ⟨135, 0, wap Arr3_Int.pd (wda 1 (PD.int .i64)) r.2⟩)] := by
 induction n with
 | zero => intro o1 o2 m1 mark1 a1 r h; cases h
 | succ n ih =>
  intro o1 o2 m1 mark1 a1 r h
  replace h : wcV (wdo n) o1 o2 m1 mark1 a1 = some r := h
  unfold wcV at h
  refine ObjFn.pf Tryd.func93 Tryd.ntmps93 ?_
  refine sg fun K k => ?_
  refine oo ?_
  refine AOps.nil (k _ ?_)
  refine sg fun K k => ?_
  iterate 6 refine oo ?_
  refine AOps.nil (k _ ?_)
  refine AWp.seq fun _ K_1 => ?_
  refine sg fun K k => ?_
  iterate 2 refine oo ?_
  refine oml (k := (⟨mark1, (IntKind.i64.wrap a1), 0⟩ : Arr3_Int)) (L := m1) (v0 := []) (encV := (wda 1 (PD.int .i64))) wix wsl ty26 ws3 (fun _ _ => .imm0 _) ?_
  iterate 5 refine oo ?_
  refine AOps.nil (k _ ?_)
  refine sg fun K k => ?_
  refine oo ?_
  refine AOps.nil (k _ ?_)
  refine cd h (fun h => ?_) (fun h => ?_)
  ·refine sg fun K k => ?_
   iterate 2 refine oo ?_
   refine AOps.nil (k _ ?_)
   refine AWp.ret ?_
   cases h; exact rtO
  ·refine AWp.skip ?_
   refine K_1 _ ?_
   refine sg fun K k => ?_
   obtain ⟨hg_3, h⟩ := wae h
   iterate 5 refine oo ?_
   refine AOps.nil (k _ ?_)
   refine sg fun K k => ?_
   refine oo ?_
   refine AOps.nil (k _ ?_)
   refine jn (α := ((List (Arr3_Int × (List Int))) × (List Int))) [2, 9] [1, 2, 3, 1000] (fun i t => (12, .slc 1001 0 i.2.length) :: t) (fun i t => (0, ⟨135, 1, [.mp 4]⟩) :: (4, ⟨135, 0, wap Arr3_Int.pd (wda 1 (PD.int .i64)) i.1⟩) :: (1001, ⟨3, 1, dl (wab (PD.int .i64) i.2)⟩) :: t) h ?_ ?_
   ·intro _ hj_5
    refine sg fun K k => ?_
    iterate 2 refine oo ?_
    refine ol ?_
    obtain ⟨r1, hx_6, hj_5⟩ := bind_some hj_5
    refine cl (we9 mark1 [o1] _ hx_6) ?_
    iterate 2 refine oo ?_
    refine AOps.nil (k _ ?_)
    refine AWp.block ?_
    obtain ⟨x_11, hl_8, h2_9⟩ := bind_some hj_5
    refine lp (S := (Int × Int × (List (Arr3_Int × (List Int))) × (List Int))) [0, 1, 2, 3, 4, 5, 9, 39, 40] [1, 2, 3, 1000] (fun i t => (12, .slc 1001 0 i.2.2.2.length) :: (13, .d (.int .i64 i.1)) :: (41, .d (.int .i64 i.2.1)) :: t) (fun i t => (0, ⟨135, 1, [.mp 4]⟩) :: (4, ⟨135, 0, wap Arr3_Int.pd (wda 1 (PD.int .i64)) i.2.2.1⟩) :: (1001, ⟨3, 1, dl (wab (PD.int .i64) i.2.2.2)⟩) :: t) hl_8 ?_ ?_; exact sb; clear hl_8
    rintro ⟨from1, v1, M2, L2⟩ _ hb_10; unfold wdE at hb_10; try dsimp only at hb_10
    try dsimp only
    refine sg fun K k => ?_
    refine oo ?_
    refine AOps.nil (k _ ?_)
    refine AWp.seq fun _ K_13 => ?_
    refine cd hb_10 (fun hb_10 => ?_) (fun hb_10 => ?_)
    ·refine AWp.skip ?_
     refine K_13 _ ?_
     refine jn (α := (Int × (List (Arr3_Int × (List Int))) × (List Int))) [0, 1, 2, 3, 4, 5, 9, 39, 40, 41] [1, 2, 3, 1000] (fun i t => (12, .slc 1001 0 i.2.2.length) :: (13, .d (.int .i64 i.1)) :: t) (fun i t => (0, ⟨135, 1, [.mp 4]⟩) :: (4, ⟨135, 0, wap Arr3_Int.pd (wda 1 (PD.int .i64)) i.2.1⟩) :: (1001, ⟨3, 1, dl (wab (PD.int .i64) i.2.2)⟩) :: t) hb_10 ?_ ?_
     ·intro _ hj_16
      refine AWp.block ?_
      refine sg fun K k => ?_
      obtain ⟨e1, ⟨f_17, f_18, f_19, f_20⟩, hj_16⟩ := wak hj_16
      refine oo ?_
      refine oo ?_ (by intro K k; simp (disch := omega) only [go_sem, f_19, ↓reduceIte]; exact k)
      refine oo ?_
      refine AOps.nil (k _ ?_)
      refine sg fun K k => ?_
      iterate 4 refine oo ?_
      obtain ⟨r2, hx_21, hj_16⟩ := bind_some hj_16
      refine cl (wdz o1 mark1 from1 _ hx_21) ?_
      iterate 2 refine oo ?_
      refine AOps.nil (k _ ?_)
      refine jn (α := ((List (Arr3_Int × (List Int))) × (List Int))) [0, 1, 2, 3, 4, 5, 9, 15, 39, 40, 41] [1, 2, 3, 1000] (fun i t => (12, .slc 1001 0 i.2.length) :: t) (fun i t => (0, ⟨135, 1, [.mp 4]⟩) :: (4, ⟨135, 0, wap Arr3_Int.pd (wda 1 (PD.int .i64)) i.1⟩) :: (1001, ⟨3, 1, dl (wab (PD.int .i64) i.2)⟩) :: t) hj_16 ?_ ?_
      ·intro _ hj_23
       refine sg fun K k => ?_
       iterate 4 refine oo ?_
       refine AOps.nil (k _ ?_)
       refine cd hj_23 (fun hj_23 => ?_) (fun hj_23 => ?_)
       ·refine sg fun K k => ?_
        iterate 4 refine oo ?_
        obtain ⟨r3, hx_25, hj_23⟩ := bind_some hj_23
        refine clU [(0, 0), (1, 1), (2, 2), (3, 3), (4, 4)] [] (ih o1 o2 M2 (IntKind.i64.wrap (mark1 + 1)) (IntKind.u32.wrap ↑(BitVec.ofInt IntKind.u32.bits a1 &&& BitVec.ofInt IntKind.u32.bits r2).toNat) _ hx_25) ?_
        iterate 2 refine oo ?_
        refine AOps.nil (k _ ?_)
        refine AWp.block ?_
        obtain ⟨x_30, hl_27, h2_28⟩ := bind_some hj_23
        refine lp (S := (Int × (List Int))) [0, 1, 2, 3, 4, 5, 9, 13, 15, 39, 40, 41, 59, 60] [0, 1, 2, 3, 4, 1000] (fun i t => (12, .slc 1001 0 i.2.length) :: (61, .d (.int .i64 i.1)) :: t) (fun i t => (1001, ⟨3, 1, dl (wab (PD.int .i64) i.2)⟩) :: t) hl_27 ?_ ?_; exact sb; clear hl_27
        rintro ⟨v2, L5⟩ _ hb_29; unfold wdD at hb_29; try dsimp only at hb_29
        try dsimp only
        refine sg fun K k => ?_
        refine oo ?_
        refine AOps.nil (k _ ?_)
        refine AWp.seq fun _ K_32 => ?_
        refine cd hb_29 (fun hb_29 => ?_) (fun hb_29 => ?_)
        ·refine AWp.skip ?_
         refine K_32 _ ?_
         refine AWp.seq fun _ K_34 => ?_
         refine AWp.block ?_
         refine sg fun K k => ?_
         obtain ⟨e2, ⟨f_35, f_36, f_37, f_38⟩, hb_29⟩ := wak hb_29
         iterate 2 refine oo ?_
         refine oo ?_ (by intro K k; simp (disch := omega) only [go_sem, f_37, ↓reduceIte]; exact k)
         iterate 2 refine oo ?_
         refine AOps.nil (k _ ?_)
         refine AWp.reg ?_
         obtain ⟨e3, ⟨f_39, f_40, f_41, f_42⟩, hb_29⟩ := wak hb_29
         iterate 3 refine oo ?_
         refine oo ?_ (by intro K k; simp (disch := omega) only [go_sem, f_41, ↓reduceIte]; exact k)
         iterate 7 refine oo ?_
         refine oo ?_ (by intro K k; simp (disch := omega) only [go_sem, f_41, ↓reduceIte]; exact k)
         refine AOps.nil ?_
         refine K_34 _ ?_
         refine AWp.reg ?_
         iterate 2 refine oo ?_
         refine AOps.nil ?_
         exact ln hb_29 sb
        ·refine AWp.exit ?_
         refine lx hb_29 fun hx => ?_; cases hx; try dsimp only at h2_28
         cases h2_28; exact sb
       ·refine sg fun K k => ?_
        refine oo ?_
        obtain ⟨r4, hx_43, hj_23⟩ := bind_some hj_23
        refine cl (wce (IntKind.u32.wrap ↑(BitVec.ofInt IntKind.u32.bits a1 &&& BitVec.ofInt IntKind.u32.bits r2).toNat) _ hx_43) ?_
        refine oo ?_
        refine AOps.nil (k _ ?_)
        refine sg fun K k => ?_
        iterate 2 refine oo ?_
        refine AOps.nil (k _ ?_)
        refine cd hj_23 (fun hj_23 => ?_) (fun hj_23 => ?_)
        ·refine AWp.reg ?_
         obtain ⟨e4, ⟨f_45, f_46, f_47, f_48⟩, hj_23⟩ := wak hj_23
         try simp only [Int.toNat_natCast] at f_47 f_48
         iterate 4 refine oo ?_
         refine oo ?_ (by intro K k; simp (disch := omega) only [go_sem, f_47, Int.toNat_natCast, ↓reduceIte]; exact k)
         iterate 5 refine oo ?_
         refine oo ?_ (by intro K k; simp (disch := omega) only [go_sem, f_47, Int.toNat_natCast, ↓reduceIte]; exact k)
         refine AOps.nil ?_
         cases hj_23; exact sb
        ·refine AWp.reg ?_
         obtain ⟨e5, ⟨f_49, f_50, f_51, f_52⟩, hj_23⟩ := wak hj_23
         iterate 3 refine oo ?_
         refine oo ?_ (by intro K k; simp (disch := omega) only [go_sem, f_51, ↓reduceIte]; exact k)
         iterate 5 refine oo ?_
         refine oo ?_ (by intro K k; simp (disch := omega) only [go_sem, f_51, ↓reduceIte]; exact k)
         refine AOps.nil ?_
         cases hj_23; exact sb
      ·rintro ⟨M4, L4⟩ hj_16; dsimp only at hj_16 ⊢
       refine AWp.reg ?_
       iterate 2 refine oo ?_
       refine AOps.nil ?_
       cases hj_16; exact sb
     ·rintro ⟨from2, M3, L3⟩ hb_10; dsimp only at hb_10 ⊢
      refine AWp.reg ?_
      iterate 2 refine oo ?_
      refine AOps.nil ?_
      exact ln hb_10 sb
    ·refine AWp.exit ?_
     refine lx hb_10 fun hx => ?_; cases hx; try dsimp only at h2_9
     cases h2_9; exact sb
   ·rintro ⟨M1, L1⟩ h; dsimp only at h ⊢
    refine sg fun K k => ?_
    iterate 3 refine oo ?_
    refine AOps.sub (τ := ⟨[(12, .d (.imm 1 (wab (PD.int .i64) L1))), (103, .mp 4), (104, .d (.agg [(.int .i64 mark1), (.int .i64 (IntKind.i64.wrap a1)), (.int .i64 0)])), (105, .d (.imm 1 (wab (PD.int .i64) L1)))], [(0, ⟨135, 1, [.mp 4]⟩), (1, ⟨22, 1, [.d (.imm 2 (wab Rule.pd o1))]⟩), (2, ⟨3, 1, [.d (.int .i64 o2)]⟩), (3, ⟨136, 1, [.func (.func 93) [.ptr 0 0 0, .ptr 1 0 0, .ptr 2 0 0, .ptr 3 0 0]]⟩), (4, ⟨135, 0, wap Arr3_Int.pd (wda 1 (PD.int .i64)) M1⟩)], [], none⟩) sc ?_
    refine oms (k := (⟨mark1, (IntKind.i64.wrap a1), 0⟩ : Arr3_Int)) (L := M1) (v := L1) (encV := (wda 1 (PD.int .i64))) wix wsl ?_
    refine AOps.nil (k _ ?_)
    refine sg fun K k => ?_
    iterate 2 refine oo ?_
    refine AOps.nil (k _ ?_)
    refine AWp.ret ?_
    cases h; exact rtO
end Go.Pv.Tryd

namespace Go.Pv.Tryd
open Go.Proofs Go.Pv
theorem wiS {α : Type} {f : α → PD} {l : List α} (h : wab f l = []) : l = [] := by simpa [wab] using h
theorem wpq (l r : List Int) (h : wdX l = some r) : RowFn Tryd.prog G 92 [.d (.imm 1 (wab (PD.int .i64) l))] 3 1 (wab (PD.int .i64) r) := by
 unfold wdX at h
 split at h
 ·rename_i hlen
  cases h
  refine Fn.pf Tryd.func92 Tryd.ntmps92 ?_
  refine sg fun K k => ?_
  refine oo ?_
  refine AOps.nil (k _ ?_)
  refine AWp.seq fun _ K_1 => ?_
  refine sg fun K k => ?_
  refine oo ?_
  refine nt ty26 T26_desc (fun he => ?_) ?_
  ·simp only [go_sem, ↓reduceIte]
   refine AOps.nil (k _ ?_)
   refine cdt ?_
   cases wiS he
   refine sg fun K k => ?_
   refine oo ?_
   refine AOps.nil (k _ ?_)
   refine AWp.sub (Sub.void 2 3 1 1000 (by rfl) (by rfl) (by decide) (by decide)) ?_
   simp only [wcK, waj, ↓reduceIte, Nat.reduceEqDiff]
   refine AWp.ret ?_
   exact wjJ (hn := by rfl)
  ·simp only [go_sem, ↓reduceIte]
   refine AOps.nil (k _ ?_)
   refine cdf ?_
   refine AWp.skip ?_
   refine K_1 _ ?_
   refine sg fun K k => ?_
   iterate 4 refine oo ?_
   refine AOps.nil (k _ ?_)
   refine AWp.ret ?_
   exact wjJ (hn := by rw [lenc_length])
 ·cases h
theorem wr7 (l r : List Band) (h : wdX l = some r) : RowFn Tryd.prog G 73 [.d (.imm 2 (wab Band.pd l))] 61 2 (wab Band.pd r) := by
 unfold wdX at h
 split at h
 ·rename_i hlen
  cases h
  refine Fn.pf Tryd.func73 Tryd.ntmps73 ?_
  refine sg fun K k => ?_
  refine oo ?_
  refine AOps.nil (k _ ?_)
  refine AWp.seq fun _ K_1 => ?_
  refine sg fun K k => ?_
  refine oo ?_
  refine nt ty54 T54_desc (fun he => ?_) ?_
  ·simp only [go_sem, ↓reduceIte]
   refine AOps.nil (k _ ?_)
   refine cdt ?_
   cases wiS he
   refine sg fun K k => ?_
   refine oo ?_
   refine AOps.nil (k _ ?_)
   refine AWp.sub (Sub.void 2 61 2 1000 (by rfl) (by rfl) (by decide) (by decide)) ?_
   simp only [wcK, waj, ↓reduceIte, Nat.reduceEqDiff]
   refine AWp.ret ?_
   exact wjJ (hn := by rfl)
  ·simp only [go_sem, ↓reduceIte]
   refine AOps.nil (k _ ?_)
   refine cdf ?_
   refine AWp.skip ?_
   refine K_1 _ ?_
   refine sg fun K k => ?_
   iterate 4 refine oo ?_
   refine AOps.nil (k _ ?_)
   refine AWp.ret ?_
   exact wjJ (hn := by rw [lenc_length])
 ·cases h
theorem wr8 (l r : List Rule) (h : wdX l = some r) : RowFn Tryd.prog G 75 [.d (.imm 2 (wab Rule.pd l))] 56 2 (wab Rule.pd r) := by
 unfold wdX at h
 split at h
 ·rename_i hlen
  cases h
  refine Fn.pf Tryd.func75 Tryd.ntmps75 ?_
  refine sg fun K k => ?_
  refine oo ?_
  refine AOps.nil (k _ ?_)
  refine AWp.seq fun _ K_1 => ?_
  refine sg fun K k => ?_
  refine oo ?_
  refine nt ty22 T22_desc (fun he => ?_) ?_
  ·simp only [go_sem, ↓reduceIte]
   refine AOps.nil (k _ ?_)
   refine cdt ?_
   cases wiS he
   refine sg fun K k => ?_
   refine oo ?_
   refine AOps.nil (k _ ?_)
   refine AWp.sub (Sub.void 2 56 2 1000 (by rfl) (by rfl) (by decide) (by decide)) ?_
   simp only [wcK, waj, ↓reduceIte, Nat.reduceEqDiff]
   refine AWp.ret ?_
   exact wjJ (hn := by rfl)
  ·simp only [go_sem, ↓reduceIte]
   refine AOps.nil (k _ ?_)
   refine cdf ?_
   refine AWp.skip ?_
   refine K_1 _ ?_
   refine sg fun K k => ?_
   iterate 4 refine oo ?_
   refine AOps.nil (k _ ?_)
   refine AWp.ret ?_
   exact wjJ (hn := by rw [lenc_length])
 ·cases h
end Go.Pv.Tryd

namespace Go.Pv.Tryd
open Go.Proofs Go.Pv
theorem wk0 (k1 : Int) (t1 : (List Rule)) (r : (List Int)) (h : wep k1 t1 = some r) : PureFn Tryd.prog G 60 [.d (.int .i64 k1), .d (.imm 2 (wab Rule.pd t1))] (.d (.imm 1 (wab (PD.int .i64) r))) := by
 unfold wep at h
 refine pf Tryd.func60 Tryd.ntmps60 ?_
 refine sg fun K k => ?_
 iterate 3 refine oo ?_
 refine AOps.nil (k _ ?_)
 refine sg fun K k => ?_
 refine omk (α := Arr3_Int) (β := (List Int)) Arr3_Int.pd (wda 1 (PD.int .i64)) 1002 ?_
 iterate 2 refine oo ?_
 refine AOps.nil (k _ ?_)
 refine sg fun K k => ?_
 refine oo ?_
 refine AOps.nil (k _ ?_)
 refine sg fun K k => ?_
 iterate 2 refine oo ?_
 refine AOps.nil (k _ ?_)
 refine sd mo fun K k => ?_
 iterate 2 refine dd ?_
 obtain ⟨r1, hx_1, h⟩ := bind_some h
 refine dcl (wdP t1 _ hx_1) ?_
 refine DOps.stop (by kernel_rfl) ?_
 obtain ⟨r2, hx_2, h⟩ := bind_some h
 refine clU [(0, 1003), (1, 1001), (2, 1000), (3, 1004), (4, 1002)] [] (wiR 100 t1 k1 [] 0 r1 _ hx_2) ?_
 obtain ⟨r3, hx_3, h⟩ := bind_some h
 refine wqF 1005 (wpq r2.1 _ hx_3) ?_
 refine oo ?_
 refine AOps.nil (k _ ?_)
 refine AWp.ret ?_
 cases h; exact rt
end Go.Pv.Tryd

namespace Go.Pv.Tryd
open Go.Proofs Go.Pv
theorem wl6 (k1 : Int) (t1 : (List Rule)) (r : ((List Int) × Int)) (h : wfe k1 t1 = some r) : PureFn Tryd.prog G 30 [.d (.int .i64 k1), .d (.imm 2 (wab Rule.pd t1))] (.tuple [.d (.imm 1 (wab (PD.int .i64) r.1)), .d (.int .i64 r.2)]) := by
 unfold wfe at h
 refine pf Tryd.func30 Tryd.ntmps30 ?_
 refine sg fun K k => ?_
 iterate 2 refine oo ?_
 refine AOps.nil (k _ ?_)
 refine AWp.seq fun _ K_1 => ?_
 refine sg fun K k => ?_
 iterate 2 refine oo ?_
 refine ol ?_
 obtain ⟨r1, hx_2, h⟩ := bind_some h
 refine cl (wee k1 [t1] _ hx_2) ?_
 refine oo ?_
 refine AOps.nil (k _ ?_)
 refine sg fun K k => ?_
 iterate 2 refine oo ?_
 refine AOps.nil (k _ ?_)
 refine cd h (fun h => ?_) (fun h => ?_)
 ·refine sg fun K k => ?_
  iterate 3 refine oo ?_
  refine AOps.nil (k _ ?_)
  refine AWp.ret ?_
  cases h; exact rt
 ·refine AWp.skip ?_
  refine K_1 _ ?_
  refine sg fun K k => ?_
  refine oo ?_
  refine AOps.nil (k _ ?_)
  refine AWp.sub (Sub.void 7 3 1 1000 (by rfl) (by rfl) (by decide) (by decide)) ?_
  simp only [wcK, waj, reduceCtorEq, ↓reduceIte, Nat.reduceAdd, Nat.reduceMul, Nat.reduceLT, Nat.reduceLeDiff, Nat.reduceEqDiff, Nat.reduceBEq, Int.reduceToNat]
  refine jn (α := (List Int)) [] [] (fun i t => (7, .slc 1000 0 i.length) :: t) (fun i t => (1000, ⟨3, 1, dl (wab (PD.int .i64) i)⟩) :: t) h ?_ ?_
  ·intro _ hj_5
   refine sg fun K k => ?_
   iterate 2 refine oo ?_
   obtain ⟨r2, hx_6, hj_5⟩ := bind_some hj_5
   refine cl (wk0 k1 t1 _ hx_6) ?_
   obtain ⟨hg_7, hj_5⟩ := wae hj_5
   iterate 5 refine oo ?_
   refine AOps.nil (k _ ?_)
   refine AWp.block ?_
   obtain ⟨x_12, hl_9, h2_10⟩ := bind_some hj_5
   refine lp (S := (Int × (List Int))) [22, 23] [] (fun i t => (7, .slc 1000 0 i.2.length) :: (24, .d (.int .i64 i.1)) :: t) (fun i t => (1000, ⟨3, 1, dl (wab (PD.int .i64) i.2)⟩) :: t) hl_9 ?_ ?_; exact sb; clear hl_9
   rintro ⟨v1, L2⟩ _ hb_11; unfold we4 at hb_11; try dsimp only at hb_11
   try dsimp only
   refine sg fun K k => ?_
   refine oo ?_
   refine AOps.nil (k _ ?_)
   refine AWp.seq fun _ K_14 => ?_
   refine cd hb_11 (fun hb_11 => ?_) (fun hb_11 => ?_)
   ·refine AWp.skip ?_
    refine K_14 _ ?_
    refine jn (α := (List Int)) [22, 23, 24] [] (fun i t => (7, .slc 1000 0 i.length) :: t) (fun i t => (1000, ⟨3, 1, dl (wab (PD.int .i64) i)⟩) :: t) hb_11 ?_ ?_
    ·intro _ hj_17
     refine AWp.block ?_
     refine sg fun K k => ?_
     obtain ⟨e1, ⟨f_18, f_19, f_20, f_21⟩, hj_17⟩ := wak hj_17
     try simp only [List.length_append, List.length_set, List.length_replicate, List.length_cons, List.length_nil] at f_19 f_21
     iterate 2 refine oo ?_
     refine oo ?_ (by intro K k; simp (disch := omega) only [go_sem, f_20, ↓reduceIte]; exact k)
     iterate 2 refine oo ?_
     refine AOps.nil (k _ ?_)
     refine sg fun K k => ?_
     iterate 2 refine oo ?_
     refine AOps.nil (k _ ?_)
     refine cd hj_17 (fun hj_17 => ?_) (fun hj_17 => ?_)
     ·refine AWp.reg ?_
      iterate 2 refine oo ?_
      refine ol ?_
      obtain ⟨hg_23, hj_17⟩ := wae hj_17
      iterate 2 refine oo ?_
      refine AOps.nil ?_
      cases hj_17; exact sb
     ·refine AWp.skip ?_
      cases hj_17; exact sb
    ·rintro L3 hb_11; dsimp only at hb_11 ⊢
     refine AWp.reg ?_
     iterate 2 refine oo ?_
     refine AOps.nil ?_
     exact ln hb_11 sb
   ·refine AWp.exit ?_
    refine lx hb_11 fun hx => ?_; cases hx; try dsimp only at h2_10
    cases h2_10; exact sb
  ·rintro L1 h; dsimp only at h ⊢
   refine sg fun K k => ?_
   iterate 3 refine oo ?_
   refine AOps.nil (k _ ?_)
   refine AWp.ret ?_
   cases h; exact rt
end Go.Pv.Tryd

namespace Go.Pv.Tryd
open Go.Proofs Go.Pv
theorem wlp (i1 : Int) (v1 : Int) (r : Bool) (h : weG i1 v1 = some r) : PureFn Tryd.prog G 50 [.d (.int .i64 i1), .d (.int .i64 v1)] (.d (.bool r)) := by
 unfold weG at h
 refine pf Tryd.func50 Tryd.ntmps50 ?_
 refine sg fun K k => ?_
 refine oo ?_
 refine AOps.nil (k _ ?_)
 refine sg fun K k => ?_
 iterate 3 refine oo ?_
 refine AOps.nil (k _ ?_)
 refine AWp.ret ?_
 cases h; exact rt
end Go.Pv.Tryd

namespace Go.Pv.Tryd
open Go.Proofs Go.Pv
set_option maxHeartbeats 4000000 in
theorem wgn (n : Nat) : ∀ (o1 : Walker) (m1 : (List (Arr3_Int × Bool))) (mark1 : Int) (a1 : Int) (b1 : Int) (r : ((List Int) × Bool × (List (Arr3_Int × Bool)))) (h : wbL n o1 m1 mark1 a1 b1 = some r), ObjFn Tryd.prog G 79 [.d (.int .i64 mark1), .d (.int .u32 a1), .d (.int .u32 b1), .ptr 0 0 0, .ptr 1 0 0, .ptr 2 0 0, .ptr 3 0 0] [(0, ⟨72, 3, [.d (.agg [(.int .i64 o1.k), (.imm 2 (wab Rule.pd o1.s)), (.imm 2 (wab Rule.pd o1.t))])]⟩), (1, ⟨74, 1, [.d (.fn (.func 50))]⟩), (2, ⟨117, 1, [.mp 4]⟩), (3, ⟨118, 1, [.func (.func 79) [.ptr 0 0 0, .ptr 1 0 0, .ptr 2 0 0, .ptr 3 0 0]]⟩), (4, ⟨117, 0, wap Arr3_Int.pd PD.bool m1⟩)] (.tuple [.d (.imm 1 (wab (PD.int .i64) r.1)), .d (.bool r.2.1)]) [(0, ⟨72, 3, [.d (.agg [(.int .i64 o1.k), (.imm 2 (wab Rule.pd o1.s)), (.imm 2 (wab Rule.pd o1.t))])]⟩), (1, ⟨74, 1, [.d (.fn (.func 50))]⟩), (2, ⟨117, 1, [.mp 4]⟩), (3, ⟨118, 1, [.func (.func 79) [.ptr 0 0 0, .ptr 1 0 0, .ptr 2 0 0, .ptr 3 0 0]]⟩), (4, ⟨117, 0, wap Arr3_Int.pd PD.bool r.2.2⟩)] := by
 induction n with
 | zero => intro o1 m1 mark1 a1 b1 r h; cases h
 | succ n ih =>
  intro o1 m1 mark1 a1 b1 r h
  replace h : wbw (wbL n) o1 m1 mark1 a1 b1 = some r := h
  unfold wbw at h
  refine ObjFn.pf Tryd.func79 Tryd.ntmps79 ?_
  refine sg fun K k => ?_
  iterate 2 refine oo ?_
  refine AOps.nil (k _ ?_)
  refine AWp.seq fun _ K_1 => ?_
  refine sg fun K k => ?_
  iterate 4 refine oo ?_
  refine AOps.nil (k _ ?_)
  refine cd h (fun h => ?_) (fun h => ?_)
  ·refine sd mo fun K k => ?_
   iterate 2 refine dd ?_
   obtain ⟨r1, hx_3, h⟩ := bind_some h
   refine dcl (wce a1 _ hx_3) ?_
   refine dd ?_
   obtain ⟨r2, hx_4, h⟩ := bind_some h
   refine dcl (wce b1 _ hx_4) ?_
   refine DOps.stop (by kernel_rfl) ?_
   obtain ⟨r3, hx_5, h⟩ := bind_some h
   refine clV (wlp r1 r2 _ hx_5) ?_
   iterate 2 refine oo ?_
   refine AOps.nil (k _ ?_)
   refine AWp.sub (τ := ⟨[(10, .d (.imm 1 (wab (PD.int .i64) []))), (11, .d (.bool r3))], [(0, ⟨72, 3, [.d (.agg [(.int .i64 o1.k), (.imm 2 (wab Rule.pd o1.s)), (.imm 2 (wab Rule.pd o1.t))])]⟩), (1, ⟨74, 1, [.d (.fn (.func 50))]⟩), (2, ⟨117, 1, [.mp 4]⟩), (3, ⟨118, 1, [.func (.func 79) [.ptr 0 0 0, .ptr 1 0 0, .ptr 2 0 0, .ptr 3 0 0]]⟩), (4, ⟨117, 0, wap Arr3_Int.pd PD.bool m1⟩)], [], none⟩) sc ?_
   refine AWp.ret ?_
   cases h; exact rtO
  ·refine AWp.skip ?_
   refine K_1 _ ?_
   refine sg fun K k => ?_
   iterate 8 refine oo ?_
   refine AOps.nil (k _ ?_)
   refine AWp.seq fun _ K_6 => ?_
   refine sg fun K k => ?_
   iterate 2 refine oo ?_
   refine oml (k := (⟨mark1, (IntKind.i64.wrap a1), (IntKind.i64.wrap b1)⟩ : Arr3_Int)) (L := m1) (v0 := false) (encV := PD.bool) wix wou ty4 MZ4 (fun _ _ => .bool _) ?_
   refine AOps.nil (k _ ?_)
   refine cd h (fun h => ?_) (fun h => ?_)
   ·refine sg fun K k => ?_
    iterate 2 refine oo ?_
    refine AOps.nil (k _ ?_)
    refine AWp.sub (τ := ⟨[(10, .d (.imm 1 (wab (PD.int .i64) []))), (11, .d (.bool false))], [(0, ⟨72, 3, [.d (.agg [(.int .i64 o1.k), (.imm 2 (wab Rule.pd o1.s)), (.imm 2 (wab Rule.pd o1.t))])]⟩), (1, ⟨74, 1, [.d (.fn (.func 50))]⟩), (2, ⟨117, 1, [.mp 4]⟩), (3, ⟨118, 1, [.func (.func 79) [.ptr 0 0 0, .ptr 1 0 0, .ptr 2 0 0, .ptr 3 0 0]]⟩), (4, ⟨117, 0, wap Arr3_Int.pd PD.bool m1⟩)], [], none⟩) sc ?_
    refine AWp.ret ?_
    cases h; exact rtO
   ·refine AWp.skip ?_
    refine K_6 _ ?_
    refine sg fun K k => ?_
    refine oo ?_
    refine AOps.nil (k _ ?_)
    refine jm (ι := (List (Arr3_Int × Bool))) [5, 12] [0, 1, 3, 1000] (fun i t => t) (fun i t => (2, ⟨117, 1, [.mp 4]⟩) :: (4, ⟨117, 0, wap Arr3_Int.pd PD.bool i⟩) :: t) .inl h ?_ ?_
    ·intro _ hj_9 h
     refine sg fun K k => ?_
     iterate 5 refine oo ?_
     refine ol ?_
     obtain ⟨r4, hx_10, hj_9⟩ := bind_some hj_9
     refine cl (we9 mark1 [o1.s, o1.t] _ hx_10) ?_
     iterate 2 refine oo ?_
     refine AOps.nil (k _ ?_)
     refine AWp.block ?_
     obtain ⟨x_15, hl_12, h2_13⟩ := bind_some hj_9
     refine lp (S := (Int × Int × (List (Arr3_Int × Bool)))) [0, 1, 2, 3, 5, 6, 12, 43, 44] [0, 1, 3, 1000] (fun i t => (13, .d (.int .i64 i.1)) :: (45, .d (.int .i64 i.2.1)) :: t) (fun i t => (2, ⟨117, 1, [.mp 4]⟩) :: (4, ⟨117, 0, wap Arr3_Int.pd PD.bool i.2.2⟩) :: t) hl_12 ?_ ?_; exact sb; clear hl_12
     rintro ⟨from1, v1, M2⟩ _ hb_14; unfold wb2 at hb_14; try dsimp only at hb_14
     try dsimp only
     refine sg fun K k => ?_
     refine oo ?_
     refine AOps.nil (k _ ?_)
     refine AWp.seq fun _ K_17 => ?_
     refine cd hb_14 (fun hb_14 => ?_) (fun hb_14 => ?_)
     ·refine AWp.skip ?_
      refine K_17 _ ?_
      refine AWp.seq fun _ K_19 => ?_
      refine AWp.block ?_
      refine sg fun K k => ?_
      obtain ⟨e1, ⟨f_20, f_21, f_22, f_23⟩, hb_14⟩ := wak hb_14
      refine oo ?_
      refine oo ?_ (by intro K k; simp (disch := omega) only [go_sem, f_22, ↓reduceIte]; exact k)
      refine oo ?_
      refine AOps.nil (k _ ?_)
      refine AWp.seq fun _ K_24 => ?_
      refine sd mo fun K k => ?_
      iterate 8 refine dd ?_
      obtain ⟨r5, hx_25, hb_14⟩ := bind_some hb_14
      refine dcl (wdz o1.s mark1 from1 _ hx_25) ?_
      iterate 6 refine dd ?_
      obtain ⟨r6, hx_26, hb_14⟩ := bind_some hb_14
      refine dcl (wdz o1.t mark1 from1 _ hx_26) ?_
      refine dd ?_
      refine DOps.bar (by kernel_rfl) ?_
      refine BOps.hard (by kernel_rfl) ?_
      obtain ⟨r7, hx_27, hb_14⟩ := bind_some hb_14
      refine clU [(0, 0), (1, 1), (2, 2), (3, 3), (4, 4)] [] (ih o1 M2 (IntKind.i64.wrap (mark1 + 1)) (IntKind.u32.wrap ↑(BitVec.ofInt IntKind.u32.bits a1 &&& BitVec.ofInt IntKind.u32.bits r5).toNat) (IntKind.u32.wrap ↑(BitVec.ofInt IntKind.u32.bits b1 &&& BitVec.ofInt IntKind.u32.bits r6).toNat) _ hx_27) ?_
      refine AOps.nil ?_
      refine BOps.draw [] trivial (Nat.le_of_ble_eq_true rfl) ?_
      iterate 5 refine dd ?_
      refine DOps.nil (by kernel_rfl) (k _ ?_)
      refine sg fun K k => ?_
      refine oo ?_
      refine AOps.nil (k _ ?_)
      refine cd hb_14 (fun hb_14 => ?_) (fun hb_14 => ?_)
      ·refine sg fun K k => ?_
       obtain ⟨hg_29, hb_14⟩ := wae hb_14
       iterate 6 refine oo ?_
       refine AOps.nil (k _ ?_)
       refine AWp.sub (τ := ⟨[(10, .d (.imm 1 (wab (PD.int .i64) ([from1] ++ r7.1)))), (11, .d (.bool true))], [(0, ⟨72, 3, [.d (.agg [(.int .i64 o1.k), (.imm 2 (wab Rule.pd o1.s)), (.imm 2 (wab Rule.pd o1.t))])]⟩), (1, ⟨74, 1, [.d (.fn (.func 50))]⟩), (2, ⟨117, 1, [.mp 4]⟩), (3, ⟨118, 1, [.func (.func 79) [.ptr 0 0 0, .ptr 1 0 0, .ptr 2 0 0, .ptr 3 0 0]]⟩), (4, ⟨117, 0, wap Arr3_Int.pd PD.bool r7.2.2⟩)], [], none⟩) sc ?_
       refine AWp.ret ?_
       refine lx hb_14 fun hx => ?_; cases hx; try dsimp only at h2_13
       cases h2_13; try dsimp only at h
       cases h; exact rtO
      ·refine AWp.skip ?_
       refine K_24 _ ?_
       refine AWp.reg ?_
       iterate 2 refine oo ?_
       refine AOps.nil ?_
       refine K_19 _ ?_
       refine AWp.reg ?_
       iterate 2 refine oo ?_
       refine AOps.nil ?_
       exact ln hb_14 sb
     ·refine AWp.exit ?_
      refine lx hb_14 fun hx => ?_; cases hx; try dsimp only at h2_13
      exact ln h2_13 sb
    ·rintro M1 h; dsimp only at h ⊢
     refine sg fun K k => ?_
     iterate 2 refine oo ?_
     refine oms (k := (⟨mark1, (IntKind.i64.wrap a1), (IntKind.i64.wrap b1)⟩ : Arr3_Int)) (L := M1) (v := true) (encV := PD.bool) wix wou ?_
     refine AOps.nil (k _ ?_)
     refine sg fun K k => ?_
     iterate 2 refine oo ?_
     refine AOps.nil (k _ ?_)
     refine AWp.sub (τ := ⟨[(10, .d (.imm 1 (wab (PD.int .i64) []))), (11, .d (.bool false))], [(0, ⟨72, 3, [.d (.agg [(.int .i64 o1.k), (.imm 2 (wab Rule.pd o1.s)), (.imm 2 (wab Rule.pd o1.t))])]⟩), (1, ⟨74, 1, [.d (.fn (.func 50))]⟩), (2, ⟨117, 1, [.mp 4]⟩), (3, ⟨118, 1, [.func (.func 79) [.ptr 0 0 0, .ptr 1 0 0, .ptr 2 0 0, .ptr 3 0 0]]⟩), (4, ⟨117, 0, wap Arr3_Int.pd PD.bool (wdt (⟨mark1, (IntKind.i64.wrap a1), (IntKind.i64.wrap b1)⟩ : Arr3_Int) true M1)⟩)], [], none⟩) sc ?_
     refine AWp.ret ?_
     cases h; exact rtO
end Go.Pv.Tryd

namespace Go.Pv.Tryd
open Go.Proofs Go.Pv
theorem whs (w1 : Walker) (r : ((List Int) × Bool)) (h : wck w1 = some r) : PureFn Tryd.prog G 49 [.d (.agg [(.int .i64 w1.k), (.imm 2 (wab Rule.pd w1.s)), (.imm 2 (wab Rule.pd w1.t))]), .d (.fn (.func 50))] (.tuple [.d (.imm 1 (wab (PD.int .i64) r.1)), .d (.bool r.2)]) := by
 unfold wck at h
 refine pf Tryd.func49 Tryd.ntmps49 ?_
 refine sg fun K k => ?_
 iterate 4 refine oo ?_
 refine AOps.nil (k _ ?_)
 refine sg fun K k => ?_
 refine omk (α := Arr3_Int) (β := Bool) Arr3_Int.pd PD.bool 1002 ?_
 iterate 2 refine oo ?_
 refine AOps.nil (k _ ?_)
 refine sg fun K k => ?_
 refine oo ?_
 refine AOps.nil (k _ ?_)
 refine sg fun K k => ?_
 iterate 2 refine oo ?_
 refine AOps.nil (k _ ?_)
 refine sd mo fun K k => ?_
 iterate 3 refine dd ?_
 obtain ⟨r1, hx_1, h⟩ := bind_some h
 refine dcl (wdP w1.s _ hx_1) ?_
 iterate 2 refine dd ?_
 obtain ⟨r2, hx_2, h⟩ := bind_some h
 refine dcl (wdP w1.t _ hx_2) ?_
 refine DOps.bar (by kernel_rfl) ?_
 refine BOps.hard (by kernel_rfl) ?_
 obtain ⟨r3, hx_3, h⟩ := bind_some h
 refine clU [(0, 1000), (1, 1001), (2, 1003), (3, 1004), (4, 1002)] [] (wgn 100 w1 [] 0 r1 r2 _ hx_3) ?_
 refine AOps.nil ?_
 refine BOps.draw [] trivial (Nat.le_of_ble_eq_true rfl) ?_
 iterate 4 refine dd ?_
 refine DOps.nil (by kernel_rfl) (k _ ?_)
 refine AWp.ret ?_
 cases h; exact rt
end Go.Pv.Tryd

namespace Go.Pv.Tryd
open Go.Proofs Go.Pv
theorem wlq (l1 : (List Int)) (ok1 : Bool) (r : ((List Int) × Int)) (h : wcW l1 ok1 = some r) : PureFn Tryd.prog G 48 [.d (.imm 1 (wab (PD.int .i64) l1)), .d (.bool ok1)] (.tuple [.d (.imm 1 (wab (PD.int .i64) r.1)), .d (.int .i64 r.2)]) := by
 unfold wcW at h
 refine pf Tryd.func48 Tryd.ntmps48 ?_
 refine sg fun K k => ?_
 iterate 2 refine oo ?_
 refine AOps.nil (k _ ?_)
 refine AWp.seq fun _ K_1 => ?_
 refine sg fun K k => ?_
 iterate 2 refine oo ?_
 refine AOps.nil (k _ ?_)
 refine cd h (fun h => ?_) (fun h => ?_)
 ·refine sg fun K k => ?_
  iterate 2 refine oo ?_
  refine AOps.nil (k _ ?_)
  refine AWp.ret ?_
  cases h; exact rt
 ·refine AWp.skip ?_
  refine K_1 _ ?_
  refine sg fun K k => ?_
  iterate 3 refine oo ?_
  refine AOps.nil (k _ ?_)
  refine AWp.ret ?_
  cases h; exact rt
end Go.Pv.Tryd

namespace Go.Pv.Tryd
open Go.Proofs Go.Pv
theorem wm0 (k1 : Int) (t1 : (List Rule)) (r : ((List Int) × Int)) (h : wfB k1 t1 = some r) : PureFn Tryd.prog G 21 [.d (.int .i64 k1), .d (.imm 2 (wab Rule.pd t1))] (.tuple [.d (.imm 1 (wab (PD.int .i64) r.1)), .d (.int .i64 r.2)]) := by
 unfold wfB at h
 refine pf Tryd.func21 Tryd.ntmps21 ?_
 refine sg fun K k => ?_
 iterate 2 refine oo ?_
 refine AOps.nil (k _ ?_)
 refine AWp.seq fun _ K_1 => ?_
 refine sg fun K k => ?_
 iterate 2 refine oo ?_
 refine ol ?_
 obtain ⟨r1, hx_2, h⟩ := bind_some h
 refine cl (wee k1 [t1] _ hx_2) ?_
 refine oo ?_
 refine AOps.nil (k _ ?_)
 refine sg fun K k => ?_
 iterate 2 refine oo ?_
 refine AOps.nil (k _ ?_)
 refine cd h (fun h => ?_) (fun h => ?_)
 ·refine sg fun K k => ?_
  iterate 3 refine oo ?_
  refine AOps.nil (k _ ?_)
  refine AWp.ret ?_
  cases h; exact rt
 ·refine AWp.skip ?_
  refine K_1 _ ?_
  refine sg fun K k => ?_
  iterate 3 refine oo ?_
  refine AOps.sub (τ := ⟨[(16, .d (.agg [(.int .i64 k1), (.imm 2 (wab Rule.pd t1)), (.imm 2 (wab Rule.pd []))]))], [], [], none⟩) sc ?_
  obtain ⟨r2, hx_4, h⟩ := bind_some h
  refine clC (whs (⟨k1, t1, []⟩ : Walker) _ hx_4) ?_
  iterate 2 refine oo ?_
  obtain ⟨r3, hx_5, h⟩ := bind_some h
  refine cl (wlq r2.1 r2.2 _ hx_5) ?_
  iterate 4 refine oo ?_
  refine AOps.nil (k _ ?_)
  refine AWp.ret ?_
  cases h; exact rt
end Go.Pv.Tryd

namespace Go.Pv.Tryd
open Go.Proofs Go.Pv
theorem whB (o1 : Builder) (a1 : Int) (r : (Int × Builder)) (h : wcu o1 a1 = some r) : ObjFn Tryd.prog G 88 [.ptr 0 0 0, .d (.int .u32 a1)] [(0, ⟨92, 5, [.agg [.d (.int .i64 o1.k), .d (.imm 2 (wab Rule.pd o1.rules)), .mp 1, .mp 2, .slc 1003 0 o1.nodes.length]]⟩), (1, ⟨89, 0, wap Arr3_Int.pd (PD.int .i64) o1.known⟩), (2, ⟨90, 0, wap PD.str (PD.int .i64) o1.same⟩), (1003, ⟨37, 3, dl (wab Node.pd o1.nodes)⟩)] (.d (.int .i64 r.1)) [(0, ⟨92, 5, [.agg [.d (.int .i64 r.2.k), .d (.imm 2 (wab Rule.pd r.2.rules)), .mp 1, .mp 2, .slc 1003 0 r.2.nodes.length]]⟩), (1, ⟨89, 0, wap Arr3_Int.pd (PD.int .i64) r.2.known⟩), (2, ⟨90, 0, wap PD.str (PD.int .i64) r.2.same⟩), (1003, ⟨37, 3, dl (wab Node.pd r.2.nodes)⟩)] := by
 unfold wcu at h
 refine ObjFn.pf Tryd.func88 Tryd.ntmps88 ?_
 refine sg fun K k => ?_
 refine oo ?_
 refine AOps.nil (k _ ?_)
 refine sg fun K k => ?_
 refine oo ?_
 obtain ⟨r1, hx_1, h⟩ := bind_some h
 refine cl (wce a1 _ hx_1) ?_
 refine oo ?_
 refine AOps.nil (k _ ?_)
 refine AWp.seq fun _ K_2 => ?_
 refine sg fun K k => ?_
 iterate 2 refine oo ?_
 refine AOps.nil (k _ ?_)
 refine cd h (fun h => ?_) (fun h => ?_)
 ·refine sg fun K k => ?_
  refine oo ?_
  refine AOps.nil (k _ ?_)
  refine AWp.ret ?_
  cases h; exact rtO
 ·refine AWp.skip ?_
  refine K_2 _ ?_
  refine sg fun K k => ?_
  obtain ⟨e1, ⟨f_4, f_5, f_6, f_7⟩, h⟩ := wak h
  iterate 7 refine oo ?_
  refine oo ?_ (by intro K k; simp (disch := omega) only [go_sem, f_6, ↓reduceIte]; exact k)
  iterate 2 refine oo ?_
  refine AOps.nil (k _ ?_)
  refine AWp.ret ?_
  cases h; exact rtO
end Go.Pv.Tryd

namespace Go.Pv.Tryd
open Go.Proofs Go.Pv
theorem wk1 (ends1 : (List Int)) (to1 : (List Int)) (r : ((List Int) × (List Int))) (h : wer ends1 to1 = some r) : PureFn Tryd.prog G 89 [.d (.imm 1 (wab (PD.int .i64) ends1)), .d (.imm 1 (wab (PD.int .i64) to1))] (.tuple [.d (.imm 1 (wab (PD.int .i64) r.1)), .d (.imm 1 (wab (PD.int .i64) r.2))]) := by
 unfold wer at h
 refine pf Tryd.func89 Tryd.ntmps89 ?_
 refine sg fun K k => ?_
 iterate 2 refine oo ?_
 refine AOps.nil (k _ ?_)
 refine sg fun K k => ?_
 iterate 2 refine oo ?_
 refine AOps.nil (k _ ?_)
 refine AWp.sub (Sub.void 6 3 1 1000 (by rfl) (by rfl) (by decide) (by decide)) ?_
 simp only [wcK, waj, reduceCtorEq, ↓reduceIte, Nat.reduceAdd, Nat.reduceMul, Nat.reduceLT, Nat.reduceLeDiff, Nat.reduceEqDiff, Nat.reduceBEq, Int.reduceToNat]
 refine AWp.sub (Sub.void 7 3 1 1001 (by rfl) (by rfl) (by decide) (by decide)) ?_
 simp only [wcK, waj, reduceCtorEq, ↓reduceIte, Nat.reduceAdd, Nat.reduceMul, Nat.reduceLT, Nat.reduceLeDiff, Nat.reduceEqDiff, Nat.reduceBEq, Int.reduceToNat]
 refine jn (α := ((List Int) × (List Int))) [] [] (fun i t => (6, .slc 1000 0 i.1.length) :: (7, .slc 1001 0 i.2.length) :: t) (fun i t => (1000, ⟨3, 1, dl (wab (PD.int .i64) i.1)⟩) :: (1001, ⟨3, 1, dl (wab (PD.int .i64) i.2)⟩) :: t) h ?_ ?_
 ·intro _ hj_2
  refine sg fun K k => ?_
  iterate 3 refine oo ?_
  refine AOps.nil (k _ ?_)
  refine AWp.block ?_
  obtain ⟨x_7, hl_4, h2_5⟩ := bind_some hj_2
  refine lp (S := (Int × (List Int) × (List Int))) [0, 11, 12] [] (fun i t => (6, .slc 1000 0 i.2.1.length) :: (7, .slc 1001 0 i.2.2.length) :: (13, .d (.int .i64 i.1)) :: t) (fun i t => (1000, ⟨3, 1, dl (wab (PD.int .i64) i.2.1)⟩) :: (1001, ⟨3, 1, dl (wab (PD.int .i64) i.2.2)⟩) :: t) hl_4 ?_ ?_; exact sb; clear hl_4
  rintro ⟨v1, L3, L4⟩ _ hb_6; unfold weq at hb_6; try dsimp only at hb_6
  try dsimp only
  refine sg fun K k => ?_
  refine oo ?_
  refine AOps.nil (k _ ?_)
  refine AWp.seq fun _ K_9 => ?_
  refine cd hb_6 (fun hb_6 => ?_) (fun hb_6 => ?_)
  ·refine AWp.skip ?_
   refine K_9 _ ?_
   refine jn (α := ((List Int) × (List Int))) [0, 11, 12, 13] [] (fun i t => (6, .slc 1000 0 i.1.length) :: (7, .slc 1001 0 i.2.length) :: t) (fun i t => (1000, ⟨3, 1, dl (wab (PD.int .i64) i.1)⟩) :: (1001, ⟨3, 1, dl (wab (PD.int .i64) i.2)⟩) :: t) hb_6 ?_ ?_
   ·intro _ hj_12
    refine AWp.block ?_
    refine sg fun K k => ?_
    obtain ⟨e1, ⟨f_13, f_14, f_15, f_16⟩, hj_12⟩ := wak hj_12
    iterate 2 refine oo ?_
    refine oo ?_ (by intro K k; simp (disch := omega) only [go_sem, f_15, ↓reduceIte]; exact k)
    iterate 2 refine oo ?_
    refine AOps.nil (k _ ?_)
    refine AWp.seq fun _ K_17 => ?_
    refine sg fun K k => ?_
    iterate 3 refine oo ?_
    refine AOps.nil (k _ ?_)
    refine sg fun K k => ?_
    iterate 3 refine oo ?_
    obtain ⟨b1, hc_18, hj_12⟩ := bind_some hj_12
    refine ct 8 [0, 6, 7, 8, 9, 10, 11, 12, 13] [1000, 1001] (fun  t => (30, .d (.bool b1)) :: t) ?_ ?_
    ·rcases bt (decide (0 < (L4.length : Int))) with hg_23 | hg_23
     ·rw [hg_23]
      rw [hg_23, cond_true] at hc_18
      obtain ⟨e2, ⟨f_19, f_20, f_21, f_22⟩, hc_18⟩ := wak hc_18
      try simp only [Int.toNat_natCast] at f_21 f_22
      iterate 4 refine oo ?_
      refine oo ?_ (by intro K k; simp (disch := omega) only [go_sem, f_21, Int.toNat_natCast, ↓reduceIte]; exact k)
      iterate 3 refine oo ?_
      refine AOps.nil ?_
      cases hc_18
      exact sb
     ·rw [hg_23]
      rw [hg_23, cond_false] at hc_18
      iterate 8 refine oo ?_
      refine AOps.nil ?_
      cases hc_18
      exact sb
    refine AOps.nil (k _ ?_)
    refine cd hj_12 (fun hj_12 => ?_) (fun hj_12 => ?_)
    ·refine sg fun K k => ?_
     obtain ⟨e3, ⟨f_25, f_26, f_27, f_28⟩, hj_12⟩ := wak hj_12
     iterate 6 refine oo ?_
     refine oo ?_ (by intro K k; simp (disch := omega) only [go_sem, f_27, ↓reduceIte]; exact k)
     obtain ⟨e4, ⟨f_29, f_30, f_31, f_32⟩, hj_12⟩ := wak hj_12
     try simp only [Int.toNat_natCast] at f_31 f_32
     refine oo ?_
     refine oo ?_ (by intro K k; simp (disch := omega) only [go_sem, f_31, Int.toNat_natCast, ↓reduceIte]; exact k)
     refine AOps.nil (k _ ?_)
     refine AWp.exit ?_
     cases hj_12; exact sb
    ·refine AWp.skip ?_
     refine K_17 _ ?_
     refine AWp.reg ?_
     obtain ⟨e5, ⟨f_33, f_34, f_35, f_36⟩, hj_12⟩ := wak hj_12
     iterate 4 refine oo ?_
     refine oo ?_ (by intro K k; simp (disch := omega) only [go_sem, f_35, ↓reduceIte]; exact k)
     refine ol ?_
     obtain ⟨hg_37, hj_12⟩ := wae hj_12
     iterate 3 refine oo ?_
     refine ol ?_
     obtain ⟨hg_38, hj_12⟩ := wae hj_12
     iterate 3 refine oo ?_
     refine AOps.nil ?_
     cases hj_12; exact sb
   ·rintro ⟨L5, L6⟩ hb_6; dsimp only at hb_6 ⊢
    refine AWp.reg ?_
    iterate 2 refine oo ?_
    refine AOps.nil ?_
    exact ln hb_6 sb
  ·refine AWp.exit ?_
   refine lx hb_6 fun hx => ?_; cases hx; try dsimp only at h2_5
   cases h2_5; exact sb
 ·rintro ⟨L1, L2⟩ h; dsimp only at h ⊢
  refine sg fun K k => ?_
  iterate 4 refine oo ?_
  refine AOps.nil (k _ ?_)
  refine AWp.ret ?_
  cases h; exact rt
end Go.Pv.Tryd

namespace Go.Proofs
open Go.Shelf
def Tryd.laysM171_ren : Go.Shelf.Ren := ⟨fun | 171 => 110 | 243 => 117 | 246 => 130 | 283 => 137 | 284 => 138 | 285 => 139 | 286 => 140 | 129 => 128 | 317 => 142 | 318 => 143 | 319 => 144 | 320 => 145 | 337 => 146 | 338 => 147 | n => n, fun | 3 => 3 | 9 => 9 | 2 => 2 | 4 => 4 | 171 => 180 | 0 => 0 | 53 => 170 | 37 => 52 | 5 => 5 | 173 => 182 | 212 => 188 | 51 => 94 | 20 => 20 | 213 => 189 | 46 => 159 | 232 => 190 | 233 => 191 | n => n, fun | 17 => 0 | 18 => 1 | 19 => 2 | n => n⟩
theorem Tryd.laysM171 : Go.Proofs.LaysM.n171 Tryd.prog Tryd.laysM171_ren := {
 mixed := by kernel_rfl
 f129 := Tryd.func128.trans (congrArg some (by kernel_rfl))
 f171 := Tryd.func110.trans (congrArg some (by kernel_rfl))
 f243 := Tryd.func117.trans (congrArg some (by kernel_rfl))
 f246 := Tryd.func130.trans (congrArg some (by kernel_rfl))
 f283 := Tryd.func137.trans (congrArg some (by kernel_rfl))
 f284 := Tryd.func138.trans (congrArg some (by kernel_rfl))
 f285 := Tryd.func139.trans (congrArg some (by kernel_rfl))
 f286 := Tryd.func140.trans (congrArg some (by kernel_rfl))
 f317 := Tryd.func142.trans (congrArg some (by kernel_rfl))
 f318 := Tryd.func143.trans (congrArg some (by kernel_rfl))
 f319 := Tryd.func144.trans (congrArg some (by kernel_rfl))
 f320 := Tryd.func145.trans (congrArg some (by kernel_rfl))
 f337 := Tryd.func146.trans (congrArg some (by kernel_rfl))
 f338 := Tryd.func147.trans (congrArg some (by kernel_rfl))
 t0 := Tryd.underlying0
 a0 := Tryd.isAgg0
 z0 := Tryd.sizeOf0
 v0 := Tryd.zeroValue0
 t2 := Tryd.underlying2
 a2 := Tryd.isAgg2
 z2 := Tryd.sizeOf2
 v2 := Tryd.zeroValue2
 t3 := Tryd.underlying3
 a3 := Tryd.isAgg3
 z3 := Tryd.sizeOf3
 v3 := Tryd.zeroValue3
 t4 := Tryd.underlying4
 a4 := Tryd.isAgg4
 z4 := Tryd.sizeOf4
 v4 := Tryd.zeroValue4
 t5 := Tryd.underlying5
 a5 := Tryd.isAgg5
 z5 := Tryd.sizeOf5
 v5 := Tryd.zeroValue5
 t9 := Tryd.underlying9
 a9 := Tryd.isAgg9
 z9 := Tryd.sizeOf9
 v9 := Tryd.zeroValue9
 t20 := Tryd.underlying20
 a20 := Tryd.isAgg20
 z20 := Tryd.sizeOf20
 v20 := Tryd.zeroValue20
 t37 := Tryd.underlying52
 a37 := Tryd.isAgg52
 z37 := Tryd.sizeOf52
 v37 := Tryd.zeroValue52
 t46 := Tryd.underlying159
 a46 := Tryd.isAgg159
 z46 := Tryd.sizeOf159
 v46 := Tryd.zeroValue159
 t51 := Tryd.underlying94
 a51 := Tryd.isAgg94
 z51 := Tryd.sizeOf94
 v51 := Tryd.zeroValue94
 t53 := Tryd.underlying170
 a53 := Tryd.isAgg170
 z53 := Tryd.sizeOf170
 v53 := Tryd.zeroValue170
 t171 := Tryd.underlying180
 a171 := Tryd.isAgg180
 z171 := Tryd.sizeOf180
 v171 := Tryd.zeroValue180
 t173 := Tryd.underlying182
 a173 := Tryd.isAgg182
 z173 := Tryd.sizeOf182
 v173 := Tryd.zeroValue182
 t212 := Tryd.underlying188
 a212 := Tryd.isAgg188
 z212 := Tryd.sizeOf188
 v212 := Tryd.zeroValue188
 t213 := Tryd.underlying189
 a213 := Tryd.isAgg189
 z213 := Tryd.sizeOf189
 t232 := Tryd.underlying190
 a232 := Tryd.isAgg190
 z232 := Tryd.sizeOf190
 v232 := Tryd.zeroValue190
 t233 := Tryd.underlying191
 a233 := Tryd.isAgg191
 z233 := Tryd.sizeOf191
 v233 := Tryd.zeroValue191
 g17 := by kernel_rfl
 g18 := by kernel_rfl
 g19 := by kernel_rfl
 i0 := by kernel_rfl
 i2 := by kernel_rfl
 i3 := by kernel_rfl
 i4 := by kernel_rfl
 i5 := by kernel_rfl
 i9 := by kernel_rfl
 i20 := by kernel_rfl
 i37 := by kernel_rfl
 i46 := by kernel_rfl
 i51 := by kernel_rfl
 i53 := by kernel_rfl
 i171 := by kernel_rfl
 i173 := by kernel_rfl
 i212 := by kernel_rfl
 i232 := by kernel_rfl
 i233 := by kernel_rfl
 m17 := by kernel_rfl
 m18 := by kernel_rfl
 m19 := by kernel_rfl }
open Go.RowKit Go.Sort Go.Lib in
theorem Tryd.strconv_Itoa (n : Int) (h0 : -9223372036854775808 ≤ n) (h1 : n ≤ 9223372036854775807) (w : World) (htab : Lib.TabIs Tryd.prog w "internal/strconv.uint64pow10" .u64 Lib.pow10Tab) :
  Calls Tryd.prog 110 #[.int .i64 n] w fun e w' => e = .returned (.string ⟨(Lib.itoa n).toArray⟩) ∧ ∃ k os, w' = grow (w.drewN k) os := Any.strconv_Itoa Tryd.laysM171 n h0 h1 w htab
end Go.Proofs

namespace Go.Pv.Tryd
open Go.Proofs Go.Pv
theorem wpr (w : World) (v : Value) : (callFunc 129 #[v]).run Tryd.prog w = .ok (.value v) w := by
 rw [run_callFunc_extern Tryd.func129 (by kernel_rfl) (by kernel_rfl) (by kernel_rfl) (e := Extern.AbiNoEscape.same) (by kernel_rfl)]
 rfl
theorem wqi : ∃ j, Tryd.prog.info? 148 = some j ∧ j.size = 2 := by
 have h : (Tryd.prog.info? 148).map (·.size) = some 2 := by kernel_rfl
 simpa [Option.map_eq_some_iff] using h
theorem wqS (L : List Int) : ObjFn Tryd.prog G 116 [.ptr 0 0 0] [(0, ⟨148, 2, [.agg [.d .nilptr, .slc 1 0 L.length]]⟩), (1, ⟨5, 1, dl (wab (PD.int .u8) L)⟩)] (.tuple []) [(0, ⟨148, 2, [.agg [.ptr 0 0 0, .slc 1 0 L.length]]⟩), (1, ⟨5, 1, dl (wab (PD.int .u8) L)⟩)] := by
 obtain ⟨j, hj, hjs⟩ := wqi
 refine ObjFn.pf Tryd.func116 Tryd.ntmps116 ?_
 refine AWp.seq fun _ K_1 => ?_
 refine AWp.reg ?_
 iterate 5 refine oo ?_
 refine AOps.nil ?_
 refine K_1 _ ?_
 refine cdt ?_
 refine AWp.reg ?_
 iterate 2 refine oo ?_
 refine on (fun K' hK' => OpT.toUnsafe (t := 148) (r := 0) rfl (by kernel_rfl) (by kernel_rfl) hj (by omega) (by rfl) (by rfl) (by exact Nat.one_pos) (by decide) (hK' _ ?_))
 refine on (fun K' hK' => OpT.noEscape rfl rfl rfl wpr (by decide) (hK' _ ?_))
 refine on (fun K' hK' => OpT.fromUnsafe (u := 148) (r := 0) rfl (by kernel_rfl) (by kernel_rfl) hj (by rfl) (by rfl) (by exact Nat.one_pos) rfl (by kernel_rfl) (by decide) (hK' _ ?_))
 iterate 3 refine oo ?_
 refine AOps.nil ?_
 exact rtO
theorem wqT (L : List Int) : ObjFn Tryd.prog G 116 [.ptr 0 0 0] [(0, ⟨148, 2, [.agg [.ptr 0 0 0, .slc 1 0 L.length]]⟩), (1, ⟨5, 1, dl (wab (PD.int .u8) L)⟩)] (.tuple []) [(0, ⟨148, 2, [.agg [.ptr 0 0 0, .slc 1 0 L.length]]⟩), (1, ⟨5, 1, dl (wab (PD.int .u8) L)⟩)] := by
 obtain ⟨j, hj, hjs⟩ := wqi
 refine ObjFn.pf Tryd.func116 Tryd.ntmps116 ?_
 refine AWp.seq fun _ K_1 => ?_
 refine AWp.reg ?_
 iterate 5 refine oo ?_
 refine AOps.nil ?_
 refine K_1 _ ?_
 refine cdf ?_
 refine AWp.seq fun _ K_2 => ?_
 refine AWp.reg ?_
 iterate 5 refine oo ?_
 refine on (fun K' hK' => OpT.neqSame (te := 148) (r := 0) (i := 0) (off := 0) rfl (by kernel_rfl) hj (by rfl) (by rfl) (by decide) (hK' _ ?_))
 refine AOps.nil ?_
 refine K_2 _ ?_
 refine cdf ?_
 refine AWp.skip ?_
 exact rtO
theorem wn6 (b : Bool) (L : List Int) : ObjFn Tryd.prog G 116 [.ptr 0 0 0] [(0, ⟨148, 2, [.agg [wdl b 0, .slc 1 0 L.length]]⟩), (1, ⟨5, 1, dl (wab (PD.int .u8) L)⟩)] (.tuple []) [(0, ⟨148, 2, [.agg [.ptr 0 0 0, .slc 1 0 L.length]]⟩), (1, ⟨5, 1, dl (wab (PD.int .u8) L)⟩)] := by
 cases b
 ·exact wqS L
 ·exact wqT L
theorem wru (o : StringsBuilder) (s : ByteArray) (r : StringsBuilder) (h : wmF o s = some r) : ObjFn Tryd.prog G 109 [.ptr 0 0 0, .d (.str s)] [(0, ⟨148, 2, [.agg [wdl o.addr 0, .slc 1001 0 o.buf.length]]⟩), (1001, ⟨5, 1, dl (wab (PD.int .u8) o.buf)⟩)]
  (.tuple [.d (.int .i64 s.size), .d .niliface]) [(0, ⟨148, 2, [.agg [.ptr 0 0 0, .slc 1001 0 r.buf.length]]⟩), (1001, ⟨5, 1, dl (wab (PD.int .u8) r.buf)⟩)] := by
 unfold wmF at h
 obtain ⟨hg, h⟩ := wae h
 refine ObjFn.pf Tryd.func109 Tryd.ntmps109 ?_
 refine sg fun K k => ?_
 iterate 2 refine oo ?_
 refine AOps.nil (k _ ?_)
 refine sg fun K k => ?_
 refine oo ?_
 refine clU [(0, 0), (1, 1001)] [] (wn6 o.addr o.buf) ?_
 refine AOps.nil (k _ ?_)
 refine sg fun K k => ?_
 iterate 6 refine oo ?_
 refine on (fun K' hK' => OpT.appendStr (r := 1001) (str := s) (row := ⟨5, 1, dl (wab (PD.int .u8) o.buf)⟩) rfl ty52 T52_desc (by kernel_rfl) ty5 (by kernel_rfl) (by kernel_rfl) (by kernel_rfl) (by rfl) (by rfl) (by simp only [go_sem]) rfl rfl (by decide) (by rfl) (by omega) (by decide) (hK' _ ?_))
 simp only [go_sem, ↓reduceIte]
 iterate 3 refine oo ?_
 refine AOps.nil (k _ ?_)
 refine sg fun K k => ?_
 iterate 4 refine oo ?_
 refine AOps.nil (k _ ?_)
 refine AWp.ret ?_
 cases h
 have e1 : (o.buf ++ wbY s).length = o.buf.length + s.size := by rw [List.length_append, wek]
 dsimp only
 rw [e1]
 exact rtO
theorem wom (o : StringsBuilder) (c : Int) (r : StringsBuilder) (h : whJ o c = some r) : ObjFn Tryd.prog G 111 [.ptr 0 0 0, .d (.int .u8 c)] [(0, ⟨148, 2, [.agg [wdl o.addr 0, .slc 1001 0 o.buf.length]]⟩), (1001, ⟨5, 1, dl (wab (PD.int .u8) o.buf)⟩)]
  (.d .niliface) [(0, ⟨148, 2, [.agg [.ptr 0 0 0, .slc 1001 0 r.buf.length]]⟩), (1001, ⟨5, 1, dl (wab (PD.int .u8) r.buf)⟩)] := by
 unfold whJ at h
 obtain ⟨hg, h⟩ := wae h
 refine ObjFn.pf Tryd.func111 Tryd.ntmps111 ?_
 refine sg fun K k => ?_
 iterate 1 refine oo ?_
 refine AOps.nil (k _ ?_)
 refine sg fun K k => ?_
 refine oo ?_
 refine clU [(0, 0), (1, 1001)] [] (wn6 o.addr o.buf) ?_
 refine AOps.nil (k _ ?_)
 refine sg fun K k => ?_
 iterate 6 refine oo ?_
 refine ol ?_
 iterate 4 refine oo ?_
 refine AOps.nil (k _ ?_)
 refine sg fun K k => ?_
 iterate 1 refine oo ?_
 refine AOps.nil (k _ ?_)
 refine AWp.ret ?_
 cases h
 exact rtO
theorem wqU (o : StringsBuilder) (r : ByteArray) (h : wgZ o = some r) (q : PV) (hq : clean q) (hq2 : refsIn [(0, (⟨148, 2, [.agg [q, .slc 1 0 o.buf.length]]⟩ : Row)), (1, (⟨5, 1, dl (wab (PD.int .u8) o.buf)⟩ : Row))] q) : ObjFn Tryd.prog G 112 [.ptr 0 0 0] [(0, ⟨148, 2, [.agg [q, .slc 1 0 o.buf.length]]⟩), (1, ⟨5, 1, dl (wab (PD.int .u8) o.buf)⟩)]
  (.d (.str r)) [(0, ⟨148, 2, [.agg [q, .slc 1 0 o.buf.length]]⟩), (1, ⟨5, 1, dl (wab (PD.int .u8) o.buf)⟩)] := by
 unfold wgZ at h
 obtain ⟨⟨hg, hg2⟩, h⟩ := wae h
 cases h
 have hl0 : o.buf.length ≠ 0 := by simpa using hg2
 refine ObjFn.pf Tryd.func112 Tryd.ntmps112 (hrh := ⟨⟨⟨hq2, ⟨rfl, trivial⟩⟩, trivial⟩, wfz _ _, trivial⟩) ?_
 refine sg fun K k => ?_
 refine oo ?_
 refine AOps.nil (k _ ?_)
 refine sd mo fun K k => ?_
 iterate 4 refine dd ?_
 refine dap rfl (by intro K k; refine OpX.sliceData (r := 1) (n := o.buf.length) rfl rfl rfl (by rfl) hl0 (by decide) (by rw [wk6]; trivial) ?_; exact k) ?_
 simp only [go_sem, ↓reduceIte]
 iterate 5 refine dd ?_
 refine dap rfl (by intro K k; refine OpX.mkStr (r := 1) (s := ofI o.buf) rfl rfl rfl rfl (by kernel_rfl) (by kernel_rfl) (by rfl) (by rw [wo3]; rfl) (by rw [wqH hg]; rfl) (by rw [wo3]; exact hl0) (by decide) (by rw [wk6]; trivial) ?_; exact k) ?_
 simp only [go_sem, ↓reduceIte]
 refine dd ?_
 refine DOps.nil (by kernel_rfl) (k _ ?_)
 refine AWp.ret ?_
 exact rtO
theorem wlN (o : StringsBuilder) (r : ByteArray) (h : wgZ o = some r) : ObjFn Tryd.prog G 112 [.ptr 0 0 0] [(0, ⟨148, 2, [.agg [wdl o.addr 0, .slc 1 0 o.buf.length]]⟩), (1, ⟨5, 1, dl (wab (PD.int .u8) o.buf)⟩)]
  (.d (.str r)) [(0, ⟨148, 2, [.agg [wdl o.addr 0, .slc 1 0 o.buf.length]]⟩), (1, ⟨5, 1, dl (wab (PD.int .u8) o.buf)⟩)] :=
 wqU o r h _ (by rw [optP_clean]; trivial) (by rw [optP_refs rfl]; trivial)
theorem wsO {B : Base Tryd.prog} {w : World} {φ : Nm} {H : wac} {g : Gh} (hs : Sit G B w φ H g) : Lib.TabIs Tryd.prog w "internal/strconv.uint64pow10" .u64 Lib.pow10Tab := by
 obtain ⟨c, e, f, v, h1, h2, h3, h4, h5, h6⟩ := hs.glob wo4 (.agg (Lib.pow10Tab.map (PD.int .u64))) (by simp [G])
 have hg : Tryd.prog.globalNamed "internal/strconv.uint64pow10" = some wo4 := by kernel_rfl
 unfold Lib.TabIs World.var?
 rw [hg, Option.bind_some, h1]
 simp only [Option.some.injEq]
 cases h3 with
 | @agg vs _ hsz h hf =>
  have hl : vs.size = Lib.pow10Tab.length := by simpa using hsz
  have e0 : (Value.agg vs).cells = vs := rfl
  rw [e0] at h4 h5
  refine Array.ext (by simp; omega) fun j hj1 hj2 => ?_
  have hj : j < Lib.pow10Tab.length := by omega
  have hj' : j < vs.size := by omega
  have a1 := h j (by simpa using hj)
  simp only [List.getElem_map] at a1
  have a2 := wjj a1
  have a3 := (h5 j hj').1
  rw [a2, Array.getElem?_eq_getElem hj1] at a3
  simp only [Option.some.injEq] at a3
  rw [a3]; simp
theorem wsv (n : Int) (r : ByteArray) (h : wmG n = some r) : PureFn Tryd.prog G 110 [.d (.int .i64 n)] (.d (.str r)) := by
 unfold wmG at h
 obtain ⟨⟨hg1, hg2⟩, h⟩ := wae h
 cases h
 intro B φ vs h0 h1 h2 h3
 obtain ⟨v, rfl⟩ : ∃ v, vs = [v] := by
  match vs, h1 with
  | [v], _ => exact ⟨v, rfl⟩
 have hv : RepV B.w0 B.X φ [] v (.d (.int .i64 n)) := h2 0 (by simp)
 obtain rfl := wbr hv
 have hc := Tryd.strconv_Itoa n hg1 hg2 B.w0 (wsO h3)
 refine (callsIn_wide.2 hc).mono ?_
 rintro e w' ⟨rfl, k, os, rfl⟩
 refine ⟨_, _, [], none, φ, rfl, ⟨rfl, rfl⟩, .d (.str _), ?_⟩
 exact Sit.more h0 h3 (by simp [Sort.grow]) (fun b hb => wnP (B.w0.drewN k) os hb) rfl rfl rfl
end Go.Pv.Tryd

