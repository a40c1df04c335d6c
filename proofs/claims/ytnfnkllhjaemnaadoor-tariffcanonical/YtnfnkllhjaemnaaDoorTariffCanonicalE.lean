/- TariffCanonical answers true for every input, as its tied card says: under the conditions of the card (Rows, Cards, Tie), no more. Part 5 of 7: by one AI agent and its programs; no person has read it. -/
import Derived.Test.YtnfnkllhjaemnaaDoorTariffCanonicalA
import Derived.Test.YtnfnkllhjaemnaaDoorTariffCanonicalB
import Derived.Test.YtnfnkllhjaemnaaDoorTariffCanonicalC
import Derived.Test.YtnfnkllhjaemnaaDoorTariffCanonicalD
import Derived.Lib.ItoaLen
set_option linter.unusedSimpArgs false
set_option linter.unusedVariables false
set_option linter.all false

namespace Go.Pv
def wdm : Option (List Rule) :=
 some [(⟨[(⟨0, 10⟩ : Band)], 1⟩ : Rule), (⟨[(⟨5, 20⟩ : Band)], 2⟩ : Rule), (⟨[(⟨0, 20⟩ : Band)], 3⟩ : Rule)]
def whe (k1 : Int) : Option Bool :=
 some ((decide (1 ≤ k1)) && (decide (k1 ≤ 4)))
def wgK (b1 : Band) : Option Bool :=
 some (((decide (b1.Lo < 0)) || (decide (b1.Hi ≤ b1.Lo))) || (decide (1000 < b1.Hi)))
def wc7 (s1 : (List Band)) : Int → Option (Int ⊕ (Unit ⊕ Int)) := fun v1 =>
 cond (decide (v1 < (s1.length : Int)))
  (
  (idx s1 v1).bind fun e1 =>
  (wgK e1).bind fun r1 =>
  cond r1
   (
   some (.inr (.inr v1))
   )
   (
   some (.inl (IntKind.i64.wrap (v1 + 1)))
   )
  )
  (
  some (.inr (.inl ()))
  )
def wdH (s1 : (List Band)) : Option Int :=
 (
 (
  (
  (wek (wc7 s1) 0).bind fun x_7 => match x_7 with
    | (.inl y1) => some (.inl y1)
    | (.inr y2) => some (.inr y2)
  )
  : Option (Unit ⊕ Int)).bind fun o_1 => match o_1 with
   | (.inl _) =>
     some (-1)
   | (.inr y3) => some y3
 )
def wc8 (s1 : (List Band)) : Option Bool :=
 (wdH s1).bind fun r1 =>
 some (decide (0 ≤ r1))
def whR (k1 : Int) (r1 : Rule) : Option Bool :=
 ((cond (((decide ((r1.Bands.length : Int) = k1)) && (decide (0 ≤ r1.Code))) && (decide (r1.Code ≤ 99)))
  (
   (wc8 r1.Bands).bind fun r2 =>
   some (!r2)
  )
  (some false)
 ) : Option Bool).bind fun b1 =>
 some b1
def wfa (r1 : Rule) (k1 : Int) : Option Bool :=
 (whR k1 r1).bind fun r2 =>
 some (!r2)
def wdu (s1 : (List Rule)) (f1 : Int) : Int → Option (Int ⊕ (Unit ⊕ Int)) := fun v1 =>
 cond (decide (v1 < (s1.length : Int)))
  (
  (idx s1 v1).bind fun e1 =>
  (wfa e1 f1).bind fun r1 =>
  cond r1
   (
   some (.inr (.inr v1))
   )
   (
   some (.inl (IntKind.i64.wrap (v1 + 1)))
   )
  )
  (
  some (.inr (.inl ()))
  )
def wd4 (s1 : (List Rule)) (f1 : Int) : Option Int :=
 (
 (
  (
  (wek (wdu s1 f1) 0).bind fun x_7 => match x_7 with
    | (.inl y1) => some (.inl y1)
    | (.inr y2) => some (.inr y2)
  )
  : Option (Unit ⊕ Int)).bind fun o_1 => match o_1 with
   | (.inl _) =>
     some (-1)
   | (.inr y3) => some y3
 )
def wdv (s1 : (List Rule)) (f1 : Int) : Option Bool :=
 (wd4 s1 f1).bind fun r1 =>
 some (decide (0 ≤ r1))
def wfo (k1 : Int) (ts1 : (List (List Rule))) : Int → Option (Int ⊕ (Unit ⊕ Int)) := fun v1 =>
 cond (decide (v1 < (ts1.length : Int)))
  (
  (idx ts1 v1).bind fun e1 =>
  cond (decide (24 < (e1.length : Int)))
   (
   some (.inr (.inr 3))
   )
   (
   (wdv e1 k1).bind fun r2 =>
   cond r2
    (
    some (.inr (.inr 2))
    )
    (
    some (.inl (IntKind.i64.wrap (v1 + 1)))
    )
   )
  )
  (
  some (.inr (.inl ()))
  )
def wef (k1 : Int) (ts1 : (List (List Rule))) : Option Int :=
 (whe k1).bind fun r1 =>
 cond (!r1)
  (
  some 2
  )
  (
  (
  (
   (
   (wek (wfo k1 ts1) 0).bind fun x_10 => match x_10 with
     | (.inl y1) => some (.inl y1)
     | (.inr y2) => some (.inr y2)
   )
   : Option (Unit ⊕ Int)).bind fun o_4 => match o_4 with
    | (.inl _) =>
      some 0
    | (.inr y3) => some y3
  )
  )
def weO (t1 : (List Rule)) : Option Int :=
 wah (0 ≤ (t1.length : Int)) <|
 some (IntKind.u32.wrap ((IntKind.u32.wrap (1 * (2 ^ (min ((t1.length : Int)).toNat 32)))) - 1))
def wga (mark1 : Int) (e1 : (List Rule)) : (Int × (List Int)) → Option ((Int × (List Int)) ⊕ (List Int)) := fun (v2, L4) =>
 cond (decide (v2 < (e1.length : Int)))
  (
  (idx e1 v2).bind fun e2 =>
  (idx e2.Bands mark1).bind fun e3 =>
  wah (L4.length + [e3.Lo, e3.Hi].length ≤ 4294967296) <|
  some (.inl ((IntKind.i64.wrap (v2 + 1)), (L4 ++ [e3.Lo, e3.Hi])))
  )
  (
  some (.inr L4)
  )
def wgb (mark1 : Int) (ts1 : (List (List Rule))) : (Int × (List Int)) → Option ((Int × (List Int)) ⊕ (List Int)) := fun (v1, L2) =>
 cond (decide (v1 < (ts1.length : Int)))
  (
  (
   (idx ts1 v1).bind fun e1 =>
   (wek (wga mark1 e1) (0, L2)).bind fun x_21 =>
   some x_21
   : Option (List Int)).bind fun L3 =>
  some (.inl ((IntKind.i64.wrap (v1 + 1)), L3))
  )
  (
  some (.inr L2)
  )
def wfk (mark1 : Int) (ts1 : (List (List Rule))) : Option (List Int) :=
 (
  (wek (wgb mark1 ts1) (0, [1000])).bind fun x_7 =>
  some x_7
  : Option (List Int)).bind fun L1 =>
 wah (L1.length ≤ 4294967296) <|
 wah ((wd3 L1).length ≤ 4294967296) <|
 (
  (idx (List.take ((compactI (wd3 L1)).length) (waJ (wd3 L1))) 0).bind fun e4 =>
  cond (decide (e4 = 0))
   (
   wah (0 ≤ 1 ∧ 1 ≤ ((List.take ((compactI (wd3 L1)).length) (waJ (wd3 L1))).length : Int) ∧ ((List.take ((compactI (wd3 L1)).length) (waJ (wd3 L1))).length : Int) ≤ ((List.take ((compactI (wd3 L1)).length) (waJ (wd3 L1))).length : Int)) <|
   some (((List.take ((compactI (wd3 L1)).length) (waJ (wd3 L1))).drop 1).take ((((List.take ((compactI (wd3 L1)).length) (waJ (wd3 L1))).length : Int) : Int) - 1).toNat)
   )
   (
   some (List.take ((compactI (wd3 L1)).length) (waJ (wd3 L1)))
   )
  : Option (List Int)).bind fun out1 =>
 some out1
def wgc (t1 : (List Rule)) (mark1 : Int) (value1 : Int) : (Int × Int) → Option ((Int × Int) ⊕ Int) := fun (out2, v1) =>
 cond (decide (v1 < (t1.length : Int)))
  (
  (
   (idx t1 v1).bind fun e1 =>
   (idx e1.Bands mark1).bind fun e2 =>
   cond ((decide (e2.Lo ≤ value1)) && (decide (value1 < e2.Hi)))
    (
    wah (0 ≤ v1) <|
    some (IntKind.u32.wrap ↑(BitVec.ofInt IntKind.u32.bits out2 ||| BitVec.ofInt IntKind.u32.bits (IntKind.u32.wrap (1 * (2 ^ (min (v1).toNat 32))))).toNat)
    )
    (
    some out2
    )
   : Option Int).bind fun out3 =>
  some (.inl (out3, (IntKind.i64.wrap (v1 + 1))))
  )
  (
  some (.inr out2)
  )
def wer (t1 : (List Rule)) (mark1 : Int) (value1 : Int) : Option Int :=
 (
  (wek (wgc t1 mark1 value1) (0, 0)).bind fun x_7 =>
  some x_7
  : Option Int).bind fun out1 =>
 some out1
def weP (s1 : Int) : Int → Option (Int ⊕ (Unit ⊕ Int)) := fun v1 =>
 cond (decide (v1 < 24))
  (
  wah (0 ≤ v1) <|
  cond (decide (¬(IntKind.u32.wrap ↑(BitVec.ofInt IntKind.u32.bits s1 &&& BitVec.ofInt IntKind.u32.bits (IntKind.u32.wrap (1 * (2 ^ (min (v1).toNat 32))))).toNat) = 0))
   (
   some (.inr (.inr v1))
   )
   (
   some (.inl (IntKind.i64.wrap (v1 + 1)))
   )
  )
  (
  some (.inr (.inl ()))
  )
def wcU (s1 : Int) : Option Int :=
 (
 (
  (
  (wek (weP s1) 0).bind fun x_7 => match x_7 with
    | (.inl y1) => some (.inl y1)
    | (.inr y2) => some (.inr y2)
  )
  : Option (Unit ⊕ Int)).bind fun o_1 => match o_1 with
   | (.inl _) =>
     some (-1)
   | (.inr y3) => some y3
 )
def weB (from1 : Int) (e1 : Int) (r3 : ((List Int) × (List (Arr3_Int × (List Int))))) : (Int × (List Int)) → Option ((Int × (List Int)) ⊕ ((List (Arr3_Int × (List Int))) × (List Int))) := fun (v2, L5) =>
 cond (decide (v2 < (r3.1.length : Int)))
  (
  (idx r3.1 v2).bind fun e2 =>
  (idx L5 v2).bind fun e3 =>
  some (.inl ((IntKind.i64.wrap (v2 + 1)), (L5.set (v2).toNat (IntKind.i64.wrap (e3 + (IntKind.i64.wrap (e2 * (IntKind.i64.wrap (e1 - from1)))))))))
  )
  (
  some (.inr (r3.2, L5))
  )
def weC (mark1 : Int) (a1 : Int) (o1 : (List Rule)) (o2 : Int) (self : ((List Rule) → Int → (List (Arr3_Int × (List Int))) → Int → Int → Option ((List Int) × (List (Arr3_Int × (List Int)))))) (r1 : (List Int)) : (Int × Int × (List (Arr3_Int × (List Int))) × (List Int)) → Option ((Int × Int × (List (Arr3_Int × (List Int))) × (List Int)) ⊕ ((List (Arr3_Int × (List Int))) × (List Int))) := fun (from1, v1, M2, L2) =>
 cond (decide (v1 < (r1.length : Int)))
  (
  (
   (idx r1 v1).bind fun e1 =>
   (wer o1 mark1 from1).bind fun r2 =>
   (
    cond (decide ((IntKind.i64.wrap (mark1 + 1)) < o2))
     (
     (self o1 o2 M2 (IntKind.i64.wrap (mark1 + 1)) (IntKind.u32.wrap ↑(BitVec.ofInt IntKind.u32.bits a1 &&& BitVec.ofInt IntKind.u32.bits r2).toNat)).bind fun r3 =>
     (wek (weB from1 e1 r3) (0, L2)).bind fun x_30 =>
     some x_30
     )
     (
     (wcU (IntKind.u32.wrap ↑(BitVec.ofInt IntKind.u32.bits a1 &&& BitVec.ofInt IntKind.u32.bits r2).toNat)).bind fun r4 =>
     cond (decide (r4 < 0))
      (
      (idx L2 (o1.length : Int)).bind fun e4 =>
      some (M2, (L2.set ((o1.length : Int)).toNat (IntKind.i64.wrap (e4 + (IntKind.i64.wrap (e1 - from1))))))
      )
      (
      (idx L2 r4).bind fun e5 =>
      some (M2, (L2.set (r4).toNat (IntKind.i64.wrap (e5 + (IntKind.i64.wrap (e1 - from1))))))
      )
     )
    : Option ((List (Arr3_Int × (List Int))) × (List Int))).bind fun (M4, L4) =>
   some (e1, M4, L4)
   : Option (Int × (List (Arr3_Int × (List Int))) × (List Int))).bind fun (from2, M3, L3) =>
  some (.inl (from2, (IntKind.i64.wrap (v1 + 1)), M3, L3))
  )
  (
  some (.inr (M2, L2))
  )
def weQ (self : ((List Rule) → Int → (List (Arr3_Int × (List Int))) → Int → Int → Option ((List Int) × (List (Arr3_Int × (List Int)))))) (o1 : (List Rule)) (o2 : Int) (m1 : (List (Arr3_Int × (List Int)))) (mark1 : Int) (a1 : Int) : Option ((List Int) × (List (Arr3_Int × (List Int)))) :=
 cond ((waE (⟨mark1, (IntKind.i64.wrap a1), 0⟩ : Arr3_Int) m1).isSome)
  (
  some (((waE (⟨mark1, (IntKind.i64.wrap a1), 0⟩ : Arr3_Int) m1).getD []), m1)
  )
  (
  wah (0 ≤ (IntKind.i64.wrap ((o1.length : Int) + 1)) ∧ (IntKind.i64.wrap ((o1.length : Int) + 1)) ≤ 4294967296) <|
  (
   (wfk mark1 [o1]).bind fun r1 =>
   (wek (weC mark1 a1 o1 o2 self r1) (0, 0, m1, (List.replicate ((IntKind.i64.wrap ((o1.length : Int) + 1))).toNat (0 : Int)))).bind fun x_11 =>
   some x_11
   : Option ((List (Arr3_Int × (List Int))) × (List Int))).bind fun (M1, L1) =>
  some (L1, (wcC (⟨mark1, (IntKind.i64.wrap a1), 0⟩ : Arr3_Int) L1 M1))
  )
def wfp : Nat → (List Rule) → Int → (List (Arr3_Int × (List Int))) → Int → Int → Option ((List Int) × (List (Arr3_Int × (List Int))))
 | 0 => fun _ _ _ _ _ => none
 | n + 1 => weQ (wfp n)
def wgL (k1 : Int) (t1 : (List Rule)) : Option (List Int) :=
 (weO t1).bind fun r1 =>
 (wfp 100 t1 k1 [] 0 r1).bind fun r2 =>
 (whJ r2.1).bind fun r3 =>
 some r3
def wgd (t1 : (List Rule)) (r2 : (List Int)) : (Int × (List Int)) → Option ((Int × (List Int)) ⊕ (List Int)) := fun (v1, L2) =>
 cond (decide (v1 < ((r2.take (((t1.length : Int) : Int) - 0).toNat).length : Int)))
  (
  (
   (idx (r2.take (((t1.length : Int) : Int) - 0).toNat) v1).bind fun e1 =>
   cond (decide (e1 = 0))
    (
    wah (L2.length + [v1].length ≤ 4294967296) <|
    some (L2 ++ [v1])
    )
    (
    some L2
    )
   : Option (List Int)).bind fun L3 =>
  some (.inl ((IntKind.i64.wrap (v1 + 1)), L3))
  )
  (
  some (.inr L2)
  )
def whS (k1 : Int) (t1 : (List Rule)) : Option ((List Int) × Int) :=
 (wef k1 [t1]).bind fun r1 =>
 cond (decide (¬r1 = 0))
  (
  some ([], r1)
  )
  (
  (
   (wgL k1 t1).bind fun r2 =>
   wah (0 ≤ 0 ∧ 0 ≤ (t1.length : Int) ∧ (t1.length : Int) ≤ (r2.length : Int)) <|
   (wek (wgd t1 r2) (0, [])).bind fun x_12 =>
   some x_12
   : Option (List Int)).bind fun L1 =>
  some (L1, 0)
  )
def whf (i1 : Int) (v1 : Int) : Option Bool :=
 some (decide (i1 < 0))
def wcX (mark1 : Int) (a1 : Int) (b1 : Int) (o1 : Walker) (self : (Walker → (List (Arr3_Int × Bool)) → Int → Int → Int → Option ((List Int) × Bool × (List (Arr3_Int × Bool))))) (r4 : (List Int)) : (Int × Int × (List (Arr3_Int × Bool))) → Option ((Int × Int × (List (Arr3_Int × Bool))) ⊕ ((List (Arr3_Int × Bool)) ⊕ ((List Int) × Bool × (List (Arr3_Int × Bool))))) := fun (from1, v1, M2) =>
 cond (decide (v1 < (r4.length : Int)))
  (
  (idx r4 v1).bind fun e1 =>
  (wer o1.s mark1 from1).bind fun r5 =>
  (wer o1.t mark1 from1).bind fun r6 =>
  (self o1 M2 (IntKind.i64.wrap (mark1 + 1)) (IntKind.u32.wrap ↑(BitVec.ofInt IntKind.u32.bits a1 &&& BitVec.ofInt IntKind.u32.bits r5).toNat) (IntKind.u32.wrap ↑(BitVec.ofInt IntKind.u32.bits b1 &&& BitVec.ofInt IntKind.u32.bits r6).toNat)).bind fun r7 =>
  cond r7.2.1
   (
   wah (1 + r7.1.length ≤ 4294967296) <|
   some (.inr (.inr (([from1] ++ r7.1), true, r7.2.2)))
   )
   (
   some (.inl (e1, (IntKind.i64.wrap (v1 + 1)), r7.2.2))
   )
  )
  (
  some (.inr (.inl M2))
  )
def wc9 (self : (Walker → (List (Arr3_Int × Bool)) → Int → Int → Int → Option ((List Int) × Bool × (List (Arr3_Int × Bool))))) (o1 : Walker) (m1 : (List (Arr3_Int × Bool))) (mark1 : Int) (a1 : Int) (b1 : Int) : Option ((List Int) × Bool × (List (Arr3_Int × Bool))) :=
 cond (decide (mark1 = o1.k))
  (
  (wcU a1).bind fun r1 =>
  (wcU b1).bind fun r2 =>
  (whf r1 r2).bind fun r3 =>
  some ([], r3, m1)
  )
  (
  cond ((waE (⟨mark1, (IntKind.i64.wrap a1), (IntKind.i64.wrap b1)⟩ : Arr3_Int) m1).getD false)
   (
   some ([], false, m1)
   )
   (
   (
   (
    (wfk mark1 [o1.s, o1.t]).bind fun r4 =>
    (
    (wek (wcX mark1 a1 b1 o1 self r4) (0, 0, m1)).bind fun x_15 => match x_15 with
      | (.inl y1) => some (.inl y1)
      | (.inr y2) => some (.inr y2)
    )
    : Option ((List (Arr3_Int × Bool)) ⊕ ((List Int) × Bool × (List (Arr3_Int × Bool))))).bind fun o_8 => match o_8 with
     | (.inl M1) =>
       some ([], false, (wcC (⟨mark1, (IntKind.i64.wrap a1), (IntKind.i64.wrap b1)⟩ : Arr3_Int) true M1))
     | (.inr y3) => some y3
   )
   )
  )
def wdw : Nat → Walker → (List (Arr3_Int × Bool)) → Int → Int → Int → Option ((List Int) × Bool × (List (Arr3_Int × Bool)))
 | 0 => fun _ _ _ _ _ => none
 | n + 1 => wc9 (wdw n)
def weg (w1 : Walker) : Option ((List Int) × Bool) :=
 (weO w1.s).bind fun r1 =>
 (weO w1.t).bind fun r2 =>
 (wdw 100 w1 [] 0 r1 r2).bind fun r3 =>
 some (r3.1, r3.2.1)
def whg (l1 : (List Int)) (ok1 : Bool) : Option ((List Int) × Int) :=
 cond (!ok1)
  (
  some ([], 10)
  )
  (
  some (l1, 0)
  )
def wiy (k1 : Int) (t1 : (List Rule)) : Option ((List Int) × Int) :=
 (wef k1 [t1]).bind fun r1 =>
 cond (decide (¬r1 = 0))
  (
  some ([], r1)
  )
  (
  (weg (⟨k1, t1, []⟩ : Walker)).bind fun r2 =>
  (whg r2.1 r2.2).bind fun r3 =>
  some (r3.1, r3.2)
  )
def wel (o1 : Builder) (a1 : Int) : Option (Int × Builder) :=
 (wcU a1).bind fun r1 =>
 cond (decide (r1 < 0))
  (
  some ((-1), o1)
  )
  (
  (idx o1.rules r1).bind fun e1 =>
  some ((IntKind.i64.wrap ((-2) - e1.Code)), o1)
  )
def wfH (ends1 : (List Int)) (to1 : (List Int)) : (Int × (List Int) × (List Int)) → Option ((Int × (List Int) × (List Int)) ⊕ ((List Int) × (List Int))) := fun (v1, L3, L4) =>
 cond (decide (v1 < (to1.length : Int)))
  (
  (
   (idx to1 v1).bind fun e1 =>
   ((cond (decide (0 < (L4.length : Int)))
    (
     (idx L4 (IntKind.i64.wrap ((L4.length : Int) - 1))).bind fun e2 =>
     some (decide (e2 = e1))
    )
    (some false)
   ) : Option Bool).bind fun b1 =>
   cond b1
    (
    (idx ends1 v1).bind fun e3 =>
    (idx L3 (IntKind.i64.wrap ((L4.length : Int) - 1))).bind fun e4 =>
    some ((L3.set ((IntKind.i64.wrap ((L4.length : Int) - 1))).toNat e3), L4)
    )
    (
    (idx ends1 v1).bind fun e5 =>
    wah (L3.length + [e5].length ≤ 4294967296) <|
    wah (L4.length + [e1].length ≤ 4294967296) <|
    some ((L3 ++ [e5]), (L4 ++ [e1]))
    )
   : Option ((List Int) × (List Int))).bind fun (L5, L6) =>
  some (.inl ((IntKind.i64.wrap (v1 + 1)), L5, L6))
  )
  (
  some (.inr (L3, L4))
  )
def wgM (ends1 : (List Int)) (to1 : (List Int)) : Option ((List Int) × (List Int)) :=
 (
  (wek (wfH ends1 to1) (0, [], [])).bind fun x_7 =>
  some x_7
  : Option ((List Int) × (List Int))).bind fun (L1, L2) =>
 some (L1, L2)
def wdX (e1 : (List Int)) : (Int × Bool × (List Int)) → Option ((Int × Bool × (List Int)) ⊕ (Bool × (List Int))) := fun (v2, c5, L5) =>
 cond (decide (v2 < (e1.length : Int)))
  (
  (idx e1 v2).bind fun e2 =>
  (wrg e2).bind fun r1 =>
  wah (bsz r1 + bsz (⟨#[32]⟩ : ByteArray) ≤ 4294967296) <|
  (wlo (⟨c5, L5⟩ : StringsBuilder) (r1 ++ (⟨#[32]⟩ : ByteArray))).bind fun r2 =>
  some (.inl ((IntKind.i64.wrap (v2 + 1)), true, r2.buf))
  )
  (
  some (.inr (c5, L5))
  )
def wdY (x1 : Node) : (Int × Bool × (List Int)) → Option ((Int × Bool × (List Int)) ⊕ (Bool × (List Int))) := fun (v1, c2, L2) =>
 cond (decide (v1 < ([[x1.Mark], x1.Cuts, x1.To].length : Int)))
  (
  (
   (idx [[x1.Mark], x1.Cuts, x1.To] v1).bind fun e1 =>
   (
    (wek (wdX e1) (0, c2, L2)).bind fun x_23 =>
    some x_23
    : Option (Bool × (List Int))).bind fun (c4, L4) =>
   (wgJ (⟨c4, L4⟩ : StringsBuilder) 124).bind fun r3 =>
   some (true, r3.buf)
   : Option (Bool × (List Int))).bind fun (c3, L3) =>
  some (.inl ((IntKind.i64.wrap (v1 + 1)), c3, L3))
  )
  (
  some (.inr (c2, L2))
  )
def wem (o1 : Builder) (x1 : Node) : Option (Int × Builder) :=
 (
  (wek (wdY x1) (0, false, [])).bind fun x_7 =>
  some x_7
  : Option (Bool × (List Int))).bind fun (c1, L1) =>
 (wfP (⟨c1, L1⟩ : StringsBuilder)).bind fun r4 =>
 (
  cond (!((waE r4 o1.same).isSome))
   (
   (wfP (⟨c1, L1⟩ : StringsBuilder)).bind fun r5 =>
   wah (o1.nodes.length + [x1].length ≤ 4294967296) <|
   some ((o1.nodes.length : Int), (wcC r5 (o1.nodes.length : Int) o1.same), (o1.nodes ++ [x1]))
   )
   (
   some (((waE r4 o1.same).getD 0), o1.same, o1.nodes)
   )
  : Option (Int × (List (ByteArray × Int)) × (List Node))).bind fun (n1, M1, L6) =>
 some (n1, (⟨o1.k, o1.rules, o1.known, M1, L6⟩ : Builder))
def weh (mark1 : Int) (a1 : Int) (self : (Builder → Int → Int → Option (Int × Builder))) (r2 : (List Int)) : (Int × Int × Int × (List Rule) × (List (Arr3_Int × Int)) × (List (ByteArray × Int)) × (List Node) × (List Int)) → Option ((Int × Int × Int × (List Rule) × (List (Arr3_Int × Int)) × (List (ByteArray × Int)) × (List Node) × (List Int)) ⊕ (Int × (List Rule) × (List (Arr3_Int × Int)) × (List (ByteArray × Int)) × (List Node) × (List Int))) := fun (from1, v1, c3, c4, M3, M4, L3, L4) =>
 cond (decide (v1 < (r2.length : Int)))
  (
  (idx r2 v1).bind fun e1 =>
  (wer c4 mark1 from1).bind fun r3 =>
  (self (⟨c3, c4, M3, M4, L3⟩ : Builder) (IntKind.i64.wrap (mark1 + 1)) (IntKind.u32.wrap ↑(BitVec.ofInt IntKind.u32.bits a1 &&& BitVec.ofInt IntKind.u32.bits r3).toNat)).bind fun r4 =>
  wah (L4.length + [r4.1].length ≤ 4294967296) <|
  some (.inl (e1, (IntKind.i64.wrap (v1 + 1)), r4.2.k, r4.2.rules, r4.2.known, r4.2.same, r4.2.nodes, (L4 ++ [r4.1])))
  )
  (
  some (.inr (c3, c4, M3, M4, L3, L4))
  )
def wen (self : (Builder → Int → Int → Option (Int × Builder))) (o1 : Builder) (mark1 : Int) (a1 : Int) : Option (Int × Builder) :=
 cond (decide (mark1 = o1.k))
  (
  (wel o1 a1).bind fun r1 =>
  some (r1.1, r1.2)
  )
  (
  cond ((waE (⟨mark1, (IntKind.i64.wrap a1), 0⟩ : Arr3_Int) o1.known).isSome)
   (
   some (((waE (⟨mark1, (IntKind.i64.wrap a1), 0⟩ : Arr3_Int) o1.known).getD 0), o1)
   )
   (
   (wfk mark1 [o1.rules]).bind fun r2 =>
   (
    (wek (weh mark1 a1 self r2) (0, 0, o1.k, o1.rules, o1.known, o1.same, o1.nodes, [])).bind fun x_13 =>
    some x_13
    : Option (Int × (List Rule) × (List (Arr3_Int × Int)) × (List (ByteArray × Int)) × (List Node) × (List Int))).bind fun (c1, c2, M1, M2, L1, L2) =>
   (wgM r2 L2).bind fun r5 =>
   (idx r5.2 0).bind fun e2 =>
   (
    cond (decide (1 < (r5.2.length : Int)))
     (
     (wem (⟨c1, c2, M1, M2, L1⟩ : Builder) (⟨mark1, r5.1, r5.2⟩ : Node)).bind fun r6 =>
     some (r6.1, r6.2.k, r6.2.rules, r6.2.known, r6.2.same, r6.2.nodes)
     )
     (
     some (e2, c1, c2, M1, M2, L1)
     )
    : Option (Int × Int × (List Rule) × (List (Arr3_Int × Int)) × (List (ByteArray × Int)) × (List Node))).bind fun (n1, c5, c6, M5, M6, L5) =>
   some (n1, (⟨c5, c6, (wcC (⟨mark1, (IntKind.i64.wrap a1), 0⟩ : Arr3_Int) n1 M5), M6, L5⟩ : Builder))
   )
  )
def weR : Nat → Builder → Int → Int → Option (Int × Builder)
 | 0 => fun _ _ _ => none
 | n + 1 => wen (weR n)
def wcY (l1 : (List Node)) (o1 : Builder) (self : ((List (Int × Int)) → (List Node) → Builder → Int → Option (Int × (List (Int × Int)) × (List Node)))) (e2 : Node) : (Int × (List (Int × Int)) × (List Node)) → Option ((Int × (List (Int × Int)) × (List Node)) ⊕ ((List (Int × Int)) × (List Node))) := fun (v1, M2, L2) =>
 cond (decide (v1 < (e2.To.length : Int)))
  (
  (idx e2.To v1).bind fun e3 =>
  (self M2 L2 o1 e3).bind fun r2 =>
  (idx r2.2.2 (l1.length : Int)).bind fun e4 =>
  wah (e4.To.length + [r2.1].length ≤ 4294967296) <|
  some (.inl ((IntKind.i64.wrap (v1 + 1)), r2.2.1, (r2.2.2.set (((l1.length : Int)).toNat) (⟨e4.Mark, e4.Cuts, (e4.To ++ [r2.1])⟩ : Node))))
  )
  (
  some (.inr (M2, L2))
  )
def wda (self : ((List (Int × Int)) → (List Node) → Builder → Int → Option (Int × (List (Int × Int)) × (List Node)))) (m1 : (List (Int × Int))) (l1 : (List Node)) (o1 : Builder) (n1 : Int) : Option (Int × (List (Int × Int)) × (List Node)) :=
 cond (decide (n1 < 0))
  (
  some (n1, m1, l1)
  )
  (
  cond ((waE n1 m1).isSome)
   (
   some (((waE n1 m1).getD 0), m1, l1)
   )
   (
   (idx o1.nodes n1).bind fun e1 =>
   (whJ e1.Cuts).bind fun r1 =>
   wah (l1.length + 1 ≤ 4294967296) <|
   (
    (idx o1.nodes n1).bind fun e2 =>
    (wek (wcY l1 o1 self e2) (0, (wcC n1 (l1.length : Int) m1), (l1 ++ [(⟨e1.Mark, r1, []⟩ : Node)]))).bind fun x_21 =>
    some x_21
    : Option ((List (Int × Int)) × (List Node))).bind fun (M1, L1) =>
   some ((l1.length : Int), M1, L1)
   )
  )
def wdx : Nat → (List (Int × Int)) → (List Node) → Builder → Int → Option (Int × (List (Int × Int)) × (List Node))
 | 0 => fun _ _ _ _ => none
 | n + 1 => wda (wdx n)
def wdZ (o1 : Builder) (top1 : Int) : Option ((List Node) × Builder) :=
 (wdx 100 [] [] o1 top1).bind fun r1 =>
 some (r1.2.2, o1)
def wge (k1 : Int) (t1 : (List Rule)) : Option ((List Node) × Int) :=
 (wef k1 [t1]).bind fun r1 =>
 cond (decide (¬r1 = 0))
  (
  some ([], r1)
  )
  (
  (weO t1).bind fun r2 =>
  (weR 100 (⟨k1, t1, [], [], []⟩ : Builder) 0 r2).bind fun r3 =>
  cond (decide (r3.1 < 0))
   (
   some ([(⟨0, [1000], [r3.1]⟩ : Node)], 0)
   )
   (
   (wdZ r3.2 r3.1).bind fun r4 =>
   some (r4.1, 0)
   )
  )
def weS (a1 : (List Int)) (b1 : (List Int)) : Int → Option (Int ⊕ (Unit ⊕ Bool)) := fun i1 =>
 cond (decide (i1 < (a1.length : Int)))
  (
  (idx a1 i1).bind fun e1 =>
  (idx b1 i1).bind fun e2 =>
  cond (decide (¬e1 = e2))
   (
   some (.inr (.inr false))
   )
   (
   some (.inl (IntKind.i64.wrap (i1 + 1)))
   )
  )
  (
  some (.inr (.inl ()))
  )
def wdI (a1 : (List Int)) (b1 : (List Int)) : Option Bool :=
 cond (decide (¬(a1.length : Int) = (b1.length : Int)))
  (
  some false
  )
  (
  (
  (
   (
   (wek (weS a1 b1) 0).bind fun x_9 => match x_9 with
     | (.inl y1) => some (.inl y1)
     | (.inr y2) => some (.inr y2)
   )
   : Option (Unit ⊕ Bool)).bind fun o_3 => match o_3 with
    | (.inl _) =>
      some true
    | (.inr y3) => some y3
  )
  )
def wfq : Option Bool :=
 (wdm).bind fun r1 =>
 (whS 1 r1).bind fun r2 =>
 (wdm).bind fun r3 =>
 (wiy 1 r3).bind fun r4 =>
 (wdm).bind fun r5 =>
 (wge 1 r5).bind fun r6 =>
 ((cond (decide (r2.2 = 0))
  (
   (wdI r2.1 [2]).bind fun r7 =>
   some r7
  )
  (some false)
 ) : Option Bool).bind fun b1 =>
 ((cond (b1 && (decide (r4.2 = 0)))
  (
   (wdI r4.1 [20]).bind fun r8 =>
   some r8
  )
  (some false)
 ) : Option Bool).bind fun b2 =>
 ((cond ((b2 && (decide (r6.2 = 0))) && (decide ((r6.1.length : Int) = 1)))
  (
   (idx r6.1 0).bind fun e1 =>
   (wdI e1.To [(-3), (-4), (-1)]).bind fun r9 =>
   some r9
  )
  (some false)
 ) : Option Bool).bind fun b3 =>
 some b3
theorem wje  : OLe (wdm) (wb7) := by
 intros; unfold wdm wb7; try simp only [wax]; try dsimp only
 repeat' (first | exact OLe.refl _ | refine OLe.bind ?_ (fun _ => ?_) | refine OLe.cond ?_ ?_ | refine OLe.guard ?_ | refine OLe.iterQ (fun _ => ?_) | split)
theorem wl3 (k1 : Int) : OLe (whe k1) (wcS k1) := by
 intros; unfold whe wcS; try simp only [wax]; try dsimp only
 repeat' (first | exact OLe.refl _ | refine OLe.bind ?_ (fun _ => ?_) | refine OLe.cond ?_ ?_ | refine OLe.guard ?_ | refine OLe.iterQ (fun _ => ?_) | split)
theorem wlw (b1 : Band) : OLe (wgK b1) (wdO b1) := by
 intros; unfold wgK wdO; try simp only [wax]; try dsimp only
 repeat' (first | exact OLe.refl _ | refine OLe.bind ?_ (fun _ => ?_) | refine OLe.cond ?_ ?_ | refine OLe.guard ?_ | refine OLe.iterQ (fun _ => ?_) | split)
theorem wfY (s1 : (List Band)) : ∀ e0_, OLe (wc7 s1 e0_) (wbB s1 e0_) := by
 intros; unfold wc7 wbB; try simp only [wax]; try dsimp only
 repeat' (first | exact OLe.refl _ | exact wlw _ | refine OLe.bind ?_ (fun _ => ?_) | refine OLe.cond ?_ ?_ | refine OLe.guard ?_ | refine OLe.iterQ (fun _ => ?_) | split)
theorem wgN (s1 : (List Band)) : OLe (wdH s1) (wa9 s1) := by
 intros; unfold wdH wa9; try simp only [wax]; try dsimp only
 repeat' (first | exact OLe.refl _ | exact wfY _ _ | refine OLe.bind ?_ (fun _ => ?_) | refine OLe.cond ?_ ?_ | refine OLe.guard ?_ | refine OLe.iterQ (fun _ => ?_) | split)
theorem wfZ (s1 : (List Band)) : OLe (wc8 s1) (waS s1) := by
 intros; unfold wc8 waS; try simp only [wax]; try dsimp only
 repeat' (first | exact OLe.refl _ | exact wgN _ | refine OLe.bind ?_ (fun _ => ?_) | refine OLe.cond ?_ ?_ | refine OLe.guard ?_ | refine OLe.iterQ (fun _ => ?_) | split)
theorem wmC (k1 : Int) (r1 : Rule) : OLe (whR k1 r1) (wdW k1 r1) := by
 intros; unfold whR wdW; try simp only [wax]; try dsimp only
 repeat' (first | exact OLe.refl _ | exact wfZ _ | refine OLe.bind ?_ (fun _ => ?_) | refine OLe.cond ?_ ?_ | refine OLe.guard ?_ | refine OLe.iterQ (fun _ => ?_) | split)
theorem wiG (r1 : Rule) (k1 : Int) : OLe (wfa r1 k1) (wbZ r1 k1) := by
 intros; unfold wfa wbZ; try simp only [wax]; try dsimp only
 repeat' (first | exact OLe.refl _ | exact wmC _ _ | refine OLe.bind ?_ (fun _ => ?_) | refine OLe.cond ?_ ?_ | refine OLe.guard ?_ | refine OLe.iterQ (fun _ => ?_) | split)
theorem wgr (s1 : (List Rule)) (f1 : Int) : ∀ e0_, OLe (wdu s1 f1 e0_) (wbO s1 f1 e0_) := by
 intros; unfold wdu wbO; try simp only [wax]; try dsimp only
 repeat' (first | exact OLe.refl _ | exact wiG _ _ | refine OLe.bind ?_ (fun _ => ?_) | refine OLe.cond ?_ ?_ | refine OLe.guard ?_ | refine OLe.iterQ (fun _ => ?_) | split)
theorem whh (s1 : (List Rule)) (f1 : Int) : OLe (wd4 s1 f1) (wbn s1 f1) := by
 intros; unfold wd4 wbn; try simp only [wax]; try dsimp only
 repeat' (first | exact OLe.refl _ | exact wgr _ _ _ | refine OLe.bind ?_ (fun _ => ?_) | refine OLe.cond ?_ ?_ | refine OLe.guard ?_ | refine OLe.iterQ (fun _ => ?_) | split)
theorem wgs (s1 : (List Rule)) (f1 : Int) : OLe (wdv s1 f1) (waO s1 f1) := by
 intros; unfold wdv waO; try simp only [wax]; try dsimp only
 repeat' (first | exact OLe.refl _ | exact whh _ _ | refine OLe.bind ?_ (fun _ => ?_) | refine OLe.cond ?_ ?_ | refine OLe.guard ?_ | refine OLe.iterQ (fun _ => ?_) | split)
theorem wjf (k1 : Int) (ts1 : (List (List Rule))) : ∀ e0_, OLe (wfo k1 ts1 e0_) (wbK k1 ts1 e0_) := by
 intros; unfold wfo wbK; try simp only [wax]; try dsimp only
 repeat' (first | exact OLe.refl _ | exact wgs _ _ | refine OLe.bind ?_ (fun _ => ?_) | refine OLe.cond ?_ ?_ | refine OLe.guard ?_ | refine OLe.iterQ (fun _ => ?_) | split)
theorem wfr (k1 : Int) (ts1 : (List (List Rule))) : OLe (wef k1 ts1) (wbr k1 ts1) := by
 intros; unfold wef wbr; try simp only [wax]; try dsimp only
 repeat' (first | exact OLe.refl _ | exact wl3 _ | exact wjf _ _ _ | refine OLe.bind ?_ (fun _ => ?_) | refine OLe.cond ?_ ?_ | refine OLe.guard ?_ | refine OLe.iterQ (fun _ => ?_) | split)
theorem wgO (t1 : (List Rule)) : OLe (weO t1) (wb1 t1) := by
 intros; unfold weO wb1; try simp only [wax]; try dsimp only
 repeat' (first | exact OLe.refl _ | refine OLe.bind ?_ (fun _ => ?_) | refine OLe.cond ?_ ?_ | refine OLe.guard ?_ | refine OLe.iterQ (fun _ => ?_) | split)
theorem wkJ (mark1 : Int) (e1 : (List Rule)) : ∀ e0_, OLe (wga mark1 e1 e0_) (wcM mark1 e1 e0_) := by
 intros; unfold wga wcM; try simp only [wax]; try dsimp only
 repeat' (first | exact OLe.refl _ | refine OLe.bind ?_ (fun _ => ?_) | refine OLe.cond ?_ ?_ | refine OLe.guard ?_ | refine OLe.iterQ (fun _ => ?_) | split)
theorem wkK (mark1 : Int) (ts1 : (List (List Rule))) : ∀ e0_, OLe (wgb mark1 ts1 e0_) (wcN mark1 ts1 e0_) := by
 intros; unfold wgb wcN; try simp only [wax]; try dsimp only
 repeat' (first | exact OLe.refl _ | exact wkJ _ _ _ | refine OLe.bind ?_ (fun _ => ?_) | refine OLe.cond ?_ ?_ | refine OLe.guard ?_ | refine OLe.iterQ (fun _ => ?_) | split)
theorem wgf (mark1 : Int) (ts1 : (List (List Rule))) : OLe (wfk mark1 ts1) (wa6 mark1 ts1) := by
 intros; unfold wfk wa6; try simp only [wax]; try dsimp only
 repeat' (first | exact OLe.refl _ | exact wkK _ _ _ | refine OLe.bind ?_ (fun _ => ?_) | refine OLe.cond ?_ ?_ | refine OLe.guard ?_ | refine OLe.iterQ (fun _ => ?_) | split)
theorem wkL (t1 : (List Rule)) (mark1 : Int) (value1 : Int) : ∀ e0_, OLe (wgc t1 mark1 value1 e0_) (wcO t1 mark1 value1 e0_) := by
 intros; unfold wgc wcO; try simp only [wax]; try dsimp only
 repeat' (first | exact OLe.refl _ | refine OLe.bind ?_ (fun _ => ?_) | refine OLe.cond ?_ ?_ | refine OLe.guard ?_ | refine OLe.iterQ (fun _ => ?_) | split)
theorem wgg (t1 : (List Rule)) (mark1 : Int) (value1 : Int) : OLe (wer t1 mark1 value1) (wbx t1 mark1 value1) := by
 intros; unfold wer wbx; try simp only [wax]; try dsimp only
 repeat' (first | exact OLe.refl _ | exact wkL _ _ _ _ | refine OLe.bind ?_ (fun _ => ?_) | refine OLe.cond ?_ ?_ | refine OLe.guard ?_ | refine OLe.iterQ (fun _ => ?_) | split)
theorem wiz (s1 : Int) : ∀ e0_, OLe (weP s1 e0_) (wbs s1 e0_) := by
 intros; unfold weP wbs; try simp only [wax]; try dsimp only
 repeat' (first | exact OLe.refl _ | refine OLe.bind ?_ (fun _ => ?_) | refine OLe.cond ?_ ?_ | refine OLe.guard ?_ | refine OLe.iterQ (fun _ => ?_) | split)
theorem weT (s1 : Int) : OLe (wcU s1) (waV s1) := by
 intros; unfold wcU waV; try simp only [wax]; try dsimp only
 repeat' (first | exact OLe.refl _ | exact wiz _ _ | refine OLe.bind ?_ (fun _ => ?_) | refine OLe.cond ?_ ?_ | refine OLe.guard ?_ | refine OLe.iterQ (fun _ => ?_) | split)
theorem wic (from1 : Int) (e1 : Int) (r3 : ((List Int) × (List (Arr3_Int × (List Int))))) : ∀ e0_, OLe (weB from1 e1 r3 e0_) (wdD from1 e1 r3 e0_) := by
 intros; unfold weB wdD; try simp only [wax]; try dsimp only
 repeat' (first | exact OLe.refl _ | refine OLe.bind ?_ (fun _ => ?_) | refine OLe.cond ?_ ?_ | refine OLe.guard ?_ | refine OLe.iterQ (fun _ => ?_) | split)
theorem wid (mark1 : Int) (a1 : Int) (o1 : (List Rule)) (o2 : Int) (self self' : ((List Rule) → Int → (List (Arr3_Int × (List Int))) → Int → Int → Option ((List Int) × (List (Arr3_Int × (List Int)))))) (hself : ∀ x0 x1 x2 x3 x4, OLe (self x0 x1 x2 x3 x4) (self' x0 x1 x2 x3 x4)) (r1 : (List Int)) : ∀ e0_, OLe (weC mark1 a1 o1 o2 self r1 e0_) (wdE mark1 a1 o1 o2 self' r1 e0_) := by
 intros; unfold weC wdE; try simp only [wax]; try dsimp only
 repeat' (first | exact OLe.refl _ | exact wgg _ _ _ | exact wic _ _ _ _ | exact weT _ | exact hself _ _ _ _ _ | refine OLe.bind ?_ (fun _ => ?_) | refine OLe.cond ?_ ?_ | refine OLe.guard ?_ | refine OLe.iterQ (fun _ => ?_) | split)
theorem wiA (self self' : ((List Rule) → Int → (List (Arr3_Int × (List Int))) → Int → Int → Option ((List Int) × (List (Arr3_Int × (List Int)))))) (hself : ∀ x0 x1 x2 x3 x4, OLe (self x0 x1 x2 x3 x4) (self' x0 x1 x2 x3 x4)) (o1 : (List Rule)) (o2 : Int) (m1 : (List (Arr3_Int × (List Int)))) (mark1 : Int) (a1 : Int) : OLe (weQ self o1 o2 m1 mark1 a1) (wcT self' o1 o2 m1 mark1 a1) := by
 intros; unfold weQ wcT; try simp only [wax]; try dsimp only
 repeat' (first | exact OLe.refl _ | exact wgf _ _ | exact wid _ _ _ _ _ _ (by assumption) _ _ | exact hself _ _ _ _ _ | refine OLe.bind ?_ (fun _ => ?_) | refine OLe.cond ?_ ?_ | refine OLe.guard ?_ | refine OLe.iterQ (fun _ => ?_) | split)
theorem wjg  : ∀ e0_ e1_ e2_ e3_ e4_ e5_, OLe (wfp e0_ e1_ e2_ e3_ e4_ e5_) (wdk e0_ e1_ e2_ e3_ e4_ e5_) := by
 intro e0_; induction e0_ with
 | zero => intros; exact fun _ h => nomatch h
 | succ k ih => intro e1_ e2_ e3_ e4_ e5_; exact wiA _ _ ih _ _ _ _ _
theorem wlx (k1 : Int) (t1 : (List Rule)) : OLe (wgL k1 t1) (wet k1 t1) := by
 intros; unfold wgL wet; try simp only [wax]; try dsimp only
 repeat' (first | exact OLe.refl _ | exact wgO _ | exact wjg _ _ _ _ _ _ | refine OLe.bind ?_ (fun _ => ?_) | refine OLe.cond ?_ ?_ | refine OLe.guard ?_ | refine OLe.iterQ (fun _ => ?_) | split)
theorem wkM (t1 : (List Rule)) (r2 : (List Int)) : ∀ e0_, OLe (wgd t1 r2 e0_) (we8 t1 r2 e0_) := by
 intros; unfold wgd we8; try simp only [wax]; try dsimp only
 repeat' (first | exact OLe.refl _ | refine OLe.bind ?_ (fun _ => ?_) | refine OLe.cond ?_ ?_ | refine OLe.guard ?_ | refine OLe.iterQ (fun _ => ?_) | split)
theorem wmD (k1 : Int) (t1 : (List Rule)) : OLe (whS k1 t1) (wfi k1 t1) := by
 intros; unfold whS wfi; try simp only [wax]; try dsimp only
 repeat' (first | exact OLe.refl _ | exact wfr _ _ | exact wlx _ _ | exact wkM _ _ _ | refine OLe.bind ?_ (fun _ => ?_) | refine OLe.cond ?_ ?_ | refine OLe.guard ?_ | refine OLe.iterQ (fun _ => ?_) | split)
theorem wl4 (i1 : Int) (v1 : Int) : OLe (whf i1 v1) (weM i1 v1) := by
 intros; unfold whf weM; try simp only [wax]; try dsimp only
 repeat' (first | exact OLe.refl _ | refine OLe.bind ?_ (fun _ => ?_) | refine OLe.cond ?_ ?_ | refine OLe.guard ?_ | refine OLe.iterQ (fun _ => ?_) | split)
theorem wfU (mark1 : Int) (a1 : Int) (b1 : Int) (o1 : Walker) (self self' : (Walker → (List (Arr3_Int × Bool)) → Int → Int → Int → Option ((List Int) × Bool × (List (Arr3_Int × Bool))))) (hself : ∀ x0 x1 x2 x3 x4, OLe (self x0 x1 x2 x3 x4) (self' x0 x1 x2 x3 x4)) (r4 : (List Int)) : ∀ e0_, OLe (wcX mark1 a1 b1 o1 self r4 e0_) (wb4 mark1 a1 b1 o1 self' r4 e0_) := by
 intros; unfold wcX wb4; try simp only [wax]; try dsimp only
 repeat' (first | exact OLe.refl _ | exact wgg _ _ _ | exact hself _ _ _ _ _ | refine OLe.bind ?_ (fun _ => ?_) | refine OLe.cond ?_ ?_ | refine OLe.guard ?_ | refine OLe.iterQ (fun _ => ?_) | split)
theorem wf0 (self self' : (Walker → (List (Arr3_Int × Bool)) → Int → Int → Int → Option ((List Int) × Bool × (List (Arr3_Int × Bool))))) (hself : ∀ x0 x1 x2 x3 x4, OLe (self x0 x1 x2 x3 x4) (self' x0 x1 x2 x3 x4)) (o1 : Walker) (m1 : (List (Arr3_Int × Bool))) (mark1 : Int) (a1 : Int) (b1 : Int) : OLe (wc9 self o1 m1 mark1 a1 b1) (wbC self' o1 m1 mark1 a1 b1) := by
 intros; unfold wc9 wbC; try simp only [wax]; try dsimp only
 repeat' (first | exact OLe.refl _ | exact weT _ | exact wl4 _ _ | exact wgf _ _ | exact wfU _ _ _ _ _ _ (by assumption) _ _ | exact hself _ _ _ _ _ | refine OLe.bind ?_ (fun _ => ?_) | refine OLe.cond ?_ ?_ | refine OLe.guard ?_ | refine OLe.iterQ (fun _ => ?_) | split)
theorem wgt  : ∀ e0_ e1_ e2_ e3_ e4_ e5_, OLe (wdw e0_ e1_ e2_ e3_ e4_ e5_) (wbP e0_ e1_ e2_ e3_ e4_ e5_) := by
 intro e0_; induction e0_ with
 | zero => intros; exact fun _ h => nomatch h
 | succ k ih => intro e1_ e2_ e3_ e4_ e5_; exact wf0 _ _ ih _ _ _ _ _
theorem whK (w1 : Walker) : OLe (weg w1) (wco w1) := by
 intros; unfold weg wco; try simp only [wax]; try dsimp only
 repeat' (first | exact OLe.refl _ | exact wgO _ | exact wgt _ _ _ _ _ _ | refine OLe.bind ?_ (fun _ => ?_) | refine OLe.cond ?_ ?_ | refine OLe.guard ?_ | refine OLe.iterQ (fun _ => ?_) | split)
theorem wl5 (l1 : (List Int)) (ok1 : Bool) : OLe (whg l1 ok1) (wdq l1 ok1) := by
 intros; unfold whg wdq; try simp only [wax]; try dsimp only
 repeat' (first | exact OLe.refl _ | refine OLe.bind ?_ (fun _ => ?_) | refine OLe.cond ?_ ?_ | refine OLe.guard ?_ | refine OLe.iterQ (fun _ => ?_) | split)
theorem wns (k1 : Int) (t1 : (List Rule)) : OLe (wiy k1 t1) (wfF k1 t1) := by
 intros; unfold wiy wfF; try simp only [wax]; try dsimp only
 repeat' (first | exact OLe.refl _ | exact wfr _ _ | exact whK _ | exact wl5 _ _ | refine OLe.bind ?_ (fun _ => ?_) | refine OLe.cond ?_ ?_ | refine OLe.guard ?_ | refine OLe.iterQ (fun _ => ?_) | split)
theorem whT (o1 : Builder) (a1 : Int) : OLe (wel o1 a1) (wbv o1 a1) := by
 intros; unfold wel wbv; try simp only [wax]; try dsimp only
 repeat' (first | exact OLe.refl _ | exact weT _ | refine OLe.bind ?_ (fun _ => ?_) | refine OLe.cond ?_ ?_ | refine OLe.guard ?_ | refine OLe.iterQ (fun _ => ?_) | split)
theorem wjC (ends1 : (List Int)) (to1 : (List Int)) : ∀ e0_, OLe (wfH ends1 to1 e0_) (wbq ends1 to1 e0_) := by
 intros; unfold wfH wbq; try simp only [wax]; try dsimp only
 repeat' (first | exact OLe.refl _ | refine OLe.bind ?_ (fun _ => ?_) | refine OLe.cond ?_ ?_ | refine OLe.guard ?_ | refine OLe.iterQ (fun _ => ?_) | split)
theorem wly (ends1 : (List Int)) (to1 : (List Int)) : OLe (wgM ends1 to1) (wc5 ends1 to1) := by
 intros; unfold wgM wc5; try simp only [wax]; try dsimp only
 repeat' (first | exact OLe.refl _ | exact wjC _ _ _ | refine OLe.bind ?_ (fun _ => ?_) | refine OLe.cond ?_ ?_ | refine OLe.guard ?_ | refine OLe.iterQ (fun _ => ?_) | split)
theorem wgV (e1 : (List Int)) : ∀ e0_, OLe (wdX e1 e0_) (waW e1 e0_) := by
 intros; unfold wdX waW; try simp only [wax]; try dsimp only
 repeat' (first | exact OLe.refl _ | exact wsu _ | refine OLe.bind ?_ (fun _ => ?_) | refine OLe.cond ?_ ?_ | refine OLe.guard ?_ | refine OLe.iterQ (fun _ => ?_) | split)
theorem wgW (x1 : Node) : ∀ e0_, OLe (wdY x1 e0_) (waM x1 e0_) := by
 intros; unfold wdY waM; try simp only [wax]; try dsimp only
 repeat' (first | exact OLe.refl _ | exact wgV _ _ | refine OLe.bind ?_ (fun _ => ?_) | refine OLe.cond ?_ ?_ | refine OLe.guard ?_ | refine OLe.iterQ (fun _ => ?_) | split)
theorem whU (o1 : Builder) (x1 : Node) : OLe (wem o1 x1) (wa1 o1 x1) := by
 intros; unfold wem wa1; try simp only [wax]; try dsimp only
 repeat' (first | exact OLe.refl _ | exact wgW _ _ | refine OLe.bind ?_ (fun _ => ?_) | refine OLe.cond ?_ ?_ | refine OLe.guard ?_ | refine OLe.iterQ (fun _ => ?_) | split)
theorem whL (mark1 : Int) (a1 : Int) (self self' : (Builder → Int → Int → Option (Int × Builder))) (hself : ∀ x0 x1 x2, OLe (self x0 x1 x2) (self' x0 x1 x2)) (r2 : (List Int)) : ∀ e0_, OLe (weh mark1 a1 self r2 e0_) (wba mark1 a1 self' r2 e0_) := by
 intros; unfold weh wba; try simp only [wax]; try dsimp only
 repeat' (first | exact OLe.refl _ | exact wgg _ _ _ | exact hself _ _ _ | refine OLe.bind ?_ (fun _ => ?_) | refine OLe.cond ?_ ?_ | refine OLe.guard ?_ | refine OLe.iterQ (fun _ => ?_) | split)
theorem whV (self self' : (Builder → Int → Int → Option (Int × Builder))) (hself : ∀ x0 x1 x2, OLe (self x0 x1 x2) (self' x0 x1 x2)) (o1 : Builder) (mark1 : Int) (a1 : Int) : OLe (wen self o1 mark1 a1) (wbw self' o1 mark1 a1) := by
 intros; unfold wen wbw; try simp only [wax]; try dsimp only
 repeat' (first | exact OLe.refl _ | exact whT _ _ | exact wgf _ _ | exact whL _ _ _ _ (by assumption) _ _ | exact wly _ _ | exact whU _ _ | exact hself _ _ _ | refine OLe.bind ?_ (fun _ => ?_) | refine OLe.cond ?_ ?_ | refine OLe.guard ?_ | refine OLe.iterQ (fun _ => ?_) | split)
theorem wiB  : ∀ e0_ e1_ e2_ e3_, OLe (weR e0_ e1_ e2_ e3_) (waZ e0_ e1_ e2_ e3_) := by
 intro e0_; induction e0_ with
 | zero => intros; exact fun _ h => nomatch h
 | succ k ih => intro e1_ e2_ e3_; exact whV _ _ ih _ _ _
theorem wfV (l1 : (List Node)) (o1 : Builder) (self self' : ((List (Int × Int)) → (List Node) → Builder → Int → Option (Int × (List (Int × Int)) × (List Node)))) (hself : ∀ x0 x1 x2 x3, OLe (self x0 x1 x2 x3) (self' x0 x1 x2 x3)) (e2 : Node) : ∀ e0_, OLe (wcY l1 o1 self e2 e0_) (waI l1 o1 self' e2 e0_) := by
 intros; unfold wcY waI; try simp only [wax]; try dsimp only
 repeat' (first | exact OLe.refl _ | exact hself _ _ _ _ | refine OLe.bind ?_ (fun _ => ?_) | refine OLe.cond ?_ ?_ | refine OLe.guard ?_ | refine OLe.iterQ (fun _ => ?_) | split)
theorem wf1 (self self' : ((List (Int × Int)) → (List Node) → Builder → Int → Option (Int × (List (Int × Int)) × (List Node)))) (hself : ∀ x0 x1 x2 x3, OLe (self x0 x1 x2 x3) (self' x0 x1 x2 x3)) (m1 : (List (Int × Int))) (l1 : (List Node)) (o1 : Builder) (n1 : Int) : OLe (wda self m1 l1 o1 n1) (waT self' m1 l1 o1 n1) := by
 intros; unfold wda waT; try simp only [wax]; try dsimp only
 repeat' (first | exact OLe.refl _ | exact wfV _ _ _ _ (by assumption) _ _ | exact hself _ _ _ _ | refine OLe.bind ?_ (fun _ => ?_) | refine OLe.cond ?_ ?_ | refine OLe.guard ?_ | refine OLe.iterQ (fun _ => ?_) | split)
theorem wgu  : ∀ e0_ e1_ e2_ e3_ e4_, OLe (wdx e0_ e1_ e2_ e3_ e4_) (waH e0_ e1_ e2_ e3_ e4_) := by
 intro e0_; induction e0_ with
 | zero => intros; exact fun _ h => nomatch h
 | succ k ih => intro e1_ e2_ e3_ e4_; exact wf1 _ _ ih _ _ _ _
theorem wgX (o1 : Builder) (top1 : Int) : OLe (wdZ o1 top1) (waX o1 top1) := by
 intros; unfold wdZ waX; try simp only [wax]; try dsimp only
 repeat' (first | exact OLe.refl _ | exact wgu _ _ _ _ _ | refine OLe.bind ?_ (fun _ => ?_) | refine OLe.cond ?_ ?_ | refine OLe.guard ?_ | refine OLe.iterQ (fun _ => ?_) | split)
theorem wkN (k1 : Int) (t1 : (List Rule)) : OLe (wge k1 t1) (wbj k1 t1) := by
 intros; unfold wge wbj; try simp only [wax]; try dsimp only
 repeat' (first | exact OLe.refl _ | exact wfr _ _ | exact wgO _ | exact wiB _ _ _ _ | exact wgX _ _ | refine OLe.bind ?_ (fun _ => ?_) | refine OLe.cond ?_ ?_ | refine OLe.guard ?_ | refine OLe.iterQ (fun _ => ?_) | split)
theorem wiC (a1 : (List Int)) (b1 : (List Int)) : ∀ e0_, OLe (weS a1 b1 e0_) (waP a1 b1 e0_) := by
 intros; unfold weS waP; try simp only [wax]; try dsimp only
 repeat' (first | exact OLe.refl _ | refine OLe.bind ?_ (fun _ => ?_) | refine OLe.cond ?_ ?_ | refine OLe.guard ?_ | refine OLe.iterQ (fun _ => ?_) | split)
theorem wjD (a1 : (List Int)) (b1 : (List Int)) : OLe (wdI a1 b1) (wbb a1 b1) := by
 intros; unfold wdI wbb; try simp only [wax]; try dsimp only
 repeat' (first | exact OLe.refl _ | exact wiC _ _ _ | refine OLe.bind ?_ (fun _ => ?_) | refine OLe.cond ?_ ?_ | refine OLe.guard ?_ | refine OLe.iterQ (fun _ => ?_) | split)
theorem wjh  : OLe (wfq) (wbL) := by
 intros; unfold wfq wbL; try simp only [wax]; try dsimp only
 repeat' (first | exact OLe.refl _ | exact wje  | exact wmD _ _ | exact wns _ _ | exact wkN _ _ | exact wjD _ _ | refine OLe.bind ?_ (fun _ => ?_) | refine OLe.cond ?_ ?_ | refine OLe.guard ?_ | refine OLe.iterQ (fun _ => ?_) | split)
end Go.Pv

namespace Go.Pv
theorem wpH : wfq = some true := by decide +kernel
theorem wfR : wbL = some true := wjh _ wpH
end Go.Pv

namespace Go.Pv
def wlz (t : List Rule) : Int := IntKind.i64.wrap ((IntKind.i64.wrap (1 * (2 ^ (min ((t.length : Int)).toNat 64)))) - 1)
theorem wiY (t : List Rule) : wdb t = some (wlz t) := by
 unfold wdb
 have hz : (0 : Int) ≤ (t.length : Int) := by omega
 simp only [wah, hz, if_true]; rfl
theorem wml {k : Int} {t : List Rule} (h : chk k [t] = 0) (most : Int) : ∀ (n m : Nat) (out : Int), n = k.toNat - m → ∃ v, iter (waw k t most) (out, (m : Int)) = some v
 | 0, m, out, hn => by
  obtain ⟨h1, h2, _⟩ := wc6 h
  have h3 : decide ((m : Int) < k) = false := by simp; omega
  rw [wby]
  unfold waw
  simp only [h3, Bool.false_and, cond_false, Option.bind_some]
  exact ⟨_, rfl⟩
 | n + 1, m, out, hn => by
  obtain ⟨h1, h2, ht, hf⟩ := wc6 h
  have h3 : decide ((m : Int) < k) = true := by simp; omega
  have ih := fun out => wml h most n (m + 1) out (by omega)
  rw [wby]
  generalize hf0 : waw k t most = f at ih ⊢
  have hff : f (out, (m : Int)) = cond (decide (out < most)) (some (.inl (IntKind.i64.wrap (out * ((weH m (wlz t) 0 t [1000]).length : Int)), IntKind.i64.wrap ((m : Int) + 1)))) (some (.inr out)) := by
   rw [← hf0]; unfold waw
   simp only [h3, Bool.true_and]
   cases decide (out < most) with
   | false => rfl
   | true => simp only [cond_true, wiY, Option.bind_some, wnq t m (wlz t) (by omega) (fun r hr => by have := wkh (hf r hr); omega)]
  rw [hff]
  cases decide (out < most) with
  | false => exact ⟨_, rfl⟩
  | true =>
   simp only [cond_true, Option.bind_some]
   rw [wap (by omega : -9223372036854775808 ≤ (m : Int) + 1 ∧ (m : Int) + 1 ≤ 9223372036854775807), show ((m : Int) + 1) = ((m + 1 : Nat) : Int) by omega]
   exact ih _
theorem wpI (k : Int) (t : List Rule) (most : Int) : ∃ v, wcv k t most = some v := by
 unfold wcv
 rw [wqD k t, Option.bind_some]
 by_cases h : chk k [t] = 0
 ·rw [decide_eq_false (by simp [h]), cond_false]
  obtain ⟨v, hv⟩ := wml h most k.toNat 0 1 (by omega)
  rw [show ((0 : Nat) : Int) = 0 from rfl] at hv
  rw [hv]; exact ⟨_, rfl⟩
 ·rw [decide_eq_true (by simpa using h), cond_true]; exact ⟨_, rfl⟩
theorem wpJ (t : List Rule) : ∀ (n i : Nat), n = 41 - i → i ≤ 40 → ∃ v, iter (waG t) (i : Int) = some v
 | 0, i, hn, hi => by omega
 | n + 1, i, hn, hi => by
  rw [wby]
  by_cases hlt : i < t.length
  ·have h1 : decide ((i : Int) < (t.length : Int)) = true := by simp; omega
   have h2 : idx t (i : Int) = some t[i] := by unfold idx; simp [hlt]
   by_cases h40 : i = 40
   ·have h3 : decide (40 ≤ (i : Int)) = true := by simp; omega
    unfold waG
    simp only [h1, h3, cond_true, Option.bind_some]
    exact ⟨_, rfl⟩
   ·have h3 : decide (40 ≤ (i : Int)) = false := by simp; omega
    have ih := wpJ t n (i + 1) (by omega) (by omega)
    generalize hf0 : waG t = f at ih ⊢
    have hf : f (i : Int) = cond (decide (20 < (t[i].Bands.length : Int))) (some (.inr (.inr false))) (some (.inl (IntKind.i64.wrap ((i : Int) + 1)))) := by
     rw [← hf0]; unfold waG
     simp only [h1, h3, cond_true, cond_false, Option.bind_some, h2]
    rw [hf]
    cases decide (20 < (t[i].Bands.length : Int)) with
    | true => exact ⟨_, rfl⟩
    | false =>
     simp only [cond_false, Option.bind_some]
     rw [wap (by omega), show ((i : Int) + 1) = ((i + 1 : Nat) : Int) by omega]
     exact ih
  ·have h1 : decide ((i : Int) < (t.length : Int)) = false := by simp; omega
   unfold waG
   simp only [h1, cond_false, Option.bind_some]
   exact ⟨_, rfl⟩
theorem wos (k : Int) (t : List Rule) : ∃ b, wb5 k t = some b := by
 unfold wb5
 obtain ⟨v, hv⟩ := wpJ t 41 0 (by omega) (by omega)
 rw [show ((0 : Nat) : Int) = 0 from rfl] at hv
 rw [hv]
 cases v with
 | inl u =>
  obtain ⟨p, hp⟩ := wpI k t 30000
  simp only [Option.bind_some, hp]; exact ⟨_, rfl⟩
 | inr b => exact ⟨b, rfl⟩
end Go.Pv

namespace Go.Pv
end Go.Pv

namespace Go.Pv
end Go.Pv

namespace Go.Pv
def wnY (d : List Node) (x : Node) (to : Int) : Bool :=
 !(decide ((d.length : Int) ≤ to)) && !(decide (to < (-101))) && (!(decide (0 ≤ to)) || !(decide ((d.getD to.toNat default).Mark ≤ x.Mark)))
def whM (d : List Node) (x : Node) (last : Int) : List Int → List Int → Bool
 | c :: cs, t :: ts => !(decide (c ≤ last)) && (wnY d x t && whM d x c cs ts)
 | _, _ => true
theorem wnt {α : Type} [Inhabited α] {l : List α} {i : Int} (h0 : 0 ≤ i) (h1 : i < l.length) : idx l i = some (l.getD i.toNat default) := by
 have : i.toNat < l.length := by omega
 unfold idx; simp [h0, this]
theorem wot (d : List Node) (x : Node) (hl : x.To.length = x.Cuts.length) (hb : x.Cuts.length ≤ 1000000) : ∀ (n v : Nat) (last : Int), n = x.Cuts.length - v → iter (wds d x) (last, (v : Int)) = some (cond (whM d x last (x.Cuts.drop v) (x.To.drop v)) (.inl ()) (.inr false))
 | 0, v, last, hn => by
  have h1 : decide ((v : Int) < (x.Cuts.length : Int)) = false := by simp; omega
  rw [wby, wcq (x.Cuts) (by omega)]
  unfold wds
  simp only [h1, cond_false, Option.bind_some, whM, cond_true]
 | n + 1, v, last, hn => by
  have hv : v < x.Cuts.length := by omega
  have hv2 : v < x.To.length := by omega
  have h1 : decide ((v : Int) < (x.Cuts.length : Int)) = true := by simp; omega
  have e1 : idx x.Cuts (v : Int) = some x.Cuts[v] := by unfold idx; simp [hv]
  have e2 : idx x.To (v : Int) = some x.To[v] := by unfold idx; simp [hv2]
  have ih := wot d x hl hb n (v + 1) x.Cuts[v] (by omega)
  rw [wby, List.drop_eq_getElem_cons hv, List.drop_eq_getElem_cons hv2]
  generalize hf0 : wds d x = f at ih ⊢
  have hf : f (last, (v : Int)) = cond (decide (x.Cuts[v] ≤ last)) (some (.inr (.inr false))) (cond (wnY d x x.To[v]) (some (.inl (x.Cuts[v], IntKind.i64.wrap ((v : Int) + 1)))) (some (.inr (.inr false)))) := by
   rw [← hf0]; unfold wds
   simp only [h1, cond_true, e1, e2, Option.bind_some, wnY]
   cases decide (x.Cuts[v] ≤ last) with
   | true => rfl
   | false =>
    simp only [cond_false]
    cases hd : decide ((d.length : Int) ≤ x.To[v]) with
    | true => rfl
    | false =>
     cases decide (x.To[v] < (-101)) with
     | true => rfl
     | false =>
      cases h0 : decide (0 ≤ x.To[v]) with
      | false => rfl
      | true =>
       have hd : ¬ (d.length : Int) ≤ x.To[v] := by simpa using hd
       have h0 : 0 ≤ x.To[v] := by simpa using h0
       simp only [cond_false, cond_true, wnt h0 (by omega : x.To[v] < d.length), Option.bind_some]
       cases decide ((d.getD x.To[v].toNat default).Mark ≤ x.Mark) <;> rfl
  rw [hf]
  simp only [whM]
  cases decide (x.Cuts[v] ≤ last) with
  | true => rfl
  | false =>
   cases wnY d x x.To[v] with
   | false => rfl
   | true =>
    simp only [cond_false, cond_true, Option.bind_some, Bool.not_false, Bool.true_and]
    rw [wap (by omega), show ((v : Int) + 1) = ((v + 1 : Nat) : Int) by omega]
    exact ih
end Go.Pv

namespace Go.Pv
end Go.Pv

namespace Go.Pv
def wgh (k : Int) (x : Node) : Bool := !((((decide (x.Mark < 0)) || (decide (k ≤ x.Mark))) || (decide ((x.Cuts.length : Int) = 0))) || (decide (¬(x.To.length : Int) = (x.Cuts.length : Int))))
def wie (k : Int) (d : List Node) (x : Node) : Bool := wgh k x && (!(decide (¬(x.Cuts.getD (x.Cuts.length - 1) default) = 1000)) && whM d x 0 x.Cuts x.To)
theorem wpK {k : Int} {x : Node} (h : wgh k x = true) : 0 ≤ x.Mark ∧ x.Mark < k ∧ 0 < x.Cuts.length ∧ x.To.length = x.Cuts.length := by
 simp only [wgh, Bool.not_eq_true', Bool.or_eq_false_iff, decide_eq_false_iff_not, Decidable.not_not] at h
 omega
theorem ws6 (k : Int) (d : List Node) (x : Node) (hb : x.Cuts.length ≤ 1000000) : wfj k d x = some (wie k d x) := by
 unfold wfj wie
 cases hh : wgh k x with
 | false =>
  have h1 : ((((decide (x.Mark < 0)) || (decide (k ≤ x.Mark))) || (decide ((x.Cuts.length : Int) = 0))) || (decide (¬(x.To.length : Int) = (x.Cuts.length : Int)))) = true := by
   unfold wgh at hh; exact (Bool.not_eq_false' ..).mp hh
  rw [h1]; rfl
 | true =>
  obtain ⟨g1, g2, g3, g4⟩ := wpK hh
  have h1 : ((((decide (x.Mark < 0)) || (decide (k ≤ x.Mark))) || (decide ((x.Cuts.length : Int) = 0))) || (decide (¬(x.To.length : Int) = (x.Cuts.length : Int)))) = false := by
   have := hh; unfold wgh at this; exact (Bool.not_eq_true' ..).mp this
  have h2 : idx x.Cuts (IntKind.i64.wrap ((x.Cuts.length : Int) - 1)) = some (x.Cuts.getD (x.Cuts.length - 1) default) := by
   rw [wap (by omega), wnt (by omega) (by omega)]
   congr 2; omega
  rw [h1, cond_false, h2]
  simp only [Option.bind_some, Bool.true_and]
  cases decide (¬(x.Cuts.getD (x.Cuts.length - 1) default) = 1000) with
  | true => rfl
  | false =>
   have hn := wot d x g4 hb x.Cuts.length 0 0 (by omega)
   rw [show ((0 : Nat) : Int) = 0 from rfl, List.drop_zero, List.drop_zero] at hn
   rw [cond_false, hn]
   cases whM d x 0 x.Cuts x.To <;> rfl
end Go.Pv

namespace Go.Pv
theorem wqt (k : Int) (d : List Node) (hd : d.length ≤ 9223372036854775807) (hb : ∀ x ∈ d, x.Cuts.length ≤ 1000000) : wbQ d k d = some (d.any fun x => !wie k d x) := by
 have hi : wb2 d k d = some (match d.findIdx? (fun x => !wie k d x) with | some j => (j : Int) | none => -1) := by
  unfold wb2
  have h := wfG (s := d) (p := fun x => wcE x k d) (q := fun x => !wie k d x) (f := wdh d k d) hd (fun v => rfl) (fun x hx => by
   show wcE x k d = _
   unfold wcE
   rw [ws6 k d x (hb x hx), Option.bind_some]) (d.length) 0 (by omega)
  rw [show ((0 : Nat) : Int) = 0 from rfl] at h
  rw [h, List.drop_zero]
  cases d.findIdx? (fun x => !wie k d x) <;> simp
 unfold wbQ
 rw [hi, Option.bind_some]
 exact congrArg some (whu d _)
end Go.Pv

namespace Go.Pv
theorem wpM {s l : List Int} {m : Int} {c e : List Int} {v : Int} (hs : s.length ≤ 9223372036854775807) (hv : idx l m = some v) : wcc s l m c e = some (match s.findIdx? (fun c => decide (v < c)) with | some j => (j : Int) | none => -1) := by
 unfold wcc
 have h := wfG (s := s) (p := fun x => wcF x l m c e) (q := fun c => decide (v < c)) (f := wdt s l m c e) hs (fun v => rfl) (fun x _ => by
  show wcF x l m c e = _
  unfold wcF
  rw [hv, Option.bind_some]) (s.length) 0 (by omega)
 rw [show ((0 : Nat) : Int) = 0 from rfl] at h
 rw [h, List.drop_zero]
 cases s.findIdx? (fun c => decide (v < c)) <;> simp
end Go.Pv

namespace Go.Pv
end Go.Pv

namespace Go.Pv
theorem whv {x : Int} (h : 0 ≤ x ∧ x < 4294967296) : IntKind.u32.wrap x = x := by
 have : IntKind.u32.wrap x = x % 4294967296 := by simp [IntKind.wrap, IntKind.bits, IntKind.signed]
 rw [this]; exact Int.emod_eq_of_lt h.1 h.2
theorem wf5 {a : Nat} (h : a < 4294967296) : (BitVec.ofInt IntKind.u32.bits (a : Int)).toNat = a := by
 rw [BitVec.toNat_ofInt, show ((2 ^ IntKind.u32.bits : Nat) : Int) = 4294967296 by decide, Int.emod_eq_of_lt (by omega) (by omega), Int.toNat_natCast]
theorem wlZ {a b : Nat} (ha : a < 4294967296) (hb : b < 4294967296) : IntKind.u32.wrap ↑(BitVec.ofInt IntKind.u32.bits (a : Int) &&& BitVec.ofInt IntKind.u32.bits (b : Int)).toNat = ((a &&& b : Nat) : Int) := by
 rw [BitVec.toNat_and, wf5 ha, wf5 hb]
 have := Nat.and_le_left (n := a) (m := b)
 exact whv (by omega)
theorem wtu {a b : Nat} (ha : a < 4294967296) (hb : b < 4294967296) : IntKind.u32.wrap ↑(BitVec.ofInt IntKind.u32.bits (a : Int) ||| BitVec.ofInt IntKind.u32.bits (b : Int)).toNat = ((a ||| b : Nat) : Int) := by
 rw [BitVec.toNat_or, wf5 ha, wf5 hb]
 have : a ||| b < 2 ^ 32 := Nat.or_lt_two_pow (by omega) (by omega)
 exact whv (by omega)
theorem wnZ {i : Nat} (h : i < 32) : IntKind.u32.wrap (1 * (2 ^ (min ((i : Int)).toNat 32))) = ((2 ^ i : Nat) : Int) := by
 rw [Int.toNat_natCast, Nat.min_eq_left (by omega), Int.one_mul]
 have h1 : 2 ^ i < 2 ^ 32 := Nat.pow_lt_pow_right (by omega) h
 have e : (2 : Int) ^ i = ((2 ^ i : Nat) : Int) := by simp
 rw [e]
 generalize (2 : Nat) ^ i = q at h1
 exact whv (by omega)
theorem ws7 {i : Nat} (h : i < 32) : IntKind.i64.wrap (1 * (2 ^ (min ((i : Int)).toNat 64))) = ((2 ^ i : Nat) : Int) := by
 rw [Int.toNat_natCast, Nat.min_eq_left (by omega), Int.one_mul]
 have h1 : 2 ^ i < 2 ^ 32 := Nat.pow_lt_pow_right (by omega) h
 have e : (2 : Int) ^ i = ((2 ^ i : Nat) : Int) := by simp
 rw [e]
 generalize (2 : Nat) ^ i = q at h1
 exact wap (by omega)
theorem ws8 (a i : Nat) : a &&& 2 ^ i = cond (a.testBit i) (2 ^ i) 0 := by
 apply Nat.eq_of_testBit_eq
 intro j
 rw [Nat.testBit_and, Nat.testBit_two_pow]
 by_cases h : i = j
 ·subst h
  cases hb : a.testBit i <;> simp [Nat.testBit_two_pow]
 ·cases hb : a.testBit i <;> simp [Nat.testBit_two_pow, h]
theorem ws9 (a i : Nat) (hi : i < 64) : decide ((((a : Int)).fdiv (2 ^ (min ((i : Int)).toNat 64))).tmod 2 = 1) = a.testBit i := by
 rw [Int.toNat_natCast, Nat.min_eq_left (by omega)]
 have e : (2 : Int) ^ i = ((2 ^ i : Nat) : Int) := by simp
 rw [e, Int.fdiv_eq_ediv_of_nonneg _ (Int.natCast_nonneg _), ← Int.natCast_ediv, Int.tmod_eq_emod_of_nonneg (Int.natCast_nonneg _)]
 rw [Nat.testBit_eq_decide_div_mod_eq, decide_eq_decide]
 omega
theorem wsv {a i : Nat} (ha : a < 4294967296) (hi : i < 32) : decide (¬(IntKind.u32.wrap ↑(BitVec.ofInt IntKind.u32.bits (a : Int) &&& BitVec.ofInt IntKind.u32.bits (IntKind.u32.wrap (1 * (2 ^ (min ((i : Int)).toNat 32))))).toNat) = 0) = a.testBit i := by
 have h1 : 2 ^ i < 2 ^ 32 := Nat.pow_lt_pow_right (by omega) hi
 rw [wnZ hi, wlZ ha (by omega), ws8]
 have h2 : 0 < 2 ^ i := Nat.two_pow_pos i
 generalize (2 : Nat) ^ i = q at h2
 cases a.testBit i with
 | true => rw [cond_true]; exact decide_eq_true (by omega)
 | false => rfl
def wif {α : Type} (p : α → Bool) : Nat → List α → Nat
 | _, [] => 0
 | i, x :: l => (cond (p x) (2 ^ i) 0) ||| wif p (i + 1) l
theorem wiZ {α : Type} (p : α → Bool) : ∀ (l : List α) (i j : Nat), (wif p i l).testBit j = (decide (i ≤ j) && ((l[j - i]?).map p).getD false)
 | [], i, j => by simp [wif]
 | x :: l, i, j => by
  rw [wif, Nat.testBit_or, wiZ p l (i + 1) j]
  by_cases h : i ≤ j
  ·by_cases h2 : i = j
   ·subst h2
    cases hp : p x with
    | true => simp [hp]
    | false => simp [hp]; intro h3; omega
   ·have e1 : (cond (p x) (2 ^ i) 0).testBit j = false := by
     cases p x with
     | true => exact Nat.testBit_two_pow_of_ne h2
     | false => simp
    rw [e1, show j - i = (j - (i + 1)) + 1 by omega, List.getElem?_cons_succ]
    simp [h, show i + 1 ≤ j by omega]
  ·have e1 : (cond (p x) (2 ^ i) 0).testBit j = false := by
    cases p x with
    | true => exact Nat.testBit_two_pow_of_ne (by omega)
    | false => simp
   rw [e1]
   simp [h, show ¬ i + 1 ≤ j by omega]
theorem wpN {α : Type} (p : α → Bool) : ∀ (l : List α) (i n : Nat), i + l.length ≤ n → wif p i l < 2 ^ n
 | [], i, n, _ => Nat.two_pow_pos n
 | x :: l, i, n, h => by
  simp only [List.length_cons] at h
  refine Nat.or_lt_two_pow ?_ (wpN p l (i + 1) n (by omega))
  cases p x with
  | true => exact Nat.pow_lt_pow_right (by omega) (by omega)
  | false => exact Nat.two_pow_pos n
def inB (mark : Nat) (x : Int) (r : Rule) : Bool := (decide ((war r mark).Lo ≤ x)) && (decide (x < (war r mark).Hi))
def wb0 (t : List Rule) (mark : Nat) (x : Int) : Nat := wif (inB mark x) 0 t
theorem wmE {r : Rule} {mark : Nat} (h : mark < r.Bands.length) : idx r.Bands (mark : Int) = some (war r mark) := by
 rw [wnt (by omega) (by omega), Int.toNat_natCast]; rfl
theorem wou (t : List Rule) (mark : Nat) (x : Int) (ht : t.length ≤ 24) (hm : ∀ r ∈ t, mark < r.Bands.length) : ∀ (n i : Nat) (out : Nat), n = t.length - i → out < 2 ^ 24 → iter (wcO t (mark : Int) x) ((out : Int), (i : Int)) = some ((out ||| wif (inB mark x) i (t.drop i) : Nat) : Int)
 | 0, i, out, hn, ho => by
  have h1 : decide ((i : Int) < (t.length : Int)) = false := by simp; omega
  rw [wcq (t) (by omega)]
  refine wbJ ?_
  unfold wcO
  simp only [h1, cond_false, wif, Nat.or_zero]
 | n + 1, i, out, hn, ho => by
  have hi : i < t.length := by omega
  have h1 : decide ((i : Int) < (t.length : Int)) = true := by simp; omega
  have h2 : idx t (i : Int) = some t[i] := by unfold idx; simp [hi]
  have hmi := hm t[i] (List.getElem_mem hi)
  have hp : (2 : Nat) ^ i < 2 ^ 24 := Nat.pow_lt_pow_right (by omega) (by omega)
  rw [List.drop_eq_getElem_cons hi, wif]
  have ho2 : out ||| cond (inB mark x t[i]) (2 ^ i) 0 < 2 ^ 24 := Nat.or_lt_two_pow ho (by cases inB mark x t[i] <;> simp <;> omega)
  have ih := wou t mark x ht hm n (i + 1) (out ||| cond (inB mark x t[i]) (2 ^ i) 0) (by omega) ho2
  rw [Nat.or_assoc] at ih
  refine wbI ?_ ih
  unfold wcO
  simp only [h1, cond_true, h2, Option.bind_some, wmE hmi]
  have e : ((decide ((war t[i] mark).Lo ≤ x)) && (decide (x < (war t[i] mark).Hi))) = inB mark x t[i] := rfl
  rw [e, wap (by omega)]
  cases inB mark x t[i] with
  | true =>
   simp only [cond_true]
   rw [wdA (by omega), wnZ (by omega), wtu (by omega) (by omega)]
   rfl
  | false => simp only [cond_false, Nat.or_zero, Option.bind_some]; rfl
theorem wn0 (t : List Rule) (mark : Nat) (x : Int) (ht : t.length ≤ 24) (hm : ∀ r ∈ t, mark < r.Bands.length) : wbx t (mark : Int) x = some (wb0 t mark x : Int) := by
 unfold wbx
 have h := wou t mark x ht hm t.length 0 0 (by omega) (by omega)
 rw [Nat.zero_or, List.drop_zero, show (((0 : Nat) : Int), ((0 : Nat) : Int)) = ((0 : Int), (0 : Int)) from rfl] at h
 rw [h]; rfl
end Go.Pv

namespace Go.Pv
def wdJ (a : Nat) : Nat → Nat → Option Nat
 | _, 0 => none
 | i, n + 1 => cond (a.testBit i) (some i) (wdJ a (i + 1) n)
def wbX (a : Nat) : Int := match wdJ a 0 24 with | some i => (i : Int) | none => -1
theorem wkD (a : Nat) (ha : a < 4294967296) : ∀ (n i : Nat), n = 24 - i → iter (wbs (a : Int)) (i : Int) = some (match wdJ a i n with | some j => .inr (j : Int) | none => .inl ())
 | 0, i, hn => by
  refine wbJ ?_
  unfold wbs
  rw [decide_eq_false (by omega)]; rfl
 | n + 1, i, hn => by
  rw [wby]
  have hf : wbs (a : Int) (i : Int) = cond (a.testBit i) (some (.inr (.inr (i : Int)))) (some (.inl ((i + 1 : Nat) : Int))) := by
   unfold wbs
   rw [decide_eq_true (by omega), cond_true, wdA (by omega), wsv ha (by omega), wap (by omega)]
   rfl
  rw [hf]
  simp only [wdJ]
  cases a.testBit i with
  | true => rfl
  | false => exact wkD a ha n (i + 1) (by omega)
theorem wji (a : Nat) (ha : a < 4294967296) : waV (a : Int) = some (wbX a) := by
 unfold waV wbX
 have h := wkD a ha 24 0 (by omega)
 rw [show ((0 : Nat) : Int) = 0 from rfl] at h
 rw [h]
 cases wdJ a 0 24 <;> rfl
def weI (t : List Rule) (a : Nat) : Int := if wbX a < 0 then -1 else (t.getD (wbX a).toNat default).Code
theorem wkE {a : Nat} : ∀ {n i j : Nat}, wdJ a i n = some j → a.testBit j = true ∧ j < i + n
 | 0, i, j, h => by cases h
 | n + 1, i, j, h => by
  simp only [wdJ] at h
  cases hb : a.testBit i with
  | true => rw [hb] at h; cases h; exact ⟨hb, by omega⟩
  | false =>
   rw [hb] at h
   obtain ⟨h1, h2⟩ := wkE (n := n) h
   exact ⟨h1, by omega⟩
theorem wi0 {a n : Nat} (ha : a < 2 ^ n) (h : ¬ wbX a < 0) : (wbX a).toNat < n := by
 unfold wbX at h ⊢
 cases hf : wdJ a 0 24 with
 | none => rw [hf] at h; exact absurd (by decide) h
 | some j =>
  obtain ⟨h1, _⟩ := wkE hf
  simp only [Int.toNat_natCast]
  refine Nat.lt_of_not_le fun hge => ?_
  have : a < 2 ^ j := Nat.lt_of_lt_of_le ha (Nat.pow_le_pow_right (by omega) hge)
  rw [Nat.testBit_lt_two_pow this] at h1
  cases h1
theorem wov (t : List Rule) (a : Nat) (ha : a < 2 ^ t.length) : wdd t (wbX a) = some (weI t a) := by
 unfold wdd weI
 by_cases h : wbX a < 0
 ·rw [decide_eq_true h, if_pos h]; rfl
 ·have := wi0 ha h
  rw [decide_eq_false h, if_neg h, cond_false, wnt (by omega) (by omega)]; rfl
def wb8 (t : List Rule) : Nat := 2 ^ t.length - 1
theorem whi (t : List Rule) : wb8 t < 2 ^ t.length := by
 have := Nat.two_pow_pos t.length
 unfold wb8; omega
theorem wmF (t : List Rule) (ht : t.length ≤ 24) : wb1 t = some (wb8 t : Int) := by
 unfold wb1 wb8
 have h1 : 2 ^ t.length ≤ 2 ^ 24 := Nat.pow_le_pow_right (by omega) ht
 have h2 := Nat.two_pow_pos t.length
 rw [wdA (by omega), wnZ (by omega)]
 generalize (2 : Nat) ^ t.length = q at h1 h2
 rw [whv (by omega)]
 congr 1; omega
theorem wta (t : List Rule) (ht : t.length ≤ 24) : wdb t = some (wb8 t : Int) := by
 rw [wiY]
 unfold wlz wb8
 have h1 : 2 ^ t.length ≤ 2 ^ 24 := Nat.pow_le_pow_right (by omega) ht
 have h2 := Nat.two_pow_pos t.length
 rw [ws7 (by omega)]
 generalize (2 : Nat) ^ t.length = q at h1 h2
 rw [wap (by omega)]
 congr 1; omega
end Go.Pv

set_option linter.unusedSimpArgs false
set_option linter.unusedVariables false
namespace Go.Pv
open Go.Lib
theorem wjE {s : List Int} (hs : s.Pairwise (· ≤ ·)) : (compactI s).Pairwise (· < ·) ∧ ∀ x, x ∈ compactI s ↔ x ∈ s := by
 have hle : ∀ i j : Nat, i ≤ j → j < s.length → s.toArray[i]! ≤ s.toArray[j]! := fun i j hij hj => by
  have h1 : s.toArray[i]! = s[i]'(by omega) := by simp [show i < s.length by omega]
  have h2 : s.toArray[j]! = s[j] := by simp [hj]
  rw [h1, h2]
  rcases Nat.lt_or_ge i j with h | h
  ·exact List.pairwise_iff_getElem.1 hs i j (by omega) hj h
  ·have : i = j := by omega
   subst this; exact Int.le_refl _
 have key : ∀ m : Nat, m ≤ s.length → (compactUpTo s.toArray m).Pairwise (· < ·) ∧ (∀ x ∈ compactUpTo s.toArray m, ∃ j, j < m ∧ x = s.toArray[j]!) ∧ ∀ j, j < m → s.toArray[j]! ∈ compactUpTo s.toArray m := by
  intro m
  induction m with
  | zero => intro _; exact ⟨by simp [compactUpTo], fun x hx => by simp [compactUpTo] at hx, fun j hj => absurd hj (by omega)⟩
  | succ m ih =>
   intro hm
   obtain ⟨h1, h2, h3⟩ := ih (by omega)
   rw [compactUpTo_succ]
   cases hk : keeps s.toArray m with
   | true =>
    simp only [if_true]
    refine ⟨?_, fun x hx => ?_, fun j hj => ?_⟩
    ·rw [List.pairwise_append]
     refine ⟨h1, by simp, fun x hx y hy => ?_⟩
     have hy := List.mem_singleton.1 hy
     obtain ⟨j, hj, e⟩ := h2 x hx
     simp only [keeps, decide_eq_true_eq] at hk
     have a1 := hle j (m - 1) (by omega) (by omega)
     have a2 := hle (m - 1) m (by omega) (by omega)
     rw [e, hy]
     rcases hk with h | h
     ·omega
     ·omega
    ·rcases List.mem_append.1 hx with h | h
     ·obtain ⟨j, hj, e⟩ := h2 x h
      exact ⟨j, by omega, e⟩
     ·simp only [List.mem_singleton] at h
      exact ⟨m, by omega, h⟩
    ·rcases Nat.lt_or_ge j m with h | h
     ·exact List.mem_append_left _ (h3 j h)
     ·have : j = m := by omega
      subst this
      exact List.mem_append_right _ (List.mem_singleton.2 rfl)
   | false =>
    simp only [Bool.false_eq_true, if_false, List.append_nil]
    refine ⟨h1, fun x hx => ?_, fun j hj => ?_⟩
    ·obtain ⟨j, hj, e⟩ := h2 x hx
     exact ⟨j, by omega, e⟩
    ·rcases Nat.lt_or_ge j m with h | h
     ·exact h3 j h
     ·have : j = m := by omega
      subst this
      simp only [keeps, decide_eq_false_iff_not] at hk
      have e : s.toArray[j]! = s.toArray[j - 1]! := by
       refine Classical.byContradiction fun h => hk (.inr h)
      rw [e]
      refine h3 (j - 1) ?_
      have : j ≠ 0 := fun h => hk (.inl h)
      omega
 obtain ⟨h1, h2, h3⟩ := key s.length (Nat.le_refl _)
 unfold compactI compact
 refine ⟨h1, fun x => ⟨fun hx => ?_, fun hx => ?_⟩⟩
 ·obtain ⟨j, hj, e⟩ := h2 x hx
  rw [e, show s.toArray[j]! = s[j] by simp [hj]]
  exact List.getElem_mem hj
 ·obtain ⟨j, hj, rfl⟩ := List.getElem_of_mem hx
  rw [show s[j] = s.toArray[j]! by simp [hj]]
  exact h3 j hj
theorem wnu (l : List Int) : (sortI l).Perm l := by unfold sortI; exact List.mergeSort_perm l _
theorem wlA (l : List Int) : (sortI l).Pairwise (· ≤ ·) := by
 unfold sortI
 have := List.pairwise_mergeSort (le := fun x y : Int => decide (x ≤ y)) (fun a b c h1 h2 => by simp at *; omega) (fun a b => by simp; omega) l
 simpa using this
theorem wpO (l : List Int) : List.take ((compactI l).length) (waJ l) = compactI l := by
 unfold waJ; simp
def wfI (mark : Nat) (t : List Rule) : List Int := t.flatMap fun r => [(war r mark).Lo, (war r mark).Hi]
theorem wki (mark : Nat) : ∀ t : List Rule, (wfI mark t).length = 2 * t.length
 | [] => rfl
 | r :: t => by
  have := wki mark t
  unfold wfI at this ⊢
  simp only [List.flatMap_cons, List.length_append, List.length_cons, List.length_nil, this]; omega
theorem wnv (mark : Nat) (t : List Rule) (ht : t.length ≤ 24) (hm : ∀ r ∈ t, mark < r.Bands.length) : ∀ (n i : Nat) (L : List Int), n = t.length - i → L.length + 2 * n ≤ 1000 → iter (wcM (mark : Int) t) ((i : Int), L) = some (L ++ wfI mark (t.drop i))
 | 0, i, L, hn, hL => by
  rw [wcq (t) (by omega)]
  refine wbJ ?_
  unfold wcM
  dsimp only
  rw [decide_eq_false (by omega)]
  simp [wfI]
 | n + 1, i, L, hn, hL => by
  have hi : i < t.length := by omega
  have h2 : idx t (i : Int) = some t[i] := by unfold idx; simp [hi]
  have hmi := hm t[i] (List.getElem_mem hi)
  have ih := wnv mark t ht hm n (i + 1) (L ++ [(war t[i] mark).Lo, (war t[i] mark).Hi]) (by omega) (by simp; omega)
  rw [List.append_assoc] at ih
  rw [List.drop_eq_getElem_cons hi]
  refine wbI ?_ ih
  unfold wcM
  dsimp only
  rw [decide_eq_true (by omega), cond_true, h2]
  simp only [Option.bind_some, wmE hmi]
  rw [wdA (by simp; omega), wap (by omega)]
  rfl
theorem wkj (mark : Nat) (ts : List (List Rule)) (hts : ts.length ≤ 2) (ht : ∀ t ∈ ts, t.length ≤ 24 ∧ ∀ r ∈ t, mark < r.Bands.length) : ∀ (n i : Nat) (L : List Int), n = ts.length - i → L.length + 48 * n ≤ 900 → iter (wcN (mark : Int) ts) ((i : Int), L) = some (L ++ (ts.drop i).flatMap (wfI mark))
 | 0, i, L, hn, hL => by
  rw [wcq (ts) (by omega)]
  refine wbJ ?_
  unfold wcN
  dsimp only
  rw [decide_eq_false (by omega)]
  simp
 | n + 1, i, L, hn, hL => by
  have hi : i < ts.length := by omega
  have h2 : idx ts (i : Int) = some ts[i] := by unfold idx; simp [hi]
  obtain ⟨hl, hmi⟩ := ht ts[i] (List.getElem_mem hi)
  have hlen := wki mark ts[i]
  have ih := wkj mark ts hts ht n (i + 1) (L ++ wfI mark ts[i]) (by omega) (by simp; omega)
  rw [List.append_assoc] at ih
  rw [List.drop_eq_getElem_cons hi]
  refine wbI ?_ ih
  unfold wcN
  dsimp only
  have h3 := wnv mark ts[i] hl hmi ts[i].length 0 L (by omega) (by omega)
  rw [show ((0 : Nat) : Int) = 0 from rfl, List.drop_zero] at h3
  rw [decide_eq_true (by omega), cond_true, h2]
  simp only [Option.bind_some]
  rw [h3, wap (by omega)]
  rfl
structure Cuts (mark : Nat) (ts : List (List Rule)) (cs : List Int) : Prop where
 up : cs.Pairwise (· < ·)
 pos : ∀ c ∈ cs, 0 < c ∧ c ≤ 1000
 last : (1000 : Int) ∈ cs
 lo : ∀ t ∈ ts, ∀ r ∈ t, 0 < (war r mark).Lo → (war r mark).Lo ∈ cs
 hi : ∀ t ∈ ts, ∀ r ∈ t, (war r mark).Hi ∈ cs
theorem wow (mark : Nat) (ts : List (List Rule)) (hts : ts.length ≤ 2) (ht : ∀ t ∈ ts, t.length ≤ 24 ∧ ∀ r ∈ t, mark < r.Bands.length) (hb : ∀ t ∈ ts, ∀ r ∈ t, 0 ≤ (war r mark).Lo ∧ (war r mark).Lo < (war r mark).Hi ∧ (war r mark).Hi ≤ 1000) :
  ∃ cs, wa6 (mark : Int) ts = some cs ∧ Cuts mark ts cs ∧ cs.length ≤ 97 := by
 unfold wa6
 have h1 := wkj mark ts hts ht ts.length 0 [1000] (by omega) (by simp; omega)
 rw [show ((0 : Nat) : Int) = 0 from rfl, List.drop_zero] at h1
 rw [h1]
 simp only [Option.bind_some]
 generalize hL : [1000] ++ ts.flatMap (wfI mark) = L
 have hlen : L.length ≤ 97 := by
  rw [← hL]
  have : ∀ l : List (List Rule), (∀ t ∈ l, t.length ≤ 24) → (l.flatMap (wfI mark)).length ≤ 48 * l.length := fun l => by
   induction l with
   | nil => simp
   | cons t l ih =>
    intro h
    have a := ih fun t ht => h t (List.mem_cons_of_mem _ ht)
    have b := wki mark t
    have c := h t (List.mem_cons_self ..)
    simp only [List.flatMap_cons, List.length_append, List.length_cons]; omega
  have := this ts fun t h => (ht t h).1
  simp only [List.length_append, List.length_cons, List.length_nil]; omega
 have hmem : ∀ x, x ∈ L ↔ x = 1000 ∨ ∃ t ∈ ts, ∃ r ∈ t, x = (war r mark).Lo ∨ x = (war r mark).Hi := fun x => by
  rw [← hL]
  simp [wfI]
 have hge : ∀ x ∈ L, 0 ≤ x ∧ x ≤ 1000 := fun x hx => by
  rcases (hmem x).1 hx with rfl | ⟨t, ht1, r, hr, h | h⟩
  ·omega
  ·have := hb t ht1 r hr; omega
  ·have := hb t ht1 r hr; omega
 rw [wdA (by omega), wdA (by rw [sortI_length]; omega), wpO]
 obtain ⟨hup, hcm⟩ := wjE (wlA L)
 have hcm2 : ∀ x, x ∈ compactI (sortI L) ↔ x ∈ L := fun x => (hcm x).trans (wnu L).mem_iff
 have hcl : (compactI (sortI L)).length ≤ L.length := by
  refine Nat.le_trans ?_ (Nat.le_of_eq (sortI_length L))
  unfold compactI Go.Lib.compact compactUpTo
  rw [List.length_map]
  exact Nat.le_trans (List.length_filter_le _ _) (by simp)
 have h1000 : (1000 : Int) ∈ compactI (sortI L) := (hcm2 _).2 ((hmem _).2 (.inl rfl))
 generalize compactI (sortI L) = C at hup hcm2 hcl h1000
 cases C with
 | nil => simp at h1000
 | cons c C =>
  have e0 : idx (c :: C) 0 = some c := rfl
  rw [e0]
  simp only [Option.bind_some]
  rw [List.pairwise_cons] at hup
  by_cases hc : c = 0
  ·subst hc
   rw [decide_eq_true rfl, cond_true, wdA (by simp; omega)]
   have e1 : ((0 :: C).drop 1).take (((((0 : Int) :: C).length : Int)) - 1).toNat = C := by
    simp
   rw [e1]
   refine ⟨C, rfl, ⟨hup.2, fun x hx => ⟨hup.1 x hx, (hge x ((hcm2 x).1 (List.mem_cons_of_mem _ hx))).2⟩, ?_, fun t h1 r h2 h3 => ?_, fun t h1 r h2 => ?_⟩, by simp at hcl; omega⟩
   ·rcases List.mem_cons.1 h1000 with h | h
    ·omega
    ·exact h
   ·rcases List.mem_cons.1 ((hcm2 _).2 ((hmem _).2 (.inr ⟨t, h1, r, h2, .inl rfl⟩))) with h | h
    ·omega
    ·exact h
   ·rcases List.mem_cons.1 ((hcm2 _).2 ((hmem _).2 (.inr ⟨t, h1, r, h2, .inr rfl⟩))) with h | h
    ·have := hb t h1 r h2; omega
    ·exact h
  ·rw [decide_eq_false hc, cond_false]
   have hc0 := hge c ((hcm2 c).1 (List.mem_cons_self ..))
   refine ⟨c :: C, rfl, ⟨List.pairwise_cons.2 hup, fun x hx => ⟨?_, (hge x ((hcm2 x).1 hx)).2⟩, h1000, fun t h1 r h2 h3 => (hcm2 _).2 ((hmem _).2 (.inr ⟨t, h1, r, h2, .inl rfl⟩)), fun t h1 r h2 => (hcm2 _).2 ((hmem _).2 (.inr ⟨t, h1, r, h2, .inr rfl⟩))⟩, by omega⟩
   rcases List.mem_cons.1 hx with rfl | hx
   ·omega
   ·have := hup.1 x hx; omega
end Go.Pv

namespace Go.Pv
def wdy (t : List Rule) : Nat → Nat → List Int → Nat
 | _, a, [] => a
 | mark, a, x :: xs => wdy t (mark + 1) (a &&& wb0 t mark x) xs
def Pts (n : Nat) (xs : List Int) : Prop := xs.length = n ∧ ∀ x ∈ xs, 0 ≤ x ∧ x < 1000
def wi1 : List Int → List Int → Prop
 | [], _ => True
 | _ :: _, [] => False
 | x :: xs, y :: ys => x < y ∨ (x = y ∧ wi1 xs ys)
theorem wnw : ∀ {xs ys : List Int}, xs.length = ys.length → wi1 xs ys → wi1 ys xs → xs = ys
 | [], [], _, _, _ => rfl
 | [], _ :: _, h, _, _ => by simp at h
 | _ :: _, [], h, _, _ => by simp at h
 | x :: xs, y :: ys, h, h1, h2 => by
  simp only [wi1] at h1 h2
  have e : x = y := by omega
  subst e
  have h3 : wi1 xs ys := h1.elim (fun h => by omega) (fun h => h.2)
  have h4 : wi1 ys xs := h2.elim (fun h => by omega) (fun h => h.2)
  rw [wnw (by simpa using h) h3 h4]
structure Ans (s t : List Rule) (P : Nat → Nat → Bool) (mark n a b : Nat) (f : Bool) (xs : List Int) : Prop where
 hit : f = true → Pts n xs ∧ P (wdy s mark a xs) (wdy t mark b xs) = true ∧ ∀ ys, Pts n ys → P (wdy s mark a ys) (wdy t mark b ys) = true → wi1 xs ys
 miss : f = false → xs = [] ∧ ∀ ys, Pts n ys → P (wdy s mark a ys) (wdy t mark b ys) = false
theorem Ans.uniq {s t : List Rule} {P : Nat → Nat → Bool} {mark n a b : Nat} {f g : Bool} {xs ys : List Int} (h : Ans s t P mark n a b f xs) (h' : Ans s t P mark n a b g ys) : f = g ∧ xs = ys := by
 cases f with
 | true =>
  obtain ⟨h1, h2, h3⟩ := h.hit rfl
  cases g with
  | true =>
   obtain ⟨g1, g2, g3⟩ := h'.hit rfl
   exact ⟨rfl, wnw (h1.1.trans g1.1.symm) (h3 _ g1 g2) (g3 _ h1 h2)⟩
  | false =>
   have := (h'.miss rfl).2 _ h1
   rw [h2] at this; cases this
 | false =>
  obtain ⟨h1, h2⟩ := h.miss rfl
  cases g with
  | true =>
   obtain ⟨g1, g2, g3⟩ := h'.hit rfl
   have := h2 _ g1
   rw [g2] at this; cases this
  | false => exact ⟨rfl, h1.trans (h'.miss rfl).1.symm⟩
def wlB (mark : Nat) (t : List Rule) (a : Nat) (cs : List Int) : Prop :=
 ∀ (i : Nat) (r : Rule), t[i]? = some r → a.testBit i = true → (0 < (war r mark).Lo → (war r mark).Lo ∈ cs) ∧ (war r mark).Hi ∈ cs
theorem wkk {mark : Nat} {t : List Rule} {a : Nat} {cs : List Int} (h : wlB mark t a cs) {u x : Int} (h0 : 0 ≤ u) (hu : u ≤ x) (hc : ∀ c ∈ cs, ¬ (u < c ∧ c ≤ x)) : a &&& wb0 t mark x = a &&& wb0 t mark u := by
 apply Nat.eq_of_testBit_eq
 intro j
 rw [Nat.testBit_and, Nat.testBit_and]
 unfold wb0
 rw [wiZ, wiZ]
 cases hb : a.testBit j with
 | false => simp
 | true =>
  cases ht : t[j]? with
  | none => simp [ht]
  | some r =>
   obtain ⟨h1, h2⟩ := h j r ht hb
   have e : inB mark x r = inB mark u r := by
    unfold inB
    have e1 : decide ((war r mark).Lo ≤ x) = decide ((war r mark).Lo ≤ u) := by
     rw [decide_eq_decide]
     constructor
     ·intro h3
      refine Int.not_lt.1 fun h4 => ?_
      exact hc _ (h1 (by omega)) ⟨h4, h3⟩
     ·intro h3; omega
    have e2 : decide (x < (war r mark).Hi) = decide (u < (war r mark).Hi) := by
     rw [decide_eq_decide]
     constructor
     ·intro h3; omega
     ·intro h3
      refine Int.not_le.1 fun h4 => ?_
      exact hc _ h2 ⟨h3, h4⟩
    rw [e1, e2]
   simp [ht, e]
def whN {σ : Type} (rec : σ → Int → Option (List Int × Bool × σ)) : Int → List Int → σ → Option (σ ⊕ (List Int × Bool × σ))
 | _, [], M => some (.inl M)
 | u, c :: cs, M => (rec M u).bind fun r => cond r.2.1 (wah (1 + r.1.length ≤ 4294967296) (some (.inr (u :: r.1, true, r.2.2)))) (whN rec c cs r.2.2)
theorem wpP {σ : Type} {rec : σ → Int → Option (List Int × Bool × σ)} {s t : List Rule} {P : Nat → Nat → Bool} {mark n a b : Nat} (J : σ → Prop) (sz : σ → Nat) (B C : Nat) (hn : n ≤ 1000) {all : List Int} (hs : wlB mark s a all) (ht : wlB mark t b all)
  (hrec : ∀ M u, J M → sz M + B ≤ C → 0 ≤ u → u < 1000 → ∃ xs f M', rec M u = some (xs, f, M') ∧ J M' ∧ sz M' ≤ sz M + B ∧ Ans s t P (mark + 1) n (a &&& wb0 s mark u) (b &&& wb0 t mark u) f xs) :
  ∀ (cs : List Int) (u : Int) (M : σ), J M → sz M + cs.length * B ≤ C → 0 ≤ u → (u :: cs).Pairwise (· < ·) → (∀ c ∈ all, u < c → c ∈ cs) → (∀ c ∈ cs, c ≤ 1000) → (u < 1000 → (1000 : Int) ∈ cs) → (u = 1000 ∨ u < 1000) → (∀ y ys, 0 ≤ y → y < u → Pts n ys → P (wdy s mark a (y :: ys)) (wdy t mark b (y :: ys)) = false) →
   ∃ r, whN rec u cs M = some r ∧ match r with
    | .inl M' => J M' ∧ sz M' ≤ sz M + cs.length * B ∧ Ans s t P mark (n + 1) a b false []
    | .inr (xs, f, M') => f = true ∧ J M' ∧ sz M' ≤ sz M + cs.length * B ∧ Ans s t P mark (n + 1) a b true xs
 | [], u, M, hJ, hsz, h0, hup, hall, hle, hmem, hu, hno => by
  have hu : u = 1000 := by
   rcases hu with h | h
   ·exact h
   ·have := hmem h; simp at this
  refine ⟨.inl M, rfl, hJ, by simp, ⟨(fun h => by cases h), fun _ => ⟨rfl, fun ys hys => ?_⟩⟩⟩
  cases ys with
  | nil => have := hys.1; simp at this
  | cons y ys =>
   have hy := hys.2 y (List.mem_cons_self ..)
   exact hno y ys hy.1 (by omega) ⟨by have := hys.1; simpa using this, fun x hx => hys.2 x (List.mem_cons_of_mem _ hx)⟩
 | c :: cs, u, M, hJ, hsz, h0, hup, hall, hle, hmem, hu, hno => by
  rw [List.pairwise_cons] at hup
  have huc : u < c := hup.1 c (List.mem_cons_self ..)
  have hc1000 := hle c (List.mem_cons_self ..)
  have hup2 := hup.2
  rw [List.pairwise_cons] at hup2
  have hlen : (c :: cs).length * B = cs.length * B + B := by rw [List.length_cons, Nat.succ_mul]
  rw [hlen] at hsz
  obtain ⟨xs, f, M', h1, h2, h3, h4⟩ := hrec M u hJ (by omega) h0 (by omega)
  have hpiece : ∀ y, u ≤ y → y < c → (a &&& wb0 s mark y = a &&& wb0 s mark u) ∧ (b &&& wb0 t mark y = b &&& wb0 t mark u) := fun y hy1 hy2 => by
   have hcs : ∀ d ∈ all, ¬ (u < d ∧ d ≤ y) := fun d hd ⟨g1, g2⟩ => by
    rcases List.mem_cons.1 (hall d hd g1) with rfl | hm
    ·omega
    ·have := hup2.1 d hm; omega
   exact ⟨wkk hs h0 hy1 hcs, wkk ht h0 hy1 hcs⟩
  simp only [whN, h1, Option.bind_some]
  cases f with
  | true =>
   obtain ⟨k1, k2, k3⟩ := h4.hit rfl
   refine ⟨.inr (u :: xs, true, M'), by rw [cond_true, wdA (by rw [k1.1]; omega)], rfl, h2, by rw [hlen]; omega, ⟨fun _ => ⟨⟨by simp [k1.1], fun x hx => ?_⟩, k2, fun ys hys hP => ?_⟩, fun h => by cases h⟩⟩
   ·rcases List.mem_cons.1 hx with rfl | hx
    ·exact ⟨h0, by omega⟩
    ·exact k1.2 x hx
   ·cases ys with
    | nil => have := hys.1; simp at this
    | cons y ys =>
     have hy := hys.2 y (List.mem_cons_self ..)
     have hys2 : Pts n ys := ⟨by have := hys.1; simpa using this, fun x hx => hys.2 x (List.mem_cons_of_mem _ hx)⟩
     simp only [wi1]
     by_cases hyu : y < u
     ·rw [hno y ys hy.1 hyu hys2] at hP; cases hP
     ·by_cases hyu2 : u = y
      ·subst hyu2
       exact .inr ⟨rfl, k3 ys hys2 hP⟩
      ·exact .inl (by omega)
  | false =>
   obtain ⟨k1, k2⟩ := h4.miss rfl
   have hno2 : ∀ y ys, 0 ≤ y → y < c → Pts n ys → P (wdy s mark a (y :: ys)) (wdy t mark b (y :: ys)) = false := fun y ys hy0 hyc hys => by
    by_cases hyu : y < u
    ·exact hno y ys hy0 hyu hys
    ·obtain ⟨g1, g2⟩ := hpiece y (by omega) hyc
     have := k2 ys hys
     simp only [wdy, g1, g2]
     exact this
   obtain ⟨r, hr1, hr2⟩ := wpP J sz B C hn hs ht hrec cs c M' h2 (by omega) (by omega) hup.2 (fun d hd hcd => by
    rcases List.mem_cons.1 (hall d hd (by omega)) with rfl | hm
    ·omega
    ·exact hm) (fun d hd => hle d (List.mem_cons_of_mem _ hd)) (fun hc => by
    rcases List.mem_cons.1 (hmem (by omega)) with h | h
    ·omega
    ·exact h) (by omega) hno2
   refine ⟨r, hr1, ?_⟩
   cases r with
   | inl M2 => exact ⟨hr2.1, by rw [hlen]; have := hr2.2.1; omega, hr2.2.2⟩
   | inr q =>
    obtain ⟨xs2, f2, M2⟩ := q
    exact ⟨hr2.1, hr2.2.1, by rw [hlen]; have := hr2.2.2.1; omega, hr2.2.2.2⟩
end Go.Pv

namespace Go.Pv
theorem wnx {σ : Type} {rec : σ → Int → Option (List Int × Bool × σ)} {cs : List Int} {f : (Int × Int × σ) → Option ((Int × Int × σ) ⊕ (σ ⊕ (List Int × Bool × σ)))}
  (hf : ∀ u (v : Nat) M e, v < cs.length → idx cs (v : Int) = some e → f (u, (v : Int), M) = (rec M u).bind fun r => cond r.2.1 (wah (1 + r.1.length ≤ 4294967296) (some (.inr (.inr (u :: r.1, true, r.2.2))))) (some (.inl (e, ((v + 1 : Nat) : Int), r.2.2))))
  (hend : ∀ u M, f (u, (cs.length : Int), M) = some (.inr (.inl M))) : ∀ (n v : Nat) (u : Int) (M : σ), n = cs.length - v → v ≤ cs.length → iter f (u, (v : Int), M) = whN rec u (cs.drop v) M
 | 0, v, u, M, hn, hv => by
  have : v = cs.length := by omega
  subst this
  rw [wbJ (hend u M), wcq cs (Nat.le_refl _)]; rfl
 | n + 1, v, u, M, hn, hv => by
  have hv : v < cs.length := by omega
  have e1 : idx cs (v : Int) = some cs[v] := by unfold idx; simp [hv]
  rw [wby, hf u v M cs[v] hv e1, List.drop_eq_getElem_cons hv]
  simp only [whN]
  cases rec M u with
  | none => rfl
  | some r =>
   simp only [Option.bind_some]
   cases r.2.1 with
   | true =>
    simp only [cond_true]
    unfold wah
    split <;> rfl
   | false => exact wnx hf hend n (v + 1) cs[v] r.2.2 (by omega) (by omega)
def wpQ (s t : List Rule) (P : Nat → Nat → Bool) (k : Nat) (M : List (Arr3_Int × Bool)) : Prop :=
 ∀ mark a b : Nat, mark ≤ k → waE (⟨(mark : Int), (a : Int), (b : Int)⟩ : Arr3_Int) M = some true → Ans s t P mark (k - mark) a b false []
def wrO (key : Arr3_Int) : (List (Arr3_Int × Bool)) ⊕ (List Int × Bool × List (Arr3_Int × Bool)) → Option (List Int × Bool × List (Arr3_Int × Bool))
 | .inl M => some ([], false, wcC key true M)
 | .inr r => some r
theorem wlC {mark : Nat} {ts : List (List Rule)} {t : List Rule} {a : Nat} {cs : List Int} (h : Cuts mark ts cs) (ht : t ∈ ts) : wlB mark t a cs := fun i r hr _ => by
 have hm : r ∈ t := List.mem_of_getElem? hr
 exact ⟨h.lo t ht r hm, h.hi t ht r hm⟩
theorem wqE {s t : List Rule} {P : Nat → Nat → Bool} {k : Nat} (hk : k ≤ 4) {F : Nat → List (Arr3_Int × Bool) → Int → Int → Int → Option (List Int × Bool × List (Arr3_Int × Bool))} {cs : Nat → List Int} (hcs : ∀ mark, mark < k → Cuts mark [s, t] (cs mark))
  (hF : ∀ n M (mark a b : Nat), mark ≤ k → a < 2 ^ s.length → b < 2 ^ t.length → F (n + 1) M (mark : Int) (a : Int) (b : Int) = if mark = k then some ([], P a b, M) else
   cond ((waE (⟨(mark : Int), (a : Int), (b : Int)⟩ : Arr3_Int) M).getD false) (some ([], false, M))
    ((whN (fun M u => F n M ((mark + 1 : Nat) : Int) ((a &&& wb0 s mark u : Nat) : Int) ((b &&& wb0 t mark u : Nat) : Int)) 0 (cs mark) M).bind (wrO ⟨(mark : Int), (a : Int), (b : Int)⟩))) :
  ∀ (d n : Nat) M (mark a b : Nat), k - mark = d → d < n → mark ≤ k → a < 2 ^ s.length → b < 2 ^ t.length → wpQ s t P k M → ∃ xs f M', F n M (mark : Int) (a : Int) (b : Int) = some (xs, f, M') ∧ wpQ s t P k M' ∧ Ans s t P mark (k - mark) a b f xs
 | d, 0, M, mark, a, b, hd, hn, hm, ha, hb, hM => by omega
 | 0, n + 1, M, mark, a, b, hd, hn, hm, ha, hb, hM => by
  have : mark = k := by omega
  rw [hF n M mark a b hm ha hb, if_pos this]
  refine ⟨_, _, _, rfl, hM, ?_⟩
  rw [hd]
  refine ⟨fun h => ⟨⟨rfl, fun x hx => by cases hx⟩, h, fun ys _ _ => trivial⟩, fun h => ⟨rfl, fun ys hys => ?_⟩⟩
  have : ys = [] := List.length_eq_zero_iff.1 hys.1
  subst this; exact h
 | d + 1, n + 1, M, mark, a, b, hd, hn, hm, ha, hb, hM => by
  have hne : mark ≠ k := by omega
  rw [hF n M mark a b hm ha hb, if_neg hne]
  cases hmem : (waE (⟨(mark : Int), (a : Int), (b : Int)⟩ : Arr3_Int) M).getD false with
  | true =>
   have h1 : waE (⟨(mark : Int), (a : Int), (b : Int)⟩ : Arr3_Int) M = some true := by
    cases hg : waE (⟨(mark : Int), (a : Int), (b : Int)⟩ : Arr3_Int) M with
    | none => rw [hg] at hmem; cases hmem
    | some v => rw [hg] at hmem; have : v = true := hmem; rw [this]
   exact ⟨_, _, _, rfl, hM, hM mark a b hm h1⟩
  | false =>
   simp only [cond_false]
   have hc := hcs mark (by omega)
   obtain ⟨r, hr1, hr2⟩ := wpP (s := s) (t := t) (P := P) (mark := mark) (n := k - (mark + 1)) (a := a) (b := b) (wpQ s t P k) (fun _ => 0) 0 0 (by omega) (all := cs mark) (wlC hc (by simp)) (wlC hc (by simp))
    (rec := fun M u => F n M ((mark + 1 : Nat) : Int) ((a &&& wb0 s mark u : Nat) : Int) ((b &&& wb0 t mark u : Nat) : Int))
    (fun M u hJ _ h0 h1 => by
     obtain ⟨xs, f, M', g1, g2, g3⟩ := wqE hk hcs hF d n M (mark + 1) (a &&& wb0 s mark u) (b &&& wb0 t mark u) (by omega) (by omega) (by omega) (Nat.lt_of_le_of_lt Nat.and_le_left ha) (Nat.lt_of_le_of_lt Nat.and_le_left hb) hJ
     exact ⟨xs, f, M', g1, g2, Nat.zero_le _, g3⟩)
    (cs mark) 0 M hM (by simp) (by omega) (List.pairwise_cons.2 ⟨fun c h => (hc.pos c h).1, hc.up⟩) (fun c h _ => h) (fun c h => (hc.pos c h).2) (fun _ => hc.last) (by omega) (fun y ys h0 h1 => by omega)
   rw [hr1]
   simp only [Option.bind_some]
   have he : k - mark = (k - (mark + 1)) + 1 := by omega
   rw [he]
   cases r with
   | inr q =>
    obtain ⟨xs, f, M'⟩ := q
    obtain ⟨g1, g2, _, g4⟩ := hr2
    subst g1
    exact ⟨xs, true, M', rfl, g2, g4⟩
   | inl M' =>
    obtain ⟨g2, _, g4⟩ := hr2
    refine ⟨_, _, _, rfl, fun mark' a' b' hm' hg => ?_, g4⟩
    rw [wgo] at hg
    split at hg
    ·rename_i heq
     simp only [Arr3_Int.mk.injEq] at heq
     obtain ⟨e1, e2, e3⟩ := heq
     have e1 : mark' = mark := by omega
     have e2 : a' = a := by omega
     have e3 : b' = b := by omega
     subst e1 e2 e3
     rw [he]; exact g4
    ·exact g2 mark' a' b' hm' hg
end Go.Pv

namespace Go.Pv
theorem wdK {k : Nat} {r : Rule} (h : wbo (k : Int) r = true) {mark : Nat} (hm : mark < k) : mark < r.Bands.length ∧ 0 ≤ (war r mark).Lo ∧ (war r mark).Lo < (war r mark).Hi ∧ (war r mark).Hi ≤ 1000 := by
 have hl := wkh h
 have hlt : mark < r.Bands.length := by omega
 unfold wbo at h
 simp only [Bool.and_eq_true, Bool.not_eq_true', List.any_eq_false] at h
 have hb := h.2 (war r mark) (by
  unfold war
  simp only [List.getD, List.getElem?_eq_getElem hlt, Option.getD_some]
  exact List.getElem_mem hlt)
 simp only [wfn, Bool.or_eq_true, decide_eq_true_eq, not_or] at hb
 omega
theorem wmG {t : List Rule} (ht : t.length ≤ 24) (mark : Nat) (x : Int) : wb0 t mark x < 2 ^ 24 := wpN _ _ _ _ (by omega)
noncomputable def wiD (s t : List Rule) (mark : Nat) : List Int := (wa6 (mark : Int) [s, t]).getD []
theorem wqF {k : Nat} {s t : List Rule} (hs : s.length ≤ 24 ∧ ∀ r ∈ s, wbo (k : Int) r = true) (ht : t.length ≤ 24 ∧ ∀ r ∈ t, wbo (k : Int) r = true) {mark : Nat} (hm : mark < k) : wa6 (mark : Int) [s, t] = some (wiD s t mark) ∧ Cuts mark [s, t] (wiD s t mark) ∧ (wiD s t mark).length ≤ 97 := by
 obtain ⟨cs, h1, h2, h3⟩ := wow mark [s, t] (by simp) (fun u hu => by
  simp only [List.mem_cons, List.not_mem_nil, or_false] at hu
  rcases hu with rfl | rfl
  ·exact ⟨hs.1, fun r hr => (wdK (hs.2 r hr) hm).1⟩
  ·exact ⟨ht.1, fun r hr => (wdK (ht.2 r hr) hm).1⟩) (fun u hu r hr => by
  simp only [List.mem_cons, List.not_mem_nil, or_false] at hu
  rcases hu with rfl | rfl
  ·exact (wdK (hs.2 r hr) hm).2
  ·exact (wdK (ht.2 r hr) hm).2)
 have e : wiD s t mark = cs := by unfold wiD; rw [h1]; rfl
 rw [e]; exact ⟨h1, h2, h3⟩
def wkl (s t : List Rule) (a b : Nat) : Bool := decide (¬ weI s a = weI t b)
theorem wsw {k : Nat} (hk : k ≤ 4) {s t : List Rule} (hs : s.length ≤ 24 ∧ ∀ r ∈ s, wbo (k : Int) r = true) (ht : t.length ≤ 24 ∧ ∀ r ∈ t, wbo (k : Int) r = true) (n : Nat) (M : List (Arr3_Int × Bool)) (mark a b : Nat) (hm : mark ≤ k) (ha : a < 2 ^ s.length) (hb : b < 2 ^ t.length) :
  waq (n + 1) (⟨(k : Int), s, t⟩ : Walker) s t M (mark : Int) (a : Int) (b : Int) = if mark = k then some ([], wkl s t a b, M) else
   cond ((waE (⟨(mark : Int), (a : Int), (b : Int)⟩ : Arr3_Int) M).getD false) (some ([], false, M))
    ((whN (fun M u => waq n (⟨(k : Int), s, t⟩ : Walker) s t M ((mark + 1 : Nat) : Int) ((a &&& wb0 s mark u : Nat) : Int) ((b &&& wb0 t mark u : Nat) : Int)) 0 (wiD s t mark) M).bind (wrO ⟨(mark : Int), (a : Int), (b : Int)⟩)) := by
 have ha2 : a < 2 ^ 24 := Nat.lt_of_lt_of_le ha (Nat.pow_le_pow_right (by omega) hs.1)
 have hb2 : b < 2 ^ 24 := Nat.lt_of_lt_of_le hb (Nat.pow_le_pow_right (by omega) ht.1)
 show wbl (waq n) (⟨(k : Int), s, t⟩ : Walker) s t M (mark : Int) (a : Int) (b : Int) = _
 unfold wbl
 dsimp only
 by_cases he : mark = k
 ·subst he
  rw [if_pos rfl, decide_eq_true rfl, cond_true, wji a (by omega), wji b (by omega)]
  simp only [Option.bind_some]
  unfold wdP
  rw [wov s a ha, wov t b hb]
  rfl
 ·obtain ⟨c1, c2, c3⟩ := wqF hs ht (show mark < k by omega)
  rw [if_neg he, decide_eq_false (by omega), cond_false, wap (x := (a : Int)) (by omega), wap (x := (b : Int)) (by omega), c1]
  cases (waE (⟨(mark : Int), (a : Int), (b : Int)⟩ : Arr3_Int) M).getD false with
  | true => rfl
  | false =>
   simp only [cond_false, Option.bind_some]
   have hl := wnx (cs := wiD s t mark) (rec := fun M u => waq n (⟨(k : Int), s, t⟩ : Walker) s t M ((mark + 1 : Nat) : Int) ((a &&& wb0 s mark u : Nat) : Int) ((b &&& wb0 t mark u : Nat) : Int))
    (f := wbe (mark : Int) (a : Int) (b : Int) (⟨(k : Int), s, t⟩ : Walker) s t (waq n) (wiD s t mark))
    (fun u v M e hv hi => by
     unfold wbe
     dsimp only
     have hfs := wmG hs.1 mark u
     have hft := wmG ht.1 mark u
     have hw : IntKind.i64.wrap ((v : Int) + 1) = ((v + 1 : Nat) : Int) := by rw [wap (by omega)]; rfl
     have hw2 : IntKind.i64.wrap ((mark : Int) + 1) = ((mark + 1 : Nat) : Int) := by rw [wap (by omega)]; rfl
     rw [decide_eq_true (by omega), cond_true, hi]
     simp only [Option.bind_some]
     rw [wn0 s mark u hs.1 (fun r hr => (wdK (hs.2 r hr) (by omega)).1), wn0 t mark u ht.1 (fun r hr => (wdK (ht.2 r hr) (by omega)).1)]
     simp only [Option.bind_some]
     rw [wlZ (by omega) (by omega), wlZ (by omega) (by omega), hw, hw2]
     rfl)
    (fun u M => by
     unfold wbe
     dsimp only
     rw [decide_eq_false (by omega)]; rfl) (wiD s t mark).length 0 0 M (by omega) (by omega)
   rw [show ((0 : Nat) : Int) = 0 from rfl, List.drop_zero] at hl
   rw [hl]
   cases whN (fun M u => waq n (⟨(k : Int), s, t⟩ : Walker) s t M ((mark + 1 : Nat) : Int) ((a &&& wb0 s mark u : Nat) : Int) ((b &&& wb0 t mark u : Nat) : Int)) 0 (wiD s t mark) M with
   | none => rfl
   | some o => cases o <;> rfl
theorem wqu {k : Nat} (hk : k ≤ 4) {s t : List Rule} (hs : s.length ≤ 24 ∧ ∀ r ∈ s, wbo (k : Int) r = true) (ht : t.length ≤ 24 ∧ ∀ r ∈ t, wbo (k : Int) r = true) : ∃ xs f, weu (k : Int) s t = some (xs, f) ∧ Ans s t (wkl s t) 0 k (wb8 s) (wb8 t) f xs := by
 unfold weu wcw
 dsimp only
 rw [wmF s hs.1, wmF t ht.1]
 simp only [Option.bind_some]
 obtain ⟨xs, f, M', h1, _, h3⟩ := wqE hk (cs := wiD s t) (P := wkl s t) (s := s) (t := t) (k := k) (fun mark hm => (wqF hs ht hm).2.1) (F := fun n M m a b => waq n (⟨(k : Int), s, t⟩ : Walker) s t M m a b)
  (fun n M mark a b hm ha hb => wsw hk hs ht n M mark a b hm ha hb) k 100 [] 0 (wb8 s) (wb8 t) (by omega) (by omega) (by omega) (whi s) (whi t) (fun mark a b _ h => by cases h)
 have h1 : waq 100 (⟨(k : Int), s, t⟩ : Walker) s t [] 0 (wb8 s : Int) (wb8 t : Int) = some (xs, f, M') := h1
 rw [h1]
 exact ⟨xs, f, rfl, h3⟩
end Go.Pv

namespace Go.Pv
theorem wn1 (n : Int) : ∀ {l : List Int}, l.Pairwise (· < ·) → (weA n l).Pairwise (· < ·) ∧ ∀ x, x ∈ weA n l ↔ x = n ∨ x ∈ l
 | [], _ => ⟨List.pairwise_singleton .., fun x => by simp [weA]⟩
 | y :: l, h => by
  have hc := List.pairwise_cons.1 h
  simp only [weA]
  by_cases h1 : n ≤ y
  ·rw [decide_eq_true h1, cond_true]
   by_cases h2 : n < y
   ·rw [decide_eq_true h2, cond_true]
    refine ⟨List.pairwise_cons.2 ⟨fun x hx => ?_, h⟩, fun x => by simp⟩
    rcases List.mem_cons.1 hx with rfl | hx
    ·exact h2
    ·have := hc.1 x hx; omega
   ·rw [decide_eq_false h2, cond_false]
    have : n = y := by omega
    subst this
    exact ⟨h, fun x => by simp⟩
  ·rw [decide_eq_false h1, cond_false]
   obtain ⟨g1, g2⟩ := wn1 n hc.2
   refine ⟨List.pairwise_cons.2 ⟨fun x hx => ?_, g1⟩, fun x => ?_⟩
   ·rcases (g2 x).1 hx with rfl | hx
    ·omega
    ·exact hc.1 x hx
   ·rw [List.mem_cons, g2, List.mem_cons]
    constructor
    ·rintro (h | h | h)
     ·exact .inr (.inl h)
     ·exact .inl h
     ·exact .inr (.inr h)
    ·rintro (h | h | h)
     ·exact .inr (.inl h)
     ·exact .inl h
     ·exact .inr (.inr h)
theorem wsx (a i : Nat) (hi : i < 64) : wpE (a : Int) i = a.testBit i := by
 have := ws9 a i hi
 rw [Int.toNat_natCast] at this
 exact this
theorem wkm (mark a : Nat) : ∀ (l : List Rule) (i : Nat) (out : List Int), i + l.length ≤ 24 → out.Pairwise (· < ·) →
  (weH mark (a : Int) i l out).Pairwise (· < ·) ∧ (∀ x ∈ out, x ∈ weH mark (a : Int) i l out) ∧ (∀ x ∈ weH mark (a : Int) i l out, x ∈ out ∨ ∃ r ∈ l, (x = (war r mark).Lo ∧ 0 < x) ∨ x = (war r mark).Hi) ∧
   (∀ (j : Nat) (r : Rule), l[j]? = some r → a.testBit (i + j) = true → (0 < (war r mark).Lo → (war r mark).Lo ∈ weH mark (a : Int) i l out) ∧ (war r mark).Hi ∈ weH mark (a : Int) i l out) ∧ (weH mark (a : Int) i l out).length ≤ out.length + 2 * l.length
 | [], i, out, _, h => ⟨h, fun x hx => hx, fun x hx => .inl hx, fun j r hr => by simp at hr, by simp [weH]⟩
 | r :: l, i, out, hl, h => by
  simp only [List.length_cons] at hl
  simp only [weH]
  rw [wsx a i (by omega)]
  cases hb : a.testBit i with
  | false =>
   simp only [cond_false]
   obtain ⟨g1, g2, g3, g4, g5⟩ := wkm mark a l (i + 1) out (by omega) h
   refine ⟨g1, g2, fun x hx => ?_, fun j q hq hj => ?_, by simp only [List.length_cons]; omega⟩
   ·rcases g3 x hx with h | ⟨q, h1, h2⟩
    ·exact .inl h
    ·exact .inr ⟨q, List.mem_cons_of_mem _ h1, h2⟩
   ·cases j with
    | zero => rw [Nat.add_zero, hb] at hj; cases hj
    | succ j => exact g4 j q (by simpa using hq) (by rw [← hj]; congr 1; omega)
  | true =>
   simp only [cond_true]
   have hout : ∃ o2, (cond (decide (0 < (war r mark).Lo)) (weA (war r mark).Lo out) out) = o2 ∧ o2.Pairwise (· < ·) ∧ (∀ x, x ∈ o2 ↔ (x = (war r mark).Lo ∧ 0 < x) ∨ x ∈ out) ∧ o2.length ≤ out.length + 1 := by
    by_cases h0 : 0 < (war r mark).Lo
    ·rw [decide_eq_true h0, cond_true]
     obtain ⟨k1, k2⟩ := wn1 (war r mark).Lo h
     refine ⟨_, rfl, k1, fun x => ?_, whd _ _⟩
     rw [k2]
     constructor
     ·rintro (h | h)
      ·exact .inl ⟨h, by omega⟩
      ·exact .inr h
     ·rintro (h | h)
      ·exact .inl h.1
      ·exact .inr h
    ·rw [decide_eq_false h0, cond_false]
     refine ⟨_, rfl, h, fun x => ?_, by omega⟩
     constructor
     ·exact .inr
     ·rintro (h | h)
      ·omega
      ·exact h
   obtain ⟨o2, e, k1, k2, k3⟩ := hout
   rw [e]
   obtain ⟨m1, m2⟩ := wn1 (war r mark).Hi k1
   have m3 := whd (war r mark).Hi o2
   obtain ⟨g1, g2, g3, g4, g5⟩ := wkm mark a l (i + 1) (weA (war r mark).Hi o2) (by omega) m1
   refine ⟨g1, fun x hx => g2 x ((m2 x).2 (.inr ((k2 x).2 (.inr hx)))), fun x hx => ?_, fun j q hq hj => ?_, by simp only [List.length_cons]; omega⟩
   ·rcases g3 x hx with h | ⟨q, h1, h2⟩
    ·rcases (m2 x).1 h with h | h
     ·exact .inr ⟨r, List.mem_cons_self .., .inr h⟩
     ·rcases (k2 x).1 h with h | h
      ·exact .inr ⟨r, List.mem_cons_self .., .inl h⟩
      ·exact .inl h
    ·exact .inr ⟨q, List.mem_cons_of_mem _ h1, h2⟩
   ·cases j with
    | zero =>
     simp only [List.getElem?_cons_zero, Option.some.injEq] at hq
     subst hq
     exact ⟨fun h0 => g2 _ ((m2 _).2 (.inr ((k2 _).2 (.inl ⟨rfl, h0⟩)))), g2 _ ((m2 _).2 (.inl rfl))⟩
    | succ j => exact g4 j q (by simpa using hq) (by rw [← hj]; congr 1; omega)
end Go.Pv

namespace Go.Pv
structure TabOk (t : Table) : Prop where
 size : t.heads = [] ∨ t.heads.length = 4096
 next : t.next.length = t.keys.length
 heads : ∀ x ∈ t.heads, -1 ≤ x ∧ x < t.keys.length
 back : ∀ (i : Nat) (x : Int), t.next[i]? = some x → -1 ≤ x ∧ x < i
 few : t.keys.length ≤ 2000000000
end Go.Pv

namespace Go.Pv
def bnd : Nat → Nat
 | 0 => 0
 | d + 1 => 1 + 98 * bnd d
theorem wtv : ∀ {d : Nat}, d ≤ 4 → bnd d ≤ 1000000
 | 0, _ => by decide
 | 1, _ => by decide
 | 2, _ => by decide
 | 3, _ => by decide
 | 4, _ => by decide
 | d + 5, h => by omega
structure CmpOk (s t : List Rule) (P : Nat → Nat → Bool) (k : Nat) (o : Compare) : Prop where
 ek : o.k = (k : Int)
 es : o.s = s
 et : o.t = t
 tab : TabOk o.alike
 memo : ∀ mark a b : Nat, mark ≤ k → (⟨(mark : Int), (a : Int), (b : Int)⟩ : Arr3_Int) ∈ o.alike.keys → Ans s t P mark (k - mark) a b false []
end Go.Pv

namespace Go.Pv
theorem wn2 (k : Int) (s t : List Rule) : chk k [s, t] = if chk k [s] = 0 then chk k [t] else chk k [s] := by
 unfold chk
 by_cases hk : 1 ≤ k ∧ k ≤ 4
 ·simp only [if_pos hk, wix]
  cases h : wlp k s == 0 with
  | true => simp
  | false =>
   have : wlp k s ≠ 0 := by simpa using h
   simp [this]
 ·simp [if_neg hk]
end Go.Pv

namespace Go.Pv
end Go.Pv

namespace Go.Pv
def wtL (m a : Nat) : Nat := if wbX a < 0 then m else (wbX a).toNat
def wtG (m a : Nat) : List Int := (List.replicate (m + 1) (0 : Int)).set (wtL m a) 1
def wtM (l : List Int) (c : Int) (v : List Int) : List Int := List.zipWith (fun x y => x + c * y) l v
def wtw (m : Nat) (g : Int → List Int) : Nat → List Int
 | 0 => List.replicate (m + 1) 0
 | n + 1 => wtM (wtw m g n) 1 (g (n : Int))
def wtx (t : List Rule) : Nat → Nat → Nat → List Int
 | 0, _, a => wtG t.length a
 | d + 1, mark, a => wtw t.length (fun x => wtx t d (mark + 1) (a &&& wb0 t mark x)) 1000
end Go.Pv

namespace Go.Pv
end Go.Pv

namespace Go.Pv
noncomputable def cs1 (t : List Rule) (mark : Nat) : List Int := (wa6 (mark : Int) [t]).getD []
theorem wjF {k : Nat} {t : List Rule} (ht : t.length ≤ 24 ∧ ∀ r ∈ t, wbo (k : Int) r = true) {mark : Nat} (hm : mark < k) : wa6 (mark : Int) [t] = some (cs1 t mark) ∧ Cuts mark [t] (cs1 t mark) ∧ (cs1 t mark).length ≤ 97 := by
 obtain ⟨cs, h1, h2, h3⟩ := wow mark [t] (by simp) (fun u hu => by
  simp only [List.mem_cons, List.not_mem_nil, or_false] at hu
  subst hu
  exact ⟨ht.1, fun r hr => (wdK (ht.2 r hr) hm).1⟩) (fun u hu r hr => by
  simp only [List.mem_cons, List.not_mem_nil, or_false] at hu
  subst hu
  exact (wdK (ht.2 r hr) hm).2)
 have e : cs1 t mark = cs := by unfold cs1; rw [h1]; rfl
 rw [e]; exact ⟨h1, h2, h3⟩
end Go.Pv

namespace Go.Pv
end Go.Pv

namespace Go.Pv
end Go.Pv

namespace Go.Pv
structure SrchOk (t : List Rule) (k : Nat) (o : Search) : Prop where
 ek : o.k = (k : Int)
 et : o.t = t
 tab : TabOk o.seen
 many : o.many.length = o.seen.keys.length
 memo : ∀ (i mark a : Nat) (V : List Int), o.seen.keys[i]? = some (⟨(mark : Int), (a : Int), 0⟩ : Arr3_Int) → o.many[i]? = some V → mark < k → V = wtx t (k - mark) mark a
end Go.Pv

namespace Go.Pv
end Go.Pv

namespace Go.Pv
end Go.Pv

namespace Go.Pv
end Go.Pv

namespace Go.Pv
theorem wl0 {t : List Rule} : ∀ (ys : List Int) (mark a : Nat), a < 2 ^ t.length → wdy t mark a ys < 2 ^ t.length
 | [], _, _, h => h
 | y :: ys, mark, a, h => wl0 ys (mark + 1) _ (Nat.lt_of_le_of_lt Nat.and_le_left h)
end Go.Pv

namespace Go.Pv
def wjG (r : Rule) : Nat → List Int → Bool
 | _, [] => true
 | mark, y :: ys => inB mark y r && wjG r (mark + 1) ys
theorem wpR {t : List Rule} : ∀ (ys : List Int) (mark a : Nat), a < 2 ^ t.length → ∀ i, (wdy t mark a ys).testBit i = (a.testBit i && ((t[i]?).map fun r => wjG r mark ys).getD false)
 | [], mark, a, ha, i => by
  simp only [wdy, wjG]
  cases hi : t[i]? with
  | some r => simp
  | none =>
   rw [List.getElem?_eq_none_iff] at hi
   have : a < 2 ^ i := Nat.lt_of_lt_of_le ha (Nat.pow_le_pow_right (by omega) hi)
   rw [Nat.testBit_lt_two_pow this]; rfl
 | y :: ys, mark, a, ha, i => by
  rw [wdy, wpR ys (mark + 1) _ (Nat.lt_of_le_of_lt Nat.and_le_left ha) i, Nat.testBit_and]
  unfold wb0
  rw [wiZ]
  cases hi : t[i]? with
  | none => simp
  | some r => simp [hi, wjG, Bool.and_assoc]
theorem wsy {r : Rule} {mark : Nat} (h : mark < r.Bands.length) (x : Int) : inB mark x r = wnp r.Bands[mark] x := by
 have e : war r mark = r.Bands[mark] := by
  have h1 := wmE h
  have h2 : idx r.Bands (mark : Int) = some r.Bands[mark] := by unfold idx; simp [h]
  rw [h2] at h1; simpa using h1.symm
 unfold inB wnp
 rw [e]
 have e1 : decide (r.Bands[mark].Lo ≤ x) = !(decide (x < r.Bands[mark].Lo)) := by
  by_cases h : r.Bands[mark].Lo ≤ x
  ·rw [decide_eq_true h, decide_eq_false (by omega)]; rfl
  ·rw [decide_eq_false h, decide_eq_true (by omega)]; rfl
 have e2 : decide (x < r.Bands[mark].Hi) = !(decide (r.Bands[mark].Hi ≤ x)) := by
  by_cases h : x < r.Bands[mark].Hi
  ·rw [decide_eq_true h, decide_eq_false (by omega)]; rfl
  ·rw [decide_eq_false h, decide_eq_true (by omega)]; rfl
 rw [e1, e2]
theorem wox (r : Rule) : ∀ (ys : List Int) (mark : Nat), mark + ys.length = r.Bands.length → wjG r mark ys = wej (r.Bands.drop mark) ys
 | [], mark, h => by
  cases r.Bands.drop mark <;> rfl
 | y :: ys, mark, h => by
  simp only [List.length_cons] at h
  rw [List.drop_eq_getElem_cons (by omega)]
  simp only [wjG, wej]
  rw [wsy (by omega) y, wox r ys (mark + 1) (by omega)]
theorem whj {p : Rule → Bool} {A : Nat} : ∀ (n i : Nat) (l : List Rule), (∀ j, A.testBit (i + j) = ((l[j]?).map p).getD false) → l.length ≤ n → wdJ A i n = (l.findIdx? p).map (i + ·)
 | 0, i, l, _, hl => by
  have : l = [] := List.length_eq_zero_iff.1 (by omega)
  subst this; rfl
 | n + 1, i, [], h, _ => by
  have h0 := h 0
  simp only [Nat.add_zero, List.getElem?_nil, Option.map_none, Option.getD_none] at h0
  simp only [wdJ, h0, cond_false]
  rw [whj (p := p) n (i + 1) [] (fun j => by have := h (j + 1); rw [show i + (j + 1) = i + 1 + j by omega] at this; rw [this]; simp) (by simp)]
  rfl
 | n + 1, i, x :: l, h, hl => by
  have h0 := h 0
  simp only [Nat.add_zero, List.getElem?_cons_zero, Option.map_some, Option.getD_some] at h0
  simp only [wdJ, h0, List.findIdx?_cons]
  cases p x with
  | true => rfl
  | false =>
   rw [cond_false, whj (p := p) n (i + 1) l (fun j => by have := h (j + 1); rw [show i + (j + 1) = i + 1 + j by omega] at this; rw [this, List.getElem?_cons_succ]) (by simp only [List.length_cons] at hl; omega)]
   cases l.findIdx? p with
   | none => rfl
   | some j => simp; omega
theorem wpS (t : List Rule) (i : Nat) : (wb8 t).testBit i = decide (i < t.length) := by
 unfold wb8; rw [Nat.testBit_two_pow_sub_one]
theorem wlD {k : Nat} {t : List Rule} (ht : t.length ≤ 24 ∧ ∀ r ∈ t, wbo (k : Int) r = true) {xs : List Int} (hx : xs.length = k) : wbX (wdy t 0 (wb8 t) xs) = wcG t xs := by
 have h : ∀ j, (wdy t 0 (wb8 t) xs).testBit (0 + j) = ((t[j]?).map fun r => wej r.Bands xs).getD false := fun j => by
  rw [Nat.zero_add, wpR xs 0 (wb8 t) (whi t) j, wpS]
  cases hj : t[j]? with
  | none => simp
  | some r =>
   obtain ⟨hlt, e⟩ := List.getElem?_eq_some_iff.1 hj
   have hm : r ∈ t := by rw [← e]; exact List.getElem_mem hlt
   have hl := wkh (ht.2 r hm)
   simp only [Option.map_some, Option.getD_some, decide_eq_true hlt, Bool.true_and]
   rw [wox r xs 0 (by omega), List.drop_zero]
 unfold wbX wcG
 rw [whj 24 0 t h ht.1]
 cases t.findIdx? (fun r => wej r.Bands xs) with
 | none => rfl
 | some j => simp
theorem pts_thing {k : Nat} {xs : List Int} : weN (k : Int) xs = true ↔ Pts k xs := by
 unfold weN Pts
 rw [Bool.and_eq_true, decide_eq_true_eq, Bool.not_eq_true', List.any_eq_false]
 constructor
 ·rintro ⟨h1, h2⟩
  refine ⟨by omega, fun x hx => ?_⟩
  have := h2 x hx
  unfold whc at this
  simp only [Bool.or_eq_true, decide_eq_true_eq, not_or] at this
  omega
 ·rintro ⟨h1, h2⟩
  refine ⟨by omega, fun x hx => ?_⟩
  have := h2 x hx
  unfold whc
  simp only [Bool.or_eq_true, decide_eq_true_eq, not_or]
  omega
end Go.Pv

namespace Go.Pv
theorem wrh {k : Nat} {s t : List Rule} (hs : chk (k : Int) [s] = 0) (ht : chk (k : Int) [t] = 0) : ∃ xs f, wbT (k : Int) s t = some (cond f (xs, 0) ([], 10)) ∧ Ans s t (wkl s t) 0 k (wb8 s) (wb8 t) f xs := by
 unfold wbT
 rw [wfQ (k : Int) [s, t] (by simp), wn2, if_pos hs, ht]
 obtain ⟨k1, k2, s1, s2⟩ := wc6 hs
 obtain ⟨_, _, t1, t2⟩ := wc6 ht
 obtain ⟨xs, f, e1, e2⟩ := wqu (k := k) (by omega) ⟨s1, s2⟩ ⟨t1, t2⟩
 refine ⟨xs, f, ?_, e2⟩
 simp only [Option.bind_some, decide_not, decide_true, Bool.not_true, cond_false, e1]
 unfold wdq
 cases f <;> rfl
theorem wtb {k : Nat} {t : List Rule} {xs : List Int} (h : chk (k : Int) [t] = 0) (hx : Pts k xs) : wiX (k : Int) t xs = if wbX (wdy t 0 (wb8 t) xs) < 0 then (0, 0, 6) else (weI t (wdy t 0 (wb8 t) xs), wbX (wdy t 0 (wb8 t) xs), 0) := by
 obtain ⟨k1, k2, t1, t2⟩ := wc6 h
 have hd := wlD (k := k) ⟨t1, t2⟩ hx.1
 unfold wiX
 rw [if_pos h, pts_thing.2 hx, cond_true, ← hd]
 unfold weI
 by_cases hn : wbX (wdy t 0 (wb8 t) xs) < 0
 ·rw [if_pos hn, if_pos hn]
 ·rw [if_neg hn, if_neg hn, if_neg hn]
end Go.Pv

namespace Go.Pv
def wf6 (t : List Rule) (xs : List Int) : Int := match t.find? (fun r => wej r.Bands xs) with | some r => r.Code | none => -1
def wo7 (k : Nat) (s t : List Rule) : Prop := ∀ xs, Pts k xs → wf6 s xs = wf6 t xs
theorem wpT {p : Rule → Bool} : ∀ (t : List Rule), (match t.findIdx? p with | some j => t[j]? | none => none) = t.find? p
 | [] => rfl
 | x :: t => by
  rw [List.findIdx?_cons, List.find?_cons]
  cases p x with
  | true => rfl
  | false =>
   have ih := wpT (p := p) t
   cases h : t.findIdx? p with
   | none => rw [h] at ih; simpa using ih
   | some j => rw [h] at ih; simpa using ih
theorem wl1 {k : Nat} {t : List Rule} (ht : t.length ≤ 24 ∧ ∀ r ∈ t, wbo (k : Int) r = true) {xs : List Int} (hx : xs.length = k) : weI t (wdy t 0 (wb8 t) xs) = wf6 t xs := by
 have h := wpT (p := fun r => wej r.Bands xs) t
 unfold weI wf6
 rw [wlD ht hx]
 unfold wcG
 cases hf : t.findIdx? (fun r => wej r.Bands xs) with
 | none => rw [hf] at h; simp only at h; rw [← h]; rfl
 | some j =>
  rw [hf] at h
  simp only at h
  obtain ⟨hj, _⟩ := List.findIdx?_eq_some_iff_getElem.1 hf
  rw [← h, List.getElem?_eq_getElem hj]
  have : ¬ ((j : Int) < 0) := by omega
  simp only [if_neg this, Int.toNat_natCast]
  rw [List.getD, List.getElem?_eq_getElem hj]; rfl
theorem wsz {k : Nat} {s t : List Rule} (hs : s.length ≤ 24 ∧ ∀ r ∈ s, wbo (k : Int) r = true) (ht : t.length ≤ 24 ∧ ∀ r ∈ t, wbo (k : Int) r = true) {f : Bool} {xs : List Int} (h : Ans s t (wkl s t) 0 k (wb8 s) (wb8 t) f xs) : (f = false ↔ wo7 k s t) ∧ (f = true → Pts k xs ∧ wf6 s xs ≠ wf6 t xs) := by
 have key : ∀ ys, Pts k ys → (wkl s t (wdy s 0 (wb8 s) ys) (wdy t 0 (wb8 t) ys) = true ↔ wf6 s ys ≠ wf6 t ys) := fun ys hy => by
  unfold wkl
  rw [wl1 hs hy.1, wl1 ht hy.1, decide_eq_true_eq]
 refine ⟨⟨fun hf ys hy => ?_, fun hsame => ?_⟩, fun hf => ?_⟩
 ·refine Classical.byContradiction fun hne => ?_
  have := (h.miss hf).2 ys hy
  rw [(key ys hy).2 hne] at this; cases this
 ·cases hf : f with
  | false => rfl
  | true =>
   obtain ⟨h1, h2, _⟩ := h.hit hf
   exact absurd (hsame xs h1) ((key xs h1).1 h2)
 ·obtain ⟨h1, h2, _⟩ := h.hit hf
  exact ⟨h1, (key xs h1).1 h2⟩
theorem wri {k : Nat} {s t : List Rule} (hs : chk (k : Int) [s] = 0) (ht : chk (k : Int) [t] = 0) : ∃ xs f, wbT (k : Int) s t = some (cond f (xs, 0) ([], 10)) ∧ (f = false ↔ wo7 k s t) ∧ (f = true → Pts k xs ∧ wf6 s xs ≠ wf6 t xs) := by
 obtain ⟨xs, f, h1, h2⟩ := wrh hs ht
 obtain ⟨_, _, s1, s2⟩ := wc6 hs
 obtain ⟨_, _, t1, t2⟩ := wc6 ht
 exact ⟨xs, f, h1, wsz ⟨s1, s2⟩ ⟨t1, t2⟩ h2⟩
theorem wrP {k : Int} {r : Rule} (h : wbo k r = true) : 0 ≤ r.Code := by
 unfold wbo at h
 simp only [Bool.and_eq_true, decide_eq_true_eq] at h
 exact h.1.1.2
end Go.Pv

namespace Go.Pv
def sel : List Int → List Int → Int → Int
 | c :: cs, t :: ts, x => if x < c then t else sel cs ts x
 | _, _, _ => -1
def wbG (nd : Node) (xs : List Int) : Int := sel nd.Cuts nd.To (xs.getD nd.Mark.toNat 0)
def evF (N : List Node) : Nat → Int → List Int → Int
 | 0, n, _ => n
 | f + 1, n, xs => if n < 0 then n else evF N f (wbG (N.getD n.toNat default) xs) xs
def ev (N : List Node) (n : Int) (xs : List Int) : Int := evF N 5 n xs
def wbk : Int → List Int → List Int → Prop
 | u, c :: cs, t :: ts => u < c ∧ ((cs = [] ∧ ts = [] ∧ c = 1000) ∨ (ts.head? ≠ some t ∧ wbk c cs ts))
 | _, _, _ => False
theorem wfS : ∀ {cs ts : List Int} {u : Int}, wbk u cs ts → u < 1000
 | [], _, _, h => by simp [wbk] at h
 | _ :: _, [], _, h => by simp [wbk] at h
 | c :: cs, t :: ts, u, h => by
  obtain ⟨h1, h2⟩ := h
  rcases h2 with ⟨_, _, h3⟩ | ⟨_, h3⟩
  ·omega
  ·have := wfS h3; omega
theorem weD : ∀ {cs ts : List Int} {u x : Int}, wbk u cs ts → x < 1000 → sel cs ts x ∈ ts
 | [], _, _, _, h, _ => by simp [wbk] at h
 | _ :: _, [], _, _, h, _ => by simp [wbk] at h
 | c :: cs, t :: ts, u, x, h, hx => by
  obtain ⟨h1, h2⟩ := h
  unfold sel
  by_cases hc : x < c
  ·rw [if_pos hc]; exact List.mem_cons_self ..
  ·rw [if_neg hc]
   rcases h2 with ⟨_, _, h3⟩ | ⟨_, h3⟩
   ·omega
   ·exact List.mem_cons_of_mem _ (weD h3 hx)
theorem wgi : ∀ {cs ts : List Int} {u : Int}, wbk u cs ts → cs.length = ts.length
 | [], _, _, h => by simp [wbk] at h
 | _ :: _, [], _, h => by simp [wbk] at h
 | c :: cs, t :: ts, u, h => by
  obtain ⟨h1, h2⟩ := h
  rcases h2 with ⟨h3, h4, _⟩ | ⟨_, h3⟩
  ·subst h3 h4; rfl
  ·simp [wgi h3]
theorem wsA {c t : Int} {cs ts : List Int} {u : Int} (h : wbk u (c :: cs) (t :: ts)) (h2 : 2 ≤ (t :: ts).length) : ∃ c2 cs2 t2 ts2, cs = c2 :: cs2 ∧ ts = t2 :: ts2 ∧ t ≠ t2 ∧ c < c2 ∧ c < 1000 := by
 obtain ⟨h1, h3⟩ := h
 rcases h3 with ⟨_, h4, _⟩ | ⟨h4, h5⟩
 ·subst h4; simp at h2
 ·have hc := wfS h5
  match cs, ts, h4, h5 with
  | c2 :: cs2, t2 :: ts2, h4, h5 => exact ⟨c2, cs2, t2, ts2, rfl, rfl, fun e => h4 (by rw [e]; rfl), h5.1, hc⟩
theorem woy {R : Int → Int → Prop} {T T' : List Int} (hl : ∀ a b c, a ∈ T → b ∈ T → R a c → R b c → a = b) (hr : ∀ a c d, c ∈ T' → d ∈ T' → R a c → R a d → c = d) : ∀ (cs ts cs' ts' : List Int) (u : Int), wbk u cs ts → wbk u cs' ts' → (∀ t ∈ ts, t ∈ T) → (∀ t ∈ ts', t ∈ T') → (∀ x, u ≤ x → x < 1000 → R (sel cs ts x) (sel cs' ts' x)) → cs = cs' ∧ ts.length = ts'.length ∧ ∀ (i : Nat) a b, ts[i]? = some a → ts'[i]? = some b → R a b
 | [], _, _, _, _, h, _, _, _, _ => by simp [wbk] at h
 | _ :: _, [], _, _, _, h, _, _, _, _ => by simp [wbk] at h
 | _ :: _, _ :: _, [], _, _, _, h, _, _, _ => by simp [wbk] at h
 | _ :: _, _ :: _, _ :: _, [], _, _, h, _, _, _ => by simp [wbk] at h
 | c :: cs, t :: ts, c' :: cs', t' :: ts', u, h, h', hT, hT', hR => by
  have h0 := h
  have h0' := h'
  obtain ⟨h1, h2⟩ := h
  obtain ⟨h1', h2'⟩ := h'
  have hu := wfS h0
  have hRu : R t t' := by
   have := hR u (Int.le_refl _) hu
   simpa only [sel, if_pos h1, if_pos h1'] using this
  have hcc : c = c' := by
   rcases Int.lt_trichotomy c c' with hlt | heq | hgt
   ·exfalso
    have hc1 : c' ≤ 1000 := by
     rcases h2' with ⟨_, _, h3⟩ | ⟨_, h3⟩
     ·omega
     ·have := wfS h3; omega
    rcases h2 with ⟨_, _, h3⟩ | ⟨h3, h4⟩
    ·omega
    ·match cs, ts, h3, h4 with
     | c2 :: cs2, t2 :: ts2, h3, h4 =>
      have hx := hR c (by omega) (by omega)
      have hlt2 := h4.1
      simp only [sel, if_pos hlt2, if_pos hlt, if_neg (Int.lt_irrefl c)] at hx
      have := hl t t2 t' (hT t (by simp)) (hT t2 (by simp)) hRu hx
      exact h3 (by rw [this]; rfl)
   ·exact heq
   ·exfalso
    have hc1 : c ≤ 1000 := by
     rcases h2 with ⟨_, _, h3⟩ | ⟨_, h3⟩
     ·omega
     ·have := wfS h3; omega
    rcases h2' with ⟨_, _, h3⟩ | ⟨h3, h4⟩
    ·omega
    ·match cs', ts', h3, h4 with
     | c2 :: cs2, t2 :: ts2, h3, h4 =>
      have hx := hR c' (by omega) (by omega)
      have hlt2 := h4.1
      simp only [sel, if_pos hlt2, if_pos hgt, if_neg (Int.lt_irrefl c')] at hx
      have := hr t t' t2 (hT' t' (by simp)) (hT' t2 (by simp)) hRu hx
      exact h3 (by rw [this]; rfl)
  subst hcc
  rcases h2 with ⟨h3, h4, h5⟩ | ⟨h3, h4⟩
  ·rcases h2' with ⟨h3', h4', _⟩ | ⟨_, h4'⟩
   ·subst h3 h4 h3' h4'
    refine ⟨rfl, rfl, fun i a b ha hb => ?_⟩
    cases i with
    | zero => simp at ha hb; subst ha hb; exact hRu
    | succ i => simp at ha
   ·have := wfS h4'; omega
  ·rcases h2' with ⟨_, _, h5'⟩ | ⟨_, h4'⟩
   ·have := wfS h4; omega
   ·obtain ⟨e1, e2, e3⟩ := woy hl hr cs ts cs' ts' c h4 h4' (fun x hx => hT x (List.mem_cons_of_mem _ hx)) (fun x hx => hT' x (List.mem_cons_of_mem _ hx)) (fun x hx hx2 => by
     have := hR x (by omega) hx2
     simpa only [sel, if_neg (show ¬ x < c by omega)] using this)
    refine ⟨by rw [e1], by simp [e2], fun i a b ha hb => ?_⟩
    cases i with
    | zero => simp at ha hb; subst ha hb; exact hRu
    | succ i => exact e3 i a b (by simpa using ha) (by simpa using hb)
def Valid (N : List Node) (m : Nat) (n : Int) : Prop := (n < 0 ∧ -101 ≤ n) ∨ ∃ x, 0 ≤ n ∧ N[n.toNat]? = some x ∧ (m : Int) ≤ x.Mark
theorem Valid.mono {N : List Node} {m m' : Nat} {n : Int} (h : Valid N m n) (hm : m' ≤ m) : Valid N m' n := by
 rcases h with h | ⟨x, h1, h2, h3⟩
 ·exact .inl h
 ·exact .inr ⟨x, h1, h2, by omega⟩
structure GoodN (k : Nat) (N : List Node) : Prop where
 mark : ∀ (i : Nat) x, N[i]? = some x → 0 ≤ x.Mark ∧ x.Mark < (k : Int)
 runs : ∀ (i : Nat) x, N[i]? = some x → wbk 0 x.Cuts x.To
 two : ∀ (i : Nat) x, N[i]? = some x → 2 ≤ x.To.length
 kids : ∀ (i : Nat) x, N[i]? = some x → ∀ t ∈ x.To, Valid N (x.Mark.toNat + 1) t
 uniq : ∀ (i j : Nat) x, N[i]? = some x → N[j]? = some x → i = j
structure OkN (k : Nat) (N : List Node) : Prop where
 mark : ∀ (i : Nat) x, N[i]? = some x → 0 ≤ x.Mark ∧ x.Mark < (k : Int)
 runs : ∀ (i : Nat) x, N[i]? = some x → wbk 0 x.Cuts x.To
 kids : ∀ (i : Nat) x, N[i]? = some x → ∀ t ∈ x.To, Valid N (x.Mark.toNat + 1) t
theorem GoodN.ok {k : Nat} {N : List Node} (h : GoodN k N) : OkN k N := ⟨h.mark, h.runs, h.kids⟩
theorem wcz {N : List Node} {i : Nat} {x : Node} (h : N[i]? = some x) : N.getD i default = x := by
 rw [List.getD, h]; rfl
theorem wei {k : Nat} {xs : List Int} (h : Pts k xs) (i : Nat) : 0 ≤ xs.getD i 0 ∧ xs.getD i 0 < 1000 := by
 rw [List.getD]
 cases hi : xs[i]? with
 | none => simp
 | some y => exact h.2 y (List.mem_of_getElem? hi)
theorem wny {k : Nat} {N : List Node} (hN : OkN k N) {xs : List Int} (hx : Pts k xs) : ∀ (d : Nat) (n : Int) (f f' : Nat), Valid N (k - d) n → d < f → d < f' → evF N f n xs = evF N f' n xs
 | d, n, 0, _, _, h, _ => by omega
 | d, n, _ + 1, 0, _, _, h => by omega
 | d, n, f + 1, f' + 1, hv, h, h' => by
  unfold evF
  rcases hv with ⟨h1, _⟩ | ⟨x, h1, h2, h3⟩
  ·rw [if_pos h1, if_pos h1]
  ·rw [if_neg (by omega), if_neg (by omega), wcz h2]
   have hm := hN.mark _ x h2
   have hk : wbG x xs ∈ x.To := weD (hN.runs _ x h2) (wei hx _).2
   have hv2 := hN.kids _ x h2 _ hk
   cases d with
   | zero => omega
   | succ d => exact wny hN hx d _ f f' (hv2.mono (by omega)) (by omega) (by omega)
theorem whk {N : List Node} {n : Int} {xs : List Int} (h : n < 0) : ev N n xs = n := by
 unfold ev evF; rw [if_pos h]
theorem wgp {k : Nat} (hk : k ≤ 4) {N : List Node} (hN : OkN k N) {xs : List Int} (hx : Pts k xs) {n : Int} {x : Node} (h0 : 0 ≤ n) (h : N[n.toNat]? = some x) : ev N n xs = ev N (wbG x xs) xs := by
 have hm := hN.mark _ x h
 have hkid : wbG x xs ∈ x.To := weD (hN.runs _ x h) (wei hx _).2
 have hv := hN.kids _ x h _ hkid
 have e : ev N n xs = evF N 4 (wbG x xs) xs := by
  unfold ev
  rw [evF, if_neg (by omega), wcz h]
 rw [e]
 exact wny hN hx (k - (x.Mark.toNat + 1)) _ 4 5 (hv.mono (by omega)) (by omega) (by omega)
theorem wl2 {k : Nat} {xs : List Int} (h : Pts k xs) (p : Nat) {y : Int} (h0 : 0 ≤ y) (h1 : y < 1000) : Pts k (xs.set p y) := by
 refine ⟨by rw [List.length_set]; exact h.1, fun x hx => ?_⟩
 rcases List.mem_or_eq_of_mem_set hx with h2 | h2
 ·exact h.2 x h2
 ·omega
theorem wgj {k : Nat} (hk : k ≤ 4) {N : List Node} (hN : OkN k N) {xs : List Int} (hx : Pts k xs) {p : Nat} {y : Int} (h0 : 0 ≤ y) (h1 : y < 1000) : ∀ (d : Nat) (n : Int), Valid N (p + 1) n → Valid N (k - d) n → ev N n (xs.set p y) = ev N n xs
 | d, n, hv, hd => by
  rcases hv with ⟨g1, _⟩ | ⟨x, g1, g2, g3⟩
  ·rw [whk g1, whk g1]
  ·have hm := hN.mark _ x g2
   rw [wgp hk hN (wl2 hx p h0 h1) g1 g2, wgp hk hN hx g1 g2]
   have e : wbG x (xs.set p y) = wbG x xs := by
    unfold wbG
    congr 1
    rw [List.getD, List.getD, List.getElem?_set_ne (by omega)]
   rw [e]
   have hkid : wbG x xs ∈ x.To := weD (hN.runs _ x g2) (wei hx _).2
   have hv2 := hN.kids _ x g2 _ hkid
   rcases hd with ⟨q1, _⟩ | ⟨x', q1, q2, q3⟩
   ·omega
   ·rw [g2] at q2
    cases q2
    cases d with
    | zero => omega
    | succ d => exact wgj hk hN hx h0 h1 d _ (hv2.mono (by omega)) (hv2.mono (by omega))
def wdR (k : Nat) (N N' : List Node) (n m : Int) : Prop := ∀ xs, Pts k xs → ev N n xs = ev N' m xs
def wrj (k : Nat) (N N' : List Node) (n m : Int) : Prop := (n < 0 ∧ n = m) ∨ ∃ x x', 0 ≤ n ∧ 0 ≤ m ∧ N[n.toNat]? = some x ∧ N'[m.toNat]? = some x' ∧ x.Mark = x'.Mark ∧ x.Cuts = x'.Cuts ∧ x.To.length = x'.To.length ∧ ∀ (i : Nat) a b, x.To[i]? = some a → x'.To[i]? = some b → wdR k N N' a b
theorem wsB (k : Nat) : Pts k (List.replicate k 0) := ⟨by simp, fun x hx => by have := (List.mem_replicate.1 hx).2; omega⟩
theorem wmm {k : Nat} (hk : k ≤ 4) {N : List Node} (hN : GoodN k N) {n : Int} {x : Node} (h0 : 0 ≤ n) (h : N[n.toNat]? = some x) (hinj : ∀ a b, Valid N (x.Mark.toNat + 1) a → Valid N (x.Mark.toNat + 1) b → wdR k N N a b → a = b) {N' : List Node} (hN' : OkN k N') {m : Int} (hm : Valid N' (x.Mark.toNat + 1) m) (hs : wdR k N N' n m) : False := by
 have hmk := hN.mark _ x h
 have hr := hN.runs _ x h
 have h2 := hN.two _ x h
 have hkids := hN.kids _ x h
 obtain ⟨hc1, hc2⟩ : ∃ c cs, x.Cuts = c :: cs := by
  cases hcs : x.Cuts with
  | nil => rw [hcs] at hr; simp [wbk] at hr
  | cons c cs => exact ⟨c, cs, rfl⟩
 obtain ⟨cs, hc2⟩ := hc2
 obtain ⟨t, ts, ht⟩ : ∃ t ts, x.To = t :: ts := by
  cases hts : x.To with
  | nil => rw [hts] at h2; simp at h2
  | cons t ts => exact ⟨t, ts, rfl⟩
 rw [hc2, ht] at hr
 rw [ht] at h2 hkids
 obtain ⟨c2, cs2, t2, ts2, e1, e2, e3, e4, e5⟩ := wsA hr h2
 subst e1 e2
 have hne : ¬ wdR k N N t t2 := fun hsm => e3 (hinj t t2 (hkids t (by simp)) (hkids t2 (by simp)) hsm)
 refine hne fun xs hx => ?_
 have hp0 := wl2 hx x.Mark.toNat (y := 0) (by omega) (by omega)
 have hp1 := wl2 hx x.Mark.toNat (y := hc1) (by have := hr.1; omega) e5
 have hlen : x.Mark.toNat < xs.length := by have := hx.1; omega
 have k0 : wbG x (xs.set x.Mark.toNat 0) = t := by
  unfold wbG
  rw [List.getD, List.getElem?_set_self hlen, hc2, ht]
  simp only [Option.getD_some, sel]
  rw [if_pos hr.1]
 have k1 : wbG x (xs.set x.Mark.toNat hc1) = t2 := by
  unfold wbG
  rw [List.getD, List.getElem?_set_self hlen, hc2, ht]
  simp only [Option.getD_some, sel]
  rw [if_neg (by omega), if_pos e4]
 have hv : ∀ a, Valid N (x.Mark.toNat + 1) a → Valid N (k - k) a := fun a ha => ha.mono (by omega)
 have hv' : ∀ a, Valid N' (x.Mark.toNat + 1) a → Valid N' (k - k) a := fun a ha => ha.mono (by omega)
 have a0 := hs _ hp0
 have a1 := hs _ hp1
 have hrr := hr.1
 rw [wgp hk hN.ok hp0 h0 h, k0, wgj hk hN.ok hx (by omega) (by omega) k t (hkids t (by simp)) (hv t (hkids t (by simp))), wgj hk hN' hx (by omega) (by omega) k m hm (hv' m hm)] at a0
 rw [wgp hk hN.ok hp1 h0 h, k1, wgj hk hN.ok hx (by omega) e5 k t2 (hkids t2 (by simp)) (hv t2 (hkids t2 (by simp))), wgj hk hN' hx (by omega) e5 k m hm (hv' m hm)] at a1
 rw [a0, a1]
theorem wrk {k : Nat} (hk : k ≤ 4) : ∀ (d : Nat), (∀ N N', GoodN k N → GoodN k N' → ∀ n m, Valid N (k - d) n → Valid N' (k - d) m → wdR k N N' n m → wrj k N N' n m) ∧ (∀ N, GoodN k N → ∀ n m, Valid N (k - d) n → Valid N (k - d) m → wdR k N N n m → n = m)
 | 0 => by
  have lf : ∀ N, GoodN k N → ∀ n, Valid N (k - 0) n → n < 0 := fun N hN n hv => by
   rcases hv with ⟨h, _⟩ | ⟨x, h1, h2, h3⟩
   ·exact h
   ·have := hN.mark _ x h2; omega
  have eq : ∀ N N', GoodN k N → GoodN k N' → ∀ n m, Valid N (k - 0) n → Valid N' (k - 0) m → wdR k N N' n m → n < 0 ∧ n = m := fun N N' hN hN' n m hn hm hs => by
   have h1 := lf N hN n hn
   have h2 := lf N' hN' m hm
   have h3 := hs _ (wsB k)
   rw [whk h1, whk h2] at h3
   exact ⟨h1, h3⟩
  exact ⟨fun N N' hN hN' n m hn hm hs => .inl (eq N N' hN hN' n m hn hm hs), fun N hN n m hn hm hs => (eq N N hN hN n m hn hm hs).2⟩
 | d + 1 => by
  obtain ⟨ihC, ihI⟩ := wrk hk d
  have C : ∀ N N', GoodN k N → GoodN k N' → ∀ n m, Valid N (k - (d + 1)) n → Valid N' (k - (d + 1)) m → wdR k N N' n m → wrj k N N' n m := fun N N' hN hN' n m hn hm hs => by
   by_cases hdk : d < k
   ·-- marks
    have up : ∀ N, GoodN k N → ∀ n, Valid N (k - (d + 1)) n → Valid N (k - d) n ∨ ∃ x, 0 ≤ n ∧ N[n.toNat]? = some x ∧ x.Mark = ((k - (d + 1) : Nat) : Int) := fun N hN n hv => by
     rcases hv with h | ⟨x, h1, h2, h3⟩
     ·exact .inl (.inl h)
     ·by_cases he : x.Mark = ((k - (d + 1) : Nat) : Int)
      ·exact .inr ⟨x, h1, h2, he⟩
      ·exact .inl (.inr ⟨x, h1, h2, by omega⟩)
    rcases up N hN n hn with hn2 | ⟨x, n0, nx, nm⟩
    ·rcases up N' hN' m hm with hm2 | ⟨x', m0, mx, mm⟩
     ·exact ihC N N' hN hN' n m hn2 hm2 hs
     ·exfalso
      have e : x'.Mark.toNat + 1 = k - d := by omega
      exact wmm hk hN' m0 mx (fun a b ha hb => ihI N' hN' a b (by rw [← e]; exact ha) (by rw [← e]; exact hb)) hN.ok (m := n) (by rw [e]; exact hn2) (fun xs hx => (hs xs hx).symm)
    ·have e : x.Mark.toNat + 1 = k - d := by omega
     rcases up N' hN' m hm with hm2 | ⟨x', m0, mx, mm⟩
     ·exfalso
      exact wmm hk hN n0 nx (fun a b ha hb => ihI N hN a b (by rw [← e]; exact ha) (by rw [← e]; exact hb)) hN'.ok (m := m) (by rw [e]; exact hm2) hs
     ·have e' : x'.Mark.toNat + 1 = k - d := by omega
      have key : ∀ y, 0 ≤ y → y < 1000 → wdR k N N' (sel x.Cuts x.To y) (sel x'.Cuts x'.To y) := fun y y0 y1 xs hx => by
       have hp := wl2 hx x.Mark.toNat y0 y1
       have hlen : x.Mark.toNat < xs.length := by have := hx.1; omega
       have h3 := hs _ hp
       have kk : wbG x (xs.set x.Mark.toNat y) = sel x.Cuts x.To y := by
        unfold wbG; rw [List.getD, List.getElem?_set_self hlen]; rfl
       have kk' : wbG x' (xs.set x.Mark.toNat y) = sel x'.Cuts x'.To y := by
        unfold wbG; rw [show x'.Mark.toNat = x.Mark.toNat by omega, List.getD, List.getElem?_set_self hlen]; rfl
       have v1 := hN.kids _ x nx _ (weD (hN.runs _ x nx) y1)
       have v2 := hN'.kids _ x' mx _ (weD (hN'.runs _ x' mx) y1)
       rw [wgp hk hN.ok hp n0 nx, wgp hk hN'.ok hp m0 mx, kk, kk', wgj hk hN.ok hx y0 y1 k _ v1 (v1.mono (by omega)), wgj hk hN'.ok hx y0 y1 k _ (by rw [show x.Mark.toNat = x'.Mark.toNat by omega]; exact v2) (v2.mono (by omega))] at h3
       exact h3
      obtain ⟨u1, u2, u3⟩ := woy (R := wdR k N N') (T := x.To) (T' := x'.To) (fun a b c ha hb h1 h2 => ihI N hN a b (by rw [← e]; exact hN.kids _ x nx a ha) (by rw [← e]; exact hN.kids _ x nx b hb) (fun xs hx => (h1 xs hx).trans (h2 xs hx).symm))
       (fun a c c' hc hd h1 h2 => ihI N' hN' c c' (by rw [← e']; exact hN'.kids _ x' mx c hc) (by rw [← e']; exact hN'.kids _ x' mx c' hd) (fun xs hx => (h1 xs hx).symm.trans (h2 xs hx))) x.Cuts x.To x'.Cuts x'.To 0 (hN.runs _ x nx) (hN'.runs _ x' mx) (fun _ h => h) (fun _ h => h) (fun y y0 y1 => key y y0 y1)
      exact .inr ⟨x, x', n0, m0, nx, mx, by omega, u1, u2, u3⟩
   ·have e : k - (d + 1) = k - d := by omega
    rw [e] at hn hm
    exact ihC N N' hN hN' n m hn hm hs
  refine ⟨C, fun N hN n m hn hm hs => ?_⟩
  by_cases hdk : d < k
  ·rcases C N N hN hN n m hn hm hs with ⟨_, h⟩ | ⟨x, x', n0, m0, nx, mx, e1, e2, e3, e4⟩
   ·exact h
   ·have vn : ∀ a ∈ x.To, Valid N (k - d) a := fun a ha => by
     have hv := hN.kids _ x nx a ha
     rcases hn with ⟨h, _⟩ | ⟨y, y1, y2, y3⟩
     ·omega
     ·rw [nx] at y2; cases y2
      exact hv.mono (by omega)
    have vm : ∀ a ∈ x'.To, Valid N (k - d) a := fun a ha => by
     have hv := hN.kids _ x' mx a ha
     rcases hm with ⟨h, _⟩ | ⟨y, y1, y2, y3⟩
     ·omega
     ·rw [mx] at y2; cases y2
      exact hv.mono (by omega)
    have et : x.To = x'.To := by
     apply List.ext_getElem? 
     intro i
     cases ha : x.To[i]? with
     | none =>
      rw [List.getElem?_eq_none_iff] at ha
      rw [List.getElem?_eq_none (by omega)]
     | some a =>
      have hi := (List.getElem?_eq_some_iff.1 ha).1
      have hb : x'.To[i]? = some (x'.To[i]'(by omega)) := List.getElem?_eq_getElem (by omega)
      rw [hb]
      congr 1
      exact ihI N hN a _ (vn a (List.mem_of_getElem? ha)) (vm _ (List.getElem_mem _)) (e4 i a _ ha hb)
    have ex : x = x' := by
     cases x; cases x'
     simp only at e1 e2 et
     rw [e1, e2, et]
    rw [← ex] at mx
    have := hN.uniq _ _ x nx mx
    omega
  ·have e : k - (d + 1) = k - d := by omega
   rw [e] at hn hm
   exact ihI N hN n m hn hm hs
theorem wi2 {k : Nat} (hk : k ≤ 4) {N N' : List Node} (hN : GoodN k N) (hN' : GoodN k N') {n m : Int} (hn : Valid N 0 n) (hm : Valid N' 0 m) (hs : wdR k N N' n m) : wrj k N N' n m :=
 (wrk hk k).1 N N' hN hN' n m (by rw [Nat.sub_self]; exact hn) (by rw [Nat.sub_self]; exact hm) hs
theorem wqG {k : Nat} (hk : k ≤ 4) {N : List Node} (hN : GoodN k N) {n m : Int} (hn : Valid N 0 n) (hm : Valid N 0 m) (hs : wdR k N N n m) : n = m :=
 (wrk hk k).2 N hN n m (by rw [Nat.sub_self]; exact hn) (by rw [Nat.sub_self]; exact hm) hs
end Go.Pv

namespace Go.Pv
open Go.Lib
theorem whw {u : Nat} (h : u < 10) : (UInt8.ofNat (48 + u)).toNat = 48 + u := by
 rw [UInt8.toNat_ofNat']; omega
theorem whW (u : Nat) : ∀ b ∈ decDigits u, 48 ≤ b.toNat ∧ b.toNat ≤ 57 := by
 induction u using Nat.strongRecOn with
 | ind u ih =>
  intro b hb
  rw [decDigits] at hb
  split at hb
  ·rename_i h
   simp only [List.mem_singleton] at hb
   subst hb
   rw [whw h]; omega
  ·rename_i h
   rcases List.mem_append.1 hb with hb | hb
   ·exact ih (u / 10) (by omega) b hb
   ·simp only [List.mem_singleton] at hb
    subst hb
    rw [whw (by omega)]; omega
theorem wpU (u : Nat) : decDigits u ≠ [] := by
 rw [decDigits]; split <;> simp
def wsC (l : List UInt8) : Nat := l.foldl (fun a b => a * 10 + (b.toNat - 48)) 0
theorem wkF (u : Nat) : wsC (decDigits u) = u := by
 induction u using Nat.strongRecOn with
 | ind u ih =>
  rw [decDigits]
  split
  ·rename_i h
   unfold wsC
   simp only [List.foldl_cons, List.foldl_nil]
   rw [whw h]; omega
  ·rename_i h
   have := ih (u / 10) (by omega)
   unfold wsC at this ⊢
   rw [List.foldl_append, this]
   simp only [List.foldl_cons, List.foldl_nil]
   rw [whw (by omega)]; omega
theorem wkG {u v : Nat} (h : decDigits u = decDigits v) : u = v := by
 rw [← wkF u, ← wkF v, h]
theorem wmH (n : Int) : ∀ b ∈ itoa n, b.toNat ≠ 32 ∧ b.toNat ≠ 124 := by
 intro b hb
 unfold itoa at hb
 split at hb
 ·rcases List.mem_cons.1 hb with rfl | hb
  ·decide
  ·have := whW _ b hb; omega
 ·have := whW _ b hb; omega
theorem wqH (n : Int) : itoa n ≠ [] := by
 unfold itoa
 split
 ·simp
 ·exact wpU _
theorem wsD {n m : Int} (h : itoa n = itoa m) : n = m := by
 have key : ∀ u v : Nat, decDigits u ≠ 45 :: decDigits v := fun u v he => by
  have := whW u 45 (by rw [he]; simp)
  have e : (45 : UInt8).toNat = 45 := by decide
  omega
 unfold itoa at h
 by_cases hn : n < 0
 ·by_cases hm : m < 0
  ·rw [if_pos hn, if_pos hm] at h
   have := wkG (List.cons.inj h).2
   omega
  ·rw [if_pos hn, if_neg hm] at h
   exact absurd h.symm (key _ _)
 ·by_cases hm : m < 0
  ·rw [if_neg hn, if_pos hm] at h
   exact absurd h (key _ _)
  ·rw [if_neg hn, if_neg hm] at h
   have := wkG h
   omega
theorem wpV {s : UInt8} : ∀ {a b x y : List UInt8}, s ∉ a → s ∉ b → a ++ s :: x = b ++ s :: y → a = b ∧ x = y
 | [], [], _, _, _, _, h => ⟨rfl, (List.cons.inj h).2⟩
 | [], c :: b, _, _, _, hb, h => absurd (List.cons.inj h).1 (fun e => hb (by rw [← e]; simp))
 | c :: a, [], _, _, ha, _, h => absurd (List.cons.inj h).1 (fun e => ha (by rw [e]; simp))
 | c :: a, d :: b, _, _, ha, hb, h => by
  obtain ⟨h1, h2⟩ := List.cons.inj h
  obtain ⟨h3, h4⟩ := wpV (fun h => ha (List.mem_cons_of_mem _ h)) (fun h => hb (List.mem_cons_of_mem _ h)) h2
  exact ⟨by rw [h1, h3], h4⟩
def wd5 (l : List Int) : List UInt8 := l.flatMap fun n => itoa n ++ [32]
theorem wkn : ∀ {l m : List Int} {r s : List UInt8}, wd5 l ++ 124 :: r = wd5 m ++ 124 :: s → l = m ∧ r = s
 | [], [], _, _, h => ⟨rfl, (List.cons.inj h).2⟩
 | [], n :: m, r, s, h => by
  exfalso
  simp only [wd5, List.flatMap_nil, List.nil_append, List.flatMap_cons, List.append_assoc] at h
  cases hi : itoa n with
  | nil => exact wqH n hi
  | cons b t =>
   rw [hi] at h
   have h1 := (List.cons.inj h).1
   have := (wmH n b (by rw [hi]; simp)).2
   rw [← h1] at this
   exact this (by decide)
 | n :: l, [], r, s, h => by
  exfalso
  simp only [wd5, List.flatMap_nil, List.nil_append, List.flatMap_cons, List.append_assoc] at h
  cases hi : itoa n with
  | nil => exact wqH n hi
  | cons b t =>
   rw [hi] at h
   have h1 := (List.cons.inj h).1
   have := (wmH n b (by rw [hi]; simp)).2
   rw [h1] at this
   exact this (by decide)
 | n :: l, m :: ms, r, s, h => by
  have hno : ∀ n, (32 : UInt8) ∉ itoa n := fun n hm => (wmH n 32 hm).1 (by decide)
  simp only [wd5, List.flatMap_cons, List.append_assoc, List.cons_append, List.nil_append] at h
  obtain ⟨h1, h2⟩ := wpV (hno n) (hno m) h
  obtain ⟨h3, h4⟩ := wkn (l := l) (m := ms) h2
  exact ⟨by rw [wsD h1, h3], h4⟩
def whX (x : Node) : List UInt8 := wd5 [x.Mark] ++ 124 :: (wd5 x.Cuts ++ 124 :: (wd5 x.To ++ [124]))
def whY (x : Node) : ByteArray := ⟨(whX x).toArray⟩
theorem wsE {x y : Node} (h : whX x = whX y) : x = y := by
 unfold whX at h
 obtain ⟨h1, h2⟩ := wkn h
 obtain ⟨h3, h4⟩ := wkn h2
 obtain ⟨h5, _⟩ := wkn (r := []) (s := []) h4
 cases x; cases y
 simp only at h1 h3 h5
 have h1 := (List.cons.inj h1).1
 rw [h1, h3, h5]
theorem wpW {x y : Node} (h : whY x = whY y) : x = y := by
 unfold whY at h
 simp only [ByteArray.mk.injEq] at h
 have : whX x = whX y := by simpa using h
 exact wsE this
theorem wko {l : List Int} (h : ∀ n ∈ l, -9223372036854775808 ≤ n ∧ n ≤ 9223372036854775807) : (wd5 l).length ≤ 22 * l.length := by
 induction l with
 | nil => simp [wd5]
 | cons n l ih =>
  have h1 := h n (by simp)
  have h2 := itoa_length_le n h1.1 h1.2
  have h3 := ih fun m hm => h m (List.mem_cons_of_mem _ hm)
  unfold wd5 at h3 ⊢
  simp only [List.flatMap_cons, List.length_append, List.length_cons, List.length_nil]
  omega
def asI (l : List UInt8) : List Int := l.map fun b => (b.toNat : Int)
theorem wig (a b : List UInt8) : asI (a ++ b) = asI a ++ asI b := by simp [asI]
theorem wlE (l : List UInt8) : wa4 ⟨l.toArray⟩ = asI l := by simp [wa4, asI]
theorem wtc (l : List UInt8) : ofI (asI l) = ⟨l.toArray⟩ := by
 have := wrd (⟨l.toArray⟩ : ByteArray)
 rw [wlE] at this
 exact this
theorem wrl (l : List UInt8) : wjA (asI l) = true := by
 have := woV (⟨l.toArray⟩ : ByteArray)
 rw [wlE] at this
 exact this
theorem woz {e1 : List Int} (hr : ∀ n ∈ e1, -9223372036854775808 ≤ n ∧ n ≤ 9223372036854775807) (hl : e1.length ≤ 1000) : ∀ (n v : Nat) (c : Bool) (L : List Int), n = e1.length - v → L.length + 22 * n ≤ 1000000 → ∃ c', iter (waW e1) ((v : Int), c, L) = some (c', L ++ asI (wd5 (e1.drop v)))
 | 0, v, c, L, hn, hL => by
  refine ⟨c, wbJ ?_⟩
  unfold waW
  dsimp only
  rw [decide_eq_false (by omega), wcq e1 (by omega)]
  simp [wd5, asI]
 | n + 1, v, c, L, hn, hL => by
  have hv : v < e1.length := by omega
  have h2 : idx e1 (v : Int) = some e1[v] := by unfold idx; simp [hv]
  have hrv := hr e1[v] (List.getElem_mem hv)
  have hlen := itoa_length_le e1[v] hrv.1 hrv.2
  have hb : wa4 ((⟨(itoa e1[v]).toArray⟩ : ByteArray) ++ (⟨#[32]⟩ : ByteArray)) = asI (itoa e1[v] ++ [32]) := by
   rw [woU, wlE, wig]; rfl
  have hsz : ((⟨(itoa e1[v]).toArray⟩ : ByteArray) ++ (⟨#[32]⟩ : ByteArray)).size = (itoa e1[v]).length + 1 := by
   have := wdV ((⟨(itoa e1[v]).toArray⟩ : ByteArray) ++ (⟨#[32]⟩ : ByteArray))
   rw [hb] at this
   rw [← this]; simp [asI]
  have hs1 : bsz (⟨(itoa e1[v]).toArray⟩ : ByteArray) + bsz (⟨#[32]⟩ : ByteArray) ≤ 4294967296 := by
   have e1 : bsz (⟨(itoa e1[v]).toArray⟩ : ByteArray) = (itoa e1[v]).length := by simp [bsz, ByteArray.size]
   have e2 : bsz (⟨#[32]⟩ : ByteArray) = 1 := rfl
   omega
  obtain ⟨c', ih⟩ := woz hr hl n (v + 1) true (L ++ asI (itoa e1[v] ++ [32])) (by omega) (by simp [asI]; omega)
  refine ⟨c', ?_⟩
  have e : L ++ asI (wd5 (e1.drop v)) = L ++ asI (itoa e1[v] ++ [32]) ++ asI (wd5 (e1.drop (v + 1))) := by
   rw [List.drop_eq_getElem_cons hv]
   simp only [wd5, List.flatMap_cons, wig, List.append_assoc]
  rw [e]
  refine wbI ?_ ih
  unfold waW
  dsimp only
  rw [decide_eq_true (by omega), cond_true, h2]
  unfold wlY wlo wah
  simp only [Option.bind_some]
  rw [if_pos hrv, Option.bind_some, if_pos hs1, if_pos (by rw [hsz]; omega), Option.bind_some, hb, wap (by omega)]; rfl
theorem wtd {x : Node} (hm : 0 ≤ x.Mark ∧ x.Mark ≤ 1000) (hc : ∀ n ∈ x.Cuts, -9223372036854775808 ≤ n ∧ n ≤ 9223372036854775807) (ht : ∀ n ∈ x.To, -9223372036854775808 ≤ n ∧ n ≤ 9223372036854775807) (lc : x.Cuts.length ≤ 1000) (lt : x.To.length ≤ 1000) : ∃ c, iter (waM x) (0, false, []) = some (c, asI (whX x)) := by
 have one : ∀ (e : List Int) (i : Nat) (c : Bool) (L : List Int), [[x.Mark], x.Cuts, x.To][i]? = some e → (∀ n ∈ e, -9223372036854775808 ≤ n ∧ n ≤ 9223372036854775807) → e.length ≤ 1000 → L.length ≤ 100000 → waM x ((i : Int), c, L) = some (.inl (((i + 1 : Nat) : Int), true, L ++ asI (wd5 e ++ [124]))) := fun e i c L hi hr hl hL => by
  have hlt : i < 3 := by have := (List.getElem?_eq_some_iff.1 hi).1; simpa using this
  have h2 : idx [[x.Mark], x.Cuts, x.To] (i : Int) = some e := by unfold idx; rw [if_pos (Int.natCast_nonneg _), Int.toNat_natCast]; exact hi
  obtain ⟨c', h3⟩ := woz hr hl e.length 0 c L (by omega) (by omega)
  have h3 : iter (waW e) (0, c, L) = some (c', L ++ asI (wd5 (e.drop 0))) := h3
  rw [List.drop_zero] at h3
  have hsl := wko hr
  unfold waM
  dsimp only
  have hd : decide ((i : Int) < (([[x.Mark], x.Cuts, x.To].length : Nat) : Int)) = true := decide_eq_true (by simp; omega)
  rw [hd, cond_true, h2]
  simp only [Option.bind_some, h3]
  unfold wgJ wah
  rw [if_pos (by simp [asI]; omega)]
  simp only [Option.bind_some]
  rw [wap (by omega), wig, List.append_assoc]; rfl
 have s1 := wko (l := [x.Mark]) (fun n hn => by simp only [List.mem_singleton] at hn; subst hn; omega)
 have s2 := wko hc
 have s3 := wko ht
 have f0 := one [x.Mark] 0 false [] rfl (fun n hn => by simp only [List.mem_singleton] at hn; subst hn; omega) (by simp) (by simp)
 have f1 := one x.Cuts 1 true ([] ++ asI (wd5 [x.Mark] ++ [124])) rfl hc lc (by simp only [List.length_cons, List.length_nil] at s1; simp [asI]; omega)
 have f2 := one x.To 2 true ([] ++ asI (wd5 [x.Mark] ++ [124]) ++ asI (wd5 x.Cuts ++ [124])) rfl ht lt (by simp only [List.length_cons, List.length_nil] at s1; simp [asI]; omega)
 have f3 : ∀ L, waM x (((3 : Nat) : Int), true, L) = some (.inr (true, L)) := fun L => by
  unfold waM
  dsimp only
  rw [decide_eq_false (by simp)]; rfl
 refine ⟨true, ?_⟩
 have e : asI (whX x) = [] ++ asI (wd5 [x.Mark] ++ [124]) ++ asI (wd5 x.Cuts ++ [124]) ++ asI (wd5 x.To ++ [124]) := by
  unfold whX
  simp only [wig, List.nil_append, List.append_assoc]
  simp [asI]
 rw [e]
 exact wbI f0 (wbI f1 (wbI f2 (wbJ (f3 _))))
end Go.Pv

namespace Go.Pv
def wgP (t : List Rule) (a : Nat) : Int := if wbX a < 0 then -1 else -2 - weI t a
def Val (k : Nat) (t : List Rule) (N : List Node) (n : Int) (mark a : Nat) : Prop := Valid N mark n ∧ ∀ xs, Pts k xs → ev N n xs = wgP t (wdy t mark a (xs.drop mark))
structure BOk (k : Nat) (t : List Rule) (o : Builder) : Prop where
 ek : o.k = (k : Int)
 et : o.rules = t
 good : GoodN k o.nodes
 same1 : ∀ (i : Nat) x, o.nodes[i]? = some x → waE (whY x) o.same = some (i : Int)
 same2 : ∀ s v, waE s o.same = some v → ∃ (i : Nat) (x : Node), v = (i : Int) ∧ o.nodes[i]? = some x ∧ whY x = s
 known : ∀ (mark a : Nat) (n : Int), mark < k → waE (⟨(mark : Int), (a : Int), 0⟩ : Arr3_Int) o.known = some n → Val k t o.nodes n mark a
theorem wn3 {N l : List Node} {i : Nat} {x : Node} (h : N[i]? = some x) : (N ++ l)[i]? = some x := by
 rw [List.getElem?_append_left (List.getElem?_eq_some_iff.1 h).1]; exact h
theorem Valid.ext {N : List Node} {m : Nat} {n : Int} (h : Valid N m n) (l : List Node) : Valid (N ++ l) m n := by
 rcases h with h | ⟨x, h1, h2, h3⟩
 ·exact .inl h
 ·exact .inr ⟨x, h1, wn3 h2, h3⟩
theorem wqI {k : Nat} {N : List Node} (hN : OkN k N) {xs : List Int} (hx : Pts k xs) (l : List Node) : ∀ (f : Nat) (n : Int), Valid N 0 n → evF (N ++ l) f n xs = evF N f n xs
 | 0, n, _ => rfl
 | f + 1, n, hv => by
  unfold evF
  rcases hv with ⟨h1, _⟩ | ⟨x, h1, h2, h3⟩
  ·rw [if_pos h1, if_pos h1]
  ·rw [if_neg (by omega), if_neg (by omega), wcz h2, wcz (wn3 h2)]
   have hk : wbG x xs ∈ x.To := weD (hN.runs _ x h2) (wei hx _).2
   exact wqI hN hx l f _ ((hN.kids _ x h2 _ hk).mono (Nat.zero_le _))
theorem wty {k : Nat} {N : List Node} (hN : OkN k N) {xs : List Int} (hx : Pts k xs) (l : List Node) {n : Int} (h : Valid N 0 n) : ev (N ++ l) n xs = ev N n xs := wqI hN hx l 5 n h
theorem Val.ext {k : Nat} {t : List Rule} {N : List Node} (hN : OkN k N) {n : Int} {mark a : Nat} (h : Val k t N n mark a) (l : List Node) : Val k t (N ++ l) n mark a :=
 ⟨h.1.ext l, fun xs hx => by rw [wty hN hx l (h.1.mono (Nat.zero_le _))]; exact h.2 xs hx⟩
theorem wpX : ∀ {cs ts : List Int} {u : Int}, wbk u cs ts → ∀ c ∈ cs, u < c ∧ c ≤ 1000
 | [], _, _, h, _, _ => by simp [wbk] at h
 | _ :: _, [], _, h, _, _ => by simp [wbk] at h
 | c :: cs, t :: ts, u, h, d, hd => by
  obtain ⟨h1, h2⟩ := h
  rcases h2 with ⟨h3, _, h4⟩ | ⟨_, h3⟩
  ·subst h3
   simp only [List.mem_singleton] at hd
   omega
  ·have hc := wfS h3
   rcases List.mem_cons.1 hd with rfl | hd
   ·omega
   ·have := wpX h3 d hd; omega
theorem wfb : ∀ {cs ts : List Int} {u : Int}, wbk u cs ts → (cs.length : Int) ≤ 1000 - u
 | [], _, _, h => by simp [wbk] at h
 | _ :: _, [], _, h => by simp [wbk] at h
 | c :: cs, t :: ts, u, h => by
  obtain ⟨h1, h2⟩ := h
  rcases h2 with ⟨h3, _, h4⟩ | ⟨_, h3⟩
  ·subst h3; simp; omega
  ·have := wfb h3
   simp only [List.length_cons]; omega
theorem wte {k : Nat} (hk : k ≤ 4) {t : List Rule} {o : Builder} (ho : BOk k t o) {x : Node} (hm : 0 ≤ x.Mark ∧ x.Mark < (k : Int)) (hr : wbk 0 x.Cuts x.To) (h2 : 2 ≤ x.To.length) (hkids : ∀ y ∈ x.To, Valid o.nodes (x.Mark.toNat + 1) y) (hsz : o.nodes.length ≤ 2000000) :
  ∃ (i : Nat) (o' : Builder), wa1 o x = some ((i : Int), o') ∧ BOk k t o' ∧ o'.known = o.known ∧ (∃ l, o'.nodes = o.nodes ++ l ∧ l.length ≤ 1) ∧ o'.nodes[i]? = some x := by
 have hcut := wpX hr
 have hcnt := wfb hr
 have hlen := wgi hr
 obtain ⟨c, hc⟩ := wtd (x := x) (by omega) (fun n hn => by have := hcut n hn; omega) (fun n hn => by
  rcases hkids n hn with h | ⟨y, h1, h3, _⟩
  ·omega
  ·have := (List.getElem?_eq_some_iff.1 h3).1; omega) (by omega) (by omega)
 have hne : whX x ≠ [] := by unfold whX; simp
 have hstr : wfP (⟨c, asI (whX x)⟩ : StringsBuilder) = some (whY x) := by
  unfold wfP wah
  dsimp only
  rw [if_pos ⟨wrl _, fun h => hne (by simpa [asI] using h)⟩, wtc]; rfl
 have key : wa1 o x = cond (!((waE (whY x) o.same).isSome)) (wah (o.nodes.length + [x].length ≤ 4294967296) (some ((o.nodes.length : Int), (⟨o.k, o.rules, o.known, wcC (whY x) (o.nodes.length : Int) o.same, o.nodes ++ [x]⟩ : Builder)))) (some ((waE (whY x) o.same).getD 0, o)) := by
  unfold wa1
  rw [hc]
  simp only [Option.bind_some]
  rw [hstr]
  simp only [Option.bind_some]
  cases (waE (whY x) o.same).isSome with
  | true => rfl
  | false =>
   simp only [Bool.not_false, cond_true]
   unfold wah
   split <;> rfl
 rw [key]
 cases hg : waE (whY x) o.same with
 | some v =>
  obtain ⟨i, y, e1, e2, e3⟩ := ho.same2 _ _ hg
  have := wpW e3
  subst this
  refine ⟨i, o, by rw [← e1]; rfl, ho, rfl, ⟨[], by simp, by simp⟩, e2⟩
 | none =>
  have hnew : ∀ i : Nat, o.nodes[i]? ≠ some x := fun i hi => by rw [ho.same1 i x hi] at hg; cases hg
  refine ⟨o.nodes.length, (⟨o.k, o.rules, o.known, wcC (whY x) (o.nodes.length : Int) o.same, o.nodes ++ [x]⟩ : Builder), by rw [Option.isSome_none, Bool.not_false, cond_true, wdA (by simp; omega)], ⟨ho.ek, ho.et, ⟨?_, ?_, ?_, ?_, ?_⟩, ?_, ?_, ?_⟩, rfl, ⟨[x], rfl, by simp⟩, by simp⟩
  all_goals dsimp only
  ·intro i y hy
   rcases Nat.lt_or_ge i o.nodes.length with h | h
   ·rw [List.getElem?_append_left h] at hy; exact ho.good.mark i y hy
   ·rw [List.getElem?_append_right h] at hy
    have : y = x := by simpa using List.mem_of_getElem? hy
    subst this; exact hm
  ·intro i y hy
   rcases Nat.lt_or_ge i o.nodes.length with h | h
   ·rw [List.getElem?_append_left h] at hy; exact ho.good.runs i y hy
   ·rw [List.getElem?_append_right h] at hy
    have : y = x := by simpa using List.mem_of_getElem? hy
    subst this; exact hr
  ·intro i y hy
   rcases Nat.lt_or_ge i o.nodes.length with h | h
   ·rw [List.getElem?_append_left h] at hy; exact ho.good.two i y hy
   ·rw [List.getElem?_append_right h] at hy
    have : y = x := by simpa using List.mem_of_getElem? hy
    subst this; exact h2
  ·intro i y hy z hz
   rcases Nat.lt_or_ge i o.nodes.length with h | h
   ·rw [List.getElem?_append_left h] at hy; exact (ho.good.kids i y hy z hz).ext _
   ·rw [List.getElem?_append_right h] at hy
    have : y = x := by simpa using List.mem_of_getElem? hy
    subst this; exact (hkids z hz).ext _
  ·intro i j y hy hz
   rcases Nat.lt_or_ge i o.nodes.length with h | h
   ·rw [List.getElem?_append_left h] at hy
    rcases Nat.lt_or_ge j o.nodes.length with h' | h'
    ·rw [List.getElem?_append_left h'] at hz; exact ho.good.uniq i j y hy hz
    ·rw [List.getElem?_append_right h'] at hz
     have : y = x := by simpa using List.mem_of_getElem? hz
     subst this; exact absurd hy (hnew i)
   ·rw [List.getElem?_append_right h] at hy
    have e : y = x := by simpa using List.mem_of_getElem? hy
    subst e
    have hi := (List.getElem?_eq_some_iff.1 hy).1
    rcases Nat.lt_or_ge j o.nodes.length with h' | h'
    ·rw [List.getElem?_append_left h'] at hz; exact absurd hz (hnew j)
    ·rw [List.getElem?_append_right h'] at hz
     have hj := (List.getElem?_eq_some_iff.1 hz).1
     simp only [List.length_cons, List.length_nil] at hi hj
     omega
  ·intro i y hy
   rw [wgo]
   rcases Nat.lt_or_ge i o.nodes.length with h | h
   ·rw [List.getElem?_append_left h] at hy
    rw [if_neg (fun e => hnew i (by rw [← wpW e]; exact hy))]
    exact ho.same1 i y hy
   ·rw [List.getElem?_append_right h] at hy
    have e : y = x := by simpa using List.mem_of_getElem? hy
    have hi := (List.getElem?_eq_some_iff.1 hy).1
    simp only [List.length_cons, List.length_nil] at hi
    subst e
    rw [if_pos rfl, show i = o.nodes.length by omega]
  ·intro s v hv
   rw [wgo] at hv
   split at hv
   ·rename_i e
    cases hv
    exact ⟨o.nodes.length, x, rfl, by simp, e.symm⟩
   ·obtain ⟨i, y, e1, e2, e3⟩ := ho.same2 s v hv
    exact ⟨i, y, e1, wn3 e2, e3⟩
  ·intro mark a n hmk hn
   exact (ho.known mark a n hmk hn).ext ho.good.ok _
def wdS (e : Int) : Int → List Int → List Int → Prop
 | u, c :: cs, t :: ts => u < c ∧ ((cs = [] ∧ ts = [] ∧ c = e) ∨ (ts.head? ≠ some t ∧ wdS e c cs ts))
 | _, _, _ => False
theorem woA : ∀ {cs ts : List Int} {u : Int}, wdS 1000 u cs ts → wbk u cs ts
 | [], _, _, h => by simp [wdS] at h
 | _ :: _, [], _, h => by simp [wdS] at h
 | c :: cs, t :: ts, u, h => by
  obtain ⟨h1, h2⟩ := h
  refine ⟨h1, ?_⟩
  rcases h2 with h2 | ⟨h3, h4⟩
  ·exact .inl h2
  ·exact .inr ⟨h3, woA h4⟩
theorem wi3 {e : Int} : ∀ {cs ts : List Int} {u : Int}, wdS e u cs ts → cs.length = ts.length ∧ 0 < ts.length
 | [], _, _, h => by simp [wdS] at h
 | _ :: _, [], _, h => by simp [wdS] at h
 | c :: cs, t :: ts, u, h => by
  obtain ⟨h1, h2⟩ := h
  rcases h2 with ⟨h3, h4, _⟩ | ⟨_, h4⟩
  ·subst h3 h4; simp
  ·have := wi3 h4; simp; omega
theorem wmI {e : Int} : ∀ {cs ts : List Int} {u : Int}, wdS e u cs ts → u < e
 | [], _, _, h => by simp [wdS] at h
 | _ :: _, [], _, h => by simp [wdS] at h
 | c :: cs, t :: ts, u, h => by
  obtain ⟨h1, h2⟩ := h
  rcases h2 with ⟨_, _, h3⟩ | ⟨_, h4⟩
  ·omega
  ·have := wmI h4; omega
theorem wnz {e e' x : Int} (he : e < e') : ∀ {C T : List Int} {u : Int}, wdS e u C T → T.getLast? ≠ some x → wdS e' u (C ++ [e']) (T ++ [x]) ∧ (∀ y, y < e → sel (C ++ [e']) (T ++ [x]) y = sel C T y) ∧ ∀ y, e ≤ y → y < e' → sel (C ++ [e']) (T ++ [x]) y = x
 | [], _, _, h, _ => by simp [wdS] at h
 | _ :: _, [], _, h, _ => by simp [wdS] at h
 | c :: C, t :: T, u, h, hx => by
  obtain ⟨h1, h2⟩ := h
  rcases h2 with ⟨h3, h4, h5⟩ | ⟨h3, h4⟩
  ·subst h3 h4 h5
   refine ⟨⟨h1, .inr ⟨fun hh => hx (by simpa using hh.symm), ⟨he, .inl ⟨rfl, rfl, rfl⟩⟩⟩⟩, fun y hy => ?_, fun y hy hy2 => ?_⟩
   ·simp only [List.cons_append, List.nil_append, sel, if_pos hy]
   ·simp only [List.cons_append, List.nil_append, sel, if_neg (show ¬ y < c by omega), if_pos hy2]
  ·have hlt := wmI h4
   have hlen := wi3 h4
   obtain ⟨i1, i2, i3⟩ := wnz he h4 (by
    cases T with
    | nil => simp at hlen
    | cons t2 T => rw [List.getLast?_cons_cons] at hx; exact hx)
   refine ⟨⟨h1, .inr ⟨?_, i1⟩⟩, fun y hy => ?_, fun y hy hy2 => ?_⟩
   ·cases T with
    | nil => simp at hlen
    | cons t2 T => exact h3
   ·simp only [List.cons_append, sel]
    by_cases hyc : y < c
    ·rw [if_pos hyc, if_pos hyc]
    ·rw [if_neg hyc, if_neg hyc]; exact i2 y hy
   ·simp only [List.cons_append, sel]
    rw [if_neg (by omega)]; exact i3 y hy hy2
theorem wnA {e e' x : Int} (he : e < e') : ∀ {C T : List Int} {u : Int}, wdS e u C T → T.getLast? = some x → wdS e' u (C.set (C.length - 1) e') T ∧ (∀ y, y < e → sel (C.set (C.length - 1) e') T y = sel C T y) ∧ ∀ y, e ≤ y → y < e' → sel (C.set (C.length - 1) e') T y = x
 | [], _, _, h, _ => by simp [wdS] at h
 | _ :: _, [], _, h, _ => by simp [wdS] at h
 | c :: C, t :: T, u, h, hx => by
  obtain ⟨h1, h2⟩ := h
  rcases h2 with ⟨h3, h4, h5⟩ | ⟨h3, h4⟩
  ·subst h3 h4 h5
   simp only [List.getLast?_singleton, Option.some.injEq] at hx
   subst hx
   refine ⟨⟨Int.lt_trans h1 he, .inl ⟨rfl, rfl, rfl⟩⟩, fun y hy => ?_, fun y hy hy2 => ?_⟩
   ·simp only [List.length_cons, List.length_nil, Nat.zero_add, Nat.sub_self, List.set_cons_zero, sel, if_pos hy, if_pos (show y < e' by omega)]
   ·simp only [List.length_cons, List.length_nil, Nat.zero_add, Nat.sub_self, List.set_cons_zero, sel, if_pos hy2]
  ·have hlt := wmI h4
   have hlen := wi3 h4
   obtain ⟨i1, i2, i3⟩ := wnA he h4 (by
    cases T with
    | nil => simp at hlen
    | cons t2 T => rw [List.getLast?_cons_cons] at hx; exact hx)
   have hs : (c :: C).set ((c :: C).length - 1) e' = c :: C.set (C.length - 1) e' := by
    have : (c :: C).length - 1 = (C.length - 1) + 1 := by simp only [List.length_cons]; omega
    rw [this, List.set_cons_succ]
   rw [hs]
   refine ⟨⟨h1, .inr ⟨h3, i1⟩⟩, fun y hy => ?_, fun y hy hy2 => ?_⟩
   ·simp only [sel]
    by_cases hyc : y < c
    ·rw [if_pos hyc, if_pos hyc]
    ·rw [if_neg hyc, if_neg hyc]; exact i2 y hy
   ·simp only [sel]
    rw [if_neg (by omega)]; exact i3 y hy hy2
theorem wpY : ∀ {cs ts : List Int} {v : Nat} {y : Int}, cs.Pairwise (· < ·) → cs.length = ts.length → (hv : v < ts.length) → (∀ (j : Nat) (hj : j < cs.length), j < v → cs[j] ≤ y) → (∀ (hj : v < cs.length), y < cs[v]) → sel cs ts y = ts[v]
 | [], [], v, y, _, _, hv, _, _ => by simp at hv
 | [], _ :: _, _, _, _, h, _, _, _ => by simp at h
 | _ :: _, [], _, _, _, h, _, _, _ => by simp at h
 | c :: cs, t :: ts, 0, y, _, _, _, _, h => by
  have := h (by simp)
  simp only [List.getElem_cons_zero] at this ⊢
  simp only [sel, if_pos this]
 | c :: cs, t :: ts, v + 1, y, hp, hl, hv, h1, h2 => by
  have hc := h1 0 (by simp) (by omega)
  simp only [List.getElem_cons_zero] at hc
  simp only [sel, if_neg (show ¬ y < c by omega), List.getElem_cons_succ]
  exact wpY (List.pairwise_cons.1 hp).2 (by simpa using hl) (by simpa using hv) (fun j hj hjv => by
   exact h1 (j + 1) (by simpa using hj) (by omega)) (fun hj => by
   exact h2 (by simpa using hj))
theorem wjj {ends to : List Int} (hp : ends.Pairwise (· < ·)) (hl : ends.length = to.length) (h97 : to.length ≤ 1000) : ∀ (n v : Nat) (C T : List Int), n = to.length - v → (hv : v < to.length + 1) → (hv0 : 0 < v) → wdS (ends[v - 1]'(by omega)) 0 C T → C.length ≤ v → (∀ y, 0 ≤ y → y < (ends[v - 1]'(by omega)) → sel C T y = sel ends to y) → ∃ C' T', iter (wbq ends to) ((v : Int), C, T) = some (C', T') ∧ wdS (ends[to.length - 1]'(by omega)) 0 C' T' ∧ ∀ y, 0 ≤ y → y < (ends[to.length - 1]'(by omega)) → sel C' T' y = sel ends to y
 | 0, v, C, T, hn, hv, hv0, hr, hC, hs => by
  have e : v = to.length := by omega
  subst e
  refine ⟨C, T, wbJ ?_, hr, hs⟩
  unfold wbq
  dsimp only
  rw [decide_eq_false (by omega)]; rfl
 | n + 1, v, C, T, hn, hv, hv0, hr, hC, hs => by
  have hvt : v < to.length := by omega
  have hve : v < ends.length := by omega
  have e1 : idx to (v : Int) = some to[v] := by unfold idx; simp [hvt]
  have e2 : idx ends (v : Int) = some ends[v] := by unfold idx; simp [hve]
  have hlen := wi3 hr
  have hw : IntKind.i64.wrap ((v : Int) + 1) = ((v + 1 : Nat) : Int) := by rw [wap (by omega)]; rfl
  have hw2 : IntKind.i64.wrap ((T.length : Int) - 1) = ((T.length - 1 : Nat) : Int) := by rw [wap (by omega)]; omega
  have hlt : ends[v - 1]'(by omega) < ends[v] := List.pairwise_iff_getElem.1 hp (v - 1) v (by omega) hve (by omega)
  have e3 : idx T ((T.length - 1 : Nat) : Int) = some (T[T.length - 1]'(by omega)) := by unfold idx; simp [hlen.2]
  have e4 : idx C ((T.length - 1 : Nat) : Int) = some (C[T.length - 1]'(by omega)) := by
   unfold idx
   rw [if_pos (Int.natCast_nonneg _), Int.toNat_natCast, List.getElem?_eq_getElem (by omega)]
  have hlast : T.getLast? = some (T[T.length - 1]'(by omega)) := by
   rw [List.getLast?_eq_getElem?, List.getElem?_eq_getElem (by omega)]
  have hsel : ∀ y, ends[v - 1]'(by omega) ≤ y → y < ends[v] → sel ends to y = to[v] := fun y h1 h2 =>
   wpY hp hl hvt (fun j hj hjv => by
    rcases Nat.lt_or_ge j (v - 1) with h | h
    ·have := List.pairwise_iff_getElem.1 hp j (v - 1) hj (by omega) h; omega
    ·have : j = v - 1 := by omega
     subst this; exact h1) (fun _ => h2)
  have e6 : ends[v + 1 - 1]'(by omega) = ends[v] := rfl
  by_cases hb : T[T.length - 1]'(by omega) = to[v]
  ·obtain ⟨m1, m2, m3⟩ := wnA hlt hr (x := to[v]) (by rw [hlast, hb])
   have hCl : C.length = T.length := hlen.1
   obtain ⟨C', T', g1, g2, g3⟩ := wjj hp hl h97 n (v + 1) (C.set (C.length - 1) ends[v]) T (by omega) (by omega) (by omega) m1 (by simp; omega) (fun y h1 h2 => by
    rcases Int.lt_or_le y (ends[v - 1]'(by omega)) with h | h
    ·rw [m2 y h]; exact hs y h1 h
    ·rw [m3 y h h2, hsel y h h2])
   refine ⟨C', T', wbI ?_ g1, g2, g3⟩
   unfold wbq
   dsimp only
   rw [decide_eq_true (by omega), cond_true, e1]
   simp only [Option.bind_some]
   rw [decide_eq_true (by omega), cond_true, hw2, e3]
   simp only [Option.bind_some]
   rw [decide_eq_true hb, cond_true, e2]
   simp only [Option.bind_some]
   rw [e4]
   simp only [Option.bind_some]
   rw [hw, Int.toNat_natCast, hCl]
  ·obtain ⟨m1, m2, m3⟩ := wnz hlt hr (x := to[v]) (by rw [hlast]; intro h; exact hb (by simpa using h))
   obtain ⟨C', T', g1, g2, g3⟩ := wjj hp hl h97 n (v + 1) (C ++ [ends[v]]) (T ++ [to[v]]) (by omega) (by omega) (by omega) m1 (by simp; omega) (fun y h1 h2 => by
    rcases Int.lt_or_le y (ends[v - 1]'(by omega)) with h | h
    ·rw [m2 y h]; exact hs y h1 h
    ·rw [m3 y h h2, hsel y h h2])
   refine ⟨C', T', wbI ?_ g1, g2, g3⟩
   unfold wbq
   dsimp only
   rw [decide_eq_true (by omega), cond_true, e1]
   simp only [Option.bind_some]
   rw [decide_eq_true (by omega), cond_true, hw2, e3]
   simp only [Option.bind_some]
   rw [decide_eq_false hb, cond_false, e2]
   simp only [Option.bind_some]
   unfold wah
   rw [if_pos (by simp; omega), if_pos (by simp; omega), hw]; rfl
theorem wrQ {ends to : List Int} (hp : ends.Pairwise (· < ·)) (hl : ends.length = to.length) (h97 : to.length ≤ 1000) (hpos : ∀ c ∈ ends, 0 < c ∧ c ≤ 1000) (hlast : (1000 : Int) ∈ ends) : ∃ C T, wc5 ends to = some (C, T) ∧ wbk 0 C T ∧ ∀ y, 0 ≤ y → y < 1000 → sel C T y = sel ends to y := by
 have hne : 0 < ends.length := List.length_pos_of_mem hlast
 have hend : ends[to.length - 1]'(by omega) = 1000 := by
  obtain ⟨j, hj, e⟩ := List.getElem_of_mem hlast
  rcases Nat.lt_or_ge j (to.length - 1) with h | h
  ·have h1 := List.pairwise_iff_getElem.1 hp j (to.length - 1) hj (by omega) h
   have h2 := hpos _ (List.getElem_mem (show to.length - 1 < ends.length by omega))
   omega
  ·have : j = to.length - 1 := by omega
   subst this; exact e
 have e1 : idx to 0 = some (to[0]'(by omega)) := by unfold idx; simp [show 0 < to.length by omega]
 have e2 : idx ends 0 = some ends[0] := by unfold idx; simp [hne]
 have hp0 := hpos _ (List.getElem_mem hne)
 obtain ⟨C, T, g1, g2, g3⟩ := wjj hp hl h97 (to.length - 1) 1 [ends[0]] [to[0]'(by omega)] (by omega) (by omega) (by omega) ⟨hp0.1, .inl ⟨rfl, rfl, rfl⟩⟩ (by simp) (fun y h1 h2 => by
  have : y < ends[0] := h2
  rw [wpY (v := 0) hp hl (by omega) (fun j _ hj => by omega) (fun _ => this)]
  simp only [sel, if_pos this])
 rw [hend] at g2
 refine ⟨C, T, ?_, woA g2, fun y h1 h2 => g3 y h1 (by omega)⟩
 have hf : wbq ends to (0, [], []) = some (.inl (((1 : Nat) : Int), [ends[0]], [to[0]'(by omega)])) := by
  unfold wbq
  dsimp only
  rw [decide_eq_true (by omega), cond_true, e1, e2]
  simp only [Option.bind_some]
  unfold wah
  rw [if_pos (by simp), if_pos (by simp)]
  rfl
 unfold wc5
 rw [wbI hf g1]; rfl
end Go.Pv

namespace Go.Pv
def wev (k : Nat) (l : List Rule) : Prop := l.length ≤ 24 ∧ ∀ r ∈ l, wbo (k : Int) r = true
end Go.Pv

namespace Go.Pv
theorem woB : ∀ {cs ts : List Int} {u y : Int}, wbk u cs ts → y ∈ ts → ∃ x, u ≤ x ∧ x < 1000 ∧ sel cs ts x = y
 | [], _, _, _, h, _ => by simp [wbk] at h
 | _ :: _, [], _, _, h, _ => by simp [wbk] at h
 | c :: cs, t :: ts, u, y, h, hy => by
  have hu := wfS h
  obtain ⟨h1, h2⟩ := h
  rcases List.mem_cons.1 hy with rfl | hy
  ·exact ⟨u, Int.le_refl _, hu, by simp only [sel, if_pos h1]⟩
  ·rcases h2 with ⟨_, h3, _⟩ | ⟨_, h3⟩
   ·subst h3; cases hy
   ·obtain ⟨x, x1, x2, x3⟩ := woB h3 hy
    exact ⟨x, by omega, x2, by simp only [sel, if_neg (show ¬ x < c by omega)]; exact x3⟩
theorem wmn {k : Nat} {t : List Rule} (ht : wev k t) {a : Nat} (ha : a < 2 ^ t.length) : -101 ≤ wgP t a ∧ wgP t a < 0 := by
 unfold wgP
 by_cases h : wbX a < 0
 ·rw [if_pos h]; omega
 ·rw [if_neg h]
  unfold weI
  rw [if_neg h]
  have hlt := wi0 ha h
  have hm : t.getD (wbX a).toNat default ∈ t := by
   rw [List.getD, List.getElem?_eq_getElem hlt]; exact List.getElem_mem hlt
  have := ht.2 _ hm
  unfold wbo at this
  simp only [Bool.and_eq_true, decide_eq_true_eq] at this
  omega
theorem wtf {k : Nat} {t : List Rule} (ht : wev k t) {o : Builder} (ho : BOk k t o) {a : Nat} (ha : a < 2 ^ t.length) : wbv o (a : Int) = some (wgP t a, o) := by
 have ha2 : a < 2 ^ 24 := Nat.lt_of_lt_of_le ha (Nat.pow_le_pow_right (by omega) ht.1)
 have hr := wmn ht ha
 unfold wbv
 rw [wji a (by omega), Option.bind_some, ho.et]
 unfold wgP at hr ⊢
 by_cases h : wbX a < 0
 ·rw [decide_eq_true h, cond_true, if_pos h]
 ·rw [if_neg h] at hr ⊢
  have hlt := wi0 ha h
  unfold weI at hr ⊢
  rw [if_neg h] at hr ⊢
  have e : idx t (wbX a) = some (t.getD (wbX a).toNat default) := by
   unfold idx
   rw [if_pos (by omega), List.getD, List.getElem?_eq_getElem hlt]; rfl
  rw [decide_eq_false h, cond_false, e, Option.bind_some, wap (by omega)]
noncomputable def nB (t : List Rule) : Nat → Nat → Nat
 | 0, _ => 0
 | d + 1, mark => 1 + (cs1 t mark).length * nB t d (mark + 1)
theorem wqJ {k : Nat} (hk : k ≤ 4) {t : List Rule} (ht : wev k t) {mark a D : Nat} (hm : mark < k) (ha : a < 2 ^ t.length) {self : Builder → Int → Int → Option (Int × Builder)}
  (hself : ∀ o (b : Nat), b < 2 ^ t.length → BOk k t o → o.nodes.length + D ≤ 2000000 → ∃ v o', self o ((mark + 1 : Nat) : Int) (b : Int) = some (v, o') ∧ BOk k t o' ∧ (∃ l, o'.nodes = o.nodes ++ l ∧ l.length ≤ D) ∧ Val k t o'.nodes v (mark + 1) b) :
  ∀ (n v : Nat) (u : Int) (o : Builder) (L : List Int), n = (cs1 t mark).length - v → v ≤ (cs1 t mark).length → BOk k t o → o.nodes.length + n * D ≤ 2000000 → 0 ≤ u → u ≤ 1000 → (u :: (cs1 t mark).drop v).Pairwise (· < ·) → (∀ c ∈ cs1 t mark, u < c → c ∈ (cs1 t mark).drop v) → L.length = v →
   ∃ (o' : Builder) (ts : List Int), iter (wba (mark : Int) (a : Int) self (cs1 t mark)) (u, (v : Int), o.k, o.rules, o.known, o.same, o.nodes, L) = some (o'.k, o'.rules, o'.known, o'.same, o'.nodes, L ++ ts) ∧ BOk k t o' ∧ (∃ l, o'.nodes = o.nodes ++ l ∧ l.length ≤ n * D) ∧ ts.length = n ∧ ∀ x, u ≤ x → x < 1000 → Val k t o'.nodes (sel ((cs1 t mark).drop v) ts x) (mark + 1) (a &&& wb0 t mark x)
 | 0, v, u, o, L, hn, hv, ho, hsz, h0, hu, hup, hall, hL => by
  have hvl : v = (cs1 t mark).length := by omega
  subst hvl
  obtain ⟨_, hc, _⟩ := wjF ht hm
  have hu2 : u = 1000 := by
   by_cases h : u < 1000
   ·have := hall 1000 hc.last h
    rw [wcq _ (Nat.le_refl _)] at this; cases this
   ·omega
  refine ⟨o, [], wbJ ?_, ho, ⟨[], by simp, by simp⟩, rfl, fun x h1 h2 => by omega⟩
  unfold wba
  dsimp only
  rw [decide_eq_false (by omega), List.append_nil]; rfl
 | n + 1, v, u, o, L, hn, hv, ho, hsz, h0, hu, hup, hall, hL => by
  obtain ⟨_, hc, h97⟩ := wjF ht hm
  have hv2 : v < (cs1 t mark).length := by omega
  have hcv := hc.pos _ (List.getElem_mem hv2)
  have e1 : idx (cs1 t mark) (v : Int) = some (cs1 t mark)[v] := by unfold idx; simp [hv2]
  rw [List.drop_eq_getElem_cons hv2] at hup hall ⊢
  rw [List.pairwise_cons] at hup
  have huc : u < (cs1 t mark)[v] := hup.1 _ (List.mem_cons_self ..)
  have hup2 := List.pairwise_cons.1 hup.2
  have hin : wlB mark t a (cs1 t mark) := wlC hc (by simp)
  have hlt : (a &&& wb0 t mark u) < 2 ^ t.length := Nat.lt_of_le_of_lt Nat.and_le_left ha
  have hft := wmG ht.1 mark u
  have ha2 : a < 2 ^ 24 := Nat.lt_of_lt_of_le ha (Nat.pow_le_pow_right (by omega) ht.1)
  rw [Nat.succ_mul] at hsz
  obtain ⟨w, o1, s1, s2, ⟨l1, s3, s4⟩, s5⟩ := hself o _ hlt ho (by omega)
  have hsz1 : o1.nodes.length = o.nodes.length + l1.length := by rw [s3, List.length_append]
  obtain ⟨o', ts, g1, g2, ⟨l2, g3, g4⟩, g5, g6⟩ := wqJ hk ht hm ha hself n (v + 1) (cs1 t mark)[v] o1 (L ++ [w]) (by omega) (by omega) s2 (by omega) (by omega) (by omega) hup.2 (fun c hcm h => by
   rcases List.mem_cons.1 (hall c hcm (by omega)) with h2 | h2
   ·omega
   ·exact h2) (by simp; omega)
  refine ⟨o', w :: ts, ?_, g2, ⟨l1 ++ l2, by rw [g3, s3, List.append_assoc], by rw [List.length_append, Nat.succ_mul]; omega⟩, by simp [g5], fun x h1 h2 => ?_⟩
  ·rw [List.append_assoc] at g1
   refine wbI ?_ g1
   unfold wba
   dsimp only
   have s1 : self (⟨o.k, o.rules, o.known, o.same, o.nodes⟩ : Builder) ((mark + 1 : Nat) : Int) ((a &&& wb0 t mark u : Nat) : Int) = some (w, o1) := s1
   have hw : IntKind.i64.wrap ((v : Int) + 1) = ((v + 1 : Nat) : Int) := by rw [wap (by omega)]; rfl
   have hw2 : IntKind.i64.wrap ((mark : Int) + 1) = ((mark + 1 : Nat) : Int) := by rw [wap (by omega)]; rfl
   have hfe : wbx o.rules (mark : Int) u = some (wb0 t mark u : Int) := by
    rw [ho.et]; exact wn0 t mark u ht.1 (fun r hr => (wdK (ht.2 r hr) hm).1)
   rw [decide_eq_true (by omega), cond_true, e1]
   simp only [Option.bind_some]
   rw [hfe]
   simp only [Option.bind_some]
   rw [wlZ (by omega) (by omega), hw, hw2, s1]
   simp only [Option.bind_some]
   unfold wah
   rw [if_pos (by simp; omega)]
  ·simp only [sel]
   by_cases hx : x < (cs1 t mark)[v]
   ·rw [if_pos hx, wkk hin h0 h1 (fun c hcm ⟨q1, q2⟩ => by
     rcases List.mem_cons.1 (hall c hcm q1) with h | h
     ·omega
     ·have := hup2.1 c h; omega), g3]
    exact s5.ext s2.good.ok _
   ·rw [if_neg hx]
    exact g6 x (by omega) h2
theorem woC {k : Nat} {xs : List Int} (hx : Pts k xs) {mark : Nat} (hm : mark < k) : xs.drop mark = xs.getD mark 0 :: xs.drop (mark + 1) := by
 have hl : mark < xs.length := by have := hx.1; omega
 rw [List.drop_eq_getElem_cons hl, List.getD, List.getElem?_eq_getElem hl]; rfl
theorem wtH {k : Nat} (hk : k ≤ 4) {t : List Rule} (ht : wev k t) (n : Nat) : ∀ (d : Nat) (o : Builder) (mark a : Nat), k - mark = d → mark ≤ k → d < n → a < 2 ^ t.length → BOk k t o → o.nodes.length + nB t d mark ≤ 2000000 →
  ∃ v o', waZ n o (mark : Int) (a : Int) = some (v, o') ∧ BOk k t o' ∧ (∃ l, o'.nodes = o.nodes ++ l ∧ l.length ≤ nB t d mark) ∧ Val k t o'.nodes v mark a := by
 induction n with
 | zero => intro d o mark a _ _ hn; omega
 | succ n ih =>
  intro d o mark a hd hm hn ha ho hsz
  have ha2 : a < 2 ^ 24 := Nat.lt_of_lt_of_le ha (Nat.pow_le_pow_right (by omega) ht.1)
  show ∃ v o', wbw (waZ n) o (mark : Int) (a : Int) = some (v, o') ∧ _
  unfold wbw
  cases d with
  | zero =>
   have hmk : mark = k := by omega
   subst hmk
   have hr := wmn ht ha
   rw [decide_eq_true (by rw [ho.ek]), cond_true, wtf ht ho ha]
   refine ⟨_, o, rfl, ho, ⟨[], by simp, by simp⟩, .inl ⟨hr.2, hr.1⟩, fun xs hx => ?_⟩
   rw [whk hr.2, List.drop_eq_nil_of_le (by have := hx.1; omega)]; rfl
  | succ d =>
   have hmk : mark < k := by omega
   obtain ⟨c1, c2, c3⟩ := wjF ht hmk
   rw [decide_eq_false (by rw [ho.ek]; omega), cond_false, wap (x := (a : Int)) (by omega)]
   have hnB : nB t (d + 1) mark = 1 + (cs1 t mark).length * nB t d (mark + 1) := rfl
   cases hg : waE (⟨(mark : Int), (a : Int), 0⟩ : Arr3_Int) o.known with
   | some v =>
    simp only [Option.isSome_some, cond_true, Option.getD_some]
    exact ⟨v, o, rfl, ho, ⟨[], by simp, by simp⟩, ho.known mark a v hmk hg⟩
   | none =>
    simp only [Option.isSome_none, cond_false]
    rw [hnB] at hsz ⊢
    obtain ⟨o1, ts, g1, g2, ⟨l1, g3, g4⟩, g5, g6⟩ := wqJ hk ht (D := nB t d (mark + 1)) hmk ha (self := waZ n) (fun o b hb ho hsz => ih d o (mark + 1) b (by omega) (by omega) (by omega) hb ho hsz) (cs1 t mark).length 0 0 o [] (by omega) (by omega) ho (by omega) (by omega) (by omega) (List.pairwise_cons.2 ⟨fun c h => (c2.pos c (by simpa using h)).1, by simpa using c2.up⟩) (fun c h _ => by simpa using h) rfl
    have g1 : iter (wba (mark : Int) (a : Int) (waZ n) (cs1 t mark)) (0, 0, o.k, o.rules, o.known, o.same, o.nodes, []) = some (o1.k, o1.rules, o1.known, o1.same, o1.nodes, [] ++ ts) := g1
    rw [List.nil_append] at g1
    rw [List.drop_zero] at g6
    obtain ⟨C, T, m1, m2, m3⟩ := wrQ (ends := cs1 t mark) (to := ts) c2.up (by omega) (by omega) c2.pos c2.last
    have hsz1 : o1.nodes.length = o.nodes.length + l1.length := by rw [g3, List.length_append]
    have hval : ∀ x, 0 ≤ x → x < 1000 → Val k t o1.nodes (sel C T x) (mark + 1) (a &&& wb0 t mark x) := fun x x0 x1 => by rw [m3 x x0 x1]; exact g6 x x0 x1
    have hTlen := wgi m2
    have hkids : ∀ y ∈ T, Valid o1.nodes (mark + 1) y := fun y hy => by
     obtain ⟨x, x0, x1, x2⟩ := woB m2 hy
     have := (hval x x0 x1).1
     rw [x2] at this; exact this
    have c1' : wa6 (mark : Int) [o.rules] = some (cs1 t mark) := by rw [ho.et]; exact c1
    rw [c1', Option.bind_some, g1]
    simp only [Option.bind_some]
    rw [m1]
    simp only [Option.bind_some]
    obtain ⟨t0, T', hT⟩ : ∃ t0 T', T = t0 :: T' := by
     cases T with
     | nil => cases C <;> simp [wbk] at m2
     | cons t0 T' => exact ⟨t0, T', rfl⟩
    have e0 : idx T 0 = some t0 := by rw [hT]; rfl
    rw [e0, Option.bind_some]
    -- what is kept
    have keep : ∀ (o2 : Builder) (v : Int) (l2 : List Node), BOk k t o2 → o2.nodes = o1.nodes ++ l2 → l2.length ≤ 1 → Val k t o2.nodes v mark a →
      BOk k t (⟨o2.k, o2.rules, wcC (⟨(mark : Int), (a : Int), 0⟩ : Arr3_Int) v o2.known, o2.same, o2.nodes⟩ : Builder) ∧ (∃ l, o2.nodes = o.nodes ++ l ∧ l.length ≤ 1 + (cs1 t mark).length * nB t d (mark + 1)) := fun o2 v l2 b1 b2 b3 b4 => by
     refine ⟨⟨b1.ek, b1.et, b1.good, b1.same1, b1.same2, fun mark' a' n' hm' hg' => ?_⟩, ⟨l1 ++ l2, by rw [b2, g3, List.append_assoc], by rw [List.length_append]; omega⟩⟩
     dsimp only at hg' ⊢
     rw [wgo] at hg'
     split at hg'
     ·rename_i heq
      simp only [Arr3_Int.mk.injEq] at heq
      obtain ⟨q1, q2, _⟩ := heq
      have q1 : mark' = mark := by omega
      have q2 : a' = a := by omega
      subst q1 q2
      simp only [Option.some.injEq] at hg'
      rw [← hg']; exact b4
     ·exact b1.known mark' a' n' hm' hg'
    by_cases h1 : 1 < (T.length : Int)
    ·obtain ⟨i, o2, n1, n2, n3, ⟨l2, n4, n5⟩, n6⟩ := wte hk g2 (x := (⟨(mark : Int), C, T⟩ : Node)) ⟨by simp, by simp; omega⟩ m2 (by simp only; omega) (by simpa using hkids) (by omega)
     have hv : Val k t o2.nodes (i : Int) mark a := by
      refine ⟨.inr ⟨_, Int.natCast_nonneg _, by rw [Int.toNat_natCast]; exact n6, Int.le_refl _⟩, fun xs hx => ?_⟩
      have hp := wei hx mark
      rw [wgp hk n2.good.ok hx (Int.natCast_nonneg _) (by rw [Int.toNat_natCast]; exact n6)]
      have ek : wbG (⟨(mark : Int), C, T⟩ : Node) xs = sel C T (xs.getD mark 0) := by unfold wbG; simp
      have hvk := ((hval _ hp.1 hp.2).ext g2.good.ok l2)
      rw [ek, woC hx hmk, n4, hvk.2 xs hx]; rfl
     obtain ⟨k1, k2⟩ := keep o2 (i : Int) l2 n2 n4 n5 hv
     refine ⟨(i : Int), _, ?_, k1, k2, hv⟩
     have n1 : wa1 (⟨o1.k, o1.rules, o1.known, o1.same, o1.nodes⟩ : Builder) (⟨(mark : Int), C, T⟩ : Node) = some ((i : Int), o2) := n1
     rw [decide_eq_true h1, cond_true, n1]; rfl
    ·have hT1 : T' = [] := by
      cases T' with
      | nil => rfl
      | cons b T' => rw [hT] at h1; simp only [List.length_cons] at h1; omega
     subst hT1
     have hC : C = [1000] := by
      rw [hT] at hTlen m2
      match C, hTlen, m2 with
      | [c], _, m2 =>
       rcases m2.2 with ⟨_, _, h⟩ | ⟨_, h⟩
       ·rw [h]
       ·simp [wbk] at h
     have hv : Val k t o1.nodes t0 mark a := by
      refine ⟨(hkids t0 (by rw [hT]; simp)).mono (by omega), fun xs hx => ?_⟩
      have hp := wei hx mark
      have hvk := hval _ hp.1 hp.2
      rw [hC, hT] at hvk
      simp only [sel, if_pos hp.2] at hvk
      rw [woC hx hmk, hvk.2 xs hx]; rfl
     obtain ⟨k1, k2⟩ := keep o1 t0 [] g2 (by simp) (by simp) hv
     refine ⟨t0, _, ?_, k1, k2, hv⟩
     rw [decide_eq_false h1, cond_false]; rfl
end Go.Pv

namespace Go.Pv
def wcj : List Nat → Nat → Option Nat
 | [], _ => none
 | s :: S, n => if s = n then some 0 else (wcj S n).map (· + 1)
theorem wkp : ∀ (S : List Nat) (n m : Nat), wcj (S ++ [n]) m = match wcj S m with | some i => some i | none => if n = m then some S.length else none
 | [], n, m => by simp only [List.nil_append, wcj, List.length_nil]; split <;> rfl
 | s :: S, n, m => by
  simp only [List.cons_append, wcj, wkp S n m]
  by_cases h : s = m
  ·rw [if_pos h, if_pos h]
  ·rw [if_neg h, if_neg h]
   cases wcj S m with
   | some i => rfl
   | none => simp only [Option.map_none]; split <;> simp
theorem wgQ : ∀ {S : List Nat} {n i : Nat}, wcj S n = some i → S[i]? = some n
 | [], _, _, h => by simp [wcj] at h
 | s :: S, n, i, h => by
  simp only [wcj] at h
  by_cases hs : s = n
  ·rw [if_pos hs] at h; cases h; simp [hs]
  ·rw [if_neg hs] at h
   cases hp : wcj S n with
   | none => rw [hp] at h; cases h
   | some j =>
    rw [hp] at h
    simp only [Option.map_some, Option.some.injEq] at h
    subst h
    rw [List.getElem?_cons_succ]; exact wgQ hp
theorem posOf_mem {S : List Nat} {n : Nat} : n ∈ S ↔ ∃ i, wcj S n = some i := by
 constructor
 ·intro h
  induction S with
  | nil => cases h
  | cons s S ih =>
   by_cases hs : s = n
   ·exact ⟨0, by simp [wcj, hs]⟩
   ·rcases List.mem_cons.1 h with h2 | h2
    ·exact absurd h2.symm hs
    ·obtain ⟨i, hi⟩ := ih h2
     exact ⟨i + 1, by simp [wcj, hs, hi]⟩
 ·rintro ⟨i, hi⟩; exact List.mem_of_getElem? (wgQ hi)
theorem woD {S : List Nat} {n : Nat} (T : List Nat) (h : n ∈ S) : wcj (S ++ T) n = wcj S n := by
 obtain ⟨i, hi⟩ := posOf_mem.1 h
 clear h
 induction S generalizing i with
 | nil => cases hi
 | cons s S ih =>
  simp only [List.cons_append, wcj] at hi ⊢
  by_cases hs : s = n
  ·rw [if_pos hs, if_pos hs]
  ·rw [if_neg hs] at hi ⊢
   rw [if_neg hs]
   cases hp : wcj S n with
   | none => rw [hp] at hi; cases hi
   | some j => rw [ih j hp, hp]
def num (S : List Nat) (n : Int) : Int := if n < 0 then n else (((wcj S n.toNat).getD 0 : Nat) : Int)
def In (S : List Nat) (n : Int) : Prop := n < 0 ∨ n.toNat ∈ S
theorem wqK {S : List Nat} {n : Int} (T : List Nat) (h : In S n) : num (S ++ T) n = num S n := by
 unfold num
 rcases h with h | h
 ·rw [if_pos h, if_pos h]
 ·rw [woD T h]
theorem In.app {S : List Nat} {n : Int} (h : In S n) (T : List Nat) : In (S ++ T) n := h.imp id fun h => List.mem_append_left _ h
def vis (N : List Node) : Nat → List Nat → Int → List Nat
 | 0, S, _ => S
 | f + 1, S, n => if n < 0 then S else if n.toNat ∈ S then S else (N.getD n.toNat default).To.foldl (fun S t => vis N f S t) (S ++ [n.toNat])
theorem wjH (N : List Node) : ∀ (f : Nat) (S : List Nat) (n : Int), ∃ T, vis N f S n = S ++ T
 | 0, S, _ => ⟨[], by simp [vis]⟩
 | f + 1, S, n => by
  have wa3 : ∀ (l : List Int) (S : List Nat), ∃ T, l.foldl (fun S t => vis N f S t) S = S ++ T := by
   intro l
   induction l with
   | nil => intro S; exact ⟨[], by simp⟩
   | cons t l ih =>
    intro S
    obtain ⟨T, hT⟩ := wjH N f S t
    obtain ⟨U, hU⟩ := ih (S ++ T)
    exact ⟨T ++ U, by rw [List.foldl_cons, hT, hU, List.append_assoc]⟩
  simp only [vis]
  split
  ·exact ⟨[], by simp⟩
  ·split
   ·exact ⟨[], by simp⟩
   ·obtain ⟨T, hT⟩ := wa3 (N.getD n.toNat default).To (S ++ [n.toNat])
    exact ⟨[n.toNat] ++ T, by rw [hT, List.append_assoc]⟩
theorem wkq : ∀ (n : Nat) (S : List Nat), S.Nodup → (∀ s ∈ S, s < n) → S.length ≤ n
 | 0, S, _, h => by
  cases S with
  | nil => simp
  | cons s S => have := h s (by simp); omega
 | n + 1, S, hd, h => by
  by_cases hm : n ∈ S
  ·have h1 := wkq n (S.erase n) (hd.erase n) (fun s hs => by
    have h2 := (hd.mem_erase_iff).1 hs
    have := h s h2.2
    have := h2.1
    omega)
   rw [List.length_erase_of_mem hm] at h1
   omega
  ·have := wkq n S hd (fun s hs => by
    have h1 := h s hs
    have : s ≠ n := fun e => hm (e ▸ hs)
    omega)
   omega
def wcW (N : List Node) (S : List Nat) (n : Nat) : Node := ⟨(N.getD n default).Mark, (N.getD n default).Cuts, (N.getD n default).To.map (num S)⟩
structure Com (N : List Node) (M : List (Int × Int)) (L : List Node) (S : List Nat) : Prop where
 map : ∀ n : Nat, waE (n : Int) M = (wcj S n).map fun i => (i : Int)
 len : L.length = S.length
 nodup : S.Nodup
 lt : ∀ s ∈ S, s < N.length
def wpZ (N : List Node) (L : List Node) (S : List Nat) (p : Nat) : Prop := ∀ (i n : Nat), p ≤ i → S[i]? = some n → L[i]? = some (wcW N S n) ∧ ∀ t ∈ (N.getD n default).To, In S t
theorem wrR {N : List Node} {S : List Nat} {n : Nat} (h : ∀ t ∈ (N.getD n default).To, In S t) (T : List Nat) : wcW N (S ++ T) n = wcW N S n := by
 unfold wcW
 congr 1
 exact List.map_congr_left fun t ht => wqK T (h t ht)
theorem woE {k : Nat} {o : Builder} (hN : GoodN k o.nodes) (hsz : o.nodes.length ≤ 2000000) {f : Nat} {self : List (Int × Int) → List Node → Builder → Int → Option (Int × List (Int × Int) × List Node)} {p n0 : Nat} {x : Node} (hx : o.nodes[n0]? = some x) {l1 : List Node} (hp : l1.length = p)
  (hself : ∀ M L S t, t ∈ x.To → Com o.nodes M L S → ∃ M' L', self M L o t = some (num (vis o.nodes f S t) t, M', L') ∧ Com o.nodes M' L' (vis o.nodes f S t) ∧ (∀ i, i < L.length → L'[i]? = L[i]?) ∧ wpZ o.nodes L' (vis o.nodes f S t) L.length ∧ In (vis o.nodes f S t) t) :
  ∀ (n v : Nat) (M : List (Int × Int)) (L : List Node) (S : List Nat), n = x.To.length - v → v ≤ x.To.length → Com o.nodes M L S → p < L.length → L[p]? = some (⟨x.Mark, x.Cuts, (x.To.take v).map (num S)⟩ : Node) → (∀ t ∈ x.To.take v, In S t) → wpZ o.nodes L S (p + 1) →
   ∃ M' L', iter (waI l1 o self x) ((v : Int), M, L) = some (M', L') ∧ Com o.nodes M' L' ((x.To.drop v).foldl (fun S t => vis o.nodes f S t) S) ∧ (∀ i, i < p → L'[i]? = L[i]?) ∧ L'[p]? = some (⟨x.Mark, x.Cuts, x.To.map (num ((x.To.drop v).foldl (fun S t => vis o.nodes f S t) S))⟩ : Node) ∧ (∀ t ∈ x.To, In ((x.To.drop v).foldl (fun S t => vis o.nodes f S t) S) t) ∧ wpZ o.nodes L' ((x.To.drop v).foldl (fun S t => vis o.nodes f S t) S) (p + 1)
 | 0, v, M, L, S, hn, hv, hC, hpl, hLp, hin, hfu => by
  have e : v = x.To.length := by omega
  subst e
  rw [List.take_length] at hLp hin
  rw [wcq x.To (Nat.le_refl _)]
  refine ⟨M, L, wbJ ?_, hC, fun _ _ => rfl, hLp, hin, hfu⟩
  unfold waI
  dsimp only
  rw [decide_eq_false (by omega)]; rfl
 | n + 1, v, M, L, S, hn, hv, hC, hpl, hLp, hin, hfu => by
  have hvt : v < x.To.length := by omega
  have e1 : idx x.To (v : Int) = some x.To[v] := by unfold idx; simp [hvt]
  have hcnt := wfb (hN.runs _ x hx)
  have hlen := wgi (hN.runs _ x hx)
  obtain ⟨M1, L1, s1, s2, s3, s4, s5⟩ := hself M L S x.To[v] (List.getElem_mem hvt) hC
  obtain ⟨T, hT⟩ := wjH o.nodes f S x.To[v]
  have hS1 : (vis o.nodes f S x.To[v]).length = S.length + T.length := by rw [hT, List.length_append]
  have hL1 : L1[p]? = some (⟨x.Mark, x.Cuts, (x.To.take v).map (num S)⟩ : Node) := by rw [s3 p hpl]; exact hLp
  have hp1 : p < L1.length := (List.getElem?_eq_some_iff.1 hL1).1
  have e2 : idx L1 (l1.length : Int) = some (⟨x.Mark, x.Cuts, (x.To.take v).map (num S)⟩ : Node) := by
   unfold idx
   rw [if_pos (Int.natCast_nonneg _), Int.toNat_natCast, hp]; exact hL1
  have hw : IntKind.i64.wrap ((v : Int) + 1) = ((v + 1 : Nat) : Int) := by rw [wap (by omega)]; rfl
  have htk : (x.To.take v).map (num S) ++ [num (vis o.nodes f S x.To[v]) x.To[v]] = (x.To.take (v + 1)).map (num (vis o.nodes f S x.To[v])) := by
   rw [List.take_succ_eq_append_getElem hvt, List.map_append]
   congr 1
   exact List.map_congr_left fun t ht => by rw [hT]; exact (wqK T (hin t ht)).symm
  generalize hS' : vis o.nodes f S x.To[v] = S' at s1 s2 s4 s5 hT hS1 htk
  obtain ⟨M', L', g1, g2, g3, g4, g5, g6⟩ := woE hN hsz hx hp hself n (v + 1) M1 (L1.set p (⟨x.Mark, x.Cuts, (x.To.take (v + 1)).map (num S')⟩ : Node)) S' (by omega) (by omega)
   ⟨s2.map, by rw [List.length_set]; exact s2.len, s2.nodup, s2.lt⟩ (by rw [List.length_set]; exact hp1) (by rw [List.getElem?_set_self hp1]) (fun t ht => by
    rw [List.take_succ_eq_append_getElem hvt] at ht
    rcases List.mem_append.1 ht with h | h
    ·rw [hT]; exact (hin t h).app T
    ·simp only [List.mem_singleton] at h
     subst h; exact s5) (fun i m hi hm => by
    rw [List.getElem?_set_ne (by omega)]
    rcases Nat.lt_or_ge i L.length with h | h
    ·have hmS : S[i]? = some m := by
      rw [hT, List.getElem?_append_left (by rw [← hC.len]; exact h)] at hm; exact hm
     obtain ⟨q1, q2⟩ := hfu i m hi hmS
     rw [s3 i h, hT, wrR q2 T]
     exact ⟨q1, fun t ht => (q2 t ht).app T⟩
    ·exact s4 i m h hm)
  rw [List.drop_eq_getElem_cons hvt, List.foldl_cons, hS']
  refine ⟨M', L', wbI ?_ g1, g2, fun i hi => ?_, g4, g5, g6⟩
  ·unfold waI
   dsimp only
   rw [decide_eq_true (by omega), cond_true, e1]
   simp only [Option.bind_some]
   rw [s1]
   simp only [Option.bind_some]
   rw [e2]
   simp only [Option.bind_some]
   unfold wah
   rw [if_pos (by simp; omega), hw, Int.toNat_natCast, hp, htk]
  ·rw [g3 i hi, List.getElem?_set_ne (by omega)]
   exact s3 i (by omega)
theorem wqL {k : Nat} (hk : k ≤ 4) {o : Builder} (hN : GoodN k o.nodes) (hsz : o.nodes.length ≤ 2000000) : ∀ (f d : Nat) (M : List (Int × Int)) (L : List Node) (S : List Nat) (n : Int), d < f → Valid o.nodes (k - d) n → Com o.nodes M L S →
  ∃ M' L', waH f M L o n = some (num (vis o.nodes f S n) n, M', L') ∧ Com o.nodes M' L' (vis o.nodes f S n) ∧ (∀ i, i < L.length → L'[i]? = L[i]?) ∧ wpZ o.nodes L' (vis o.nodes f S n) L.length ∧ In (vis o.nodes f S n) n
 | 0, d, _, _, _, _, h, _, _ => by omega
 | f + 1, d, M, L, S, n, hd, hv, hC => by
  show ∃ M' L', waT (waH f) M L o n = _ ∧ _
  unfold waT
  have fullNone : wpZ o.nodes L S L.length := fun i m hi hm => by
   have := (List.getElem?_eq_some_iff.1 hm).1
   have := hC.len
   omega
  simp only [vis]
  rcases hv with ⟨h1, _⟩ | ⟨x, h1, h2, h3⟩
  ·rw [decide_eq_true h1, cond_true, if_pos h1]
   exact ⟨M, L, by simp only [num, if_pos h1], hC, fun _ _ => rfl, fullNone, .inl h1⟩
  ·obtain ⟨m, rfl⟩ : ∃ m : Nat, n = m := ⟨n.toNat, by omega⟩
   rw [Int.toNat_natCast] at h2
   have hneg : ¬ (m : Int) < 0 := by omega
   rw [decide_eq_false hneg, cond_false, if_neg hneg, Int.toNat_natCast]
   have hmap := hC.map m
   by_cases hmem : m ∈ S
   ·obtain ⟨i, hi⟩ := posOf_mem.1 hmem
    rw [hi] at hmap
    have hmap : waE (m : Int) M = some (i : Int) := hmap
    rw [if_pos hmem, hmap]
    simp only [Option.isSome_some, cond_true, Option.getD_some]
    exact ⟨M, L, by simp only [num, if_neg hneg, Int.toNat_natCast, hi, Option.getD_some], hC, fun _ _ => rfl, fullNone, .inr hmem⟩
   ·have hnone : wcj S m = none := by
     cases hp : wcj S m with
     | none => rfl
     | some i => exact absurd (posOf_mem.2 ⟨i, hp⟩) hmem
    rw [hnone] at hmap
    have hmap : waE (m : Int) M = none := hmap
    rw [if_neg hmem, hmap]
    simp only [Option.isSome_none, cond_false]
    have hmk := hN.mark _ x h2
    have hlt : m < o.nodes.length := (List.getElem?_eq_some_iff.1 h2).1
    have hSl := wkq o.nodes.length S hC.nodup hC.lt
    have hcnt := wfb (hN.runs _ x h2)
    have hlen := wgi (hN.runs _ x h2)
    have e1 : idx o.nodes (m : Int) = some x := by
     unfold idx
     rw [if_pos (Int.natCast_nonneg _), Int.toNat_natCast]; exact h2
    have hd0 : 0 < d := by
     refine Nat.pos_of_ne_zero fun h => ?_
     subst h; omega
    have hcl := hC.len
    have hC1 : Com o.nodes (wcC (m : Int) (L.length : Int) M) (L ++ [(⟨x.Mark, x.Cuts, []⟩ : Node)]) (S ++ [m]) := by
     refine ⟨fun q => ?_, by simp [hcl], ?_, fun s hs => ?_⟩
     ·rw [wgo, wkp]
      by_cases hq : (q : Int) = (m : Int)
      ·have : q = m := by omega
       subst this
       rw [if_pos rfl, hnone]
       simp [hcl]
      ·rw [if_neg hq, hC.map q]
       cases wcj S q with
       | some i => rfl
       | none =>
        have : ¬ m = q := fun e => hq (by rw [e])
        simp [this]
     ·rw [List.nodup_append]
      refine ⟨hC.nodup, by simp, fun a ha b hb => ?_⟩
      simp only [List.mem_singleton] at hb
      subst hb
      exact fun e => hmem (e ▸ ha)
     ·rcases List.mem_append.1 hs with h | h
      ·exact hC.lt s h
      ·simp only [List.mem_singleton] at h
       subst h; exact hlt
    have hx := wcz h2
    obtain ⟨M', L', g1, g2, g3, g4, g5, g6⟩ := woE hN hsz (f := f) (self := waH f) (n0 := m) h2 (l1 := L) (p := L.length) rfl (fun M L S t ht hC => wqL hk hN hsz f (d - 1) M L S t (by omega) ((hN.kids _ x h2 t ht).mono (by omega)) hC)
     x.To.length 0 (wcC (m : Int) (L.length : Int) M) (L ++ [(⟨x.Mark, x.Cuts, []⟩ : Node)]) (S ++ [m]) (by omega) (by omega) hC1 (by simp) (by simp) (fun t ht => by simp at ht) (fun i q hi hq => by
      have := (List.getElem?_eq_some_iff.1 hq).1
      simp at this; omega)
    rw [List.drop_zero] at g2 g4 g5 g6
    have g1 : iter (waI L o (waH f) x) (0, wcC (m : Int) (L.length : Int) M, L ++ [(⟨x.Mark, x.Cuts, []⟩ : Node)]) = some (M', L') := g1
    rw [hx]
    obtain ⟨T, hT⟩ : ∃ T, x.To.foldl (fun S t => vis o.nodes f S t) (S ++ [m]) = S ++ [m] ++ T := by
     have := wjH o.nodes (f + 1) S (m : Int)
     have wa3 : ∀ (l : List Int) (S : List Nat), ∃ T, l.foldl (fun S t => vis o.nodes f S t) S = S ++ T := by
      intro l
      induction l with
      | nil => intro S; exact ⟨[], by simp⟩
      | cons t l ih =>
       intro S
       obtain ⟨T, hT⟩ := wjH o.nodes f S t
       obtain ⟨U, hU⟩ := ih (S ++ T)
       exact ⟨T ++ U, by rw [List.foldl_cons, hT, hU, List.append_assoc]⟩
     exact wa3 x.To (S ++ [m])
    generalize hF : x.To.foldl (fun S t => vis o.nodes f S t) (S ++ [m]) = F at g2 g4 g5 g6 hT
    have hpos : wcj F m = some S.length := by
     rw [hT, woD T (by simp), wkp, hnone]; simp
    refine ⟨M', L', ?_, g2, fun i hi => ?_, fun i q hi hq => ?_, .inr ?_⟩
    ·rw [e1]
     have hclo : whJ x.Cuts = some x.Cuts := by unfold whJ; rw [if_pos (by omega)]
     simp only [Option.bind_some, hclo]
     unfold wah
     rw [if_pos (by omega), g1]
     simp only [Option.bind_some]
     simp only [num, if_neg hneg, Int.toNat_natCast, hpos, Option.getD_some, hcl]
    ·rw [g3 i hi, List.getElem?_append_left hi]
    ·rcases Nat.lt_or_ge i (L.length + 1) with h | h
     ·have : i = L.length := by omega
      subst this
      have : q = m := by
       rw [hT, hcl, List.append_assoc, List.getElem?_append_right (Nat.le_refl _)] at hq
       simpa using hq.symm
      subst this
      unfold wcW
      rw [hx]
      exact ⟨g4, g5⟩
     ·exact g6 i q h hq
    ·exact posOf_mem.2 ⟨_, hpos⟩
theorem wrm {k : Nat} (hk : k ≤ 4) {o : Builder} (hN : GoodN k o.nodes) (hsz : o.nodes.length ≤ 2000000) {top : Int} (hv : Valid o.nodes 0 top) : waX o top = some ((vis o.nodes 100 [] top).map (wcW o.nodes (vis o.nodes 100 [] top)), o) ∧ (vis o.nodes 100 [] top).length ≤ o.nodes.length ∧ In (vis o.nodes 100 [] top) top ∧ ∀ s ∈ vis o.nodes 100 [] top, s < o.nodes.length ∧ ∀ t ∈ (o.nodes.getD s default).To, In (vis o.nodes 100 [] top) t := by
 obtain ⟨M', L', g1, g2, g3, g4, g5⟩ := wqL hk hN hsz 100 k [] [] [] top (by omega) (by rw [Nat.sub_self]; exact hv) ⟨fun n => rfl, rfl, List.nodup_nil, fun s hs => by cases hs⟩
 generalize vis o.nodes 100 [] top = S at g1 g2 g4 g5
 have hL : L' = S.map (wcW o.nodes S) := by
  apply List.ext_getElem?
  intro i
  rw [List.getElem?_map]
  cases hs : S[i]? with
  | none =>
   rw [List.getElem?_eq_none_iff] at hs
   rw [List.getElem?_eq_none (by rw [g2.len]; exact hs)]; rfl
  | some n => rw [(g4 i n (by simp) hs).1]; rfl
 refine ⟨?_, wkq _ S g2.nodup g2.lt, g5, fun s hs => ⟨g2.lt s hs, ?_⟩⟩
 ·unfold waX
  rw [g1, Option.bind_some, hL]
 ·obtain ⟨i, hi, rfl⟩ := List.getElem_of_mem hs
  exact (g4 i _ (by simp) (List.getElem?_eq_getElem hi)).2
end Go.Pv

namespace Go.Pv
structure Pair (k : Nat) (N N' : List Node) (S S' : List Nat) : Prop where
 len : S.length = S'.length
 lt : ∀ s ∈ S, s < N.length
 lt' : ∀ s ∈ S', s < N'.length
 rel : ∀ (i a b : Nat), S[i]? = some a → S'[i]? = some b → wdR k N N' (a : Int) (b : Int)
theorem wgq {k : Nat} {N : List Node} (hN : GoodN k N) {a : Nat} (h : a < N.length) : Valid N 0 (a : Int) :=
 .inr ⟨N[a], Int.natCast_nonneg _, by rw [Int.toNat_natCast]; exact List.getElem?_eq_getElem h, (hN.mark a _ (List.getElem?_eq_getElem h)).1⟩
theorem wmJ {k : Nat} (hk : k ≤ 4) {N N' : List Node} (hN : GoodN k N) (hN' : GoodN k N') {a b : Nat} (ha : a < N.length) (hb : b < N'.length) (hab : wdR k N N' (a : Int) (b : Int)) : ∀ {S S' : List Nat}, Pair k N N' S S' → wcj S a = wcj S' b
 | [], [], _ => rfl
 | [], _ :: _, h => by have := h.len; simp at this
 | _ :: _, [], h => by have := h.len; simp at this
 | s :: S, s' :: S', h => by
  have hr := h.rel 0 s s' rfl rfl
  have hs := h.lt s (by simp)
  have hs' := h.lt' s' (by simp)
  have ih := wmJ hk hN hN' ha hb hab (S := S) (S' := S') ⟨by have := h.len; simpa using this, fun x hx => h.lt x (List.mem_cons_of_mem _ hx), fun x hx => h.lt' x (List.mem_cons_of_mem _ hx), fun i x y hx hy => h.rel (i + 1) x y (by simpa using hx) (by simpa using hy)⟩
  simp only [wcj, ih]
  by_cases e : s = a
  ·have : s' = b := by
    subst e
    have := wqG hk hN' (wgq hN' hs') (wgq hN' hb) (fun xs hx => (hr xs hx).symm.trans (hab xs hx))
    omega
   rw [if_pos e, if_pos this]
  ·have : ¬ s' = b := by
    intro e'
    subst e'
    have := wqG hk hN (wgq hN hs) (wgq hN ha) (fun xs hx => (hr xs hx).trans (hab xs hx).symm)
    exact e (by omega)
   rw [if_neg e, if_neg this]
theorem wrS {k : Nat} {N N' : List Node} {S S' : List Nat} (h : Pair k N N' S S') {a b : Nat} (ha : a < N.length) (hb : b < N'.length) (hab : wdR k N N' (a : Int) (b : Int)) : Pair k N N' (S ++ [a]) (S' ++ [b]) := by
 refine ⟨by simp [h.len], fun s hs => ?_, fun s hs => ?_, fun i x y hx hy => ?_⟩
 ·rcases List.mem_append.1 hs with h1 | h1
  ·exact h.lt s h1
  ·simp only [List.mem_singleton] at h1; subst h1; exact ha
 ·rcases List.mem_append.1 hs with h1 | h1
  ·exact h.lt' s h1
  ·simp only [List.mem_singleton] at h1; subst h1; exact hb
 ·have hl := h.len
  rcases Nat.lt_or_ge i S.length with h1 | h1
  ·rw [List.getElem?_append_left h1] at hx
   rw [List.getElem?_append_left (by omega)] at hy
   exact h.rel i x y hx hy
  ·rw [List.getElem?_append_right h1] at hx
   rw [List.getElem?_append_right (by omega)] at hy
   have e1 : x = a := by simpa using List.mem_of_getElem? hx
   have e2 : y = b := by simpa using List.mem_of_getElem? hy
   subst e1 e2; exact hab
theorem wp0 {k : Nat} (hk : k ≤ 4) {N N' : List Node} (hN : GoodN k N) (hN' : GoodN k N') : ∀ (f : Nat) (S S' : List Nat) (n m : Int), Pair k N N' S S' → Valid N 0 n → Valid N' 0 m → wdR k N N' n m → Pair k N N' (vis N f S n) (vis N' f S' m)
 | 0, S, S', _, _, h, _, _, _ => h
 | f + 1, S, S', n, m, h, hn, hm, hs => by
  have wa3 : ∀ (l l' : List Int) (S S' : List Nat), l.length = l'.length → (∀ t ∈ l, Valid N 0 t) → (∀ t ∈ l', Valid N' 0 t) → (∀ (i : Nat) a b, l[i]? = some a → l'[i]? = some b → wdR k N N' a b) → Pair k N N' S S' → Pair k N N' (l.foldl (fun S t => vis N f S t) S) (l'.foldl (fun S t => vis N' f S t) S') := by
   intro l
   induction l with
   | nil =>
    intro l' S S' hl _ _ _ hP
    cases l' with
    | nil => exact hP
    | cons _ _ => simp at hl
   | cons t l ih =>
    intro l' S S' hl h1 h2 h3 hP
    cases l' with
    | nil => simp at hl
    | cons t' l' =>
     simp only [List.foldl_cons]
     exact ih l' _ _ (by simpa using hl) (fun x hx => h1 x (List.mem_cons_of_mem _ hx)) (fun x hx => h2 x (List.mem_cons_of_mem _ hx)) (fun i a b ha hb => h3 (i + 1) a b (by simpa using ha) (by simpa using hb))
      (wp0 hk hN hN' f S S' t t' hP (h1 t (by simp)) (h2 t' (by simp)) (h3 0 t t' rfl rfl))
  simp only [vis]
  rcases wi2 hk hN hN' hn hm hs with ⟨h1, h2⟩ | ⟨x, x', n0, m0, nx, mx, e1, e2, e3, e4⟩
  ·subst h2
   rw [if_pos h1, if_pos h1]; exact h
  ·have hn1 : ¬ n < 0 := by omega
   have hm1 : ¬ m < 0 := by omega
   rw [if_neg hn1, if_neg hm1]
   obtain ⟨a, rfl⟩ : ∃ a : Nat, n = a := ⟨n.toNat, by omega⟩
   obtain ⟨b, rfl⟩ : ∃ b : Nat, m = b := ⟨m.toNat, by omega⟩
   rw [Int.toNat_natCast] at nx mx
   simp only [Int.toNat_natCast]
   have ha := (List.getElem?_eq_some_iff.1 nx).1
   have hb := (List.getElem?_eq_some_iff.1 mx).1
   have hpos := wmJ hk hN hN' ha hb hs h
   by_cases hmem : a ∈ S
   ·obtain ⟨i, hi⟩ := posOf_mem.1 hmem
    rw [if_pos hmem, if_pos (posOf_mem.2 ⟨i, by rw [← hpos]; exact hi⟩)]
    exact h
   ·have : ¬ b ∈ S' := fun hb' => by
     obtain ⟨i, hi⟩ := posOf_mem.1 hb'
     exact hmem (posOf_mem.2 ⟨i, by rw [hpos]; exact hi⟩)
    rw [if_neg hmem, if_neg this, wcz nx, wcz mx]
    exact wa3 x.To x'.To _ _ e3 (fun t ht => (hN.kids _ x nx t ht).mono (Nat.zero_le _)) (fun t ht => (hN'.kids _ x' mx t ht).mono (Nat.zero_le _)) e4 (wrS h ha hb hs)
theorem wsF {k : Nat} (hk : k ≤ 4) {N N' : List Node} (hN : GoodN k N) (hN' : GoodN k N') {S S' : List Nat} (h : Pair k N N' S S') {n m : Int} (hn : Valid N 0 n) (hm : Valid N' 0 m) (hs : wdR k N N' n m) : num S n = num S' m := by
 rcases wi2 hk hN hN' hn hm hs with ⟨h1, h2⟩ | ⟨x, x', n0, m0, nx, mx, _⟩
 ·subst h2
  unfold num
  rw [if_pos h1, if_pos h1]
 ·have ha := (List.getElem?_eq_some_iff.1 nx).1
  have hb := (List.getElem?_eq_some_iff.1 mx).1
  unfold num
  rw [if_neg (by omega), if_neg (by omega), wmJ hk hN hN' ha hb (by rw [show ((n.toNat : Nat) : Int) = n by omega, show ((m.toNat : Nat) : Int) = m by omega]; exact hs) h]
theorem wsG (k : Nat) (N N' : List Node) : Pair k N N' [] [] := ⟨rfl, (fun s hs => by cases hs), (fun s hs => by cases hs), (fun i a b ha _ => by simp at ha)⟩
def dia (f : Nat) (N : List Node) (top : Int) : List Node := if top < 0 then [(⟨0, [1000], [top]⟩ : Node)] else (vis N f [] top).map (wcW N (vis N f [] top))
theorem wsH (f : Nat) {k : Nat} (hk : k ≤ 4) {N N' : List Node} (hN : GoodN k N) (hN' : GoodN k N') {n m : Int} (hn : Valid N 0 n) (hm : Valid N' 0 m) (hs : wdR k N N' n m) : dia f N n = dia f N' m := by
 unfold dia
 rcases wi2 hk hN hN' hn hm hs with ⟨h1, h2⟩ | ⟨x, x', n0, m0, nx, mx, _⟩
 ·subst h2
  rw [if_pos h1, if_pos h1]
 ·rw [if_neg (by omega), if_neg (by omega)]
  have hP : Pair k N N' (vis N f [] n) (vis N' f [] m) := wp0 hk hN hN' f [] [] n m (wsG k N N') hn hm hs
  generalize vis N f [] n = S at hP
  generalize vis N' f [] m = S' at hP
  apply List.ext_getElem?
  intro i
  rw [List.getElem?_map, List.getElem?_map]
  cases ha : S[i]? with
  | none =>
   rw [List.getElem?_eq_none_iff] at ha
   rw [List.getElem?_eq_none (by have := hP.len; omega)]; rfl
  | some a =>
   have hi := (List.getElem?_eq_some_iff.1 ha).1
   have hb : S'[i]? = some (S'[i]'(by have := hP.len; omega)) := List.getElem?_eq_getElem (by have := hP.len; omega)
   generalize hb0 : S'[i]'(by have := hP.len; omega) = b at hb
   rw [hb, Option.map_some, Option.map_some]
   congr 1
   have hab := hP.rel i a b ha hb
   have hal := hP.lt a (List.mem_of_getElem? ha)
   have hbl := hP.lt' b (List.mem_of_getElem? hb)
   rcases wi2 hk hN hN' (wgq hN hal) (wgq hN' hbl) hab with ⟨h1, _⟩ | ⟨y, y', _, _, ny, my, e1, e2, e3, e4⟩
   ·omega
   ·rw [Int.toNat_natCast] at ny my
    unfold wcW
    rw [wcz ny, wcz my, e1, e2]
    congr 1
    apply List.ext_getElem?
    intro j
    rw [List.getElem?_map, List.getElem?_map]
    cases hx : y.To[j]? with
    | none =>
     rw [List.getElem?_eq_none_iff] at hx
     rw [List.getElem?_eq_none (by omega)]; rfl
    | some c =>
     have hj := (List.getElem?_eq_some_iff.1 hx).1
     have hy : y'.To[j]? = some (y'.To[j]'(by omega)) := List.getElem?_eq_getElem (by omega)
     rw [hy, Option.map_some, Option.map_some]
     congr 1
     exact wsF hk hN hN' hP ((hN.kids _ y ny c (List.mem_of_getElem? hx)).mono (Nat.zero_le _)) ((hN'.kids _ y' my _ (List.getElem_mem _)).mono (Nat.zero_le _)) (e4 j c _ hx hy)
theorem wp1 {g : Int → Int} : ∀ {cs ts : List Int} {u : Int}, wbk u cs ts → (∀ a b, a ∈ ts → b ∈ ts → g a = g b → a = b) → wbk u cs (ts.map g)
 | [], _, _, h, _ => by simp [wbk] at h
 | _ :: _, [], _, h, _ => by simp [wbk] at h
 | c :: cs, t :: ts, u, h, hg => by
  obtain ⟨h1, h2⟩ := h
  refine ⟨h1, ?_⟩
  rcases h2 with ⟨h3, h4, h5⟩ | ⟨h3, h4⟩
  ·exact .inl ⟨h3, by rw [h4]; rfl, h5⟩
  ·refine .inr ⟨fun e => ?_, wp1 h4 (fun a b ha hb => hg a b (List.mem_cons_of_mem _ ha) (List.mem_cons_of_mem _ hb))⟩
   cases ts with
   | nil => simp at e
   | cons t2 ts =>
    simp only [List.map_cons, List.head?_cons, Option.some.injEq] at e
    have := hg t2 t (by simp) (by simp) e
    exact h3 (by rw [this]; rfl)
theorem wqM {g : Int → Int} : ∀ {cs ts : List Int} {u x : Int}, wbk u cs ts → x < 1000 → sel cs (ts.map g) x = g (sel cs ts x)
 | [], _, _, _, h, _ => by simp [wbk] at h
 | _ :: _, [], _, _, h, _ => by simp [wbk] at h
 | c :: cs, t :: ts, u, x, h, hx => by
  obtain ⟨h1, h2⟩ := h
  simp only [List.map_cons, sel]
  by_cases hc : x < c
  ·rw [if_pos hc, if_pos hc]
  ·rw [if_neg hc, if_neg hc]
   rcases h2 with ⟨_, _, h5⟩ | ⟨_, h4⟩
   ·omega
   ·exact wqM h4 hx
theorem wtg {S : List Nat} {a b : Int} (ha : In S a) (hb : In S b) (h : num S a = num S b) : a = b := by
 unfold num at h
 by_cases h1 : a < 0
 ·by_cases h2 : b < 0
  ·rw [if_pos h1, if_pos h2] at h; exact h
  ·rw [if_pos h1, if_neg h2] at h; omega
 ·by_cases h2 : b < 0
  ·rw [if_neg h1, if_pos h2] at h; omega
  ·rw [if_neg h1, if_neg h2] at h
   rcases ha with ha | ha
   ·omega
   rcases hb with hb | hb
   ·omega
   obtain ⟨i, hi⟩ := posOf_mem.1 ha
   obtain ⟨j, hj⟩ := posOf_mem.1 hb
   rw [hi, hj] at h
   simp only [Option.getD_some] at h
   have e : i = j := by omega
   subst e
   have := (wgQ hi).symm.trans (wgQ hj)
   simp only [Option.some.injEq] at this
   omega
theorem wp2 {N : List Node} {S : List Nat} {n : Int} (h0 : 0 ≤ n) (h : In S n) : ∃ i, wcj S n.toNat = some i ∧ (S.map (wcW N S))[i]? = some (wcW N S n.toNat) ∧ num S n = (i : Int) := by
 rcases h with h | h
 ·omega
 ·obtain ⟨i, hi⟩ := posOf_mem.1 h
  refine ⟨i, hi, by rw [List.getElem?_map, wgQ hi]; rfl, ?_⟩
  unfold num
  rw [if_neg (by omega), hi]; rfl
theorem wth {k : Nat} {N : List Node} (hN : GoodN k N) {S : List Nat} (hS : ∀ s ∈ S, s < N.length ∧ ∀ t ∈ (N.getD s default).To, In S t) : OkN k (S.map (wcW N S)) := by
 have key : ∀ (i : Nat) y, (S.map (wcW N S))[i]? = some y → ∃ s x, s ∈ S ∧ N[s]? = some x ∧ y = (⟨x.Mark, x.Cuts, x.To.map (num S)⟩ : Node) ∧ ∀ t ∈ x.To, In S t := fun i y hy => by
  rw [List.getElem?_map, Option.map_eq_some_iff] at hy
  obtain ⟨s, hs, rfl⟩ := hy
  have hm := List.mem_of_getElem? hs
  obtain ⟨h1, h2⟩ := hS s hm
  have hx := List.getElem?_eq_getElem h1
  rw [wcz hx] at h2
  exact ⟨s, N[s], hm, hx, by unfold wcW; rw [wcz hx], h2⟩
 refine ⟨fun i y hy => ?_, fun i y hy => ?_, fun i y hy t ht => ?_⟩
 ·obtain ⟨s, x, _, hx, rfl, _⟩ := key i y hy
  exact hN.mark s x hx
 ·obtain ⟨s, x, _, hx, rfl, hin⟩ := key i y hy
  exact wp1 (hN.runs s x hx) (fun a b ha hb => wtg (hin a ha) (hin b hb))
 ·obtain ⟨s, x, _, hx, rfl, hin⟩ := key i y hy
  simp only at ht ⊢
  obtain ⟨a, ha, rfl⟩ := List.mem_map.1 ht
  have hv := hN.kids s x hx a ha
  rcases hv with ⟨h1, h2⟩ | ⟨z, h1, h2, h3⟩
  ·exact .inl (by unfold num; rw [if_pos h1]; exact ⟨h1, h2⟩)
  ·obtain ⟨j, _, hj, hn⟩ := wp2 (N := N) h1 (hin a ha)
   refine .inr ⟨_, by rw [hn]; exact Int.natCast_nonneg _, by rw [hn, Int.toNat_natCast]; exact hj, ?_⟩
   unfold wcW
   rw [wcz h2]
   exact h3
theorem wqN {k : Nat} {N : List Node} (hN : GoodN k N) {S : List Nat} (hS : ∀ s ∈ S, s < N.length ∧ ∀ t ∈ (N.getD s default).To, In S t) {xs : List Int} (hx : Pts k xs) : ∀ (f : Nat) (n : Int), Valid N 0 n → In S n → (f = 0 → n < 0) → evF (S.map (wcW N S)) f (num S n) xs = evF N f n xs ∨ ∃ m, 0 ≤ m ∧ evF N f n xs = m
 | 0, n, _, _, hf => by
  left
  have := hf rfl
  unfold evF num
  rw [if_pos this]
 | f + 1, n, hv, hin, _ => by
  by_cases h0 : n < 0
  ·left
   unfold evF num
   rw [if_pos h0, if_pos h0, if_pos h0]
  ·rcases hv with ⟨h1, _⟩ | ⟨x, h1, h2, h3⟩
   ·omega
   ·obtain ⟨j, _, hj, hn⟩ := wp2 (N := N) h1 hin
    have hsS := hS n.toNat (hin.elim (fun h => by omega) id)
    rw [wcz h2] at hsS
    have hkid : wbG x xs ∈ x.To := weD (hN.runs _ x h2) (wei hx _).2
    have hkv := (hN.kids _ x h2 _ hkid).mono (Nat.zero_le _)
    have ek : wbG (wcW N S n.toNat) xs = num S (wbG x xs) := by
     unfold wbG wcW
     rw [wcz h2]
     exact wqM (hN.runs _ x h2) (wei hx _).2
    have e1 : evF (S.map (wcW N S)) (f + 1) (num S n) xs = evF (S.map (wcW N S)) f (num S (wbG x xs)) xs := by
     rw [evF, hn, if_neg (by omega), Int.toNat_natCast, wcz hj, ek]
    have e2 : evF N (f + 1) n xs = evF N f (wbG x xs) xs := by
     rw [evF, if_neg h0, wcz h2]
    rw [e1, e2]
    by_cases hf : f = 0 ∧ 0 ≤ wbG x xs
    ·right
     refine ⟨wbG x xs, hf.2, ?_⟩
     rw [hf.1]; rfl
    ·exact wqN hN hS hx f _ hkv (hsS.2 _ hkid) (fun h => by omega)
end Go.Pv

namespace Go.Pv
end Go.Pv

namespace Go.Pv
theorem woF (t : List Rule) : ∀ (n i : Nat), n = 41 - i → i ≤ 40 → (iter (waG t) (i : Int) = some (.inr false)) ∨ (iter (waG t) (i : Int) = some (.inl ()) ∧ t.length ≤ 40 ∧ ∀ r ∈ t.drop i, r.Bands.length ≤ 20)
 | 0, i, hn, hi => by omega
 | n + 1, i, hn, hi => by
  rw [wby]
  by_cases hlt : i < t.length
  ·have h1 : decide ((i : Int) < (t.length : Int)) = true := by simp; omega
   have h2 : idx t (i : Int) = some t[i] := by unfold idx; simp [hlt]
   by_cases h40 : i = 40
   ·have h3 : decide (40 ≤ (i : Int)) = true := by simp; omega
    refine .inl ?_
    unfold waG
    simp only [h1, h3, cond_true, Option.bind_some]
   ·have h3 : decide (40 ≤ (i : Int)) = false := by simp; omega
    have ih := woF t n (i + 1) (by omega) (by omega)
    generalize hf0 : waG t = f at ih ⊢
    have hf : f (i : Int) = cond (decide (20 < (t[i].Bands.length : Int))) (some (.inr (.inr false))) (some (.inl (IntKind.i64.wrap ((i : Int) + 1)))) := by
     rw [← hf0]; unfold waG
     simp only [h1, h3, cond_true, cond_false, Option.bind_some, h2]
    rw [hf]
    by_cases hb : 20 < (t[i].Bands.length : Int)
    ·rw [decide_eq_true hb]; exact .inl rfl
    ·rw [decide_eq_false hb]
     simp only [cond_false, Option.bind_some]
     rw [wap (by omega), show ((i : Int) + 1) = ((i + 1 : Nat) : Int) by omega]
     rcases ih with ih | ⟨g1, g2, g3⟩
     ·exact .inl ih
     ·refine .inr ⟨g1, g2, fun r hr => ?_⟩
      rw [List.drop_eq_getElem_cons hlt] at hr
      rcases List.mem_cons.1 hr with rfl | hr
      ·omega
      ·exact g3 r hr
  ·have h1 : decide ((i : Int) < (t.length : Int)) = false := by simp; omega
   refine .inr ⟨?_, by omega, fun r hr => ?_⟩
   ·unfold waG
    simp only [h1, cond_false, Option.bind_some]
   ·rw [wcq t (by omega)] at hr; cases hr
end Go.Pv

namespace Go.Pv
open Go.Lib
theorem wrT {k : Nat} {t : List Rule} (ht : wev k t) {mark : Nat} (hm : mark < k) : ∀ x ∈ cs1 t mark, x = 1000 ∨ ∃ r ∈ t, x = (war r mark).Lo ∨ x = (war r mark).Hi := by
 have h := (wjF ht hm).1
 generalize cs1 t mark = cs at h
 unfold wa6 at h
 have h1 := wkj mark [t] (by simp) (fun u hu => by
  simp only [List.mem_cons, List.not_mem_nil, or_false] at hu
  subst hu
  exact ⟨ht.1, fun r hr => (wdK (ht.2 r hr) hm).1⟩) [t].length 0 [1000] (by omega) (by simp)
 rw [show ((0 : Nat) : Int) = 0 from rfl, List.drop_zero] at h1
 rw [h1] at h
 simp only [Option.bind_some] at h
 generalize hL : [1000] ++ [t].flatMap (wfI mark) = L at h
 have hmem : ∀ x, x ∈ L → x = 1000 ∨ ∃ r ∈ t, x = (war r mark).Lo ∨ x = (war r mark).Hi := fun x hx => by
  rw [← hL] at hx
  simpa [wfI] using hx
 obtain ⟨_, h⟩ := wai h
 obtain ⟨_, h⟩ := wai h
 rw [wpO] at h
 obtain ⟨_, hcm⟩ := wjE (wlA L)
 have hcm2 : ∀ x, x ∈ compactI (sortI L) → x ∈ L := fun x hx => (wnu L).mem_iff.1 ((hcm x).1 hx)
 generalize compactI (sortI L) = C at h hcm2
 obtain ⟨o, ha, h2⟩ := bind_some h
 simp only [Option.some.injEq] at h2
 obtain ⟨e, _, h⟩ := bind_some ha
 rw [h2] at h
 intro x hx
 refine hmem x (hcm2 x ?_)
 cases hd : decide (e = 0) with
 | true =>
  rw [hd, cond_true] at h
  obtain ⟨_, h⟩ := wai h
  simp only [Option.some.injEq] at h
  rw [← h] at hx
  exact List.mem_of_mem_drop (List.mem_of_mem_take hx)
 | false =>
  rw [hd, cond_false] at h
  simp only [Option.some.injEq] at h
  rw [h]; exact hx
theorem woG : ∀ (l m : List Int), l.Nodup → (∀ x ∈ l, x ∈ m) → l.length ≤ m.length
 | [], m, _, _ => by simp
 | x :: l, m, hd, h => by
  rw [List.nodup_cons] at hd
  have h1 := woG l (m.erase x) hd.2 (fun y hy => by
   have hne : y ≠ x := fun e => hd.1 (e ▸ hy)
   exact (List.mem_erase_of_ne hne).2 (h y (List.mem_cons_of_mem _ hy)))
  rw [List.length_erase_of_mem (h x (by simp))] at h1
  have := List.length_pos_of_mem (h x (by simp))
  simp only [List.length_cons]; omega
theorem wrU {t : List Rule} (ht : t.length ≤ 24) : wlz t = (wb8 t : Int) := by
 have h1 := wta t ht
 rw [wiY] at h1
 simpa using h1
def pcs (t : List Rule) (m : Nat) : Nat := (weH m (wlz t) 0 t [1000]).length
theorem wsU {k : Nat} {t : List Rule} (ht : wev k t) {mark : Nat} (hm : mark < k) : (cs1 t mark).length ≤ pcs t mark ∧ 1 ≤ pcs t mark := by
 obtain ⟨_, hc, _⟩ := wjF ht hm
 unfold pcs
 rw [wrU ht.1]
 obtain ⟨g1, g2, g3, g4, g5⟩ := wkm mark (wb8 t) t 0 [1000] (by have := ht.1; omega) (List.pairwise_singleton ..)
 refine ⟨woG _ _ (hc.up.imp (fun h => by omega)) (fun x hx => ?_), List.length_pos_of_mem (g2 1000 (by simp))⟩
 have hp := hc.pos x hx
 rcases wrT ht hm x hx with h | ⟨r, hr, h⟩
 ·exact g2 x (by simp [h])
 ·obtain ⟨j, hj, rfl⟩ := List.getElem_of_mem hr
  obtain ⟨q1, q2⟩ := g4 j t[j] (List.getElem?_eq_getElem hj) (by rw [Nat.zero_add, wpS]; exact decide_eq_true hj)
  rcases h with h | h
  ·rw [h]; exact q1 (by omega)
  ·rw [h]; exact q2
def wf7 (t : List Rule) : Nat → Nat → Nat
 | 0, _ => 1
 | d + 1, m => pcs t m * wf7 t d (m + 1)
theorem woH {k : Nat} {t : List Rule} (ht : wev k t) : ∀ (d m : Nat), m + d ≤ k → 1 ≤ wf7 t d m
 | 0, _, _ => Nat.le_refl _
 | d + 1, m, h => by
  have h1 := (wsU ht (show m < k by omega)).2
  have h2 := woH ht d (m + 1) (by omega)
  exact Nat.mul_le_mul h1 h2
theorem wsV {k : Nat} {t : List Rule} (ht : wev k t) : ∀ (d m : Nat), m + d ≤ k → nB t d m ≤ d * wf7 t d m
 | 0, _, _ => by simp [nB]
 | d + 1, m, h => by
  obtain ⟨h1, h1'⟩ := wsU ht (show m < k by omega)
  have h2 := wsV ht d (m + 1) (by omega)
  have h3 := woH ht d (m + 1) (by omega)
  have h4 : (cs1 t m).length * nB t d (m + 1) ≤ pcs t m * (d * wf7 t d (m + 1)) := Nat.mul_le_mul h1 h2
  have h5 : pcs t m * (d * wf7 t d (m + 1)) = d * (pcs t m * wf7 t d (m + 1)) := by rw [Nat.mul_left_comm]
  have h6 : 1 ≤ pcs t m * wf7 t d (m + 1) := Nat.mul_le_mul h1' h3
  simp only [nB, wf7]
  rw [Nat.succ_mul]
  omega
theorem wsI {k : Nat} (hk : k ≤ 4) {t : List Rule} (ht : wev k t) : nB t k 0 ≤ 1000000 := by
 have key : ∀ (d m : Nat), m + d ≤ k → nB t d m ≤ bnd d := by
  intro d
  induction d with
  | zero => intro m _; simp [nB]
  | succ d ih =>
   intro m h
   obtain ⟨_, _, h97⟩ := wjF ht (show m < k by omega)
   have h1 := ih (m + 1) (by omega)
   have h2 : (cs1 t m).length * nB t d (m + 1) ≤ 98 * bnd d := Nat.mul_le_mul (by omega) h1
   have h3 : bnd (d + 1) = 1 + 98 * bnd d := rfl
   simp only [nB]; omega
 exact Nat.le_trans (key k 0 (by omega)) (wtv hk)
theorem wnB {k : Nat} (hk : k ≤ 4) {t : List Rule} (ht : wev k t) : ∀ (d m out : Nat) (v : Int), m + d = k → iter (waw (k : Int) t 30000) ((out : Int), (m : Int)) = some v → v < 30000 → out * wf7 t d m < 30000
 | 0, m, out, v, hd, h, hv => by
  have hf : waw (k : Int) t 30000 ((out : Int), (m : Int)) = some (.inr (out : Int)) := by
   unfold waw
   dsimp only
   have h3 : decide ((m : Int) < (k : Int)) = false := decide_eq_false (by omega)
   rw [h3, Bool.false_and]; rfl
  rw [wbJ hf] at h
  simp only [Option.some.injEq] at h
  simp only [wf7, Nat.mul_one]; omega
 | d + 1, m, out, v, hd, h, hv => by
  have h3 : decide ((m : Int) < (k : Int)) = true := decide_eq_true (by omega)
  by_cases ho : (out : Int) < 30000
  ·have h49 : pcs t m ≤ 49 := by
    unfold pcs
    rw [wrU ht.1]
    have h5 := (wkm m (wb8 t) t 0 [1000] (by have := ht.1; omega) (List.pairwise_singleton ..)).2.2.2.2
    have h6 := ht.1
    simp only [List.length_cons, List.length_nil] at h5
    omega
   have hm49 : out * pcs t m ≤ 30000 * 49 := Nat.mul_le_mul (by omega) h49
   have hf : waw (k : Int) t 30000 ((out : Int), (m : Int)) = some (.inl (((out * pcs t m : Nat) : Int), ((m + 1 : Nat) : Int))) := by
    unfold waw
    dsimp only
    rw [h3, decide_eq_true ho]
    simp only [Bool.and_self, cond_true, wiY, Option.bind_some, wnq t m (wlz t) (by have := ht.1; omega) (fun r hr => (wdK (ht.2 r hr) (show m < k by omega)).1)]
    rw [wap (x := (m : Int) + 1) (by omega)]
    have e : (out : Int) * (((weH m (wlz t) 0 t [1000]).length : Nat) : Int) = ((out * pcs t m : Nat) : Int) := by unfold pcs; rw [Int.natCast_mul]
    rw [e, wap (by omega)]; rfl
   rw [wby, hf] at h
   have := wnB hk ht d (m + 1) (out * pcs t m) v (by omega) h hv
   simp only [wf7]
   rw [← Nat.mul_assoc]; exact this
  ·exfalso
   have hf : waw (k : Int) t 30000 ((out : Int), (m : Int)) = some (.inr (out : Int)) := by
    unfold waw
    dsimp only
    rw [h3, decide_eq_false ho]; rfl
   rw [wbJ hf] at h
   simp only [Option.some.injEq] at h
   omega
theorem woI {k : Nat} {t : List Rule} (hf : wb5 (k : Int) t = some true) (hc : chk (k : Int) [t] = 0) : nB t k 0 ≤ 200000 := by
 obtain ⟨k1, k2, t1, t2⟩ := wc6 hc
 have ht : wev k t := ⟨t1, t2⟩
 have hk : k ≤ 4 := by omega
 have h2 := woF t 41 0 (by omega) (by omega)
 rw [show ((0 : Nat) : Int) = 0 from rfl, List.drop_zero] at h2
 unfold wb5 at hf
 rcases h2 with h2 | ⟨h2, _⟩
 ·rw [h2] at hf; simp at hf
 ·rw [h2] at hf
  simp only [Option.bind_some] at hf
  obtain ⟨v, hv, hf⟩ := bind_some hf
  have hlt : v < 30000 := by simpa using hf
  unfold wcv at hv
  rw [wqD (k : Int) t, Option.bind_some, hc] at hv
  simp only [decide_not, decide_true, Bool.not_true, cond_false] at hv
  obtain ⟨w, hwa, hv⟩ := bind_some hv
  obtain ⟨w2, hw3, hw2⟩ := bind_some hwa
  simp only [Option.some.injEq] at hv hw2
  rw [hv] at hw2
  rw [hw2] at hw3
  have hw : iter (waw (k : Int) t 30000) (((1 : Nat) : Int), ((0 : Nat) : Int)) = some v := hw3
  have h3 := wnB hk ht k 0 1 v (by omega) hw hlt
  rw [Nat.one_mul] at h3
  have h4 := wsV ht k 0 (by omega)
  have h5 : k * wf7 t k 0 ≤ 4 * 30000 := Nat.mul_le_mul hk (by omega)
  omega
end Go.Pv

namespace Go.Pv
theorem wqO {k : Nat} {N : List Node} (hN : OkN k N) {xs : List Int} (hx : Pts k xs) : ∀ (d : Nat) (n : Int) (f : Nat), Valid N (k - d) n → d < f → evF N f n xs < 0 ∧ -101 ≤ evF N f n xs
 | d, n, 0, _, h => by omega
 | d, n, f + 1, hv, h => by
  unfold evF
  rcases hv with ⟨h1, h2⟩ | ⟨x, h1, h2, h3⟩
  ·rw [if_pos h1]; exact ⟨h1, h2⟩
  ·rw [if_neg (by omega), wcz h2]
   have hm := hN.mark _ x h2
   have hk : wbG x xs ∈ x.To := weD (hN.runs _ x h2) (wei hx _).2
   have hv2 := hN.kids _ x h2 _ hk
   cases d with
   | zero => omega
   | succ d => exact wqO hN hx d _ f (hv2.mono (by omega)) (by omega)
theorem wrV {k : Nat} (hk : k ≤ 4) {N : List Node} (hN : OkN k N) {xs : List Int} (hx : Pts k xs) {n : Int} (hv : Valid N 0 n) : ev N n xs < 0 ∧ -101 ≤ ev N n xs :=
 wqO hN hx k n 5 (by rw [Nat.sub_self]; exact hv) (by omega)
theorem wsJ (N : List Node) (f : Nat) {top : Int} (h : 0 ≤ top) : ∃ T, vis N (f + 1) [] top = top.toNat :: T := by
 have wa3 : ∀ (l : List Int) (S : List Nat), ∃ T, l.foldl (fun S t => vis N f S t) S = S ++ T := by
  intro l
  induction l with
  | nil => intro S; exact ⟨[], by simp⟩
  | cons t l ih =>
   intro S
   obtain ⟨T, hT⟩ := wjH N f S t
   obtain ⟨U, hU⟩ := ih (S ++ T)
   exact ⟨T ++ U, by rw [List.foldl_cons, hT, hU, List.append_assoc]⟩
 obtain ⟨T, hT⟩ := wa3 (N.getD top.toNat default).To ([] ++ [top.toNat])
 refine ⟨T, ?_⟩
 have h1 : ¬ top < 0 := by omega
 have h2 : ¬ top.toNat ∈ ([] : List Nat) := by simp
 rw [vis, if_neg h1, if_neg h2, hT]; rfl
theorem wrW {k : Nat} (hk : k ≤ 4) (hk1 : 1 ≤ k) {N : List Node} (hN : GoodN k N) {top : Int} (hv : Valid N 0 top) (f : Nat)
  (hS : 0 ≤ top → (vis N (f + 1) [] top).length ≤ N.length ∧ ∀ s ∈ vis N (f + 1) [] top, s < N.length ∧ ∀ t ∈ (N.getD s default).To, In (vis N (f + 1) [] top) t) :
  OkN k (dia (f + 1) N top) ∧ 1 ≤ (dia (f + 1) N top).length ∧ (dia (f + 1) N top).length ≤ max 1 N.length ∧ Valid (dia (f + 1) N top) 0 0 ∧ ∀ xs, Pts k xs → ev (dia (f + 1) N top) 0 xs = ev N top xs := by
 unfold dia
 by_cases h0 : top < 0
 ·rw [if_pos h0]
  have hok : OkN k [(⟨0, [1000], [top]⟩ : Node)] := by
   have key : ∀ (i : Nat) (x : Node), [(⟨0, [1000], [top]⟩ : Node)][i]? = some x → x = (⟨0, [1000], [top]⟩ : Node) := fun i x hx => by
    simpa using List.mem_of_getElem? hx
   refine ⟨fun i x hx => ?_, fun i x hx => ?_, fun i x hx t ht => ?_⟩
   ·rw [key i x hx]; exact ⟨Int.le_refl _, by simp only; omega⟩
   ·rw [key i x hx]; exact ⟨by simp, .inl ⟨rfl, rfl, rfl⟩⟩
   ·rw [key i x hx] at ht
    simp only [List.mem_singleton] at ht
    subst ht
    rcases hv with h | ⟨_, h, _⟩
    ·exact .inl h
    ·omega
  refine ⟨hok, by simp, by simp only [List.length_cons, List.length_nil]; omega, .inr ⟨_, Int.le_refl _, rfl, Int.le_refl _⟩, fun xs hx => ?_⟩
  rw [wgp hk hok hx (Int.le_refl 0) (x := (⟨0, [1000], [top]⟩ : Node)) rfl]
  have hp := wei hx 0
  have ek : wbG (⟨0, [1000], [top]⟩ : Node) xs = top := by
   unfold wbG
   simp only [Int.toNat_zero, sel]
   rw [if_pos hp.2]
  rw [ek, whk h0, whk h0]
 ·rw [if_neg h0]
  obtain ⟨hlen, hS⟩ := hS (by omega)
  obtain ⟨T, hT⟩ := wsJ N f (top := top) (by omega)
  generalize vis N (f + 1) [] top = S at hS hT hlen
  have hin : In S top := .inr (by rw [hT]; simp)
  have hnum : num S top = 0 := by
   unfold num
   rw [if_neg h0, hT]; simp [wcj]
  have hok := wth hN hS
  have hv0 : Valid (S.map (wcW N S)) 0 0 := by
   have h1 : (S.map (wcW N S))[0]? = some (wcW N S top.toNat) := by rw [hT]; rfl
   exact .inr ⟨_, Int.le_refl _, h1, (hok.mark 0 _ h1).1⟩
  refine ⟨hok, by rw [hT]; simp, by rw [List.length_map]; omega, hv0, fun xs hx => ?_⟩
  rcases wqN hN hS hx 5 top hv hin (by omega) with h | ⟨m, m0, h⟩
  ·rw [hnum] at h; exact h
  ·have := (wrV hk hN.ok hx hv).1
   unfold ev at this
   omega
theorem whx {k : Nat} {t : List Rule} (h : chk (k : Int) [t] = 0) : ∃ (N : List Node) (top : Int), GoodN k N ∧ N.length ≤ nB t k 0 ∧ Val k t N top 0 (wb8 t) ∧ wbj (k : Int) t = some (dia 100 N top, 0) ∧
  (0 ≤ top → (vis N 100 [] top).length ≤ N.length ∧ ∀ s ∈ vis N 100 [] top, s < N.length ∧ ∀ t ∈ (N.getD s default).To, In (vis N 100 [] top) t) := by
 obtain ⟨k1, k2, t1, t2⟩ := wc6 h
 have hk : k ≤ 4 := by omega
 have ht : wev k t := ⟨t1, t2⟩
 have hsm := wsI hk ht
 have hb0 : BOk k t (⟨(k : Int), t, [], [], []⟩ : Builder) := by
  refine ⟨rfl, rfl, ⟨fun i x hx => by simp at hx, fun i x hx => by simp at hx, fun i x hx => by simp at hx, fun i x hx => by simp at hx, fun i j x hx => by simp at hx⟩, fun i x hx => by simp at hx, (fun s v hv => by cases hv), (fun mark a n _ hg => by cases hg)⟩
 obtain ⟨v, o', g1, g2, ⟨l, g3, g4⟩, g5⟩ := wtH hk ht 100 k (⟨(k : Int), t, [], [], []⟩ : Builder) 0 (wb8 t) (by omega) (by omega) (by omega) (whi t) hb0 (by simp; omega)
 have g1 : waZ 100 (⟨(k : Int), t, [], [], []⟩ : Builder) 0 (wb8 t : Int) = some (v, o') := g1
 have hl : o'.nodes.length ≤ nB t k 0 := by rw [g3]; simpa using g4
 have hord : 0 ≤ v → waX o' v = some ((vis o'.nodes 100 [] v).map (wcW o'.nodes (vis o'.nodes 100 [] v)), o') ∧ (vis o'.nodes 100 [] v).length ≤ o'.nodes.length ∧ In (vis o'.nodes 100 [] v) v ∧ ∀ s ∈ vis o'.nodes 100 [] v, s < o'.nodes.length ∧ ∀ t ∈ (o'.nodes.getD s default).To, In (vis o'.nodes 100 [] v) t := fun _ => wrm hk g2.good (by omega) g5.1
 refine ⟨o'.nodes, v, g2.good, hl, g5, ?_, fun h0 => ⟨(hord h0).2.1, (hord h0).2.2.2⟩⟩
 unfold wbj
 rw [wfQ (k : Int) [t] (by simp), h]
 simp only [Option.bind_some, decide_not, decide_true, Bool.not_true, cond_false]
 rw [wmF t t1, Option.bind_some, g1, Option.bind_some]
 unfold dia
 by_cases h0 : v < 0
 ·rw [if_pos h0]
  simp only [decide_eq_true h0, cond_true]
 ·rw [if_neg h0]
  simp only [decide_eq_false h0, cond_false, (hord (by omega)).1, Option.bind_some]
theorem wjk {k : Int} {t : List Rule} (h : chk k [t] ≠ 0) : wbj k t = some ([], chk k [t]) := by
 unfold wbj
 rw [wfQ k [t] (by simp), Option.bind_some]
 have hz : decide (¬ chk k [t] = 0) = true := decide_eq_true h
 rw [hz]; rfl
theorem wp3 : ∀ {cs ts : List Int} {u x : Int}, wbk u cs ts → x < 1000 → ∃ j : Nat, cs.findIdx? (fun c => decide (x < c)) = some j ∧ ts[j]? = some (sel cs ts x)
 | [], _, _, _, h, _ => by simp [wbk] at h
 | _ :: _, [], _, _, h, _ => by simp [wbk] at h
 | c :: cs, t :: ts, u, x, h, hx => by
  obtain ⟨h1, h2⟩ := h
  rw [List.findIdx?_cons]
  simp only [sel]
  by_cases hc : x < c
  ·rw [decide_eq_true hc, if_pos hc]; exact ⟨0, rfl, rfl⟩
  ·rw [decide_eq_false hc, if_neg hc]
   rcases h2 with ⟨_, _, h5⟩ | ⟨_, h4⟩
   ·omega
   ·obtain ⟨j, j1, j2⟩ := wp3 h4 hx
    exact ⟨j + 1, by rw [j1]; rfl, by rw [List.getElem?_cons_succ]; exact j2⟩
theorem wmo {k : Nat} {d : List Node} (hd : OkN k d) {l : List Int} (hl : Pts k l) : ∀ (dd : Nat) (n : Int) (f : Nat), Valid d (k - dd) n → dd < f → iter (wcp d l) n = some (evF d f n l)
 | dd, n, 0, _, h => by omega
 | dd, n, f + 1, hv, h => by
  unfold evF
  rcases hv with ⟨h1, _⟩ | ⟨x, h1, h2, h3⟩
  ·rw [if_pos h1]
   refine wbJ ?_
   unfold wcp
   rw [decide_eq_false (by omega)]; rfl
  ·rw [if_neg (by omega), wcz h2]
   have hm := hd.mark _ x h2
   have hr := hd.runs _ x h2
   have hcnt := wfb hr
   have hp := wei hl x.Mark.toNat
   have hkid : wbG x l ∈ x.To := weD hr hp.2
   have hv2 := hd.kids _ x h2 _ hkid
   have hlt : x.Mark.toNat < l.length := by have := hl.1; omega
   have hidx : idx l x.Mark = some (l.getD x.Mark.toNat 0) := by
    unfold idx
    rw [if_pos hm.1, List.getD, List.getElem?_eq_getElem hlt]; rfl
   obtain ⟨j, j1, j2⟩ := wp3 hr hp.2
   have hfg := wpM (s := x.Cuts) (c := x.Cuts) (e := x.To) (by omega) hidx
   rw [j1] at hfg
   have hto : idx x.To (j : Int) = some (wbG x l) := by
    unfold idx
    rw [if_pos (Int.natCast_nonneg _), Int.toNat_natCast]; exact j2
   have hx : idx d n = some x := by
    unfold idx
    rw [if_pos h1]; exact h2
   have hf : wcp d l n = some (.inl (wbG x l)) := by
    unfold wcp
    rw [decide_eq_true h1, cond_true, hx]
    simp only [Option.bind_some]
    rw [hfg]
    simp only [Option.bind_some, hto]
   cases dd with
   | zero => omega
   | succ dd => exact wbI hf (wmo hd hl dd _ f (hv2.mono (by omega)) (by omega))
theorem woJ : ∀ {cs ts : List Int} {u : Int}, wbk u cs ts → cs.getD (cs.length - 1) default = 1000
 | [], _, _, h => by simp [wbk] at h
 | _ :: _, [], _, h => by simp [wbk] at h
 | c :: cs, t :: ts, u, h => by
  obtain ⟨h1, h2⟩ := h
  rcases h2 with ⟨h3, _, h5⟩ | ⟨_, h4⟩
  ·subst h3 h5; rfl
  ·have := woJ h4
   match cs, h4, this with
   | c2 :: cs, _, this => simpa using this
theorem wmp {d : List Node} {x : Node} : ∀ {cs ts : List Int} {u : Int}, wbk u cs ts → (∀ t ∈ ts, wnY d x t = true) → whM d x u cs ts = true
 | [], _, _, h, _ => by simp [wbk] at h
 | _ :: _, [], _, h, _ => by simp [wbk] at h
 | c :: cs, t :: ts, u, h, hok => by
  obtain ⟨h1, h2⟩ := h
  have hd : decide (c ≤ u) = false := decide_eq_false (by omega)
  simp only [whM, hd, Bool.not_false, Bool.true_and, hok t (by simp)]
  rcases h2 with ⟨h3, h4, _⟩ | ⟨_, h4⟩
  ·subst h3 h4; rfl
  ·exact wmp h4 fun t ht => hok t (List.mem_cons_of_mem _ ht)
theorem wsK {k : Nat} {d : List Node} (hd : OkN k d) : ∀ x ∈ d, wie (k : Int) d x = true := fun x hx => by
 obtain ⟨i, hi, rfl⟩ := List.getElem_of_mem hx
 have hg := List.getElem?_eq_getElem hi
 have hm := hd.mark i _ hg
 have hr := hd.runs i _ hg
 have hlen := wgi hr
 have hpos : 0 < d[i].Cuts.length := by
  cases hc : d[i].Cuts with
  | nil => rw [hc] at hr; simp [wbk] at hr
  | cons _ _ => simp
 unfold wie wgh
 rw [woJ hr, wmp hr (fun t ht => ?_)]
 ·have a1 : decide (d[i].Mark < 0) = false := decide_eq_false (by omega)
  have a2 : decide ((k : Int) ≤ d[i].Mark) = false := decide_eq_false (by omega)
  have a3 : decide ((d[i].Cuts.length : Int) = 0) = false := decide_eq_false (by omega)
  have a4 : decide (¬ (d[i].To.length : Int) = (d[i].Cuts.length : Int)) = false := decide_eq_false (by omega)
  rw [a1, a2, a3, a4]; simp
 ·have hv := hd.kids i _ hg t ht
  unfold wnY
  rcases hv with ⟨h1, h2⟩ | ⟨y, h1, h2, h3⟩
  ·have b1 : decide ((d.length : Int) ≤ t) = false := decide_eq_false (by omega)
   have b2 : decide (t < (-101)) = false := decide_eq_false (by omega)
   have b3 : decide (0 ≤ t) = false := decide_eq_false (by omega)
   rw [b1, b2, b3]; rfl
  ·have hlt := (List.getElem?_eq_some_iff.1 h2).1
   have b1 : decide ((d.length : Int) ≤ t) = false := decide_eq_false (by omega)
   have b2 : decide (t < (-101)) = false := decide_eq_false (by omega)
   rw [wcz h2]
   have b3 : decide (y.Mark ≤ d[i].Mark) = false := decide_eq_false (by omega)
   rw [b1, b2, b3]; simp
theorem wrn {k : Nat} (hk : k ≤ 4) (hk1 : 1 ≤ k) {d : List Node} (hd : OkN k d) (h1 : 1 ≤ d.length) (h2 : d.length ≤ 200000) (hv : Valid d 0 0) {l : List Int} (hl : l.length ≤ 9223372036854775807) : wdQ (k : Int) d l = some (cond (weN (k : Int) l) (if ev d 0 l = -1 then (0, 6) else (-2 - ev d 0 l, 0)) (0, 2)) := by
 have hb : ∀ x ∈ d, x.Cuts.length ≤ 1000000 := fun x hx => by
  obtain ⟨i, hi, rfl⟩ := List.getElem_of_mem hx
  have := wfb (hd.runs i _ (List.getElem?_eq_getElem hi))
  omega
 unfold wdQ wcS
 rw [wpB (k : Int) l hl, wqt (k : Int) d (by omega) hb]
 have hany : (d.any fun x => !wie (k : Int) d x) = false := by
  rw [List.any_eq_false]
  intro x hx
  rw [wsK hd x hx]; simp
 have e1 : ((decide (1 ≤ (k : Int))) && (decide ((k : Int) ≤ 4))) = true := by simp; omega
 have e2 : decide ((d.length : Int) = 0) = false := decide_eq_false (by omega)
 have e3 : decide (200000 < (d.length : Int)) = false := decide_eq_false (by omega)
 simp only [Option.bind_some]
 rw [e1]
 simp only [Bool.not_true, cond_false, Option.bind_some]
 cases hth : weN (k : Int) l with
 | false => simp
 | true =>
  have hp := pts_thing.1 hth
  have hn := wrV hk hd hp hv
  have hit := wmo hd hp k 0 5 (by rw [Nat.sub_self]; exact hv) (by omega)
  have hit : iter (wcp d l) 0 = some (ev d 0 l) := hit
  rw [hany, e2, e3]
  simp only [Bool.not_true, Bool.or_self, cond_false, Option.bind_some, hit, cond_true]
  by_cases h : ev d 0 l = -1
  ·rw [decide_eq_true h, cond_true, if_pos h]
  ·rw [decide_eq_false h, cond_false, if_neg h, wap (by omega)]
theorem wkH (a b : List Int) (hl : a.length = b.length) (h : a.length ≤ 1000000) : ∀ (n i : Nat), n = a.length - i → (iter (waP a b) (i : Int) = some (.inl ()) ∧ a.drop i = b.drop i) ∨ (iter (waP a b) (i : Int) = some (.inr false) ∧ a.drop i ≠ b.drop i)
 | 0, i, hn => by
  refine .inl ⟨wbJ ?_, by rw [wcq _ (by omega), wcq _ (by omega)]⟩
  unfold waP
  rw [decide_eq_false (by omega)]; rfl
 | n + 1, i, hn => by
  have hi : i < a.length := by omega
  have hib : i < b.length := by omega
  have e1 : idx a (i : Int) = some a[i] := by unfold idx; simp [hi]
  have e2 : idx b (i : Int) = some b[i] := by unfold idx; simp [hib]
  have hf : waP a b (i : Int) = cond (decide (¬ a[i] = b[i])) (some (.inr (.inr false))) (some (.inl ((i + 1 : Nat) : Int))) := by
   unfold waP
   rw [decide_eq_true (by omega), cond_true, e1, e2]
   simp only [Option.bind_some]
   rw [wap (by omega)]; rfl
  rw [List.drop_eq_getElem_cons hi, List.drop_eq_getElem_cons hib]
  by_cases he : a[i] = b[i]
  ·have hz : decide (¬ a[i] = b[i]) = false := decide_eq_false (by simp [he])
   rw [hz, cond_false] at hf
   rcases wkH a b hl h n (i + 1) (by omega) with ⟨g1, g2⟩ | ⟨g1, g2⟩
   ·exact .inl ⟨wbI hf g1, by rw [he, g2]⟩
   ·exact .inr ⟨wbI hf g1, fun hh => g2 (List.cons.inj hh).2⟩
  ·have hz : decide (¬ a[i] = b[i]) = true := decide_eq_true he
   rw [hz, cond_true] at hf
   exact .inr ⟨wbJ hf, fun hh => he (List.cons.inj hh).1⟩
theorem wp4 (a b : List Int) (h : a.length ≤ 1000000) : ∃ r, wbb a b = some r ∧ (r = true ↔ a = b) := by
 unfold wbb
 by_cases hl : a.length = b.length
 ·have hz : decide (¬ (a.length : Int) = (b.length : Int)) = false := decide_eq_false (by omega)
  rw [hz, cond_false]
  rcases wkH a b hl h a.length 0 (by omega) with ⟨g1, g2⟩ | ⟨g1, g2⟩
  ·have g1 : iter (waP a b) 0 = some (.inl ()) := g1
   rw [g1]
   exact ⟨true, rfl, fun _ => by simpa using g2, fun _ => rfl⟩
  ·have g1 : iter (waP a b) 0 = some (.inr false) := g1
   rw [g1]
   exact ⟨false, rfl, (fun h => by cases h), fun h => absurd (by rw [h]) g2⟩
 ·have hz : decide (¬ (a.length : Int) = (b.length : Int)) = true := decide_eq_true (by omega)
  rw [hz]
  exact ⟨false, rfl, (fun h => by cases h), fun h => absurd (by rw [h]) hl⟩
theorem wjI (a b : List Node) (hl : a.length = b.length) (h : a.length ≤ 1000000) (hs : ∀ x ∈ a, x.Cuts.length ≤ 1000000 ∧ x.To.length ≤ 1000000) : ∀ (n i : Nat), n = a.length - i → (iter (waQ a b) (i : Int) = some (.inl ()) ∧ a.drop i = b.drop i) ∨ (iter (waQ a b) (i : Int) = some (.inr false) ∧ a.drop i ≠ b.drop i)
 | 0, i, hn => by
  refine .inl ⟨wbJ ?_, by rw [wcq _ (by omega), wcq _ (by omega)]⟩
  unfold waQ
  rw [decide_eq_false (by omega)]; rfl
 | n + 1, i, hn => by
  have hi : i < a.length := by omega
  have hib : i < b.length := by omega
  have e1 : idx a (i : Int) = some a[i] := by unfold idx; simp [hi]
  have e2 : idx b (i : Int) = some b[i] := by unfold idx; simp [hib]
  obtain ⟨s1, s2⟩ := hs _ (List.getElem_mem hi)
  obtain ⟨r1, q1, q2⟩ := wp4 a[i].Cuts b[i].Cuts s1
  obtain ⟨r2, p1, p2⟩ := wp4 a[i].To b[i].To s2
  have hf : waQ a b (i : Int) = cond (decide (¬ a[i].Mark = b[i].Mark)) (some (.inr (.inr false))) (cond (!r1) (some (.inr (.inr false))) (cond (!r2) (some (.inr (.inr false))) (some (.inl ((i + 1 : Nat) : Int))))) := by
   unfold waQ
   rw [decide_eq_true (by omega), cond_true, e1, e2]
   simp only [Option.bind_some, q1, p1]
   rw [wap (by omega)]; rfl
  rw [List.drop_eq_getElem_cons hi, List.drop_eq_getElem_cons hib]
  by_cases he : a[i] = b[i]
  ·have hz : decide (¬ a[i].Mark = b[i].Mark) = false := decide_eq_false (by simp [he])
   rw [hz, q2.2 (by rw [he]), p2.2 (by rw [he])] at hf
   simp only [Bool.not_true, cond_false] at hf
   rcases wjI a b hl h hs n (i + 1) (by omega) with ⟨g1, g2⟩ | ⟨g1, g2⟩
   ·exact .inl ⟨wbI hf g1, by rw [he, g2]⟩
   ·exact .inr ⟨wbI hf g1, fun hh => g2 (List.cons.inj hh).2⟩
  ·have hbad : waQ a b (i : Int) = some (.inr (.inr false)) := by
    rw [hf]
    by_cases m1 : a[i].Mark = b[i].Mark
    ·have hz : decide (¬ a[i].Mark = b[i].Mark) = false := decide_eq_false (by simp [m1])
     rw [hz, cond_false]
     cases hr1 : r1 with
     | false => rfl
     | true =>
      cases hr2 : r2 with
      | false => rfl
      | true =>
       have c1 := q2.1 hr1
       have c2 := p2.1 hr2
       refine absurd ?_ he
       generalize a[i] = x at m1 c1 c2
       generalize b[i] = y at m1 c1 c2
       cases x; cases y
       simp only at m1 c1 c2
       rw [m1, c1, c2]
    ·have hz : decide (¬ a[i].Mark = b[i].Mark) = true := decide_eq_true m1
     rw [hz]; rfl
   exact .inr ⟨wbJ hbad, fun hh => he (List.cons.inj hh).1⟩
theorem wrX (a b : List Node) (h : a.length ≤ 1000000) (hs : ∀ x ∈ a, x.Cuts.length ≤ 1000000 ∧ x.To.length ≤ 1000000) : ∃ r, wdl a b = some r ∧ (r = true ↔ a = b) := by
 unfold wdl
 by_cases hl : a.length = b.length
 ·have hz : decide (¬ (a.length : Int) = (b.length : Int)) = false := decide_eq_false (by omega)
  rw [hz, cond_false]
  rcases wjI a b hl h hs a.length 0 (by omega) with ⟨g1, g2⟩ | ⟨g1, g2⟩
  ·have g1 : iter (waQ a b) 0 = some (.inl ()) := g1
   rw [g1]
   exact ⟨true, rfl, fun _ => by simpa using g2, fun _ => rfl⟩
  ·have g1 : iter (waQ a b) 0 = some (.inr false) := g1
   rw [g1]
   exact ⟨false, rfl, (fun h => by cases h), fun h => absurd (by rw [h]) g2⟩
 ·have hz : decide (¬ (a.length : Int) = (b.length : Int)) = true := decide_eq_true (by omega)
  rw [hz]
  exact ⟨false, rfl, (fun h => by cases h), fun h => absurd (by rw [h]) hl⟩
theorem why {k : Nat} {t : List Rule} (ht : wev k t) {a : Nat} (ha : a < 2 ^ t.length) : (wbX a < 0 ∧ weI t a = -1) ∨ (¬ wbX a < 0 ∧ 0 ≤ weI t a) := by
 unfold weI
 by_cases h : wbX a < 0
 ·exact .inl ⟨h, if_pos h⟩
 ·refine .inr ⟨h, ?_⟩
  rw [if_neg h]
  have hlt := wi0 ha h
  have hm : t.getD (wbX a).toNat default ∈ t := by
   rw [List.getD, List.getElem?_eq_getElem hlt]; exact List.getElem_mem hlt
  exact wrP (ht.2 _ hm)
theorem wrY {k : Nat} {s t : List Rule} (hs : wev k s) (ht : wev k t) {a b : Nat} (ha : a < 2 ^ s.length) (hb : b < 2 ^ t.length) : wgP s a = wgP t b ↔ weI s a = weI t b := by
 unfold wgP
 rcases why hs ha with ⟨h1, h2⟩ | ⟨h1, h2⟩
 ·rcases why ht hb with ⟨h3, h4⟩ | ⟨h3, h4⟩
  ·rw [if_pos h1, if_pos h3, h2, h4]
  ·rw [if_pos h1, if_neg h3]; omega
 ·rcases why ht hb with ⟨h3, h4⟩ | ⟨h3, h4⟩
  ·rw [if_neg h1, if_pos h3]; omega
  ·rw [if_neg h1, if_neg h3]; omega
theorem wsL {k : Nat} {s t : List Rule} (hs : wev k s) (ht : wev k t) {N N' : List Node} {n m : Int} (h : Val k s N n 0 (wb8 s)) (h' : Val k t N' m 0 (wb8 t)) : wdR k N N' n m ↔ wo7 k s t := by
 have key : ∀ xs, Pts k xs → (ev N n xs = ev N' m xs ↔ wf6 s xs = wf6 t xs) := fun xs hx => by
  rw [h.2 xs hx, h'.2 xs hx, List.drop_zero, wrY hs ht (wl0 xs 0 _ (whi s)) (wl0 xs 0 _ (whi t)), wl1 hs hx.1, wl1 ht hx.1]
 exact ⟨fun hh xs hx => (key xs hx).1 (hh xs hx), fun hh xs hx => (key xs hx).2 (hh xs hx)⟩
theorem wp5 (k : Int) (t : List Rule) : chk k [t] = 0 ∨ chk k [t] = 2 ∨ chk k [t] = 3 := by
 unfold chk
 split
 ·simp only [wix, wlp]
  cases decide (24 < (t.length : Int)) with
  | true => exact .inr (.inr (by simp))
  | false =>
   cases t.any fun r => !wbo k r with
   | true => exact .inr (.inl (by simp))
   | false => exact .inl (by simp)
 ·simp
theorem wrZ {k : Nat} {d : List Node} (hd : OkN k d) : ∀ x ∈ d, x.Cuts.length ≤ 1000000 ∧ x.To.length ≤ 1000000 := fun x hx => by
 obtain ⟨i, hi, rfl⟩ := List.getElem_of_mem hx
 have hr := hd.runs i _ (List.getElem?_eq_getElem hi)
 have h1 := wfb hr
 have h2 := wgi hr
 omega
theorem wkO (k : Int) (s t : List Rule) (thing : List Int) : wci k s t thing = some true := by
 unfold wci
 obtain ⟨bs, hbs⟩ := wos k s
 obtain ⟨bt, hbt⟩ := wos k t
 rw [hbs, hbt, Option.bind_some]
 cases bs with
 | false => simp only [Bool.not_false, cond_true, Option.bind_some, Bool.true_or, wfR]
 | true =>
 cases bt with
 | false => simp only [Bool.not_true, Bool.not_false, cond_false, Option.bind_some, Bool.true_or, cond_true, wfR]
 | true =>
 simp only [Bool.not_true, cond_false, Option.bind_some, Bool.false_or]
 by_cases hl : 20 < (thing.length : Int)
 ·simp only [decide_eq_true hl, cond_true, Option.bind_some, wfR]
 rw [decide_eq_false hl]
 simp only [cond_false]
 by_cases hs : chk k [s] = 0
 case neg =>
  have hz : decide (¬ chk k [s] = 0) = true := decide_eq_true hs
  have hdf : wbT k s t = some ([], chk k [s]) := by
   unfold wbT
   rw [wfQ k [s, t] (by simp), wn2, if_neg hs, Option.bind_some, hz]; rfl
  have h10 : decide (¬ chk k [s] = 10) = true := decide_eq_true (by rcases wp5 k s with h | h | h <;> omega)
  have hd : ∃ q, wbj k t = some q := by
   by_cases ht : chk k [t] = 0
   ·obtain ⟨k1, k2, _⟩ := wc6 ht
    obtain ⟨n, rfl⟩ : ∃ n : Nat, k = n := ⟨k.toNat, by omega⟩
    obtain ⟨N, top, _, _, _, h, _⟩ := whx ht
    exact ⟨_, h⟩
   ·exact ⟨_, wjk ht⟩
  obtain ⟨q, hq⟩ := hd
  rw [wjk hs, hq, hdf]
  simp only [Option.bind_some, hz, h10, Bool.true_or, cond_true, Bool.and_self, Bool.true_and, List.length_nil]
  simp [wfR]
 by_cases ht : chk k [t] = 0
 case neg =>
  obtain ⟨k1, k2, _⟩ := wc6 hs
  obtain ⟨n, rfl⟩ : ∃ n : Nat, k = n := ⟨k.toNat, by omega⟩
  have hz : decide (¬ chk (n : Int) [t] = 0) = true := decide_eq_true ht
  have hdf : wbT (n : Int) s t = some ([], chk (n : Int) [t]) := by
   unfold wbT
   rw [wfQ (n : Int) [s, t] (by simp), wn2, if_pos hs, Option.bind_some, hz]; rfl
  have h10 : decide (¬ chk (n : Int) [t] = 10) = true := decide_eq_true (by rcases wp5 (n : Int) t with h | h | h <;> omega)
  obtain ⟨N, top, _, _, _, h, _⟩ := whx hs
  rw [h, wjk ht, hdf]
  simp only [Option.bind_some, hz, h10, Bool.or_true, cond_true, Bool.and_self, Bool.true_and, List.length_nil]
  simp [wfR]
 obtain ⟨k1, k2, s1, s2⟩ := wc6 hs
 obtain ⟨_, _, t1, t2⟩ := wc6 ht
 obtain ⟨n, rfl⟩ : ∃ n : Nat, k = n := ⟨k.toNat, by omega⟩
 have hk : n ≤ 4 := by omega
 obtain ⟨N, top, a1, a2, a3, a4, a5⟩ := whx hs
 obtain ⟨N', top', b1, b2, b3, b4, b5⟩ := whx ht
 have hns := woI hbs hs
 have hnt := woI hbt ht
 obtain ⟨c1, c2, c3, c4, c5⟩ := wrW hk (by omega) a1 a3.1 99 a5
 obtain ⟨d1, d2, d3, d4, d5⟩ := wrW hk (by omega) b1 b3.1 99 b5
 have hsame := wsL ⟨s1, s2⟩ ⟨t1, t2⟩ a3 b3
 have hdia : dia 100 N top = dia 100 N' top' ↔ wo7 n s t := by
  rw [← hsame]
  constructor
  ·intro h xs hx
   rw [← c5 xs hx, ← d5 xs hx]
   exact congrArg (fun d => ev d 0 xs) h
  ·intro h; exact wsH 100 hk a1 b1 a3.1 b3.1 h
 obtain ⟨xs, f, e1, e2, _⟩ := wri hs ht
 obtain ⟨r, g1, g2⟩ := wrX (dia 100 N top) (dia 100 N' top') (by have : (dia 100 N top).length ≤ max 1 N.length := c3; omega) (wrZ c1)
 have hfol := wrn hk (by omega) c1 c2 (by have : (dia (99 + 1) N top).length ≤ max 1 N.length := c3; omega) c4 (l := thing) (by omega)
 have hcode : weq (n : Int) s thing = some (wiX (n : Int) s thing) := ws5 (n : Int) s thing (by omega)
 have hc5 : ∀ xs, Pts n xs → ev (dia 100 N top) 0 xs = ev N top xs := c5
 have hfol : wdQ (n : Int) (dia 100 N top) thing = some (cond (weN (n : Int) thing) (if ev (dia 100 N top) 0 thing = -1 then (0, 6) else (-2 - ev (dia 100 N top) 0 thing, 0)) (0, 2)) := hfol
 rw [a4, b4, e1]
 generalize dia 100 N top = D at hdia g1 g2 hfol hc5
 generalize dia 100 N' top' = D' at hdia g1 g2
 simp only [Option.bind_some, not_true_eq_false, decide_false, Bool.or_self, cond_false]
 rw [g1, hcode, hfol]
 simp only [Option.bind_some]
 have hr : r = !f := by
  cases hf : f with
  | false => exact g2.2 (hdia.2 (e2.1 hf))
  | true =>
   cases hr : r with
   | false => rfl
   | true => have := e2.2 (hdia.1 (g2.1 hr)); rw [hf] at this; cases this
 have hbad : ((!(r == (decide ((cond f (xs, (0 : Int)) ([], 10)).2 = 10)))) || ((decide (¬ (cond f (xs, (0 : Int)) ([], 10)).2 = 0)) && (decide (¬ (cond f (xs, (0 : Int)) ([], 10)).2 = 10)))) = false := by
  rw [hr]
  cases f <;> rfl
 rw [hbad, cond_false]
 have hlast : (wiX (n : Int) s thing).1 = (cond (weN (n : Int) thing) (if ev D 0 thing = -1 then ((0 : Int), (6 : Int)) else (-2 - ev D 0 thing, 0)) (0, 2)).1 ∧ (wiX (n : Int) s thing).2.2 = (cond (weN (n : Int) thing) (if ev D 0 thing = -1 then ((0 : Int), (6 : Int)) else (-2 - ev D 0 thing, 0)) (0, 2)).2 := by
  cases hth : weN (n : Int) thing with
  | false =>
   unfold wiX
   rw [if_pos hs, hth]
   exact ⟨rfl, rfl⟩
  | true =>
   have hp := pts_thing.1 hth
   have hev : ev D 0 thing = wgP s (wdy s 0 (wb8 s) thing) := by
    rw [hc5 thing hp, a3.2 thing hp, List.drop_zero]
   rw [wtb hs hp, hev]
   unfold wgP
   rcases why ⟨s1, s2⟩ (wl0 thing 0 _ (whi s)) with ⟨h1, h2⟩ | ⟨h1, h2⟩
   ·rw [if_pos h1, if_pos h1]; exact ⟨rfl, rfl⟩
   ·rw [if_neg h1, if_neg h1, cond_true, if_neg (by omega)]
    exact ⟨by simp only; omega, rfl⟩
 rw [hlast.1, hlast.2]
 simp only [decide_true, Bool.and_self, cond_true, wfR, Option.bind_some]
end Go.Pv

namespace Go.Pv.Tryd
open Go.Proofs Go.Pv
set_option maxHeartbeats 4000000 in
theorem wjJ (k1 : Int) (t1 : (List Rule)) (r : Int) (h : wdF k1 t1 = some r) : PureFn Tryd.prog G 40 [.d (.int .i64 k1), .d (.imm 2 (wab Rule.pd t1))] (.d (.int .i64 r)) := by
 unfold wdF at h
 refine pf Tryd.func40 Tryd.ntmps40 ?_
 refine sg fun K k => ?_
 refine oo ?_
 refine AOps.nil (k _ ?_)
 refine AWp.seq fun _ K_1 => ?_
 refine sg fun K k => ?_
 iterate 3 refine oo ?_
 refine ct 3 [0, 1] [] (fun  t => (13, .d (.bool ((decide (k1 < 1)) || (decide (4 < k1))))) :: t) ?_ ?_
 ·rcases bt (decide (k1 < 1)) with hg_3 | hg_3
  ·rw [hg_3]
   iterate 3 refine oo ?_
   refine AOps.nil ?_
   exact sb
  ·rw [hg_3]
   iterate 3 refine oo ?_
   refine AOps.nil ?_
   exact sb
 refine AOps.nil (k _ ?_)
 refine cd h (fun h => ?_) (fun h => ?_)
 ·refine sg fun K k => ?_
  refine oo ?_
  refine AOps.nil (k _ ?_)
  refine AWp.ret ?_
  cases h; exact rt
 ·refine AWp.skip ?_
  refine K_1 _ ?_
  refine AWp.seq fun _ K_5 => ?_
  refine sg fun K k => ?_
  iterate 3 refine oo ?_
  refine AOps.nil (k _ ?_)
  refine cd h (fun h => ?_) (fun h => ?_)
  ·refine sg fun K k => ?_
   refine oo ?_
   refine AOps.nil (k _ ?_)
   refine AWp.ret ?_
   cases h; exact rt
  ·refine AWp.skip ?_
   refine K_5 _ ?_
   refine jm (ι := Unit) [] [] (fun i t => t) (fun i t => t) .inl h ?_ ?_
   ·intro _ hj_8 h
    refine sg fun K k => ?_
    refine oo ?_
    refine AOps.nil (k _ ?_)
    refine AWp.block ?_
    obtain ⟨x_13, hl_10, h2_11⟩ := bind_some hj_8
    refine lp (S := Int) [0, 1] [] (fun i t => (5, .d (.int .i64 i)) :: t) (fun i t => t) hl_10 ?_ ?_; exact sb; clear hl_10
    rintro i1 _ hb_12; unfold wce at hb_12; try dsimp only at hb_12
    try dsimp only
    refine AWp.seq fun _ K_15 => ?_
    refine sg fun K k => ?_
    iterate 4 refine oo ?_
    refine AOps.nil (k _ ?_)
    refine cd hb_12 (fun hb_12 => ?_) (fun hb_12 => ?_)
    ·refine AWp.skip ?_
     refine K_15 _ ?_
     refine jm (ι := Unit) [0, 1, 5] [] (fun i t => t) (fun i t => t) .inl hb_12 ?_ ?_
     ·intro _ hj_18 hb_12
      refine AWp.block ?_
      refine sg fun K k => ?_
      obtain ⟨e1, ⟨f_19, f_20, f_21, f_22⟩, hj_18⟩ := wak hj_18
      iterate 3 refine oo ?_
      refine oo ?_ (by intro K k; simp (disch := omega) only [go_sem, f_21, ↓reduceIte]; exact k)
      iterate 2 refine oo ?_
      refine AOps.nil (k _ ?_)
      refine AWp.seq fun _ K_23 => ?_
      refine sg fun K k => ?_
      iterate 6 refine oo ?_
      refine ct 4 [0, 1, 5, 6] [1000] (fun  t => (36, .d (.bool ((decide (¬(e1.Bands.length : Int) = k1)) || (decide (e1.Code < 0))))) :: t) ?_ ?_
      ·rcases bt (decide (¬(e1.Bands.length : Int) = k1)) with hg_25 | hg_25
       ·rw [hg_25]
        iterate 4 refine oo ?_
        refine AOps.nil ?_
        exact sb
       ·rw [hg_25]
        iterate 4 refine oo ?_
        refine AOps.nil ?_
        exact sb
      refine oo ?_
      refine ct 4 [0, 1, 5, 6] [1000] (fun  t => (41, .d (.bool (((decide (¬(e1.Bands.length : Int) = k1)) || (decide (e1.Code < 0))) || (decide (99 < e1.Code))))) :: t) ?_ ?_
      ·rcases bt ((decide (¬(e1.Bands.length : Int) = k1)) || (decide (e1.Code < 0))) with hg_27 | hg_27
       ·rw [hg_27]
        iterate 4 refine oo ?_
        refine AOps.nil ?_
        exact sb
       ·rw [hg_27]
        iterate 4 refine oo ?_
        refine AOps.nil ?_
        exact sb
      refine AOps.nil (k _ ?_)
      refine cd hj_18 (fun hj_18 => ?_) (fun hj_18 => ?_)
      ·refine sg fun K k => ?_
       refine oo ?_
       refine AOps.nil (k _ ?_)
       refine AWp.ret ?_
       cases hj_18; try dsimp only at hb_12
       refine lx hb_12 fun hx => ?_; cases hx; try dsimp only at h2_11
       cases h2_11; try dsimp only at h
       cases h; exact rt
      ·refine AWp.skip ?_
       refine K_23 _ ?_
       refine sg fun K k => ?_
       refine oo ?_
       refine AOps.nil (k _ ?_)
       refine AWp.block ?_
       obtain ⟨x_33, hl_30, h2_31⟩ := bind_some hj_18
       refine lp (S := Int) [0, 1, 5, 6] [1000] (fun i t => (7, .d (.int .i64 i)) :: t) (fun i t => t) hl_30 ?_ ?_; exact sb; clear hl_30
       rintro m1 _ hb_32; unfold wcd at hb_32; try dsimp only at hb_32
       try dsimp only
       refine AWp.seq fun _ K_35 => ?_
       refine sg fun K k => ?_
       iterate 3 refine oo ?_
       refine AOps.nil (k _ ?_)
       refine cd hb_32 (fun hb_32 => ?_) (fun hb_32 => ?_)
       ·refine AWp.skip ?_
        refine K_35 _ ?_
        refine AWp.seq fun _ K_37 => ?_
        refine AWp.block ?_
        refine sd mo fun K k => ?_
        obtain ⟨e2, ⟨f_38, f_39, f_40, f_41⟩, hb_32⟩ := wak hb_32
        iterate 5 refine dd ?_
        refine dd ?_ (by intro K k; simp (disch := omega) only [go_sem, f_40, ↓reduceIte]; exact k)
        iterate 2 refine dd ?_
        rcases bt (decide (e2.Lo < 0)) with hg_42 | hg_42
        ·rw [hg_42]
         rw [hg_42, cond_true] at hb_32
         iterate 23 refine dd ?_
         refine DOps.nil (by kernel_rfl) (k _ ?_)
         refine cdt ?_
         refine sg fun K k => ?_
         refine oo ?_
         refine AOps.nil (k _ ?_)
         refine AWp.ret ?_
         refine lx hb_32 fun hx => ?_; cases hx; try dsimp only at h2_31
         cases h2_31; try dsimp only at hb_12
         refine lx hb_12 fun hx => ?_; cases hx; try dsimp only at h2_11
         cases h2_11; try dsimp only at h
         cases h; exact rt
        ·rw [hg_42]
         rw [hg_42, cond_false] at hb_32
         iterate 5 refine dd ?_
         refine dd ?_ (by intro K k; simp (disch := omega) only [go_sem, f_40, ↓reduceIte]; exact k)
         iterate 5 refine dd ?_
         refine dd ?_ (by intro K k; simp (disch := omega) only [go_sem, f_40, ↓reduceIte]; exact k)
         iterate 3 refine dd ?_
         rcases bt (decide (e2.Hi ≤ e2.Lo)) with hg_44 | hg_44
         ·rw [hg_44]
          rw [hg_44, cond_true] at hb_32
          iterate 8 refine dd ?_
          refine DOps.nil (by kernel_rfl) (k _ ?_)
          refine cdt ?_
          refine sg fun K k => ?_
          refine oo ?_
          refine AOps.nil (k _ ?_)
          refine AWp.ret ?_
          refine lx hb_32 fun hx => ?_; cases hx; try dsimp only at h2_31
          cases h2_31; try dsimp only at hb_12
          refine lx hb_12 fun hx => ?_; cases hx; try dsimp only at h2_11
          cases h2_11; try dsimp only at h
          cases h; exact rt
         ·rw [hg_44]
          rw [hg_44, cond_false] at hb_32
          iterate 5 refine dd ?_
          refine dd ?_ (by intro K k; simp (disch := omega) only [go_sem, f_40, ↓reduceIte]; exact k)
          iterate 2 refine dd ?_
          refine DOps.nil (by kernel_rfl) (k _ ?_)
          refine cd hb_32 (fun hb_32 => ?_) (fun hb_32 => ?_)
          ·refine sg fun K k => ?_
           refine oo ?_
           refine AOps.nil (k _ ?_)
           refine AWp.ret ?_
           refine lx hb_32 fun hx => ?_; cases hx; try dsimp only at h2_31
           cases h2_31; try dsimp only at hb_12
           refine lx hb_12 fun hx => ?_; cases hx; try dsimp only at h2_11
           cases h2_11; try dsimp only at h
           cases h; exact rt
          ·refine AWp.skip ?_
           refine K_37 _ ?_
           refine AWp.reg ?_
           iterate 3 refine oo ?_
           refine AOps.nil ?_
           exact ln hb_32 sb
       ·refine AWp.exit ?_
        refine lx hb_32 fun hx => ?_; cases hx; try dsimp only at h2_31
        exact ln h2_31 sb
     ·rintro _ hb_12; dsimp only at hb_12 ⊢
      refine AWp.reg ?_
      iterate 3 refine oo ?_
      refine AOps.nil ?_
      exact ln hb_12 sb
    ·refine AWp.exit ?_
     refine lx hb_12 fun hx => ?_; cases hx; try dsimp only at h2_11
     exact ln h2_11 sb
   ·rintro _ h; dsimp only at h ⊢
    refine sg fun K k => ?_
    refine oo ?_
    refine AOps.nil (k _ ?_)
    refine AWp.ret ?_
    cases h; exact rt
end Go.Pv.Tryd

namespace Go.Pv.Tryd
open Go.Proofs Go.Pv
theorem wkr (t1 : (List Rule)) (r : Int) (h : wdb t1 = some r) : PureFn Tryd.prog G 51 [.d (.imm 2 (wab Rule.pd t1))] (.d (.int .i64 r)) := by
 unfold wdb at h
 refine pf Tryd.func51 Tryd.ntmps51 ?_
 refine sg fun K k => ?_
 refine oo ?_
 refine AOps.nil (k _ ?_)
 refine sg fun K k => ?_
 obtain ⟨hg_1, h⟩ := wai h
 iterate 5 refine oo ?_
 refine AOps.nil (k _ ?_)
 refine AWp.ret ?_
 cases h; exact rt
end Go.Pv.Tryd

namespace Go.Pv.Tryd
open Go.Proofs Go.Pv
theorem wgR (l1 : (List Int)) (n1 : Int) (r : (List Int)) (h : wdc l1 n1 = some r) : PureFn Tryd.prog G 86 [.d (.imm 1 (wab (PD.int .i64) l1)), .d (.int .i64 n1)] (.d (.imm 1 (wab (PD.int .i64) r))) := by
 unfold wdc at h
 refine pf Tryd.func86 Tryd.ntmps86 ?_
 refine sg fun K k => ?_
 refine oo ?_
 refine AOps.nil (k _ ?_)
 refine sg fun K k => ?_
 refine oo ?_
 refine AOps.nil (k _ ?_)
 refine AWp.sub (Sub.void 5 3 1 1000 (by rfl) (by rfl) (by decide) (by decide)) ?_
 simp only [wd1, waj, reduceCtorEq, ↓reduceIte, Nat.reduceAdd, Nat.reduceMul, Nat.reduceLT, Nat.reduceLeDiff, Nat.reduceEqDiff, Nat.reduceBEq, Int.reduceToNat]
 refine sg fun K k => ?_
 refine oo ?_
 refine AOps.nil (k _ ?_)
 refine jn (α := (Bool × (List Int))) [1] [] (fun i t => (5, .slc 1000 0 i.2.length) :: (6, .d (.bool i.1)) :: t) (fun i t => (1000, ⟨3, 1, dl (wab (PD.int .i64) i.2)⟩) :: t) h ?_ ?_
 ·intro _ hj_2
  refine sg fun K k => ?_
  refine oo ?_
  refine AOps.nil (k _ ?_)
  refine AWp.block ?_
  obtain ⟨x_7, hl_4, h2_5⟩ := bind_some hj_2
  refine lp (S := (Bool × Int × (List Int))) [0, 1] [] (fun i t => (5, .slc 1000 0 i.2.2.length) :: (6, .d (.bool i.1)) :: (7, .d (.int .i64 i.2.1)) :: t) (fun i t => (1000, ⟨3, 1, dl (wab (PD.int .i64) i.2.2)⟩) :: t) hl_4 ?_ ?_; exact sb; clear hl_4
  rintro ⟨done2, i1, L2⟩ _ hb_6; unfold wa7 at hb_6; try dsimp only at hb_6
  try dsimp only
  refine AWp.seq fun _ K_9 => ?_
  refine sg fun K k => ?_
  iterate 4 refine oo ?_
  refine AOps.nil (k _ ?_)
  refine cd hb_6 (fun hb_6 => ?_) (fun hb_6 => ?_)
  ·refine AWp.skip ?_
   refine K_9 _ ?_
   refine AWp.seq fun _ K_11 => ?_
   refine AWp.block ?_
   refine jn (α := (Bool × (List Int))) [0, 1, 7] [] (fun i t => (5, .slc 1000 0 i.2.length) :: (6, .d (.bool i.1)) :: t) (fun i t => (1000, ⟨3, 1, dl (wab (PD.int .i64) i.2)⟩) :: t) hb_6 ?_ ?_
   ·intro _ hj_13
    refine sg fun K k => ?_
    iterate 3 refine oo ?_
    obtain ⟨b1, hc_14, hj_13⟩ := bind_some hj_13
    refine ct 7 [0, 1, 5, 6, 7] [1000] (fun  t => (23, .d (.bool b1)) :: t) ?_ ?_
    ·rcases bt (!done2) with hg_19 | hg_19
     ·rw [hg_19]
      rw [hg_19, cond_true] at hc_14
      obtain ⟨e1, ⟨f_15, f_16, f_17, f_18⟩, hc_14⟩ := wak hc_14
      iterate 4 refine oo ?_
      refine oo ?_ (by intro K k; simp (disch := omega) only [go_sem, f_17, ↓reduceIte]; exact k)
      iterate 2 refine oo ?_
      refine AOps.nil ?_
      cases hc_14
      exact sb
     ·rw [hg_19]
      rw [hg_19, cond_false] at hc_14
      iterate 7 refine oo ?_
      refine AOps.nil ?_
      cases hc_14
      exact sb
    refine AOps.nil (k _ ?_)
    refine cd hj_13 (fun hj_13 => ?_) (fun hj_13 => ?_)
    ·refine sg fun K k => ?_
     refine oo ?_
     refine AOps.nil (k _ ?_)
     refine sg fun K k => ?_
     obtain ⟨e2, ⟨f_21, f_22, f_23, f_24⟩, hj_13⟩ := wak hj_13
     iterate 4 refine oo ?_
     refine oo ?_ (by intro K k; simp (disch := omega) only [go_sem, f_23, ↓reduceIte]; exact k)
     refine oo ?_
     refine AOps.nil (k _ ?_)
     refine cd hj_13 (fun hj_13 => ?_) (fun hj_13 => ?_)
     ·refine AWp.reg ?_
      iterate 2 refine oo ?_
      refine ol ?_
      obtain ⟨hg_26, hj_13⟩ := wai hj_13
      iterate 2 refine oo ?_
      refine AOps.nil ?_
      cases hj_13; exact sb
     ·refine AWp.skip ?_
      cases hj_13; exact sb
    ·refine AWp.skip ?_
     cases hj_13; exact sb
   ·rintro ⟨done3, L3⟩ hb_6; dsimp only at hb_6 ⊢
    refine AWp.reg ?_
    obtain ⟨e3, ⟨f_27, f_28, f_29, f_30⟩, hb_6⟩ := wak hb_6
    iterate 4 refine oo ?_
    refine oo ?_ (by intro K k; simp (disch := omega) only [go_sem, f_29, ↓reduceIte]; exact k)
    refine ol ?_
    obtain ⟨hg_31, hb_6⟩ := wai hb_6
    iterate 2 refine oo ?_
    refine AOps.nil ?_
    refine K_11 _ ?_
    refine AWp.reg ?_
    iterate 3 refine oo ?_
    refine AOps.nil ?_
    exact ln hb_6 sb
  ·refine AWp.exit ?_
   refine lx hb_6 fun hx => ?_; cases hx; try dsimp only at h2_5
   cases h2_5; exact sb
 ·rintro ⟨done1, L1⟩ h; dsimp only at h ⊢
  refine jn (α := (List Int)) [] [] (fun i t => (5, .slc 1000 0 i.length) :: t) (fun i t => (1000, ⟨3, 1, dl (wab (PD.int .i64) i)⟩) :: t) h ?_ ?_
  ·intro _ hj_33
   refine sg fun K k => ?_
   iterate 2 refine oo ?_
   refine AOps.nil (k _ ?_)
   refine cd hj_33 (fun hj_33 => ?_) (fun hj_33 => ?_)
   ·refine AWp.reg ?_
    iterate 2 refine oo ?_
    refine ol ?_
    obtain ⟨hg_35, hj_33⟩ := wai hj_33
    iterate 2 refine oo ?_
    refine AOps.nil ?_
    cases hj_33; exact sb
   ·refine AWp.skip ?_
    cases hj_33; exact sb
  ·rintro L4 h; dsimp only at h ⊢
   refine sg fun K k => ?_
   iterate 2 refine oo ?_
   refine AOps.nil (k _ ?_)
   refine AWp.ret ?_
   cases h; exact rt
end Go.Pv.Tryd

