/- TariffLeans answers true for every input, as its tied card says: under the conditions of the card (Rows, Cards, Tie), no more. Part 2 of 7: by one AI agent and its programs; no person has read it. -/
import Derived.Test.YtnfnkllhjaemnaaDoorTariffLeansA
import Derived.KernelRfl
import Derived.OrdersIn
set_option linter.unusedSimpArgs false
set_option linter.unusedVariables false
set_option linter.all false

namespace Go.Pv
attribute [go_sem] wbg wrF wi0 wqt wb7 wme wne wnd wrE wrD wqs woJ wrC woI callV wlQ woC wkl wkk wji woB wlP whF woA wjh
 wdr waS wqq unV wiU whP wkj wqp war whE whQ wfb wik whM wiV wjg layAt mkAgg wfv mkB ofConst St.eval St.put wam wcK waa waj fresh wcL weV
 wd1 wa0 wfx weD wgb wet wan wbV frz frzL frzT wlT wmd wdF wjp whT Post.then Post.inBlock Fin wrB frzTL wb8 wk4 wc6 wiY wch refsIn refsInL wil wpH wnb dOnly dOnlyL
 St.grown PV.kill killL wjl weA
@[go_sem] theorem pvCells_0 (b : Bool) : waz (.d (.bool b)) = some [.d (.bool b)] := rfl
@[go_sem] theorem pvCells_1 (k : IntKind) (n : Int) : waz (.d (.int k n)) = some [.d (.int k n)] := rfl
@[go_sem] theorem pvCells_2 (s : ByteArray) : waz (.d (.str s)) = some [.d (.str s)] := rfl
@[go_sem] theorem pvCells_3  : waz (.d .nilptr) = some [.d .nilptr] := rfl
@[go_sem] theorem pvCells_4  : waz (.d .nilslice) = some [.d .nilslice] := rfl
@[go_sem] theorem pvCells_5  : waz (.d .nilmap) = some [.d .nilmap] := rfl
@[go_sem] theorem pvCells_6  : waz (.d .nilfunc) = some [.d .nilfunc] := rfl
@[go_sem] theorem pvCells_7  : waz (.d .niliface) = some [.d .niliface] := rfl
@[go_sem] theorem pvCells_8 (f : Go.Fn) : waz (.d (.fn f)) = some [.d (.fn f)] := rfl
@[go_sem] theorem pvCells_9 (k : Nat) (l : List PD) : waz (.d (.imm k l)) = some [.d (.imm k l)] := rfl
@[go_sem] theorem pvCells_10 (u : TypeId) (x : PD) : waz (.d (.iface u x)) = some [.d (.iface u x)] := rfl
@[go_sem] theorem pvCells_11 (b : Bool) : waz (.b (.bool b)) = some [.b (.bool b)] := rfl
@[go_sem] theorem pvCells_12 (k : IntKind) (n : Int) : waz (.b (.int k n)) = some [.b (.int k n)] := rfl
@[go_sem] theorem pvCells_13 (s : ByteArray) : waz (.b (.str s)) = some [.b (.str s)] := rfl
@[go_sem] theorem pvCells_14 (k : Nat) (l : List PD) : waz (.b (.imm k l)) = some [.b (.imm k l)] := rfl
@[go_sem] theorem pvCells_15 (u : TypeId) (x : PD) : waz (.b (.iface u x)) = some [.b (.iface u x)] := rfl
@[go_sem] theorem pvCells_16  : waz (.b .nilslice) = some [.b .nilslice] := rfl
@[go_sem] theorem pvCells_17 (r i o : Nat) : waz (.ptr r i o) = some [.ptr r i o] := rfl
@[go_sem] theorem pvCells_18 (k : Nat) (l : List PD) (i o : Nat) : waz (.dptr k l i o) = some [.dptr k l i o] := rfl
@[go_sem] theorem pvCells_19 (k : Nat) (l : List PD) (i o : Nat) : waz (.bptr k l i o) = some [.bptr k l i o] := rfl
@[go_sem] theorem pvCells_20 (g : Nat) : waz (.glob g) = some [.glob g] := rfl
@[go_sem] theorem pvCells_V (v : Value) : waz (.val v) = some [.val v] := rfl
@[go_sem] theorem pvCells_21 (r lo n : Nat) : waz (.slc r lo n) = some [.slc r lo n] := rfl
@[go_sem] theorem pvCells_22 (f : Go.Fn) (l : List PV) : waz (.func f l) = some [.func f l] := rfl
@[go_sem] theorem pvCells_23 (r : Nat) : waz (.mp r) = some [.mp r] := rfl
@[go_sem] theorem pvCells_a0 (cs : List PD) : waz (.d (.agg cs)) = some (cs.map .d) := rfl
@[go_sem] theorem pvCells_a1 (cs : List PD) : waz (.b (.agg cs)) = some (cs.map mkB) := rfl
@[go_sem] theorem pvCells_a2 (cs : List PV) : waz (.agg cs) = some cs := rfl
@[go_sem] theorem binV_int (P : Program) (op : BinOp) (t : TypeId) (k k' : IntKind) (a b : Int) : wbI P op t (.d (.int k a)) (.d (.int k' b)) = match op with | .shl | .shr => (whP op k a b).map .d | _ => if k = k' then (wiU op k a b).map .d else none := rfl
@[go_sem] theorem binV_str (P : Program) (op : BinOp) (t : TypeId) (a b : ByteArray) : wbI P op t (.d (.str a)) (.d (.str b)) = (wkj op a b).map .d := rfl
@[go_sem] theorem binV_eql0 (P : Program) (t : TypeId)   : wbI P .eql t (.d .nilslice) (.d .nilslice) = (wad P t).bind fun z => (waD z.desc (.d .nilslice) (.d .nilslice)).map fun r => .d (.bool (r)) := rfl
@[go_sem] theorem binV_neq0 (P : Program) (t : TypeId)   : wbI P .neq t (.d .nilslice) (.d .nilslice) = (wad P t).bind fun z => (waD z.desc (.d .nilslice) (.d .nilslice)).map fun r => .d (.bool (!r)) := rfl
@[go_sem] theorem nilEq_0 (e : TypeId)   : waD (.slice e) (.d .nilslice) (.d .nilslice) = some true := rfl
@[go_sem] theorem binV_eql1 (P : Program) (t : TypeId) (r lo n : Nat)  : wbI P .eql t (.slc r lo n) (.d .nilslice) = (wad P t).bind fun z => (waD z.desc (.slc r lo n) (.d .nilslice)).map fun r => .d (.bool (r)) := rfl
@[go_sem] theorem binV_neq1 (P : Program) (t : TypeId) (r lo n : Nat)  : wbI P .neq t (.slc r lo n) (.d .nilslice) = (wad P t).bind fun z => (waD z.desc (.slc r lo n) (.d .nilslice)).map fun r => .d (.bool (!r)) := rfl
@[go_sem] theorem nilEq_1 (e : TypeId) (r lo n : Nat)  : waD (.slice e) (.slc r lo n) (.d .nilslice) = wah (n ≠ 0) (some false) := rfl
@[go_sem] theorem binV_eql2 (P : Program) (t : TypeId)  (r lo n : Nat) : wbI P .eql t (.d .nilslice) (.slc r lo n) = (wad P t).bind fun z => (waD z.desc (.d .nilslice) (.slc r lo n)).map fun r => .d (.bool (r)) := rfl
@[go_sem] theorem binV_neq2 (P : Program) (t : TypeId)  (r lo n : Nat) : wbI P .neq t (.d .nilslice) (.slc r lo n) = (wad P t).bind fun z => (waD z.desc (.d .nilslice) (.slc r lo n)).map fun r => .d (.bool (!r)) := rfl
@[go_sem] theorem nilEq_2 (e : TypeId)  (r lo n : Nat) : waD (.slice e) (.d .nilslice) (.slc r lo n) = wah (n ≠ 0) (some false) := rfl
@[go_sem] theorem binV_eql3 (P : Program) (t : TypeId) (k : Nat) (els : List PD)  : wbI P .eql t (.d (.imm k els)) (.d .nilslice) = (wad P t).bind fun z => (waD z.desc (.d (.imm k els)) (.d .nilslice)).map fun r => .d (.bool (r)) := rfl
@[go_sem] theorem binV_neq3 (P : Program) (t : TypeId) (k : Nat) (els : List PD)  : wbI P .neq t (.d (.imm k els)) (.d .nilslice) = (wad P t).bind fun z => (waD z.desc (.d (.imm k els)) (.d .nilslice)).map fun r => .d (.bool (!r)) := rfl
@[go_sem] theorem nilEq_3 (e : TypeId) (k : Nat) (els : List PD)  : waD (.slice e) (.d (.imm k els)) (.d .nilslice) = wah (els ≠ []) (some false) := rfl
@[go_sem] theorem binV_eql4 (P : Program) (t : TypeId)  (k : Nat) (els : List PD) : wbI P .eql t (.d .nilslice) (.d (.imm k els)) = (wad P t).bind fun z => (waD z.desc (.d .nilslice) (.d (.imm k els))).map fun r => .d (.bool (r)) := rfl
@[go_sem] theorem binV_neq4 (P : Program) (t : TypeId)  (k : Nat) (els : List PD) : wbI P .neq t (.d .nilslice) (.d (.imm k els)) = (wad P t).bind fun z => (waD z.desc (.d .nilslice) (.d (.imm k els))).map fun r => .d (.bool (!r)) := rfl
@[go_sem] theorem nilEq_4 (e : TypeId)  (k : Nat) (els : List PD) : waD (.slice e) (.d .nilslice) (.d (.imm k els)) = wah (els ≠ []) (some false) := rfl
@[go_sem] theorem binV_eql5 (P : Program) (t : TypeId) (k : Nat) (els : List PD)  : wbI P .eql t (.b (.imm k els)) (.d .nilslice) = (wad P t).bind fun z => (waD z.desc (.b (.imm k els)) (.d .nilslice)).map fun r => .d (.bool (r)) := rfl
@[go_sem] theorem binV_neq5 (P : Program) (t : TypeId) (k : Nat) (els : List PD)  : wbI P .neq t (.b (.imm k els)) (.d .nilslice) = (wad P t).bind fun z => (waD z.desc (.b (.imm k els)) (.d .nilslice)).map fun r => .d (.bool (!r)) := rfl
@[go_sem] theorem nilEq_5 (e : TypeId) (k : Nat) (els : List PD)  : waD (.slice e) (.b (.imm k els)) (.d .nilslice) = wah (els ≠ []) (some false) := rfl
@[go_sem] theorem binV_eql6 (P : Program) (t : TypeId)  (k : Nat) (els : List PD) : wbI P .eql t (.d .nilslice) (.b (.imm k els)) = (wad P t).bind fun z => (waD z.desc (.d .nilslice) (.b (.imm k els))).map fun r => .d (.bool (r)) := rfl
@[go_sem] theorem binV_neq6 (P : Program) (t : TypeId)  (k : Nat) (els : List PD) : wbI P .neq t (.d .nilslice) (.b (.imm k els)) = (wad P t).bind fun z => (waD z.desc (.d .nilslice) (.b (.imm k els))).map fun r => .d (.bool (!r)) := rfl
@[go_sem] theorem nilEq_6 (e : TypeId)  (k : Nat) (els : List PD) : waD (.slice e) (.d .nilslice) (.b (.imm k els)) = wah (els ≠ []) (some false) := rfl
@[go_sem] theorem binV_eql7 (P : Program) (t : TypeId)   : wbI P .eql t (.d .nilptr) (.d .nilptr) = (wad P t).bind fun z => (waD z.desc (.d .nilptr) (.d .nilptr)).map fun r => .d (.bool (r)) := rfl
@[go_sem] theorem binV_neq7 (P : Program) (t : TypeId)   : wbI P .neq t (.d .nilptr) (.d .nilptr) = (wad P t).bind fun z => (waD z.desc (.d .nilptr) (.d .nilptr)).map fun r => .d (.bool (!r)) := rfl
@[go_sem] theorem nilEq_7 (e : TypeId)   : waD (.pointer e) (.d .nilptr) (.d .nilptr) = some true := rfl
@[go_sem] theorem binV_eql8 (P : Program) (t : TypeId) (r i o : Nat)  : wbI P .eql t (.ptr r i o) (.d .nilptr) = (wad P t).bind fun z => (waD z.desc (.ptr r i o) (.d .nilptr)).map fun r => .d (.bool (r)) := rfl
@[go_sem] theorem binV_neq8 (P : Program) (t : TypeId) (r i o : Nat)  : wbI P .neq t (.ptr r i o) (.d .nilptr) = (wad P t).bind fun z => (waD z.desc (.ptr r i o) (.d .nilptr)).map fun r => .d (.bool (!r)) := rfl
@[go_sem] theorem nilEq_8 (e : TypeId) (r i o : Nat)  : waD (.pointer e) (.ptr r i o) (.d .nilptr) = some false := rfl
@[go_sem] theorem binV_eql9 (P : Program) (t : TypeId)  (r i o : Nat) : wbI P .eql t (.d .nilptr) (.ptr r i o) = (wad P t).bind fun z => (waD z.desc (.d .nilptr) (.ptr r i o)).map fun r => .d (.bool (r)) := rfl
@[go_sem] theorem binV_neq9 (P : Program) (t : TypeId)  (r i o : Nat) : wbI P .neq t (.d .nilptr) (.ptr r i o) = (wad P t).bind fun z => (waD z.desc (.d .nilptr) (.ptr r i o)).map fun r => .d (.bool (!r)) := rfl
@[go_sem] theorem nilEq_9 (e : TypeId)  (r i o : Nat) : waD (.pointer e) (.d .nilptr) (.ptr r i o) = some false := rfl
@[go_sem] theorem binV_eql10 (P : Program) (t : TypeId)   : wbI P .eql t (.d .nilfunc) (.d .nilfunc) = (wad P t).bind fun z => (waD z.desc (.d .nilfunc) (.d .nilfunc)).map fun r => .d (.bool (r)) := rfl
@[go_sem] theorem binV_neq10 (P : Program) (t : TypeId)   : wbI P .neq t (.d .nilfunc) (.d .nilfunc) = (wad P t).bind fun z => (waD z.desc (.d .nilfunc) (.d .nilfunc)).map fun r => .d (.bool (!r)) := rfl
@[go_sem] theorem nilEq_10 (d : TypeDesc) (hd : (match d with | .func .. => true | _ => false) = true)   : waD d (.d .nilfunc) (.d .nilfunc) = some true := by cases d <;> first | rfl | cases hd
@[go_sem] theorem binV_eql11 (P : Program) (t : TypeId) (f : Go.Fn) (l : List PV)  : wbI P .eql t (.func f l) (.d .nilfunc) = (wad P t).bind fun z => (waD z.desc (.func f l) (.d .nilfunc)).map fun r => .d (.bool (r)) := rfl
@[go_sem] theorem binV_neq11 (P : Program) (t : TypeId) (f : Go.Fn) (l : List PV)  : wbI P .neq t (.func f l) (.d .nilfunc) = (wad P t).bind fun z => (waD z.desc (.func f l) (.d .nilfunc)).map fun r => .d (.bool (!r)) := rfl
@[go_sem] theorem nilEq_11 (d : TypeDesc) (hd : (match d with | .func .. => true | _ => false) = true) (f : Go.Fn) (l : List PV)  : waD d (.func f l) (.d .nilfunc) = some false := by cases d <;> first | rfl | cases hd
@[go_sem] theorem binV_eql12 (P : Program) (t : TypeId)  (f : Go.Fn) (l : List PV) : wbI P .eql t (.d .nilfunc) (.func f l) = (wad P t).bind fun z => (waD z.desc (.d .nilfunc) (.func f l)).map fun r => .d (.bool (r)) := rfl
@[go_sem] theorem binV_neq12 (P : Program) (t : TypeId)  (f : Go.Fn) (l : List PV) : wbI P .neq t (.d .nilfunc) (.func f l) = (wad P t).bind fun z => (waD z.desc (.d .nilfunc) (.func f l)).map fun r => .d (.bool (!r)) := rfl
@[go_sem] theorem nilEq_12 (d : TypeDesc) (hd : (match d with | .func .. => true | _ => false) = true)  (f : Go.Fn) (l : List PV) : waD d (.d .nilfunc) (.func f l) = some false := by cases d <;> first | rfl | cases hd
@[go_sem] theorem binV_eql13 (P : Program) (t : TypeId) (f : Go.Fn)  : wbI P .eql t (.d (.fn f)) (.d .nilfunc) = (wad P t).bind fun z => (waD z.desc (.d (.fn f)) (.d .nilfunc)).map fun r => .d (.bool (r)) := rfl
@[go_sem] theorem binV_neq13 (P : Program) (t : TypeId) (f : Go.Fn)  : wbI P .neq t (.d (.fn f)) (.d .nilfunc) = (wad P t).bind fun z => (waD z.desc (.d (.fn f)) (.d .nilfunc)).map fun r => .d (.bool (!r)) := rfl
@[go_sem] theorem nilEq_13 (d : TypeDesc) (hd : (match d with | .func .. => true | _ => false) = true) (f : Go.Fn)  : waD d (.d (.fn f)) (.d .nilfunc) = some false := by cases d <;> first | rfl | cases hd
@[go_sem] theorem binV_eql14 (P : Program) (t : TypeId)  (f : Go.Fn) : wbI P .eql t (.d .nilfunc) (.d (.fn f)) = (wad P t).bind fun z => (waD z.desc (.d .nilfunc) (.d (.fn f))).map fun r => .d (.bool (r)) := rfl
@[go_sem] theorem binV_neq14 (P : Program) (t : TypeId)  (f : Go.Fn) : wbI P .neq t (.d .nilfunc) (.d (.fn f)) = (wad P t).bind fun z => (waD z.desc (.d .nilfunc) (.d (.fn f))).map fun r => .d (.bool (!r)) := rfl
@[go_sem] theorem nilEq_14 (d : TypeDesc) (hd : (match d with | .func .. => true | _ => false) = true)  (f : Go.Fn) : waD d (.d .nilfunc) (.d (.fn f)) = some false := by cases d <;> first | rfl | cases hd
@[go_sem] theorem binV_eql15 (P : Program) (t : TypeId) (a : Bool) (b : Bool) : wbI P .eql t (.d (.bool a)) (.d (.bool b)) = (wad P t).bind fun z => (waD z.desc (.d (.bool a)) (.d (.bool b))).map fun r => .d (.bool (r)) := rfl
@[go_sem] theorem binV_neq15 (P : Program) (t : TypeId) (a : Bool) (b : Bool) : wbI P .neq t (.d (.bool a)) (.d (.bool b)) = (wad P t).bind fun z => (waD z.desc (.d (.bool a)) (.d (.bool b))).map fun r => .d (.bool (!r)) := rfl
@[go_sem] theorem nilEq_15  (a : Bool) (b : Bool) : waD (.bool) (.d (.bool a)) (.d (.bool b)) = some (a == b) := rfl
@[go_sem] theorem lenV_str (s : ByteArray) : wiB .string (.d (.str s)) = some (s.size : Int) := rfl
@[go_sem] theorem lenV_nil (e : TypeId) : wiB (.slice e) (.d .nilslice) = some 0 := rfl
@[go_sem] theorem lenV_imm (e : TypeId) (k : Nat) (els : List PD) : wiB (.slice e) (.d (.imm k els)) = some (els.length : Int) := rfl
@[go_sem] theorem lenV_bimm (e : TypeId) (k : Nat) (els : List PD) : wiB (.slice e) (.b (.imm k els)) = some (els.length : Int) := rfl
@[go_sem] theorem lenV_slc (e : TypeId) (r lo n : Nat) : wiB (.slice e) (.slc r lo n) = some (n : Int) := rfl
@[go_sem] theorem elemLoad_0 (P : Program) (t : TypeId) (b : Bool) (off : Nat) : waA P t (.d (.bool b)) off = match wad P t with | none => none | some y => if waS y.desc = true then none else if off = 0 then some (.d (.bool b)) else none := rfl
@[go_sem] theorem elemLoad_1 (P : Program) (t : TypeId) (k : IntKind) (n : Int) (off : Nat) : waA P t (.d (.int k n)) off = match wad P t with | none => none | some y => if waS y.desc = true then none else if off = 0 then some (.d (.int k n)) else none := rfl
@[go_sem] theorem elemLoad_2 (P : Program) (t : TypeId) (s : ByteArray) (off : Nat) : waA P t (.d (.str s)) off = match wad P t with | none => none | some y => if waS y.desc = true then none else if off = 0 then some (.d (.str s)) else none := rfl
@[go_sem] theorem elemLoad_3 (P : Program) (t : TypeId)  (off : Nat) : waA P t (.d .nilptr) off = match wad P t with | none => none | some y => if waS y.desc = true then none else if off = 0 then some (.d .nilptr) else none := rfl
@[go_sem] theorem elemLoad_4 (P : Program) (t : TypeId)  (off : Nat) : waA P t (.d .nilslice) off = match wad P t with | none => none | some y => if waS y.desc = true then none else if off = 0 then some (.d .nilslice) else none := rfl
@[go_sem] theorem elemLoad_5 (P : Program) (t : TypeId)  (off : Nat) : waA P t (.d .nilmap) off = match wad P t with | none => none | some y => if waS y.desc = true then none else if off = 0 then some (.d .nilmap) else none := rfl
@[go_sem] theorem elemLoad_6 (P : Program) (t : TypeId)  (off : Nat) : waA P t (.d .nilfunc) off = match wad P t with | none => none | some y => if waS y.desc = true then none else if off = 0 then some (.d .nilfunc) else none := rfl
@[go_sem] theorem elemLoad_7 (P : Program) (t : TypeId)  (off : Nat) : waA P t (.d .niliface) off = match wad P t with | none => none | some y => if waS y.desc = true then none else if off = 0 then some (.d .niliface) else none := rfl
@[go_sem] theorem elemLoad_8 (P : Program) (t : TypeId) (f : Go.Fn) (off : Nat) : waA P t (.d (.fn f)) off = match wad P t with | none => none | some y => if waS y.desc = true then none else if off = 0 then some (.d (.fn f)) else none := rfl
@[go_sem] theorem elemLoad_9 (P : Program) (t : TypeId) (k : Nat) (l : List PD) (off : Nat) : waA P t (.d (.imm k l)) off = match wad P t with | none => none | some y => if waS y.desc = true then none else if off = 0 then some (.d (.imm k l)) else none := rfl
@[go_sem] theorem elemLoad_10 (P : Program) (t : TypeId) (u : TypeId) (x : PD) (off : Nat) : waA P t (.d (.iface u x)) off = match wad P t with | none => none | some y => if waS y.desc = true then none else if off = 0 then some (.d (.iface u x)) else none := rfl
@[go_sem] theorem elemLoad_11 (P : Program) (t : TypeId) (b : Bool) (off : Nat) : waA P t (.b (.bool b)) off = match wad P t with | none => none | some y => if waS y.desc = true then none else if off = 0 then some (.b (.bool b)) else none := rfl
@[go_sem] theorem elemLoad_12 (P : Program) (t : TypeId) (k : IntKind) (n : Int) (off : Nat) : waA P t (.b (.int k n)) off = match wad P t with | none => none | some y => if waS y.desc = true then none else if off = 0 then some (.b (.int k n)) else none := rfl
@[go_sem] theorem elemLoad_13 (P : Program) (t : TypeId) (s : ByteArray) (off : Nat) : waA P t (.b (.str s)) off = match wad P t with | none => none | some y => if waS y.desc = true then none else if off = 0 then some (.b (.str s)) else none := rfl
@[go_sem] theorem elemLoad_14 (P : Program) (t : TypeId) (k : Nat) (l : List PD) (off : Nat) : waA P t (.b (.imm k l)) off = match wad P t with | none => none | some y => if waS y.desc = true then none else if off = 0 then some (.b (.imm k l)) else none := rfl
@[go_sem] theorem elemLoad_15 (P : Program) (t : TypeId) (u : TypeId) (x : PD) (off : Nat) : waA P t (.b (.iface u x)) off = match wad P t with | none => none | some y => if waS y.desc = true then none else if off = 0 then some (.b (.iface u x)) else none := rfl
@[go_sem] theorem elemLoad_16 (P : Program) (t : TypeId)  (off : Nat) : waA P t (.b .nilslice) off = match wad P t with | none => none | some y => if waS y.desc = true then none else if off = 0 then some (.b .nilslice) else none := rfl
@[go_sem] theorem elemLoad_17 (P : Program) (t : TypeId) (r i o : Nat) (off : Nat) : waA P t (.ptr r i o) off = match wad P t with | none => none | some y => if waS y.desc = true then none else if off = 0 then some (.ptr r i o) else none := rfl
@[go_sem] theorem elemLoad_18 (P : Program) (t : TypeId) (k : Nat) (l : List PD) (i o : Nat) (off : Nat) : waA P t (.dptr k l i o) off = match wad P t with | none => none | some y => if waS y.desc = true then none else if off = 0 then some (.dptr k l i o) else none := rfl
@[go_sem] theorem elemLoad_19 (P : Program) (t : TypeId) (k : Nat) (l : List PD) (i o : Nat) (off : Nat) : waA P t (.bptr k l i o) off = match wad P t with | none => none | some y => if waS y.desc = true then none else if off = 0 then some (.bptr k l i o) else none := rfl
@[go_sem] theorem elemLoad_20 (P : Program) (t : TypeId) (g : Nat) (off : Nat) : waA P t (.glob g) off = match wad P t with | none => none | some y => if waS y.desc = true then none else if off = 0 then some (.glob g) else none := rfl
@[go_sem] theorem elemLoad_V (P : Program) (t : TypeId) (v : Value) (off : Nat) : waA P t (.val v) off = match wad P t with | none => none | some y => if waS y.desc = true then none else if off = 0 then some (.val v) else none := rfl
@[go_sem] theorem elemLoad_21 (P : Program) (t : TypeId) (r lo n : Nat) (off : Nat) : waA P t (.slc r lo n) off = match wad P t with | none => none | some y => if waS y.desc = true then none else if off = 0 then some (.slc r lo n) else none := rfl
@[go_sem] theorem elemLoad_22 (P : Program) (t : TypeId) (f : Go.Fn) (l : List PV) (off : Nat) : waA P t (.func f l) off = match wad P t with | none => none | some y => if waS y.desc = true then none else if off = 0 then some (.func f l) else none := rfl
@[go_sem] theorem elemLoad_23 (P : Program) (t : TypeId) (r : Nat) (off : Nat) : waA P t (.mp r) off = match wad P t with | none => none | some y => if waS y.desc = true then none else if off = 0 then some (.mp r) else none := rfl
@[go_sem] theorem elemLoad_a0 (P : Program) (t : TypeId) (cs : List PD) (off : Nat) : waA P t (.d (.agg cs)) off = match wad P t with | none => none | some y => if waS y.desc = true then (if off + y.size ≤ cs.length then some (.d (.agg ((cs.drop off).take y.size))) else none) else (cs[off]?).map .d := rfl
@[go_sem] theorem elemLoad_a1 (P : Program) (t : TypeId) (cs : List PD) (off : Nat) : waA P t (.b (.agg cs)) off = match wad P t with | none => none | some y => if waS y.desc = true then (if off + y.size ≤ cs.length then some (.b (.agg ((cs.drop off).take y.size))) else none) else (cs[off]?).map mkB := rfl
@[go_sem] theorem elemLoad_a2 (P : Program) (t : TypeId) (cs : List PV) (off : Nat) : waA P t (.agg cs) off = match wad P t with | none => none | some y => if waS y.desc = true then (if off + y.size ≤ cs.length then some (.agg ((cs.drop off).take y.size)) else none) else cs[off]? := rfl
def dl (l : List PD) : List PV := l.map .d
@[go_sem] theorem dl_length (l : List PD) : (dl l).length = l.length := by simp [dl]
@[go_sem] theorem dl_kill (r : Nat) (l : List PD) : killL r (dl l) = dl l := by
 rw [wbP]; simp only [dl, List.map_map]; rfl
@[go_sem] theorem dl_allD (l : List PD) : wfv (dl l) = some l := wlT l
@[go_sem] theorem dl_refs (H : wac) (l : List PD) : refsInL H (dl l) = True := wil H l
@[go_sem] theorem dl_get (l : List PD) (i : Nat) : (dl l)[i]? = (l[i]?).map .d := by simp [dl]
theorem wsA : dl [] = [] := rfl
theorem wi1 (x : PD) (l : List PD) : dl (x :: l) = .d x :: dl l := rfl
@[go_sem] theorem map_d (l : List PD) : l.map PV.d = dl l := rfl
@[go_sem] theorem rep_d (n : Nat) (x : PD) : List.replicate n (PV.d x) = dl (List.replicate n x) := by simp [dl]
@[go_sem] theorem dl_drop (l : List PD) (n : Nat) : (dl l).drop n = dl (l.drop n) := by simp [dl, List.map_drop]
@[go_sem] theorem dl_take (l : List PD) (n : Nat) : (dl l).take n = dl (l.take n) := by simp [dl, List.map_take]
@[go_sem] theorem dl_set (l : List PD) (i : Nat) (x : PD) : (dl l).set i (.d x) = dl (l.set i x) := by simp [dl, List.map_set]
def ints (l : List Int) : List PD := l.map (PD.int .i64)
@[go_sem] theorem ints_length (l : List Int) : (ints l).length = l.length := by simp [ints]
@[go_sem] theorem ints_get (l : List Int) (i : Nat) (h : i < l.length) : (ints l)[i]? = some (.int .i64 (l.getD i 0)) := by
 simp [ints, h, List.getD]
@[go_sem] theorem ints_drop (l : List Int) (n : Nat) : (ints l).drop n = ints (l.drop n) := by simp [ints, List.map_drop]
@[go_sem] theorem ints_take (l : List Int) (n : Nat) : (ints l).take n = ints (l.take n) := by simp [ints, List.map_take]
@[go_sem] theorem ints_nil_iff (l : List Int) : ints l = [] ↔ l = [] := by simp [ints]
@[go_sem] theorem ints_set (l : List Int) (i : Nat) (x : Int) : (ints l).set i (.int .i64 x) = ints (l.set i x) := by simp [ints, List.map_set]
@[go_sem] theorem ints_rep (n : Nat) (x : Int) : List.replicate n (PD.int .i64 x) = ints (List.replicate n x) := by simp [ints]
@[go_sem] theorem dl_ints_snoc (l : List Int) (x : Int) : dl (ints l) ++ [.d (.int .i64 x)] = dl (ints (l ++ [x])) := by simp [dl, ints]
@[go_sem] theorem dl_ints_app (l m : List Int) : dl (ints l) ++ dl (ints m) = dl (ints (l ++ m)) := by simp [dl, ints]
@[go_sem] theorem dl_ints_nil : dl (ints []) = [] := rfl
theorem wal {x : Int} (h : -9223372036854775808 ≤ x ∧ x ≤ 9223372036854775807) : IntKind.i64.wrap x = x := by
 rw [IntKind.wrap_i64]; omega
section
variable {P : Program} {G : List (Nat × PD)} {ro : Option Nat} {N : Nat} {σ τ : St}
theorem AWp.seqI {ι : Type} {x y : Code} {Q : Post} (T : ι → St) (p : ι → Prop) (h1 : AWp P G ro N x σ (Post.then (fun σ' => ∃ i, p i ∧ Sub G N σ' (T i)) Q)) (h2 : ∀ i, p i → AWp P G ro N y (T i) Q) : AWp P G ro N (.seq x y) σ Q := by
 refine AWp.seq fun K hK => h1.mono fun e σ' he => ?_
 cases e with
 | normal => obtain ⟨i, hp, hs⟩ := he; exact hK _ (AWp.sub hs (h2 i hp))
 | _ => exact he
theorem AWp.seqT {x y : Code} {Q : Post} (τ : St) (h1 : AWp P G ro N x σ (Post.then (fun σ' => Sub G N σ' τ) Q)) (h2 : AWp P G ro N y τ Q) : AWp P G ro N (.seq x y) σ Q :=
 AWp.seqI (fun _ : Unit => τ) (fun _ => True) (h1.mono fun e σ' he => by cases e <;> first | exact ⟨(), trivial, he⟩ | exact he) (fun _ _ => h2)
theorem Sub.void (t e k : Nat) (r : Nat) (ht : wam σ.env t = .d .nilslice) (hr0 : waa σ.heap r = none) (hr : 1000 ≤ r) (hk : 1 ≤ k) : Sub G N σ { env := wcK σ.env t (.slc r 0 0), heap := waj σ.heap r { e, k, els := [] }, dfr := σ.dfr, gh := σ.gh } := by
 intro P B a w φ hrep
 have hne : ∀ s y, waa σ.heap s = some y → s ≠ r := fun s y h he => by rw [he, hr0] at h; cases h
 have hrow : ∀ b, waC (upd φ r none) (waj σ.heap r { e, k, els := [] }) b → waC φ σ.heap b := by
  rintro b ⟨s, y, h1, h2⟩
  rw [wag] at h1
  by_cases hs : s = r
  ·subst hs; simp [upd] at h2
  ·rw [if_neg (Ne.symm hs)] at h1; simp only [upd, hs, if_false] at h2; exact ⟨s, y, h1, h2⟩
 have hown : ∀ b, own (upd φ r none) (waj σ.heap r { e, k, els := [] }) b → own φ σ.heap b := fun b h => h.imp (hrow b) id
 have hext : Ext w B.X φ σ.heap w (upd φ r none) (waj σ.heap r { e, k, els := [] }) :=
  ⟨fun s y h => ⟨y, by rw [wag, if_neg (Ne.symm (hne s y h))]; exact h, rfl, fun _ => rfl, by simp [upd, hne s y h]⟩, fun b h => ⟨h.1, h.2.1, fun ho => h.2.2 (hown b ho)⟩, fun b h => ⟨h.1, fun ho => h.2 (hown b ho)⟩, fun _ _ => rfl, fun s y b _ _ c e f hh => ⟨c, e, f, hh, rfl⟩⟩
 have hgetr : waa (waj σ.heap r { e, k, els := [] }) r = some { e, k, els := [] } := by rw [wag]; simp
 have hgets : ∀ s y, s ≠ r → waa (waj σ.heap r { e, k, els := [] }) s = some y → waa σ.heap s = some y := fun s y h hs => by rw [wag, if_neg (Ne.symm h)] at hs; exact hs
 refine ⟨upd φ r none, Rep.of_sit ⟨⟨fun s y b hs hb => ?_, fun s y hs hb => ?_, fun s t y z b hs ht hb hb' => ?_, fun b hT => ⟨(hrep.heap.far b hT).1, (hrep.heap.far b hT).2.1, fun h => (hrep.heap.far b hT).2.2 (hrow b h)⟩⟩, hrep.keeps, fun s y b hs hb => ?_, fun s y hs hp => ?_, fun s y b hs hp hb => ?_, ?_, hrep.tnew, wdW (w := w) (φ := φ) (H := σ.heap) hrep.inv rfl rfl rfl rfl (Nat.le_refl _) (fun _ _ _ => rfl) (fun b hb => .inl (hrow b hb))⟩ hrep.size (fun t' => ?_) (hrep.dfr.ext hext)⟩
 ·by_cases h : s = r
  ·subst h; simp [upd] at hb
  ·simp only [upd, h, if_false] at hb
   exact (hrep.heap.rows s y b (hgets s y h hs) hb).ext hext rfl
 ·by_cases h : s = r
  ·subst h; rw [hgetr] at hs; simp only [Option.some.injEq] at hs; subst hs; rfl
  ·simp only [upd, h, if_false] at hb; exact hrep.heap.void s y (hgets s y h hs) hb
 ·by_cases h : s = r
  ·subst h; simp [upd] at hb
  ·by_cases h' : t = r
   ·subst h'; simp [upd] at hb'
   ·simp only [upd, h, h', if_false] at hb hb'
    exact hrep.heap.inj s t y z b (hgets s y h hs) (hgets t z h' ht) hb hb'
 ·by_cases h : s = r
  ·subst h; simp [upd] at hb
  ·simp only [upd, h, if_false] at hb; exact hrep.new s y b (hgets s y h hs) hb
 ·have hlt : s < 1000 := by simpa [pinned] using hp
  have h : s ≠ r := by omega
  simp only [upd, h, if_false]
  exact hrep.pins s y (hgets s y h hs) hp
 ·have hlt : s < 1000 := by simpa [pinned] using hp
  have h : s ≠ r := by omega
  simp only [upd, h, if_false] at hb
  exact hrep.psz s y b (hgets s y h hs) hp hb
 ·exact hrep.glob.ext hext (fun g x hm => by obtain ⟨_, _, _, _, _, h2, _⟩ := hrep.glob g x hm; exact fun ho => h2 (hown g ho))
 ·simp only [wft]
  split
  ·rename_i h; subst h
   have := hrep.env t
   rw [ht] at this
   rw [wei (waL this)]
   exact .slc0 hgetr (by simp [upd]) hk (by simp)
  ·exact (hrep.env t').ext hext
end
end Go.Pv

namespace Go.Pv
inductive Key where
 | t (n : Nat)
 | h (n : Nat)
 deriving DecidableEq
inductive Cont where
 | v (p : PV)
 | r (x : Option Row)
abbrev SF := Key → Cont
def St.look (σ : St) : SF
 | .t n => .v (wam σ.env n)
 | .h n => .r (waa σ.heap n)
abbrev Eff := List (Key × Cont)
def wdn : Eff → Key → Option Cont
 | [], _ => none
 | (k, c) :: l, k' => if k = k' then some c else wdn l k'
def SF.app (s : SF) (e : Eff) : SF := fun k => (wdn e k).getD (s k)
def wcf (e : Eff) : List Key := e.map (·.1)
theorem wqu {e : Eff} {k : Key} (h : k ∉ wcf e) : wdn e k = none := by
 induction e with
 | nil => rfl
 | cons x l ih =>
  obtain ⟨k', c⟩ := x
  simp only [wcf, List.map_cons, List.mem_cons, not_or] at h
  simp only [wdn]
  rw [if_neg (Ne.symm h.1)]
  exact ih h.2
theorem wqv {e : Eff} {k : Key} (h : k ∈ wcf e) : ∃ c, wdn e k = some c := by
 induction e with
 | nil => simp [wcf] at h
 | cons x l ih =>
  obtain ⟨k', c⟩ := x
  simp only [wdn]
  by_cases hk : k' = k
  ·exact ⟨c, if_pos hk⟩
  ·rw [if_neg hk]
   simp only [wcf, List.map_cons, List.mem_cons] at h
   exact ih (h.resolve_left (Ne.symm hk))
theorem weo {s : SF} {e : Eff} {k : Key} (h : k ∉ wcf e) : s.app e k = s k := by simp [SF.app, wqu h]
theorem wjr {s s' : SF} {e : Eff} {k : Key} (h : k ∈ wcf e) : s.app e k = s'.app e k := by
 obtain ⟨c, hc⟩ := wqv h
 simp [SF.app, hc]
def wbl (s0 : SF) (E : Nat → Eff) (D : Nat → Bool) : Nat → SF
 | 0 => s0
 | i + 1 => if D i then (wbl s0 E D i).app (E i) else wbl s0 E D i
section
variable {s0 : SF} {E : Nat → Eff} {n : Nat} {pre : Nat → Nat → Prop} {rd : Nat → Key → Prop}
structure Ordered (n : Nat) (E : Nat → Eff) (rd : Nat → Key → Prop) (pre : Nat → Nat → Prop) : Prop where
 lt : ∀ i j, pre i j → i < j
 apart : ∀ i j, i < j → j < n → pre i j ∨ ((∀ k, k ∈ wcf (E i) → ¬ rd j k ∧ k ∉ wcf (E j)) ∧ ∀ k, k ∈ wcf (E j) → ¬ rd i k)
theorem wqw (D : Nat → Bool) {j : Nat} (hDj : D j = false) {k : Key} (h : ∀ i, i < n → i ≠ j → k ∈ wcf (E i) → (D i = true ↔ i < j)) (hj : j < n) : wbl s0 E D n k = wbl s0 E (fun _ => true) j k := by
  have h1 : ∀ m, m ≤ j → wbl s0 E D m k = wbl s0 E (fun _ => true) m k := by
    intro m
    induction m with
    | zero => intro _; rfl
    | succ m ih =>
      intro hm
      simp only [wbl, if_true]
      by_cases hk : k ∈ wcf (E m)
      · have := (h m (by omega) (by omega) hk).2 (by omega)
        rw [if_pos this]
        exact wjr hk
      · rw [weo hk, ← ih (by omega)]
        split
        · exact weo hk
        · rfl
  have h2 : ∀ m, j ≤ m → m ≤ n → wbl s0 E D m k = wbl s0 E D j k := by
    intro m
    induction m with
    | zero => intro h _; have : j = 0 := by omega
              subst this; rfl
    | succ m ih =>
      intro hm hmn
      by_cases hjm : j = m + 1
      · subst hjm; rfl
      · simp only [wbl]
        by_cases hDm : D m = true
        · rw [if_pos hDm]
          have hmj : m ≠ j := fun e => by rw [e, hDj] at hDm; cases hDm
          have hk : k ∉ wcf (E m) := fun hk => by
            have := (h m (by omega) hmj hk).1 hDm; omega
          rw [weo hk]
          exact ih (by omega) (by omega)
        · rw [if_neg hDm]; exact ih (by omega) (by omega)
  rw [h2 n (by omega) (Nat.le_refl _), h1 j (Nat.le_refl _)]
theorem wrG (ho : Ordered n E rd pre) (D : Nat → Bool) (hcl : ∀ i j, pre i j → D j = true → D i = true) {j : Nat} (hj : j < n) (hDj : D j = false) (hpre : ∀ i, pre i j → D i = true) :
  wbl s0 E (fun i => D i || decide (i = j)) n = (wbl s0 E D n).app (E j) := by
 funext k
 have hcmp : ∀ i, i < n → i ≠ j → D i = true → j < i → k ∈ wcf (E j) → k ∉ wcf (E i) := fun i hi hne hDi hlt hk => by
  rcases ho.apart j i hlt hi with h | h
  ·have := hcl j i h hDi; rw [hDj] at this; cases this
  ·exact (h.1 k hk).2
 have h1 : ∀ m, m ≤ j → wbl s0 E (fun i => D i || decide (i = j)) m k = wbl s0 E D m k := by
  intro m
  induction m with
  | zero => intro _; rfl
  | succ m ih =>
   intro hm
   simp only [wbl, show ¬ m = j by omega, decide_false, Bool.or_false]
   split
   ·simp only [SF.app, ih (by omega)]
   ·exact ih (by omega)
 have h2 : ∀ m, j + 1 ≤ m → m ≤ n → wbl s0 E (fun i => D i || decide (i = j)) m k = (wbl s0 E D m).app (E j) k := by
  intro m
  induction m with
  | zero => intro h; omega
  | succ m ih =>
   intro hm hmn
   by_cases hmj : m = j
   ·subst hmj
    simp only [wbl, decide_true, Bool.or_true, if_true, hDj, Bool.false_eq_true, if_false]
    by_cases hk : k ∈ wcf (E m)
    ·exact wjr hk
    ·rw [weo hk, weo hk, h1 m (Nat.le_refl _)]
   ·have ih := ih (by omega) (by omega)
    simp only [wbl, hmj, decide_false, Bool.or_false]
    by_cases hDm : D m = true
    ·rw [if_pos hDm, if_pos hDm]
     by_cases hkj : k ∈ wcf (E j)
     ·have hkm := hcmp m (by omega) hmj hDm (by omega) hkj
      rw [weo hkm, ih]
      exact wjr hkj
     ·rw [weo hkj] at ih ⊢
      by_cases hkm : k ∈ wcf (E m)
      ·exact wjr hkm
      ·rw [weo hkm, weo hkm, ih]
    ·rw [if_neg hDm, if_neg hDm]; exact ih
 exact h2 n (by omega) (Nat.le_refl _)
theorem wqx (ho : Ordered n E rd pre) (D : Nat → Bool) (hcl : ∀ i j, pre i j → D j = true → D i = true) {j : Nat} (hj : j < n) (hDj : D j = false) (hpre : ∀ i, pre i j → D i = true) {k : Key} (hk : rd j k) :
  wbl s0 E D n k = wbl s0 E (fun _ => true) j k := by
 refine wqw D hDj (fun i hi hne hki => ?_) hj
 constructor
 ·intro hDi
  rcases Nat.lt_or_gt_of_ne hne with h | h
  ·exact h
  ·rcases ho.apart j i h hi with h' | h'
   ·have := hcl j i h' hDi; rw [hDj] at this; cases this
   ·exact absurd hk (h'.2 k hki)
 ·intro hlt
  rcases ho.apart i j hlt hj with h | h
  ·exact hpre i h
  ·exact absurd hk (h.1 k hki).1
theorem woK (D : Nat → Bool) : ∀ m, (∀ i, i < m → D i = true) → wbl s0 E D m = wbl s0 E (fun _ => true) m
 | 0, _ => rfl
 | m + 1, h => by simp only [wbl, h m (by omega), if_true, woK D m (fun i hi => h i (by omega))]
end
def St.rest (σ : St) : List PV × Gh := (σ.dfr, σ.gh)
mutual
def rowsOf : PV → List Nat
 | .ptr r _ _ => [r]
 | .slc r _ _ => [r]
 | .mp r => [r]
 | .func _ l => rowsOfL l
 | .agg l => rowsOfL l
 | .tuple l => rowsOfL l
 | .any => []
 | .d _ => []
 | .b _ => []
 | .dptr _ _ _ _ => []
 | .bptr _ _ _ _ => []
 | .glob _ => []
 | .val _ => []
def rowsOfL : List PV → List Nat
 | [] => []
 | p :: l => rowsOf p ++ rowsOfL l
end
theorem wdB {l : List PV} {i : Nat} (hi : i < l.length) {r : Nat} (h : r ∈ rowsOf l[i]) : r ∈ rowsOfL l := by
 induction l generalizing i with
 | nil => simp at hi
 | cons p l ih =>
  simp only [rowsOfL, List.mem_append]
  cases i with
  | zero => exact .inl h
  | succ i => exact .inr (ih (by simpa using hi) (by simpa using h))
def Cont.rows : Cont → List Nat
 | .v p => rowsOf p
 | .r (some x) => rowsOfL x.els
 | .r none => []
abbrev Exc := List (Nat × List Nat)
def Key.among : Key → List Nat → Bool
 | .t n, S => S.contains n
 | .h n, S => S.contains (n + 1000000)
def exOk : Exc → Key → Cont → Prop
 | [], _, _ => True
 | (r, S) :: l, k, c => (k.among S = true ∨ c.rows.contains r = false) ∧ exOk l k c
def exE (xs : Exc) : Eff → Prop
 | [] => True
 | (k, c) :: l => exOk xs k c ∧ exE xs l
theorem wp0 {xs : Exc} : ∀ {e : Eff}, exE xs e → ∀ k c, wdn e k = some c → exOk xs k c
 | (k', c') :: l, h, k, c, hf => by
  simp only [wdn] at hf
  split at hf
  ·rename_i hk; subst hk; simp only [Option.some.injEq] at hf; subst hf; exact h.1
  ·exact wp0 h.2 k c hf
theorem wp1 {xs : Exc} {s0 : SF} {E : Nat → Eff} {D : Nat → Bool} (h0 : ∀ k, exOk xs k (s0 k)) : ∀ n, (∀ i, i < n → exE xs (E i)) → ∀ k, exOk xs k (wbl s0 E D n k)
 | 0, _, k => h0 k
 | n + 1, h, k => by
  have ih := wp1 (D := D) h0 n (fun i hi => h i (by omega)) k
  simp only [wbl]
  split
  ·simp only [SF.app]
   cases hf : wdn (E n) k with
   | none => exact ih
   | some c => exact wp0 (h n (by omega)) k c hf
  ·exact ih
theorem wrH (k : Key) (c : Cont) : exOk [] k c = True := rfl
theorem wk6 (e : Eff) : exE [] e = True := by
 induction e with
 | nil => rfl
 | cons x l ih => obtain ⟨k, c⟩ := x; simp only [exE, wrH, ih, and_self]
def woL {P : Program} (G : List (Nat × PD)) (B : Base P) (N : Nat) (z : List PV × Gh) (s : SF) (a : Act) (w : World) : Prop := ∃ σ φ, σ.rest = z ∧ σ.look = s ∧ Rep G B N σ a w φ
def Loc (P : Program) (G : List (Nat × PD)) (ro : Option Nat) (N : Nat) (xs : Exc) (ops : Array Oper) (o : Oper) (rd : Key → Prop) (e : Eff) (z : List PV × Gh) (s : SF) : Prop :=
 ∀ s' : SF, (∀ k, rd k → s' k = s k) → (∀ k, exOk xs k (s' k)) → ∀ (B : Base P), B.ro = ro → ∀ a w, woL G B N z s' a w → ∀ (next : Act → World → Prop) (Q : Exit → Act → World → Prop), (∀ a' w', woL G B N z (s'.app e) a' w' → next a' w') →
  if Region.wanted o (yielded ops a.tmps) then o.wpIn (Fw ro) 0 P a w next Q else (∀ f, o.about P w a.eval = some f → (Fw ro).fn f) ∧ next (a.put o.dst undef) w
def wgQ (ops : Array Oper) (i j : Nat) : Prop := ∃ o, ops[j]? = some o ∧ ∃ e ∈ o.after.toList, Region.binds .any e = true ∧ e.on = i
inductive Prec (ops : Array Oper) : Nat → Nat → Prop
 | one {i j : Nat} (h : wgQ ops i j) : Prec ops i j
 | more {i k j : Nat} (h : wgQ ops k j) (h' : Prec ops i k) : Prec ops i j
section
variable {P : Program} {G : List (Nat × PD)} {ro : Option Nat} {N : Nat} {ops : Array Oper}
theorem Prec.lt (he : ∀ i j, wgQ ops i j → i < j) {i j : Nat} (h : Prec ops i j) : i < j := by
 induction h with
 | one h => exact he _ _ h
 | more h _ ih => exact Nat.lt_trans ih (he _ _ h)
theorem wjs (he : ∀ i j, wgQ ops i j → i < j) : ∀ listed : Array Bool, listed.size = ops.size → Region.ready .any ops listed = [] → ∀ i, i < ops.size → listed.getD i true = true := by
 intro listed hs hr i
 induction i using Nat.strongRecOn with
 | _ i ih =>
  intro hi
  cases hl : listed.getD i true with
  | true => rfl
  | false =>
   exfalso
   have : i ∈ Region.ready .any ops listed := by
    unfold Region.ready
    rw [List.mem_filter]
    refine ⟨by simpa using hi, ?_⟩
    simp only [hl, Bool.not_false, Bool.true_and, Array.getElem?_eq_getElem hi, Option.map_some, Option.getD_some]
    rw [Array.all_eq_true]
    intro m hm
    simp only [Bool.or_eq_true, Bool.not_eq_true']
    by_cases hb : Region.binds .any (ops[i].after[m]) = true
    ·right
     have hedge : wgQ ops (ops[i].after[m]).on i := ⟨ops[i], Array.getElem?_eq_getElem hi, ops[i].after[m], by simp, hb, rfl⟩
     have hlt := he _ _ hedge
     have := ih _ hlt (by omega)
     have hlt2 : (ops[i].after[m]).on < listed.size := by omega
     simpa [Array.getD, hlt2] using this
    ·left; simpa using hb
   rw [hr] at this
   simp at this
theorem whj (listed : Array Bool) {i : Nat} (hi : i ∈ Region.ready .any ops listed) : ∃ hi : i < ops.size, listed.getD i true = false ∧ ∀ k, wgQ ops k i → listed.getD k false = true := by
 unfold Region.ready at hi
 rw [List.mem_filter] at hi
 obtain ⟨h1, h2⟩ := hi
 have hi : i < ops.size := by simpa using h1
 simp only [Bool.and_eq_true, Bool.not_eq_true', Array.getElem?_eq_getElem hi, Option.map_some, Option.getD_some] at h2
 refine ⟨hi, h2.1, ?_⟩
 rintro k ⟨o, ho, e, hm, hb, rfl⟩
 rw [Array.getElem?_eq_getElem hi] at ho
 simp only [Option.some.injEq] at ho; subst ho
 have h3 := h2.2
 rw [Array.all_eq_true] at h3
 obtain ⟨m, hm1, rfl⟩ := List.getElem_of_mem hm
 have hm' : m < ops[i].after.size := by rw [← Array.length_toList]; exact hm1
 have := h3 m hm'
 simp only [Bool.or_eq_true, Bool.not_eq_true'] at this
 rcases this with h | h
 ·rw [show (ops[i].after.toList[m]) = ops[i].after[m]'hm' by simp] at hb
  rw [hb] at h; cases h
 ·simpa using h
theorem wjt (he : ∀ i j, wgQ ops i j → i < j) {listed : Array Bool} (hs : listed.size = ops.size) (hcl : ∀ i j, Prec ops i j → listed.getD j true = true → j < ops.size → listed.getD i true = true) {j : Nat} (hj : j ∈ Region.ready .any ops listed) :
  ∀ i, Prec ops i j → listed.getD i true = true := by
 obtain ⟨hj1, hj2, hj3⟩ := whj listed hj
 have hgd : ∀ k, k < ops.size → listed.getD k false = true → listed.getD k true = true := fun k hk h => by
  have : k < listed.size := by omega
  simpa [Array.getD, this] using h
 intro i h
 cases h with
 | one h => exact hgd i (by have := he _ _ h; omega) (hj3 i h)
 | more h h' =>
  rename_i k
  have hk := hgd k (by have := he _ _ h; omega) (hj3 k h)
  exact hcl i k h' hk (by have := he _ _ h; omega)
theorem wju {listed : Array Bool} (hs : listed.size = ops.size) {j : Nat} (hj1 : j < ops.size) : ∀ i, (listed.setIfInBounds j true).getD i true = (listed.getD i true || decide (i = j)) := fun i => by
 have hjs : j < listed.size := by omega
 by_cases hij : i = j
 ·subst hij; simp [Array.getD, hjs]
 ·simp only [hij, decide_false, Bool.or_false]
  simp [Array.getD_eq_getD_getElem?, Array.getElem?_setIfInBounds, Ne.symm hij]
theorem wpI {m : Nat} (he : ∀ i j, wgQ ops i j → i < j) (hch : ∀ j, m ≤ j → j < ops.size → ∀ i, i < j → Prec ops i j) {Q : Exit → Act → World → Prop} :
  ∀ (fuel j : Nat) (listed : Array Bool), m ≤ j → j ≤ ops.size → listed.size = ops.size → (∀ i, i < ops.size → (listed.getD i true = true ↔ i < j)) → ops.size - j ≤ fuel →
   ∀ a w, wpL (Fw ro) 0 P ops Q (ops.toList.drop j) a w → wpAnyIn (Fw ro) 0 P .any ops Q fuel listed a w := by
 intro fuel
 induction fuel with
 | zero =>
  intro j listed hm hj hs hl hf a w hw
  have hj : j = ops.size := by omega
  subst hj
  rw [List.drop_of_length_le (by simp)] at hw
  refine ⟨?_, hw⟩
  cases hr : Region.ready .any ops listed with
  | nil => rfl
  | cons x l =>
   obtain ⟨hi, h1, _⟩ := whj listed (i := x) (by rw [hr]; simp)
   rw [(hl x hi).2 hi] at h1; cases h1
 | succ fuel ih =>
  intro j listed hm hj hs hl hf a w hw
  refine ⟨fun hr => ?_, fun i hi => ?_⟩
  ·have hall := wjs he listed hs hr
   have : j = ops.size := by
    by_cases hjn : j < ops.size
    ·exact absurd ((hl j hjn).1 (hall j hjn)) (Nat.lt_irrefl _)
    ·omega
   subst this
   rw [List.drop_of_length_le (by simp)] at hw
   exact hw
  ·have hcl : ∀ i k, Prec ops i k → listed.getD k true = true → k < ops.size → listed.getD i true = true := fun i k h hk hkn => by
    have h1 := (hl k hkn).1 hk
    have h2 := h.lt he
    exact (hl i (by omega)).2 (by omega)
   have hp := wjt he hs hcl hi
   obtain ⟨hi1, hi2, _⟩ := whj listed hi
   have hge : ¬ i < j := fun h => by rw [(hl i hi1).2 h] at hi2; cases hi2
   have hij : i = j := by
    by_cases h : j < i
    ·have := hp j (hch i (by omega) hi1 j h)
     exact absurd ((hl j (by omega)).1 this) (Nat.lt_irrefl _)
    ·omega
   subst hij
   have hset := wju (ops := ops) hs hi1
   have hd : ops.toList.drop i = ops[i] :: ops.toList.drop (i + 1) := by
    rw [List.drop_eq_getElem_cons (by simpa using hi1)]; simp
   have hnext : ∀ a w, wpL (Fw ro) 0 P ops Q (ops.toList.drop (i + 1)) a w → wpAnyIn (Fw ro) 0 P .any ops Q fuel (listed.setIfInBounds i true) a w :=
    ih (i + 1) _ (by omega) (by omega) (by simpa using hs) (fun k hk => by
     rw [hset k, Bool.or_eq_true, decide_eq_true_eq, hl k hk]; omega) (by omega)
   rw [hd, wpL] at hw
   unfold wpOpIn
   simp only [Array.getElem?_eq_getElem hi1]
   split at hw
   ·rename_i hwant
    rw [if_pos hwant]
    exact Oper.wpIn_mono hnext hw
   ·rename_i hwant
    rw [if_neg hwant]
    exact ⟨hw.1, hnext _ _ hw.2⟩
theorem wnD (n j : Nat) (hj : j ≤ n) : (List.range n).countP (fun i => decide (i < j)) = j := by
 induction n with
 | zero => simp; omega
 | succ n ih =>
  rw [List.range_succ, List.countP_append]
  by_cases h : j ≤ n
  ·rw [ih h]; simp [show ¬ n < j by omega]
  ·have : j = n + 1 := by omega
   subst this
   have : (List.range n).countP (fun i => decide (i < n + 1)) = (List.range n).length := List.countP_eq_length.2 (fun i hi => by simp at hi ⊢; omega)
   rw [this]; simp
theorem wq6 {xs : Exc} {E : Nat → Eff} {rd : Nat → Key → Prop} {s0 : SF} {z : List PV × Gh} {b m : Nat} (hm : m ≤ ops.size) (ho : Ordered m E rd (Prec ops)) (he : ∀ i j, wgQ ops i j → i < j)
    (hloc : ∀ i (hi : i < ops.size), b ≤ i → i < m → Loc P G ro N xs ops ops[i] (rd i) (E i) z (wbl s0 E (fun _ => true) i)) (hch : ∀ j, m ≤ j → j < ops.size → ∀ i, i < m → Prec ops i j)
    {Q : Exit → Act → World → Prop} {B : Base P} (hx0 : ∀ k, exOk xs k (s0 k)) (hxE : ∀ i, i < m → exE xs (E i)) (hro : B.ro = ro)
    (hQ : ∀ (fuel : Nat) (listed : Array Bool), listed.size = ops.size → (∀ i, i < ops.size → (listed.getD i true = true ↔ i < m)) → ops.size - m ≤ fuel → ∀ a w, woL G B N z (wbl s0 E (fun _ => true) m) a w → wpAnyIn (Fw ro) 0 P .any ops Q fuel listed a w) :
    ∀ (fuel : Nat) (listed : Array Bool), listed.size = ops.size → (∀ i j, Prec ops i j → listed.getD j true = true → j < ops.size → listed.getD i true = true) → (∀ j, m ≤ j → j < ops.size → listed.getD j true = false) → (∀ i, i < b → listed.getD i true = true) →
      (ops.size - (List.range ops.size).countP (fun i => listed.getD i true) ≤ fuel) →
      ∀ a w, woL G B N z (wbl s0 E (fun i => listed.getD i true) m) a w → wpAnyIn (Fw ro) 0 P .any ops Q fuel listed a w := by
  -- once the first ones are done
  have hend : ∀ (fuel : Nat) (listed : Array Bool), listed.size = ops.size → (∀ j, m ≤ j → j < ops.size → listed.getD j true = false) → (ops.size - (List.range ops.size).countP (fun i => listed.getD i true) ≤ fuel) → (∀ i, i < m → listed.getD i true = true) →
      ∀ a w, woL G B N z (wbl s0 E (fun i => listed.getD i true) m) a w → wpAnyIn (Fw ro) 0 P .any ops Q fuel listed a w := by
    intro fuel listed hs hno hf hall a w hrep
    rw [woK _ _ hall] at hrep
    have hl : ∀ i, i < ops.size → (listed.getD i true = true ↔ i < m) := fun i hi => by
      refine ⟨fun h => ?_, hall i⟩
      by_cases him : i < m
      · exact him
      · rw [hno i (by omega) hi] at h; cases h
    refine hQ fuel listed hs hl ?_ a w hrep
    have hc : (List.range ops.size).countP (fun i => listed.getD i true) = m := by
      rw [← wnD ops.size m hm]
      exact List.countP_congr (fun i hi => by rw [hl i (by simpa using hi)]; simp)
    omega
  intro fuel
  induction fuel with
  | zero =>
    intro listed hs hcl hno hfirst hf a w hrep
    have hall : ∀ i, i < ops.size → listed.getD i true = true := by
      intro i hi
      have hc : (List.range ops.size).countP (fun i => listed.getD i true) = (List.range ops.size).length := by
        have := List.countP_le_length (p := fun i => listed.getD i true) (l := List.range ops.size)
        simp only [List.length_range] at this ⊢
        omega
      exact List.countP_eq_length.1 hc i (by simpa using hi)
    exact hend 0 listed hs hno hf (fun i hi => hall i (by omega)) a w hrep
  | succ fuel ih =>
    intro listed hs hcl hno hfirst hf a w hrep
    by_cases hpre : ∀ i, i < m → listed.getD i true = true
    · exact hend (fuel + 1) listed hs hno hf hpre a w hrep
    refine ⟨fun hr => absurd (fun i hi => wjs he listed hs hr i (by omega)) hpre, fun j hj => ?_⟩
    obtain ⟨hj1, hj2, hj3⟩ := whj listed hj
    have hp := wjt he hs hcl hj
    have hjm : j < m := by
      by_cases h : j < m
      · exact h
      · exact absurd (fun i hi => hp i (hch j (by omega) hj1 i hi)) hpre
    have hbj : b ≤ j := by
      rcases Nat.lt_or_ge j b with h | h
      · rw [hfirst j h] at hj2; cases hj2
      · exact h
    have hset := wju (ops := ops) hs hj1
    have hcl' : ∀ i k, Prec ops i k → (fun i => listed.getD i true) k = true → (fun i => listed.getD i true) i = true := fun i k h hk => by
      by_cases hks : k < ops.size
      · exact hcl i k h hk hks
      · exfalso
        have : ∃ o, ops[k]? = some o := by cases h with
          | one h => obtain ⟨o, ho, _⟩ := h; exact ⟨o, ho⟩
          | more h _ => obtain ⟨o, ho, _⟩ := h; exact ⟨o, ho⟩
        obtain ⟨o, ho⟩ := this
        exact hks (Array.getElem?_eq_some_iff.1 ho).1
    have hread : ∀ k, rd j k → wbl s0 E (fun i => listed.getD i true) m k = wbl s0 E (fun _ => true) j k := fun k hk =>
      wqx ho (fun i => listed.getD i true) hcl' hjm hj2 hp hk
    have hadd : wbl s0 E (fun i => listed.getD i true || decide (i = j)) m = (wbl s0 E (fun i => listed.getD i true) m).app (E j) :=
      wrG ho (fun i => listed.getD i true) hcl' hjm hj2 hp
    have hl := hloc j hj1 hbj hjm _ hread (wp1 hx0 m hxE) B hro a w hrep (wpAnyIn (Fw ro) 0 P .any ops Q fuel (listed.setIfInBounds j true)) Q (fun a' w' h => by
      refine ih _ (by simpa using hs) (fun i k hik hk hks => ?_) (fun k hk hks => ?_) (fun i hi => by rw [hset, hfirst i hi]; rfl) ?_ a' w' ?_
      · rw [hset] at hk ⊢
        simp only [Bool.or_eq_true, decide_eq_true_eq] at hk ⊢
        rcases hk with hk | rfl
        · exact .inl (hcl i k hik hk hks)
        · exact .inl (hp i hik)
      · rw [hset, hno k hk hks]; simp; omega
      · have hcount : (List.range ops.size).countP (fun i => listed.getD i true) < (List.range ops.size).countP (fun i => (listed.setIfInBounds j true).getD i true) := by
          have hmono : ∀ (l : List Nat), j ∈ l → l.countP (fun i => listed.getD i true) < l.countP (fun i => (listed.setIfInBounds j true).getD i true) := by
            have hle : ∀ (l : List Nat), l.countP (fun i => listed.getD i true) ≤ l.countP (fun i => (listed.setIfInBounds j true).getD i true) := fun l =>
              List.countP_mono_left (fun x _ hx => by simp only [hset, Bool.or_eq_true]; exact .inl hx)
            intro l
            induction l with
            | nil => intro h; simp at h
            | cons x l ihl =>
              intro h
              rw [List.countP_cons, List.countP_cons]
              by_cases hx : x = j
              · subst hx
                have e1 : (listed.setIfInBounds x true).getD x true = true := by rw [hset]; simp
                have := hle l
                simp only [hj2, Bool.false_eq_true, if_false, e1, if_true]
                omega
              · have := ihl (by simpa [Ne.symm hx] using h)
                have e2 : (listed.setIfInBounds j true).getD x true = listed.getD x true := by rw [hset]; simp [hx]
                rw [e2]; omega
          exact hmono _ (by simpa using hj1)
        omega
      · have e : (fun i => (listed.setIfInBounds j true).getD i true) = fun i => listed.getD i true || decide (i = j) := funext hset
        rw [e, hadd]; exact h)
    unfold wpOpIn
    simp only [Array.getElem?_eq_getElem hj1]
    exact hl
end
end Go.Pv

namespace Go.Pv
mutual
def valRows : PV → List Nat
 | .ptr r _ _ => [r]
 | .slc r _ _ => [r]
 | .mp r => [r]
 | .agg l => valRowsL l
 | .any => []
 | .d _ => []
 | .b _ => []
 | .dptr _ _ _ _ => []
 | .bptr _ _ _ _ => []
 | .glob _ => []
 | .val _ => []
 | .func _ _ => []
 | .tuple _ => []
def valRowsL : List PV → List Nat
 | [] => []
 | p :: l => valRows p ++ valRowsL l
end
def wjv : Option Operand → List Operand
 | some x => [x]
 | none => []
def waq : Op → List Operand
 | .move x => [x]
 | .assign x => [x]
 | .pick c a b => [c, a, b]
 | .binOp _ _ x y _ => [x, y]
 | .unOp _ _ x => [x]
 | .convert _ _ x => [x]
 | .fieldAddr _ x _ => [x]
 | .field _ x _ => [x]
 | .indexAddr _ x i => [x, i]
 | .extract x _ => [x]
 | .build _ parts => parts.toList.map (·.2)
 | .load _ x => [x]
 | .slice _ x lo hi none => x :: (wjv lo ++ wjv hi)
 | .makeFunc _ first captured => first.toList ++ captured.toList
 | .call c => c.args.toList
 | .nilCheck x => [x]
 | .makeInterface _ x => [x]
 | .box _ x => [x]
 | .makeSlice _ l c => [l, c]
 | .buildSlice _ _ parts => parts.toList.map (·.2)
 | .store _ ad x => [ad, x]
 | _ => []
def waF : List Operand → List Key
 | [] => []
 | .tmp t :: l => .t t :: waF l
 | .const _ :: l => waF l
 | .global _ :: l => waF l
 | .func _ :: l => waF l
def wcS (σ : St) : List Operand → List Key
 | [] => []
 | x :: l => (valRows (σ.eval x)).map .h ++ wcS σ l
section
variable {P : Program} {G : List (Nat × PD)} {σ σ' : St}
theorem wcp {l : List Operand} (h : ∀ k ∈ waF l, σ'.look k = σ.look k) : ∀ x ∈ l, σ'.eval x = σ.eval x := by
 induction l with
 | nil => intro x hx; cases hx
 | cons y l ih =>
  intro x hx
  have hl : ∀ k ∈ waF l, σ'.look k = σ.look k := fun k hk => h k (by cases y <;> simp [waF, hk])
  rcases List.mem_cons.1 hx with rfl | hx
  ·cases x with
   | tmp t =>
    have := h (.t t) (by simp [waF])
    simp only [St.look, Cont.v.injEq] at this
    exact this
   | _ => rfl
  ·exact ih hl x hx
theorem whG {l : List Operand} (h : ∀ k ∈ wcS σ l, σ'.look k = σ.look k) : ∀ x ∈ l, ∀ r ∈ valRows (σ.eval x), waa σ'.heap r = waa σ.heap r := by
 induction l with
 | nil => intro x hx; cases hx
 | cons y l ih =>
  intro x hx r hr
  rcases List.mem_cons.1 hx with rfl | hx
  ·have := h (.h r) (by simp only [wcS, List.mem_append, List.mem_map]; exact .inl ⟨r, hr, rfl⟩)
   simp only [St.look, Cont.r.injEq] at this
   exact this
  ·exact ih (fun k hk => h k (by simp [wcS, hk])) x hx r hr
theorem wbO : ∀ {l : List Operand}, (∀ x ∈ l, σ'.eval x = σ.eval x) → war σ' l = war σ l
 | [], _ => rfl
 | x :: l, h => by simp only [war]; rw [h x (by simp), wbO fun y hy => h y (by simp [hy])]
theorem wiC : ∀ {l : List (Nat × Operand)}, (∀ x ∈ l.map (·.2), σ'.eval x = σ.eval x) → whE σ' l = whE σ l
 | [], _ => rfl
 | (i, x) :: l, h => by simp only [whE]; rw [h x (by simp), wiC fun y hy => h y (by simp only [List.map_cons, List.mem_cons]; exact .inr hy)]
theorem wkv {o : Option Operand} (h : ∀ x ∈ wjv o, σ'.eval x = σ.eval x) : wfb σ' o = wfb σ o := by
 cases o with
 | none => rfl
 | some x => simp only [wfb]; rw [h x (by simp [wjv])]
theorem wpJ {H H' : wac} {t : TypeId} {p : PV} (h : ∀ r ∈ valRows p, waa H' r = waa H r) : wik P G H' t p = wik P G H t p := by
 cases p <;> try rfl
 rename_i r i off
 simp only [wik]; rw [h r (by simp [valRows])]
theorem woM {H H' : wac} {q : Nat} {lo hi : Option Int} {p : PV} (h : ∀ r ∈ valRows p, waa H' r = waa H r) : whQ q H' lo hi p = whQ q H lo hi p := by
 cases p with
 | slc r a n => simp only [whQ]; rw [h r (by simp [valRows])]
 | d x => cases x <;> rfl
 | b x => cases x <;> rfl
 | _ => rfl
theorem woe {H H' : wac} {n : Nat} {i : Int} {p : PV} (h : ∀ r ∈ valRows p, waa H' r = waa H r) : whM n H' i p = whM n H i p := by
 cases p with
 | slc r a n => simp only [whM]; rw [h r (by simp [valRows])]
 | d x => cases x <;> rfl
 | b x => cases x <;> rfl
 | _ => rfl
mutual
theorem frz_agree {H H' : wac} : ∀ (p : PV), (∀ r ∈ valRows p, waa H' r = waa H r) → frz H' p = frz H p
 | .slc r _ _, h => by simp only [frz]; rw [h r (by simp [valRows])]
 | .agg l, h => by simp only [frz]; rw [frzL_agree l (fun r hr => h r (by simpa [valRows] using hr))]
 | .any, _ => rfl
 | .d _, _ => rfl
 | .b _, _ => rfl
 | .ptr _ _ _, _ => rfl
 | .dptr _ _ _ _, _ => rfl
 | .bptr _ _ _ _, _ => rfl
 | .glob _, _ => rfl
 | .val _, _ => rfl
 | .func _ _, _ => rfl
 | .tuple _, _ => rfl
 | .mp _, _ => rfl
theorem frzL_agree {H H' : wac} : ∀ (l : List PV), (∀ r ∈ valRowsL l, waa H' r = waa H r) → frzL H' l = frzL H l
 | [], _ => rfl
 | p :: l, h => by
  simp only [frzL]
  rw [frz_agree p (fun r hr => h r (by simp [valRowsL, hr])), frzL_agree l (fun r hr => h r (by simp [valRowsL, hr]))]
end
theorem whU {H H' : wac} : ∀ {l m : List PV}, (∀ p ∈ l, ∀ r ∈ valRows p, waa H' r = waa H r) → wdF H l m → wdF H' l m
 | [], [], _, _ => trivial
 | p :: l, q :: m, h, ha => by
  refine ⟨?_, whU (fun p hp => h p (by simp [hp])) ha.2⟩
  have h1 := ha.1
  cases q with
  | b x =>
   rcases h1 with h1 | h1
   ·exact .inl h1
   ·exact .inr (by rw [frz_agree p (h p (by simp))]; exact h1)
  | _ => exact h1
 | [], _ :: _, _, h => h.elim
 | _ :: _, [], _, h => h.elim
theorem wkw {op : Op} (h : ∀ x ∈ waq op, σ'.eval x = σ.eval x) (hr : ∀ x ∈ waq op, ∀ r ∈ valRows (σ.eval x), waa σ'.heap r = waa σ.heap r) : wb7 P G σ' op = wb7 P G σ op := by
 cases op <;> try rfl
 all_goals simp only [waq, List.mem_cons, List.mem_append, List.not_mem_nil, or_false, forall_eq_or_imp, forall_eq] at h hr
 all_goals try (simp only [wb7]; simp only [h]; done)
 case indexAddr t x i =>
  simp only [wb7, whF, h.1, h.2]
  split <;> try rfl
  exact woe hr.1
 case build t parts =>
  simp only [wb7]; rw [wiC h]
 case load t x => simp only [wb7, h]; exact wpJ hr
 case slice t x lo hi mx =>
  cases mx with
  | some _ => rfl
  | none =>
   simp only [waq, List.mem_cons, List.mem_append, forall_eq_or_imp] at h hr
   simp only [wb7, wji, h.1, wkv fun x hx => h.2 x (.inl hx), wkv fun x hx => h.2 x (.inr hx)]
   split <;> try rfl
   exact woM hr.1
 case makeFunc fn first captured =>
  simp only [wb7]; rw [wbO fun x hx => h x (.inl hx), wbO fun x hx => h x (.inr hx)]
 case call c =>
  simp only [wb7, callV]
  split <;> try rfl
  rw [wbO h]
def wkx (σ : St) (op : Op) : List Key :=
 match op with
 | .load _ _ | .indexAddr _ _ _ | .slice _ _ _ _ _ => wcS σ (waq op)
 | _ => []
theorem wof {op : Op} (h : ∀ x ∈ waq op, σ'.eval x = σ.eval x) (hr : ∀ k ∈ wkx σ op, σ'.look k = σ.look k) : wb7 P G σ' op = wb7 P G σ op := by
 have key : (wkx σ op = wcS σ (waq op)) ∨ (∀ H, wb7 P G { σ' with heap := H } op = wb7 P G σ' op) := by
  have ev : ∀ H x, St.eval { σ' with heap := H } x = σ'.eval x := fun H x => by cases x <;> rfl
  cases op
  case build t parts => exact .inr fun H => by simp only [wb7]; rw [wiC (σ' := { σ' with heap := H }) (σ := σ') fun x _ => ev H x]
  case makeFunc a b c =>
   refine .inr fun H => ?_
   simp only [wb7]; rw [wbO (σ' := { σ' with heap := H }) (σ := σ') (fun x _ => ev H x), wbO (σ' := { σ' with heap := H }) (σ := σ') (fun x _ => ev H x)]
  case call c =>
   refine .inr fun H => ?_
   simp only [wb7, callV]; split <;> try rfl
   rw [wbO (σ' := { σ' with heap := H }) (σ := σ') (fun x _ => ev H x)]
  all_goals first | exact .inl rfl | exact .inr fun _ => rfl
 rcases key with e | e
 ·exact wkw h (whG (by rw [← e]; exact hr))
 ·rw [← e σ.heap]
  exact wkw (σ' := { σ' with heap := σ.heap }) (fun x hx => (by cases x <;> rfl : St.eval { σ' with heap := σ.heap } x = σ'.eval x).trans (h x hx)) (fun _ _ _ _ => rfl)
def wg8 (P : Program) (σ : St) (r : Nat) : Op → Option (Row × PV)
 | .alloc e => match wad P e with
  | some y => match wai y with
   | some p => some (weV e y.size p, .ptr r 0 0)
   | none => none
  | none => none
 | .box e x => match wad P e with
  | some y => match waz (σ.eval x) with
   | some l => if l.length = y.size ∧ 1 ≤ y.size then some (weV e y.size (σ.eval x), .ptr r 0 0) else none
   | none => none
  | none => none
 | .makeSlice t l c => match wbt P t, σ.eval l, σ.eval c with
  | some (e, z), .d (.int _ n), .d (.int _ m) => match wai z with
   | some zp => wah (0 ≤ n ∧ n ≤ m ∧ (z.bytes : Int) * m ≤ 281474976710656 ∧ m ≤ 9223372036854775807) (some ({ e, k := z.size, els := List.replicate n.toNat zp }, .slc r 0 n.toNat))
   | none => none
  | _, _, _ => none
 | .buildSlice t len parts => match wbt P t with
  | some (e, z) => if waf z = true ∧ weD 0 parts.toList = true ∧ parts.toList.length = len ∧ wgb z.size (war σ (parts.toList.map (·.2))) = true ∧ len * z.size ≤ 16777216 then
    some ({ e, k := z.size, els := war σ (parts.toList.map (·.2)) }, .slc r 0 len) else none
  | none => none
 | _ => none
def wgc (P : Program) (σ : St) : Op → Option (Nat × Row)
 | .store t ad x => match σ.eval ad with
  | .ptr r i off => match waa σ.heap r with
   | some row => match row.els[i]? with
    | some e => match wad P t, waz (σ.eval x), wd1 row.k e off (σ.eval x) with
     | some y, some l, some e' => if l.length = y.size then some (r, { row with els := row.els.set i e' }) else none
     | _, _, _ => none
    | none => none
   | none => none
  | _ => none
 | _ => none
theorem wpK {op : Op} {r : Nat} (h : ∀ x ∈ waq op, σ'.eval x = σ.eval x) : wg8 P σ' r op = wg8 P σ r op := by
 cases op <;> try rfl
 all_goals simp only [waq, List.mem_cons, List.not_mem_nil, or_false, forall_eq_or_imp, forall_eq] at h
 case box e x => simp only [wg8, h]
 case makeSlice t l c => simp only [wg8, h.1, h.2]
 case buildSlice t len parts => simp only [wg8]; rw [wbO h]
theorem wog {op : Op} {r : Nat} {x : Row} (h : ∀ x ∈ waq op, σ'.eval x = σ.eval x) (hs : wgc P σ op = some (r, x)) (hr : waa σ'.heap r = waa σ.heap r) : wgc P σ' op = some (r, x) := by
 unfold wgc at hs ⊢
 split at hs <;> try (simp at hs; done)
 rename_i t ad y
 simp only [waq, List.mem_cons, List.not_mem_nil, or_false, forall_eq_or_imp, forall_eq] at h
 simp only [h.1, h.2]
 split at hs <;> try (simp at hs; done)
 rename_i r1 i off ha
 have : r1 = r := by
  split at hs <;> try (simp at hs; done)
  split at hs <;> try (simp at hs; done)
  split at hs <;> try (simp at hs; done)
  split at hs <;> simp only [Option.some.injEq, Prod.mk.injEq, reduceCtorEq] at hs
  exact hs.1
 subst this
 rw [hr]; exact hs
variable {ro : Option Nat} {N : Nat} {o : Oper} {K : St → Prop}
theorem OpT.new {r : Nat} {x : Row} {p : PV} (h : wg8 P σ r o.op = some (x, p)) (hd : wan N o.dst) (hr0 : waa σ.heap r = none) (hp0 : 1000 ≤ r) (hK : K (({ σ with heap := waj σ.heap r x } : St).put o.dst p)) : OpT P G ro N o σ K := by
 unfold wg8 at h
 split at h <;> (try (simp at h; done)) <;> rename_i ho
 ·split at h <;> try (simp at h; done)
  rename_i y hy
  split at h <;> simp only [Option.some.injEq, Prod.mk.injEq, reduceCtorEq] at h
  rename_i q hq; obtain ⟨rfl, rfl⟩ := h
  obtain ⟨z, h1, h2, h3, h4⟩ := wfh hq
  exact OpT.alloc ho hy h1 h2 ⟨h3, h4⟩ hd hr0 hp0 hK
 ·split at h <;> try (simp at h; done)
  rename_i y hy
  split at h <;> try (simp at h; done)
  rename_i l hl
  split at h <;> simp only [Option.some.injEq, Prod.mk.injEq, reduceCtorEq] at h
  rename_i hc; obtain ⟨rfl, rfl⟩ := h
  exact OpT.box ho hy hl hc hd hr0 hp0 hK
 ·split at h <;> try (simp at h; done)
  rename_i e z kl n kc m hse hl hc
  split at h <;> try (simp at h; done)
  rename_i zp hzp
  obtain ⟨⟨h0, h1, h2, h3⟩, h⟩ := wae h
  simp only [Option.some.injEq, Prod.mk.injEq] at h; obtain ⟨rfl, rfl⟩ := h
  obtain ⟨y, hy, hde, he⟩ := wc7 hse
  obtain ⟨zv, h4, h5, h6, h7⟩ := wfh hzp
  exact OpT.makeSlice ho hy hde he h4 h5 h6 h7 hl hc h0 h1 h2 h3 hd hr0 hp0 hK
 ·split at h <;> try (simp at h; done)
  rename_i e z hse
  split at h <;> simp only [Option.some.injEq, Prod.mk.injEq, reduceCtorEq] at h
  rename_i hc; obtain ⟨rfl, rfl⟩ := h
  obtain ⟨h1, h2, h3, h4, h5⟩ := hc
  obtain ⟨y, hy, hde, he⟩ := wc7 hse
  obtain ⟨zv, h6, h7, h8⟩ := wfM h1
  exact OpT.buildSlice ho hy hde he h6 h7 h8 h2 h3 h4 h5 hd hr0 hp0 hK
theorem OpT.store1 {r : Nat} {x : Row} (h : wgc P σ o.op = some (r, x)) (hd : wan N o.dst) (hK : K (({ σ with heap := waj σ.heap r x } : St).put o.dst .any)) : OpT P G ro N o σ K := by
 unfold wgc at h
 split at h <;> (try (simp at h; done)) ; rename_i ho
 split at h <;> try (simp at h; done)
 rename_i r1 i off ha
 split at h <;> try (simp at h; done)
 rename_i row hx
 split at h <;> try (simp at h; done)
 rename_i e he
 split at h <;> try (simp at h; done)
 rename_i y l e' hy hl hs
 split at h <;> simp only [Option.some.injEq, Prod.mk.injEq, reduceCtorEq] at h
 rename_i hc; obtain ⟨rfl, rfl⟩ := h
 exact OpT.store ho hy ha hx he hs hl hc hd hK
end
abbrev Foot := Option (List Key × List Key)
def waN : Option Tmp → List Key
 | some d => [.t d]
 | none => []
def waJ (dst : Option Tmp) (v : PV) : Eff :=
 match dst with
 | some d => [(.t d, .v v)]
 | none => []
theorem wbd (σ : St) (dst : Option Tmp) (v : PV) : (σ.put dst v).look = σ.look.app (waJ dst v) := by
 funext k
 cases dst with
 | none => rfl
 | some d =>
  cases k with
  | t n =>
   simp only [St.put, St.look, waJ, SF.app, wdn, Key.t.injEq, wft]
   by_cases h : d = n
   ·simp [h]
   ·simp [h, St.look]
  | h n => simp [St.put, St.look, waJ, SF.app, wdn]
theorem wgR (σ : St) (r : Nat) (x : Row) (dst : Option Tmp) (v : PV) : (({ σ with heap := waj σ.heap r x } : St).put dst v).look = σ.look.app (waJ dst v ++ [(.h r, .r (some x))]) := by
 rw [wbd]
 funext k
 have e : ({ σ with heap := waj σ.heap r x } : St).look = σ.look.app [(.h r, .r (some x))] := by
  funext k
  cases k with
  | t n => simp [St.look, SF.app, wdn]
  | h n =>
   simp only [St.look, SF.app, wdn, Key.h.injEq, wag]
   by_cases h : r = n
   ·simp [h]
   ·simp [h, St.look]
 rw [e]
 cases dst with
 | none => rfl
 | some d =>
  simp only [waJ, SF.app, wdn, List.cons_append, List.nil_append]
  by_cases h : Key.t d = k
  ·simp [h]
  ·simp [h]
theorem wci (dst : Option Tmp) (v : PV) : wcf (waJ dst v) = waN dst := by cases dst <;> rfl
theorem St.put_rest (σ : St) (dst : Option Tmp) (v : PV) : (σ.put dst v).rest = σ.rest := by cases dst <;> rfl
end Go.Pv

namespace Go.Pv
def wq7 (ms : List Nat) (o : Oper) : Nat := o.after.toList.foldl (fun m e => if Region.binds .any e then m ||| (2 ^ e.on ||| ms.getD e.on 0) else m) 0
def wdI : List Oper → List Nat → List Nat
 | [], ms => ms
 | o :: l, ms => wdI l (ms ++ [wq7 ms o])
def wim (l m : List Key) : Bool := l.all fun k => !m.contains k
def whk : Foot → Foot → Bool
 | some (r, w), some (r', w') => wim w r' && wim w w' && wim w' r
 | _, _ => false
def wk7 (m : Nat) (f : Foot) : Nat → List Foot → Bool
 | _, [] => true
 | i, g :: l => (m.testBit i || whk g f) && wk7 m f (i + 1) l
def wgS : List Nat → List Foot → List Foot → Bool
 | m :: ms, seen, f :: l => wk7 m f 0 seen && wgS ms (seen ++ [f]) l
 | _, _, [] => true
 | [], _, _ :: _ => false
def weQ : Nat → List Oper → Bool
 | _, [] => true
 | i, o :: l => (o.after.toList.all fun e => !Region.binds .any e || decide (e.on < i)) && weQ (i + 1) l
def wgT (m : Nat) : Nat → List Nat → Bool
 | _, [] => true
 | j, x :: l => (decide (j < m) || (List.range j).all fun i => x.testBit i) && wgT m (j + 1) l
theorem wly {m : Nat} : ∀ {l : List Nat} {i : Nat}, wgT m i l = true → ∀ j, j < l.length → m ≤ i + j → ∀ k, k < i + j → (l.getD j 0).testBit k = true
 | x :: l, i, h, j, hj, hm, k, hk => by
  simp only [wgT, Bool.and_eq_true, Bool.or_eq_true, decide_eq_true_eq, List.all_eq_true, List.mem_range] at h
  cases j with
  | zero => exact (h.1.resolve_left (by omega)) k (by omega)
  | succ j => 
   have := wly h.2 j (by simpa using hj) (by omega) k (by omega)
   simpa using this
def woN (ops : List Oper) (fs : List Foot) : Bool := decide (fs.length ≤ ops.length) && weQ 0 ops && wgS (wdI ops []) [] fs && wgT fs.length 0 (wdI ops [])
def whV (m : Nat) : Nat → List Nat → Bool
 | _, [] => true
 | j, x :: l => (decide (j < m) || (List.range m).all fun i => x.testBit i) && whV m (j + 1) l
theorem wjw {m : Nat} : ∀ {l : List Nat} {i : Nat}, whV m i l = true → ∀ j, j < l.length → m ≤ i + j → ∀ k, k < m → (l.getD j 0).testBit k = true
 | x :: l, i, h, j, hj, hm, k, hk => by
  simp only [whV, Bool.and_eq_true, Bool.or_eq_true, decide_eq_true_eq, List.all_eq_true, List.mem_range] at h
  cases j with
  | zero => exact (h.1.resolve_left (by omega)) k hk
  | succ j =>
   have := wjw h.2 j (by simpa using hj) (by omega) k hk
   simpa using this
def wk8 (ops : List Oper) (fs : List Foot) : Bool := decide (fs.length ≤ ops.length) && weQ 0 ops && wgS (wdI ops []) [] fs && whV fs.length 0 (wdI ops [])
def wq8 (ops : List Oper) (m : Nat) : Bool := decide (m < ops.length) && weQ 0 ops && whV (m + 1) 0 (wdI ops [])
def wnf (ops : List Oper) (m : Nat) : Bool := weQ 0 ops && wgT m 0 (wdI ops [])
theorem wjZ : ∀ {l : List Oper} {i : Nat}, weQ i l = true → ∀ j (hj : j < l.length), ∀ e ∈ l[j].after.toList, Region.binds .any e = true → e.on < i + j
 | o :: l, i, h, j, hj, e, he, hb => by
  simp only [weQ, Bool.and_eq_true, List.all_eq_true] at h
  cases j with
  | zero =>
   have := h.1 e he
   simpa [hb] using this
  | succ j =>
   have := wjZ h.2 j (by simpa using hj) e (by simpa using he) hb
   omega
theorem wlz {m : Nat} {f : Foot} : ∀ {l : List Foot} {i : Nat}, wk7 m f i l = true → ∀ j (hj : j < l.length), m.testBit (i + j) = true ∨ whk l[j] f = true
 | g :: l, i, h, j, hj => by
  simp only [wk7, Bool.and_eq_true, Bool.or_eq_true] at h
  cases j with
  | zero => simpa using h.1
  | succ j =>
   have := wlz h.2 j (by simpa using hj)
   rw [show i + (j + 1) = i + 1 + j by omega]
   simpa using this
theorem wky : ∀ {ms : List Nat} {seen l : List Foot}, wgS ms seen l = true → ∀ j (hj : j < l.length), ∀ i (hi : i < seen.length + j),
  ((ms.getD j 0).testBit i = true ∨ whk ((seen ++ l)[i]'(by simp; omega)) l[j] = true)
 | m :: ms, seen, f :: l, h, j, hj, i, hi => by
  simp only [wgS, Bool.and_eq_true] at h
  cases j with
  | zero =>
   have := wlz h.1 i (by simpa using hi)
   rw [Nat.zero_add] at this
   rw [List.getElem_append_left (by simpa using hi)]
   simpa using this
  | succ j =>
   have := wky h.2 j (by simpa using hj) i (by simp; omega)
   simpa [List.append_assoc] using this
 | [], _, _ :: _, h, _, _, _, _ => by simp [wgS] at h
theorem wng {f g : Foot} (h : whk f g = true) : ∃ r w r' w', f = some (r, w) ∧ g = some (r', w') ∧ (∀ k ∈ w, k ∉ r' ∧ k ∉ w') ∧ ∀ k ∈ w', k ∉ r := by
 unfold whk at h
 split at h <;> try (simp at h; done)
 rename_i r w r' w'
 simp only [wim, Bool.and_eq_true, List.all_eq_true, Bool.not_eq_true', List.contains_eq_mem, decide_eq_false_iff_not] at h
 exact ⟨r, w, r', w', rfl, rfl, fun k hk => ⟨h.1.1 k hk, h.1.2 k hk⟩, h.2⟩
theorem wkz {ms : List Nat} {i : Nat} : ∀ (l : List Edge) (m : Nat), (l.foldl (fun m e => if Region.binds .any e then m ||| (2 ^ e.on ||| ms.getD e.on 0) else m) m).testBit i = true →
  m.testBit i = true ∨ ∃ e ∈ l, Region.binds .any e = true ∧ (e.on = i ∨ (ms.getD e.on 0).testBit i = true)
 | [], m, h => .inl h
 | e :: l, m, h => by
  simp only [List.foldl_cons] at h
  rcases wkz l _ h with h | ⟨e', h1, h2, h3⟩
  ·split at h
   ·rename_i hb
    simp only [Nat.testBit_or, Bool.or_eq_true, Nat.testBit_two_pow, decide_eq_true_eq] at h
    rcases h with h | h | h
    ·exact .inl h
    ·exact .inr ⟨e, by simp, hb, .inl h⟩
    ·exact .inr ⟨e, by simp, hb, .inr h⟩
   ·exact .inl h
  ·exact .inr ⟨e', by simp [h1], h2, h3⟩
theorem weu : ∀ (l : List Oper) (ms : List Nat), (wdI l ms).length = ms.length + l.length
 | [], ms => rfl
 | o :: l, ms => by simp only [wdI, weu l, List.length_append, List.length_cons, List.length_nil]; omega
theorem wmf {ops : Array Oper} : ∀ (l : List Oper) (ms : List Nat), (∃ pre, ops.toList = pre ++ l ∧ pre.length = ms.length) → (∀ j i, j < ms.length → (ms.getD j 0).testBit i = true → Prec ops i j) →
  ∀ j i, j < (wdI l ms).length → ((wdI l ms).getD j 0).testBit i = true → Prec ops i j
 | [], ms, _, h => h
 | o :: l, ms, ⟨pre, h1, h2⟩, h => by
  refine wmf l _ ⟨pre ++ [o], by rw [h1]; simp, by simp [h2]⟩ fun j i hj hb => ?_
  by_cases hjm : j < ms.length
  ·exact h j i hjm (by simpa [List.getD, List.getElem?_append, hjm] using hb)
  ·have hje : j = ms.length := by simp at hj; omega
   subst hje
   have hb : (wq7 ms o).testBit i = true := by simpa [List.getD] using hb
   have ho : ops[ms.length]? = some o := by
    rw [← Array.getElem?_toList, h1, ← h2]; simp
   rcases wkz _ _ hb with hb | ⟨e, he, hbi, h3⟩
   ·simp at hb
   ·have hedge : wgQ ops e.on ms.length := ⟨o, ho, e, he, hbi, rfl⟩
    rcases h3 with h3 | h3
    ·rw [h3] at hedge; exact .one hedge
    ·rcases Nat.lt_or_ge e.on ms.length with hlt | hge
     ·exact .more hedge (h _ _ hlt h3)
     ·rw [List.getD_eq_getElem?_getD, List.getElem?_eq_none hge] at h3; simp at h3
def Foot.rd : Foot → Key → Prop
 | some (r, _), k => k ∈ r
 | none, _ => True
def Foot.covers : Foot → Eff → Prop
 | some (_, w), e => ∀ k ∈ wcf e, k ∈ w
 | none, _ => True
section
variable {P : Program} {G : List (Nat × PD)} {ro : Option Nat} {N : Nat} {ops : Array Oper} {σ : St}
def DStep (P : Program) (G : List (Nat × PD)) (ro : Option Nat) (N : Nat) (xs : Exc) (ops : Array Oper) (o : Oper) (σ : St) (f : Foot) (σ1 : St) : Prop :=
 ∃ e, f.covers e ∧ exE xs e ∧ Loc P G ro N xs ops o f.rd e σ.rest σ.look ∧ σ1.look = σ.look.app e ∧ σ1.rest = σ.rest
def BOps (P : Program) (G : List (Nat × PD)) (ro : Option Nat) (N : Nat) (ops : Array Oper) (Q : St → Prop) (m : Nat) (l : List Oper) (σ : St) : Prop :=
 l = ops.toList.drop m → ∀ B : Base P, B.ro = ro → ∀ a w φ, Rep G B N σ a w φ → ∀ Q' : Exit → Act → World → Prop, (∀ τ a' w' φ', Q τ → Rep G B N τ a' w' φ' → Q' .normal a' w') →
  ∀ (fuel : Nat) (listed : Array Bool), listed.size = ops.size → (∀ i, i < ops.size → (listed.getD i true = true ↔ i < m)) → ops.size - m ≤ fuel → wpAnyIn (Fw ro) 0 P .any ops Q' fuel listed a w
inductive DOps (P : Program) (G : List (Nat × PD)) (ro : Option Nat) (N : Nat) (xs : Exc) (ops : Array Oper) (Q : St → Prop) : List Oper → List Foot → St → Prop
 | bar {l : List Oper} {acc : List Foot} {σ : St} (h : wk8 ops.toList acc = true) (hq : BOps P G ro N ops Q acc.length l σ) : DOps P G ro N xs ops Q l acc σ
 | step {o : Oper} {l : List Oper} {acc : List Foot} {σ σ1 : St} {f : Foot} (h : DStep P G ro N xs ops o σ f σ1) (h' : DOps P G ro N xs ops Q l (acc ++ [f]) σ1) : DOps P G ro N xs ops Q (o :: l) acc σ
theorem wiD {l : List Oper} (h7 : weQ 0 l = true) : (∀ j i, j < (wdI l []).length → ((wdI l []).getD j 0).testBit i = true → Prec l.toArray i j) ∧ ∀ i j, wgQ l.toArray i j → i < j := by
 refine ⟨wmf (ops := l.toArray) l [] ⟨[], by simp, rfl⟩ (fun j i hj => by simp at hj), ?_⟩
 rintro i j ⟨o, ho, e, he, hb, rfl⟩
 obtain ⟨hj, rfl⟩ := Array.getElem?_eq_some_iff.1 ho
 have := wjZ h7 j (by simpa using hj) e (by simpa using he) hb
 omega
theorem BOps.chain {l : List Oper} {Q : St → Prop} {m : Nat} (h : wnf ops.toList m = true) (hm : m ≤ ops.size) (hq : AOps P G ro N ops l σ Q) : BOps P G ro N ops Q m l σ := by
 intro hl B hro a w φ hr Q' hQ fuel listed hs hex hf
 simp only [wnf, Bool.and_eq_true] at h
 obtain ⟨h1, h2⟩ := wiD h.1
 refine wpI (by simpa using h2) (fun j hj1 hj2 i hij => ?_) fuel m listed (Nat.le_refl _) hm hs hex hf a w ?_
 ·have hj : j < ops.toList.length := by simpa using hj2
  have := wly h.2 j (by rw [weu]; simpa using hj) (by omega) i (by omega)
  simpa using h1 j i (by rw [weu]; simpa using hj) (by simpa using this)
 ·rw [← hl]; exact hq B hro a w φ hr Q' hQ
theorem wqy {F : Fence} {n : Nat} {o : Oper} {a : Act} {w : World} {K K' : Act → World → Prop} {Q Q' : Exit → Act → World → Prop} (h : ∀ a w, K a w → K' a w) (hQ : ∀ e a w, e ≠ .normal → Q e a w → Q' e a w)
  (hh : o.wpIn F n P a w K Q) : o.wpIn F n P a w K' Q' := by
 unfold Oper.wpIn at *
 refine ⟨hh.1, ?_⟩
 have hh := hh.2
 have hlo : LetsOut Q → LetsOut Q' := fun ⟨a, w, hq⟩ => ⟨a, w, hQ _ a w (by simp) hq⟩
 generalize (o.semAt F.round a.eval).run P w = r at *
 cases r with
 | ok x w' =>
  cases x <;> simp only [Oper.uponIn] at hh ⊢ <;>
   first
    | exact h _ _ hh
    | exact ⟨hh.1, CallsIn.mono hh.2 (fun e w'' he => by cases e <;> first | exact h _ _ he | exact hQ _ _ _ (by simp) he | exact hlo he)⟩
    | exact ⟨hh.1, RowsIn.mono hh.2 (fun _ _ he => h _ _ he)⟩
    | exact ⟨hh.1, RoundIn.mono hh.2 (fun e w'' he => by cases e <;> first | exact h _ _ he | exact hQ _ _ _ (by simp) he | exact hlo he)⟩
 | halt x w' => cases x <;> simp only [Oper.uponIn] at hh ⊢ <;> first | exact hQ _ _ _ (by simp) hh | exact hh
theorem BOps.hard {o : Oper} {l : List Oper} {Q : St → Prop} {m : Nat} (h : wq8 ops.toList m = true) (hq : AOps P G ro N ops [o] σ (fun σ' => BOps P G ro N ops Q (m + 1) l σ')) : BOps P G ro N ops Q m (o :: l) σ := by
 intro hl B hro a w φ hr Q' hQ fuel listed hs hex hf
 simp only [wq8, Bool.and_eq_true, decide_eq_true_eq] at h
 obtain ⟨⟨hm, he⟩, hb⟩ := h
 have hm : m < ops.size := by simpa using hm
 obtain ⟨h1, h2⟩ := wiD he
 have h2 : ∀ i j, wgQ ops i j → i < j := by simpa using h2
 have hpr : ∀ j, m < j → j < ops.size → Prec ops m j := fun j hmj hj => by
  have := wjw hb j (by rw [weu]; simpa using hj) (by omega) m (by omega)
  simpa using h1 j m (by rw [weu]; simpa using hj) (by simpa using this)
 have hd : ops.toList.drop m = ops[m] :: ops.toList.drop (m + 1) := by
  rw [List.drop_eq_getElem_cons (by simpa using hm)]; simp
 rw [hd] at hl
 simp only [List.cons.injEq] at hl
 obtain ⟨ho, hl⟩ := hl
 cases fuel with
 | zero => omega
 | succ fuel =>
 refine ⟨fun hrd => ?_, fun i hi => ?_⟩
 ·have := (hex m hm).1 (wjs h2 listed hs hrd m hm); omega
 ·have hcl : ∀ i k, Prec ops i k → listed.getD k true = true → k < ops.size → listed.getD i true = true := fun i k h hk hkn => by
   have h1 := (hex k hkn).1 hk
   have h3 := h.lt h2
   exact (hex i (by omega)).2 (by omega)
  have hp := wjt h2 hs hcl hi
  obtain ⟨hi1, hi2, _⟩ := whj listed hi
  have hge : ¬ i < m := fun h => by rw [(hex i hi1).2 h] at hi2; cases hi2
  have him : i = m := by
   by_cases h : m < i
   ·have := (hex m hm).1 (hp m (hpr i h hi1)); omega
   ·omega
  subst him
  have hset := wju (ops := ops) hs hi1
  have hnext : ∀ σ' a' w' φ', BOps P G ro N ops Q (i + 1) l σ' → Rep G B N σ' a' w' φ' → wpAnyIn (Fw ro) 0 P .any ops Q' fuel (listed.setIfInBounds i true) a' w' := fun σ' a' w' φ' hB hr' =>
   hB hl B hro a' w' φ' hr' Q' hQ fuel _ (by simpa using hs) (fun k hk => by
     rw [hset k, Bool.or_eq_true, decide_eq_true_eq, hex k hk]; omega) (by omega)
  have hw := hq B hro a w φ hr (fun e a' w' => match e with | .normal => wpAnyIn (Fw ro) 0 P .any ops Q' fuel (listed.setIfInBounds i true) a' w' | e => Q' e a' w') (fun σ' a' w' φ' hB hr' => hnext σ' a' w' φ' hB hr')
  simp only [wpL, if_true] at hw
  unfold wpOpIn
  simp only [Array.getElem?_eq_getElem hi1, ← ho]
  split at hw
  ·rename_i hwant
   rw [if_pos hwant]
   exact wqy (fun _ _ h => h) (fun e a w hne h => by cases e <;> first | exact absurd rfl hne | exact h) hw
  ·rename_i hwant
   rw [if_neg hwant]
   exact hw
theorem wi2 {m : Nat} : ∀ {l : List Nat} {j : Nat}, wgT m j l = true → whV m j l = true
 | [], _, _ => rfl
 | x :: l, j, h => by
  simp only [wgT, whV, Bool.and_eq_true, Bool.or_eq_true, decide_eq_true_eq, List.all_eq_true, List.mem_range] at h ⊢
  refine ⟨?_, wi2 h.2⟩
  rcases Nat.lt_or_ge j m with hj | hj
  ·exact .inl hj
  ·exact .inr fun i hi => (h.1.resolve_left (by omega)) i (by omega)
theorem DOps.stop {xs : Exc} {Q : St → Prop} {l : List Oper} {acc : List Foot} (h : woN ops.toList acc = true) (hq : AOps P G ro N ops l σ Q) : DOps P G ro N xs ops Q l acc σ := by
 simp only [woN, Bool.and_eq_true, decide_eq_true_eq] at h
 obtain ⟨⟨⟨h6, h7⟩, h8⟩, hch⟩ := h
 refine .bar ?_ (BOps.chain ?_ (by simpa using h6) hq)
 ·simp only [wk8, Bool.and_eq_true, decide_eq_true_eq]; exact ⟨⟨⟨h6, h7⟩, h8⟩, wi2 hch⟩
 ·simp only [wnf, Bool.and_eq_true]; exact ⟨h7, hch⟩
theorem wmg {s0 : SF} {E E' : Nat → Eff} {D : Nat → Bool} : ∀ n, (∀ i, i < n → E i = E' i) → wbl s0 E D n = wbl s0 E' D n
 | 0, _ => rfl
 | n + 1, h => by simp only [wbl]; rw [wmg n fun i hi => h i (by omega), h n (by omega)]
theorem DOps.unroll {xs : Exc} {s0 : SF} {b : Nat} {z : List PV × Gh} {Q : St → Prop} {l : List Oper} {acc : List Foot} {σ : St} (h : DOps P G ro N xs ops Q l acc σ) : ∀ (es : List Eff) (pre : List Oper), ops.toList = pre ++ l → acc.length = pre.length → es.length = pre.length → b ≤ pre.length →
  (∀ i (hi : i < pre.length), ∃ (h1 : i < acc.length), acc[i].covers (es.getD i []) ∧ exE xs (es.getD i []) ∧ (b ≤ i → Loc P G ro N xs ops pre[i] acc[i].rd (es.getD i []) z (wbl s0 (fun i => es.getD i []) (fun _ => true) i))) →
  wbl s0 (fun i => es.getD i []) (fun _ => true) pre.length = σ.look → σ.rest = z →
  ∃ (acc' : List Foot) (es' : List Eff) (τ : St), wk8 ops.toList acc' = true ∧ acc <+: acc' ∧ es <+: es' ∧ BOps P G ro N ops Q acc'.length (ops.toList.drop acc'.length) τ ∧ τ.rest = z ∧ (∀ i (hi : i < ops.size) (h1 : i < acc'.length), acc'[i].covers (es'.getD i []) ∧ exE xs (es'.getD i []) ∧ (b ≤ i → Loc P G ro N xs ops ops[i] acc'[i].rd (es'.getD i []) z (wbl s0 (fun i => es'.getD i []) (fun _ => true) i))) ∧
   wbl s0 (fun i => es'.getD i []) (fun _ => true) acc'.length = τ.look := by
 induction h with
 | @bar l acc σ h hq =>
  intro es pre h1 h2 h3 hbp h4 h5 h6
  refine ⟨acc, es, σ, h, List.prefix_refl _, List.prefix_refl _, ?_, h6, fun i hi h7 => ?_, by rw [h2]; exact h5⟩
  ·have e : ops.toList.drop acc.length = l := by rw [h1, h2]; simp
   rw [e]; exact hq
  ·obtain ⟨_, h8, h9⟩ := h4 i (by omega)
   have e : ops[i] = pre[i] := by
    have hi' : i < ops.toList.length := by simpa using hi
    have : ops.toList[i] = pre[i] := by simp only [h1]; rw [List.getElem_append_left (by omega)]
    simpa using this
   rw [e]; exact ⟨h8, h9⟩
 | @step o l acc σ σ1 f h h' ih =>
  intro es pre h1 h2 h3 hbp h4 h5 h6
  obtain ⟨e, h8, hx8, h9, h10, h11⟩ := h
  have hold : ∀ i, i < pre.length → (es ++ [e]).getD i [] = es.getD i [] := fun i hi => by
   simp [List.getD, List.getElem?_append, show i < es.length by omega]
  have hnew : (es ++ [e]).getD pre.length [] = e := by
   simp [List.getD, ← h3]
  have hf : ∀ i, i ≤ pre.length → wbl s0 (fun i => (es ++ [e]).getD i []) (fun _ => true) i = wbl s0 (fun i => es.getD i []) (fun _ => true) i := fun i hi =>
   wmg i fun j hj => hold j (by omega)
  have hih := ih (es ++ [e]) (pre ++ [o]) (by rw [h1]; simp) (by simp [h2]) (by simp [h3]) (by simp; omega) (fun i hi => ?_) ?_ (h11.trans h6)
  ·obtain ⟨acc', es', τ, g1, g2, g3, g4⟩ := hih
   exact ⟨acc', es', τ, g1, (List.prefix_append _ _).trans g2, (List.prefix_append _ _).trans g3, g4⟩
  ·by_cases hip : i < pre.length
   ·obtain ⟨h13, h14, h15⟩ := h4 i hip
    refine ⟨by simp; omega, ?_⟩
    rw [List.getElem_append_left h13, List.getElem_append_left hip, hold i hip, hf i (by omega)]
    exact ⟨h14, h15⟩
   ·have hie : i = pre.length := by simp at hi; omega
    subst hie
    refine ⟨by simp; omega, ?_⟩
    have e1 : (acc ++ [f])[pre.length]'(by simp; omega) = f := by simp [← h2]
    have e2 : (pre ++ [o])[pre.length]'(by simp) = o := by simp
    rw [e1, e2, hnew, hf _ (Nat.le_refl _), h5, ← h6]
    exact ⟨h8, hx8, fun _ => h9⟩
  ·rw [show (pre ++ [o]).length = pre.length + 1 by simp]
   simp only [wbl, if_true]
   rw [hf _ (Nat.le_refl _), h5, hnew]
   exact h10.symm
theorem Rep.same {B : Base P} {a : Act} {w : World} {φ : Nm} {τ : St} (hr : Rep G B N σ a w φ) (h : σ.look = τ.look) (hd : σ.rest = τ.rest) : Rep G B N τ a w φ := by
 have he : ∀ t, wam τ.env t = wam σ.env t := fun t => by
  have := congrFun h (.t t); simp only [St.look, Cont.v.injEq] at this; exact this.symm
 have hh : ∀ r, waa τ.heap r = waa σ.heap r := fun r => by
  have := congrFun h (.h r); simp only [St.look, Cont.r.injEq] at this; exact this.symm
 simp only [St.rest, Prod.mk.injEq] at hd
 have hrow : ∀ b, waC φ τ.heap b → waC φ σ.heap b := fun b ⟨r, x, h1, h2⟩ => ⟨r, x, by rw [← hh]; exact h1, h2⟩
 have hown : ∀ b, own φ τ.heap b → own φ σ.heap b := fun b h => h.imp (hrow b) id
 have hext : Ext w B.X φ σ.heap w φ τ.heap := by
  exact ⟨fun r x hx => ⟨x, by rw [hh]; exact hx, rfl, fun _ => rfl, rfl⟩, fun b hb => ⟨hb.1, hb.2.1, fun ho => hb.2.2 (hown b ho)⟩, fun b hb => ⟨hb.1, fun ho => hb.2 (hown b ho)⟩, fun _ _ => rfl, fun s y b _ _ c e f hh => ⟨c, e, f, hh, rfl⟩⟩
 refine Rep.of_sit ⟨⟨fun r x b hx hb => ?_, fun r x hx => hr.heap.void r x (hh r ▸ hx), fun r s x y b hx hy => hr.heap.inj r s x y b (hh r ▸ hx) (hh s ▸ hy), fun b hT => ⟨(hr.heap.far b hT).1, (hr.heap.far b hT).2.1, fun h => (hr.heap.far b hT).2.2 (hrow b h)⟩⟩, hr.keeps,
  fun r x b hx => hr.new r x b (hh r ▸ hx), fun r x hx => hr.pins r x (hh r ▸ hx), fun r x b hx => hr.psz r x b (hh r ▸ hx), ?_, hr.tnew, hd.2 ▸ wdW hr.inv rfl rfl rfl rfl (Nat.le_refl _) (fun _ _ _ => rfl) (fun b hb => .inl (hrow b hb))⟩ hr.size (fun t => ?_) (hd.1 ▸ hd.2 ▸ hr.dfr.ext hext)
 ·exact (hr.heap.rows r x b (hh r ▸ hx) hb).ext hext rfl
 ·exact hr.glob.ext hext (fun g x hm => by
   obtain ⟨_, _, _, _, _, h2, _⟩ := hr.glob g x hm
   exact fun ho => h2 (hown g ho))
 ·rw [he]; exact (hr.env t).ext hext
theorem Rep.drawn {B : Base P} {a : Act} {w : World} {φ : Nm} (hr : Rep G B N σ a w φ) (n : Nat) : Rep G B N σ a { w with drawn := n } φ :=
 hr.world (wjk (Nat.le_refl _) (fun _ _ => rfl) (fun r x b h1 h2 => hr.heap.lt h1 h2)) ⟨rfl, rfl, rfl, Nat.le_refl _, fun _ _ _ => rfl⟩ (fun r x b h1 h2 => rfl) (fun _ _ _ => rfl)
theorem RepV.rows {w : World} {X : Nat → Prop} {φ : Nm} {H : wac} {v : Value} {p : PV} (hv : RepV w X φ H v p) : ∀ r ∈ rowsOf p, (waa H r).isSome = true := by
 have key : ∀ {ps : List PV}, (∀ i (hi : i < ps.length), ∀ r ∈ rowsOf ps[i], (waa H r).isSome = true) → ∀ r ∈ rowsOfL ps, (waa H r).isSome = true := by
  intro ps
  induction ps with
  | nil => intro _ r hr; simp [rowsOfL] at hr
  | cons p l ih =>
   intro h r hr
   simp only [rowsOfL, List.mem_append] at hr
   rcases hr with hr | hr
   ·exact h 0 (by simp) r hr
   ·exact ih (fun i hi => h (i + 1) (by simpa using hi)) r hr
 induction hv with
 | ptr hx hb => intro r hr; simp only [rowsOf, List.mem_singleton] at hr; subst hr; rw [hx]; rfl
 | slc hx => intro r hr; simp only [rowsOf, List.mem_singleton] at hr; subst hr; rw [hx]; rfl
 | mp hx => intro r hr; simp only [rowsOf, List.mem_singleton] at hr; subst hr; rw [hx]; rfl
 | slc0 hx => intro r hr; simp only [rowsOf, List.mem_singleton] at hr; subst hr; rw [hx]; rfl
 | func hs _ ih => intro r hr; simp only [rowsOf] at hr; exact key ih r hr
 | agg hs _ hf ih => intro r hr; simp only [rowsOf] at hr; exact key ih r hr
 | tuple hs _ ih => intro r hr; simp only [rowsOf] at hr; exact key ih r hr
 | _ => intro r hr; simp [rowsOf] at hr
theorem Rep.no_row {B : Base P} {a : Act} {w : World} {φ : Nm} (hr : Rep G B N σ a w φ) {r : Nat} (h : waa σ.heap r = none) (k : Key) : (σ.look k).rows.contains r = false := by
 have hno : ∀ l : List Nat, (∀ s ∈ l, (waa σ.heap s).isSome = true) → l.contains r = false := fun l hl => by
  rw [List.contains_eq_mem, decide_eq_false_iff_not]
  intro hm
  have := hl r hm
  rw [h] at this; cases this
 cases k with
 | t n => exact hno _ (hr.env n).rows
 | h n =>
  simp only [St.look]
  cases hx : waa σ.heap n with
  | none => rfl
  | some x =>
   refine hno _ fun s hs => ?_
   cases hφ : φ n with
   | none => simp only [Cont.rows] at hs; rw [hr.heap.void n x hx hφ] at hs; simp [rowsOfL] at hs
   | some b =>
    have key : ∀ (ps : List PV), (∀ i (hi : i < ps.length), ∀ r ∈ rowsOf ps[i], (waa σ.heap r).isSome = true) → ∀ r ∈ rowsOfL ps, (waa σ.heap r).isSome = true := by
     intro ps
     induction ps with
     | nil => intro _ r hr; simp [rowsOfL] at hr
     | cons p l ih =>
      intro h r hr
      simp only [rowsOfL, List.mem_append] at hr
      rcases hr with hr | hr
      ·exact h 0 (by simp) r hr
      ·exact ih (fun i hi => h (i + 1) (by simpa using hi)) r hr
    exact key x.els (fun i hi => by obtain ⟨v, h4⟩ := (hr.heap.rows n x b hx hφ).el i hi; exact h4.rows) s hs
def wmh (σ : St) : Exc → Prop
 | [] => True
 | (r, _) :: l => waa σ.heap r = none ∧ wmh σ l
theorem Rep.exOk {B : Base P} {a : Act} {w : World} {φ : Nm} (hr : Rep G B N σ a w φ) : ∀ {xs : Exc}, wmh σ xs → ∀ k, Pv.exOk xs k (σ.look k)
 | [], _, _ => trivial
 | (r, S) :: l, h, k => ⟨.inr (hr.no_row h.1 k), hr.exOk h.2 k⟩
def wqz (r : Nat) (S : List Nat) : List (Nat × PV) → Prop
 | [] => True
 | (t, v) :: l => (S.contains t = true ∨ (rowsOf v).contains r = false) ∧ wqz r S l
def wgr (r : Nat) (S : List Nat) : wac → Prop
 | [] => True
 | (s, x) :: l => (S.contains (s + 1000000) = true ∨ (rowsOfL x.els).contains r = false) ∧ wgr r S l
def exIni (σ : St) : Exc → Prop
 | [] => True
 | (r, S) :: l => (waa σ.heap r = none ∨ (wqz r S σ.env ∧ wgr r S σ.heap)) ∧ exIni σ l
theorem wnE {r : Nat} {S : List Nat} : ∀ {l : List (Nat × PV)}, wqz r S l → ∀ n, S.contains n = true ∨ (rowsOf (wam l n)).contains r = false
 | [], _, n => .inr (by simp [wam, rowsOf])
 | (t, v) :: l, h, n => by
  simp only [wam]
  split
  ·rename_i e; subst e; exact h.1
  ·exact wnE h.2 n
theorem wmi {r : Nat} {S : List Nat} : ∀ {l : wac}, wgr r S l → ∀ n x, waa l n = some x → S.contains (n + 1000000) = true ∨ (rowsOfL x.els).contains r = false
 | [], _, n, x, hx => by simp [waa] at hx
 | (t, v) :: l, h, n, x, hx => by
  simp only [waa] at hx
  split at hx
  ·rename_i e; subst e; cases hx; exact h.1
  ·exact wmi h.2 n x hx
theorem Rep.exIni {B : Base P} {a : Act} {w : World} {φ : Nm} (hr : Rep G B N σ a w φ) : ∀ {xs : Exc}, exIni σ xs → ∀ k, Pv.exOk xs k (σ.look k)
 | [], _, _ => trivial
 | (r, S) :: l, h, k => by
  refine ⟨?_, hr.exIni h.2 k⟩
  rcases h.1 with h1 | ⟨h1, h2⟩
  ·exact .inr (hr.no_row h1 k)
  ·cases k with
   | t n => exact wnE h1 n
   | h n =>
    simp only [St.look]
    cases hx : waa σ.heap n with
    | none => exact .inr rfl
    | some x => exact wmi h2 n x hx
theorem BOps.draw {l : List Oper} {Q : St → Prop} {m : Nat} (xs : Exc) (hxs : exIni σ xs) (hmo : m ≤ ops.size) (h : DOps P G ro N xs ops Q l (List.replicate m (some ([], []))) σ) : BOps P G ro N ops Q m l σ := by
 intro hl B hro a w φ hr Q' hq fuel listed hs hex hf
 have hnil : ∀ i, (List.replicate m ([] : Eff)).getD i [] = [] := fun i => by
  rw [List.getD_eq_getElem?_getD, List.getElem?_replicate]; split <;> rfl
 have hf0 : ∀ n, wbl σ.look (fun i => (List.replicate m ([] : Eff)).getD i []) (fun _ => true) n = σ.look := by
  intro n
  induction n with
  | zero => rfl
  | succ n ih => simp only [wbl, if_true]; rw [ih, hnil]; rfl
 obtain ⟨acc, es, τ, h1, hpa, hpe, h2, h3, h4, h5⟩ := DOps.unroll (s0 := σ.look) (b := m) (z := σ.rest) (ops := ops) h (List.replicate m []) (ops.toList.take m) (by rw [hl]; simp) (by simp; omega) (by simp; omega) (by simp; omega)
  (fun i hi => by
   have hi : i < m := by simp at hi; omega
   refine ⟨by simpa using hi, ?_, ?_, fun h => by omega⟩
   ·rw [hnil]; simp [Foot.covers, wcf]
   ·rw [hnil]; trivial)
  (by rw [hf0]) rfl
 simp only [wk8, Bool.and_eq_true, decide_eq_true_eq] at h1
 obtain ⟨⟨⟨h6, h7⟩, h8⟩, hch⟩ := h1
 have h6 : acc.length ≤ ops.size := by simpa using h6
 have hma : m ≤ acc.length := by have := hpa.length_le; simpa using this
 obtain ⟨hmask, hback⟩ := wiD h7
 have hback : ∀ i j, wgQ ops i j → i < j := by simpa using hback
 have hmask : ∀ j i, j < ops.size → ((wdI ops.toList []).getD j 0).testBit i = true → Prec ops i j := fun j i hj hb => by
  simpa using hmask j i (by rw [weu]; simpa using hj) hb
 have hord : Ordered acc.length (fun i => es.getD i []) (fun i k => match acc[i]? with | some f => f.rd k | none => True) (Prec ops) := by
  refine ⟨fun i j h => h.lt hback, fun i j hij hja => ?_⟩
  have hj : j < ops.size := by omega
  rcases wky h8 j hja i (by simpa using hij) with h | h
  ·exact .inl (hmask j i hj h)
  ·obtain ⟨r, wr, r', wr', h9, h10, h11, h12⟩ := wng h
   have hi : i < acc.length := by omega
   rw [show ([] ++ acc)[i]'(by simpa using hi) = acc[i] from rfl] at h9
   obtain ⟨hc1, _, _⟩ := h4 i (by omega) hi
   obtain ⟨hc2, _, _⟩ := h4 j hj hja
   rw [h9] at hc1; rw [h10] at hc2
   refine .inr ⟨fun k hk => ⟨?_, fun hk' => (h11 k (hc1 k hk)).2 (hc2 k hk')⟩, fun k hk => ?_⟩
   ·simp only [List.getElem?_eq_getElem hja, h10, Foot.rd]
    exact (h11 k (hc1 k hk)).1
   ·simp only [List.getElem?_eq_getElem hi, h9, Foot.rd]
    exact h12 k (hc2 k hk)
 have hlis : ∀ i, i < m → listed.getD i true = true := fun i hi => (hex i (by omega)).2 hi
 have hcnt : (List.range ops.size).countP (fun i => listed.getD i true) = m := by
  rw [← wnD ops.size m hmo]
  exact List.countP_congr (fun i hi => by rw [hex i (by simpa using hi)]; simp)
 refine wq6 (P := P) (G := G) (ro := ro) (N := N) (s0 := σ.look) (z := σ.rest) (B := B) (b := m) (m := acc.length) (E := fun i => es.getD i []) h6 hord hback (fun i hi hbi him => ?_) (fun j hj1 hj2 i hij => ?_) (hr.exIni hxs) (fun i him => (h4 i (by omega) him).2.1) hro (fun fuel' listed' hs' hex' hf' a' w' hR => ?_) fuel listed hs (fun i j hij hj hjs => ?_) (fun j hj hjs => ?_) hlis (by rw [hcnt]; exact hf) _ _ ?_
 ·obtain ⟨_, _, h10⟩ := h4 i hi him
  simp only [List.getElem?_eq_getElem him]
  exact h10 hbi
 ·have := wjw hch j (by rw [weu]; simpa using hj2) (by omega) i hij
  exact hmask j i hj2 this
 ·obtain ⟨σ', φ', hd', hl', hr'⟩ := hR
  exact h2 rfl B hro a' w' φ' (hr'.same (by rw [hl', h5]) (hd'.trans h3.symm)) Q' hq fuel' listed' hs' hex' hf'
 ·have h1 := (hex j hjs).1 hj
  have := hij.lt hback
  exact hlis i (by omega)
 ·cases hlj : listed.getD j true with
  | false => rfl
  | true => have := (hex j hjs).1 hlj; omega
 ·refine ⟨σ, φ, rfl, ?_, hr⟩
  have : ∀ n, n ≤ ops.size → wbl σ.look (fun i => es.getD i []) (fun i => listed.getD i true) n = σ.look := by
   intro n
   induction n with
   | zero => intro _; rfl
   | succ n ih =>
    intro hn
    simp only [wbl]
    split
    ·rename_i hln
     have hnm := (hex n (by omega)).1 hln
     have e : es.getD n [] = [] := by
      obtain ⟨t, ht⟩ := hpe
      rw [← ht, List.getD_eq_getElem?_getD, List.getElem?_append_left (by simpa using hnm), List.getElem?_replicate]; simp [hnm]
     rw [e, ih (by omega)]; funext k; rfl
    ·exact ih (by omega)
  exact (this acc.length h6).symm
theorem AWp.drawX {id : Nat} {l : List Oper} {Q : Post} (hm : P.follows .mixedOrders = true) (xs : Exc) (hxs : exIni σ xs) (h : DOps P G ro N xs l.toArray (Q .normal) l [] σ) : AWp P G ro N (.region id l.toArray true) σ Q := by
 intro B hro a w φ hr Q' hq
 refine wpIn_region_any hm ?_
 exact BOps.draw xs hxs (Nat.zero_le _) h (by simp) B hro a _ φ (hr.drawn _) Q' (fun τ a'' w'' φ'' hQ hr'' => hq .normal τ a'' w'' φ'' hQ hr'') _ _ (by simp) (fun i hi => by
  have : i < l.length := by simpa using hi
  simp [Array.getD, this]) (by omega)
theorem woO : ∀ {xs : Exc}, wmh σ xs → exIni σ xs
 | [], _ => trivial
 | (_, _) :: _, h => ⟨.inl h.1, woO h.2⟩
theorem AWp.draw {id : Nat} {l : List Oper} {Q : Post} (hm : P.follows .mixedOrders = true) (xs : Exc) (hxs : wmh σ xs) (h : DOps P G ro N xs l.toArray (Q .normal) l [] σ) : AWp P G ro N (.region id l.toArray true) σ Q :=
 AWp.drawX hm xs (woO hxs) h
end
end Go.Pv

namespace Go.Pv
def Foot.plus (g : List Key) : Foot → Foot
 | some (r, w) => some (g ++ r, w)
 | none => none
def wfo (ds : List (Option Tmp)) : Option (Nat × Bool) → List Key
 | some (j, _) => match ds[j]? with
  | some (some d) => [.t d]
  | _ => []
 | none => []
section
variable {P : Program} {G : List (Nat × PD)} {ro : Option Nat} {N : Nat} {xs : Exc} {ops : Array Oper} {σ : St} {o : Oper}
def ws0 (P : Program) (G : List (Nat × PD)) (ro : Option Nat) (N : Nat) (xs : Exc) (o : Oper) (rd : Key → Prop) (e : Eff) (σ : St) : Prop :=
 ∀ σ' : St, σ'.rest = σ.rest → (∀ k, rd k → σ'.look k = σ.look k) → (∀ k, exOk xs k (σ'.look k)) → OpT P G ro N o σ' (fun τ => τ.rest = σ.rest ∧ τ.look = σ'.look.app e)
def OpD (P : Program) (G : List (Nat × PD)) (ro : Option Nat) (N : Nat) (xs : Exc) (o : Oper) (σ : St) (f : Foot) (σ1 : St) : Prop :=
 ∃ e, f.covers e ∧ exE xs e ∧ ws0 P G ro N xs o f.rd e σ ∧ σ1.look = σ.look.app e ∧ σ1.rest = σ.rest
def OpX (P : Program) (G : List (Nat × PD)) (ro : Option Nat) (N : Nat) (xs : Exc) (o : Oper) (σ : St) (K : Foot → St → Prop) : Prop := ∃ f σ1, OpD P G ro N xs o σ f σ1 ∧ K f σ1
theorem Foot.rd_plus {g : List Key} {f : Foot} {k : Key} (h : f.rd k) : (f.plus g).rd k := by
 cases f with
 | none => trivial
 | some p => obtain ⟨r, w⟩ := p; exact List.mem_append_right _ h
theorem Foot.covers_plus {g : List Key} {f : Foot} {e : Eff} (h : f.covers e) : (f.plus g).covers e := by
 cases f with
 | none => trivial
 | some p => obtain ⟨r, w⟩ := p; exact h
theorem DStep.plain {f : Foot} {σ1 : St} (hg : o.guard = none) (h : OpD P G ro N xs o σ f σ1) : DStep P G ro N xs ops o σ f σ1 := by
 obtain ⟨e, h1, hx, h2, h3, h4⟩ := h
 refine ⟨e, h1, hx, fun s' hs hex B hro a w hR next Q hn => ?_, h3, h4⟩
 obtain ⟨σ', φ, hd, hl, hr⟩ := hR
 simp only [Region.wanted, hg, if_true]
 refine h2 σ' hd (fun k hk => by rw [hl]; exact hs k hk) (fun k => by rw [hl]; exact hex k) B hro a w φ hr next Q fun τ a' w' φ' ht hr' => hn a' w' ⟨τ, φ', ht.1, by rw [ht.2, hl], hr'⟩
theorem win {σ' : St} {ds : List (Option Tmp)} {j : Nat} {want : Bool} (h : ∀ k ∈ wfo ds (some (j, want)), σ'.look k = σ.look k) : wet σ' ds j = wet σ ds j := by
 unfold wet
 simp only [wfo] at h
 cases hd : ds[j]? with
 | none => rfl
 | some od =>
  cases od with
  | none => rfl
  | some d =>
   have := h (.t d) (by rw [hd]; simp)
   simp only [St.look, Cont.v.injEq] at this
   simp only [this]
theorem DStep.yes {f : Foot} {σ1 : St} {j : Nat} {want : Bool} (hg : o.guard = some (j, want)) (hb : wet σ (wbg ops) j = some want) (h : OpD P G ro N xs o σ f σ1) : DStep P G ro N xs ops o σ (f.plus (wfo (wbg ops) o.guard)) σ1 := by
 obtain ⟨e, h1, hx, h2, h3, h4⟩ := h
 refine ⟨e, Foot.covers_plus h1, hx, fun s' hs hex B hro a w hR next Q hn => ?_, h3, h4⟩
 obtain ⟨σ', φ, hd, hl, hr⟩ := hR
 have hgv : wet σ' (wbg ops) j = some want := by
  cases f with
  | none => rw [win (σ := σ) (want := want) fun k hk => by rw [hl]; exact hs k trivial]; exact hb
  | some p => obtain ⟨r, wr⟩ := p; rw [win (σ := σ) (want := want) fun k hk => by rw [hl]; exact hs k (List.mem_append_left _ (by rw [hg]; exact hk))]; exact hb
 have hy := wiX hr hgv
 simp only [Region.wanted, hg, hy, beq_self_eq_true, if_true]
 refine h2 σ' hd (fun k hk => by rw [hl]; exact hs k (Foot.rd_plus hk)) (fun k => by rw [hl]; exact hex k) B hro a w φ hr next Q fun τ a' w' φ' ht hr' => hn a' w' ⟨τ, φ', ht.1, by rw [ht.2, hl], hr'⟩
theorem wrI (xs : Exc) (k : Key) : exOk xs k (.v .any) := by
 induction xs with
 | nil => trivial
 | cons x l ih => obtain ⟨r, S⟩ := x; exact ⟨.inr (by simp [Cont.rows, rowsOf]), ih⟩
theorem wsp (dst : Option Tmp) : exE xs (waJ dst .any) := by
 cases dst with
 | none => trivial
 | some d => exact ⟨wrI _ _, trivial⟩
theorem DStep.no {j : Nat} {want b : Bool} (hg : o.guard = some (j, want)) (hb : wet σ (wbg ops) j = some b) (hne : b ≠ want) (hd : wan N o.dst) :
  DStep P G ro N xs ops o σ (some (wfo (wbg ops) o.guard, waN o.dst)) (σ.put o.dst .any) := by
 refine ⟨waJ o.dst .any, fun k hk => by rw [wci] at hk; exact hk, wsp _, fun s' hs _ B hro a w hR next Q hn => ?_, wbd _ _ _, St.put_rest _ _ _⟩
 obtain ⟨σ', φ, hd', hl, hr⟩ := hR
 have hgv : wet σ' (wbg ops) j = some b := by
  rw [win (σ := σ) (want := want) fun k hk => by rw [hl]; exact hs k (by rw [hg]; exact hk)]; exact hb
 have hy := wiX hr hgv
 have : (some b == some want) = false := by simp [hne]
 simp only [Region.wanted, hg, hy, this, Bool.false_eq_true, if_false]
 exact ⟨fun _ _ => trivial, hn _ _ ⟨σ'.put o.dst .any, φ, by rw [St.put_rest]; exact hd', by rw [wbd, hl], hr.put_undef hd⟩⟩
def St.keys (σ : St) : List Key := σ.env.map (fun x => .t x.1) ++ σ.heap.map (fun x => .h x.1)
theorem wq9 {l : List (Nat × PV)} {t : Nat} (h : t ∉ l.map (·.1)) : wam l t = .any := by
 induction l with
 | nil => rfl
 | cons x l ih =>
  obtain ⟨s, v⟩ := x
  simp only [List.map_cons, List.mem_cons, not_or] at h
  simp only [wam]; rw [if_neg (Ne.symm h.1)]; exact ih h.2
theorem wra {l : wac} {t : Nat} (h : t ∉ l.map (·.1)) : waa l t = none := by
 induction l with
 | nil => rfl
 | cons x l ih =>
  obtain ⟨s, v⟩ := x
  simp only [List.map_cons, List.mem_cons, not_or] at h
  simp only [waa]; rw [if_neg (Ne.symm h.1)]; exact ih h.2
theorem wnF {k : Key} (h : k ∉ σ.keys) : σ.look k = match k with | .t _ => .v .any | .h _ => .r none := by
 simp only [St.keys, List.mem_append, List.mem_map, not_or, not_exists, not_and] at h
 cases k with
 | t n => simp only [St.look]; rw [wq9 (by simp only [List.mem_map, not_exists, not_and]; exact fun x hx he => h.1 x hx (by rw [he]))]
 | h n => simp only [St.look]; rw [wra (by simp only [List.mem_map, not_exists, not_and]; exact fun x hx he => h.2 x hx (by rw [he]))]
def woP (σ τ : St) : Eff := (σ.keys ++ τ.keys).map fun k => (k, τ.look k)
theorem wrb {f : Key → Cont} {l : List Key} {k : Key} : wdn (l.map fun k => (k, f k)) k = if k ∈ l then some (f k) else none := by
 induction l with
 | nil => rfl
 | cons x l ih =>
  simp only [List.map_cons, wdn, ih, List.mem_cons]
  by_cases h : x = k
  ·subst h; simp
  ·rw [if_neg h]; simp [Ne.symm h]
theorem wp2 (σ τ : St) : σ.look.app (woP σ τ) = τ.look := by
 funext k
 simp only [SF.app, woP, wrb]
 by_cases h : k ∈ σ.keys ++ τ.keys
 ·rw [if_pos h]; rfl
 ·rw [if_neg h]
  simp only [List.mem_append, not_or] at h
  rw [Option.getD_none, wnF h.1, wnF h.2]
  cases k <;> rfl
theorem OpD.solo {σ1 : St} (hxs : xs = []) (hd1 : σ1.rest = σ.rest) (h : OpT P G ro N o σ (fun τ => τ = σ1)) : OpD P G ro N xs o σ none σ1 := by
 refine ⟨woP σ σ1, trivial, by rw [hxs, wk6]; trivial, fun σ' hd hs _ => ?_, (wp2 _ _).symm, hd1⟩
 have hl : σ'.look = σ.look := funext fun k => hs k trivial
 intro B hro a w φ hr next Q hn
 exact h B hro a w φ (hr.same hl hd) next Q fun τ a' w' φ' ht hr' => by
  subst ht
  exact hn τ a' w' φ' ⟨hd1, by rw [hl, wp2]⟩ hr'
theorem OpD.pure {v : PV} (h : wb7 P G σ o.op = some v) (hd : wan N o.dst) (hx : exE xs (waJ o.dst v)) :
  OpD P G ro N xs o σ (some (waF (waq o.op) ++ wkx σ o.op, waN o.dst)) (σ.put o.dst v) := by
 refine ⟨waJ o.dst v, fun k hk => by rw [wci] at hk; exact hk, hx, fun σ' hd' hs _ => ?_, wbd _ _ _, St.put_rest _ _ _⟩
 have h1 := wcp (σ := σ) (σ' := σ') (l := waq o.op) fun k hk => hs k (List.mem_append_left _ hk)
 exact OpT.pure (by rw [wof h1 fun k hk => hs k (List.mem_append_right _ hk)]; exact h) hd ⟨by rw [St.put_rest]; exact hd', wbd _ _ _⟩
theorem OpD.new {r : Nat} {xp : Row × PV} (h : wg8 P σ r o.op = some xp) (hd : wan N o.dst) (hr0 : waa σ.heap r = none) (hp0 : 1000 ≤ r) (hx : exE xs (waJ o.dst xp.2 ++ [(.h r, .r (some xp.1))])) :
  OpD P G ro N xs o σ (some (.h r :: waF (waq o.op), waN o.dst ++ [.h r])) (({ σ with heap := waj σ.heap r xp.1 } : St).put o.dst xp.2) := by
 refine ⟨waJ o.dst xp.2 ++ [(.h r, .r (some xp.1))], fun k hk => ?_, hx, fun σ' hd' hs _ => ?_, wgR _ _ _ _ _, St.put_rest _ _ _⟩
 ·have := wci o.dst xp.2
  simp only [wcf, List.map_append, List.map_cons, List.map_nil] at hk this
  rw [this] at hk; exact hk
 ·have h1 := wcp (σ := σ) (σ' := σ') (l := waq o.op) fun k hk => hs k (List.mem_cons_of_mem _ hk)
  have h2 : waa σ'.heap r = none := by
   have := hs (.h r) (List.mem_cons_self ..)
   simp only [St.look, Cont.r.injEq] at this
   rw [this, hr0]
  exact OpT.new (x := xp.1) (p := xp.2) (by rw [wpK h1]; exact h) hd h2 hp0 ⟨by rw [St.put_rest]; exact hd', wgR _ _ _ _ _⟩
theorem OpD.store {rx : Nat × Row} (h : wgc P σ o.op = some rx) (hd : wan N o.dst) (hx : exE xs (waJ o.dst .any ++ [(.h rx.1, .r (some rx.2))])) :
  OpD P G ro N xs o σ (some (.h rx.1 :: waF (waq o.op), waN o.dst ++ [.h rx.1])) (({ σ with heap := waj σ.heap rx.1 rx.2 } : St).put o.dst .any) := by
 refine ⟨waJ o.dst .any ++ [(.h rx.1, .r (some rx.2))], fun k hk => ?_, hx, fun σ' hd' hs _ => ?_, wgR _ _ _ _ _, St.put_rest _ _ _⟩
 ·have := wci o.dst .any
  simp only [wcf, List.map_append, List.map_cons, List.map_nil] at hk this
  rw [this] at hk; exact hk
 ·have h1 := wcp (σ := σ) (σ' := σ') (l := waq o.op) fun k hk => hs k (List.mem_cons_of_mem _ hk)
  have h2 : waa σ'.heap rx.1 = waa σ.heap rx.1 := by
   have := hs (.h rx.1) (List.mem_cons_self ..)
   simpa only [St.look, Cont.r.injEq] using this
  exact OpT.store1 (r := rx.1) (x := rx.2) (wog h1 h h2) hd ⟨by rw [St.put_rest]; exact hd', wgR _ _ _ _ _⟩
theorem wkA {σ : St} : ∀ {l : List Operand} {p : PV}, p ∈ war σ l → ∃ x ∈ l, σ.eval x = p
 | x :: l, p, h => by
  simp only [war, List.mem_cons] at h
  rcases h with rfl | h
  ·exact ⟨x, by simp, rfl⟩
  ·obtain ⟨y, h1, h2⟩ := wkA h
   exact ⟨y, by simp [h1], h2⟩
 | [], _, h => by simp [war] at h
theorem OpX.call {K : Foot → St → Prop} {c : Call} {f : FuncId} {args : List PV} {res : PV} (ho : o.op = .call c) (hc : c.callee = .value (.func f)) (hcal : wa1 P f = true)
  (hf : PureFn P G f args res) (ha : wdF σ.heap (war σ c.args.toList) args) (hd : wan N o.dst) (hres : dOnly res) (hx : exE xs (waJ o.dst res))
  (hK : K (some (waF (waq o.op) ++ wcS σ (waq o.op), waN o.dst)) (σ.put o.dst res)) : OpX P G ro N xs o σ K := by
 refine ⟨some (waF (waq o.op) ++ wcS σ (waq o.op), waN o.dst), σ.put o.dst res, ⟨waJ o.dst res, fun k hk => by rw [wci] at hk; exact hk, hx, fun σ' hd' hs _ => ?_, wbd _ _ _, St.put_rest _ _ _⟩, hK⟩
 have h1 := wcp (σ := σ) (σ' := σ') (l := waq o.op) fun k hk => hs k (List.mem_append_left _ hk)
 have h2 := whG (σ := σ) (σ' := σ') (l := waq o.op) fun k hk => hs k (List.mem_append_right _ hk)
 rw [ho] at h1 h2
 refine OpT.call ho hc hcal hf ?_ hd ⟨by rw [St.put_rest]; exact hd', wbd _ _ _⟩ hres
 rw [wbO (l := c.args.toList) h1]
 refine whU (fun p hp r hr => ?_) ha
 obtain ⟨x, h3, rfl⟩ := wkA hp
 exact h2 x h3 r hr
theorem OpX.solo {K : Foot → St → Prop} {σ1 : St} (hxs : xs = []) (hd1 : σ1.rest = σ.rest) (h : OpT P G ro N o σ (fun τ => τ = σ1)) (hK : K none σ1) : OpX P G ro N xs o σ K := ⟨none, σ1, OpD.solo hxs hd1 h, hK⟩
def whW (P : Program) (G : List (Nat × PD)) (ro : Option Nat) (N : Nat) (xs : Exc) (o : Oper) (σ : St) (K : Foot → St → Prop) : Prop :=
 wan N o.dst ∧ match wb7 P G σ o.op with
 | some v => exE xs (waJ o.dst v) ∧ K (some (waF (waq o.op) ++ wkx σ o.op, waN o.dst)) (σ.put o.dst v)
 | none => match wg8 P σ (fresh σ.heap) o.op with
  | some xp => exE xs (waJ o.dst xp.2 ++ [(.h (fresh σ.heap), .r (some xp.1))]) ∧ K (some (.h (fresh σ.heap) :: waF (waq o.op), waN o.dst ++ [.h (fresh σ.heap)])) (({ σ with heap := waj σ.heap (fresh σ.heap) xp.1 } : St).put o.dst xp.2)
  | none => match wgc P σ o.op with
   | some rx => exE xs (waJ o.dst .any ++ [(.h rx.1, .r (some rx.2))]) ∧ K (some (.h rx.1 :: waF (waq o.op), waN o.dst ++ [.h rx.1])) (({ σ with heap := waj σ.heap rx.1 rx.2 } : St).put o.dst .any)
   | none => match xs, wme P σ o.dst o.op with
    | [], some σ' => σ'.rest = σ.rest ∧ K none σ'
    | _, _ => OpX P G ro N xs o σ K
theorem OpX.vc {K : Foot → St → Prop} (h : whW P G ro N xs o σ K) : OpX P G ro N xs o σ K := by
 obtain ⟨hd, h⟩ := h
 split at h
 ·rename_i v hv; exact ⟨_, _, OpD.pure hv hd h.1, h.2⟩
 ·split at h
  ·rename_i xp hx; exact ⟨_, _, OpD.new hx hd (weU _) (wgP _) h.1, h.2⟩
  ·split at h
   ·rename_i rx hx; exact ⟨_, _, OpD.store hx hd h.1, h.2⟩
   ·split at h
    ·rename_i σ' hs; exact ⟨_, _, OpD.solo rfl h.1 (OpT.mem hs hd rfl), h.2⟩
    ·exact h
def wrJ (P : Program) (G : List (Nat × PD)) (ro : Option Nat) (N : Nat) (xs : Exc) (ds : List (Option Tmp)) (o : Oper) (σ : St) (K : Foot → St → Prop) : Prop :=
 match o.guard with
 | none => whW P G ro N xs o σ K
 | some (j, want) => match wet σ ds j with
  | some b => (b = want → whW P G ro N xs o σ (fun f σ1 => K (f.plus (wfo ds o.guard)) σ1)) ∧ (b ≠ want → wan N o.dst ∧ K (some (wfo ds o.guard, waN o.dst)) (σ.put o.dst .any))
  | none => False
theorem DOps.cons {rest : List Oper} {acc : List Foot} {Q : St → Prop} (h : ∀ K : Foot → St → Prop, (∀ f σ1, DOps P G ro N xs ops Q rest (acc ++ [f]) σ1 → K f σ1) → wrJ P G ro N xs (wbg ops) o σ K) :
  DOps P G ro N xs ops Q (o :: rest) acc σ := by
 have h := h (fun f σ1 => DOps P G ro N xs ops Q rest (acc ++ [f]) σ1) (fun _ _ h => h)
 unfold wrJ at h
 split at h
 ·rename_i hg
  obtain ⟨f, σ1, h1, h2⟩ := OpX.vc h
  exact .step (DStep.plain hg h1) h2
 ·rename_i j want hg
  split at h
  ·rename_i b hb
   by_cases hbw : b = want
   ·subst hbw
    obtain ⟨f, σ1, h1, h2⟩ := OpX.vc (h.1 rfl)
    exact .step (DStep.yes hg hb h1) h2
   ·obtain ⟨h1, h2⟩ := h.2 hbw
    exact .step (DStep.no hg hb hbw h1) h2
  ·exact h.elim
theorem DOps.nil {acc : List Foot} {Q : St → Prop} (h : woN ops.toList acc = true) (hq : Q σ) : DOps P G ro N xs ops Q [] acc σ := .stop h (AOps.nil hq)
end
end Go.Pv

namespace Go.Pv
attribute [go_sem] valRows valRowsL wjv waq waF wcS wkx wg8 wgc waN wfo Foot.plus wrJ whW exE exOk wk6 wmh waJ Cont.rows rowsOf rowsOfL Key.among List.contains_cons List.contains_nil
end Go.Pv

namespace Go.Pv
mutual
def PV.ren (g : Nat → Nat) : PV → PV
 | .ptr r i off => .ptr (g r) i off
 | .slc r lo n => .slc (g r) lo n
 | .mp r => .mp (g r)
 | .func fn l => .func fn (renL g l)
 | .agg l => .agg (renL g l)
 | .tuple l => .tuple (renL g l)
 | .any => .any
 | .d x => .d x
 | .b x => .b x
 | .dptr k els i off => .dptr k els i off
 | .bptr k els i off => .bptr k els i off
 | .glob n => .glob n
 | .val v => .val v
def renL (g : Nat → Nat) : List PV → List PV
 | [] => []
 | p :: l => p.ren g :: renL g l
end
theorem wao (g : Nat → Nat) : ∀ l : List PV, (renL g l).length = l.length
 | [] => rfl
 | p :: l => by simp only [renL, List.length_cons, wao g l]
theorem wcj (g : Nat → Nat) : ∀ (l : List PV) (i : Nat) (hi : i < l.length) (hi' : i < (renL g l).length), (renL g l)[i] = (l[i]).ren g
 | p :: l, 0, _, _ => by simp [renL]
 | p :: l, i + 1, hi, hi' => by simpa [renL] using wcj g l i (by simpa using hi) (by simpa [renL] using hi')
 | [], i, hi, _ => by simp at hi
def Row.ren (g : Nat → Nat) (x : Row) : Row := { x with els := renL g x.els }
theorem wev (g : Nat → Nat) : ∀ l : List PV, renL g l = l.map (PV.ren g)
 | [] => by simp [renL]
 | p :: l => by simp [renL, wev g l]
theorem wlW (g : Nat → Nat) {p : PV} (h : wa0 p = true) : p.ren g = p := by
 cases p <;> simp [wa0] at h
 simp [PV.ren]
theorem wpM {g : Nat → Nat} {p : PV} (h : wa0 (p.ren g) = true) : wa0 p = true := by
 cases p <;> simp [PV.ren, wa0] at h ⊢
 exact h
theorem headOk.of_ren {g : Nat → Nat} {z : Nat} {l : List PV} (h : headOk z (renL g l)) : headOk z l := fun i hi => by
 obtain ⟨p, h1, h2⟩ := h i hi
 rw [wev, List.getElem?_map, Option.map_eq_some_iff] at h1
 obtain ⟨q, h3, rfl⟩ := h1
 exact ⟨q, h3, wpM h2⟩
mutual
def clean : PV → Prop
 | .b _ => False
 | .bptr _ _ _ _ => False
 | .func _ l => cleanL l
 | .agg l => cleanL l
 | .tuple l => cleanL l
 | .any => True
 | .d _ => True
 | .dptr _ _ _ _ => True
 | .ptr _ _ _ => True
 | .slc _ _ _ => True
 | .mp _ => True
 | .glob _ => True
 | .val _ => True
def cleanL : List PV → Prop
 | [] => True
 | p :: l => clean p ∧ cleanL l
end
theorem wcq : ∀ {l : List PV}, cleanL l → ∀ i (hi : i < l.length), clean l[i]
 | [], _, i, hi => by simp at hi
 | p :: l, h, 0, _ => h.1
 | p :: l, h, i + 1, hi => by simpa using wcq h.2 i (by simpa using hi)
structure Hand (σ : St) (H : wac) (g : Nat → Nat) : Prop where
 pin : ∀ r x, waa H r = some x → r < 1000
 row : ∀ r x, waa H r = some x → waa σ.heap (g r) = some (x.ren g)
 inj : ∀ r s x y, waa H r = some x → waa H s = some y → g r = g s → r = s
 refs : ∀ r x, waa H r = some x → refsInL H x.els
structure Hand0 (σ : St) (H : wac) (g : Nat → Nat) : Prop where
 row : ∀ r x, waa H r = some x → waa σ.heap (g r) = some (x.ren g)
 inj : ∀ r s x y, waa H r = some x → waa H s = some y → g r = g s → r = s
 refs : ∀ r x, waa H r = some x → refsInL H x.els
theorem Hand.h0 {σ : St} {H : wac} {g : Nat → Nat} (h : Hand σ H g) : Hand0 σ H g := ⟨h.row, h.inj, h.refs⟩
structure Back (σ : St) (H H' : wac) (g ρ : Nat → Nat) : Prop where
 old : ∀ r x', waa H' r = some x' → r < 1000 → ∃ x, waa H r = some x ∧ ρ r = g r ∧ x'.k = x.k ∧ (1 ≤ x.k → x'.els.length = x.els.length)
 all : ∀ r x, waa H r = some x → ∃ x', waa H' r = some x'
 new : ∀ r x', waa H' r = some x' → 1000 ≤ r → waa σ.heap (ρ r) = none ∧ 1000 ≤ ρ r
 inj : ∀ r s x y, waa H' r = some x → waa H' s = some y → ρ r = ρ s → r = s
 refs : ∀ r x, waa H' r = some x → refsInL H' x.els ∧ cleanL x.els
def wbJ (φ : Nm) (H : wac) (g : Nat → Nat) (gc : Gh) : Nm := ⟨fun r => if (waa H r).isSome = true then φ (g r) else none, fun b => gc.isSome = true ∧ φ.T b⟩
theorem wc8 {φ : Nm} {H : wac} {g : Nat → Nat} {gc : Gh} {r : Nat} {x : Row} (h : waa H r = some x) : (wbJ φ H g gc) r = φ (g r) := by
 show (if (waa H r).isSome = true then φ (g r) else none) = _
 rw [h]; rfl
def Base.hand {P : Program} (B : Base P) (w : World) (φ : Nm) (H0 H : wac) (g : Nat → Nat) (gc : Gh) (hk : B.w0.heap.size ≤ w.heap.size) (hlt : ∀ b, own φ H0 b → b < w.heap.size) : Base P :=
  { w0 := w, X := fun b => B.X b ∨ (own φ H0 b ∧ ¬ own (wbJ φ H g gc) H b), hX := fun b h => h.elim (fun h => Nat.lt_of_lt_of_le (B.hX b h) hk) (fun h => hlt b h.1), o0 := own (wbJ φ H g gc) H, φ0 := (wbJ φ H g gc).f, z0 := csz w, ro := none, held := [], hheld := fun _ => rfl,
    J := B.J, stab := B.stab, fr := B.fr, y := B.y, yok := B.yok }
section
variable {P : Program} {G : List (Nat × PD)} {B : Base P} {N : Nat} {σ : St} {a : Act} {w : World} {φ : Nm} {H H' H2 : wac} {g ρ : Nat → Nat} {gc : Gh}
theorem wd6 (hh : Hand0 σ H g) {b : Nat} (h : waC (wbJ φ H g gc) H b) : waC φ σ.heap b := by
 obtain ⟨r, x, h1, h2⟩ := h
 rw [wc8 h1] at h2
 exact ⟨g r, x.ren g, hh.row r x h1, h2⟩
theorem wc9 (hh : Hand0 σ H g) {b : Nat} (h : own (wbJ φ H g gc) H b) : own φ σ.heap b := h.elim (fun h => .inl (wd6 hh h)) (fun h => .inr h.2)
abbrev Rep.bc (hr : Rep G B N σ a w φ) (H : wac) (g : Nat → Nat) (gc : Gh) : Base P := B.hand w φ σ.heap H g gc hr.keeps.size (fun _ => hr.heap.own_lt)
theorem woQ (hr : Rep G B N σ a w φ) (hh : Hand0 σ H g) {b : Nat} (h : okd w B.X φ σ.heap b) : okd w (hr.bc H g gc).X (wbJ φ H g gc) H b :=
 ⟨h.1, fun hx => hx.elim h.2.1 (fun hx => h.2.2 hx.1), fun ho => h.2.2 (wc9 hh ho)⟩
theorem RepV.hand (hr : Rep G B N σ a w φ) (hh : Hand0 σ H g) {v : Value} {q : PV} (hv : RepV w B.X φ σ.heap v q) : ∀ {p : PV}, q = p.ren g → refsIn H p → RepV w (hr.bc H g gc).X (wbJ φ H g gc) H v p := by
 have hd : ∀ {v : Value} {x : PD}, RepD w (okd w B.X φ σ.heap) v x → RepD w (okd w (hr.bc H g gc).X (wbJ φ H g gc) H) v x := fun h => h.mono (fun b hb => woQ hr hh hb) (fun _ _ => rfl)
 have hb : ∀ {v : Value} {x : PD}, RepD w (okb w φ σ.heap) v x → RepD w (okb w (wbJ φ H g gc) H) v x := fun h => h.mono (fun b hb => ⟨hb.1, fun ho => hb.2 (wc9 hh ho)⟩) (fun _ _ => rfl)
 have hrow : ∀ {r : Nat} {x : Row}, waa σ.heap (g r) = some x → (waa H r).isSome = true → ∃ x0, waa H r = some x0 ∧ x = x0.ren g := fun {r x} h1 h2 => by
  obtain ⟨x0, h3⟩ := Option.isSome_iff_exists.1 h2
  refine ⟨x0, h3, ?_⟩
  have := hh.row _ _ h3
  rw [h1] at this; simpa using this
 induction hv with
 | any v => intro p hp _; cases p <;> simp only [PV.ren, reduceCtorEq] at hp; exact .any v
 | d h => intro p hp _; cases p <;> simp only [PV.ren, reduceCtorEq, PV.d.injEq] at hp; subst hp; exact .d (hd h)
 | b h => intro p hp _; cases p <;> simp only [PV.ren, reduceCtorEq, PV.b.injEq] at hp; subst hp; exact .b (hb h)
 | mp hx hφ hk =>
  intro p hp hrf
  cases p <;> simp only [PV.ren, reduceCtorEq, PV.mp.injEq] at hp
  subst hp
  simp only [refsIn] at hrf
  obtain ⟨x0, h1, rfl⟩ := hrow hx hrf
  exact RepV.mp (x := x0) h1 ((wc8 h1).trans hφ) hk
 | ptr hx hφ hk =>
  intro p hp hrf
  cases p <;> simp only [PV.ren, reduceCtorEq, PV.ptr.injEq] at hp
  obtain ⟨rfl, rfl, rfl⟩ := hp
  simp only [refsIn] at hrf
  obtain ⟨x0, h1, rfl⟩ := hrow hx hrf
  exact RepV.ptr (x := x0) h1 ((wc8 h1).trans hφ) hk
 | dptr h hi => intro p hp _; cases p <;> simp only [PV.ren, reduceCtorEq, PV.dptr.injEq] at hp; obtain ⟨rfl, rfl, rfl, rfl⟩ := hp; exact .dptr (hd h) hi
 | bptr h hi => intro p hp _; cases p <;> simp only [PV.ren, reduceCtorEq, PV.bptr.injEq] at hp; obtain ⟨rfl, rfl, rfl, rfl⟩ := hp; exact .bptr (hb h) hi
 | glob n => intro p hp _; cases p <;> simp only [PV.ren, reduceCtorEq, PV.glob.injEq] at hp; subst hp; exact .glob n
 | val hf => intro p hp _; cases p <;> simp only [PV.ren, reduceCtorEq, PV.val.injEq] at hp; subst hp; exact .val hf
 | slc hx hφ hk hn hc hl hz =>
  intro p hp hrf
  cases p <;> simp only [PV.ren, reduceCtorEq, PV.slc.injEq] at hp
  obtain ⟨rfl, rfl, rfl⟩ := hp
  simp only [refsIn] at hrf
  obtain ⟨x0, h1, rfl⟩ := hrow hx hrf
  simp only [Row.ren, wao] at hn hl
  exact RepV.slc (x := x0) h1 ((wc8 h1).trans hφ) hk hn hc hl hz
 | slc0 hx hφ hk hp0 =>
  intro p hp hrf
  cases p <;> simp only [PV.ren, reduceCtorEq, PV.slc.injEq] at hp
  obtain ⟨rfl, rfl, rfl⟩ := hp
  simp only [refsIn] at hrf
  obtain ⟨x0, h1, rfl⟩ := hrow hx hrf
  exact RepV.slc0 (x := x0) h1 ((wc8 h1).trans hφ) hk hp0
 | func hs _ ih =>
  intro p hp hrf
  cases p <;> simp only [PV.ren, reduceCtorEq, PV.func.injEq] at hp
  obtain ⟨rfl, rfl⟩ := hp
  simp only [refsIn] at hrf
  rw [wao] at hs
  exact .func hs fun i hi => ih i (by rw [wao]; exact hi) (wcj _ _ _ _ _) (wbc hrf i hi)
 | agg hs _ hf ih =>
  intro p hp hrf
  cases p <;> simp only [PV.ren, reduceCtorEq, PV.agg.injEq] at hp
  subst hp
  simp only [refsIn] at hrf
  rw [wao] at hs
  exact .agg hs (fun i hi => ih i (by rw [wao]; exact hi) (wcj _ _ _ _ _) (wbc hrf i hi)) (fun i hi => hf i (by rw [wao]; exact hi))
 | tuple hs _ ih =>
  intro p hp hrf
  cases p <;> simp only [PV.ren, reduceCtorEq, PV.tuple.injEq] at hp
  subst hp
  simp only [refsIn] at hrf
  rw [wao] at hs
  exact .tuple hs fun i hi => ih i (by rw [wao]; exact hi) (wcj _ _ _ _ _) (wbc hrf i hi)
theorem Rep.hand (hr : Rep G B N σ a w φ) (hh : Hand0 σ H g) (hg : gc = none ∨ gc = σ.gh) : Sit G (hr.bc H g gc) w (wbJ φ H g gc) H gc := by
 refine ⟨⟨fun r x b hx hb => ?_, fun r x hx hb => ?_, fun r s x y b hx hy hb hb' => ?_, fun b hT => ?_⟩, .refl _ _, fun r x b hx hb => .inl (.inl ⟨r, x, hx, hb⟩), fun _ _ _ _ => rfl, fun _ _ _ _ _ _ => rfl, fun n x hm => ?_, fun b hT => .inl (.inr hT), ?_⟩
 ·have hb' := hb
  rw [wc8 hx] at hb'
  refine (hr.heap.rows _ _ b (hh.row r x hx) hb').turn rfl rfl (by simp [Row.ren, wao]) (fun _ _ h => h) (fun hX => hX.elim (hr.heap.rows _ _ b (hh.row r x hx) hb').free (fun h => h.2 (.inl ⟨r, x, hx, hb⟩))) (fun i hi hi' v hv => ?_) (fun z hz => headOk.of_ren hz)
  exact hv.hand hr hh (by simp only [Row.ren]; exact wcj _ _ _ hi' _) (wbc (hh.refs r x hx) i hi')
 ·rw [wc8 hx] at hb
  have := hr.heap.void _ _ (hh.row r x hx) hb
  have hl := wao g x.els
  simp only [Row.ren] at this
  rw [this] at hl
  exact List.eq_nil_of_length_eq_zero hl.symm
 ·rw [wc8 hx] at hb
  rw [wc8 hy] at hb'
  exact hh.inj r s x y hx hy (hr.heap.inj _ _ _ _ b (hh.row r x hx) (hh.row s y hy) hb hb')
 ·obtain ⟨h1, h2, h3⟩ := hr.heap.far b hT.2
  exact ⟨h1, fun hX => hX.elim h2 (fun h => h.2 (.inr hT)), fun h => h3 (wd6 hh h)⟩
 ·obtain ⟨c, e, f, v, h1, h2, h3, h4, h5⟩ := hr.glob n x hm
  exact ⟨c, e, f, v, h1, fun ho => h2 (wc9 hh ho), h3.mono (fun b hb => woQ hr hh hb) (fun _ _ => rfl), h4, h5.1, fun hX => hX.elim h5.2 (fun h => h2 h.1)⟩
 ·cases gc with
  | none => exact fun b h => by simp [wbJ] at h
  | some p =>
   have hs : σ.gh = some p := (hg.resolve_left (by simp)).symm
   have hinv := hr.inv
   rw [hs] at hinv
   obtain ⟨l, all, xs, c⟩ := p
   have hT : (wbJ φ H g (some (l, all, xs, c))).T = φ.T := by funext b; simp [wbJ]
   rw [hT]
   have hM : ∀ b, (hr.bc H g (some (l, all, xs, c))).mine (wbJ φ H g (some (l, all, xs, c))) H b → B.mine φ σ.heap b := fun b hb => by
    rcases hb with (hb | ⟨hb, hn⟩) | hb
    ·exact .inl hb
    ·rcases hb with hb | hb
     ·exact .inr hb
     ·exact absurd (.inr ⟨rfl, hb⟩) hn
    ·exact .inr (wd6 hh hb)
   rcases hinv with hinv | ⟨hf, ha, m, ys, hx, hj⟩
   ·exact .inl ⟨hinv.1, hinv.2.1, B.stab _ _ _ _ _ _ hinv.2.2 rfl rfl rfl (Nat.le_refl _) (fun _ _ _ => rfl) (fun b hb => .inl (hM b hb))⟩
   ·exact .inr ⟨hf, ha, m, ys, hx, hj.stab (Nat.le_refl _) (fun _ _ _ => rfl) (fun b hb => .inl (hM b hb))⟩
open Classical in
noncomputable def wa2 (φ φ' : Nm) (H' : wac) (ρ : Nat → Nat) (gc : Gh) : Nm :=
 ⟨fun s => if h : ∃ r, (waa H' r).isSome = true ∧ ρ r = s then φ' (Classical.choose h) else φ s, fun b => if gc.isSome = true then φ'.T b else φ.T b⟩
open Classical in
theorem wcA {φ' : Nm} (hb : Back σ H H' g ρ) {r : Nat} {x : Row} (h : waa H' r = some x) : (wa2 φ φ' H' ρ gc) (ρ r) = φ' r := by
 have hex : ∃ r', (waa H' r').isSome = true ∧ ρ r' = ρ r := ⟨r, by rw [h]; rfl, rfl⟩
 show (if h : ∃ r', (waa H' r').isSome = true ∧ ρ r' = ρ r then φ' (Classical.choose h) else φ (ρ r)) = φ' r
 rw [dif_pos hex]
 obtain ⟨h1, h2⟩ := Classical.choose_spec hex
 obtain ⟨y, hy⟩ := Option.isSome_iff_exists.1 h1
 rw [hb.inj _ _ _ _ hy h h2]
open Classical in
theorem wa7 {φ' : Nm} {s : Nat} (h : ∀ r x, waa H' r = some x → ρ r ≠ s) : (wa2 φ φ' H' ρ gc) s = φ s := by
 show (if h : ∃ r', (waa H' r').isSome = true ∧ ρ r' = s then φ' (Classical.choose h) else φ s) = φ s
 rw [dif_neg]
 rintro ⟨r, h1, h2⟩
 obtain ⟨y, hy⟩ := Option.isSome_iff_exists.1 h1
 exact h r y hy h2
structure Merged (σ : St) (H' : wac) (ρ : Nat → Nat) (H2 : wac) : Prop where
 inn : ∀ r x, waa H' r = some x → waa H2 (ρ r) = some (x.ren ρ)
 out : ∀ s, (∀ r x, waa H' r = some x → ρ r ≠ s) → waa H2 s = waa σ.heap s
def wbQ (ρ : Nat → Nat) : wac → wac → wac
 | [], H0 => H0
 | (r, x) :: l, H0 => waj (wbQ ρ l H0) (ρ r) (x.ren ρ)
theorem whl : ∀ {l H0 : wac}, (∀ r s, (waa l r).isSome = true → (waa l s).isSome = true → ρ r = ρ s → r = s) →
  (∀ r x, waa l r = some x → waa (wbQ ρ l H0) (ρ r) = some (x.ren ρ)) ∧ ∀ s, (∀ r x, waa l r = some x → ρ r ≠ s) → waa (wbQ ρ l H0) s = waa H0 s
 | [], H0, _ => ⟨fun r x h => by simp [waa] at h, fun s _ => rfl⟩
 | (r0, x0) :: l, H0, hi => by
  have hsub : ∀ r, (waa l r).isSome = true → (waa ((r0, x0) :: l) r).isSome = true := fun r h => by simp only [waa]; split <;> simp_all
  obtain ⟨h1, h2⟩ := whl (l := l) (H0 := H0) (fun r s hr hs => hi r s (hsub r hr) (hsub s hs))
  refine ⟨fun r x h => ?_, fun s h => ?_⟩
  ·simp only [wbQ, wag]
   by_cases hr : r0 = r
   ·subst hr; simp only [waa, if_true, Option.some.injEq] at h; subst h; simp
   ·have h' := h
    simp only [waa, if_neg hr] at h'
    rw [if_neg (fun e => hr (hi r0 r (by simp [waa]) (by rw [h]; rfl) e))]
    exact h1 r x h'
  ·simp only [wbQ, wag]
   rw [if_neg (h r0 x0 (by simp [waa]))]
   by_cases hex : ∃ x, waa l r0 = some x
   ·refine h2 s fun r x hx => ?_
    by_cases hr : r0 = r
    ·subst hr; exact h r0 x0 (by simp [waa])
    ·exact h r x (by simp only [waa, if_neg hr]; exact hx)
   ·refine h2 s fun r x hx => ?_
    have hr : r0 ≠ r := fun e => hex ⟨x, e ▸ hx⟩
    exact h r x (by simp only [waa, if_neg hr]; exact hx)
theorem Back.merged (hb : Back σ H H' g ρ) : Merged σ H' ρ (wbQ ρ H' σ.heap) := by
 obtain ⟨h1, h2⟩ := whl (ρ := ρ) (l := H') (H0 := σ.heap) (fun r s hr hs he => by
  obtain ⟨x, hx⟩ := Option.isSome_iff_exists.1 hr
  obtain ⟨y, hy⟩ := Option.isSome_iff_exists.1 hs
  exact hb.inj r s x y hx hy he)
 exact ⟨h1, h2⟩
end
end Go.Pv

namespace Go.Pv
section
variable {P : Program} {G : List (Nat × PD)} {B : Base P} {N : Nat} {σ : St} {a : Act} {w w' : World} {φ φ' : Nm} {H H' H2 : wac} {g ρ : Nat → Nat} {gc g' : Gh}
structure Came (hr : Rep G B N σ a w φ) (H H' H2 : wac) (g ρ : Nat → Nat) (gc g' : Gh) (w' : World) (φ' : Nm) : Prop where
 hh : Hand σ H g
 hg : gc = none ∨ gc = σ.gh
 hb : Back σ H H' g ρ
 hm : Merged σ H' ρ H2
 hs : Sit G (hr.bc H g gc) w' φ' H' g'
variable {hr : Rep G B N σ a w φ} (c : Came hr H H' H2 g ρ gc g' w' φ')
include c
theorem Came.old {b : Nat} (hlt : b < w.heap.size) (h : ¬ own (wbJ φ H g gc) H b) : w'.heap[b]? = w.heap[b]? := c.hs.keeps.block b hlt h
theorem Came.out_own {s b : Nat} {y : Row} (hn : ∀ r x, waa H' r = some x → ρ r ≠ s) (hy : waa σ.heap s = some y) (hφ : φ s = some b) : ¬ own (wbJ φ H g gc) H b := by
 rintro (⟨r, x, hx, hrb⟩ | hT)
 ·rw [wc8 hx] at hrb
  have e := hr.heap.inj _ _ _ _ b (c.hh.row r x hx) hy hrb hφ
  obtain ⟨x', hx'⟩ := c.hb.all r x hx
  obtain ⟨_, _, h2, _⟩ := c.hb.old r x' hx' (c.hh.pin r x hx)
  exact hn r x' hx' (h2.trans e)
 ·exact (hr.heap.far b hT.2).2.2 ⟨s, y, hy, hφ⟩
theorem Came.handed {r : Nat} {x' : Row} (hx' : waa H' r = some x') (hp : r < 1000) : ∃ x, waa H r = some x ∧ ρ r = g r ∧ x'.k = x.k ∧ (1 ≤ x.k → x'.els.length = x.els.length) ∧ φ' r = φ (g r) := by
 obtain ⟨x, h1, h2, h3, h4⟩ := c.hb.old r x' hx' hp
 refine ⟨x, h1, h2, h3, h4, ?_⟩
 have := c.hs.pins r x' hx' (by simp [pinned, hp])
 exact this.trans (wc8 (φ := φ) (g := g) (gc := gc) h1)
theorem Came.row_of {b : Nat} (h : waC (wa2 φ φ' H' ρ gc) H2 b) : waC φ' H' b ∨ ∃ s y, (∀ r x, waa H' r = some x → ρ r ≠ s) ∧ waa σ.heap s = some y ∧ φ s = some b := by
 obtain ⟨s, y, h1, h2⟩ := h
 by_cases hex : ∃ r x, waa H' r = some x ∧ ρ r = s
 ·obtain ⟨r, x, hx, rfl⟩ := hex
  rw [wcA c.hb hx] at h2
  exact .inl ⟨r, x, hx, h2⟩
 ·have hn : ∀ r x, waa H' r = some x → ρ r ≠ s := fun r x hx e => hex ⟨r, x, hx, e⟩
  rw [wa7 hn] at h2
  rw [c.hm.out s hn] at h1
  exact .inr ⟨s, y, hn, h1, h2⟩
theorem Came.own_old {b : Nat} (hlt : b < w.heap.size) (h : own (wa2 φ φ' H' ρ gc) H2 b) : own φ σ.heap b := by
 rcases h with h | h
 ·rcases c.row_of h with ⟨r, x, hx, hφ⟩ | ⟨s, y, _, hy, hφ⟩
  ·rcases c.hs.new r x b hx hφ with h | h
   ·exact wc9 c.hh.h0 h
   ·exact absurd hlt (Nat.not_lt.2 h)
  ·exact .inl ⟨s, y, hy, hφ⟩
 ·simp only [wa2] at h
  split at h
  ·rcases c.hs.tnew b h with h | h
   ·exact wc9 c.hh.h0 h
   ·exact absurd hlt (Nat.not_lt.2 h)
  ·exact .inr h
theorem Came.own_new {b : Nat} (hX : ¬ (hr.bc H g gc).X b) (ho : ¬ own φ' H' b) : ¬ own (wa2 φ φ' H' ρ gc) H2 b := by
 rintro (h | h)
 ·rcases c.row_of h with h | ⟨s, y, hn, hy, hφ⟩
  ·exact ho (.inl h)
  ·exact hX (.inr ⟨.inl ⟨s, y, hy, hφ⟩, c.out_own hn hy hφ⟩)
 ·simp only [wa2] at h
  split at h
  ·exact ho (.inr h)
  ·rename_i hgc
   refine hX (.inr ⟨.inr h, ?_⟩)
   rintro (h2 | h2)
   ·exact (hr.heap.far b h).2.2 (wd6 c.hh.h0 h2)
   ·exact hgc h2.1
theorem Came.ext : Ext w B.X φ σ.heap w' (wa2 φ φ' H' ρ gc) H2 := by
 have hsz := c.hs.keeps.size
 refine ⟨fun r x hx => ?_, fun b h => ⟨Nat.lt_of_lt_of_le h.1 hsz, h.2.1, fun ho => h.2.2 (c.own_old h.1 ho)⟩, fun b h => ⟨Nat.lt_of_lt_of_le h.1 hsz, fun ho => h.2 (c.own_old h.1 ho)⟩,
  fun b h => c.old h.1 (fun ho => h.2 (wc9 c.hh.h0 ho)), fun r x b hx hφ cs e f hcs => ?_⟩
 ·by_cases hex : ∃ r0 x0, waa H' r0 = some x0 ∧ ρ r0 = r
  ·obtain ⟨r0, x0', hx0, rfl⟩ := hex
   have hp : r0 < 1000 := by
    rcases Nat.lt_or_ge r0 1000 with h | h
    ·exact h
    ·have := (c.hb.new r0 x0' hx0 h).1
     rw [hx] at this; cases this
   obtain ⟨x0, h1, h2, h3, h4, h5⟩ := c.handed hx0 hp
   have h6 := c.hh.row r0 x0 h1
   rw [← h2, hx] at h6
   simp only [Option.some.injEq] at h6; subst h6
   refine ⟨x0'.ren ρ, c.hm.inn r0 x0' hx0, h3, fun hk => by simp only [Row.ren, wao]; exact h4 hk, ?_⟩
   rw [wcA c.hb hx0, h5, h2]
  ·have hn : ∀ r0 x0, waa H' r0 = some x0 → ρ r0 ≠ r := fun r0 x0 h e => hex ⟨r0, x0, h, e⟩
   exact ⟨x, (c.hm.out r hn).trans hx, rfl, fun _ => rfl, wa7 hn⟩
 ·have hw' : csz w' b = cs.size := by unfold csz; rw [hcs]
  have hcsz : csz w b = csz w' b → ∃ c0 e0 f0, w.heap[b]? = some (.cells c0 e0 f0) ∧ c0.size = cs.size := fun hcz => by
   obtain ⟨o, h1, h2⟩ := (hr.heap.rows r x b hx hφ).some
   cases o with
   | cells c0 e0 f0 => exact ⟨c0, e0, f0, h1, by rw [← hw', ← hcz]; unfold csz; rw [h1]⟩
   | map es cl =>
    exfalso
    have hk0 : x.k = 0 := Nat.eq_zero_of_not_pos fun hk => by
     obtain ⟨_, _, _, h3, _⟩ := (hr.heap.rows r x b hx hφ).here hk
     rw [h1] at h3; cases h3
    by_cases hex : ∃ r0 x0, waa H' r0 = some x0 ∧ ρ r0 = r
    ·obtain ⟨r0, x0', hx0, rfl⟩ := hex
     have hp : r0 < 1000 := by
      rcases Nat.lt_or_ge r0 1000 with h | h
      ·exact h
      ·have := (c.hb.new r0 x0' hx0 h).1
       rw [hx] at this; cases this
     obtain ⟨x0, h4, h5, h6, _, h7⟩ := c.handed hx0 hp
     have h8 := c.hh.row r0 x0 h4
     rw [← h5, hx] at h8
     simp only [Option.some.injEq] at h8
     have h9 : x0'.k = 0 := by rw [h6, ← hk0, h8]; rfl
     obtain ⟨_, _, h10, _⟩ := (c.hs.heap.rows r0 x0' b hx0 (by rw [h7, ← h5]; exact hφ)).map h9
     rw [hcs] at h10; cases h10
    ·have hn : ∀ r0 x0, waa H' r0 = some x0 → ρ r0 ≠ r := fun r0 x0 h e => hex ⟨r0, x0, h, e⟩
     have := c.old (hr.heap.lt hx hφ) (c.out_own hn hx hφ)
     rw [hcs, h1] at this; cases this
   | _ => cases h2
  refine hcsz ?_
  by_cases hex : ∃ r0 x0, waa H' r0 = some x0 ∧ ρ r0 = r
  ·obtain ⟨r0, x0', hx0, rfl⟩ := hex
   have hp : r0 < 1000 := by
    rcases Nat.lt_or_ge r0 1000 with h | h
    ·exact h
    ·have := (c.hb.new r0 x0' hx0 h).1
     rw [hx] at this; cases this
   obtain ⟨x0, h1, h2, h3, h4, h5⟩ := c.handed hx0 hp
   exact (c.hs.psz r0 x0' b hx0 (by simp [pinned, hp]) (by rw [h5, ← h2]; exact hφ)).symm
  ·have hn : ∀ r0 x0, waa H' r0 = some x0 → ρ r0 ≠ r := fun r0 x0 h e => hex ⟨r0, x0, h, e⟩
   exact (wem (c.old (hr.heap.lt hx hφ) (c.out_own hn hx hφ))).symm
theorem Came.okd {b : Nat} (h : okd w' (hr.bc H g gc).X φ' H' b) : okd w' B.X (wa2 φ φ' H' ρ gc) H2 b := ⟨h.1, fun hX => h.2.1 (.inl hX), c.own_new h.2.1 h.2.2⟩
theorem Came.val {v : Value} {p : PV} (hv : RepV w' (hr.bc H g gc).X φ' H' v p) : clean p → refsIn H' p → RepV w' B.X (wa2 φ φ' H' ρ gc) H2 v (p.ren ρ) := by
 have hd : ∀ {v : Value} {x : PD}, RepD w' (Pv.okd w' (hr.bc H g gc).X φ' H') v x → RepD w' (Pv.okd w' B.X (wa2 φ φ' H' ρ gc) H2) v x := fun h => h.mono (fun b hb => c.okd hb) (fun _ _ => rfl)
 induction hv with
 | any v => intro _ _; simp only [PV.ren]; exact .any v
 | d h => intro _ _; simp only [PV.ren]; exact .d (hd h)
 | b h => intro h0 _; simp [clean] at h0
 | @ptr r i off b x hx hφ hk => intro _ _; simp only [PV.ren]; exact RepV.ptr (x := x.ren ρ) (c.hm.inn _ _ hx) ((wcA c.hb hx).trans hφ) hk
 | @mp r b x hx hφ hk => intro _ _; simp only [PV.ren]; exact RepV.mp (x := x.ren ρ) (c.hm.inn _ _ hx) ((wcA c.hb hx).trans hφ) hk
 | dptr h hi => intro _ _; simp only [PV.ren]; exact .dptr (hd h) hi
 | bptr h hi => intro h0 _; simp [clean] at h0
 | glob n => intro _ _; simp only [PV.ren]; exact .glob n
 | val hf => intro _ _; simp only [PV.ren]; exact .val hf
 | @slc r lo n cap b x hx hφ hk hn hc hl hz => intro _ _; simp only [PV.ren]; exact RepV.slc (x := x.ren ρ) (c.hm.inn _ _ hx) ((wcA c.hb hx).trans hφ) hk (by simpa [Row.ren, wao] using hn) hc (by simpa [Row.ren, wao] using hl) hz
 | @slc0 r x p hx hφ hk hp => intro _ _; simp only [PV.ren]; exact RepV.slc0 (x := x.ren ρ) (c.hm.inn _ _ hx) ((wcA c.hb hx).trans hφ) hk hp
 | func hs _ ih =>
  intro h0 h1
  simp only [clean] at h0; simp only [refsIn] at h1
  simp only [PV.ren]
  refine .func (by rw [wao]; exact hs) (fun i hi => ?_)
  rw [wao] at hi
  rw [wcj _ _ i hi]
  exact ih i hi (wcq h0 i hi) (wbc h1 i hi)
 | agg hs _ hf ih =>
  intro h0 h1
  simp only [clean] at h0; simp only [refsIn] at h1
  simp only [PV.ren]
  refine .agg (by rw [wao]; exact hs) (fun i hi => ?_) (fun i hi => hf i (by rw [wao] at hi; exact hi))
  rw [wao] at hi
  rw [wcj _ _ i hi]
  exact ih i hi (wcq h0 i hi) (wbc h1 i hi)
 | tuple hs _ ih =>
  intro h0 h1
  simp only [clean] at h0; simp only [refsIn] at h1
  simp only [PV.ren]
  refine .tuple (by rw [wao]; exact hs) (fun i hi => ?_)
  rw [wao] at hi
  rw [wcj _ _ i hi]
  exact ih i hi (wcq h0 i hi) (wbc h1 i hi)
omit c in
theorem Dfr.wide {m m' : Nat → Prop} {X : Nat → Prop} {H : wac} {ds : List Deferred} {ps : List PV} (hm : ∀ D, m D → m' D) (h : Dfr m w X φ H ds ps) : Dfr m' w X φ H ds ps := by
 induction h with
 | nil => exact .nil
 | fn h1 h2 h3 _ ih => exact .fn h1 h2 h3 ih
 | mark h0 h1 h2 h3 _ ih => exact .mark (hm _ h0) h1 h2 h3 ih
def whm (σ : St) (gc g' : Gh) : Gh := match gc with | none => σ.gh | some _ => g'
theorem Came.rep : Rep G B N { σ with heap := H2, gh := whm σ gc g' } a w' (wa2 φ φ' H' ρ gc) := by
 have he := c.ext
 have hsz := c.hs.keeps.size
 have hnewB : ∀ b, own φ σ.heap b → B.o0 b ∨ B.w0.heap.size ≤ b := fun b h => h.elim (fun ⟨r, x, h1, h2⟩ => hr.new r x b h1 h2) (fun h => hr.tnew b h)
 have hlt : ∀ {s y b}, waa σ.heap s = some y → φ s = some b → b < w.heap.size := fun h1 h2 => hr.heap.lt h1 h2
 refine ⟨hr.size, fun t => (hr.env t).ext he, ⟨fun s y b hs hb => ?_, fun s y hs hb => ?_, fun s t y z b hs ht hb hb' => ?_, fun b hT => ?_⟩, ⟨c.hs.keeps.os.trans hr.keeps.os, c.hs.keeps.tape.trans hr.keeps.tape, c.hs.keeps.output.trans hr.keeps.output, Nat.le_trans hr.keeps.size hsz, fun b hb ho => ?_⟩,
  fun s y b hs hb => ?_, fun s y hs hp => ?_, fun s y b hs hp hb => ?_, hr.glob.ext he (fun n x hm => ?_), fun b hT => ?_, ?_, ?_⟩
 -- rows
 ·by_cases hex : ∃ r x, waa H' r = some x ∧ ρ r = s
  ·obtain ⟨r, x, hx, rfl⟩ := hex
   rw [wcA c.hb hx] at hb
   have hs' := c.hm.inn r x hx
   rw [hs] at hs'; simp only [Option.some.injEq] at hs'; subst hs'
   refine (c.hs.heap.rows r x b hx hb).turn rfl rfl (by simp [Row.ren, wao]) (fun _ _ h => h) (fun hX => (c.hs.heap.rows r x b hx hb).free (.inl hX)) (fun i hi' _ v h4 => ?_) fun z hz => by simp only [Row.ren, wev]; exact hz.map fun p hp => wlW ρ hp
   have := c.val h4 (wcq (c.hb.refs r x hx).2 i hi') (wbc (c.hb.refs r x hx).1 i hi')
   simp only [Row.ren]
   rw [wcj _ _ i hi']
   exact this
  ·have hn : ∀ r x, waa H' r = some x → ρ r ≠ s := fun r x h e => hex ⟨r, x, h, e⟩
   rw [c.hm.out s hn] at hs
   rw [wa7 hn] at hb
   exact (hr.heap.rows s y b hs hb).ext he (c.old (hlt hs hb) (c.out_own hn hs hb))
 ·by_cases hex : ∃ r x, waa H' r = some x ∧ ρ r = s
  ·obtain ⟨r, x, hx, rfl⟩ := hex
   rw [wcA c.hb hx] at hb
   have hs' := c.hm.inn r x hx
   rw [hs] at hs'; simp only [Option.some.injEq] at hs'; subst hs'
   simp only [Row.ren, c.hs.heap.void r x hx hb, renL]
  ·have hn : ∀ r x, waa H' r = some x → ρ r ≠ s := fun r x h e => hex ⟨r, x, h, e⟩
   rw [c.hm.out s hn] at hs
   rw [wa7 hn] at hb
   exact hr.heap.void s y hs hb
 -- no two rows in one block
 ·have key : ∀ {s t : Nat} {y z : Row}, (∃ r x, waa H' r = some x ∧ ρ r = s) → (∀ r x, waa H' r = some x → ρ r ≠ t) → waa H2 t = some z → (wa2 φ φ' H' ρ gc) s = some b → (wa2 φ φ' H' ρ gc) t = some b → False := by
   rintro s t y z ⟨r, x, hx, rfl⟩ hn ht h1 h2
   rw [wcA c.hb hx] at h1
   rw [wa7 hn] at h2
   rw [c.hm.out t hn] at ht
   rcases c.hs.new r x b hx h1 with h | h
   ·exact c.out_own hn ht h2 h
   ·exact absurd (hlt ht h2) (Nat.not_lt.2 h)
  by_cases h1 : ∃ r x, waa H' r = some x ∧ ρ r = s <;> by_cases h2 : ∃ r x, waa H' r = some x ∧ ρ r = t
  ·obtain ⟨r, x, hx, rfl⟩ := h1
   obtain ⟨r', x', hx', rfl⟩ := h2
   rw [wcA c.hb hx] at hb
   rw [wcA c.hb hx'] at hb'
   rw [c.hs.heap.inj r r' x x' b hx hx' hb hb']
  ·exact (key (y := y) h1 (fun r x h e => h2 ⟨r, x, h, e⟩) ht hb hb').elim
  ·exact (key (y := z) h2 (fun r x h e => h1 ⟨r, x, h, e⟩) hs hb' hb).elim
  ·have hn1 : ∀ r x, waa H' r = some x → ρ r ≠ s := fun r x h e => h1 ⟨r, x, h, e⟩
   have hn2 : ∀ r x, waa H' r = some x → ρ r ≠ t := fun r x h e => h2 ⟨r, x, h, e⟩
   rw [c.hm.out s hn1] at hs
   rw [c.hm.out t hn2] at ht
   rw [wa7 hn1] at hb
   rw [wa7 hn2] at hb'
   exact hr.heap.inj s t y z b hs ht hb hb'
 -- what is somebody else's
 ·simp only [wa2] at hT
  split at hT
  ·obtain ⟨h1, h2, h3⟩ := c.hs.heap.far b hT
   refine ⟨h1, fun hX => h2 (.inl hX), fun h => ?_⟩
   rcases c.row_of h with h | ⟨s, y, hn, hy, hφ⟩
   ·exact h3 h
   ·exact h2 (.inr ⟨.inl ⟨s, y, hy, hφ⟩, c.out_own hn hy hφ⟩)
  ·rename_i hgc
   obtain ⟨h1, h2, h3⟩ := hr.heap.far b hT
   refine ⟨Nat.lt_of_lt_of_le h1 hsz, h2, fun h => ?_⟩
   rcases c.row_of h with ⟨r, x, hx, hφ⟩ | ⟨s, y, hn, hy, hφ⟩
   ·rcases c.hs.new r x b hx hφ with h | h
    ·rcases h with h | h
     ·exact h3 (wd6 c.hh.h0 h)
     ·exact hgc h.1
    ·exact absurd h1 (Nat.not_lt.2 h)
   ·exact h3 ⟨s, y, hy, hφ⟩
 ·refine (c.old (Nat.lt_of_lt_of_le hb hr.keeps.size) (fun h => ?_)).trans (hr.keeps.block b hb ho)
  rcases hnewB b (wc9 c.hh.h0 h) with h | h
  ·exact ho h
  ·omega
 -- new
 ·by_cases hex : ∃ r x, waa H' r = some x ∧ ρ r = s
  ·obtain ⟨r, x, hx, rfl⟩ := hex
   rw [wcA c.hb hx] at hb
   rcases c.hs.new r x b hx hb with h | h
   ·exact hnewB b (wc9 c.hh.h0 h)
   ·exact .inr (Nat.le_trans hr.keeps.size h)
  ·have hn : ∀ r x, waa H' r = some x → ρ r ≠ s := fun r x h e => hex ⟨r, x, h, e⟩
   rw [c.hm.out s hn] at hs
   rw [wa7 hn] at hb
   exact hr.new s y b hs hb
 ·by_cases hex : ∃ r x, waa H' r = some x ∧ ρ r = s
  ·obtain ⟨r, x, hx, rfl⟩ := hex
   rw [wcA c.hb hx]
   rcases Nat.lt_or_ge r 1000 with h | h
   ·obtain ⟨x0, h1, h2, _, _, h5⟩ := c.handed hx h
    rw [h5, h2]
    exact hr.pins _ _ (c.hh.row r x0 h1) (h2 ▸ hp)
   ·have := (c.hb.new r x hx h).2
    simp only [pinned, decide_eq_true_eq] at hp; omega
  ·have hn : ∀ r x, waa H' r = some x → ρ r ≠ s := fun r x h e => hex ⟨r, x, h, e⟩
   rw [c.hm.out s hn] at hs
   rw [wa7 hn]
   exact hr.pins s y hs hp
 ·by_cases hex : ∃ r x, waa H' r = some x ∧ ρ r = s
  ·obtain ⟨r, x, hx, rfl⟩ := hex
   rw [wcA c.hb hx] at hb
   rcases Nat.lt_or_ge r 1000 with h | h
   ·obtain ⟨x0, h1, h2, _, _, h5⟩ := c.handed hx h
    exact (c.hs.psz r x b hx (by simp [pinned, h]) hb).trans (hr.psz _ _ b (c.hh.row r x0 h1) (h2 ▸ hp) (by rw [← h5]; exact hb))
   ·have := (c.hb.new r x hx h).2
    simp only [pinned, decide_eq_true_eq] at hp; omega
  ·have hn : ∀ r x, waa H' r = some x → ρ r ≠ s := fun r x h e => hex ⟨r, x, h, e⟩
   rw [c.hm.out s hn] at hs
   rw [wa7 hn] at hb
   exact (wem (c.old (hlt hs hb) (c.out_own hn hs hb))).trans (hr.psz s y b hs hp hb)
 ·obtain ⟨cs, e, f, v, h1, h2, _⟩ := hr.glob n x hm
  exact fun ho => h2 (c.own_old (Array.getElem?_eq_some_iff.1 h1).1 ho)
 ·simp only [wa2] at hT
  split at hT
  ·rcases c.hs.tnew b hT with h | h
   ·exact hnewB b (wc9 c.hh.h0 h)
   ·exact .inr (Nat.le_trans hr.keeps.size h)
  ·exact hr.tnew b hT
 -- the loop's body
 ·cases hgc : gc with
  | none =>
   subst hgc
   have hT : (wa2 φ φ' H' ρ none).T = φ.T := by funext b; simp [wa2]
   simp only [whm]
   refine wdW (w := w) (φ := φ) (H := σ.heap) hr.inv hT c.hs.keeps.os c.hs.keeps.tape c.hs.keeps.output hsz (fun b hlt hn => c.old hlt fun ho => ?_) (fun b h => ?_)
   ·rcases ho with h | h
    ·exact hn (wd6 c.hh.h0 h)
    ·exact absurd h.1 (by simp)
   ·rcases c.row_of h with ⟨r, x, hx, hφ⟩ | ⟨s, y, hn, hy, hφ⟩
    ·rcases c.hs.new r x b hx hφ with h | h
     ·rcases h with h | h
      ·exact .inl (wd6 c.hh.h0 h)
      ·exact absurd h.1 (by simp)
     ·exact .inr h
    ·exact .inl ⟨s, y, hy, hφ⟩
  | some p =>
   subst hgc
   have hT : (wa2 φ φ' H' ρ (some p)).T = φ'.T := by funext b; simp [wa2]
   rw [hT]
   simp only [whm]
   have hinv := c.hs.inv
   match g', hinv with
   | none, hinv => exact hinv
   | some (l, all, xs, d), hinv =>
    have hM : ∀ b, B.mine (wa2 φ φ' H' ρ (some p)) H2 b → (hr.bc H g (some p)).mine φ' H' b := fun b hb => by
     rcases hb with hb | hb
     ·exact .inl (.inl hb)
     ·rcases c.row_of hb with h | ⟨s, y, hn, hy, hφ⟩
      ·exact .inr h
      ·exact .inl (.inr ⟨.inl ⟨s, y, hy, hφ⟩, c.out_own hn hy hφ⟩)
    rcases hinv with hinv | ⟨hf, ha, m, ys, hx, hj⟩
    ·exact .inl ⟨hinv.1, hinv.2.1, B.stab _ _ _ _ _ _ hinv.2.2 rfl rfl rfl (Nat.le_refl _) (fun _ _ _ => rfl) (fun b hb => .inl (hM b hb))⟩
    ·exact .inr ⟨hf, ha, m, ys, hx, hj.stab (Nat.le_refl _) (fun _ _ _ => rfl) (fun b hb => .inl (hM b hb))⟩
 ·refine (hr.dfr.ext he).wide fun D hD => ⟨?_, hD.2⟩
  simp only [whm]
  rcases c.hg with h | h
  ·subst h; exact hD.1
  ·subst h; rw [hD.1]
end
end Go.Pv

namespace Go.Pv
def wio (g : Nat → Nat) (H : wac) : List Nat → Prop
 | [] => True
 | r :: l => (∀ x ∈ H, g x.1 ≠ r) ∧ wio g H l
theorem wj0 {g : Nat → Nat} {H : wac} : ∀ {l : List Nat}, wio g H l → ∀ r ∈ l, ∀ s x, waa H s = some x → g s ≠ r
 | r0 :: l, h, r, hr, s, x, hx => by
  rcases List.mem_cons.1 hr with rfl | hr
  ·have : ∃ y, (s, y) ∈ H := by
    clear h
    induction H with
    | nil => simp [waa] at hx
    | cons z H ih =>
     obtain ⟨k, y⟩ := z
     simp only [waa] at hx
     split at hx
     ·rename_i e; subst e; exact ⟨y, by simp⟩
     ·obtain ⟨y', hy⟩ := ih hx; exact ⟨y', by simp [hy]⟩
   obtain ⟨y, hy⟩ := this
   exact h.1 _ hy
  ·exact wj0 h.2 r hr s x hx
def wmj (H0 H : wac) (g : Nat → Nat) (p : PV) : PV → Prop
 | .any => True
 | .b x => p = .b x ∨ (frz H0 p = some x ∧ wio g H (rowsOf p))
 | .d x => p = .d x
 | .bptr k els i off => p = .bptr k els i off
 | .dptr k els i off => p = .dptr k els i off
 | .glob n => p = .glob n
 | .val v => p = .val v
 | .ptr r i off => p = .ptr (g r) i off ∧ (waa H r).isSome = true
 | .slc r lo n => p = .slc (g r) lo n ∧ (waa H r).isSome = true
 | .mp r => p = .mp (g r) ∧ (waa H r).isSome = true
 | .func fn l => p = (PV.func fn l).ren g ∧ refsInL H l
 | .agg l => p = (PV.agg l).ren g ∧ refsInL H l
 | .tuple l => p = (PV.tuple l).ren g ∧ refsInL H l
def wds (H0 H : wac) (g : Nat → Nat) : List PV → List PV → Prop
 | [], [] => True
 | p :: l, q :: m => wmj H0 H g p q ∧ wds H0 H g l m
 | _, _ => False
theorem wiE {H0 H : wac} {g : Nat → Nat} : ∀ {l m : List PV}, wds H0 H g l m → l.length = m.length ∧ ∀ i (hi : i < l.length) (hi' : i < m.length), wmj H0 H g l[i] m[i]
 | [], [], _ => ⟨rfl, fun i hi => by simp at hi⟩
 | p :: l, q :: m, h => by
  obtain ⟨h1, h2⟩ := wiE h.2
  refine ⟨by simp [h1], fun i hi hi' => ?_⟩
  cases i with
  | zero => exact h.1
  | succ i => simpa using h2 i (by simpa using hi) (by simpa using hi')
 | [], _ :: _, h => h.elim
 | _ :: _, [], h => h.elim
def wcr : PV → Option (FuncId × List PV)
 | .d (.fn (.func f)) => some (f, [])
 | .func (.func f) l => some (f, l)
 | _ => none
section
variable {P : Program} {G : List (Nat × PD)} {ro : Option Nat} {B : Base P} {N : Nat} {σ τ : St} {a : Act} {w w' : World} {φ φ' : Nm} {H H' H2 : wac} {g ρ : Nat → Nat} {gc g' : Gh} {o : Oper} {K : St → Prop}
theorem wmk {X : Nat → Prop} {v : Value} {p : PV} {f : FuncId} {caps : List PV} (h : wcr p = some (f, caps)) (hv : RepV w X φ H v p) :
  ∃ vs : Array Value, v = .func (.func f) #[] vs ∧ vs.size = caps.length ∧ ∀ i (hi : i < caps.length), RepV w X φ H (vs.getD i undef) caps[i] := by
 unfold wcr at h
 split at h <;> simp only [Option.some.injEq, Prod.mk.injEq, reduceCtorEq] at h
 ·obtain ⟨rfl, rfl⟩ := h
  have := waL hv
  cases this
  exact ⟨#[], rfl, rfl, fun i hi => by simp at hi⟩
 ·obtain ⟨rfl, rfl⟩ := h
  cases hv with
  | func hs h => exact ⟨_, rfl, hs, h⟩
theorem wkB {X : Nat → Prop} {H : wac} {ok : Nat → Prop} (hh : HeapOk w X φ H) (hok : ∀ b, okd w X φ H b → ok b) {v : Value} {p : PV} (hv : RepV w X φ H v p) :
  (∀ r ∈ rowsOf p, ∀ x b, waa H r = some x → φ r = some b → ok b) → ∀ {x : PD}, frz H p = some x → RepD w ok v x := by
 induction hv with
 | d h => intro _ x hx; simp only [frz, Option.some.injEq] at hx; subst hx; exact h.mono hok (fun _ _ => rfl)
 | @slc r lo n cap b x0 h1 h2 h7 h3 h4 h5 h6 =>
  intro hb x hx
  simp only [frz, h1, Option.map_eq_some_iff] at hx
  obtain ⟨l, hl, rfl⟩ := hx
  exact wfg hh h1 hl (.slc h1 h2 h7 h3 h4 h5 h6) hok (fun b hb' => hb r (by simp [rowsOf]) x0 b h1 hb')
 | @slc0 r x0 p h1 h2 h7 h3 =>
  intro hb x hx
  simp only [frz, h1, Option.map_eq_some_iff] at hx
  obtain ⟨l, hl, rfl⟩ := hx
  exact wfg hh h1 hl (.slc0 h1 h2 h7 h3) hok (fun b hb' => hb r (by simp [rowsOf]) x0 b h1 hb')
 | @agg vs ps hs _ hf ih =>
  intro hb x hx
  simp only [frz, Option.map_eq_some_iff] at hx
  obtain ⟨l, hl, rfl⟩ := hx
  obtain ⟨h1, h2⟩ := wlU hl
  simp only [rowsOf] at hb
  exact .agg (by rw [hs, h1]) (fun i hi => ih i (h1 ▸ hi) (fun r hr => hb r (wdB (h1 ▸ hi) hr)) (h2 i (h1 ▸ hi) hi)) (fun i hi => hf i (h1 ▸ hi))
 | _ => intro _ x hx; simp [frz] at hx
theorem wnG (hr : Rep G B N σ a w φ) (hh : Hand0 σ H g) {v : Value} {p q : PV} (hv : RepV w B.X φ σ.heap v p) (h : wmj σ.heap H g p q) : RepV w (hr.bc H g gc).X (wbJ φ H g gc) H v q := by
 cases q with
 | any => exact .any v
 | b x =>
  rcases h with rfl | ⟨h1, h2⟩
  ·exact hv.hand hr hh (by simp [PV.ren]) (by simp [refsIn])
  ·refine .b (wkB hr.heap (fun b hb => ⟨hb.1, fun ho => hb.2.2 (wc9 hh ho)⟩) hv (fun r hr' x b hx hb => ⟨hr.heap.lt hx hb, fun ho => ?_⟩) h1)
   rcases ho with ⟨s, y, hy, hφ⟩ | hT
   ·rw [wc8 hy] at hφ
    have e := hr.heap.inj _ _ _ _ b (hh.row s y hy) hx hφ hb
    exact wj0 h2 r hr' s y hy e
   ·exact (hr.heap.far b hT.2).2.2 ⟨r, x, hx, hb⟩
 | d x => have : p = .d x := h; subst this; exact hv.hand hr hh (by simp [PV.ren]) (by simp [refsIn])
 | bptr k els i off => have : p = .bptr k els i off := h; subst this; exact hv.hand hr hh (by simp [PV.ren]) (by simp [refsIn])
 | dptr k els i off => have : p = .dptr k els i off := h; subst this; exact hv.hand hr hh (by simp [PV.ren]) (by simp [refsIn])
 | glob n => have : p = .glob n := h; subst this; exact hv.hand hr hh (by simp [PV.ren]) (by simp [refsIn])
 | val v => have : p = .val v := h; subst this; exact hv.hand hr hh (by simp [PV.ren]) (by simp [refsIn])
 | ptr r i off => exact hv.hand hr hh (by rw [h.1]; simp [PV.ren]) (by simpa [refsIn] using h.2)
 | slc r lo n => exact hv.hand hr hh (by rw [h.1]; simp [PV.ren]) (by simpa [refsIn] using h.2)
 | mp r => exact hv.hand hr hh (by rw [h.1]; simp [PV.ren]) (by simpa [refsIn] using h.2)
 | func fn l => exact hv.hand hr hh h.1 (by simpa [refsIn] using h.2)
 | agg l => exact hv.hand hr hh h.1 (by simpa [refsIn] using h.2)
 | tuple l => exact hv.hand hr hh h.1 (by simpa [refsIn] using h.2)
theorem wnH (hr : Rep G B N σ a w φ) {ops : List Operand} {vs : Array Value} {caps : List PV} (h1 : vs.size = caps.length) (h2 : ∀ i (hi : i < caps.length), RepV w B.X φ σ.heap (vs.getD i undef) caps[i]) :
  (ops.map a.eval ++ vs.toList).length = (war σ ops ++ caps).length ∧ ∀ i (hi : i < (war σ ops ++ caps).length), RepV w B.X φ σ.heap ((ops.map a.eval ++ vs.toList).getD i undef) (war σ ops ++ caps)[i] := by
 obtain ⟨h3, h4⟩ := weT hr ops
 refine ⟨by simp [h3, h1], fun i hi => ?_⟩
 by_cases hin : i < (war σ ops).length
 ·rw [List.getElem_append_left hin]
  have := h4 i hin
  have e : (ops.map a.eval ++ vs.toList).getD i undef = (ops.map a.eval).getD i undef := by
   simp only [List.getD, List.getElem?_append, h3, hin, if_true]
  rw [e]; exact this
 ·have hc : i - (war σ ops).length < caps.length := by simp at hi; omega
  rw [List.getElem_append_right (by omega)]
  have e : (ops.map a.eval ++ vs.toList).getD i undef = vs.getD (i - (war σ ops).length) undef := by
   simp only [List.getD, List.getElem?_append, h3, hin, if_false, Array.getD_eq_getD_getElem?]
   simp
  rw [e]; exact h2 _ hc
theorem OpT.callG {c : Call} {f : FuncId} {xo : Operand} {caps args : List PV} {Post : PV → wac → Gh → Prop} (ho : o.op = .call c) (hc : c.callee = .value xo) (hx : wcr (σ.eval xo) = some (f, caps)) (hcal : wa1 P f = true)
  (hf : FnG P G f args H gc Post) (hh : Hand σ H g) (hg : gc = none ∨ gc = σ.gh) (ha : wds σ.heap H g (war σ c.args.toList ++ caps) args) (hd : wan N o.dst)
  (hK : ∀ p H' g', Post p H' g' → ∃ ρ, Back σ H H' g ρ ∧ clean p ∧ refsIn H' p ∧ K (({ σ with heap := wbQ ρ H' σ.heap, gh := whm σ gc g' } : St).put o.dst (p.ren ρ))) : OpT P G ro N o σ K := by
 intro B hro a w φ hr next Q hn
 obtain ⟨vs, hv1, hv2, hv3⟩ := wmk hx (hr.eval xo)
 obtain ⟨h1, h2⟩ := wiE ha
 obtain ⟨h3, h4⟩ := wnH hr (ops := c.args.toList) hv2 hv3
 have hcall := hf (hr.bc H g gc) (wbJ φ H g gc) (c.args.toList.map a.eval ++ vs.toList) rfl (h3.trans h1) (fun i hi => wnG hr hh.h0 (h4 i (h1 ▸ hi)) (h2 i (h1 ▸ hi) hi)) (hr.hand hh.h0 hg)
 have hrun : (o.semAt ro a.eval).run P w = .ok (.enter f (c.args.toList.map a.eval ++ vs.toList).toArray) w := by
  rw [Oper.semAt_eq _ _ _ (fun c hc => by rw [ho] at hc; cases hc)]
  have e1 : (c.args.toList.map a.eval ++ vs.toList).toArray = c.args.map a.eval ++ vs := by
   apply Array.toList_inj.1; simp
  have e2 : (#[] ++ c.args.map a.eval ++ vs : Array Value) = c.args.map a.eval ++ vs := by simp
  simp only [execOp, ho, resolve, hc, hv1, Deferred.ofValue, Sem.run_bind, Sem.run_pure, Result.andThen_ok, invoke, e1, e2]
  exact wfy hcal _ w
 refine ⟨fun _ _ => trivial, ?_⟩
 show o.uponIn (Fw ro) 0 P a next Q ((o.semAt ro a.eval).run P w)
 rw [hrun]
 refine ⟨fun h => (by cases h), ?_⟩
 refine CallsIn.mono (R := fun e w' => ∃ v p H' g' φ', e = .returned v ∧ Post p H' g' ∧ RepV w' (hr.bc H g gc).X φ' H' v p ∧ Sit G (hr.bc H g gc) w' φ' H' g') hcall ?_
 rintro e w' ⟨v, p, H', g', φ', rfl, hP, h5, h6⟩
 obtain ⟨ρ, hb, hcl, href, hKp⟩ := hK p H' g' hP
 have cm : Came hr H H' (wbQ ρ H' σ.heap) g ρ gc g' w' φ' := ⟨hh, hg, hb, hb.merged, h6⟩
 exact hn _ _ _ _ hKp (cm.rep.put hd (cm.val h5 hcl href))
theorem Rep.yielded {l : Nat} {all xs ys : List PD} {d e : Bool} {T' : Nat → Prop} (hr : Rep G B N σ a w φ) (hne : all ≠ []) (hg : σ.gh = some (l, all, xs, d)) (hJ : B.J (ys, e) (B.mine φ σ.heap) T' w') (hT : ∀ c, T' c → φ.T c ∨ w.heap.size ≤ c) (hT2 : ∀ c, T' c → c < w'.heap.size)
  (hos : w'.os = w.os) (htape : w'.tape = w.tape) (hout : w'.output = w.output) (hsz : w.heap.size ≤ w'.heap.size) (hk : ∀ c, c < w.heap.size → ¬ φ.T c → w'.heap[c]? = w.heap[c]?) :
  Rep G B N { σ with gh := some (l, all, ys, e) } a w' { φ with T := T' } := by
 have hrow : ∀ b, waC ({ φ with T := T' } : Nm) σ.heap b ↔ waC φ σ.heap b := fun b => Iff.rfl
 have hlt : ∀ b, waC φ σ.heap b → b < w.heap.size := fun b ⟨r, x, h1, h2⟩ => hr.heap.lt h1 h2
 have hown : ∀ b, b < w.heap.size → own ({ φ with T := T' } : Nm) σ.heap b → own φ σ.heap b := fun b hb h => h.elim .inl (fun h => (hT b h).elim .inr (fun h => by omega))
 have hrb : ∀ r x b, waa σ.heap r = some x → φ r = some b → w'.heap[b]? = w.heap[b]? := fun r x b h1 h2 => hk b (hr.heap.lt h1 h2) (fun hT => (hr.heap.far b hT).2.2 ⟨r, x, h1, h2⟩)
 have hext : Ext w B.X φ σ.heap w' { φ with T := T' } σ.heap := ⟨fun r x h => ⟨x, h, rfl, fun _ => rfl, rfl⟩, fun b h => ⟨Nat.lt_of_lt_of_le h.1 hsz, h.2.1, fun ho => h.2.2 (hown b h.1 ho)⟩, fun b h => ⟨Nat.lt_of_lt_of_le h.1 hsz, fun ho => h.2 (hown b h.1 ho)⟩,
  fun b h => hk b h.1 (fun hT => h.2 (.inr hT)), fun r x b h1 h2 c e f hh => ⟨c, e, f, (hrb r x b h1 h2) ▸ hh, rfl⟩⟩
 have hinv := hr.inv
 rw [hg] at hinv
 refine ⟨hr.size, fun t => (hr.env t).ext hext, ⟨fun r x b h1 h2 => (hr.heap.rows r x b h1 h2).ext hext (hrb r x b h1 h2), hr.heap.void, hr.heap.inj, fun b hb => ⟨hT2 b hb, fun hX => ?_, fun h => ?_⟩⟩,
  ⟨hos.trans hr.keeps.os, htape.trans hr.keeps.tape, hout.trans hr.keeps.output, Nat.le_trans hr.keeps.size hsz, fun b hb ho => ?_⟩, hr.new, hr.pins, fun r x b h1 h2 h3 => (wem (hrb r x b h1 h3)).trans (hr.psz r x b h1 h2 h3), hr.glob.ext hext (fun n x hm => ?_), fun b hb => ?_, .inl ⟨(hinv.resolve_right (fun h => hne h.2.1)).1, fun h => absurd h hne, hJ⟩, ?_⟩
 ·rcases hT b hb with h | h
  ·exact (hr.heap.far b h).2.1 hX
  ·exact absurd (B.hX b hX) (by have := hr.keeps.size; omega)
 ·rcases hT b hb with h2 | h2
  ·exact (hr.heap.far b h2).2.2 h
  ·have := hlt b h; omega
 ·refine (hk b (Nat.lt_of_lt_of_le hb hr.keeps.size) (fun hT => ?_)).trans (hr.keeps.block b hb ho)
  rcases hr.tnew b hT with h | h
  ·exact ho h
  ·omega
 ·obtain ⟨c, e, f, v, h1, h2, _⟩ := hr.glob n x hm
  exact fun ho => h2 (hown n (Array.getElem?_eq_some_iff.1 h1).1 ho)
 ·rcases hT b hb with h | h
  ·exact hr.tnew b h
  ·exact .inr (Nat.le_trans hr.keeps.size h)
 ·exact (hr.dfr.ext hext).wide fun D hD => absurd hD.1 (by rw [hg]; simp)
theorem OpT.yield {c : Call} {xo ao : Operand} {l : Nat} {all xs : List PD} {x : PD} (ho : o.op = .call c) (hc : c.callee = .value xo) (hx : σ.eval xo = .d (.fn (.yield l))) (hargs : c.args = #[ao]) (ha : σ.eval ao = .d x) (hg : σ.gh = some (l, all, xs, true)) (hall : (xs ++ [x]) <+: all) (hd : wan N o.dst)
    (hK : ∀ b, K (({ σ with gh := some (l, all, xs ++ [x], b) } : St).put o.dst (.d (.bool b)))) : OpT P G ro N o σ K := by
  intro B hro a w φ hr next Q hn
  have hinv := hr.inv
  rw [hg] at hinv
  have hne : all ≠ [] := fun e => by subst e; simp at hall
  obtain ⟨hy, _, hJ⟩ := hinv.resolve_right (fun h => hne h.2.1)
  have hxv := hr.eval xo
  rw [hx] at hxv
  have hxv : a.eval xo = .func (.yield l) #[] #[] := by
    have h0 := waL hxv
    generalize a.eval xo = v at h0 ⊢
    cases h0; rfl
  have hav := hr.eval ao
  rw [ha] at hav
  have hav := waL hav
  obtain ⟨f, tmps, assign, body, hinvk, hround⟩ := B.yok l all hy xs (B.mine φ σ.heap) φ.T w (a.eval ao) x hall hJ (fun b hb => hb.elim (fun h => Nat.lt_of_lt_of_le (B.hX b h) hr.keeps.size) (fun ⟨r, x, h1, h2⟩ => hr.heap.lt h1 h2))
    (fun b hb => ⟨(hr.heap.far b hb).1, fun hm => hm.elim (hr.heap.far b hb).2.1 (hr.heap.far b hb).2.2⟩)
    (hav.mono (fun b hb => ⟨hb.1, fun hm => hm.elim hb.2.1 (fun h => hb.2.2 (.inl h)), fun h => hb.2.2 (.inr h)⟩) (fun _ _ => rfl))
  have hrun : (o.semAt ro a.eval).run P w = .ok (.round l f tmps assign body) w := by
    rw [Oper.semAt_eq _ _ _ (fun c hc => by rw [ho] at hc; cases hc)]
    have e2 : (#[] ++ #[a.eval ao] : Array Value) = #[a.eval ao] := by simp
    simp only [execOp, ho, resolve, hc, hxv, Deferred.ofValue, Sem.run_bind, Sem.run_pure, Result.andThen_ok, hargs, List.map_toArray, List.map_cons, List.map_nil, e2]
    exact hinvk
  refine ⟨fun _ _ => trivial, ?_⟩
  show o.uponIn (Fw ro) 0 P a next Q ((o.semAt ro a.eval).run P w)
  rw [hrun]
  refine ⟨fun h => (by cases h), ?_⟩
  refine RoundIn.mono (R := fun e w' => ∃ b T', e = .returned (.bool b) ∧ B.J (xs ++ [x], b) (B.mine φ σ.heap) T' w' ∧ (∀ c, T' c → φ.T c ∨ w.heap.size ≤ c) ∧ (∀ c, T' c → c < w'.heap.size) ∧
        w'.os = w.os ∧ w'.tape = w.tape ∧ w'.output = w.output ∧ w.heap.size ≤ w'.heap.size ∧ ∀ c, c < w.heap.size → ¬ φ.T c → w'.heap[c]? = w.heap[c]?) hround ?_
  rintro e w' ⟨b, T', rfl, h1, h2, h3, h4, h5, h6, h7, h8⟩
  exact hn _ _ _ _ (hK b) ((hr.yielded hne hg h1 h2 h3 h4 h5 h6 h7 h8).put hd (.d (.bool b)))
end
end Go.Pv

namespace Go.Pv
def FnD (P : Program) (G : List (Nat × PD)) (f : FuncId) (args : List PV) (H : wac) (g : Gh) (Post : PV → wac → Gh → Prop) : Prop :=
 ∀ (B : Base P) (φ : Nm) (vs : List Value), B.ro = none → vs.length = args.length → (∀ i (hi : i < args.length), RepV B.w0 B.X φ H (vs.getD i undef) args[i]) → Sit G B B.w0 φ H g →
  CallsDIn (Fw none) 0 P f vs.toArray .returning B.w0 fun e u' w' => u' = .returning ∧ ∃ v p H' g' φ', e = .returned v ∧ Post p H' g' ∧ RepV w' B.X φ' H' v p ∧ Sit G B w' φ' H' g'
section
variable {P : Program} {G : List (Nat × PD)} {ro : Option Nat} {B : Base P} {N : Nat} {σ τ : St} {a : Act} {w w' : World} {φ φ' : Nm} {H H' H2 : wac} {g ρ : Nat → Nat} {gc g' : Gh} {o : Oper} {K : St → Prop}
theorem Dfr.none_left {m : Nat → Prop} {X : Nat → Prop} {H : wac} {ds : List Deferred} (hm : ∀ D, ¬ m D) (h : Dfr m w X φ H ds []) : ds = [] := by
 cases h with
 | nil => rfl
 | mark h0 => exact absurd h0 (hm _)
theorem Dfr.one_left {m : Nat → Prop} {X : Nat → Prop} {H : wac} {ds : List Deferred} {p : PV} (hm : ∀ D, ¬ m D) (h : Dfr m w X φ H ds [p]) : ∃ d fn caps, ds = [d] ∧ d.target = .fn fn caps ∧ d.args = #[] ∧ RepV w X φ H (.func fn #[] caps) p := by
 cases h with
 | fn h1 h2 h3 h => exact ⟨_, _, _, by rw [h.none_left hm], h1, h2, h3⟩
 | mark h0 => exact absurd h0 (hm _)
def ws1 (P : Program) (G : List (Nat × PD)) (fn : Func) (R : PV → wac → Gh → Prop) : Post
 | .normal, σ | .ret, σ => ∃ p, whT P G fn.results.toList σ = some p ∧ σ.dfr = [] ∧ σ.gh.isSome = true ∧ R p σ.heap σ.gh
 | _, _ => False
theorem FnD.intro {f : FuncId} {fn : Func} {c : Code} {args : List PV} {H : wac} {g : Gh} {R : PV → wac → Gh → Prop} (hf : P.funcs[f]? = some fn) (hb : fn.body = some c) (hN : args.length ≤ fn.ntmps)
  (h : AWp P G none fn.ntmps c ⟨wb8 0 args, H, [], g⟩ (ws1 P G fn R)) : FnD P G f args H g R := by
 intro B φ vs h0 h1 h2 h3
 refine callsDIn_of_wp (R := fun e w' => ∃ v p H' g' φ', e = .returned v ∧ R p H' g' ∧ RepV w' B.X φ' H' v p ∧ Sit G B w' φ' H' g') hf hb trivial ?_ rfl
 refine h B h0 _ _ φ (wnC hN h0 h1 h2 h3) _ fun e σ' a' w' φ' hF hr => ?_
 have fin : (∃ p, whT P G fn.results.toList σ' = some p ∧ σ'.dfr = [] ∧ σ'.gh.isSome = true ∧ R p σ'.heap σ'.gh) → a'.defers = [] ∧ ∃ v, (results fn a'.tmps).run P w' = .ok v w' ∧ ∃ v' p H' g' φ', Ending.returned v = .returned v' ∧ R p H' g' ∧ RepV w' B.X φ' H' v' p ∧ Sit G B w' φ' H' g' := by
  rintro ⟨p, h4, h5, h6, h7⟩
  obtain ⟨v, h8, h9⟩ := wpZ (P := P) hr h4
  have hd := hr.dfr
  rw [h5, B.hheld h0, List.append_nil] at hd
  exact ⟨hd.none_left (fun D hD => by rw [hD.1] at h6; simp at h6), v, h8, v, p, _, _, φ', rfl, h7, h9, hr.sit⟩
 cases e with
 | normal => exact fin hF
 | ret => exact fin hF
 | _ => exact hF.elim
def wml (H H' : wac) (e : List (Nat × PV)) : List (Nat × PV) → Prop
 | [] => True
 | (t, v) :: l => ((wam e t = v ∧ refsIn H' v) ∨ (frzT H (wam e t) = some v ∧ ∀ r ∈ rowsOf (wam e t), waa H' r = none)) ∧ wml H H' e l
theorem wmm {H H' : wac} {e : List (Nat × PV)} : ∀ {l : List (Nat × PV)}, wml H H' e l → ∀ t, wam l t = .any ∨ (wam e t = wam l t ∧ refsIn H' (wam l t)) ∨ (frzT H (wam e t) = some (wam l t) ∧ ∀ r ∈ rowsOf (wam e t), waa H' r = none)
 | [], _, _ => .inl rfl
 | (s, v) :: l, h, t => by
  simp only [wam]
  split
  ·rename_i hs; subst hs; exact .inr h.1
  ·exact wmm h.2 t
theorem wnh {X : Nat → Prop} (hh : HeapOk w X φ H) (hle : ∀ r x, waa H' r = some x → waa H r = some x) {v : Value} {p : PV} (hv : RepV w X φ H v p) : (∀ r ∈ rowsOf p, waa H' r = none) → ∀ {q : PV}, frzT H p = some q → RepV w X φ H' v q := by
 have hown : ∀ b, own φ H' b → own φ H b := fun b h => h.imp (fun ⟨r, x, h1, h2⟩ => ⟨r, x, hle r x h1, h2⟩) id
 have hok : ∀ b, okd w X φ H b → okd w X φ H' b := fun b h => ⟨h.1, h.2.1, fun ho => h.2.2 (hown b ho)⟩
 have hrow : ∀ r, waa H' r = none → ∀ x b, waa H r = some x → φ r = some b → okd w X φ H' b := fun r hn x b hx hb => ⟨hh.lt hx hb, (hh.rows r x b hx hb).free, fun ho => by
  rcases ho with ⟨s, y, hy, hs⟩ | hT
  ·have e := hh.inj s r y x b (hle s y hy) hx hs hb
   subst e; rw [hn] at hy; cases hy
  ·exact (hh.far b hT).2.2 ⟨r, x, hx, hb⟩⟩
 induction hv with
 | any v => intro _ q h; simp only [frzT, Option.some.injEq] at h; subst h; exact .any v
 | d hd => intro _ q h; simp only [frzT, Option.some.injEq] at h; subst h; exact .d (hd.mono hok (fun _ _ => rfl))
 | b hd => intro _ q h; simp [frzT] at h
 | mp _ _ _ => intro _ q h; simp [frzT] at h
 | @ptr r i off b x hx hφ hk1 =>
  intro hn q h
  simp only [frzT, hx] at h
  split at h <;> try (simp at h; done)
  rename_i l hl
  split at h <;> simp only [Option.some.injEq, reduceCtorEq] at h
  rename_i hi; subst h
  obtain ⟨c, C, _, h1, h2, h3, _⟩ := (hh.rows r x b hx hφ).here hk1
  have hlen : x.els.length = l.length := by rw [whh _ _ hl]; simp
  have hsl : RepV w X φ H (.slice (some ⟨b, 0 * x.k, none⟩) x.els.length C) (.slc r 0 x.els.length) := .slc hx hφ hk1 (by omega) h2.2.1 (by omega) (fun c' e f hh' => by
   rw [h1] at hh'; simp only [Option.some.injEq, Obj.cells.injEq] at hh'; rw [← hh'.1, Nat.zero_add]; exact h2.1)
  have hd := wfg hh hx hl hsl hok (fun b' hb' => hrow r (hn r (by simp [rowsOf])) x b' hx hb')
  rw [hlen, List.drop_zero, List.take_length] at hd
  have := RepV.dptr (off := off) (φ := φ) (H := H') hd hi
  simpa using this
 | dptr hd hi => intro _ q h; simp only [frzT, Option.some.injEq] at h; subst h; exact .dptr (hd.mono hok (fun _ _ => rfl)) hi
 | bptr hd hi => intro _ q h; simp [frzT] at h
 | glob g => intro _ q h; simp only [frzT, Option.some.injEq] at h; subst h; exact .glob g
 | val hf => intro _ q h; simp only [frzT, Option.some.injEq] at h; subst h; exact .val hf
 | slc h1 h2 h7 h3 h4 h5 h6 =>
  intro hn q h
  simp only [frzT, Option.map_eq_some_iff] at h
  obtain ⟨x, hx, rfl⟩ := h
  exact .d (wkB hh hok (.slc h1 h2 h7 h3 h4 h5 h6) (fun r hr x b => hrow r (hn r hr) x b) hx)
 | slc0 h1 h2 h7 h3 =>
  intro hn q h
  simp only [frzT, Option.map_eq_some_iff] at h
  obtain ⟨x, hx, rfl⟩ := h
  exact .d (wkB hh hok (.slc0 h1 h2 h7 h3) (fun r hr x b => hrow r (hn r hr) x b) hx)
 | func hs _ ih =>
  intro hn q h
  simp only [frzT, Option.map_eq_some_iff] at h
  obtain ⟨m, hm, rfl⟩ := h
  obtain ⟨h1, h2⟩ := whi hm
  simp only [rowsOf] at hn
  exact .func (by rw [hs, h1]) (fun i hi => ih i (h1 ▸ hi) (fun r hr => hn r (wdB (h1 ▸ hi) hr)) (h2 i (h1 ▸ hi) hi))
 | agg hs h' hf ih =>
  intro hn q h
  simp only [frzT, Option.map_eq_some_iff] at h
  obtain ⟨x, hx, rfl⟩ := h
  exact .d (wkB hh hok (.agg hs h' hf) (fun r hr x b => hrow r (hn r hr) x b) hx)
 | tuple hs _ ih =>
  intro hn q h
  simp only [frzT, Option.map_eq_some_iff] at h
  obtain ⟨m, hm, rfl⟩ := h
  obtain ⟨h1, h2⟩ := whi hm
  simp only [rowsOf] at hn
  exact .tuple (by rw [hs, h1]) (fun i hi => ih i (h1 ▸ hi) (fun r hr => hn r (wdB (h1 ▸ hi) hr)) (h2 i (h1 ▸ hi) hi))
theorem Sub.frz (h2 : wc6 τ.heap σ.heap) (h1 : wml σ.heap τ.heap σ.env τ.env) (h4 : wch τ.heap τ.heap) (h5 : σ.dfr = τ.dfr ∧ refsInL τ.heap τ.dfr ∧ σ.gh = τ.gh) : Sub G N σ τ := by
 intro P B a w φ hr
 refine ⟨φ, Rep.of_sit (h5.2.2 ▸ hr.sit.less (wbF h2) (weE h4)) hr.size (fun t => ?_) (h5.2.2 ▸ ((h5.1 ▸ hr.dfr).less (wbF h2) h5.2.1))⟩
 rcases wmm h1 t with h | ⟨h, h'⟩ | ⟨h, h'⟩
 ·rw [h]; exact .any _
 ·have := hr.env t
  rw [h] at this
  exact this.less (wbF h2) h'
 ·exact wnh hr.heap (wbF h2) (hr.env t) h' h
end
end Go.Pv

namespace Go.Pv
def whX : List (Nat × PV) → Prop
 | [] => True
 | (_, v) :: l => clean v ∧ whX l
def wgd : wac → Prop
 | [] => True
 | (_, x) :: l => cleanL x.els ∧ wgd l
theorem wkC : ∀ {l : List (Nat × PV)}, whX l → ∀ t, clean (wam l t)
 | [], _, _ => by simp [wam, clean]
 | (s, v) :: l, h, t => by
  simp only [wam]
  split
  ·exact h.1
  ·exact wkC h.2 t
theorem wj1 : ∀ {l : wac}, wgd l → ∀ r x, waa l r = some x → cleanL x.els
 | (s, y) :: l, h, r, x, hx => by
  simp only [waa] at hx
  split at hx
  ·simp only [Option.some.injEq] at hx; subst hx; exact h.1
  ·exact wj1 h.2 r x hx
def wcT (e : List (Nat × PV)) : List (Nat × PV) → List PV
 | [] => []
 | (t, _) :: l => wam e t :: wcT e l
def whu (e : List (Nat × PV)) : List PV := wcT e e
def wfc (tmps : Array Value) : List (Nat × PV) → List Value
 | [] => []
 | (t, _) :: l => tmps.getD t undef :: wfc tmps l
theorem wmn {w : World} {X : Nat → Prop} {φ : Nm} {H : wac} {tmps : Array Value} {e : List (Nat × PV)} (h : ∀ t, RepV w X φ H (tmps.getD t undef) (wam e t)) :
  ∀ l : List (Nat × PV), (wfc tmps l).length = (wcT e l).length ∧ ∀ i (hi : i < (wcT e l).length), RepV w X φ H ((wfc tmps l).getD i undef) (wcT e l)[i]
 | [] => ⟨rfl, fun i hi => by simp [wcT] at hi⟩
 | (t, v) :: l => by
  obtain ⟨h1, h2⟩ := wmn h l
  refine ⟨by simp [wfc, wcT, h1], fun i hi => ?_⟩
  cases i with
  | zero => simpa [wfc, wcT] using h t
  | succ i => simpa [wfc, wcT] using h2 i (by simpa [wcT] using hi)
theorem wlA {w : World} {X : Nat → Prop} {φ : Nm} {H : wac} {tmps : Array Value} {e : List (Nat × PV)} : ∀ {l : List (Nat × PV)}, (∀ i (hi : i < (wcT e l).length), RepV w X φ H ((wfc tmps l).getD i undef) (wcT e l)[i]) →
  ∀ t v, (t, v) ∈ l → RepV w X φ H (tmps.getD t undef) (wam e t)
 | (s, u) :: l, h, t, v, hm => by
  rcases List.mem_cons.1 hm with hm | hm
  ·cases hm
   simpa [wfc, wcT] using h 0 (by simp [wcT])
  ·exact wlA (l := l) (fun i hi => by simpa [wfc, wcT] using h (i + 1) (by simpa [wcT] using hi)) t v hm
theorem wrK {l : List (Nat × PV)} {t : Nat} : wam l t = .any ∨ ∃ v, (t, v) ∈ l := by
 induction l with
 | nil => exact .inl rfl
 | cons x l ih =>
  obtain ⟨s, v⟩ := x
  simp only [wam]
  by_cases h : s = t
  ·subst h; exact .inr ⟨v, by simp⟩
  ·rw [if_neg h]
   rcases ih with h | ⟨u, h⟩
   ·exact .inl h
   ·exact .inr ⟨u, by simp [h]⟩
def wmo (e : List (Nat × PV)) (a : Act) : Deferred := { target := .fn (.func 0) (wfc a.tmps e).toArray, args := #[] }
section
variable {P : Program} {G : List (Nat × PD)} {B : Base P} {N : Nat} {σ : St} {a : Act} {w w' : World} {φ φ' : Nm} {H : wac} {X X' : Nat → Prop}
theorem RepV.move (hd : ∀ b, okd w X φ H b → okd w' X' φ H b) (hk : ∀ b c e f, okd w X φ H b → w.heap[b]? = some (.cells c e f) → w'.heap[b]? = some (.cells c e f))
  (hrow : ∀ r x b, waa H r = some x → φ r = some b → w'.heap[b]? = w.heap[b]?) {v : Value} {p : PV} (hv : RepV w X φ H v p) : clean p → RepV w' X' φ H v p := by
 have hdd : ∀ {v : Value} {x : PD}, RepD w (okd w X φ H) v x → RepD w' (okd w' X' φ H) v x := fun h => h.mono' hd hk
 induction hv with
 | any v => intro _; exact .any v
 | d h => intro _; exact .d (hdd h)
 | b h => intro h0; simp [clean] at h0
 | ptr hx hφ h1 => intro _; exact .ptr hx hφ h1
 | mp hx hφ h1 => intro _; exact .mp hx hφ h1
 | dptr h hi => intro _; exact .dptr (hdd h) hi
 | bptr h hi => intro h0; simp [clean] at h0
 | glob g => intro _; exact .glob g
 | val hf => intro _; exact .val hf
 | slc hx hφ h1 hn hc hl hz => intro _; exact .slc hx hφ h1 hn hc hl (fun c e f h => hz c e f (by rw [← hrow _ _ _ hx hφ]; exact h))
 | slc0 hx hφ h1 hp => intro _; exact .slc0 hx hφ h1 hp
 | func hs _ ih => intro h0; simp only [clean] at h0; exact .func hs fun i hi => ih i hi (wcq h0 i hi)
 | agg hs _ hf ih => intro h0; simp only [clean] at h0; exact .agg hs (fun i hi => ih i hi (wcq h0 i hi)) hf
 | tuple hs _ ih => intro h0; simp only [clean] at h0; exact .tuple hs fun i hi => ih i hi (wcq h0 i hi)
theorem HeapOk.move (h : HeapOk w X φ H) (hT : ∀ b, ¬ φ.T b) (hc : wgd H) (hd : ∀ b, okd w X φ H b → okd w' X' φ H b) (hk : ∀ b c e f, okd w X φ H b → w.heap[b]? = some (.cells c e f) → w'.heap[b]? = some (.cells c e f))
  (hrow : ∀ r x b, waa H r = some x → φ r = some b → w'.heap[b]? = w.heap[b]?) (hfree : ∀ b, waC φ H b → ¬ X' b) : HeapOk w' X' φ H := by
 refine ⟨fun r x b hx hb => ?_, h.void, h.inj, fun b hb => absurd hb (hT b)⟩
 exact (h.rows r x b hx hb).turn rfl rfl rfl (fun _ _ h' => (hrow r x b hx hb).trans h') (hfree b ⟨r, x, hx, hb⟩) (fun i hi _ v hv => hv.move hd hk hrow (wcq (wj1 hc r x hx) i hi)) fun _ h => h
theorem GlobOk.move (h : GlobOk G w X φ H) (hd : ∀ b, okd w X φ H b → okd w' X' φ H b) (hk : ∀ b c e f, okd w X φ H b → w.heap[b]? = some (.cells c e f) → w'.heap[b]? = some (.cells c e f)) : GlobOk G w' X' φ H := by
 intro g x hm
 obtain ⟨c, e, f, v, h1, h2, h3, h4, h5, h6⟩ := h g x hm
 have ho : okd w X φ H g := ⟨(Array.getElem?_eq_some_iff.1 h1).1, h6, h2⟩
 exact ⟨c, e, f, v, hk g c e f ho h1, h2, h3.mono' hd hk, h4, h5, (hd g ho).2.1⟩
theorem GlobOk.cells (h : GlobOk G w X φ H) (hs : w'.heap.size = w.heap.size) (hw : ∀ (b : Nat) (o : Obj), o.dat = true → (w'.heap[b]? = some o ↔ w.heap[b]? = some o)) : GlobOk G w' X φ H :=
 h.move (fun b hb => ⟨hs.symm ▸ hb.1, hb.2⟩) (fun b c e f _ h => (hw b _ rfl).2 h)
theorem HeapOk.cells (h : HeapOk w X φ H) (hs : w'.heap.size = w.heap.size) (hw : ∀ (b : Nat) (o : Obj), o.dat = true → (w'.heap[b]? = some o ↔ w.heap[b]? = some o)) : HeapOk w' X φ H := by
 refine ⟨fun r x b hx hb => ?_, h.void, h.inj, fun b hT => ⟨hs.symm ▸ (h.far b hT).1, (h.far b hT).2⟩⟩
 exact (h.rows r x b hx hb).turn rfl rfl rfl (fun o ho h' => (hw _ o ho).2 h') (h.rows r x b hx hb).free (fun i hi _ v hv => hv.cells hs hw) fun _ h => h
theorem wnI (hw : ∀ (b : Nat) (o : Obj), o.dat = true → (w'.heap[b]? = some o ↔ w.heap[b]? = some o)) {b : Nat} {o : Obj} (ho : o.dat = true) (h : w.heap[b]? = some o) : csz w' b = csz w b := by
 unfold csz; rw [(hw _ o ho).2 h, h]
theorem woR {l : Nat} {r : Loop} {r' : Loop} (h : w.heap[l]? = some (.loop r)) (b : Nat) (o : Obj) (ho : o.dat = true) : (w.putObj l (.loop r')).heap[b]? = some o ↔ w.heap[b]? = some o := by
 by_cases hb : b = l
 ·subst hb
  rw [World.putObj_heap_same (Array.getElem?_eq_some_iff.1 h).1, h]; cases o <;> simp_all [Obj.dat]
 ·rw [World.putObj_heap_other hb]
theorem wk9 {b : Nat} (h : HeapOk w X φ H) (hb : ∀ o, o.dat = true → w.heap[b]? ≠ some o) : ¬ waC φ H b := by
 rintro ⟨r, x, hx, hφ⟩
 obtain ⟨o, h1, h2⟩ := (h.rows r x b hx hφ).some
 exact hb _ h2 h1
structure Bet (G : List (Nat × PD)) (B : Base P) (a : Act) (e : List (Nat × PV)) (H : wac) (M T : Nat → Prop) (l D : Nat) (rec : Loop) (w : World) (φ : Nm) : Prop where
 heap : HeapOk w M φ H
 noT : ∀ b, ¬ φ.T b
 env : ∀ t, RepV w M φ H (a.tmps.getD t undef) (wam e t)
 glob : GlobOk G w M φ H
 ts : ∀ b, T b ↔ waC φ H b ∨ b = l ∨ b = D
 loop : w.heap[l]? = some (.loop rec)
 mark : w.heap[D]? = some (.deferred (some []))
 new : ∀ r x b, waa H r = some x → φ r = some b → B.o0 b ∨ B.w0.heap.size ≤ b
 pins : ∀ r x, waa H r = some x → pinned r = true → φ r = B.φ0 r
 psz : ∀ r x b, waa H r = some x → pinned r = true → φ r = some b → csz w b = B.z0 b
 size : B.w0.heap.size ≤ w.heap.size
 mfar : ¬ M l ∧ ¬ M D
variable {e : List (Nat × PV)} {M M' T T' : Nat → Prop} {l D : Nat} {rec rec' : Loop}
theorem Bet.ne (h : Bet G B a e H M T l D rec w φ) : D ≠ l := fun e => by
 have h1 := h.loop
 have h2 := h.mark
 rw [e, h1] at h2; simp at h2
theorem Bet.stab (h : Bet G B a e H M T l D rec w φ) (hce : whX e) (hch : wgd H) (hsz : w.heap.size ≤ w'.heap.size) (hk : ∀ b, b < w.heap.size → ¬ M b → w'.heap[b]? = w.heap[b]?) (hM : ∀ b, M' b → M b ∨ w.heap.size ≤ b) : Bet G B a e H M' T l D rec w' φ := by
 have hl := (Array.getElem?_eq_some_iff.1 h.loop).1
 have hD := (Array.getElem?_eq_some_iff.1 h.mark).1
 have hMn : ∀ b, b < w.heap.size → ¬ M b → ¬ M' b := fun b hb hm hm' => (hM b hm').elim hm (by omega)
 have hd : ∀ b, okd w M φ H b → okd w' M' φ H b := fun b hb => ⟨Nat.lt_of_lt_of_le hb.1 hsz, hMn b hb.1 hb.2.1, hb.2.2⟩
 have hkc : ∀ b c e f, okd w M φ H b → w.heap[b]? = some (.cells c e f) → w'.heap[b]? = some (.cells c e f) := fun b c e f hb hc => (hk b hb.1 hb.2.1).trans hc
 have hrow : ∀ r x b, waa H r = some x → φ r = some b → w'.heap[b]? = w.heap[b]? := fun r x b hx hb => hk b (h.heap.lt hx hb) (h.heap.rows r x b hx hb).free
 exact ⟨h.heap.move h.noT hch hd hkc hrow (fun b ⟨r, x, hx, hb⟩ => hMn b (h.heap.lt hx hb) (h.heap.rows r x b hx hb).free), h.noT, fun t => (h.env t).move hd hkc hrow (wkC hce t), h.glob.move hd hkc, h.ts,
  (hk l hl h.mfar.1).trans h.loop, (hk D hD h.mfar.2).trans h.mark, h.new, h.pins, fun r x b h1 h2 h3 => (wem (hrow r x b h1 h3)).trans (h.psz r x b h1 h2 h3), Nat.le_trans h.size hsz, hMn l hl h.mfar.1, hMn D hD h.mfar.2⟩
def QB (G : List (Nat × PD)) (N : Nat) (e : List (Nat × PV)) (p : List PD → Prop) (I : List PD → wac) (ok : Nat → List PD → Prop) (Hx : Nat → List PD → wac) (xs : List PD) : Post
 | .normal, τ => p xs ∧ Sub G N τ ⟨[], I xs, [.func (.func 0) (whu e)], none⟩
 | .exit id, τ => ok id xs ∧ Sub G N τ ⟨[], Hx id xs, [.func (.func 0) (whu e)], none⟩
 | _, _ => False
def Base.round (B : Base P) (a : Act) (e : List (Nat × PV)) (M : Nat → Prop) (l : Nat) (w : World) (hM : ∀ b, M b → b < w.heap.size) (o : Nat → Prop) : Base P :=
  { w0 := w, X := M, hX := hM, o0 := o, φ0 := B.φ0, z0 := B.z0, ro := some l, held := [wmo e a], hheld := fun h => (by cases h), J := fun _ _ _ _ => True, stab := fun _ _ _ _ _ _ _ _ _ _ _ _ _ => trivial, y := none, yok := fun _ _ h => by cases h }
theorem Rep.no_gh {Br : Base P} (hy : Br.y = none) (hf : Br.fr = false) (hr : Rep G Br N σ a w φ) : σ.gh = none ∧ ∀ b, ¬ φ.T b := by
 have h := hr.inv
 cases hg : σ.gh with
 | none => rw [hg] at h; exact ⟨rfl, h⟩
 | some g => 
  obtain ⟨l, all, xs, c⟩ := g
  rw [hg] at h
  rcases h with h | h
  ·have := h.1
   rw [hy] at this; cases this
  ·rw [hf] at h; cases h.1
theorem Dfr.cells {m m' : Nat → Prop} {ds : List Deferred} {ps : List PV} (hm : ∀ D, ¬ m D) (hs : w'.heap.size = w.heap.size) (hw : ∀ (b : Nat) (o : Obj), o.dat = true → (w'.heap[b]? = some o ↔ w.heap[b]? = some o))
  (h : Dfr m w X φ H ds ps) : Dfr m' w' X φ H ds ps := by
 induction h with
 | nil => exact .nil
 | fn h1 h2 h3 _ ih => exact .fn h1 h2 (h3.cells hs hw) ih
 | mark h0 => exact absurd h0 (hm _)
theorem wrc {a2 : Act} {τ : St} {w2 : World} {φ2 : Nm} {Br : Base P} (hro : Br.ro = some l) (hh : Br.held = [wmo e a]) (hr : Rep G Br N τ a2 w2 φ2) (hd : τ.dfr = [.func (.func 0) (whu e)]) : ∀ t, RepV w2 Br.X φ2 τ.heap (a.tmps.getD t undef) (wam e t) := by
 have h := hr.dfr
 rw [hd, hh] at h
 have hm : ∀ D, ¬ (τ.gh = none ∧ Br.ro = none ∧ Br.w0.heap.size ≤ D) := fun D hD => by rw [hro] at hD; cases hD.2.1
 obtain ⟨d, fn, caps, h1, h2, h3, h4⟩ := h.one_left hm
 have hnil : a2.defers = [] := by
  have := congrArg List.length h1
  simp at this; exact this
 rw [hnil] at h1
 simp only [List.nil_append, List.cons.injEq, and_true] at h1
 subst h1
 simp only [wmo, Target.fn.injEq] at h2
 obtain ⟨rfl, rfl⟩ := h2
 cases h4 with | func hs h5 =>
 intro t
 rcases wrK (l := e) (t := t) with h | ⟨v, h⟩
 ·rw [h]; exact .any _
 ·exact wlA (l := e) (fun i hi => by
   have := h5 i hi
   simpa [List.getD, Array.getD_eq_getD_getElem?, whu] using this) t v h
end
end Go.Pv

namespace Go.Pv
def wsU {P : Program} (G : List (Nat × PD)) (B : Base P) (a : Act) (e : List (Nat × PV)) (p : List PD → Prop) (I : List PD → wac) (ok : Nat → List PD → Prop) (Hx : Nat → List PD → wac) (l D : Nat) (rec : LoopState → Option Code → Loop) :
  List PD × Bool → (Nat → Prop) → (Nat → Prop) → World → Prop
 | (xs, true), M, T, w => p xs ∧ ∃ φ, Bet G B a e (I xs) M T l D (rec .ready none) w φ
 | (xs, false), M, T, w => ∃ id, ok id xs ∧ ∃ φ, Bet G B a e (Hx id xs) M T l D (rec .done (some (.exit id))) w φ
section
variable {P : Program} {G : List (Nat × PD)} {B : Base P} {N : Nat} {σ : St} {a : Act} {w w' : World} {φ φ' : Nm} {e : List (Nat × PV)} {M T : Nat → Prop} {l D : Nat}
  {p : List PD → Prop} {I : List PD → wac} {ok : Nat → List PD → Prop} {Hx : Nat → List PD → wac} {t : Tmp} {assign body : Code} {xs : List PD} {x : PD} {v : Value} {fid : FuncId}
theorem Bet.round (rec : LoopState → Option Code → Loop) (hrec : ∀ st pe, rec st pe = { state := st, pending := pe, fn := fid, tmps := a.tmps, params := #[t], assign, body, defers := D })
  (hb : Bet G B a e (I xs) M T l D (rec .ready none) w φ) (hN : a.tmps.size = N) (ht : t < N) (hMlt : ∀ b, M b → b < w.heap.size) (hv : RepD w (fun b => b < w.heap.size ∧ ¬ M b ∧ ¬ T b) v x)
  (hbody : AWp P G (some l) N assign ⟨wcK e t (.d x), I xs, [.func (.func 0) (whu e)], none⟩ (Post.then (fun τ1 => AWp P G (some l) N body τ1 (QB G N e p I ok Hx (xs ++ [x]))) (fun _ _ => False))) :
  ∃ f tmps asg bdy, (invoke (.fn (.yield l) #[]) #[v]).run P w = .ok (.round l f tmps asg bdy) w ∧ RoundIn Fence.wide 0 P l f tmps asg bdy w fun e' w' => ∃ b T', e' = .returned (.bool b) ∧ wsU G B a e p I ok Hx l D rec (xs ++ [x], b) M T' w' ∧
   (∀ c, T' c → T c ∨ w.heap.size ≤ c) ∧ (∀ c, T' c → c < w'.heap.size) ∧ w'.os = w.os ∧ w'.tape = w.tape ∧ w'.output = w.output ∧ w.heap.size ≤ w'.heap.size ∧ ∀ c, c < w.heap.size → ¬ T c → w'.heap[c]? = w.heap[c]? := by
 have hl := (Array.getElem?_eq_some_iff.1 hb.loop).1
 have hD := (Array.getElem?_eq_some_iff.1 hb.mark).1
 have hne := hb.ne
 have hy := run_yield (P := P) (args := #[v]) hb.loop (by rw [hrec]; rfl)
 rw [hrec] at hy
 refine ⟨_, _, _, _, hy, roundIn_of_wpIn trivial ?_⟩
 -- the round's frame, when it begins
 obtain ⟨Br, hBr⟩ : ∃ Br, Br = B.round a e M l w hMlt (waC φ (I xs)) := ⟨_, rfl⟩
 have htmps : ((#[t] : Array Tmp).zip #[v]).foldl (fun tmps (t, a) => tmps.setIfInBounds t a) a.tmps = a.tmps.setIfInBounds t v := by simp
 have hxd : RepD w (okd w M φ (I xs)) v x := hv.mono (fun b h => ⟨h.1, h.2.1, fun ho => h.2.2 ((hb.ts b).2 (ho.elim .inl (fun h => absurd h (hb.noT b))))⟩) (fun _ _ => rfl)
 have hrep0 : Rep G Br N ⟨wcK e t (.d x), I xs, [.func (.func 0) (whu e)], none⟩ { tmps := a.tmps.setIfInBounds t v, defers := [] } w φ := by
  subst hBr
  refine ⟨by simpa using hN, fun s => ?_, hb.heap, .refl _ _, fun r y b h1 h2 => .inl ⟨r, y, h1, h2⟩, hb.pins, hb.psz, hb.glob, fun b h => absurd h (hb.noT b), hb.noT, ?_⟩
  ·show RepV w M φ (I xs) ((a.tmps.setIfInBounds t v).getD s undef) (wam (wcK e t (.d x)) s)
   simp only [wft]
   split
   ·rename_i h; subst h
    have hlt : t < a.tmps.size := hN ▸ ht
    simpa [Array.getD, hlt] using RepV.d (φ := φ) (X := M) (H := I xs) hxd
   ·rename_i h
    have := hb.env s
    simpa [Array.getD_eq_getD_getElem?, Array.getElem?_setIfInBounds, h] using this
  ·obtain ⟨h1, h2⟩ := wmn hb.env e
   refine .fn (d := wmo e a) rfl rfl (.func (by simpa [whu] using h1) (fun i hi => ?_)) .nil
   show RepV w M φ (I xs) _ _
   rw [show (wfc a.tmps e).toArray.getD i undef = (wfc a.tmps e).getD i undef by simp [List.getD, Array.getD_eq_getD_getElem?]]
   exact h2 i hi
 rw [htmps]
 refine hbody Br (by subst hBr; rfl) _ w φ hrep0 _ fun e1 τ1 a1 w1 φ1 he1 hr1 => ?_
 cases e1 with
 | normal =>
  change AWp P G (some l) N body τ1 (QB G N e p I ok Hx (xs ++ [x])) at he1
  have hk1 : Keeps (waC φ (I xs)) w w1 := by have := hr1.keeps; subst hBr; exact this
  have hnl : ¬ waC φ (I xs) l := wk9 hb.heap (fun o ho h => by rw [hb.loop] at h; cases h; cases ho)
  have hnD : ¬ waC φ (I xs) D := wk9 hb.heap (fun o ho h => by rw [hb.mark] at h; cases h; cases ho)
  have hl1 : w1.heap[l]? = some (.loop (rec .ready none)) := (hk1.block l hl hnl).trans hb.loop
  have hm1 : w1.heap[D]? = some (.deferred (some [])) := (hk1.block D hD hnD).trans hb.mark
  obtain ⟨busy, hbusy⟩ : ∃ r, r = { rec .ready none with state := .busy } := ⟨_, rfl⟩
  refine ⟨_, run_beginRound hl1 (by rw [hrec]), ?_⟩
  rw [← hbusy]
  obtain ⟨wb, hwb⟩ : ∃ wb, wb = w1.putObj l (.loop busy) := ⟨_, rfl⟩
  rw [← hwb]
  have hsb : wb.heap.size = w1.heap.size := by rw [hwb]; simp
  have hcb : ∀ (b : Nat) (o : Obj), o.dat = true → (wb.heap[b]? = some o ↔ w1.heap[b]? = some o) := by rw [hwb]; exact woR hl1
  have hlb : wb.heap[l]? = some (.loop busy) := by rw [hwb]; exact World.putObj_heap_same (Array.getElem?_eq_some_iff.1 hl1).1
  have hmb : wb.heap[D]? = some (.deferred (some [])) := by rw [hwb, World.putObj_heap_other hne]; exact hm1
  obtain ⟨hg1, hT1⟩ := hr1.no_gh (by subst hBr; rfl) (by subst hBr; rfl)
  obtain ⟨Bs, hBs⟩ : ∃ Bs, Bs = B.round a e M l wb (fun b h => by rw [hsb]; exact Nat.lt_of_lt_of_le (hMlt b h) hk1.size) (waC φ1 τ1.heap) := ⟨_, rfl⟩
  have hX1 : Br.X = M := by subst hBr; rfl
  have hrep1 : Rep G Bs N τ1 a1 wb φ1 := by
   have h1 := hr1.env
   have h2 := hr1.heap
   have h3 := hr1.glob
   have h4 := hr1.dfr
   have h5 := hr1.pins
   have h6 := hr1.psz
   rw [hX1] at h1 h2 h3 h4
   subst hBs
   refine ⟨hr1.size, fun s => (h1 s).cells hsb hcb, h2.cells hsb hcb, .refl _ _, fun r y b h1 h2 => .inl ⟨r, y, h1, h2⟩, ?_, fun r y b h7 h8 h9 => ?_, h3.cells hsb hcb, fun b h => absurd h (hT1 b), by rw [hg1]; exact hT1, ?_⟩
   ·subst hBr; exact h5
   ·obtain ⟨o, h10, ho⟩ := (h2.rows r y b h7 h9).some
    have := h6 r y b h7 h8 h9
    subst hBr
    exact (wnI hcb ho h10).trans this
   ·subst hBr
    exact h4.cells (fun D hD => by cases hD.2.1) hsb hcb
  refine he1 Bs (by subst hBs; rfl) a1 wb φ1 hrep1 _ fun e2 τ2 a2 w2 φ2 he2 hr2 => ?_
  have hk2 : Keeps (waC φ1 τ1.heap) wb w2 := by have := hr2.keeps; subst hBs; exact this
  -- blocks that no row of the round has
  have hrow1 : ∀ b, waC φ1 τ1.heap b → waC φ (I xs) b ∨ w.heap.size ≤ b := fun b ⟨r, y, h1, h2⟩ => by
   have := hr1.new r y b h1 h2
   subst hBr; exact this
  have hnl1 : ¬ waC φ1 τ1.heap l := wk9 hr1.heap (fun o ho h => by rw [hl1] at h; cases h; cases ho)
  have hnD1 : ¬ waC φ1 τ1.heap D := wk9 hr1.heap (fun o ho h => by rw [hm1] at h; cases h; cases ho)
  have hl2 : w2.heap[l]? = some (.loop busy) := (hk2.block l (by rw [hsb]; exact Nat.lt_of_lt_of_le hl hk1.size) hnl1).trans hlb
  have hm2 : w2.heap[D]? = some (.deferred (some [])) := (hk2.block D (by rw [hsb]; exact Nat.lt_of_lt_of_le hD hk1.size) hnD1).trans hmb
  have hchain : ∀ c, c < w.heap.size → ¬ T c → w2.heap[c]? = w.heap[c]? := fun c hc hT => by
   have h1 : ¬ waC φ (I xs) c := fun h => hT ((hb.ts c).2 (.inl h))
   have h2 : c ≠ l := fun h => hT ((hb.ts c).2 (.inr (.inl h)))
   have h3 : ¬ waC φ1 τ1.heap c := fun h => (hrow1 c h).elim h1 (by omega)
   rw [hk2.block c (by rw [hsb]; exact Nat.lt_of_lt_of_le hc hk1.size) h3, hwb, World.putObj_heap_other h2, hk1.block c hc h1]
  -- the end of the round
  have fin : ∀ (H3 : wac) (jump : Option Code), Sub G N τ2 ⟨[], H3, [.func (.func 0) (whu e)], none⟩ → ∃ φ3, (Instr.endRound l jump).run P w2 = .ok (.bool jump.isNone) (w2.putObj l (.loop (rec (if jump.isNone then .ready else .done) jump))) ∧
    Bet G B a e H3 M (fun b => waC φ3 H3 b ∨ b = l ∨ b = D) l D (rec (if jump.isNone then .ready else .done) jump) (w2.putObj l (.loop (rec (if jump.isNone then .ready else .done) jump))) φ3 ∧
    (∀ c, (waC φ3 H3 c ∨ c = l ∨ c = D) → T c ∨ w.heap.size ≤ c) ∧ (∀ c, (waC φ3 H3 c ∨ c = l ∨ c = D) → c < (w2.putObj l (.loop (rec (if jump.isNone then .ready else .done) jump))).heap.size) := fun H3 jump hsub => by
   obtain ⟨φ3, hr3⟩ := hsub P Bs a2 w2 φ2 hr2
   obtain ⟨hg3, hT3⟩ := hr3.no_gh (by subst hBs; rfl) (by subst hBs; rfl)
   have hend := run_endRound (P := P) jump hl2
   have hr' : ({ busy with state := if jump.isNone then .ready else .done, pending := jump } : Loop) = rec (if jump.isNone then .ready else .done) jump := by rw [hbusy]; simp only [hrec]
   rw [hr'] at hend
   have hs3 : (w2.putObj l (.loop (rec (if jump.isNone then .ready else .done) jump))).heap.size = w2.heap.size := by simp
   have hc3 := woR (r' := rec (if jump.isNone then .ready else .done) jump) hl2
   have hX3 : Bs.X = M := by subst hBs; rfl
   have hnew3 : ∀ b, waC φ3 H3 b → waC φ (I xs) b ∨ w.heap.size ≤ b := fun b ⟨r, y, h1, h2⟩ => by
    have := hr3.new r y b h1 h2
    subst hBs
    rcases this with h | h
    ·exact hrow1 b h
    ·exact .inr (Nat.le_trans hk1.size (by have h : wb.heap.size ≤ b := h; omega))
   have henv := wrc (Br := Bs) (a := a) (e := e) (by subst hBs; rfl) (by subst hBs; rfl) hr3 rfl
   have hheap := hr3.heap
   have hglob := hr3.glob
   rw [hX3] at henv hheap hglob
   refine ⟨φ3, hend, ⟨hheap.cells hs3 hc3, hT3, fun s => (henv s).cells hs3 hc3, hglob.cells hs3 hc3, fun b => Iff.rfl, World.putObj_heap_same (Array.getElem?_eq_some_iff.1 hl2).1, (World.putObj_heap_other hne).trans hm2, fun r y b h1 h2 => ?_, ?_, fun r y b h1 h2 h3 => ?_, ?_, hb.mfar⟩, fun c hc => ?_, fun c hc => ?_⟩
   ·rcases hnew3 b ⟨r, y, h1, h2⟩ with ⟨r', y', h3, h4⟩ | h
    ·exact hb.new r' y' b h3 h4
    ·exact .inr (Nat.le_trans hb.size h)
   ·have := hr3.pins
    subst hBs; exact this
   ·obtain ⟨o, h10, ho⟩ := (hheap.rows r y b h1 h3).some
    have := hr3.psz r y b h1 h2 h3
    subst hBs
    exact (wnI hc3 ho h10).trans this
   ·rw [hs3]; exact Nat.le_trans hb.size (Nat.le_trans hk1.size (hsb ▸ hk2.size))
   ·rcases hc with h | h
    ·rcases hnew3 c h with h | h
     ·exact .inl ((hb.ts c).2 (.inl h))
     ·exact .inr h
    ·exact .inl ((hb.ts c).2 (.inr h))
   ·rw [hs3]
    rcases hc with ⟨r, y, h1, h2⟩ | rfl | rfl
    ·exact hr3.heap.lt h1 h2
    ·exact (Array.getElem?_eq_some_iff.1 hl2).1
    ·exact (Array.getElem?_eq_some_iff.1 hm2).1
  have hos : w2.os = w.os := by rw [hk2.os, hwb]; exact hk1.os
  have htp : w2.tape = w.tape := by rw [hk2.tape, hwb]; exact hk1.tape
  have hou : w2.output = w.output := by rw [hk2.output, hwb]; exact hk1.output
  have hsz : w.heap.size ≤ w2.heap.size := Nat.le_trans hk1.size (hsb ▸ hk2.size)
  have last : ∀ o, (∀ c, c < w.heap.size → ¬ T c → (w2.putObj l o).heap[c]? = w.heap[c]?) := fun o c hc hT => by
   have h2 : c ≠ l := fun h => hT ((hb.ts c).2 (.inr (.inl h)))
   rw [World.putObj_heap_other h2]; exact hchain c hc hT
  cases e2 with
  | normal =>
   obtain ⟨hp, hsub⟩ := he2
   obtain ⟨φ3, h1, h2, h3, h4⟩ := fin _ none hsub
   exact ⟨_, _, h1, true, _, rfl, ⟨hp, φ3, h2⟩, h3, h4, hos, htp, hou, by simpa using hsz, last _⟩
  | exit id =>
   obtain ⟨hp, hsub⟩ := he2
   obtain ⟨φ3, h1, h2, h3, h4⟩ := fin _ (some (.exit id)) hsub
   exact ⟨_, _, h1, false, _, rfl, ⟨id, hp, φ3, h2⟩, h3, h4, hos, htp, hou, by simpa using hsz, last _⟩
  | _ => exact he2.elim
 | _ => exact he1.elim
end
end Go.Pv

namespace Go.Pv
section
variable {P : Program} {G : List (Nat × PD)} {B : Base P} {N : Nat} {σ : St} {a : Act} {w w' : World} {φ φ' : Nm} {Q : Post}
theorem RepV.free {X X' : Nat → Prop} {φ φ' : Nm} {H H' : wac} (hd : ∀ b, okd w X φ H b → okd w' X' φ' H' b) (hk : ∀ b, okd w X φ H b → w'.heap[b]? = w.heap[b]?) {v : Value} {p : PV} (hv : RepV w X φ H v p) : dOnly p → RepV w' X' φ' H' v p := by
 induction hv with
 | any v => intro _; exact .any v
 | d h => intro _; exact .d (h.mono hd hk)
 | b h => intro h0; simp [dOnly] at h0
 | ptr h1 => intro h0; simp [dOnly] at h0
 | mp h1 => intro h0; simp [dOnly] at h0
 | dptr h hi => intro _; exact .dptr (h.mono hd hk) hi
 | bptr h hi => intro h0; simp [dOnly] at h0
 | glob g => intro _; exact .glob g
 | val hf => intro _; exact .val hf
 | slc h1 => intro h0; simp [dOnly] at h0
 | slc0 h1 => intro h0; simp [dOnly] at h0
 | func hs _ ih => intro h0; simp only [dOnly] at h0; exact .func hs fun i hi => ih i hi (wdA h0 i hi)
 | agg hs _ hf ih => intro h0; simp only [dOnly] at h0; exact .agg hs (fun i hi => ih i hi (wdA h0 i hi)) hf
 | tuple hs _ ih => intro h0; simp only [dOnly] at h0; exact .tuple hs fun i hi => ih i hi (wdA h0 i hi)
theorem Dfr.marks {m m' : Nat → Prop} {X X' : Nat → Prop} {φ φ' : Nm} {H H' : wac} {ds : List Deferred} (h : Dfr m w X φ H ds []) (hm : ∀ D, m D → m' D) (hd : ∀ D, okd w X φ H D → w.heap[D]? = some (.deferred (some [])) → okd w' X' φ' H' D ∧ w'.heap[D]? = w.heap[D]?) : Dfr m' w' X' φ' H' ds [] := by
 generalize hp : ([] : List PV) = ps at h ⊢
 induction h with
 | nil => exact .nil
 | fn => cases hp
 | mark h0 h1 h2 h3 _ ih => exact .mark (hm _ h0) (hd _ h1 h2).1 ((hd _ h1 h2).2.trans h2) h3 (ih hp)
end
end Go.Pv

namespace Go.Pv
def RowFn (P : Program) (G : List (Nat × PD)) (f : FuncId) (args : List PV) (e k : Nat) (l : List PD) : Prop :=
 Fn P G f args [] fun p H' => p = .slc 1000 0 l.length ∧ H' = [(1000, { e, k, els := dl l })]
@[go_sem] theorem dl_ren (ρ : Nat → Nat) (l : List PD) : renL ρ (dl l) = dl l := by
 induction l with
 | nil => rfl
 | cons x l ih => rw [wi1]; simp only [renL, PV.ren, ih]
@[go_sem] theorem dl_clean (l : List PD) : cleanL (dl l) = True := by
 induction l with
 | nil => simp [dl, cleanL]
 | cons x l ih => rw [wi1]; simp only [cleanL, clean, ih, and_self]
@[go_sem] theorem dl_rows (l : List PD) : rowsOfL (dl l) = [] := by
 induction l with
 | nil => simp [dl, rowsOfL]
 | cons x l ih => rw [wi1]; simp only [rowsOfL, rowsOf, ih, List.append_nil]
mutual
theorem kill_id {r : Nat} : ∀ (p : PV), r ∉ rowsOf p → p.kill r = p
 | .ptr s i off, h => by simp only [rowsOf, List.mem_singleton] at h; simp only [PV.kill]; rw [if_neg (Ne.symm h)]
 | .slc s lo n, h => by simp only [rowsOf, List.mem_singleton] at h; simp only [PV.kill]; rw [if_neg (Ne.symm h)]
 | .mp s, h => by simp only [rowsOf, List.mem_singleton] at h; simp only [PV.kill]; rw [if_neg (Ne.symm h)]
 | .func fn l, h => by simp only [rowsOf] at h; simp only [PV.kill, killL_id l h]
 | .agg l, h => by simp only [rowsOf] at h; simp only [PV.kill, killL_id l h]
 | .tuple l, h => by simp only [rowsOf] at h; simp only [PV.kill, killL_id l h]
 | .any, _ => by simp only [PV.kill]
 | .d _, _ => by simp only [PV.kill]
 | .b _, _ => by simp only [PV.kill]
 | .dptr _ _ _ _, _ => by simp only [PV.kill]
 | .bptr _ _ _ _, _ => by simp only [PV.kill]
 | .glob _, _ => by simp only [PV.kill]
 | .val _, _ => by simp only [PV.kill]
theorem killL_id {r : Nat} : ∀ (l : List PV), r ∉ rowsOfL l → killL r l = l
 | [], _ => by simp only [killL]
 | p :: l, h => by
  simp only [rowsOfL, List.mem_append, not_or] at h
  simp only [killL, kill_id p h.1, killL_id l h.2]
end
section
variable {P : Program} {G : List (Nat × PD)} {ro : Option Nat} {N : Nat} {xs : Exc} {σ : St} {o : Oper} {K : St → Prop}
theorem wjx (σ : St) : Hand σ [] id := ⟨fun r x h => by simp [waa] at h, fun r x h => by simp [waa] at h, fun r s x y h => by simp [waa] at h, fun r x h => by simp [waa] at h⟩
theorem wgs {H : wac} : ∀ {l m : List PV}, wdF H l m → wds H [] id l m
 | [], [], _ => trivial
 | p :: l, q :: m, h => by
  refine ⟨?_, wgs h.2⟩
  have h1 := h.1
  cases q with
  | any => trivial
  | d x => exact h1
  | b x =>
   rcases h1 with h1 | h1
   ·exact .inl h1
   ·refine .inr ⟨h1, ?_⟩
    generalize rowsOf p = rs
    induction rs with
    | nil => trivial
    | cons r rs ih => exact ⟨fun x hx => (by cases hx), ih⟩
  | _ => exact h1.elim
 | [], _ :: _, h => h.elim
 | _ :: _, [], h => h.elim
def wmp (r : Nat) (s : Nat) : Nat := if s = 1000 then r else s
theorem wrL {r : Nat} {x : Row} (hr0 : waa σ.heap r = none) (hp0 : 1000 ≤ r) (h1 : refsInL [(1000, x)] x.els) (h2 : cleanL x.els) : Back σ [] [(1000, x)] id (wmp r) := by
 have key : ∀ s y, waa [(1000, x)] s = some y → s = 1000 ∧ y = x := fun s y h => by
  simp only [waa] at h
  split at h
  ·rename_i e; simp only [Option.some.injEq] at h; exact ⟨e.symm, h.symm⟩
  ·cases h
 refine ⟨fun s y h hlt => ?_, fun s y h => by simp [waa] at h, fun s y h _ => ?_, fun s t y z h h' _ => by rw [(key s y h).1, (key t z h').1], fun s y h => ?_⟩
 ·have := (key s y h).1; omega
 ·rw [(key s y h).1]; exact ⟨hr0, hp0⟩
 ·rw [(key s y h).2]; exact ⟨h1, h2⟩
theorem OpT.callRow {c : Call} {f : FuncId} {xo : Operand} {args : List PV} {e k : Nat} {l : List PD} {r : Nat} (ho : o.op = .call c) (hc : c.callee = .value xo) (hx : wcr (σ.eval xo) = some (f, [])) (hcal : wa1 P f = true)
  (hf : RowFn P G f args e k l) (ha : wdF σ.heap (war σ c.args.toList) args) (hd : wan N o.dst) (hr0 : waa σ.heap r = none) (hp0 : 1000 ≤ r)
  (hK : K (({ σ with heap := waj σ.heap r { e, k, els := dl l } } : St).put o.dst (.slc r 0 l.length))) : OpT P G ro N o σ K := by
 refine OpT.callG (H := []) (g := id) (gc := none) ho hc hx hcal hf (wjx σ) (.inl rfl) (by rw [List.append_nil]; exact wgs ha) hd ?_
 rintro p H' g' ⟨rfl, rfl⟩
 refine ⟨wmp r, wrL hr0 hp0 (by simp only [dl_refs]) (by simp only [dl_clean]), by simp only [clean], by simp [refsIn, waa], ?_⟩
 simp only [wbQ, Row.ren, dl_ren, PV.ren, wmp, if_true, whm]
 exact hK
theorem OpX.callRow {K : Foot → St → Prop} {c : Call} {f : FuncId} {args : List PV} {e k : Nat} {l : List PD} (r : Nat) (ho : o.op = .call c) (hc : c.callee = .value (.func f)) (hcal : wa1 P f = true)
  (hf : RowFn P G f args e k l) (ha : wdF σ.heap (war σ c.args.toList) args) (hd : wan N o.dst) (hr0 : waa σ.heap r = none) (hp0 : 1000 ≤ r) (hx : exE xs (waJ o.dst (.slc r 0 l.length) ++ [(.h r, .r (some { e, k, els := dl l }))]))
  (hK : K (some (.h r :: (waF (waq o.op) ++ wcS σ (waq o.op)), waN o.dst ++ [.h r])) (({ σ with heap := waj σ.heap r { e, k, els := dl l } } : St).put o.dst (.slc r 0 l.length))) : OpX P G ro N xs o σ K := by
 refine ⟨_, _, ?_, hK⟩
 refine ⟨waJ o.dst (.slc r 0 l.length) ++ [(.h r, .r (some { e, k, els := dl l }))], fun k hk => ?_, hx, fun σ' hd' hs _ => ?_, wgR _ _ _ _ _, St.put_rest _ _ _⟩
 ·have := wci o.dst (.slc r 0 l.length)
  simp only [wcf, List.map_append, List.map_cons, List.map_nil] at hk this
  rw [this] at hk; exact hk
 ·have h1 := wcp (σ := σ) (σ' := σ') (l := waq o.op) fun k hk => hs k (List.mem_cons_of_mem _ (List.mem_append_left _ hk))
  have h2 := whG (σ := σ) (σ' := σ') (l := waq o.op) fun k hk => hs k (List.mem_cons_of_mem _ (List.mem_append_right _ hk))
  have h3 : waa σ'.heap r = none := by
   have := hs (.h r) (List.mem_cons_self ..)
   simp only [St.look, Cont.r.injEq] at this
   rw [this, hr0]
  rw [ho] at h1 h2
  refine OpT.callRow (r := r) ho hc rfl hcal hf ?_ hd h3 hp0 ⟨by rw [St.put_rest]; exact hd', wgR _ _ _ _ _⟩
  rw [wbO (l := c.args.toList) h1]
  refine whU (fun p hp r hr => ?_) ha
  obtain ⟨x, h3, rfl⟩ := wkA hp
  exact h2 x h3 r hr
theorem wqA {k : Nat} {H H' : wac} {p : PV} (h : ∀ r ∈ valRows p, waa H' r = waa H r) : wfx k H' p = wfx k H p := by
 cases p with
 | slc r lo n => simp only [wfx]; rw [h r (by simp [valRows])]
 | d x => cases x <;> rfl
 | b x => cases x <;> rfl
 | _ => rfl
def wgU : Exc → Nat → List Nat → Prop
 | [], _, _ => False
 | (r, S) :: l, s, T => (r = s ∧ S = T) ∨ wgU l s T
theorem wnJ {xs : Exc} {r : Nat} {S : List Nat} {k : Key} {c : Cont} (h : wgU xs r S) (hx : exOk xs k c) : k.among S = true ∨ c.rows.contains r = false := by
 induction xs with
 | nil => exact h.elim
 | cons x l ih =>
  obtain ⟨r', S'⟩ := x
  rcases h with ⟨rfl, rfl⟩ | h
  ·exact hx.1
  ·exact ih h hx.2
def wgV (e : List (Nat × PV)) (r ts : Nat) : List Nat → Prop
 | [] => True
 | t :: l => (t = ts ∨ (rowsOf (wam e t)).contains r = false) ∧ wgV e r ts l
theorem wkD {e : List (Nat × PV)} {r ts : Nat} : ∀ {l : List Nat}, wgV e r ts l → ∀ t ∈ l, t = ts ∨ r ∉ rowsOf (wam e t)
 | t0 :: l, h, t, ht => by
  rcases List.mem_cons.1 ht with rfl | ht
  ·exact h.1.imp id (fun h => by simpa using h)
  ·exact wkD h.2 t ht
def wgt (r : Nat) : wac → wac → wac
 | [], H => H
 | (s, x) :: l, H => waj (wgt r l H) s { x with els := killL r x.els }
def wd4 (r : Nat) : wac → Eff
 | [] => []
 | (s, x) :: l => (.h s, .r (some { x with els := killL r x.els })) :: wd4 r l
def wcN : wac → List Key
 | [] => []
 | (s, _) :: l => .h s :: wcN l
def whY (H : wac) (r : Nat) : wac → Prop
 | [] => True
 | (s, x) :: l => (waa H s = some x ∧ s ≠ r) ∧ whY H r l
def wgW (Sh : wac) : List Nat → Prop
 | [] => True
 | c :: l => (c < 1000000 ∨ (waa Sh (c - 1000000)).isSome = true) ∧ wgW Sh l
theorem wlB {Sh : wac} : ∀ {l : List Nat}, wgW Sh l → ∀ m, m + 1000000 ∈ l → (waa Sh m).isSome = true
 | c :: l, h, m, hm => by
  rcases List.mem_cons.1 hm with e | hm
  ·rcases h.1 with h1 | h1
   ·omega
   ·rw [← e] at h1; simpa using h1
  ·exact wlB h.2 m hm
theorem wkE {H : wac} {r : Nat} : ∀ {l : wac}, whY H r l → ∀ s x, waa l s = some x → waa H s = some x ∧ s ≠ r
 | [], _, s, x, h => by simp [waa] at h
 | (t, y) :: l, h, s, x, hx => by
  simp only [waa] at hx
  split at hx
  ·rename_i e; subst e; cases hx; exact h.1
  ·exact wkE h.2 s x hx
theorem wiF (r : Nat) : ∀ (l H : wac) (s : Nat), waa (wgt r l H) s = match waa l s with | some x => some { x with els := killL r x.els } | none => waa H s
 | [], H, s => rfl
 | (t, x) :: l, H, s => by
  simp only [wgt, wag, waa]
  split
  ·rfl
  ·exact wiF r l H s
theorem wj2 (r : Nat) : ∀ (l : wac) (s : Nat), wdn (wd4 r l) (.h s) = (waa l s).map fun x => Cont.r (some { x with els := killL r x.els })
 | [], s => rfl
 | (t, x) :: l, s => by
  simp only [wd4, wdn, Key.h.injEq, waa]
  split
  ·rfl
  ·exact wj2 r l s
theorem wip (r : Nat) : ∀ (l : wac) (t : Nat), wdn (wd4 r l) (.t t) = none
 | [], s => rfl
 | (t, x) :: l, s => by simp only [wd4, wdn, reduceCtorEq, if_false]; exact wip r l s
theorem wj3 (r : Nat) : ∀ l : wac, wcf (wd4 r l) = wcN l
 | [] => rfl
 | (s, x) :: l => by have := wj3 r l; simp only [wcf] at this; simp [wd4, wcf, wcN, this]
theorem wkF : ∀ {l : wac} {s : Nat} {x : Row}, waa l s = some x → Key.h s ∈ wcN l
 | [], s, x, h => by simp [waa] at h
 | (t, y) :: l, s, x, h => by
  simp only [waa] at h
  split at h
  ·rename_i e; subst e; simp [wcN]
  ·simp [wcN, wkF h]
theorem weR {r : Nat} {l : List Nat} (h : l = []) : r ∉ l := by rw [h]; simp
theorem OpX.appH {K : Foot → St → Prop} {c : Call} {t e ts d r n : Nat} {xo : Operand} {z : Ty} {row : Row} {L : List PV} {S : List Nat} (Sh : wac) (ho : o.op = .call c) (hcb : c.callee = .builtin .append) (hct : c.argTypes = #[t, t]) (hca : c.args = #[.tmp ts, xo]) (hdst : o.dst = some d) (hd : d < N)
  (hel : wbt P t = some (e, z)) (hz : waf z = true) (hs : wam σ.env ts = .slc r 0 n) (hx : waa σ.heap r = some row) (hL : wfx z.size σ.heap (σ.eval xo) = some L) (hn : row.els.length = n) (hre : row.e = e) (hrk : row.k = z.size) (hp : 1000 ≤ r)
  (h63 : n + L.length ≤ 9223372036854775807) (hbytes : (n + L.length) * z.bytes ≤ 140737488355328) (hS : wgU xs r S) (hSs : S.contains ts = true) (hSd : S.contains d = true) (hne : d ≠ ts) (hlead : wgV σ.env r ts S) (hcod : wgW Sh S) (hcel : whY σ.heap r Sh) (hrm : r ∉ rowsOfL row.els) (hLm : r ∉ rowsOfL L) (hdm : (rowsOfL σ.dfr).contains r = false)
  (hxe : exE xs ((.t d, .v (.slc r 0 (n + L.length))) :: (.h r, .r (some { row with els := row.els ++ L })) :: (.t ts, .v .any) :: wd4 r Sh))
  (hK : K (some (.h r :: (waF (waq o.op) ++ wcS σ (waq o.op) ++ (S.map .t ++ wcN Sh)), .t d :: .h r :: .t ts :: wcN Sh)) ({ σ with env := wcK (wcK σ.env ts .any) d (.slc r 0 (n + L.length)), heap := waj (wgt r Sh σ.heap) r { row with els := row.els ++ L } } : St)) : OpX P G ro N xs o σ K := by
 have hlook : ∀ σ' : St, ({ σ' with env := wcK (wcK σ'.env ts .any) d (.slc r 0 (n + L.length)), heap := waj (wgt r Sh σ'.heap) r { row with els := row.els ++ L } } : St).look =
   σ'.look.app ((.t d, .v (.slc r 0 (n + L.length))) :: (.h r, .r (some { row with els := row.els ++ L })) :: (.t ts, .v .any) :: wd4 r Sh) := by
  intro σ'
  funext k
  cases k with
  | t m =>
   simp only [St.look, SF.app, wdn, Key.t.injEq, wft, reduceCtorEq, if_false, wip]
   by_cases h1 : d = m
   ·simp [h1]
   ·by_cases h2 : ts = m
    ·simp [h1, h2]
    ·simp [h1, h2, St.look]
  | h m =>
   simp only [St.look, SF.app, wdn, Key.h.injEq, wag, reduceCtorEq, if_false, wj2, wiF]
   by_cases h1 : r = m
   ·simp [h1]
   ·simp only [h1, if_false]
    cases waa Sh m <;> simp [St.look]
 refine ⟨_, _, ?_, hK⟩
 refine ⟨(.t d, .v (.slc r 0 (n + L.length))) :: (.h r, .r (some { row with els := row.els ++ L })) :: (.t ts, .v .any) :: wd4 r Sh, fun k hk => ?_, hxe, fun σ' hd' hs' hex => ?_, hlook σ, rfl⟩
 ·have := wj3 r Sh
  simp only [wcf] at hk this
  simp only [List.map_cons, this] at hk
  exact hk
 have hop : waq o.op = [.tmp ts, xo] := by rw [ho]; simp [waq, hca]
 have h1 := wcp (σ := σ) (σ' := σ') (l := waq o.op) fun k hk => hs' k (List.mem_cons_of_mem _ (List.mem_append_left _ (List.mem_append_left _ hk)))
 have h2 := whG (σ := σ) (σ' := σ') (l := waq o.op) fun k hk => hs' k (List.mem_cons_of_mem _ (List.mem_append_left _ (List.mem_append_right _ hk)))
 rw [hop] at h1 h2
 have e1 : σ'.eval (.tmp ts) = .slc r 0 n := (h1 _ (by simp)).trans hs
 have hrow' : ∀ m, Key.h m ∈ (.h r :: wcN Sh) → waa σ'.heap m = waa σ.heap m := fun m hm => by
  have := hs' (.h m) (by
   rcases List.mem_cons.1 hm with h | h
   ·rw [h]; exact List.mem_cons_self ..
   ·exact List.mem_cons_of_mem _ (List.mem_append_right _ (List.mem_append_right _ h)))
  simpa only [St.look, Cont.r.injEq] using this
 have e2 : waa σ'.heap r = some row := (hrow' r (by simp)).trans hx
 have e3 : wfx z.size σ'.heap (σ'.eval xo) = some L := by
  rw [h1 xo (by simp), wqA (h2 xo (by simp))]; exact hL
 obtain ⟨y, hy, hde, he⟩ := wc7 hel
 obtain ⟨zv, h11, h12, h13⟩ := wfM hz
 have hcall : o.op = .call { callee := .builtin .append, args := #[.tmp ts, xo], argTypes := #[t, t] } := by
  rw [ho]; cases c; simp only at hcb hct hca; subst hcb; subst hct; subst hca; rfl
 refine OpT.append hcall hy hde he h11 h12 h13 e1 e2 hn hre hrk hp e3 h63 hbytes (by rw [hdst]; exact hd) ?_
 have hdfr : σ'.dfr = σ.dfr := by have := hd'; simp only [St.rest, Prod.mk.injEq] at this; exact this.1
 have hmem : ∀ m, S.contains m = true → m ∈ S := fun m h => by simpa using h
 refine ⟨?_, ?_⟩
 ·rw [St.put_rest]
  have : (σ'.grown r row L).rest = σ'.rest := by
   simp only [St.rest, St.grown]
   rw [killL_id σ'.dfr (by rw [hdfr]; simpa using hdm)]
  rw [this]; exact hd'
 ·rw [← hlook σ', hdst]
  funext k
  cases k with
  | t m =>
   simp only [St.put, St.look, St.grown, Cont.v.injEq, wft, wjm]
   by_cases h3 : d = m
   ·simp [h3]
   ·simp only [h3, if_false]
    by_cases h4 : ts = m
    ·subst h4
     simp only [if_true]
     have : wam σ'.env ts = .slc r 0 n := e1
     rw [this]; simp only [PV.kill, if_true]
    ·simp only [h4, if_false]
     refine kill_id _ ?_
     rcases wnJ hS (hex (.t m)) with h5 | h5
     ·have h6 := hmem m (by simpa [Key.among] using h5)
      have h7 : wam σ'.env m = wam σ.env m := by
       have := hs' (.t m) (List.mem_cons_of_mem _ (List.mem_append_right _ (List.mem_append_left _ (List.mem_map.2 ⟨m, h6, rfl⟩))))
       simpa only [St.look, Cont.v.injEq] using this
      rw [h7]
      exact (wkD hlead m h6).resolve_left (Ne.symm h4)
     ·simpa [St.look, Cont.rows] using h5
  | h m =>
   simp only [St.put, St.look, St.grown, Cont.r.injEq, wag, wfF, wiF]
   by_cases h3 : r = m
   ·simp only [h3, if_true, Option.some.injEq, Row.mk.injEq, true_and]
    rw [killL_id row.els (h3 ▸ hrm), killL_id L (h3 ▸ hLm)]
   ·simp only [h3, if_false, if_neg (Ne.symm h3)]
    cases hh : waa Sh m with
    | some x =>
     obtain ⟨h5, _⟩ := wkE hcel m x hh
     have h6 := (hrow' m (List.mem_cons_of_mem _ (wkF hh))).trans h5
     rw [h6]; rfl
    | none =>
     simp only
     cases hh2 : waa σ'.heap m with
     | none => simp
     | some x =>
      have h5 := wnJ hS (hex (.h m))
      rcases h5 with h5 | h5
      ·have := wlB hcod m (hmem _ (by simpa [Key.among] using h5))
       rw [hh] at this; cases this
      ·simp only [St.look, hh2, Cont.rows] at h5
       have h6 : r ∉ rowsOfL x.els := by simpa using h5
       simp [killL_id _ h6]
theorem OpX.app {K : Foot → St → Prop} {c : Call} {t e ts d r n : Nat} {xo : Operand} {z : Ty} {row : Row} {L : List PV} {S : List Nat} (ho : o.op = .call c) (hcb : c.callee = .builtin .append) (hct : c.argTypes = #[t, t]) (hca : c.args = #[.tmp ts, xo]) (hdst : o.dst = some d) (hd : d < N)
  (hel : wbt P t = some (e, z)) (hz : waf z = true) (hs : wam σ.env ts = .slc r 0 n) (hx : waa σ.heap r = some row) (hL : wfx z.size σ.heap (σ.eval xo) = some L) (hn : row.els.length = n) (hre : row.e = e) (hrk : row.k = z.size) (hp : 1000 ≤ r)
  (h63 : n + L.length ≤ 9223372036854775807) (hbytes : (n + L.length) * z.bytes ≤ 140737488355328) (hS : wgU xs r S) (hSs : S.contains ts = true) (hSd : S.contains d = true) (hne : d ≠ ts) (hlead : wgV σ.env r ts S) (hrm : rowsOfL row.els = []) (hLm : rowsOfL L = []) (hdm : (rowsOfL σ.dfr).contains r = false)
  (hxe : exE xs [(.t d, .v (.slc r 0 (n + L.length))), (.h r, .r (some { row with els := row.els ++ L })), (.t ts, .v .any)])
  (hK : K (some (.h r :: (waF (waq o.op) ++ wcS σ (waq o.op) ++ S.map .t), [.t d, .h r, .t ts])) ({ σ with env := wcK (wcK σ.env ts .any) d (.slc r 0 (n + L.length)), heap := waj σ.heap r { row with els := row.els ++ L } } : St))
  (hcod : wgW [] S := by (simp only [wgW]; decide)) : OpX P G ro N xs o σ K :=
 OpX.appH [] ho hcb hct hca hdst hd hel hz hs hx hL hn hre hrk hp h63 hbytes hS hSs hSd hne hlead hcod trivial (weR hrm) (weR hLm) hdm hxe (by simpa [wcN, wgt] using hK)
end
end Go.Pv

namespace Go.Pv
attribute [go_sem] PV.ren renL Row.ren clean cleanL wbQ whm wmj wds wio wcr whX wgd whu wcT wml wgV wgU wmp frzT frzTL St.rest
end Go.Pv

namespace Go.Pv
def woq (Hc : wac) (g : Nat → Nat) (H0 : wac) : wac → Prop
 | [] => True
 | (r, x) :: l => (r < 1000 ∧ waa Hc (g r) = some (x.ren g) ∧ refsInL H0 x.els) ∧ woq Hc g H0 l
def wgu (g : Nat → Nat) (r : Nat) : wac → Prop
 | [] => True
 | (s, _) :: l => (g r = g s → r = s) ∧ wgu g r l
def weW (g : Nat → Nat) : wac → Prop
 | [] => True
 | (r, _) :: l => wgu g r l ∧ weW g l
def wor (Hc H : wac) (g ρ : Nat → Nat) (H0 : wac) : wac → Prop
 | [] => True
 | (r, x) :: l => ((if r < 1000 then match waa H r with
   | some y => ρ r = g r ∧ x.k = y.k ∧ (x.k = 0 ∨ x.els.length = y.els.length)
   | none => False
  else waa Hc (ρ r) = none ∧ 1000 ≤ ρ r) ∧ refsInL H0 x.els ∧ cleanL x.els) ∧ wor Hc H g ρ H0 l
def whH (H' : wac) : wac → Prop
 | [] => True
 | (r, _) :: l => (waa H' r).isSome = true ∧ whH H' l
def wax : List (Nat × Nat) → Nat → Nat
 | [], s => s
 | (a, b) :: l, s => if a = s then b else wax l s
theorem waW : ∀ {H : wac} {r : Nat} {x : Row}, waa H r = some x → (r, x) ∈ H
 | (s, y) :: l, r, x, h => by
  simp only [waa] at h
  split at h
  ·rename_i e; subst e; simp only [Option.some.injEq] at h; subst h; simp
  ·exact List.mem_cons_of_mem _ (waW h)
theorem wiq {Hc : wac} {g : Nat → Nat} {H0 : wac} : ∀ {l : wac}, woq Hc g H0 l → ∀ r x, (r, x) ∈ l → r < 1000 ∧ waa Hc (g r) = some (x.ren g) ∧ refsInL H0 x.els
 | (s, y) :: l, h, r, x, hm => by
  rcases List.mem_cons.1 hm with hm | hm
  ·cases hm; exact h.1
  ·exact wiq h.2 r x hm
theorem wjy {g : Nat → Nat} {r : Nat} : ∀ {l : wac}, wgu g r l → ∀ s x, (s, x) ∈ l → g r = g s → r = s
 | (t, y) :: l, h, s, x, hm => by
  rcases List.mem_cons.1 hm with hm | hm
  ·cases hm; exact h.1
  ·exact wjy h.2 s x hm
theorem weX {g : Nat → Nat} : ∀ {l : wac}, weW g l → ∀ r s x y, (r, x) ∈ l → (s, y) ∈ l → g r = g s → r = s
 | (t, z) :: l, h, r, s, x, y, hr, hs, he => by
  rcases List.mem_cons.1 hr with hr | hr <;> rcases List.mem_cons.1 hs with hs | hs
  ·cases hr; cases hs; rfl
  ·cases hr; exact wjy h.1 s y hs he
  ·cases hs; exact (wjy h.1 r x hr he.symm).symm
  ·exact weX h.2 r s x y hr hs he
theorem Hand.of {σ : St} {H : wac} {g : Nat → Nat} (h : woq σ.heap g H H) (hi : weW g H) : Hand σ H g :=
 ⟨fun r x hx => (wiq h r x (waW hx)).1, fun r x hx => (wiq h r x (waW hx)).2.1, fun r s x y hx hy => weX hi r s x y (waW hx) (waW hy), fun r x hx => (wiq h r x (waW hx)).2.2⟩
theorem wir {Hc H : wac} {g ρ : Nat → Nat} {H0 : wac} : ∀ {l : wac}, wor Hc H g ρ H0 l → ∀ r x, (r, x) ∈ l → (if r < 1000 then match waa H r with
      | some y => ρ r = g r ∧ x.k = y.k ∧ (x.k = 0 ∨ x.els.length = y.els.length)
      | none => False
    else waa Hc (ρ r) = none ∧ 1000 ≤ ρ r) ∧ refsInL H0 x.els ∧ cleanL x.els
  | (s, y) :: l, h, r, x, hm => by
    rcases List.mem_cons.1 hm with hm | hm
    · cases hm; exact h.1
    · exact wir h.2 r x hm
theorem whn {H' : wac} : ∀ {l : wac}, whH H' l → ∀ r x, (r, x) ∈ l → (waa H' r).isSome = true
 | (s, y) :: l, h, r, x, hm => by
  rcases List.mem_cons.1 hm with hm | hm
  ·cases hm; exact h.1
  ·exact whn h.2 r x hm
theorem Back.of {σ : St} {H H' : wac} {g ρ : Nat → Nat} (h : wor σ.heap H g ρ H' H') (ha : whH H' H) (hi : weW ρ H') : Back σ H H' g ρ := by
 refine ⟨fun r x hx hlt => ?_, fun r x hx => Option.isSome_iff_exists.1 (whn ha r x (waW hx)), fun r x hx hge => ?_, fun r s x y hx hy => weX hi r s x y (waW hx) (waW hy), fun r x hx => (wir h r x (waW hx)).2⟩
 ·have := (wir h r x (waW hx)).1
  rw [if_pos hlt] at this
  split at this
  ·rename_i y hy; exact ⟨y, hy, this.1, this.2.1, fun hk => this.2.2.resolve_left (by have := this.2.1; omega)⟩
  ·exact this.elim
 ·have := (wir h r x (waW hx)).1
  rw [if_neg (by omega)] at this
  exact this
attribute [go_sem] woq wgu weW wor whH wax
end Go.Pv

namespace Go.Pv
theorem bind_some {α β : Type} {x : Option α} {f : α → Option β} {r : β} (h : x.bind f = some r) : ∃ y, x = some y ∧ f y = some r := by
 cases x with
 | none => cases h
 | some y => exact ⟨y, rfl, h⟩
def idx {α : Type} (l : List α) (i : Int) : Option α := if 0 ≤ i then l[i.toNat]? else none
theorem wrM {α : Type} {l : List α} {i : Int} {x : α} (h : idx l i = some x) : 0 ≤ i ∧ i < l.length ∧ l[i.toNat]? = some x ∧ i.toNat < l.length := by
 unfold idx at h
 split at h
 ·rename_i hi
  obtain ⟨h1, _⟩ := List.getElem?_eq_some_iff.1 h
  exact ⟨hi, by omega, h, h1⟩
 ·cases h
def wfp {S X : Type} (f : S → Option (S ⊕ X)) : Nat → S → Option X
 | 0, _ => none
 | n + 1, s => (f s).bind fun o => match o with
  | .inl s' => wfp f n s'
  | .inr x => some x
theorem weY {S X : Type} (f : S → Option (S ⊕ X)) (n : Nat) (s : S) : wfp f (n + 1) s = (f s).bind fun o => match o with
  | .inl s' => wfp f n s'
  | .inr x => some x := rfl
theorem wjz {S X : Type} {f : S → Option (S ⊕ X)} : ∀ {n m : Nat} {s : S} {x : X}, n ≤ m → wfp f n s = some x → wfp f m s = some x
 | 0, _, _, _, _, h => by cases h
 | n + 1, 0, _, _, h, _ => by omega
 | n + 1, m + 1, s, x, h, h' => by
  rw [weY] at h' ⊢
  obtain ⟨o, h1, h2⟩ := bind_some h'
  rw [h1]
  cases o with
  | inl s' => exact wjz (n := n) (m := m) (by omega) h2
  | inr y => exact h2
open Classical in
noncomputable def iter {S X : Type} (f : S → Option (S ⊕ X)) (s : S) : Option X :=
 if h : ∃ x n, wfp f n s = some x then some (Classical.choose h) else none
theorem wis {S X : Type} {f : S → Option (S ⊕ X)} {s : S} {x : X} (h : iter f s = some x) : ∃ n, wfp f n s = some x := by
 unfold iter at h
 split at h
 ·rename_i hx
  obtain ⟨n, hn⟩ := Classical.choose_spec hx
  cases h
  exact ⟨n, hn⟩
 ·cases h
theorem wla {S X : Type} {f : S → Option (S ⊕ X)} {s : S} {x : X} {n : Nat} (h : wfp f n s = some x) : iter f s = some x := by
 have hx : ∃ x n, wfp f n s = some x := ⟨x, n, h⟩
 unfold iter
 rw [dif_pos hx]
 obtain ⟨m, hm⟩ := Classical.choose_spec hx
 have h1 := wjz (Nat.le_max_left n m) h
 have h2 := wjz (Nat.le_max_right n m) hm
 rw [h1] at h2
 exact h2.symm
theorem wcB {S X : Type} {f : S → Option (S ⊕ X)} {s s' : S} {x : X} (h : f s = some (.inl s')) (h' : iter f s' = some x) : iter f s = some x := by
 obtain ⟨n, hn⟩ := wis h'
 exact wla (n := n + 1) (by rw [weY, h]; exact hn)
theorem wbu {S X : Type} {f : S → Option (S ⊕ X)} {s : S} {x : X} (h : f s = some (.inr x)) : iter f s = some x :=
 wla (n := 1) (by rw [weY, h]; rfl)
def wab {α : Type} (f : α → PD) (l : List α) : List PD := l.map f
@[go_sem] theorem lenc_length {α : Type} (f : α → PD) (l : List α) : (wab f l).length = l.length := by simp [wab]
@[go_sem] theorem lenc_get {α : Type} (f : α → PD) (l : List α) (i : Nat) : (wab f l)[i]? = (l[i]?).map f := by simp [wab]
@[go_sem] theorem lenc_drop {α : Type} (f : α → PD) (l : List α) (n : Nat) : (wab f l).drop n = wab f (l.drop n) := by simp [wab, List.map_drop]
@[go_sem] theorem lenc_take {α : Type} (f : α → PD) (l : List α) (n : Nat) : (wab f l).take n = wab f (l.take n) := by simp [wab, List.map_take]
@[go_sem] theorem lenc_app {α : Type} (f : α → PD) (l m : List α) : dl (wab f l) ++ dl (wab f m) = dl (wab f (l ++ m)) := by simp [dl, wab]
theorem wnK {α : Type} {f : α → PD} {L : List α} {i : Nat} {x : PD} {y : α} (h : x = f y) : dl ((wab f L).set i x) = dl (wab f (L.set i y)) := by subst h; simp only [wab, List.map_set]
theorem wdk {α : Type} (f : α → PD) (l : List α) (x : α) : dl (wab f l) ++ [PV.d (f x)] = dl (wab f (l ++ [x])) := by simp [dl, wab]
theorem wdQ {α : Type} (f : α → PD) (l : List α) (i : Nat) (x : α) : (wab f l).set i (f x) = wab f (l.set i x) := by simp [wab, List.map_set]
theorem wd7 {α : Type} (f : α → PD) (n : Nat) (x : α) : List.replicate n (f x) = wab f (List.replicate n x) := by simp [wab]
theorem wd8 {α : Type} (f : α → PD) : wab f [] = [] := rfl
theorem wnL {α : Type} (f : α → PD) (x : α) (l : List α) : wab f (x :: l) = f x :: wab f l := rfl
@[go_sem] theorem lenc_snoc_int (k : IntKind) (l : List Int) (x : Int) : dl (wab (PD.int k) l) ++ [PV.d (.int k x)] = dl (wab (PD.int k) (l ++ [x])) := wdk _ l x
@[go_sem] theorem lenc_set_int (k : IntKind) (l : List Int) (i : Nat) (x : Int) : (wab (PD.int k) l).set i (.int k x) = wab (PD.int k) (l.set i x) := wdQ _ l i x
@[go_sem] theorem lenc_snoc2_int (k : IntKind) (l : List Int) (x y : Int) : dl (wab (PD.int k) l) ++ [PV.d (.int k x), PV.d (.int k y)] = dl (wab (PD.int k) (l ++ [x, y])) := by simp [dl, wab]
@[go_sem] theorem lenc_snoc_bool (l : List Bool) (x : Bool) : dl (wab PD.bool l) ++ [PV.d (.bool x)] = dl (wab PD.bool (l ++ [x])) := wdk _ l x
@[go_sem] theorem lenc_set_bool (l : List Bool) (i : Nat) (x : Bool) : (wab PD.bool l).set i (.bool x) = wab PD.bool (l.set i x) := wdQ _ l i x
@[go_sem] theorem lenc_rep_bool (n : Nat) (x : Bool) : List.replicate n (PD.bool x) = wab PD.bool (List.replicate n x) := wd7 _ n x
@[go_sem] theorem lenc_snoc_str (l : List ByteArray) (x : ByteArray) : dl (wab PD.str l) ++ [PV.d (.str x)] = dl (wab PD.str (l ++ [x])) := wdk _ l x
@[go_sem] theorem lenc_set_str (l : List ByteArray) (i : Nat) (x : ByteArray) : (wab PD.str l).set i (.str x) = wab PD.str (l.set i x) := wdQ _ l i x
@[go_sem] theorem lenc_rep_str (n : Nat) (x : ByteArray) : List.replicate n (PD.str x) = wab PD.str (List.replicate n x) := wd7 _ n x
theorem wrd (l : List Int) : ints l = wab (PD.int .i64) l := rfl
def wda {α : Type} (k : Nat) (f : α → PD) (l : List α) : PD := .imm k (wab f l)
@[go_sem] theorem slenc_eq {α : Type} (k : Nat) (f : α → PD) (l : List α) : wda k f l = .imm k (wab f l) := rfl
@[go_sem] theorem lenc_snoc_slc {α : Type} (k : Nat) (f : α → PD) (l : List (List α)) (x : List α) : dl (wab (wda k f) l) ++ [PV.d (.imm k (wab f x))] = dl (wab (wda k f) (l ++ [x])) := wdk _ l x
@[go_sem] theorem lenc_set_slc {α : Type} (k : Nat) (f : α → PD) (l : List (List α)) (i : Nat) (x : List α) : (wab (wda k f) l).set i (.imm k (wab f x)) = wab (wda k f) (l.set i x) := wdQ _ l i x
mutual
def leD : PD → PD → Prop
 | .nilslice, .imm _ [] => True
 | .imm k l, .imm k' m => k = k' ∧ leDL l m
 | .agg l, .agg m => leDL l m
 | x, y => x = y
def leDL : List PD → List PD → Prop
 | [], [] => True
 | x :: l, y :: m => leD x y ∧ leDL l m
 | _, _ => False
end
mutual
theorem leD_refl : ∀ x : PD, leD x x
 | .imm k l => by simp only [leD]; exact ⟨trivial, leDL_refl l⟩
 | .agg l => by simp only [leD]; exact leDL_refl l
 | .bool _ => by simp only [leD]
 | .int _ _ => by simp only [leD]
 | .str _ => by simp only [leD]
 | .nilptr => by simp only [leD]
 | .nilslice => by simp only [leD]
 | .nilmap => by simp only [leD]
 | .nilfunc => by simp only [leD]
 | .niliface => by simp only [leD]
 | .fn _ => by simp only [leD]
 | .iface _ _ => by simp only [leD]
theorem leDL_refl : ∀ l : List PD, leDL l l
 | [] => by simp only [leDL]
 | x :: l => by simp only [leDL]; exact ⟨leD_refl x, leDL_refl l⟩
end
theorem wjA : ∀ {l m : List PD}, leDL l m → l.length = m.length ∧ ∀ i (hi : i < l.length) (hi' : i < m.length), leD l[i] m[i]
 | [], [], _ => ⟨rfl, fun i hi => by simp at hi⟩
 | x :: l, y :: m, h => by
  simp only [leDL] at h
  obtain ⟨h1, h2⟩ := wjA h.2
  refine ⟨by simp [h1], fun i hi hi' => ?_⟩
  cases i with
  | zero => exact h.1
  | succ i => simpa using h2 i (by simpa using hi) (by simpa using hi')
 | [], _ :: _, h => by simp [leDL] at h
 | _ :: _, [], h => by simp [leDL] at h
theorem RepD.le {w : World} {ok : Nat → Prop} {v : Value} {x : PD} (h : RepD w ok v x) : ∀ {y : PD}, leD x y → RepD w ok v y := by
 induction h with
 | bool b => intro y h; cases y <;> simp only [leD, reduceCtorEq, PD.bool.injEq] at h; subst h; exact .bool _
 | int k n => intro y h; cases y <;> simp only [leD, reduceCtorEq, PD.int.injEq] at h; obtain ⟨rfl, rfl⟩ := h; exact .int _ _
 | str s => intro y h; cases y <;> simp only [leD, reduceCtorEq, PD.str.injEq] at h; subst h; exact .str _
 | nilptr => intro y h; cases y <;> simp only [leD, reduceCtorEq] at h; exact .nilptr
 | nilslice =>
  intro y h
  cases y with
  | nilslice => exact .nilslice
  | imm k l => cases l with
   | nil => exact .imm0 k
   | cons => simp [leD] at h
  | _ => simp [leD] at h
 | nilmap => intro y h; cases y <;> simp only [leD, reduceCtorEq] at h; exact .nilmap
 | nilfunc => intro y h; cases y <;> simp only [leD, reduceCtorEq] at h; exact .nilfunc
 | niliface => intro y h; cases y <;> simp only [leD, reduceCtorEq] at h; exact .niliface
 | fn f => intro y h; cases y <;> simp only [leD, reduceCtorEq, PD.fn.injEq] at h; subst h; exact .fn _
 | iface t hv ih => intro y h; cases y <;> simp only [leD, reduceCtorEq, PD.iface.injEq] at h; obtain ⟨rfl, rfl⟩ := h; exact .iface _ hv
 | agg hs _ hf ih =>
  intro y h
  cases y with
  | agg m =>
   simp only [leD] at h
   obtain ⟨h1, h2⟩ := wjA h
   exact .agg (by rw [hs, h1]) (fun i hi => ih i (h1 ▸ hi) (h2 i (h1 ▸ hi) hi)) (fun i hi => hf i (h1 ▸ hi))
  | _ => simp [leD] at h
 | imm0 k =>
  intro y h
  cases y with
  | imm k' m =>
   simp only [leD] at h
   obtain ⟨rfl, h⟩ := h
   obtain ⟨h1, _⟩ := wjA h
   have : m = [] := by simpa using h1.symm
   subst this; exact .imm0 _
  | _ => simp [leD] at h
 | @imm a n cap k els F ha hb hn hcap _ hk hf hc hz ih =>
  intro y h
  cases y with
  | imm k' m =>
   simp only [leD] at h
   obtain ⟨rfl, h⟩ := h
   obtain ⟨h1, h2⟩ := wjA h
   exact .imm F (fun hne => ha (fun e => hne (by subst e; simpa using h1.symm))) (fun hne => hb (fun e => hne (by subst e; simpa using h1.symm))) (by rw [hn, h1]) hcap (fun i hi => ih i (h1 ▸ hi) (h2 i (h1 ▸ hi) hi)) (fun i hi => hk i (h1 ▸ hi)) (fun i hi => hf i (h1 ▸ hi)) (fun i hi => hc i (h1 ▸ hi)) (fun i hi => hz i (h1 ▸ hi))
  | _ => simp [leD] at h
mutual
def leV : PV → PV → Prop
 | _, .any => True
 | .d x, .d y => leD x y
 | .b x, .b y => leD x y
 | .d x, .b y => leD x y
 | .tuple l, .tuple m => leVL l m
 | x, y => x = y
def leVL : List PV → List PV → Prop
 | [], [] => True
 | x :: l, y :: m => leV x y ∧ leVL l m
 | _, _ => False
end
theorem wjB : ∀ {l m : List PV}, leVL l m → l.length = m.length ∧ ∀ i (hi : i < l.length) (hi' : i < m.length), leV l[i] m[i]
 | [], [], _ => ⟨rfl, fun i hi => by simp at hi⟩
 | x :: l, y :: m, h => by
  simp only [leVL] at h
  obtain ⟨h1, h2⟩ := wjB h.2
  refine ⟨by simp [h1], fun i hi hi' => ?_⟩
  cases i with
  | zero => exact h.1
  | succ i => simpa using h2 i (by simpa using hi) (by simpa using hi')
 | [], _ :: _, h => by simp [leVL] at h
 | _ :: _, [], h => by simp [leVL] at h
section
variable {P : Program} {G : List (Nat × PD)} {ro : Option Nat} {N : Nat} {σ τ : St} {w : World} {X : Nat → Prop} {φ : Nm} {H H' : wac}
theorem RepV.le {v : Value} {p : PV} (h : RepV w X φ H v p) : ∀ {q : PV}, leV p q → RepV w X φ H v q := by
 induction h with
 | any v => intro q h; cases q <;> simp only [leV, reduceCtorEq] at h; exact .any _
 | d hd => intro q h; cases q <;> simp only [leV, reduceCtorEq] at h <;> first | exact .any _ | exact .d (hd.le h) | exact (RepV.d (hd.le h)).toB
 | b hd => intro q h; cases q <;> simp only [leV, reduceCtorEq] at h <;> first | exact .any _ | exact .b (hd.le h)
 | mp h1 h2 h3 => intro q h; cases q <;> simp only [leV, reduceCtorEq, PV.mp.injEq] at h <;> first | exact .any _ | (subst h; exact .mp h1 h2 h3)
 | ptr h1 h2 h3 => intro q h; cases q <;> simp only [leV, reduceCtorEq, PV.ptr.injEq] at h <;> first | exact .any _ | (obtain ⟨rfl, rfl, rfl⟩ := h; exact .ptr h1 h2 h3)
 | dptr hd hi => intro q h; cases q <;> simp only [leV, reduceCtorEq, PV.dptr.injEq] at h <;> first | exact .any _ | (obtain ⟨rfl, rfl, rfl, rfl⟩ := h; exact .dptr hd hi)
 | bptr hd hi => intro q h; cases q <;> simp only [leV, reduceCtorEq, PV.bptr.injEq] at h <;> first | exact .any _ | (obtain ⟨rfl, rfl, rfl, rfl⟩ := h; exact .bptr hd hi)
 | glob g => intro q h; cases q <;> simp only [leV, reduceCtorEq, PV.glob.injEq] at h <;> first | exact .any _ | (subst h; exact .glob _)
 | val hf => intro q h; cases q <;> simp only [leV, reduceCtorEq, PV.val.injEq] at h <;> first | exact .any _ | (subst h; exact .val hf)
 | slc h1 h2 h7 h3 h4 h5 h6 => intro q h; cases q <;> simp only [leV, reduceCtorEq, PV.slc.injEq] at h <;> first | exact .any _ | (obtain ⟨rfl, rfl, rfl⟩ := h; exact .slc h1 h2 h7 h3 h4 h5 h6)
 | slc0 h1 h2 h7 h3 => intro q h; cases q <;> simp only [leV, reduceCtorEq, PV.slc.injEq] at h <;> first | exact .any _ | (obtain ⟨rfl, rfl, rfl⟩ := h; exact .slc0 h1 h2 h7 h3)
 | func hs hv ih => intro q h; cases q <;> simp only [leV, reduceCtorEq, PV.func.injEq] at h <;> first | exact .any _ | (obtain ⟨rfl, rfl⟩ := h; exact .func hs hv)
 | agg hs hv hf ih => intro q h; cases q <;> simp only [leV, reduceCtorEq, PV.agg.injEq] at h <;> first | exact .any _ | (subst h; exact .agg hs hv hf)
 | tuple hs hv ih =>
  intro q h
  cases q <;> simp only [leV, reduceCtorEq] at h
  ·exact .any _
  ·obtain ⟨h1, h2⟩ := wjB h
   exact .tuple (by rw [hs, h1]) (fun i hi => ih i (h1 ▸ hi) (h2 i (h1 ▸ hi) hi))
def wmq (H H' : wac) (e : List (Nat × PV)) : List (Nat × PV) → Prop
 | [] => True
 | (t, v) :: l => ((leV (wam e t) v ∧ refsIn H' v) ∨ (∃ u, frzT H (wam e t) = some u ∧ leV u v ∧ ∀ r ∈ rowsOf (wam e t), waa H' r = none)) ∧ wmq H H' e l
theorem wnM {H H' : wac} {e : List (Nat × PV)} : ∀ {l : List (Nat × PV)}, wmq H H' e l → ∀ t, wam l t = .any ∨ (leV (wam e t) (wam l t) ∧ refsIn H' (wam l t)) ∨ (∃ u, frzT H (wam e t) = some u ∧ leV u (wam l t) ∧ ∀ r ∈ rowsOf (wam e t), waa H' r = none)
 | [], _, _ => .inl rfl
 | (s, v) :: l, h, t => by
  simp only [wam]
  split
  ·rename_i hs; subst hs; exact .inr h.1
  ·exact wnM h.2 t
theorem Sub.cv (h2 : wc6 τ.heap σ.heap) (h1 : wmq σ.heap τ.heap σ.env τ.env) (h4 : wch τ.heap τ.heap) (h5 : σ.dfr = τ.dfr ∧ refsInL τ.heap τ.dfr ∧ σ.gh = τ.gh) : Sub G N σ τ := by
 intro P B a w φ hr
 refine ⟨φ, Rep.of_sit (h5.2.2 ▸ hr.sit.less (wbF h2) (weE h4)) hr.size (fun t => ?_) (h5.2.2 ▸ ((h5.1 ▸ hr.dfr).less (wbF h2) h5.2.1))⟩
 rcases wnM h1 t with h | ⟨h, h'⟩ | ⟨u, h, hu, h'⟩
 ·rw [h]; exact .any _
 ·exact ((hr.env t).le h).less (wbF h2) h'
 ·exact (wnh hr.heap (wbF h2) (hr.env t) h' h).le hu
theorem PureFn.intro2 {f : FuncId} {fn : Func} {c : Code} {args : List PV} {res : PV} (hf : P.funcs[f]? = some fn) (hb : fn.body = some c) (hN : args.length ≤ fn.ntmps)
  (h : AWp P G none fn.ntmps c ⟨wb8 0 args, [], [], none⟩ (Fin P G fn fun p H => ∃ u, frzT H p = some u ∧ leV u res)) : PureFn P G f args res := by
 intro B φ vs h0 h1 h2 h3
 refine (Fn.intro hf hb hN h B φ vs h0 h1 h2 h3).mono ?_
 rintro e w' ⟨v, p, H', g', φ', he, ⟨u, hu, hle⟩, hv, hs⟩
 exact ⟨v, res, [], g', φ', he, ⟨rfl, rfl⟩, (wk5 hs.heap hv hu).le hle, hs.drop⟩
def wfq (σ : St) (ds : List (Option Tmp)) (j : Nat) : Bool :=
 match ds[j]? with
 | some (some d) => match wam σ.env d with
  | .tuple [] => true
  | _ => false
 | _ => false
def wlb (P : Program) (G : List (Nat × PD)) (ro : Option Nat) (N : Nat) (ds : List (Option Tmp)) (o : Oper) (σ : St) (K : St → Prop) : Prop :=
 match o.guard with
 | none => wi0 P G ro N o σ K
 | some (j, want) => match wet σ ds j with
  | some b => (b = want → wi0 P G ro N o σ K) ∧ (b ≠ want → wan N o.dst ∧ K (σ.put o.dst (.tuple [])))
  | none => wfq σ ds j = true ∧ wan N o.dst ∧ K (σ.put o.dst (.tuple []))
variable {o : Oper} {K : St → Prop} {ops : Array Oper}
theorem whI : RepV w X φ H undef (.tuple []) := .tuple rfl (fun i hi => by simp at hi)
theorem wpN {v : Value} (h : RepV w X φ H v (.tuple [])) : v = undef := by
 cases h with
 | tuple hs =>
  have := Array.eq_empty_of_size_eq_zero (by simpa using hs)
  rw [this]; rfl
theorem Oper.wpIn_off {F : Fence} {n : Nat} {P : Program} {o : Oper} {a : Act} {w : World} {K K' : Act → World → Prop} {Q Q' : Exit → Act → World → Prop} (h : ∀ a w, K a w → K' a w) (hq : ∀ e a w, e ≠ .normal → Q e a w → Q' e a w)
  (hh : o.wpIn F n P a w K Q) : o.wpIn F n P a w K' Q' := by
 refine ⟨hh.1, ?_⟩
 have hh := hh.2
 generalize (o.semAt F.round a.eval).run P w = r at *
 cases r with
 | ok x w' =>
  cases x <;> simp only [Oper.uponIn] at hh ⊢ <;>
   first
    | exact h _ _ hh
    | exact ⟨hh.1, CallsIn.mono hh.2 (fun e w'' he => by cases e <;> first | exact h _ _ he | exact hq _ _ _ (by simp) he | (obtain ⟨a, w, he⟩ := he; exact ⟨a, w, hq _ _ _ (by simp) he⟩))⟩
    | exact ⟨hh.1, RowsIn.mono hh.2 (fun _ _ he => h _ _ he)⟩
    | exact ⟨hh.1, RoundIn.mono hh.2 (fun e w'' he => by cases e <;> first | exact h _ _ he | exact hq _ _ _ (by simp) he | (obtain ⟨a, w, he⟩ := he; exact ⟨a, w, hq _ _ _ (by simp) he⟩))⟩
 | halt x w' => cases x <;> simp only [Oper.uponIn] at hh ⊢ <;> first | exact hh | exact hq _ _ _ (by simp) hh
theorem woS {B : Base P} {a : Act} (hr : Rep G B N σ a w φ) {j : Nat} (h : wfq σ (wbg ops) j = true) (want : Bool) : (yielded ops a.tmps j == some want) = false := by
 unfold wfq at h
 split at h <;> try (simp at h; done)
 rename_i d hds
 have hod : ∃ o, ops[j]? = some o ∧ o.dst = some d := by
  simp only [wbg, List.getElem?_map, Option.map_eq_some_iff] at hds
  obtain ⟨o, h1, h2⟩ := hds
  exact ⟨o, by simpa using h1, h2⟩
 obtain ⟨o, ho, hd⟩ := hod
 split at h <;> try (simp at h; done)
 rename_i hb
 have hv := hr.env d
 rw [hb] at hv
 have hv := wpN hv
 have hy : yielded ops a.tmps j = none := by
  unfold yielded
  rw [ho]
  simp only [Option.bind_some, hd]
  rcases Nat.lt_or_ge d a.tmps.size with h | h
  ·rw [Array.getElem?_eq_getElem h]
   have : a.tmps[d] = undef := by simpa [Array.getD, h] using hv
   rw [this]; rfl
  ·rw [Array.getElem?_eq_none h]
 rw [hy]; rfl
theorem AOps.skip {rest : List Oper} {Q : St → Prop} {j : Nat} {want : Bool} (hg : o.guard = some (j, want)) (hn : wfq σ (wbg ops) j = true) (hd : wan N o.dst) (h : AOps P G ro N ops rest (σ.put o.dst (.tuple [])) Q) :
  AOps P G ro N ops (o :: rest) σ Q := by
 intro B hro a w φ hr Q' hq
 have hy := woS hr hn want
 simp only [wpL, Region.wanted, hg, hy, Bool.false_eq_true, if_false]
 exact ⟨fun _ _ => trivial, h B hro _ w φ (hr.put hd whI) Q' hq⟩
theorem AOps.guardedU {o : Oper} {rest : List Oper} {Q : St → Prop} {j : Nat} {want b : Bool} (hg : o.guard = some (j, want)) (hb : wet σ (wbg ops) j = some b)
  (h1 : b = want → OpT P G ro N o σ (fun σ' => AOps P G ro N ops rest σ' Q)) (hd : wan N o.dst) (h2 : b ≠ want → AOps P G ro N ops rest (σ.put o.dst (.tuple [])) Q) : AOps P G ro N ops (o :: rest) σ Q := by
 intro B hro a w φ hr Q' hq
 have hy := wiX hr hb
 by_cases h : b = want
 ·simp only [wpL, Region.wanted, hg, hy, h, beq_self_eq_true, if_true]
  exact h1 h B hro a w φ hr _ _ fun σ' a' w' φ' h1 h2 => h1 B hro a' w' φ' h2 Q' hq
 ·have : (some b == some want) = false := by simp [h]
  simp only [wpL, Region.wanted, hg, hy, this, Bool.false_eq_true, if_false]
  exact ⟨fun _ _ => trivial, h2 h B hro _ w φ (hr.put hd whI) Q' hq⟩
theorem AOps.consU {rest : List Oper} {Q : St → Prop} (h : ∀ K : St → Prop, (∀ σ, AOps P G ro N ops rest σ Q → K σ) → wlb P G ro N (wbg ops) o σ K) : AOps P G ro N ops (o :: rest) σ Q := by
 have h := h _ (fun _ h => h)
 unfold wlb at h
 split at h
 ·rename_i hg; exact AOps.step hg (OpT.vc h)
 ·rename_i j want hg
  split at h
  ·rename_i b hb
   by_cases hbw : b = want
   ·exact AOps.guardedU hg hb (fun hb => OpT.vc (h.1 hb)) (h.1 hbw).1 (fun hb => (h.2 hb).2)
   ·exact AOps.guardedU hg hb (fun hb => OpT.vc (h.1 hb)) (h.2 hbw).1 (fun hb => (h.2 hb).2)
  ·exact AOps.skip hg h.1 h.2.1 h.2.2
theorem AOps.cut {l : List Oper} {Q : St → Prop} (n : Nat) (τ : St) (h1 : AOps P G ro N ops (l.take n) σ (fun σ' => Sub G N σ' τ)) (h2 : AOps P G ro N ops (l.drop n) τ Q) : AOps P G ro N ops l σ Q := by
 have key : ∀ (l m : List Oper) (Q' : Exit → Act → World → Prop) (a : Act) (w : World), wpL (Fw ro) 0 P ops (fun e a w => match e with | .normal => wpL (Fw ro) 0 P ops Q' m a w | e => Q' e a w) l a w → wpL (Fw ro) 0 P ops Q' (l ++ m) a w := by
  intro l
  induction l with
  | nil => intro m Q' a w h; exact h
  | cons o l ih =>
   intro m Q' a w h
   simp only [List.cons_append, wpL] at h ⊢
   split at h
   ·rename_i hw
    rw [if_pos hw]
    exact Oper.wpIn_off (fun a w h => ih m Q' a w h) (fun e a w hne h => by
     cases e <;> first | exact absurd rfl hne | exact h) h
   ·rename_i hw
    rw [if_neg hw]
    exact ⟨h.1, ih m Q' _ w h.2⟩
 intro B hro a w φ hr Q' hq
 rw [← List.take_append_drop n l]
 refine key _ _ _ _ _ (h1 B hro a w φ hr _ fun σ' a' w' φ' hs hr' => ?_)
 obtain ⟨φ'', hr''⟩ := hs P B a' w' φ' hr'
 exact h2 B hro a' w' φ'' hr'' Q' hq
mutual
theorem leV_refl : ∀ p : PV, leV p p
 | .any => by simp only [leV]
 | .d x => by simp only [leV]; exact leD_refl x
 | .b x => by simp only [leV]; exact leD_refl x
 | .ptr .. => by simp only [leV]
 | .dptr .. => by simp only [leV]
 | .bptr .. => by simp only [leV]
 | .glob _ => by simp only [leV]
 | .val _ => by simp only [leV]
 | .slc .. => by simp only [leV]
 | .mp _ => by simp only [leV]
 | .func .. => by simp only [leV]
 | .agg _ => by simp only [leV]
 | .tuple l => by
  simp only [leV]; exact leVL_refl l
theorem leVL_refl : ∀ l : List PV, leVL l l
 | [] => by simp only [leVL]
 | p :: l => by simp only [leVL]; exact ⟨leV_refl p, leVL_refl l⟩
end
end
attribute [go_sem] wlb wfq wrd cond_true cond_false decide_true decide_false Bool.not_true Bool.not_false Bool.or_true Bool.or_false Bool.true_or Bool.false_or Bool.and_true Bool.and_false Bool.true_and Bool.false_and Nat.zero_add Nat.add_zero Nat.zero_le true_and and_true and_self ne_eq not_false_eq_true not_true_eq_false Bool.false_eq_true false_implies true_implies forall_const
 List.length_cons List.length_nil List.toList_toArray List.getElem?_cons_zero List.getElem?_cons_succ List.set_cons_zero List.set_cons_succ List.map_cons List.map_nil List.drop_zero List.drop_succ_cons List.take_succ_cons List.take_zero List.lookup_cons List.append_nil List.nil_append List.cons_append Option.map_some Option.map_none Option.getD_some Option.getD_none Option.bind_some Option.some.injEq Option.isSome_some Option.isSome_none
end Go.Pv

namespace Go.Pv
section
variable {P : Program} {G : List (Nat × PD)} {ro : Option Nat} {N : Nat} {σ τ : St} {w w' : World} {X : Nat → Prop} {φ φ' : Nm} {H H' : wac} {o : Oper} {K : St → Prop} {ops : Array Oper} {B : Base P} {a a' : Act}
mutual
theorem refsIn_of : ∀ {p : PV}, (∀ r ∈ rowsOf p, (waa H r).isSome = true) → refsIn H p
 | .ptr r _ _, h => by simp only [refsIn]; exact h r (by simp [rowsOf])
 | .slc r _ _, h => by simp only [refsIn]; exact h r (by simp [rowsOf])
 | .mp r, h => by simp only [refsIn]; exact h r (by simp [rowsOf])
 | .func _ l, h => by simp only [refsIn]; exact refsInL_of (fun r hr => h r (by simpa [rowsOf] using hr))
 | .agg l, h => by simp only [refsIn]; exact refsInL_of (fun r hr => h r (by simpa [rowsOf] using hr))
 | .tuple l, h => by simp only [refsIn]; exact refsInL_of (fun r hr => h r (by simpa [rowsOf] using hr))
 | .any, _ => by simp only [refsIn]
 | .d _, _ => by simp only [refsIn]
 | .b _, _ => by simp only [refsIn]
 | .dptr .., _ => by simp only [refsIn]
 | .bptr .., _ => by simp only [refsIn]
 | .glob _, _ => by simp only [refsIn]
 | .val _, _ => by simp only [refsIn]
theorem refsInL_of : ∀ {l : List PV}, (∀ r ∈ rowsOfL l, (waa H r).isSome = true) → refsInL H l
 | [], _ => by simp only [refsInL]
 | p :: l, h => by
  simp only [refsInL]
  exact ⟨refsIn_of (fun r hr => h r (by simp [rowsOfL, hr])), refsInL_of (fun r hr => h r (by simp [rowsOfL, hr]))⟩
end
theorem wpO : ∀ {ps : List PV}, (∀ i (hi : i < ps.length), ∀ r ∈ rowsOf ps[i], (waa H r).isSome = true) → ∀ r ∈ rowsOfL ps, (waa H r).isSome = true := by
 intro ps
 induction ps with
 | nil => intro _ r hr; simp [rowsOfL] at hr
 | cons p l ih =>
  intro h r hr
  simp only [rowsOfL, List.mem_append] at hr
  rcases hr with hr | hr
  ·exact h 0 (by simp) r hr
  ·exact ih (fun i hi => h (i + 1) (by simpa using hi)) r hr
theorem Rep.refs (hr : Rep G B N σ a w φ) : ∀ s y, waa σ.heap s = some y → refsInL σ.heap y.els := by
 intro s y hy
 refine refsInL_of fun r hrr => ?_
 cases hφ : φ s with
 | none => rw [hr.heap.void s y hy hφ] at hrr; simp [rowsOfL] at hrr
 | some b =>
  exact wpO (fun i hi => by obtain ⟨v, h4⟩ := (hr.heap.rows s y b hy hφ).el i hi; exact h4.rows) r hrr
theorem Dfr.refs {m : Nat → Prop} {ds : List Deferred} {ps : List PV} (h : Dfr m w X φ H ds ps) : refsInL H ps := by
 induction h with
 | nil => simp only [refsInL]
 | fn h1 h2 h3 _ ih => simp only [refsInL]; exact ⟨refsIn_of h3.rows, ih⟩
 | mark _ _ _ _ _ ih => exact ih
theorem Rep.forget (hr0 : Rep G B N σ a w φ) {r n : Nat} {row : Row} {dst : Option Tmp} {v : PV} (hr : Rep G B N (({ σ with heap := waj σ.heap r row } : St).put dst (.slc r 0 n)) a' w' φ') (hn : waa σ.heap r = none)
  (hd : wan N dst) (hf : frzT (waj σ.heap r row) (.slc r 0 n) = some v) : Rep G B N (σ.put dst v) a' w' φ' := by
 have hle : ∀ s y, waa σ.heap s = some y → waa (waj σ.heap r row) s = some y := fun s y h => by
  rw [wag, if_neg (fun e => by subst e; rw [hn] at h; cases h)]; exact h
 have hheap : ((({ σ with heap := waj σ.heap r row } : St).put dst (.slc r 0 n))).heap = waj σ.heap r row := by cases dst <;> rfl
 have hgh : ((({ σ with heap := waj σ.heap r row } : St).put dst (.slc r 0 n))).gh = σ.gh := by cases dst <;> rfl
 have hdfr : ((({ σ with heap := waj σ.heap r row } : St).put dst (.slc r 0 n))).dfr = σ.dfr := by cases dst <;> rfl
 have hsit := hr.sit
 rw [hheap, hgh] at hsit
 have hs := hsit.less hle hr0.refs
 have hd' := hr.dfr
 rw [hheap, hgh, hdfr] at hd'
 refine Rep.of_sit (by cases dst <;> exact hs) hr.size (fun t => ?_) (by cases dst <;> exact hd'.less hle hr0.dfr.refs)
 have he := hr.env t
 rw [hheap] at he
 have hh2 : (σ.put dst v).heap = σ.heap := by cases dst <;> rfl
 rw [hh2]
 cases dst with
 | none => exact he.less hle (refsIn_of (hr0.env t).rows)
 | some d =>
  simp only [St.put, wft] at he ⊢
  split at he
  ·rename_i h; rw [if_pos h]
   exact wnh hsit.heap hle he (fun s hs => by simp only [rowsOf, List.mem_singleton] at hs; subst hs; exact hn) hf
  ·rename_i h; rw [if_neg h]
   exact he.less hle (refsIn_of (hr0.env t).rows)
def wjC (P : Program) (σ : St) (op : Op) : Option PV :=
 match op with
 | .buildSlice t len parts => match wbt P t with
  | some (_, z) => if waf z = true ∧ weD 0 parts.toList = true ∧ parts.toList.length = len ∧ wgb z.size (war σ (parts.toList.map (·.2))) = true ∧ len * z.size ≤ 16777216 then
    (wfv (war σ (parts.toList.map (·.2)))).map fun l => .d (.imm z.size l) else none
  | none => none
 | _ => none
theorem wnN (σ : St) : ∀ l : List Operand, (war σ l).length = l.length
 | [] => rfl
 | x :: l => by simp [war, wnN σ l]
theorem OpT.litD {v : PV} (h : wjC P σ o.op = some v) (hd : wan N o.dst) (hK : K (σ.put o.dst v)) : OpT P G ro N o σ K := by
 unfold wjC at h
 split at h <;> try (simp at h; done)
 rename_i t len parts ho
 split at h <;> try (simp at h; done)
 rename_i e z hse
 split at h <;> try (simp at h; done)
 rename_i hc
 obtain ⟨h1, h2, h3, h4, h5⟩ := hc
 simp only [Option.map_eq_some_iff] at h
 obtain ⟨l, hl, rfl⟩ := h
 obtain ⟨y, hy, hde, he⟩ := wc7 hse
 obtain ⟨zv, h6, h7, h8⟩ := wfM h1
 intro B hro a w φ hr next Q hn
 refine OpT.buildSlice (K := fun τ => τ = (({ σ with heap := waj σ.heap (fresh σ.heap) { e, k := z.size, els := war σ (parts.toList.map (·.2)) } } : St).put o.dst (.slc (fresh σ.heap) 0 len))) ho hy hde he h6 h7 h8 h2 h3 h4 h5 hd (weU _) (wgP _) rfl B hro a w φ hr next Q ?_
 rintro τ a' w' φ' rfl hr'
 refine hn _ _ _ φ' hK (hr.forget hr' (weU _) hd ?_)
 have hlen : l.length = len := by
  have := congrArg List.length (whh _ _ hl)
  simp only [List.length_map, wnN] at this
  rw [← h3]; simpa using this.symm
 simp only [frzT, frz, wag, if_true, hl, Option.map_some, List.drop_zero]
 rw [List.take_of_length_le (by omega)]
def wlc (P : Program) (N : Nat) (o : Oper) (σ : St) (K : St → Prop) : Prop :=
 wan N o.dst ∧ match wjC P σ o.op with
  | some v => K (σ.put o.dst v)
  | none => False
def wos (P : Program) (N : Nat) (ds : List (Option Tmp)) (o : Oper) (σ : St) (K : St → Prop) : Prop :=
 match o.guard with
 | none => wlc P N o σ K
 | some (j, want) => match wet σ ds j with
  | some b => (b = want → wlc P N o σ K) ∧ (b ≠ want → wan N o.dst ∧ K (σ.put o.dst (.tuple [])))
  | none => wfq σ ds j = true ∧ wan N o.dst ∧ K (σ.put o.dst (.tuple []))
theorem OpT.vcL (h : wlc P N o σ K) : OpT P G ro N o σ K := by
 obtain ⟨hd, h⟩ := h
 split at h
 ·rename_i v hv; exact OpT.litD hv hd h
 ·exact h.elim
theorem AOps.consL {rest : List Oper} {Q : St → Prop} (h : ∀ K : St → Prop, (∀ σ, AOps P G ro N ops rest σ Q → K σ) → wos P N (wbg ops) o σ K) : AOps P G ro N ops (o :: rest) σ Q := by
 have h := h _ (fun _ h => h)
 unfold wos at h
 split at h
 ·rename_i hg; exact AOps.step hg (OpT.vcL h)
 ·rename_i j want hg
  split at h
  ·rename_i b hb
   by_cases hbw : b = want
   ·exact AOps.guardedU hg hb (fun hb => OpT.vcL (h.1 hb)) (h.1 hbw).1 (fun hb => (h.2 hb).2)
   ·exact AOps.guardedU hg hb (fun hb => OpT.vcL (h.1 hb)) (h.2 hbw).1 (fun hb => (h.2 hb).2)
  ·exact AOps.skip hg h.1 h.2.1 h.2.2
theorem wqB {σ' : St} {op : Op} (h : ∀ x ∈ waq op, σ'.eval x = σ.eval x) : wjC P σ' op = wjC P σ op := by
 cases op <;> try rfl
 case buildSlice t len parts =>
  simp only [wjC]
  rw [wbO (σ := σ) (σ' := σ') (l := parts.toList.map (·.2)) (by simpa [waq] using h)]
theorem OpD.lit {xs : Exc} {v : PV} (h : wjC P σ o.op = some v) (hd : wan N o.dst) (hx : exE xs (waJ o.dst v)) :
  OpD P G ro N xs o σ (some (waF (waq o.op), waN o.dst)) (σ.put o.dst v) := by
 refine ⟨waJ o.dst v, fun k hk => by rw [wci] at hk; exact hk, hx, fun σ' hd' hs _ => ?_, wbd _ _ _, St.put_rest _ _ _⟩
 have h1 := wcp (σ := σ) (σ' := σ') (l := waq o.op) fun k hk => hs k hk
 exact OpT.litD (by rw [wqB h1]; exact h) hd ⟨by rw [St.put_rest]; exact hd', wbd _ _ _⟩
def wi3 (P : Program) (N : Nat) (xs : Exc) (o : Oper) (σ : St) (K : Foot → St → Prop) : Prop :=
 wan N o.dst ∧ match wjC P σ o.op with
 | some v => exE xs (waJ o.dst v) ∧ K (some (waF (waq o.op), waN o.dst)) (σ.put o.dst v)
 | none => False
theorem DOps.consL {xs : Exc} {rest : List Oper} {acc : List Foot} {Q : St → Prop} (hg : o.guard = none) (h : ∀ K : Foot → St → Prop, (∀ f σ1, DOps P G ro N xs ops Q rest (acc ++ [f]) σ1 → K f σ1) → wi3 P N xs o σ K) :
  DOps P G ro N xs ops Q (o :: rest) acc σ := by
 have h := h (fun f σ1 => DOps P G ro N xs ops Q rest (acc ++ [f]) σ1) (fun _ _ h => h)
 obtain ⟨hd, h⟩ := h
 split at h
 ·rename_i v hv
  exact .step (DStep.plain hg (OpD.lit hv hd h.1)) h.2
 ·exact h.elim
def woT : wac → wac → Prop
 | [], _ => True
 | (r, x) :: l, h => (∃ y, waa h r = some y ∧ y.e = x.e ∧ y.k = x.k ∧ leVL y.els x.els ∧ (y.els = x.els ∨ y.els.all (fun p => !wa0 p) = true)) ∧ woT l h
theorem wmr {g : wac} : ∀ {l : wac}, woT l g → ∀ r x, waa l r = some x → ∃ y, waa g r = some y ∧ y.e = x.e ∧ y.k = x.k ∧ leVL y.els x.els ∧ (y.els = x.els ∨ y.els.all (fun p => !wa0 p) = true)
 | [], _, _, _, h => by simp [waa] at h
 | (s, y) :: l, h, r, x, hx => by
  simp only [waa] at hx
  split at hx
  ·rename_i e; subst e; simp only [Option.some.injEq] at hx; subst hx; exact h.1
  ·exact wmr h.2 r x hx
def wgv (l : wac) : wac → wac
 | [] => []
 | (r, y) :: g => (r, match waa l r with | some x => { y with els := x.els } | none => y) :: wgv l g
theorem wjD (l : wac) : ∀ (g : wac) (r : Nat), waa (wgv l g) r = (waa g r).map fun y => match waa l r with | some x => { y with els := x.els } | none => y
 | [], r => rfl
 | (s, y) :: g, r => by
  simp only [wgv, waa]
  split
  ·rename_i e; subst e; rfl
  ·exact wjD l g r
theorem Sub.rows (L : wac) (h : woT L σ.heap) : Sub G N σ { σ with heap := wgv L σ.heap } := by
 intro P B a w φ hr
 have hgt : ∀ r y, waa σ.heap r = some y → ∃ x, waa (wgv L σ.heap) r = some x ∧ x.e = y.e ∧ x.k = y.k ∧ x.els.length = y.els.length ∧ leVL y.els x.els ∧ (y.els = x.els ∨ y.els.all (fun p => !wa0 p) = true) := fun r y hy => by
  rw [wjD, hy, Option.map_some]
  cases h2 : waa L r with
  | none => exact ⟨y, rfl, rfl, rfl, rfl, leVL_refl _, .inl rfl⟩
  | some x =>
   obtain ⟨y', h3, h4, h5, h6⟩ := wmr h r x h2
   rw [hy] at h3; cases h3
   exact ⟨_, rfl, rfl, rfl, (wjB h6.1).1.symm, h6⟩
 have hget' : ∀ r x, waa (wgv L σ.heap) r = some x → ∃ y, waa σ.heap r = some y ∧ y.e = x.e ∧ y.k = x.k ∧ x.els.length = y.els.length ∧ leVL y.els x.els ∧ (y.els = x.els ∨ y.els.all (fun p => !wa0 p) = true) := fun r x hx => by
  have hx' := hx
  rw [wjD, Option.map_eq_some_iff] at hx'
  obtain ⟨y, hy, _⟩ := hx'
  obtain ⟨x', h1, h2, h3, h4, h5⟩ := hgt r y hy
  rw [hx] at h1; cases h1
  exact ⟨y, hy, h2.symm, h3.symm, h4, h5⟩
 have hrow : ∀ b, waC φ (wgv L σ.heap) b ↔ waC φ σ.heap b := fun b =>
  ⟨fun ⟨r, x, h1, h2⟩ => by obtain ⟨y, h3, _⟩ := hget' r x h1; exact ⟨r, y, h3, h2⟩, fun ⟨r, y, h1, h2⟩ => by obtain ⟨x, h3, _⟩ := hgt r y h1; exact ⟨r, x, h3, h2⟩⟩
 have hown : ∀ b, own φ (wgv L σ.heap) b ↔ own φ σ.heap b := fun b => or_congr (hrow b) Iff.rfl
 have hext : Ext w B.X φ σ.heap w φ (wgv L σ.heap) :=
  ⟨fun r y hy => by obtain ⟨x, h1, h2, h3, h4, _⟩ := hgt r y hy; exact ⟨x, h1, h3, fun _ => h4, rfl⟩, fun b hb => ⟨hb.1, hb.2.1, fun ho => hb.2.2 ((hown b).1 ho)⟩, fun b hb => ⟨hb.1, fun ho => hb.2 ((hown b).1 ho)⟩, fun _ _ => rfl, fun r x b _ _ c e f hh => ⟨c, e, f, hh, rfl⟩⟩
 refine ⟨φ, Rep.of_sit ⟨⟨fun r x b hx hb => ?_, fun r x hx hφ => ?_, fun r s x y b hx hy hb hb' => ?_, fun b hT => ⟨(hr.heap.far b hT).1, (hr.heap.far b hT).2.1, fun ho => (hr.heap.far b hT).2.2 ((hrow b).1 ho)⟩⟩, hr.keeps, fun r x b hx hb => ?_, fun r x hx hp => ?_, fun r x b hx hp hb => ?_, ?_, hr.tnew, ?_⟩ hr.size (fun t => (hr.env t).ext hext) ?_⟩
 ·obtain ⟨y, h1, h2, h3, h4, h5⟩ := hget' r x hx
  have hro := (hr.heap.rows r y b h1 hb).ext hext rfl
  exact hro.turn h3.symm h2.symm h4 (fun _ _ h => h) hro.free (fun i hi hi' v hv => hv.le ((wjB h5.1).2 i hi hi')) fun z hz => by
   rcases h5.2 with h6 | h6
   ·rw [h6] at hz; exact hz
   ·have := hz.zero_of fun p hp => by simpa using List.all_eq_true.1 h6 p hp
    subst this; exact .zero _
 ·obtain ⟨y, h1, h2, h3, h4, h5⟩ := hget' r x hx
  have := hr.heap.void r y h1 hφ
  rw [this] at h4
  simpa using h4
 ·obtain ⟨x', h1, _⟩ := hget' r x hx
  obtain ⟨y', h2, _⟩ := hget' s y hy
  exact hr.heap.inj r s x' y' b h1 h2 hb hb'
 ·obtain ⟨y, h1, _⟩ := hget' r x hx
  exact hr.new r y b h1 hb
 ·obtain ⟨y, h1, _⟩ := hget' r x hx
  exact hr.pins r y h1 hp
 ·obtain ⟨y, h1, _⟩ := hget' r x hx
  exact hr.psz r y b h1 hp hb
 ·exact hr.glob.ext hext (fun g y hm => by obtain ⟨_, _, _, _, _, h2, _⟩ := hr.glob g y hm; exact fun ho => h2 ((hown g).1 ho))
 ·exact wdW (w := w) (φ := φ) (H := σ.heap) hr.inv rfl rfl rfl rfl (Nat.le_refl _) (fun _ _ _ => rfl) (fun b hb => .inl ((hrow b).1 hb))
 ·exact hr.dfr.ext hext
theorem wp3 : ∀ {l m : List PD}, leDL l m → leVL (dl l) (dl m)
 | [], [], _ => by simp only [dl, List.map_nil, leVL]
 | x :: l, y :: m, h => by
  simp only [leDL] at h
  simp only [wi1, leVL, leV]
  exact ⟨h.1, wp3 h.2⟩
 | [], _ :: _, h => by simp [leDL] at h
 | _ :: _, [], h => by simp [leDL] at h
theorem woU {x y : PD} (h : leD x y) : ∀ n : Nat, leDL (List.replicate n x) (List.replicate n y)
 | 0 => by simp only [List.replicate_zero, leDL]
 | n + 1 => by simp only [List.replicate_succ, leDL]; exact ⟨h, woU h n⟩
theorem wfz (H : wac) (l : List PD) : refsInL H (dl l) := by rw [dl_refs]; trivial
theorem wp4 {α : Type} {r e k n : Nat} {f : α → PD} {L : List α} (h : waa H r = some ⟨e, k, dl (wab f L)⟩) (hn : n = L.length) : frzT H (.slc r 0 n) = some (.d (.imm k (wab f L))) := by
 subst hn
 simp only [frzT, frz, h, dl_allD, Option.map_some, List.drop_zero, lenc_take, List.take_length]
theorem wlX {r i off : Nat} (h : waa H' r = none) : ∀ s ∈ rowsOf (.ptr r i off), waa H' s = none := by
 intro s hs
 simp only [rowsOf, List.mem_singleton] at hs
 subst hs; exact h
theorem wlY {r lo n : Nat} (h : waa H' r = none) : ∀ s ∈ rowsOf (.slc r lo n), waa H' s = none := by
 intro s hs
 simp only [rowsOf, List.mem_singleton] at hs
 subst hs; exact h
theorem woV {α : Type} (k : Nat) (f : α → PD) : leV (.d .nilslice) (.d (.imm k (wab f []))) := by simp only [leV, leD, wd8]
theorem wrN {r n m : Nat} (h : n = m) : PV.slc r 0 n = .slc r 0 m := by rw [h]
theorem wsj {r n m : Nat} (h : n = m) : leV (PV.slc r 0 n) (.slc r 0 m) := by rw [h]; exact leV_refl _
def wgw (k : Nat) (l : List PD) : PD := match l with
 | [] => .nilslice
 | x :: l => .imm k (x :: l)
theorem wi4 (k : Nat) (l : List PD) : leD (wgw k l) (.imm k l) := by
 cases l with
 | nil => simp only [wgw, leD]
 | cons x l => exact leD_refl _
end
attribute [go_sem] wos wlc wjC wi3 wi1 wsA
end Go.Pv

