/- TariffDiagrams answers true for every input, as its tied card says: under the conditions of the card (Rows, Cards, Tie), no more. Part 4 of 7: by one AI agent and its programs; no person has read it. -/
import Derived.Test.YtnfnkllhjaemnaaDoorTariffDiagramsA
import Derived.Test.YtnfnkllhjaemnaaDoorTariffDiagramsB
import Derived.Test.YtnfnkllhjaemnaaDoorTariffDiagramsC
import Derived.Lib.ItoaNum
import Derived.Test.YtnfnkllhjaemnaaDoorProg
import Derived.KernelRfl
set_option linter.unusedSimpArgs false
set_option linter.unusedVariables false
set_option linter.all false

namespace Go.Pv
structure StringsBuilder where
 addr:Bool
 buf:(List Int)
deriving DecidableEq
instance:Inhabited StringsBuilder:=⟨⟨false,[]⟩⟩
structure Band where
 Lo:Int
 Hi:Int
deriving DecidableEq
instance:Inhabited Band:=⟨⟨0,0⟩⟩
def Band.pd (x:Band):PD:=.agg [(.int .i64 x.Lo),(.int .i64 x.Hi)]
attribute [go_sem] Band.pd
@[go_sem] theorem snoc_Band (l:List Band) (a0:Int) (a1:Int):dl (wab Band.pd l)++[PV.d (PD.agg [(.int .i64 a0),(.int .i64 a1)])]=dl (wab Band.pd (l++[(⟨a0,a1⟩:Band)])):=wdj Band.pd l (⟨a0,a1⟩:Band)
@[go_sem] theorem set_Band (l:List Band) (i:Nat) (a0:Int) (a1:Int):(wab Band.pd l).set i (PD.agg [(.int .i64 a0),(.int .i64 a1)])=wab Band.pd (l.set i (⟨a0,a1⟩:Band)):=wdM Band.pd l i (⟨a0,a1⟩:Band)
@[go_sem] theorem rep_Band (n:Nat) (a0:Int) (a1:Int):List.replicate n (PD.agg [(.int .i64 a0),(.int .i64 a1)])=wab Band.pd (List.replicate n (⟨a0,a1⟩:Band)):=weu Band.pd n (⟨a0,a1⟩:Band)
structure Rule where
 Bands:(List Band)
 Code:Int
deriving DecidableEq
instance:Inhabited Rule:=⟨⟨[],0⟩⟩
def Rule.pd (x:Rule):PD:=.agg [(.imm 2 (wab Band.pd x.Bands)),(.int .i64 x.Code)]
attribute [go_sem] Rule.pd
@[go_sem] theorem snoc_Rule (l:List Rule) (a0:(List Band)) (a1:Int):dl (wab Rule.pd l)++[PV.d (PD.agg [(.imm 2 (wab Band.pd a0)),(.int .i64 a1)])]=dl (wab Rule.pd (l++[(⟨a0,a1⟩:Rule)])):=wdj Rule.pd l (⟨a0,a1⟩:Rule)
@[go_sem] theorem set_Rule (l:List Rule) (i:Nat) (a0:(List Band)) (a1:Int):(wab Rule.pd l).set i (PD.agg [(.imm 2 (wab Band.pd a0)),(.int .i64 a1)])=wab Rule.pd (l.set i (⟨a0,a1⟩:Rule)):=wdM Rule.pd l i (⟨a0,a1⟩:Rule)
@[go_sem] theorem rep_Rule (n:Nat) (a0:(List Band)) (a1:Int):List.replicate n (PD.agg [(.imm 2 (wab Band.pd a0)),(.int .i64 a1)])=wab Rule.pd (List.replicate n (⟨a0,a1⟩:Rule)):=weu Rule.pd n (⟨a0,a1⟩:Rule)
structure Arr3_Int where
 c0:Int
 c1:Int
 c2:Int
deriving DecidableEq
instance:Inhabited Arr3_Int:=⟨⟨0,0,0⟩⟩
def Arr3_Int.pd (x:Arr3_Int):PD:=.agg [(.int .i64 x.c0),(.int .i64 x.c1),(.int .i64 x.c2)]
attribute [go_sem] Arr3_Int.pd
@[go_sem] theorem snoc_Arr3_Int (l:List Arr3_Int) (a0:Int) (a1:Int) (a2:Int):dl (wab Arr3_Int.pd l)++[PV.d (PD.agg [(.int .i64 a0),(.int .i64 a1),(.int .i64 a2)])]=dl (wab Arr3_Int.pd (l++[(⟨a0,a1,a2⟩:Arr3_Int)])):=wdj Arr3_Int.pd l (⟨a0,a1,a2⟩:Arr3_Int)
@[go_sem] theorem set_Arr3_Int (l:List Arr3_Int) (i:Nat) (a0:Int) (a1:Int) (a2:Int):(wab Arr3_Int.pd l).set i (PD.agg [(.int .i64 a0),(.int .i64 a1),(.int .i64 a2)])=wab Arr3_Int.pd (l.set i (⟨a0,a1,a2⟩:Arr3_Int)):=wdM Arr3_Int.pd l i (⟨a0,a1,a2⟩:Arr3_Int)
@[go_sem] theorem rep_Arr3_Int (n:Nat) (a0:Int) (a1:Int) (a2:Int):List.replicate n (PD.agg [(.int .i64 a0),(.int .i64 a1),(.int .i64 a2)])=wab Arr3_Int.pd (List.replicate n (⟨a0,a1,a2⟩:Arr3_Int)):=weu Arr3_Int.pd n (⟨a0,a1,a2⟩:Arr3_Int)
structure Walker where
 k:Int
 s:(List Rule)
 t:(List Rule)
deriving DecidableEq
instance:Inhabited Walker:=⟨⟨0,[],[]⟩⟩
def Walker.pd (x:Walker):PD:=.agg [(.int .i64 x.k),(.imm 2 (wab Rule.pd x.s)),(.imm 2 (wab Rule.pd x.t))]
attribute [go_sem] Walker.pd
@[go_sem] theorem snoc_Walker (l:List Walker) (a0:Int) (a1:(List Rule)) (a2:(List Rule)):dl (wab Walker.pd l)++[PV.d (PD.agg [(.int .i64 a0),(.imm 2 (wab Rule.pd a1)),(.imm 2 (wab Rule.pd a2))])]=dl (wab Walker.pd (l++[(⟨a0,a1,a2⟩:Walker)])):=wdj Walker.pd l (⟨a0,a1,a2⟩:Walker)
@[go_sem] theorem set_Walker (l:List Walker) (i:Nat) (a0:Int) (a1:(List Rule)) (a2:(List Rule)):(wab Walker.pd l).set i (PD.agg [(.int .i64 a0),(.imm 2 (wab Rule.pd a1)),(.imm 2 (wab Rule.pd a2))])=wab Walker.pd (l.set i (⟨a0,a1,a2⟩:Walker)):=wdM Walker.pd l i (⟨a0,a1,a2⟩:Walker)
@[go_sem] theorem rep_Walker (n:Nat) (a0:Int) (a1:(List Rule)) (a2:(List Rule)):List.replicate n (PD.agg [(.int .i64 a0),(.imm 2 (wab Rule.pd a1)),(.imm 2 (wab Rule.pd a2))])=wab Walker.pd (List.replicate n (⟨a0,a1,a2⟩:Walker)):=weu Walker.pd n (⟨a0,a1,a2⟩:Walker)
structure Node where
 Mark:Int
 Cuts:(List Int)
 To:(List Int)
deriving DecidableEq
instance:Inhabited Node:=⟨⟨0,[],[]⟩⟩
def Node.pd (x:Node):PD:=.agg [(.int .i64 x.Mark),(.imm 1 (wab (PD.int .i64) x.Cuts)),(.imm 1 (wab (PD.int .i64) x.To))]
attribute [go_sem] Node.pd
@[go_sem] theorem snoc_Node (l:List Node) (a0:Int) (a1:(List Int)) (a2:(List Int)):dl (wab Node.pd l)++[PV.d (PD.agg [(.int .i64 a0),(.imm 1 (wab (PD.int .i64) a1)),(.imm 1 (wab (PD.int .i64) a2))])]=dl (wab Node.pd (l++[(⟨a0,a1,a2⟩:Node)])):=wdj Node.pd l (⟨a0,a1,a2⟩:Node)
@[go_sem] theorem set_Node (l:List Node) (i:Nat) (a0:Int) (a1:(List Int)) (a2:(List Int)):(wab Node.pd l).set i (PD.agg [(.int .i64 a0),(.imm 1 (wab (PD.int .i64) a1)),(.imm 1 (wab (PD.int .i64) a2))])=wab Node.pd (l.set i (⟨a0,a1,a2⟩:Node)):=wdM Node.pd l i (⟨a0,a1,a2⟩:Node)
@[go_sem] theorem rep_Node (n:Nat) (a0:Int) (a1:(List Int)) (a2:(List Int)):List.replicate n (PD.agg [(.int .i64 a0),(.imm 1 (wab (PD.int .i64) a1)),(.imm 1 (wab (PD.int .i64) a2))])=wab Node.pd (List.replicate n (⟨a0,a1,a2⟩:Node)):=weu Node.pd n (⟨a0,a1,a2⟩:Node)
structure Builder where
 k:Int
 rules:(List Rule)
 known:(List (Arr3_Int×Int))
 same:(List (ByteArray×Int))
 nodes:(List Node)
deriving DecidableEq
instance:Inhabited Builder:=⟨⟨0,[],[],[],[]⟩⟩
structure Table where
 heads:(List Int)
 next:(List Int)
 keys:(List Arr3_Int)
deriving DecidableEq
instance:Inhabited Table:=⟨⟨[],[],[]⟩⟩
def Table.pd (x:Table):PD:=.agg [(.imm 1 (wab (PD.int .i64) x.heads)),(.imm 1 (wab (PD.int .i64) x.next)),(.imm 3 (wab Arr3_Int.pd x.keys))]
attribute [go_sem] Table.pd
@[go_sem] theorem snoc_Table (l:List Table) (a0:(List Int)) (a1:(List Int)) (a2:(List Arr3_Int)):dl (wab Table.pd l)++[PV.d (PD.agg [(.imm 1 (wab (PD.int .i64) a0)),(.imm 1 (wab (PD.int .i64) a1)),(.imm 3 (wab Arr3_Int.pd a2))])]=dl (wab Table.pd (l++[(⟨a0,a1,a2⟩:Table)])):=wdj Table.pd l (⟨a0,a1,a2⟩:Table)
@[go_sem] theorem set_Table (l:List Table) (i:Nat) (a0:(List Int)) (a1:(List Int)) (a2:(List Arr3_Int)):(wab Table.pd l).set i (PD.agg [(.imm 1 (wab (PD.int .i64) a0)),(.imm 1 (wab (PD.int .i64) a1)),(.imm 3 (wab Arr3_Int.pd a2))])=wab Table.pd (l.set i (⟨a0,a1,a2⟩:Table)):=wdM Table.pd l i (⟨a0,a1,a2⟩:Table)
@[go_sem] theorem rep_Table (n:Nat) (a0:(List Int)) (a1:(List Int)) (a2:(List Arr3_Int)):List.replicate n (PD.agg [(.imm 1 (wab (PD.int .i64) a0)),(.imm 1 (wab (PD.int .i64) a1)),(.imm 3 (wab Arr3_Int.pd a2))])=wab Table.pd (List.replicate n (⟨a0,a1,a2⟩:Table)):=weu Table.pd n (⟨a0,a1,a2⟩:Table)
structure Search where
 k:Int
 t:(List Rule)
 seen:Table
 many:(List (List Int))
 at_:(List Int)
 nodes:(List Node)
deriving DecidableEq
instance:Inhabited Search:=⟨⟨0,[],⟨[],[],[]⟩,[],[],[]⟩⟩
def Search.pd (x:Search):PD:=.agg [(.int .i64 x.k),(.imm 2 (wab Rule.pd x.t)),(.imm 1 (wab (PD.int .i64) x.seen.heads)),(.imm 1 (wab (PD.int .i64) x.seen.next)),(.imm 3 (wab Arr3_Int.pd x.seen.keys)),(.imm 1 (wab (wbb 1 (PD.int .i64)) x.many)),(.imm 1 (wab (PD.int .i64) x.at_)),(.imm 3 (wab Node.pd x.nodes))]
attribute [go_sem] Search.pd
@[go_sem] theorem snoc_Search (l:List Search) (a0:Int) (a1:(List Rule)) (a2:(List Int)) (a3:(List Int)) (a4:(List Arr3_Int)) (a5:(List (List Int))) (a6:(List Int)) (a7:(List Node)):dl (wab Search.pd l)++[PV.d (PD.agg [(.int .i64 a0),(.imm 2 (wab Rule.pd a1)),(.imm 1 (wab (PD.int .i64) a2)),(.imm 1 (wab (PD.int .i64) a3)),(.imm 3 (wab Arr3_Int.pd a4)),(.imm 1 (wab (wbb 1 (PD.int .i64)) a5)),(.imm 1 (wab (PD.int .i64) a6)),(.imm 3 (wab Node.pd a7))])]=dl (wab Search.pd (l++[(⟨a0,a1,(⟨a2,a3,a4⟩:Table),a5,a6,a7⟩:Search)])):=wdj Search.pd l (⟨a0,a1,(⟨a2,a3,a4⟩:Table),a5,a6,a7⟩:Search)
@[go_sem] theorem set_Search (l:List Search) (i:Nat) (a0:Int) (a1:(List Rule)) (a2:(List Int)) (a3:(List Int)) (a4:(List Arr3_Int)) (a5:(List (List Int))) (a6:(List Int)) (a7:(List Node)):(wab Search.pd l).set i (PD.agg [(.int .i64 a0),(.imm 2 (wab Rule.pd a1)),(.imm 1 (wab (PD.int .i64) a2)),(.imm 1 (wab (PD.int .i64) a3)),(.imm 3 (wab Arr3_Int.pd a4)),(.imm 1 (wab (wbb 1 (PD.int .i64)) a5)),(.imm 1 (wab (PD.int .i64) a6)),(.imm 3 (wab Node.pd a7))])=wab Search.pd (l.set i (⟨a0,a1,(⟨a2,a3,a4⟩:Table),a5,a6,a7⟩:Search)):=wdM Search.pd l i (⟨a0,a1,(⟨a2,a3,a4⟩:Table),a5,a6,a7⟩:Search)
@[go_sem] theorem rep_Search (n:Nat) (a0:Int) (a1:(List Rule)) (a2:(List Int)) (a3:(List Int)) (a4:(List Arr3_Int)) (a5:(List (List Int))) (a6:(List Int)) (a7:(List Node)):List.replicate n (PD.agg [(.int .i64 a0),(.imm 2 (wab Rule.pd a1)),(.imm 1 (wab (PD.int .i64) a2)),(.imm 1 (wab (PD.int .i64) a3)),(.imm 3 (wab Arr3_Int.pd a4)),(.imm 1 (wab (wbb 1 (PD.int .i64)) a5)),(.imm 1 (wab (PD.int .i64) a6)),(.imm 3 (wab Node.pd a7))])=wab Search.pd (List.replicate n (⟨a0,a1,(⟨a2,a3,a4⟩:Table),a5,a6,a7⟩:Search)):=weu Search.pd n (⟨a0,a1,(⟨a2,a3,a4⟩:Table),a5,a6,a7⟩:Search)
structure Compare where
 k:Int
 s:(List Rule)
 t:(List Rule)
 alike:Table
deriving DecidableEq
instance:Inhabited Compare:=⟨⟨0,[],[],⟨[],[],[]⟩⟩⟩
def Compare.pd (x:Compare):PD:=.agg [(.int .i64 x.k),(.imm 2 (wab Rule.pd x.s)),(.imm 2 (wab Rule.pd x.t)),(.imm 1 (wab (PD.int .i64) x.alike.heads)),(.imm 1 (wab (PD.int .i64) x.alike.next)),(.imm 3 (wab Arr3_Int.pd x.alike.keys))]
attribute [go_sem] Compare.pd
@[go_sem] theorem snoc_Compare (l:List Compare) (a0:Int) (a1:(List Rule)) (a2:(List Rule)) (a3:(List Int)) (a4:(List Int)) (a5:(List Arr3_Int)):dl (wab Compare.pd l)++[PV.d (PD.agg [(.int .i64 a0),(.imm 2 (wab Rule.pd a1)),(.imm 2 (wab Rule.pd a2)),(.imm 1 (wab (PD.int .i64) a3)),(.imm 1 (wab (PD.int .i64) a4)),(.imm 3 (wab Arr3_Int.pd a5))])]=dl (wab Compare.pd (l++[(⟨a0,a1,a2,(⟨a3,a4,a5⟩:Table)⟩:Compare)])):=wdj Compare.pd l (⟨a0,a1,a2,(⟨a3,a4,a5⟩:Table)⟩:Compare)
@[go_sem] theorem set_Compare (l:List Compare) (i:Nat) (a0:Int) (a1:(List Rule)) (a2:(List Rule)) (a3:(List Int)) (a4:(List Int)) (a5:(List Arr3_Int)):(wab Compare.pd l).set i (PD.agg [(.int .i64 a0),(.imm 2 (wab Rule.pd a1)),(.imm 2 (wab Rule.pd a2)),(.imm 1 (wab (PD.int .i64) a3)),(.imm 1 (wab (PD.int .i64) a4)),(.imm 3 (wab Arr3_Int.pd a5))])=wab Compare.pd (l.set i (⟨a0,a1,a2,(⟨a3,a4,a5⟩:Table)⟩:Compare)):=wdM Compare.pd l i (⟨a0,a1,a2,(⟨a3,a4,a5⟩:Table)⟩:Compare)
@[go_sem] theorem rep_Compare (n:Nat) (a0:Int) (a1:(List Rule)) (a2:(List Rule)) (a3:(List Int)) (a4:(List Int)) (a5:(List Arr3_Int)):List.replicate n (PD.agg [(.int .i64 a0),(.imm 2 (wab Rule.pd a1)),(.imm 2 (wab Rule.pd a2)),(.imm 1 (wab (PD.int .i64) a3)),(.imm 1 (wab (PD.int .i64) a4)),(.imm 3 (wab Arr3_Int.pd a5))])=wab Compare.pd (List.replicate n (⟨a0,a1,a2,(⟨a3,a4,a5⟩:Table)⟩:Compare)):=weu Compare.pd n (⟨a0,a1,a2,(⟨a3,a4,a5⟩:Table)⟩:Compare)
def Node.npv (r:Nat) (x:Node):PV:=.agg [.d (.int .i64 x.Mark),.d (.imm 1 (wab (PD.int .i64) x.Cuts)),.slc r 0 x.To.length]
def Node.sub (x:Node):Row:=⟨3,1,dl (wab (PD.int .i64) x.To)⟩
attribute [go_sem] Node.npv
instance:NestF Node.npv where
 ren ρ r x:=by simp[Node.npv,PV.ren,renL]
 rows r x s h:=by simpa [Node.npv,rowsOf,rowsOfL]using h
 refs H r x h:=by simp[Node.npv,refsIn,refsInL,h]
 kill q r x h:=by simp[Node.npv,PV.kill,killL,h]
 clean r x:=by simp[Node.npv,clean,cleanL]
 byte r x:=rfl
instance:NestG Node.sub:=⟨fun x=>⟨Nat.le_of_ble_eq_true rfl,_,rfl⟩⟩
instance:NestP Node.npv Node.sub Node.pd:=⟨fun H r x h=>by
 simp only[Node.npv,Node.pd,frz,frzL,h,Node.sub,dl_allD,lenc_take,List.drop_zero,List.take_length,Option.map_some]⟩
def whz {α:Type} (l:List α):Option (List α):=if l.length<=4294967296 then some l else none
def wla (o:StringsBuilder) (s:ByteArray):Option StringsBuilder:=wah (o.buf.length+s.size<=4294967296) (some ⟨true,o.buf++wbf s⟩)
def wgA (o:StringsBuilder) (c:Int):Option StringsBuilder:=wah (o.buf.length+1<=4294967296) (some ⟨true,o.buf++[c]⟩)
def wfA (o:StringsBuilder):Option ByteArray:=wah (wjh o.buf=true/\o.buf≠[]) (some (ofI o.buf))
def wlK (n:Int):Option ByteArray:=wah (-9223372036854775808<=n/\n<=9223372036854775807) (some ⟨(Lib.itoa n).toArray⟩)
noncomputable def wiF (at1:Int) (l1:List Int):Int->Option (Int ⊕ (Unit ⊕ List Int)):=fun i1 =>
 cond (decide (i1 < (l1.length:Int)))
  ((idx l1 i1).bind fun e1=>cond (decide (e1=at1)) (some (.inr (.inr l1))) (some (.inl (IntKind.i64.wrap (i1+1)))))
  (some (.inr (.inl ())))
noncomputable def wj2 (self:Int->List Int->Option (List Int)) (o1:Search) (at1:Int):(Int×List Int)->Option ((Int×List Int) ⊕ List Int):=fun (i1,L1) =>
 (idx o1.nodes at1).bind fun e1 =>
 cond (decide (i1 < (e1.To.length:Int)))
  ((idx e1.To i1).bind fun e2=>(self e2 L1).bind fun r=>some (.inl (IntKind.i64.wrap (i1+1),r)))
  (some (.inr L1))
noncomputable def wmw (self:Int->List Int->Option (List Int)) (o1:Search) (at1:Int) (l1:List Int):Option (List Int) :=
 cond (decide (at1 < 0))
  (some l1)
  (((iter (wiF at1 l1) 0).bind fun x_9=>match x_9 with
     | (.inl y1)=>some (.inl y1)
     | (.inr y2)=>some (.inr y2):Option (Unit ⊕ List Int)).bind fun o_3=>match o_3 with
    | (.inl _) =>
      wah (l1.length+[at1].length<=4294967296) <|
      ((iter (wj2 self o1 at1) (0,l1++[at1])).bind fun x_15=>some x_15:Option (List Int)).bind fun L3=>some L3
    | (.inr y3)=>some y3)
noncomputable def whH (o1:Search):Nat->Int->List Int->Option (List Int)
 | 0=>fun _ _=>none
 | n+1=>wmw (whH o1 n) o1
noncomputable def wbx (o1:Search) (at1:Int) (l1:List Int):Option (List Int×Search):=if l1=[]then (whH o1 100 at1 []).bind fun r=>some (r,o1)else none
theorem wtp {o1:Search} {at1:Int} {l1:List Int} {r:List Int×Search} (h:wbx o1 at1 l1=some r):l1=[]/\∃ r',r=(r',o1)/\whH o1 100 at1 []=some r':=by
 unfold wbx at h
 split at h
 ·rename_i e
  cases hr:whH o1 100 at1 []with
  | none=>rw[hr]at h; cases h
  | some r'=>rw[hr]at h; cases h; exact⟨e,r',rfl,rfl⟩
 ·cases h
noncomputable def wcp (k1:Int) (e1:Rule):Int->Option (Int ⊕ (Unit ⊕ Int)):=fun m1 =>
 cond (decide (m1 < k1))
  (
  (idx e1.Bands m1).bind fun e2 =>
  cond (decide (e2.Lo < 0))
   (
   some (.inr (.inr 2))
   )
   (
   cond (decide (e2.Hi<=e2.Lo))
    (
    some (.inr (.inr 2))
    )
    (
    cond (decide (1000 < e2.Hi))
     (
     some (.inr (.inr 2))
     )
     (
     some (.inl (IntKind.i64.wrap (m1+1)))
     )
    )
   )
  )
  (
  some (.inr (.inl ()))
  )
noncomputable def wcq (k1:Int) (t1:(List Rule)):Int->Option (Int ⊕ (Unit ⊕ Int)):=fun i1 =>
 cond (decide (i1 < (t1.length:Int)))
  (
  (
  (
   (idx t1 i1).bind fun e1 =>
   cond (((decide (¬(e1.Bands.length:Int)=k1))||(decide (e1.Code < 0)))||(decide (99 < e1.Code)))
    (
    some (.inr 2)
    )
    (
    (
    (iter (wcp k1 e1) 0).bind fun x_33=>match x_33 with
      | (.inl y1)=>some (.inl y1)
      | (.inr y2)=>some (.inr y2)
    )
    )
   : Option (Unit ⊕ Int)).bind fun o_17=>match o_17 with
    | (.inl _) =>
      some (.inl (IntKind.i64.wrap (i1+1)))
    | (.inr y3)=>some (.inr (.inr y3))
  )
  )
  (
  some (.inr (.inl ()))
  )
noncomputable def wcW (k1:Int) (t1:(List Rule)):Option Int :=
 cond ((decide (k1 < 1))||(decide (4 < k1)))
  (
  some 2
  )
  (
  cond (decide (24 < (t1.length:Int)))
   (
   some 3
   )
   (
   (
   (
    (
    (iter (wcq k1 t1) 0).bind fun x_13=>match x_13 with
      | (.inl y4)=>some (.inl y4)
      | (.inr y5)=>some (.inr y5)
    )
    : Option (Unit ⊕ Int)).bind fun o_7=>match o_7 with
     | (.inl _) =>
       some 0
     | (.inr y6)=>some y6
   )
   )
  )
noncomputable def wcE (t1:(List Rule)):Option Int :=
 wah (0<=(t1.length:Int)) <|
 some (IntKind.i64.wrap ((IntKind.i64.wrap (1*(2 ^ (min ((t1.length:Int)).toNat 64)))) - 1))
noncomputable def wbh (l1:(List Int)) (n1:Int):(Bool×Int×(List Int))->Option ((Bool×Int×(List Int)) ⊕ (Bool×(List Int))):=fun (done2,i1,L2) =>
 cond (decide (i1 < (l1.length:Int)))
  (
  (
   ((cond (!done2)
    (
     (idx l1 i1).bind fun e1 =>
     some (decide (n1<=e1))
    )
    (some false)
   ):Option Bool).bind fun b1 =>
   cond b1
    (
    (idx l1 i1).bind fun e2 =>
    cond (decide (n1 < e2))
     (
     wah (L2.length+[n1].length<=4294967296) <|
     some (true,(L2++[n1]))
     )
     (
     some (true,L2)
     )
    )
    (
    some (done2,L2)
    )
   : Option (Bool×(List Int))).bind fun (done3,L3) =>
  (idx l1 i1).bind fun e3 =>
  wah (L3.length+[e3].length<=4294967296) <|
  some (.inl (done3,(IntKind.i64.wrap (i1+1)),(L3++[e3])))
  )
  (
  some (.inr (done2,L2))
  )
noncomputable def wdi (l1:(List Int)) (n1:Int):Option (List Int) :=
 (
  (iter (wbh l1 n1) (false,0,[])).bind fun x_7 =>
  some x_7
  : Option (Bool×(List Int))).bind fun (done1,L1) =>
 (
  cond (!done1)
   (
   wah (L1.length+[n1].length<=4294967296) <|
   some (L1++[n1])
   )
   (
   some L1
   )
  : Option (List Int)).bind fun L4 =>
 some L4
noncomputable def wcr (t1:(List Rule)) (mark1:Int) (set1:Int):((List Int)×Int)->Option (((List Int)×Int) ⊕ (List Int)):=fun (out2,i1) =>
 cond (decide (i1 < (t1.length:Int)))
  (
  (
   wah (0<=i1) <|
   cond (decide (((set1.fdiv (2 ^ (min (i1).toNat 64))).tmod 2)=1))
    (
    (
     (idx t1 i1).bind fun e1 =>
     (idx e1.Bands mark1).bind fun e2 =>
     cond (decide (0 < e2.Lo))
      (
      (idx t1 i1).bind fun e3 =>
      (idx e3.Bands mark1).bind fun e4 =>
      (wdi out2 e4.Lo).bind fun r1 =>
      some r1
      )
      (
      some out2
      )
     : Option (List Int)).bind fun out4 =>
    (idx t1 i1).bind fun e5 =>
    (idx e5.Bands mark1).bind fun e6 =>
    (wdi out4 e6.Hi).bind fun r2 =>
    some r2
    )
    (
    some out2
    )
   : Option (List Int)).bind fun out3 =>
  some (.inl (out3,(IntKind.i64.wrap (i1+1))))
  )
  (
  some (.inr out2)
  )
noncomputable def wb4 (t1:(List Rule)) (mark1:Int) (set1:Int):Option (List Int) :=
 (
  (iter (wcr t1 mark1 set1) ([1000],0)).bind fun x_7 =>
  some x_7
  : Option (List Int)).bind fun out1 =>
 some out1
noncomputable def waw (k1:Int) (t1:(List Rule)) (most1:Int):(Int×Int)->Option ((Int×Int) ⊕ Int):=fun (out2,m1) =>
 cond ((decide (m1 < k1))&&(decide (out2 < most1)))
  (
  (wcE t1).bind fun r2 =>
  (wb4 t1 m1 r2).bind fun r3 =>
  some (.inl ((IntKind.i64.wrap (out2*(r3.length:Int))),(IntKind.i64.wrap (m1+1))))
  )
  (
  some (.inr out2)
  )
noncomputable def wcC (k1:Int) (t1:(List Rule)) (most1:Int):Option Int :=
 (wcW k1 t1).bind fun r1 =>
 cond (decide (¬r1=0))
  (
  some 0
  )
  (
  (
   (iter (waw k1 t1 most1) (1,0)).bind fun x_10 =>
   some x_10
   : Option Int).bind fun out1 =>
  some out1
  )
noncomputable def waG (t1:(List Rule)):Int->Option (Int ⊕ (Unit ⊕ Bool)):=fun i1 =>
 cond (decide (i1 < (t1.length:Int)))
  (
  ((cond (decide (40<=i1))
   (some true)
   (
    (idx t1 i1).bind fun e1 =>
    some (decide (20 < (e1.Bands.length:Int)))
   )
  ):Option Bool).bind fun b1 =>
  cond b1
   (
   some (.inr (.inr false))
   )
   (
   some (.inl (IntKind.i64.wrap (i1+1)))
   )
  )
  (
  some (.inr (.inl ()))
  )
noncomputable def wcf (k1:Int) (t1:(List Rule)):Option Bool :=
 (
 (
  (
  (iter (waG t1) 0).bind fun x_7=>match x_7 with
    | (.inl y1)=>some (.inl y1)
    | (.inr y2)=>some (.inr y2)
  )
  : Option (Unit ⊕ Bool)).bind fun o_1=>match o_1 with
   | (.inl _) =>
     (wcC k1 t1 30000).bind fun r1 =>
     some (decide (r1 < 30000))
   | (.inr y3)=>some y3
 )
noncomputable def wch:Option (List Rule) :=
 some [(⟨[(⟨0,10⟩:Band)],1⟩:Rule),(⟨[(⟨5,20⟩:Band)],2⟩:Rule),(⟨[(⟨0,20⟩:Band)],3⟩:Rule)]
noncomputable def wd2 (k1:Int):Option Bool :=
 some ((decide (1<=k1))&&(decide (k1<=4)))
noncomputable def wdJ (b1:Band):Option Bool :=
 some (((decide (b1.Lo < 0))||(decide (b1.Hi<=b1.Lo)))||(decide (1000 < b1.Hi)))
noncomputable def wbQ (s1:(List Band)):Int->Option (Int ⊕ (Unit ⊕ Int)):=fun v1 =>
 cond (decide (v1 < (s1.length:Int)))
  (
  (idx s1 v1).bind fun e1 =>
  (wdJ e1).bind fun r1 =>
  cond r1
   (
   some (.inr (.inr v1))
   )
   (
   some (.inl (IntKind.i64.wrap (v1+1)))
   )
  )
  (
  some (.inr (.inl ()))
  )
noncomputable def wbj (s1:(List Band)):Option Int :=
 (
 (
  (
  (iter (wbQ s1) 0).bind fun x_7=>match x_7 with
    | (.inl y1)=>some (.inl y1)
    | (.inr y2)=>some (.inr y2)
  )
  : Option (Unit ⊕ Int)).bind fun o_1=>match o_1 with
   | (.inl _) =>
     some (-1)
   | (.inr y3)=>some y3
 )
noncomputable def waY (s1:(List Band)):Option Bool :=
 (wbj s1).bind fun r1 =>
 some (decide (0<=r1))
noncomputable def wdO (k1:Int) (r1:Rule):Option Bool :=
 ((cond (((decide ((r1.Bands.length:Int)=k1))&&(decide (0<=r1.Code)))&&(decide (r1.Code<=99)))
  (
   (waY r1.Bands).bind fun r2 =>
   some (!r2)
  )
  (some false)
 ):Option Bool).bind fun b1 =>
 some b1
noncomputable def wb7 (r1:Rule) (k1:Int):Option Bool :=
 (wdO k1 r1).bind fun r2 =>
 some (!r2)
noncomputable def wbY (s1:(List Rule)) (f1:Int):Int->Option (Int ⊕ (Unit ⊕ Int)):=fun v1 =>
 cond (decide (v1 < (s1.length:Int)))
  (
  (idx s1 v1).bind fun e1 =>
  (wb7 e1 f1).bind fun r1 =>
  cond r1
   (
   some (.inr (.inr v1))
   )
   (
   some (.inl (IntKind.i64.wrap (v1+1)))
   )
  )
  (
  some (.inr (.inl ()))
  )
noncomputable def wbt (s1:(List Rule)) (f1:Int):Option Int :=
 (
 (
  (
  (iter (wbY s1 f1) 0).bind fun x_7=>match x_7 with
    | (.inl y1)=>some (.inl y1)
    | (.inr y2)=>some (.inr y2)
  )
  : Option (Unit ⊕ Int)).bind fun o_1=>match o_1 with
   | (.inl _) =>
     some (-1)
   | (.inr y3)=>some y3
 )
noncomputable def waT (s1:(List Rule)) (f1:Int):Option Bool :=
 (wbt s1 f1).bind fun r1 =>
 some (decide (0<=r1))
noncomputable def wbU (k1:Int) (ts1:(List (List Rule))):Int->Option (Int ⊕ (Unit ⊕ Int)):=fun v1 =>
 cond (decide (v1 < (ts1.length:Int)))
  (
  (idx ts1 v1).bind fun e1 =>
  cond (decide (24 < (e1.length:Int)))
   (
   some (.inr (.inr 3))
   )
   (
   (waT e1 k1).bind fun r2 =>
   cond r2
    (
    some (.inr (.inr 2))
    )
    (
    some (.inl (IntKind.i64.wrap (v1+1)))
    )
   )
  )
  (
  some (.inr (.inl ()))
  )
noncomputable def wb8 (k1:Int) (ts1:(List (List Rule))):Option Int :=
 (wd2 k1).bind fun r1 =>
 cond (!r1)
  (
  some 2
  )
  (
  (
  (
   (
   (iter (wbU k1 ts1) 0).bind fun x_10=>match x_10 with
     | (.inl y1)=>some (.inl y1)
     | (.inr y2)=>some (.inr y2)
   )
   : Option (Unit ⊕ Int)).bind fun o_4=>match o_4 with
    | (.inl _) =>
      some 0
    | (.inr y3)=>some y3
  )
  )
noncomputable def wcL (t1:(List Rule)):Option Int :=
 wah (0<=(t1.length:Int)) <|
 some (IntKind.u32.wrap ((IntKind.u32.wrap (1*(2 ^ (min ((t1.length:Int)).toNat 32)))) - 1))
noncomputable def wcQ (mark1:Int) (e1:(List Rule)):(Int×(List Int))->Option ((Int×(List Int)) ⊕ (List Int)):=fun (v2,L4) =>
 cond (decide (v2 < (e1.length:Int)))
  (
  (idx e1 v2).bind fun e2 =>
  (idx e2.Bands mark1).bind fun e3 =>
  wah (L4.length+[e3.Lo,e3.Hi].length<=4294967296) <|
  some (.inl ((IntKind.i64.wrap (v2+1)),(L4++[e3.Lo,e3.Hi])))
  )
  (
  some (.inr L4)
  )
noncomputable def wcR (mark1:Int) (ts1:(List (List Rule))):(Int×(List Int))->Option ((Int×(List Int)) ⊕ (List Int)):=fun (v1,L2) =>
 cond (decide (v1 < (ts1.length:Int)))
  (
  (
   (idx ts1 v1).bind fun e1 =>
   (iter (wcQ mark1 e1) (0,L2)).bind fun x_21 =>
   some x_21
   : Option (List Int)).bind fun L3 =>
  some (.inl ((IntKind.i64.wrap (v1+1)),L3))
  )
  (
  some (.inr L2)
  )
noncomputable def wbL (mark1:Int) (ts1:(List (List Rule))):Option (List Int) :=
 (
  (iter (wcR mark1 ts1) (0,[1000])).bind fun x_7 =>
  some x_7
  : Option (List Int)).bind fun L1 =>
 wah (L1.length<=4294967296) <|
 wah ((sortI L1).length<=4294967296) <|
 (
  (idx (List.take ((compactI (sortI L1)).length) (waL (sortI L1))) 0).bind fun e4 =>
  cond (decide (e4=0))
   (
   wah (0<=1/\1<=((List.take ((compactI (sortI L1)).length) (waL (sortI L1))).length:Int)/\((List.take ((compactI (sortI L1)).length) (waL (sortI L1))).length:Int)<=((List.take ((compactI (sortI L1)).length) (waL (sortI L1))).length:Int)) <|
   some (((List.take ((compactI (sortI L1)).length) (waL (sortI L1))).drop 1).take ((((List.take ((compactI (sortI L1)).length) (waL (sortI L1))).length:Int):Int) - 1).toNat)
   )
   (
   some (List.take ((compactI (sortI L1)).length) (waL (sortI L1)))
   )
  : Option (List Int)).bind fun out1 =>
 some out1
noncomputable def wcS (t1:(List Rule)) (mark1:Int) (value1:Int):(Int×Int)->Option ((Int×Int) ⊕ Int):=fun (out2,v1) =>
 cond (decide (v1 < (t1.length:Int)))
  (
  (
   (idx t1 v1).bind fun e1 =>
   (idx e1.Bands mark1).bind fun e2 =>
   cond ((decide (e2.Lo<=value1))&&(decide (value1 < e2.Hi)))
    (
    wah (0<=v1) <|
    some (IntKind.u32.wrap ↑(BitVec.ofInt IntKind.u32.bits out2 ||| BitVec.ofInt IntKind.u32.bits (IntKind.u32.wrap (1*(2 ^ (min (v1).toNat 32))))).toNat)
    )
    (
    some out2
    )
   : Option Int).bind fun out3 =>
  some (.inl (out3,(IntKind.i64.wrap (v1+1))))
  )
  (
  some (.inr out2)
  )
noncomputable def wca (t1:(List Rule)) (mark1:Int) (value1:Int):Option Int :=
 (
  (iter (wcS t1 mark1 value1) (0,0)).bind fun x_7 =>
  some x_7
  : Option Int).bind fun out1 =>
 some out1
noncomputable def wbF (s1:Int):Int->Option (Int ⊕ (Unit ⊕ Int)):=fun v1 =>
 cond (decide (v1 < 24))
  (
  wah (0<=v1) <|
  cond (decide (¬(IntKind.u32.wrap ↑(BitVec.ofInt IntKind.u32.bits s1 &&& BitVec.ofInt IntKind.u32.bits (IntKind.u32.wrap (1*(2 ^ (min (v1).toNat 32))))).toNat)=0))
   (
   some (.inr (.inr v1))
   )
   (
   some (.inl (IntKind.i64.wrap (v1+1)))
   )
  )
  (
  some (.inr (.inl ()))
  )
noncomputable def wbv (s1:Int):Option Int :=
 (
 (
  (
  (iter (wbF s1) 0).bind fun x_7=>match x_7 with
    | (.inl y1)=>some (.inl y1)
    | (.inr y2)=>some (.inr y2)
  )
  : Option (Unit ⊕ Int)).bind fun o_1=>match o_1 with
   | (.inl _) =>
     some (-1)
   | (.inr y3)=>some y3
 )
noncomputable def wdA (from1:Int) (e1:Int) (r3:((List Int)×(List (Arr3_Int×(List Int))))):(Int×(List Int))->Option ((Int×(List Int)) ⊕ ((List (Arr3_Int×(List Int)))×(List Int))):=fun (v2,L5) =>
 cond (decide (v2 < (r3.1.length:Int)))
  (
  (idx r3.1 v2).bind fun e2 =>
  (idx L5 v2).bind fun e3 =>
  some (.inl ((IntKind.i64.wrap (v2+1)),(L5.set (v2).toNat (IntKind.i64.wrap (e3+(IntKind.i64.wrap (e2*(IntKind.i64.wrap (e1 - from1)))))))))
  )
  (
  some (.inr (r3.2,L5))
  )
noncomputable def wdB (mark1:Int) (a1:Int) (o1:(List Rule)) (o2:Int) (self:((List Rule)->Int->(List (Arr3_Int×(List Int)))->Int->Int->Option ((List Int)×(List (Arr3_Int×(List Int)))))) (r1:(List Int)):(Int×Int×(List (Arr3_Int×(List Int)))×(List Int))->Option ((Int×Int×(List (Arr3_Int×(List Int)))×(List Int)) ⊕ ((List (Arr3_Int×(List Int)))×(List Int))):=fun (from1,v1,M2,L2) =>
 cond (decide (v1 < (r1.length:Int)))
  (
  (
   (idx r1 v1).bind fun e1 =>
   (wca o1 mark1 from1).bind fun r2 =>
   (
    cond (decide ((IntKind.i64.wrap (mark1+1)) < o2))
     (
     (self o1 o2 M2 (IntKind.i64.wrap (mark1+1)) (IntKind.u32.wrap ↑(BitVec.ofInt IntKind.u32.bits a1 &&& BitVec.ofInt IntKind.u32.bits r2).toNat)).bind fun r3 =>
     (iter (wdA from1 e1 r3) (0,L2)).bind fun x_30 =>
     some x_30
     )
     (
     (wbv (IntKind.u32.wrap ↑(BitVec.ofInt IntKind.u32.bits a1 &&& BitVec.ofInt IntKind.u32.bits r2).toNat)).bind fun r4 =>
     cond (decide (r4 < 0))
      (
      (idx L2 (o1.length:Int)).bind fun e4 =>
      some (M2,(L2.set ((o1.length:Int)).toNat (IntKind.i64.wrap (e4+(IntKind.i64.wrap (e1 - from1))))))
      )
      (
      (idx L2 r4).bind fun e5 =>
      some (M2,(L2.set (r4).toNat (IntKind.i64.wrap (e5+(IntKind.i64.wrap (e1 - from1))))))
      )
     )
    : Option ((List (Arr3_Int×(List Int)))×(List Int))).bind fun (M4,L4) =>
   some (e1,M4,L4)
   : Option (Int×(List (Arr3_Int×(List Int)))×(List Int))).bind fun (from2,M3,L3) =>
  some (.inl (from2,(IntKind.i64.wrap (v1+1)),M3,L3))
  )
  (
  some (.inr (M2,L2))
  )
noncomputable def wcX (self:((List Rule)->Int->(List (Arr3_Int×(List Int)))->Int->Int->Option ((List Int)×(List (Arr3_Int×(List Int)))))) (o1:(List Rule)) (o2:Int) (m1:(List (Arr3_Int×(List Int)))) (mark1:Int) (a1:Int):Option ((List Int)×(List (Arr3_Int×(List Int)))) :=
 cond ((waQ (⟨mark1,(IntKind.i64.wrap a1),0⟩:Arr3_Int) m1).isSome)
  (
  some (((waQ (⟨mark1,(IntKind.i64.wrap a1),0⟩:Arr3_Int) m1).getD []),m1)
  )
  (
  wah (0<=(IntKind.i64.wrap ((o1.length:Int)+1))/\(IntKind.i64.wrap ((o1.length:Int)+1))<=4294967296) <|
  (
   (wbL mark1 [o1]).bind fun r1 =>
   (iter (wdB mark1 a1 o1 o2 self r1) (0,0,m1,(List.replicate ((IntKind.i64.wrap ((o1.length:Int)+1))).toNat (0:Int)))).bind fun x_11 =>
   some x_11
   : Option ((List (Arr3_Int×(List Int)))×(List Int))).bind fun (M1,L1) =>
  some (L1,(wc5 (⟨mark1,(IntKind.i64.wrap a1),0⟩:Arr3_Int) L1 M1))
  )
noncomputable def wdn:Nat->(List Rule)->Int->(List (Arr3_Int×(List Int)))->Int->Int->Option ((List Int)×(List (Arr3_Int×(List Int))))
 | 0=>fun _ _ _ _ _=>none
 | n+1=>wcX (wdn n)
noncomputable def wep (k1:Int) (t1:(List Rule)):Option (List Int) :=
 (wcL t1).bind fun r1 =>
 (wdn 100 t1 k1 [] 0 r1).bind fun r2 =>
 (whz r2.1).bind fun r3 =>
 some r3
noncomputable def weX (t1:(List Rule)) (r2:(List Int)):(Int×(List Int))->Option ((Int×(List Int)) ⊕ (List Int)):=fun (v1,L2) =>
 cond (decide (v1 < ((r2.take (((t1.length:Int):Int) - 0).toNat).length:Int)))
  (
  (
   (idx (r2.take (((t1.length:Int):Int) - 0).toNat) v1).bind fun e1 =>
   cond (decide (e1=0))
    (
    wah (L2.length+[v1].length<=4294967296) <|
    some (L2++[v1])
    )
    (
    some L2
    )
   : Option (List Int)).bind fun L3 =>
  some (.inl ((IntKind.i64.wrap (v1+1)),L3))
  )
  (
  some (.inr L2)
  )
noncomputable def we4 (k1:Int) (t1:(List Rule)):Option ((List Int)×Int) :=
 (wb8 k1 [t1]).bind fun r1 =>
 cond (decide (¬r1=0))
  (
  some ([],r1)
  )
  (
  (
   (wep k1 t1).bind fun r2 =>
   wah (0<=0/\0<=(t1.length:Int)/\(t1.length:Int)<=(r2.length:Int)) <|
   (iter (weX t1 r2) (0,[])).bind fun x_12 =>
   some x_12
   : Option (List Int)).bind fun L1 =>
  some (L1,0)
  )
noncomputable def weE (i1:Int) (v1:Int):Option Bool :=
 some (decide (i1 < 0))
noncomputable def wcc (mark1:Int) (a1:Int) (b1:Int) (o1:Walker) (self:(Walker->(List (Arr3_Int×Bool))->Int->Int->Int->Option ((List Int)×Bool×(List (Arr3_Int×Bool))))) (r4:(List Int)):(Int×Int×(List (Arr3_Int×Bool)))->Option ((Int×Int×(List (Arr3_Int×Bool))) ⊕ ((List (Arr3_Int×Bool)) ⊕ ((List Int)×Bool×(List (Arr3_Int×Bool))))):=fun (from1,v1,M2) =>
 cond (decide (v1 < (r4.length:Int)))
  (
  (idx r4 v1).bind fun e1 =>
  (wca o1.s mark1 from1).bind fun r5 =>
  (wca o1.t mark1 from1).bind fun r6 =>
  (self o1 M2 (IntKind.i64.wrap (mark1+1)) (IntKind.u32.wrap ↑(BitVec.ofInt IntKind.u32.bits a1 &&& BitVec.ofInt IntKind.u32.bits r5).toNat) (IntKind.u32.wrap ↑(BitVec.ofInt IntKind.u32.bits b1 &&& BitVec.ofInt IntKind.u32.bits r6).toNat)).bind fun r7 =>
  cond r7.2.1
   (
   wah (1+r7.1.length<=4294967296) <|
   some (.inr (.inr (([from1]++r7.1),true,r7.2.2)))
   )
   (
   some (.inl (e1,(IntKind.i64.wrap (v1+1)),r7.2.2))
   )
  )
  (
  some (.inr (.inl M2))
  )
noncomputable def wbR (self:(Walker->(List (Arr3_Int×Bool))->Int->Int->Int->Option ((List Int)×Bool×(List (Arr3_Int×Bool))))) (o1:Walker) (m1:(List (Arr3_Int×Bool))) (mark1:Int) (a1:Int) (b1:Int):Option ((List Int)×Bool×(List (Arr3_Int×Bool))) :=
 cond (decide (mark1=o1.k))
  (
  (wbv a1).bind fun r1 =>
  (wbv b1).bind fun r2 =>
  (weE r1 r2).bind fun r3 =>
  some ([],r3,m1)
  )
  (
  cond ((waQ (⟨mark1,(IntKind.i64.wrap a1),(IntKind.i64.wrap b1)⟩:Arr3_Int) m1).getD false)
   (
   some ([],false,m1)
   )
   (
   (
   (
    (wbL mark1 [o1.s,o1.t]).bind fun r4 =>
    (
    (iter (wcc mark1 a1 b1 o1 self r4) (0,0,m1)).bind fun x_15=>match x_15 with
      | (.inl y1)=>some (.inl y1)
      | (.inr y2)=>some (.inr y2)
    )
    : Option ((List (Arr3_Int×Bool)) ⊕ ((List Int)×Bool×(List (Arr3_Int×Bool))))).bind fun o_8=>match o_8 with
     | (.inl M1) =>
       some ([],false,(wc5 (⟨mark1,(IntKind.i64.wrap a1),(IntKind.i64.wrap b1)⟩:Arr3_Int) true M1))
     | (.inr y3)=>some y3
   )
   )
  )
noncomputable def wbZ:Nat->Walker->(List (Arr3_Int×Bool))->Int->Int->Int->Option ((List Int)×Bool×(List (Arr3_Int×Bool)))
 | 0=>fun _ _ _ _ _=>none
 | n+1=>wbR (wbZ n)
noncomputable def wcy (w1:Walker):Option ((List Int)×Bool) :=
 (wcL w1.s).bind fun r1 =>
 (wcL w1.t).bind fun r2 =>
 (wbZ 100 w1 [] 0 r1 r2).bind fun r3 =>
 some (r3.1,r3.2.1)
noncomputable def weF (l1:(List Int)) (ok1:Bool):Option ((List Int)×Int) :=
 cond (!ok1)
  (
  some ([],10)
  )
  (
  some (l1,0)
  )
noncomputable def wft (k1:Int) (t1:(List Rule)):Option ((List Int)×Int) :=
 (wb8 k1 [t1]).bind fun r1 =>
 cond (decide (¬r1=0))
  (
  some ([],r1)
  )
  (
  (wcy (⟨k1,t1,[]⟩:Walker)).bind fun r2 =>
  (weF r2.1 r2.2).bind fun r3 =>
  some (r3.1,r3.2)
  )
noncomputable def wbI (o1:Builder) (a1:Int):Option (Int×Builder) :=
 (wbv a1).bind fun r1 =>
 cond (decide (r1 < 0))
  (
  some ((-1),o1)
  )
  (
  (idx o1.rules r1).bind fun e1 =>
  some ((IntKind.i64.wrap ((-2) - e1.Code)),o1)
  )
noncomputable def wbw (ends1:(List Int)) (to1:(List Int)):(Int×(List Int)×(List Int))->Option ((Int×(List Int)×(List Int)) ⊕ ((List Int)×(List Int))):=fun (v1,L3,L4) =>
 cond (decide (v1 < (to1.length:Int)))
  (
  (
   (idx to1 v1).bind fun e1 =>
   ((cond (decide (0 < (L4.length:Int)))
    (
     (idx L4 (IntKind.i64.wrap ((L4.length:Int) - 1))).bind fun e2 =>
     some (decide (e2=e1))
    )
    (some false)
   ):Option Bool).bind fun b1 =>
   cond b1
    (
    (idx ends1 v1).bind fun e3 =>
    (idx L3 (IntKind.i64.wrap ((L4.length:Int) - 1))).bind fun e4 =>
    some ((L3.set ((IntKind.i64.wrap ((L4.length:Int) - 1))).toNat e3),L4)
    )
    (
    (idx ends1 v1).bind fun e5 =>
    wah (L3.length+[e5].length<=4294967296) <|
    wah (L4.length+[e1].length<=4294967296) <|
    some ((L3++[e5]),(L4++[e1]))
    )
   : Option ((List Int)×(List Int))).bind fun (L5,L6) =>
  some (.inl ((IntKind.i64.wrap (v1+1)),L5,L6))
  )
  (
  some (.inr (L3,L4))
  )
noncomputable def wdd (ends1:(List Int)) (to1:(List Int)):Option ((List Int)×(List Int)) :=
 (
  (iter (wbw ends1 to1) (0,[],[])).bind fun x_7 =>
  some x_7
  : Option ((List Int)×(List Int))).bind fun (L1,L2) =>
 some (L1,L2)
noncomputable def wa2 (e1:(List Int)):(Int×Bool×(List Int))->Option ((Int×Bool×(List Int)) ⊕ (Bool×(List Int))):=fun (v2,c5,L5) =>
 cond (decide (v2 < (e1.length:Int)))
  (
  (idx e1 v2).bind fun e2 =>
  (wlK e2).bind fun r1 =>
  wah (bsz r1+bsz (⟨#[32]⟩:ByteArray)<=4294967296) <|
  (wla (⟨c5,L5⟩:StringsBuilder) (r1++(⟨#[32]⟩:ByteArray))).bind fun r2 =>
  some (.inl ((IntKind.i64.wrap (v2+1)),true,r2.buf))
  )
  (
  some (.inr (c5,L5))
  )
noncomputable def waP (x1:Node):(Int×Bool×(List Int))->Option ((Int×Bool×(List Int)) ⊕ (Bool×(List Int))):=fun (v1,c2,L2) =>
 cond (decide (v1 < ([[x1.Mark],x1.Cuts,x1.To].length:Int)))
  (
  (
   (idx [[x1.Mark],x1.Cuts,x1.To] v1).bind fun e1 =>
   (
    (iter (wa2 e1) (0,c2,L2)).bind fun x_23 =>
    some x_23
    : Option (Bool×(List Int))).bind fun (c4,L4) =>
   (wgA (⟨c4,L4⟩:StringsBuilder) 124).bind fun r3 =>
   some (true,r3.buf)
   : Option (Bool×(List Int))).bind fun (c3,L3) =>
  some (.inl ((IntKind.i64.wrap (v1+1)),c3,L3))
  )
  (
  some (.inr (c2,L2))
  )
noncomputable def wa9 (o1:Builder) (x1:Node):Option (Int×Builder) :=
 (
  (iter (waP x1) (0,false,[])).bind fun x_7 =>
  some x_7
  : Option (Bool×(List Int))).bind fun (c1,L1) =>
 (wfA (⟨c1,L1⟩:StringsBuilder)).bind fun r4 =>
 (
  cond (!((waQ r4 o1.same).isSome))
   (
   (wfA (⟨c1,L1⟩:StringsBuilder)).bind fun r5 =>
   wah (o1.nodes.length+[x1].length<=4294967296) <|
   some ((o1.nodes.length:Int),(wc5 r5 (o1.nodes.length:Int) o1.same),(o1.nodes++[x1]))
   )
   (
   some (((waQ r4 o1.same).getD 0),o1.same,o1.nodes)
   )
  : Option (Int×(List (ByteArray×Int))×(List Node))).bind fun (n1,M1,L6) =>
 some (n1,(⟨o1.k,o1.rules,o1.known,M1,L6⟩:Builder))
noncomputable def wbk (mark1:Int) (a1:Int) (self:(Builder->Int->Int->Option (Int×Builder))) (r2:(List Int)):(Int×Int×Int×(List Rule)×(List (Arr3_Int×Int))×(List (ByteArray×Int))×(List Node)×(List Int))->Option ((Int×Int×Int×(List Rule)×(List (Arr3_Int×Int))×(List (ByteArray×Int))×(List Node)×(List Int)) ⊕ (Int×(List Rule)×(List (Arr3_Int×Int))×(List (ByteArray×Int))×(List Node)×(List Int))):=fun (from1,v1,c3,c4,M3,M4,L3,L4) =>
 cond (decide (v1 < (r2.length:Int)))
  (
  (idx r2 v1).bind fun e1 =>
  (wca c4 mark1 from1).bind fun r3 =>
  (self (⟨c3,c4,M3,M4,L3⟩:Builder) (IntKind.i64.wrap (mark1+1)) (IntKind.u32.wrap ↑(BitVec.ofInt IntKind.u32.bits a1 &&& BitVec.ofInt IntKind.u32.bits r3).toNat)).bind fun r4 =>
  wah (L4.length+[r4.1].length<=4294967296) <|
  some (.inl (e1,(IntKind.i64.wrap (v1+1)),r4.2.k,r4.2.rules,r4.2.known,r4.2.same,r4.2.nodes,(L4++[r4.1])))
  )
  (
  some (.inr (c3,c4,M3,M4,L3,L4))
  )
noncomputable def wbJ (self:(Builder->Int->Int->Option (Int×Builder))) (o1:Builder) (mark1:Int) (a1:Int):Option (Int×Builder) :=
 cond (decide (mark1=o1.k))
  (
  (wbI o1 a1).bind fun r1 =>
  some (r1.1,r1.2)
  )
  (
  cond ((waQ (⟨mark1,(IntKind.i64.wrap a1),0⟩:Arr3_Int) o1.known).isSome)
   (
   some (((waQ (⟨mark1,(IntKind.i64.wrap a1),0⟩:Arr3_Int) o1.known).getD 0),o1)
   )
   (
   (wbL mark1 [o1.rules]).bind fun r2 =>
   (
    (iter (wbk mark1 a1 self r2) (0,0,o1.k,o1.rules,o1.known,o1.same,o1.nodes,[])).bind fun x_13 =>
    some x_13
    : Option (Int×(List Rule)×(List (Arr3_Int×Int))×(List (ByteArray×Int))×(List Node)×(List Int))).bind fun (c1,c2,M1,M2,L1,L2) =>
   (wdd r2 L2).bind fun r5 =>
   (idx r5.2 0).bind fun e2 =>
   (
    cond (decide (1 < (r5.2.length:Int)))
     (
     (wa9 (⟨c1,c2,M1,M2,L1⟩:Builder) (⟨mark1,r5.1,r5.2⟩:Node)).bind fun r6 =>
     some (r6.1,r6.2.k,r6.2.rules,r6.2.known,r6.2.same,r6.2.nodes)
     )
     (
     some (e2,c1,c2,M1,M2,L1)
     )
    : Option (Int×Int×(List Rule)×(List (Arr3_Int×Int))×(List (ByteArray×Int))×(List Node))).bind fun (n1,c5,c6,M5,M6,L5) =>
   some (n1,(⟨c5,c6,(wc5 (⟨mark1,(IntKind.i64.wrap a1),0⟩:Arr3_Int) n1 M5),M6,L5⟩:Builder))
   )
  )
noncomputable def wa6:Nat->Builder->Int->Int->Option (Int×Builder)
 | 0=>fun _ _ _=>none
 | n+1=>wbJ (wa6 n)
noncomputable def waI (l1:(List Node)) (o1:Builder) (self:((List (Int×Int))->(List Node)->Builder->Int->Option (Int×(List (Int×Int))×(List Node)))) (e2:Node):(Int×(List (Int×Int))×(List Node))->Option ((Int×(List (Int×Int))×(List Node)) ⊕ ((List (Int×Int))×(List Node))):=fun (v1,M2,L2) =>
 cond (decide (v1 < (e2.To.length:Int)))
  (
  (idx e2.To v1).bind fun e3 =>
  (self M2 L2 o1 e3).bind fun r2 =>
  (idx r2.2.2 (l1.length:Int)).bind fun e4 =>
  wah (e4.To.length+[r2.1].length<=4294967296) <|
  some (.inl ((IntKind.i64.wrap (v1+1)),r2.2.1,(r2.2.2.set (((l1.length:Int)).toNat) (⟨e4.Mark,e4.Cuts,(e4.To++[r2.1])⟩:Node))))
  )
  (
  some (.inr (M2,L2))
  )
noncomputable def waZ (self:((List (Int×Int))->(List Node)->Builder->Int->Option (Int×(List (Int×Int))×(List Node)))) (m1:(List (Int×Int))) (l1:(List Node)) (o1:Builder) (n1:Int):Option (Int×(List (Int×Int))×(List Node)) :=
 cond (decide (n1 < 0))
  (
  some (n1,m1,l1)
  )
  (
  cond ((waQ n1 m1).isSome)
   (
   some (((waQ n1 m1).getD 0),m1,l1)
   )
   (
   (idx o1.nodes n1).bind fun e1 =>
   (whz e1.Cuts).bind fun r1 =>
   wah (l1.length+1<=4294967296) <|
   (
    (idx o1.nodes n1).bind fun e2 =>
    (iter (waI l1 o1 self e2) (0,(wc5 n1 (l1.length:Int) m1),(l1++[(⟨e1.Mark,r1,[]⟩:Node)]))).bind fun x_21 =>
    some x_21
    : Option ((List (Int×Int))×(List Node))).bind fun (M1,L1) =>
   some ((l1.length:Int),M1,L1)
   )
  )
noncomputable def waH:Nat->(List (Int×Int))->(List Node)->Builder->Int->Option (Int×(List (Int×Int))×(List Node))
 | 0=>fun _ _ _ _=>none
 | n+1=>waZ (waH n)
noncomputable def wa3 (o1:Builder) (top1:Int):Option ((List Node)×Builder) :=
 (waH 100 [] [] o1 top1).bind fun r1 =>
 some (r1.2.2,o1)
noncomputable def wbD (k1:Int) (t1:(List Rule)):Option ((List Node)×Int) :=
 (wb8 k1 [t1]).bind fun r1 =>
 cond (decide (¬r1=0))
  (
  some ([],r1)
  )
  (
  (wcL t1).bind fun r2 =>
  (wa6 100 (⟨k1,t1,[],[],[]⟩:Builder) 0 r2).bind fun r3 =>
  cond (decide (r3.1 < 0))
   (
   some ([(⟨0,[1000],[r3.1]⟩:Node)],0)
   )
   (
   (wa3 r3.2 r3.1).bind fun r4 =>
   some (r4.1,0)
   )
  )
noncomputable def waU (a1:(List Int)) (b1:(List Int)):Int->Option (Int ⊕ (Unit ⊕ Bool)):=fun i1 =>
 cond (decide (i1 < (a1.length:Int)))
  (
  (idx a1 i1).bind fun e1 =>
  (idx b1 i1).bind fun e2 =>
  cond (decide (¬e1=e2))
   (
   some (.inr (.inr false))
   )
   (
   some (.inl (IntKind.i64.wrap (i1+1)))
   )
  )
  (
  some (.inr (.inl ()))
  )
noncomputable def wbl (a1:(List Int)) (b1:(List Int)):Option Bool :=
 cond (decide (¬(a1.length:Int)=(b1.length:Int)))
  (
  some false
  )
  (
  (
  (
   (
   (iter (waU a1 b1) 0).bind fun x_9=>match x_9 with
     | (.inl y1)=>some (.inl y1)
     | (.inr y2)=>some (.inr y2)
   )
   : Option (Unit ⊕ Bool)).bind fun o_3=>match o_3 with
    | (.inl _) =>
      some true
    | (.inr y3)=>some y3
  )
  )
noncomputable def wci:Option Bool :=
 (wch).bind fun r1 =>
 (we4 1 r1).bind fun r2 =>
 (wch).bind fun r3 =>
 (wft 1 r3).bind fun r4 =>
 (wch).bind fun r5 =>
 (wbD 1 r5).bind fun r6 =>
 ((cond (decide (r2.2=0))
  (
   (wbl r2.1 [2]).bind fun r7 =>
   some r7
  )
  (some false)
 ):Option Bool).bind fun b1 =>
 ((cond (b1&&(decide (r4.2=0)))
  (
   (wbl r4.1 [20]).bind fun r8 =>
   some r8
  )
  (some false)
 ):Option Bool).bind fun b2 =>
 ((cond ((b2&&(decide (r6.2=0)))&&(decide ((r6.1.length:Int)=1)))
  (
   (idx r6.1 0).bind fun e1 =>
   (wbl e1.To [(-3),(-4),(-1)]).bind fun r9 =>
   some r9
  )
  (some false)
 ):Option Bool).bind fun b3 =>
 some b3
noncomputable def wcM (set1:Int):Int->Option (Int ⊕ Int):=fun i2 =>
 wah (0<=i2) <|
 cond (decide (((set1.fdiv (2 ^ (min (i2).toNat 64))).tmod 2)=0))
  (
  some (.inl (IntKind.i64.wrap (i2+1)))
  )
  (
  some (.inr i2)
  )
noncomputable def wcH (set1:Int):Option Int :=
 cond (decide (set1=0))
  (
  some (-1)
  )
  (
  (
   (iter (wcM set1) 0).bind fun x_9 =>
   some x_9
   : Option Int).bind fun i1 =>
  some i1
  )
noncomputable def wcY (k1:Arr3_Int):Option Int :=
 some ((IntKind.i64.wrap ((IntKind.i64.wrap ((IntKind.i64.wrap (k1.c0*7))+(IntKind.i64.wrap ((k1.c1.tmod 1000003)*31))))+(IntKind.i64.wrap ((k1.c2.tmod 1000003)*17)))).tmod 4096)
noncomputable def wbs (k1:Arr3_Int) (o1:Search):Int->Option (Int ⊕ Int):=fun i2 =>
 cond (decide (0<=i2))
  (
  (idx o1.seen.keys i2).bind fun e2 =>
  cond (!((e2.c0 == k1.c0)&&((e2.c1 == k1.c1)&&(e2.c2 == k1.c2))))
   (
   (idx o1.seen.next i2).bind fun e3 =>
   some (.inl e3)
   )
   (
   some (.inr i2)
   )
  )
  (
  some (.inr i2)
  )
noncomputable def wbM (o1:Search) (k1:Arr3_Int):Option (Int×Search) :=
 cond (decide ((o1.seen.heads.length:Int)=0))
  (
  some ((-1),o1)
  )
  (
  (wcY k1).bind fun r1 =>
  (idx o1.seen.heads r1).bind fun e1 =>
  (
   (iter (wbs k1 o1) e1).bind fun x_14 =>
   some x_14
   : Option Int).bind fun i1 =>
  some (i1,o1)
  )
noncomputable def wcZ (t1:(List Rule)) (mark1:Int) (set1:Int) (value1:Int):(Int×Int)->Option ((Int×Int) ⊕ Int):=fun (out2,i1) =>
 cond (decide (i1 < (t1.length:Int)))
  (
  (
   wah (0<=i1) <|
   ((cond (decide (((set1.fdiv (2 ^ (min (i1).toNat 64))).tmod 2)=1))
    (
     (idx t1 i1).bind fun e1 =>
     (idx e1.Bands mark1).bind fun e2 =>
     some (decide (e2.Lo<=value1))
    )
    (some false)
   ):Option Bool).bind fun b1 =>
   ((cond b1
    (
     (idx t1 i1).bind fun e3 =>
     (idx e3.Bands mark1).bind fun e4 =>
     some (decide (value1 < e4.Hi))
    )
    (some false)
   ):Option Bool).bind fun b2 =>
   cond b2
    (
    wah (0<=i1) <|
    some (IntKind.i64.wrap ↑(BitVec.ofInt IntKind.i64.bits out2 ||| BitVec.ofInt IntKind.i64.bits (IntKind.i64.wrap (1*(2 ^ (min (i1).toNat 64))))).toNat)
    )
    (
    some out2
    )
   : Option Int).bind fun out3 =>
  some (.inl (out3,(IntKind.i64.wrap (i1+1))))
  )
  (
  some (.inr out2)
  )
noncomputable def wc0 (t1:(List Rule)) (mark1:Int) (set1:Int) (value1:Int):Option Int :=
 (
  (iter (wcZ t1 mark1 set1 value1) (0,0)).bind fun x_7 =>
  some x_7
  : Option Int).bind fun out1 =>
 some out1
noncomputable def wby:(List Int)->Option ((List Int) ⊕ (List Int)):=fun L2 =>
 cond (decide ((L2.length:Int) < 4096))
  (
  wah (L2.length+[(-1)].length<=4294967296) <|
  some (.inl (L2++[(-1)]))
  )
  (
  some (.inr L2)
  )
noncomputable def wbu (o1:Search) (k1:Arr3_Int):Option Search :=
 (
  (iter wby o1.seen.heads).bind fun x_7 =>
  some x_7
  : Option (List Int)).bind fun L1 =>
 (wcY k1).bind fun r1 =>
 wah (o1.seen.keys.length+[k1].length<=4294967296) <|
 (idx L1 r1).bind fun e1 =>
 wah (o1.seen.next.length+[e1].length<=4294967296) <|
 (idx L1 r1).bind fun e2 =>
 some (⟨o1.k,o1.t,(⟨(L1.set (r1).toNat (IntKind.i64.wrap (((o1.seen.keys.length+[k1].length):Int) - 1))),(o1.seen.next++[e1]),(o1.seen.keys++[k1])⟩:Table),o1.many,o1.at_,o1.nodes⟩:Search)
noncomputable def wbi (a1:(List Int)) (b1:(List Int)):Int->Option (Int ⊕ (Unit ⊕ Bool)):=fun i1 =>
 cond (decide (i1 < (a1.length:Int)))
  (
  (idx a1 i1).bind fun e1 =>
  (idx b1 i1).bind fun e2 =>
  cond (decide (¬e1=e2))
   (
   some (.inr (.inr false))
   )
   (
   some (.inl (IntKind.i64.wrap (i1+1)))
   )
  )
  (
  some (.inr (.inl ()))
  )
noncomputable def wcI (a1:(List Int)) (b1:(List Int)):Option Bool :=
 cond (decide (¬(a1.length:Int)=(b1.length:Int)))
  (
  some false
  )
  (
  (
  (
   (
   (iter (wbi a1 b1) 0).bind fun x_9=>match x_9 with
     | (.inl y1)=>some (.inl y1)
     | (.inr y2)=>some (.inr y2)
   )
   : Option (Unit ⊕ Bool)).bind fun o_3=>match o_3 with
    | (.inl _) =>
      some true
    | (.inr y3)=>some y3
  )
  )
noncomputable def waB (n1:Node) (o1:Search):Int->Option (Int ⊕ (Unit ⊕ (Int×Search))):=fun i1 =>
 cond (decide (i1 < (o1.nodes.length:Int)))
  (
  (idx o1.nodes i1).bind fun e1 =>
  cond (decide (e1.Mark=n1.Mark))
   (
   (wcI e1.Cuts n1.Cuts).bind fun r1 =>
   cond r1
    (
    (wcI e1.To n1.To).bind fun r2 =>
    cond r2
     (
     some (.inr (.inr (i1,o1)))
     )
     (
     some (.inl (IntKind.i64.wrap (i1+1)))
     )
    )
    (
    some (.inl (IntKind.i64.wrap (i1+1)))
    )
   )
   (
   some (.inl (IntKind.i64.wrap (i1+1)))
   )
  )
  (
  some (.inr (.inl ()))
  )
noncomputable def wbz (o1:Search) (n1:Node):Option (Int×Search) :=
 (
 (
  (
  (iter (waB n1 o1) 0).bind fun x_7=>match x_7 with
    | (.inl y1)=>some (.inl y1)
    | (.inr y2)=>some (.inr y2)
  )
  : Option (Unit ⊕ (Int×Search))).bind fun o_1=>match o_1 with
   | (.inl _) =>
     wah (o1.nodes.length+[n1].length<=4294967296) <|
     some ((IntKind.i64.wrap (((o1.nodes.length+[n1].length):Int) - 1)),(⟨o1.k,o1.t,o1.seen,o1.many,o1.at_,(o1.nodes++[n1])⟩:Search))
   | (.inr y3)=>some y3
 )
noncomputable def wa0 (mark1:Int) (set1:Int) (self:(Search->Int->Int->Option (Int×Search))) (r3:(List Int)):(Int×Int×Int×(List Rule)×(List Int)×(List Int)×(List Arr3_Int)×(List (List Int))×(List Int)×(List Node)×(List Int)×(List Int))->Option ((Int×Int×Int×(List Rule)×(List Int)×(List Int)×(List Arr3_Int)×(List (List Int))×(List Int)×(List Node)×(List Int)×(List Int)) ⊕ (Int×(List Rule)×(List Int)×(List Int)×(List Arr3_Int)×(List (List Int))×(List Int)×(List Node)×(List Int)×(List Int))):=fun (lo1,i1,c3,c4,L9,L10,L11,L12,L13,L14,L15,L16) =>
 cond (decide (i1 < (r3.length:Int)))
  (
  (
   (wc0 c4 mark1 set1 lo1).bind fun r4 =>
   (self (⟨c3,c4,(⟨L9,L10,L11⟩:Table),L12,L13,L14⟩:Search) (IntKind.i64.wrap (mark1+1)) r4).bind fun r5 =>
   (idx r3 i1).bind fun e3 =>
   ((cond (decide (0 < (L16.length:Int)))
    (
     (idx L16 (IntKind.i64.wrap ((L16.length:Int) - 1))).bind fun e4 =>
     some (decide (e4=r5.1))
    )
    (some false)
   ):Option Bool).bind fun b1 =>
   cond b1
    (
    (idx r3 i1).bind fun e5 =>
    (idx L15 (IntKind.i64.wrap ((L15.length:Int) - 1))).bind fun e6 =>
    some (e3,r5.2.k,r5.2.t,r5.2.seen.heads,r5.2.seen.next,r5.2.seen.keys,r5.2.many,r5.2.at_,r5.2.nodes,(L15.set ((IntKind.i64.wrap ((L15.length:Int) - 1))).toNat e5),L16)
    )
    (
    (idx r3 i1).bind fun e7 =>
    wah (L15.length+[e7].length<=4294967296) <|
    wah (L16.length+[r5.1].length<=4294967296) <|
    some (e3,r5.2.k,r5.2.t,r5.2.seen.heads,r5.2.seen.next,r5.2.seen.keys,r5.2.many,r5.2.at_,r5.2.nodes,(L15++[e7]),(L16++[r5.1]))
    )
   : Option (Int×Int×(List Rule)×(List Int)×(List Int)×(List Arr3_Int)×(List (List Int))×(List Int)×(List Node)×(List Int)×(List Int))).bind fun (lo2,c5,c6,L17,L18,L19,L20,L21,L22,L23,L24) =>
  some (.inl (lo2,(IntKind.i64.wrap (i1+1)),c5,c6,L17,L18,L19,L20,L21,L22,L23,L24))
  )
  (
  some (.inr (c3,c4,L9,L10,L11,L12,L13,L14,L15,L16))
  )
noncomputable def wa4 (self:(Search->Int->Int->Option (Int×Search))) (o1:Search) (mark1:Int) (set1:Int):Option (Int×Search) :=
 cond (decide (mark1=o1.k))
  (
  (wcH set1).bind fun r1 =>
  cond (decide (r1 < 0))
   (
   some ((-1),o1)
   )
   (
   (idx o1.t r1).bind fun e1 =>
   some ((IntKind.i64.wrap ((-2) - e1.Code)),o1)
   )
  )
  (
  (wbM o1 (⟨mark1,set1,0⟩:Arr3_Int)).bind fun r2 =>
  cond (decide (0<=r2.1))
   (
   (idx r2.2.at_ r2.1).bind fun e2 =>
   some (e2,r2.2)
   )
   (
   (wb4 r2.2.t mark1 set1).bind fun r3 =>
   (
    (iter (wa0 mark1 set1 self r3) (0,0,r2.2.k,r2.2.t,r2.2.seen.heads,r2.2.seen.next,r2.2.seen.keys,r2.2.many,r2.2.at_,r2.2.nodes,[],[])).bind fun x_24 =>
    some x_24
    : Option (Int×(List Rule)×(List Int)×(List Int)×(List Arr3_Int)×(List (List Int))×(List Int)×(List Node)×(List Int)×(List Int))).bind fun (c1,c2,L1,L2,L3,L4,L5,L6,L7,L8) =>
   (idx L8 0).bind fun e8 =>
   (
    cond (decide (1 < (L8.length:Int)))
     (
     (wbz (⟨c1,c2,(⟨L1,L2,L3⟩:Table),L4,L5,L6⟩:Search) (⟨mark1,L7,L8⟩:Node)).bind fun r6 =>
     some (r6.1,r6.2.k,r6.2.t,r6.2.seen.heads,r6.2.seen.next,r6.2.seen.keys,r6.2.many,r6.2.at_,r6.2.nodes)
     )
     (
     some (e8,c1,c2,L1,L2,L3,L4,L5,L6)
     )
    : Option (Int×Int×(List Rule)×(List Int)×(List Int)×(List Arr3_Int)×(List (List Int))×(List Int)×(List Node))).bind fun (out1,c7,c8,L25,L26,L27,L28,L29,L30) =>
   (wbu (⟨c7,c8,(⟨L25,L26,L27⟩:Table),L28,L29,L30⟩:Search) (⟨mark1,set1,0⟩:Arr3_Int)).bind fun r7 =>
   wah (r7.at_.length+[out1].length<=4294967296) <|
   some (out1,(⟨r7.k,r7.t,r7.seen,r7.many,(r7.at_++[out1]),r7.nodes⟩:Search))
   )
  )
noncomputable def waW:Nat->Search->Int->Int->Option (Int×Search)
 | 0=>fun _ _ _=>none
 | n+1=>wa4 (waW n)
noncomputable def waO (r4:((List Int)×Search)) (e2:Node) (j1:Int):(Int×Int)->Option ((Int×Int) ⊕ Int):=fun (to2,m1) =>
 ((cond (decide (m1 < (r4.1.length:Int)))
  (
   (idx e2.To j1).bind fun e4 =>
   some (decide (0<=e4))
  )
  (some false)
 ):Option Bool).bind fun b1 =>
 cond b1
  (
  (
   (idx r4.1 m1).bind fun e5 =>
   (idx e2.To j1).bind fun e6 =>
   cond (decide (e5=e6))
    (
    some m1
    )
    (
    some to2
    )
   : Option Int).bind fun to3 =>
  some (.inl (to3,(IntKind.i64.wrap (m1+1))))
  )
  (
  some (.inr to2)
  )
noncomputable def wb0 (r4:((List Int)×Search)) (e2:Node):(Int×(List Int))->Option ((Int×(List Int)) ⊕ (List Int)):=fun (j1,L5) =>
 cond (decide (j1 < (e2.To.length:Int)))
  (
  (
   (idx e2.To j1).bind fun e3 =>
   (
    (iter (waO r4 e2 j1) (e3,0)).bind fun x_52 =>
    some x_52
    : Option Int).bind fun to1 =>
   wah (L5.length+[to1].length<=4294967296) <|
   some (L5++[to1])
   : Option (List Int)).bind fun L6 =>
  some (.inl ((IntKind.i64.wrap (j1+1)),L6))
  )
  (
  some (.inr L5)
  )
noncomputable def wb1 (r4:((List Int)×Search)):(Int×(List Node))->Option ((Int×(List Node)) ⊕ (List Node)):=fun (i1,L2) =>
 cond (decide (i1 < (r4.1.length:Int)))
  (
  (
   (idx r4.1 i1).bind fun e1 =>
   (idx r4.2.nodes e1).bind fun e2 =>
   wah (0+e2.Cuts.length<=4294967296) <|
   (
    (iter (wb0 r4 e2) (0,[])).bind fun x_36 =>
    some x_36
    : Option (List Int)).bind fun L4 =>
   wah (L2.length+[(⟨e2.Mark,e2.Cuts,L4⟩:Node)].length<=4294967296) <|
   some (L2++[(⟨e2.Mark,e2.Cuts,L4⟩:Node)])
   : Option (List Node)).bind fun L3 =>
  some (.inl ((IntKind.i64.wrap (i1+1)),L3))
  )
  (
  some (.inr L2)
  )
noncomputable def wbG (k1:Int) (t1:(List Rule)):Option ((List Node)×Int) :=
 (wcW k1 t1).bind fun r1 =>
 cond (decide (¬r1=0))
  (
  some ([],r1)
  )
  (
  (wcE t1).bind fun r2 =>
  (waW 100 (⟨k1,t1,(⟨[],[],[]⟩:Table),[],[],[]⟩:Search) 0 r2).bind fun r3 =>
  cond (decide (r3.1 < 0))
   (
   some ([(⟨0,[1000],[r3.1]⟩:Node)],0)
   )
   (
   (wbx r3.2 r3.1 []).bind fun r4 =>
   (
    (iter (wb1 r4) (0,[])).bind fun x_15 =>
    some x_15
    : Option (List Node)).bind fun L1 =>
   some (L1,0)
   )
  )
noncomputable def waX (a1:(List Node)) (b1:(List Node)):Int->Option (Int ⊕ (Unit ⊕ Bool)):=fun i1 =>
 cond (decide (i1 < (a1.length:Int)))
  (
  (idx a1 i1).bind fun e1 =>
  (idx b1 i1).bind fun e2 =>
  cond (decide (¬e1.Mark=e2.Mark))
   (
   some (.inr (.inr false))
   )
   (
   (wbl e1.Cuts e2.Cuts).bind fun r1 =>
   cond (!r1)
    (
    some (.inr (.inr false))
    )
    (
    (wbl e1.To e2.To).bind fun r2 =>
    cond (!r2)
     (
     some (.inr (.inr false))
     )
     (
     some (.inl (IntKind.i64.wrap (i1+1)))
     )
    )
   )
  )
  (
  some (.inr (.inl ()))
  )
noncomputable def wcj (a1:(List Node)) (b1:(List Node)):Option Bool :=
 cond (decide (¬(a1.length:Int)=(b1.length:Int)))
  (
  some false
  )
  (
  (
  (
   (
   (iter (waX a1 b1) 0).bind fun x_9=>match x_9 with
     | (.inl y1)=>some (.inl y1)
     | (.inr y2)=>some (.inr y2)
   )
   : Option (Unit ⊕ Bool)).bind fun o_3=>match o_3 with
    | (.inl _) =>
      some true
    | (.inr y3)=>some y3
  )
  )
end Go.Pv

namespace Go.Pv.Tryd
open Go.Proofs
noncomputable def T1:Ty:=(wad Tryd.prog 1).getD ⟨.invalid,0,0,none⟩
@[go_sem] theorem ty1:wad Tryd.prog 1=some T1:=by kernel_rfl
@[go_sem] theorem T1_desc:T1.desc=.func #[] #[] false:=by kernel_rfl
@[go_sem] theorem T1_size:T1.size=1:=by kernel_rfl
@[go_sem] theorem T1_bytes:T1.bytes=8:=by kernel_rfl
@[go_sem] theorem T1_zero:wag T1=some (.d .nilfunc):=by kernel_rfl
@[go_sem] theorem T1_ok:waf T1=true:=by kernel_rfl
noncomputable def T2:Ty:=(wad Tryd.prog 2).getD ⟨.invalid,0,0,none⟩
@[go_sem] theorem ty2:wad Tryd.prog 2=some T2:=by kernel_rfl
@[go_sem] theorem T2_desc:T2.desc=.int .i64:=by kernel_rfl
@[go_sem] theorem T2_size:T2.size=1:=by kernel_rfl
@[go_sem] theorem T2_bytes:T2.bytes=8:=by kernel_rfl
@[go_sem] theorem T2_zero:wag T2=some (.d (.int .i64 0)):=by kernel_rfl
@[go_sem] theorem T2_ok:waf T2=true:=by kernel_rfl
noncomputable def T3:Ty:=(wad Tryd.prog 3).getD ⟨.invalid,0,0,none⟩
@[go_sem] theorem ty3:wad Tryd.prog 3=some T3:=by kernel_rfl
@[go_sem] theorem T3_desc:T3.desc=.int .i64:=by kernel_rfl
@[go_sem] theorem T3_size:T3.size=1:=by kernel_rfl
@[go_sem] theorem T3_bytes:T3.bytes=8:=by kernel_rfl
@[go_sem] theorem T3_zero:wag T3=some (.d (.int .i64 0)):=by kernel_rfl
@[go_sem] theorem T3_ok:waf T3=true:=by kernel_rfl
noncomputable def T4:Ty:=(wad Tryd.prog 4).getD ⟨.invalid,0,0,none⟩
@[go_sem] theorem ty4:wad Tryd.prog 4=some T4:=by kernel_rfl
@[go_sem] theorem T4_desc:T4.desc=.bool:=by kernel_rfl
@[go_sem] theorem T4_size:T4.size=1:=by kernel_rfl
@[go_sem] theorem T4_bytes:T4.bytes=1:=by kernel_rfl
@[go_sem] theorem T4_zero:wag T4=some (.d (.bool false)):=by kernel_rfl
@[go_sem] theorem T4_ok:waf T4=true:=by kernel_rfl
noncomputable def T5:Ty:=(wad Tryd.prog 5).getD ⟨.invalid,0,0,none⟩
@[go_sem] theorem ty5:wad Tryd.prog 5=some T5:=by kernel_rfl
@[go_sem] theorem T5_desc:T5.desc=.int .u8:=by kernel_rfl
@[go_sem] theorem T5_size:T5.size=1:=by kernel_rfl
@[go_sem] theorem T5_bytes:T5.bytes=1:=by kernel_rfl
@[go_sem] theorem T5_zero:wag T5=some (.d (.int .u8 0)):=by kernel_rfl
@[go_sem] theorem T5_ok:waf T5=true:=by kernel_rfl
noncomputable def T9:Ty:=(wad Tryd.prog 9).getD ⟨.invalid,0,0,none⟩
@[go_sem] theorem ty9:wad Tryd.prog 9=some T9:=by kernel_rfl
@[go_sem] theorem T9_desc:T9.desc=.string:=by kernel_rfl
@[go_sem] theorem T9_size:T9.size=1:=by kernel_rfl
@[go_sem] theorem T9_bytes:T9.bytes=16:=by kernel_rfl
@[go_sem] theorem T9_zero:wag T9=some (.d (.str ⟨#[]⟩)):=by kernel_rfl
@[go_sem] theorem T9_ok:waf T9=true:=by kernel_rfl
noncomputable def T12:Ty:=(wad Tryd.prog 12).getD ⟨.invalid,0,0,none⟩
@[go_sem] theorem ty12:wad Tryd.prog 12=some T12:=by kernel_rfl
@[go_sem] theorem T12_desc:T12.desc=.int .u64:=by kernel_rfl
@[go_sem] theorem T12_size:T12.size=1:=by kernel_rfl
@[go_sem] theorem T12_bytes:T12.bytes=8:=by kernel_rfl
@[go_sem] theorem T12_zero:wag T12=some (.d (.int .u64 0)):=by kernel_rfl
@[go_sem] theorem T12_ok:waf T12=true:=by kernel_rfl
noncomputable def T13:Ty:=(wad Tryd.prog 13).getD ⟨.invalid,0,0,none⟩
@[go_sem] theorem ty13:wad Tryd.prog 13=some T13:=by kernel_rfl
noncomputable def fs13:Array Field:=match T13.desc with | .struct fs=>fs | _=>#[]
@[go_sem] theorem T13_desc:T13.desc=.struct fs13:=by kernel_rfl
noncomputable def fs13_0:Field:=fs13.getD 0 default
@[go_sem] theorem fs13_at0:fs13[0]? = some fs13_0:=by kernel_rfl
@[go_sem] theorem fs13_0_type:fs13_0.type=9:=by kernel_rfl
@[go_sem] theorem fs13_0_off:fs13_0.offset=0:=by kernel_rfl
@[go_sem] theorem fo13_0:wap Tryd.prog 13 0=some (0,1):=by kernel_rfl
noncomputable def fs13_1:Field:=fs13.getD 1 default
@[go_sem] theorem fs13_at1:fs13[1]? = some fs13_1:=by kernel_rfl
@[go_sem] theorem fs13_1_type:fs13_1.type=12:=by kernel_rfl
@[go_sem] theorem fs13_1_off:fs13_1.offset=1:=by kernel_rfl
@[go_sem] theorem fo13_1:wap Tryd.prog 13 1=some (1,1):=by kernel_rfl
@[go_sem] theorem pl13:wbB Tryd.prog fs13.toList=some [(0,1),(1,1)]:=by kernel_rfl
@[go_sem] theorem T13_size:T13.size=2:=by kernel_rfl
@[go_sem] theorem T13_bytes:T13.bytes=24:=by kernel_rfl
-- zero of 13: strings or floats
@[go_sem] theorem T13_ok:waf T13=true:=by kernel_rfl
noncomputable def T21:Ty:=(wad Tryd.prog 21).getD ⟨.invalid,0,0,none⟩
@[go_sem] theorem ty21:wad Tryd.prog 21=some T21:=by kernel_rfl
@[go_sem] theorem T21_desc:T21.desc=.int .i32:=by kernel_rfl
@[go_sem] theorem T21_size:T21.size=1:=by kernel_rfl
@[go_sem] theorem T21_bytes:T21.bytes=4:=by kernel_rfl
@[go_sem] theorem T21_zero:wag T21=some (.d (.int .i32 0)):=by kernel_rfl
@[go_sem] theorem T21_ok:waf T21=true:=by kernel_rfl
noncomputable def T22:Ty:=(wad Tryd.prog 22).getD ⟨.invalid,0,0,none⟩
@[go_sem] theorem ty22:wad Tryd.prog 22=some T22:=by kernel_rfl
@[go_sem] theorem T22_desc:T22.desc=.slice 56:=by kernel_rfl
@[go_sem] theorem es22:wbS Tryd.prog 22=some 2:=by kernel_rfl
@[go_sem] theorem T22_size:T22.size=1:=by kernel_rfl
@[go_sem] theorem T22_bytes:T22.bytes=24:=by kernel_rfl
@[go_sem] theorem T22_zero:wag T22=some (.d .nilslice):=by kernel_rfl
@[go_sem] theorem T22_ok:waf T22=true:=by kernel_rfl
noncomputable def T23:Ty:=(wad Tryd.prog 23).getD ⟨.invalid,0,0,none⟩
@[go_sem] theorem ty23:wad Tryd.prog 23=some T23:=by kernel_rfl
@[go_sem] theorem T23_desc:T23.desc=.func #[3,22] #[4] false:=by kernel_rfl
@[go_sem] theorem T23_size:T23.size=1:=by kernel_rfl
@[go_sem] theorem T23_bytes:T23.bytes=8:=by kernel_rfl
@[go_sem] theorem T23_zero:wag T23=some (.d .nilfunc):=by kernel_rfl
@[go_sem] theorem T23_ok:waf T23=true:=by kernel_rfl
noncomputable def T24:Ty:=(wad Tryd.prog 24).getD ⟨.invalid,0,0,none⟩
@[go_sem] theorem ty24:wad Tryd.prog 24=some T24:=by kernel_rfl
@[go_sem] theorem T24_desc:T24.desc=.func #[] #[4] false:=by kernel_rfl
@[go_sem] theorem T24_size:T24.size=1:=by kernel_rfl
@[go_sem] theorem T24_bytes:T24.bytes=8:=by kernel_rfl
@[go_sem] theorem T24_zero:wag T24=some (.d .nilfunc):=by kernel_rfl
@[go_sem] theorem T24_ok:waf T24=true:=by kernel_rfl
noncomputable def T25:Ty:=(wad Tryd.prog 25).getD ⟨.invalid,0,0,none⟩
@[go_sem] theorem ty25:wad Tryd.prog 25=some T25:=by kernel_rfl
@[go_sem] theorem T25_desc:T25.desc=.func #[22] #[22] false:=by kernel_rfl
@[go_sem] theorem T25_size:T25.size=1:=by kernel_rfl
@[go_sem] theorem T25_bytes:T25.bytes=8:=by kernel_rfl
@[go_sem] theorem T25_zero:wag T25=some (.d .nilfunc):=by kernel_rfl
@[go_sem] theorem T25_ok:waf T25=true:=by kernel_rfl
noncomputable def T26:Ty:=(wad Tryd.prog 26).getD ⟨.invalid,0,0,none⟩
@[go_sem] theorem ty26:wad Tryd.prog 26=some T26:=by kernel_rfl
@[go_sem] theorem T26_desc:T26.desc=.slice 3:=by kernel_rfl
@[go_sem] theorem es26:wbS Tryd.prog 26=some 1:=by kernel_rfl
@[go_sem] theorem T26_size:T26.size=1:=by kernel_rfl
@[go_sem] theorem T26_bytes:T26.bytes=24:=by kernel_rfl
@[go_sem] theorem T26_zero:wag T26=some (.d .nilslice):=by kernel_rfl
@[go_sem] theorem T26_ok:waf T26=true:=by kernel_rfl
noncomputable def T27:Ty:=(wad Tryd.prog 27).getD ⟨.invalid,0,0,none⟩
@[go_sem] theorem ty27:wad Tryd.prog 27=some T27:=by kernel_rfl
@[go_sem] theorem T27_desc:T27.desc=.int .i64:=by kernel_rfl
@[go_sem] theorem T27_size:T27.size=1:=by kernel_rfl
@[go_sem] theorem T27_bytes:T27.bytes=8:=by kernel_rfl
@[go_sem] theorem T27_zero:wag T27=some (.d (.int .i64 0)):=by kernel_rfl
@[go_sem] theorem T27_ok:waf T27=true:=by kernel_rfl
noncomputable def T29:Ty:=(wad Tryd.prog 29).getD ⟨.invalid,0,0,none⟩
@[go_sem] theorem ty29:wad Tryd.prog 29=some T29:=by kernel_rfl
@[go_sem] theorem T29_desc:T29.desc=.func #[3,22] #[26,27] false:=by kernel_rfl
@[go_sem] theorem T29_size:T29.size=1:=by kernel_rfl
@[go_sem] theorem T29_bytes:T29.bytes=8:=by kernel_rfl
@[go_sem] theorem T29_zero:wag T29=some (.d .nilfunc):=by kernel_rfl
@[go_sem] theorem T29_ok:waf T29=true:=by kernel_rfl
noncomputable def T30:Ty:=(wad Tryd.prog 30).getD ⟨.invalid,0,0,none⟩
@[go_sem] theorem ty30:wad Tryd.prog 30=some T30:=by kernel_rfl
@[go_sem] theorem T30_desc:T30.desc=.func #[26,26] #[4] false:=by kernel_rfl
@[go_sem] theorem T30_size:T30.size=1:=by kernel_rfl
@[go_sem] theorem T30_bytes:T30.bytes=8:=by kernel_rfl
@[go_sem] theorem T30_zero:wag T30=some (.d .nilfunc):=by kernel_rfl
@[go_sem] theorem T30_ok:waf T30=true:=by kernel_rfl
noncomputable def T31:Ty:=(wad Tryd.prog 31).getD ⟨.invalid,0,0,none⟩
@[go_sem] theorem ty31:wad Tryd.prog 31=some T31:=by kernel_rfl
@[go_sem] theorem T31_desc:T31.desc=.func #[22,22] #[4] false:=by kernel_rfl
@[go_sem] theorem T31_size:T31.size=1:=by kernel_rfl
@[go_sem] theorem T31_bytes:T31.bytes=8:=by kernel_rfl
@[go_sem] theorem T31_zero:wag T31=some (.d .nilfunc):=by kernel_rfl
@[go_sem] theorem T31_ok:waf T31=true:=by kernel_rfl
noncomputable def T32:Ty:=(wad Tryd.prog 32).getD ⟨.invalid,0,0,none⟩
@[go_sem] theorem ty32:wad Tryd.prog 32=some T32:=by kernel_rfl
@[go_sem] theorem T32_desc:T32.desc=.slice 37:=by kernel_rfl
@[go_sem] theorem es32:wbS Tryd.prog 32=some 3:=by kernel_rfl
@[go_sem] theorem T32_size:T32.size=1:=by kernel_rfl
@[go_sem] theorem T32_bytes:T32.bytes=24:=by kernel_rfl
@[go_sem] theorem T32_zero:wag T32=some (.d .nilslice):=by kernel_rfl
@[go_sem] theorem T32_ok:waf T32=true:=by kernel_rfl
noncomputable def T34:Ty:=(wad Tryd.prog 34).getD ⟨.invalid,0,0,none⟩
@[go_sem] theorem ty34:wad Tryd.prog 34=some T34:=by kernel_rfl
@[go_sem] theorem T34_desc:T34.desc=.func #[3,22] #[32,27] false:=by kernel_rfl
@[go_sem] theorem T34_size:T34.size=1:=by kernel_rfl
@[go_sem] theorem T34_bytes:T34.bytes=8:=by kernel_rfl
@[go_sem] theorem T34_zero:wag T34=some (.d .nilfunc):=by kernel_rfl
@[go_sem] theorem T34_ok:waf T34=true:=by kernel_rfl
noncomputable def T35:Ty:=(wad Tryd.prog 35).getD ⟨.invalid,0,0,none⟩
@[go_sem] theorem ty35:wad Tryd.prog 35=some T35:=by kernel_rfl
@[go_sem] theorem T35_desc:T35.desc=.func #[32,32] #[4] false:=by kernel_rfl
@[go_sem] theorem T35_size:T35.size=1:=by kernel_rfl
@[go_sem] theorem T35_bytes:T35.bytes=8:=by kernel_rfl
@[go_sem] theorem T35_zero:wag T35=some (.d .nilfunc):=by kernel_rfl
@[go_sem] theorem T35_ok:waf T35=true:=by kernel_rfl
noncomputable def T36:Ty:=(wad Tryd.prog 36).getD ⟨.invalid,0,0,none⟩
@[go_sem] theorem ty36:wad Tryd.prog 36=some T36:=by kernel_rfl
noncomputable def fs36:Array Field:=match T36.desc with | .struct fs=>fs | _=>#[]
@[go_sem] theorem T36_desc:T36.desc=.struct fs36:=by kernel_rfl
noncomputable def fs36_0:Field:=fs36.getD 0 default
@[go_sem] theorem fs36_at0:fs36[0]? = some fs36_0:=by kernel_rfl
@[go_sem] theorem fs36_0_type:fs36_0.type=3:=by kernel_rfl
@[go_sem] theorem fs36_0_off:fs36_0.offset=0:=by kernel_rfl
@[go_sem] theorem fo36_0:wap Tryd.prog 36 0=some (0,1):=by kernel_rfl
noncomputable def fs36_1:Field:=fs36.getD 1 default
@[go_sem] theorem fs36_at1:fs36[1]? = some fs36_1:=by kernel_rfl
@[go_sem] theorem fs36_1_type:fs36_1.type=26:=by kernel_rfl
@[go_sem] theorem fs36_1_off:fs36_1.offset=1:=by kernel_rfl
@[go_sem] theorem fo36_1:wap Tryd.prog 36 1=some (1,1):=by kernel_rfl
noncomputable def fs36_2:Field:=fs36.getD 2 default
@[go_sem] theorem fs36_at2:fs36[2]? = some fs36_2:=by kernel_rfl
@[go_sem] theorem fs36_2_type:fs36_2.type=26:=by kernel_rfl
@[go_sem] theorem fs36_2_off:fs36_2.offset=2:=by kernel_rfl
@[go_sem] theorem fo36_2:wap Tryd.prog 36 2=some (2,1):=by kernel_rfl
@[go_sem] theorem pl36:wbB Tryd.prog fs36.toList=some [(0,1),(1,1),(2,1)]:=by kernel_rfl
@[go_sem] theorem T36_size:T36.size=3:=by kernel_rfl
@[go_sem] theorem T36_bytes:T36.bytes=56:=by kernel_rfl
@[go_sem] theorem T36_cells:zeroCells T36.zero=some [.d (.int .i64 0),.d .nilslice,.d .nilslice]:=by kernel_rfl
@[go_sem] theorem T36_zero:wag T36=some (.d (.agg [(.int .i64 0),.nilslice,.nilslice])):=by kernel_rfl
@[go_sem] theorem T36_ok:waf T36=true:=by kernel_rfl
noncomputable def T37:Ty:=(wad Tryd.prog 37).getD ⟨.invalid,0,0,none⟩
@[go_sem] theorem ty37:wad Tryd.prog 37=some T37:=by kernel_rfl
noncomputable def fs37:Array Field:=match T37.desc with | .struct fs=>fs | _=>#[]
@[go_sem] theorem T37_desc:T37.desc=.struct fs37:=by kernel_rfl
noncomputable def fs37_0:Field:=fs37.getD 0 default
@[go_sem] theorem fs37_at0:fs37[0]? = some fs37_0:=by kernel_rfl
@[go_sem] theorem fs37_0_type:fs37_0.type=3:=by kernel_rfl
@[go_sem] theorem fs37_0_off:fs37_0.offset=0:=by kernel_rfl
@[go_sem] theorem fo37_0:wap Tryd.prog 37 0=some (0,1):=by kernel_rfl
noncomputable def fs37_1:Field:=fs37.getD 1 default
@[go_sem] theorem fs37_at1:fs37[1]? = some fs37_1:=by kernel_rfl
@[go_sem] theorem fs37_1_type:fs37_1.type=26:=by kernel_rfl
@[go_sem] theorem fs37_1_off:fs37_1.offset=1:=by kernel_rfl
@[go_sem] theorem fo37_1:wap Tryd.prog 37 1=some (1,1):=by kernel_rfl
noncomputable def fs37_2:Field:=fs37.getD 2 default
@[go_sem] theorem fs37_at2:fs37[2]? = some fs37_2:=by kernel_rfl
@[go_sem] theorem fs37_2_type:fs37_2.type=26:=by kernel_rfl
@[go_sem] theorem fs37_2_off:fs37_2.offset=2:=by kernel_rfl
@[go_sem] theorem fo37_2:wap Tryd.prog 37 2=some (2,1):=by kernel_rfl
@[go_sem] theorem pl37:wbB Tryd.prog fs37.toList=some [(0,1),(1,1),(2,1)]:=by kernel_rfl
@[go_sem] theorem T37_size:T37.size=3:=by kernel_rfl
@[go_sem] theorem T37_bytes:T37.bytes=56:=by kernel_rfl
@[go_sem] theorem T37_cells:zeroCells T37.zero=some [.d (.int .i64 0),.d .nilslice,.d .nilslice]:=by kernel_rfl
@[go_sem] theorem T37_zero:wag T37=some (.d (.agg [(.int .i64 0),.nilslice,.nilslice])):=by kernel_rfl
@[go_sem] theorem T37_ok:waf T37=true:=by kernel_rfl
noncomputable def T39:Ty:=(wad Tryd.prog 39).getD ⟨.invalid,0,0,none⟩
@[go_sem] theorem ty39:wad Tryd.prog 39=some T39:=by kernel_rfl
@[go_sem] theorem T39_desc:T39.desc=.func #[3,22] #[26,3,27] false:=by kernel_rfl
@[go_sem] theorem T39_size:T39.size=1:=by kernel_rfl
@[go_sem] theorem T39_bytes:T39.bytes=8:=by kernel_rfl
@[go_sem] theorem T39_zero:wag T39=some (.d .nilfunc):=by kernel_rfl
@[go_sem] theorem T39_ok:waf T39=true:=by kernel_rfl
noncomputable def T40:Ty:=(wad Tryd.prog 40).getD ⟨.invalid,0,0,none⟩
@[go_sem] theorem ty40:wad Tryd.prog 40=some T40:=by kernel_rfl
@[go_sem] theorem T40_desc:T40.desc=.func #[3,22,22] #[26,27] false:=by kernel_rfl
@[go_sem] theorem T40_size:T40.size=1:=by kernel_rfl
@[go_sem] theorem T40_bytes:T40.bytes=8:=by kernel_rfl
@[go_sem] theorem T40_zero:wag T40=some (.d .nilfunc):=by kernel_rfl
@[go_sem] theorem T40_ok:waf T40=true:=by kernel_rfl
noncomputable def T41:Ty:=(wad Tryd.prog 41).getD ⟨.invalid,0,0,none⟩
@[go_sem] theorem ty41:wad Tryd.prog 41=some T41:=by kernel_rfl
@[go_sem] theorem T41_desc:T41.desc=.func #[3,22,22] #[4] false:=by kernel_rfl
@[go_sem] theorem T41_size:T41.size=1:=by kernel_rfl
@[go_sem] theorem T41_bytes:T41.bytes=8:=by kernel_rfl
@[go_sem] theorem T41_zero:wag T41=some (.d .nilfunc):=by kernel_rfl
@[go_sem] theorem T41_ok:waf T41=true:=by kernel_rfl
noncomputable def T45:Ty:=(wad Tryd.prog 45).getD ⟨.invalid,0,0,none⟩
@[go_sem] theorem ty45:wad Tryd.prog 45=some T45:=by kernel_rfl
@[go_sem] theorem T45_desc:T45.desc=.func #[3,22,26] #[3,3,27] false:=by kernel_rfl
@[go_sem] theorem T45_size:T45.size=1:=by kernel_rfl
@[go_sem] theorem T45_bytes:T45.bytes=8:=by kernel_rfl
@[go_sem] theorem T45_zero:wag T45=some (.d .nilfunc):=by kernel_rfl
@[go_sem] theorem T45_ok:waf T45=true:=by kernel_rfl
noncomputable def T48:Ty:=(wad Tryd.prog 48).getD ⟨.invalid,0,0,none⟩
@[go_sem] theorem ty48:wad Tryd.prog 48=some T48:=by kernel_rfl
@[go_sem] theorem T48_desc:T48.desc=.func #[3,32,26] #[3,27] false:=by kernel_rfl
@[go_sem] theorem T48_size:T48.size=1:=by kernel_rfl
@[go_sem] theorem T48_bytes:T48.bytes=8:=by kernel_rfl
@[go_sem] theorem T48_zero:wag T48=some (.d .nilfunc):=by kernel_rfl
@[go_sem] theorem T48_ok:waf T48=true:=by kernel_rfl
noncomputable def T49:Ty:=(wad Tryd.prog 49).getD ⟨.invalid,0,0,none⟩
@[go_sem] theorem ty49:wad Tryd.prog 49=some T49:=by kernel_rfl
@[go_sem] theorem T49_desc:T49.desc=.func #[3,32,26] #[4] false:=by kernel_rfl
@[go_sem] theorem T49_size:T49.size=1:=by kernel_rfl
@[go_sem] theorem T49_bytes:T49.bytes=8:=by kernel_rfl
@[go_sem] theorem T49_zero:wag T49=some (.d .nilfunc):=by kernel_rfl
@[go_sem] theorem T49_ok:waf T49=true:=by kernel_rfl
noncomputable def T50:Ty:=(wad Tryd.prog 50).getD ⟨.invalid,0,0,none⟩
@[go_sem] theorem ty50:wad Tryd.prog 50=some T50:=by kernel_rfl
@[go_sem] theorem T50_desc:T50.desc=.int .u16:=by kernel_rfl
@[go_sem] theorem T50_size:T50.size=1:=by kernel_rfl
@[go_sem] theorem T50_bytes:T50.bytes=2:=by kernel_rfl
@[go_sem] theorem T50_zero:wag T50=some (.d (.int .u16 0)):=by kernel_rfl
@[go_sem] theorem T50_ok:waf T50=true:=by kernel_rfl
noncomputable def T51:Ty:=(wad Tryd.prog 51).getD ⟨.invalid,0,0,none⟩
@[go_sem] theorem ty51:wad Tryd.prog 51=some T51:=by kernel_rfl
@[go_sem] theorem T51_desc:T51.desc=.func #[4,50] #[4] false:=by kernel_rfl
@[go_sem] theorem T51_size:T51.size=1:=by kernel_rfl
@[go_sem] theorem T51_bytes:T51.bytes=8:=by kernel_rfl
@[go_sem] theorem T51_zero:wag T51=some (.d .nilfunc):=by kernel_rfl
@[go_sem] theorem T51_ok:waf T51=true:=by kernel_rfl
noncomputable def T52:Ty:=(wad Tryd.prog 52).getD ⟨.invalid,0,0,none⟩
@[go_sem] theorem ty52:wad Tryd.prog 52=some T52:=by kernel_rfl
@[go_sem] theorem T52_desc:T52.desc=.slice 5:=by kernel_rfl
@[go_sem] theorem es52:wbS Tryd.prog 52=some 1:=by kernel_rfl
@[go_sem] theorem T52_size:T52.size=1:=by kernel_rfl
@[go_sem] theorem T52_bytes:T52.bytes=24:=by kernel_rfl
@[go_sem] theorem T52_zero:wag T52=some (.d .nilslice):=by kernel_rfl
@[go_sem] theorem T52_ok:waf T52=true:=by kernel_rfl
noncomputable def T53:Ty:=(wad Tryd.prog 53).getD ⟨.invalid,0,0,none⟩
@[go_sem] theorem ty53:wad Tryd.prog 53=some T53:=by kernel_rfl
@[go_sem] theorem T53_desc:T53.desc=.func #[3,22] #[27] false:=by kernel_rfl
@[go_sem] theorem T53_size:T53.size=1:=by kernel_rfl
@[go_sem] theorem T53_bytes:T53.bytes=8:=by kernel_rfl
@[go_sem] theorem T53_zero:wag T53=some (.d .nilfunc):=by kernel_rfl
@[go_sem] theorem T53_ok:waf T53=true:=by kernel_rfl
noncomputable def T54:Ty:=(wad Tryd.prog 54).getD ⟨.invalid,0,0,none⟩
@[go_sem] theorem ty54:wad Tryd.prog 54=some T54:=by kernel_rfl
@[go_sem] theorem T54_desc:T54.desc=.slice 61:=by kernel_rfl
@[go_sem] theorem es54:wbS Tryd.prog 54=some 2:=by kernel_rfl
@[go_sem] theorem T54_size:T54.size=1:=by kernel_rfl
@[go_sem] theorem T54_bytes:T54.bytes=24:=by kernel_rfl
@[go_sem] theorem T54_zero:wag T54=some (.d .nilslice):=by kernel_rfl
@[go_sem] theorem T54_ok:waf T54=true:=by kernel_rfl
noncomputable def T55:Ty:=(wad Tryd.prog 55).getD ⟨.invalid,0,0,none⟩
@[go_sem] theorem ty55:wad Tryd.prog 55=some T55:=by kernel_rfl
noncomputable def fs55:Array Field:=match T55.desc with | .struct fs=>fs | _=>#[]
@[go_sem] theorem T55_desc:T55.desc=.struct fs55:=by kernel_rfl
noncomputable def fs55_0:Field:=fs55.getD 0 default
@[go_sem] theorem fs55_at0:fs55[0]? = some fs55_0:=by kernel_rfl
@[go_sem] theorem fs55_0_type:fs55_0.type=54:=by kernel_rfl
@[go_sem] theorem fs55_0_off:fs55_0.offset=0:=by kernel_rfl
@[go_sem] theorem fo55_0:wap Tryd.prog 55 0=some (0,1):=by kernel_rfl
noncomputable def fs55_1:Field:=fs55.getD 1 default
@[go_sem] theorem fs55_at1:fs55[1]? = some fs55_1:=by kernel_rfl
@[go_sem] theorem fs55_1_type:fs55_1.type=3:=by kernel_rfl
@[go_sem] theorem fs55_1_off:fs55_1.offset=1:=by kernel_rfl
@[go_sem] theorem fo55_1:wap Tryd.prog 55 1=some (1,1):=by kernel_rfl
@[go_sem] theorem pl55:wbB Tryd.prog fs55.toList=some [(0,1),(1,1)]:=by kernel_rfl
@[go_sem] theorem T55_size:T55.size=2:=by kernel_rfl
@[go_sem] theorem T55_bytes:T55.bytes=32:=by kernel_rfl
@[go_sem] theorem T55_cells:zeroCells T55.zero=some [.d .nilslice,.d (.int .i64 0)]:=by kernel_rfl
@[go_sem] theorem T55_zero:wag T55=some (.d (.agg [.nilslice,(.int .i64 0)])):=by kernel_rfl
@[go_sem] theorem T55_ok:waf T55=true:=by kernel_rfl
noncomputable def T56:Ty:=(wad Tryd.prog 56).getD ⟨.invalid,0,0,none⟩
@[go_sem] theorem ty56:wad Tryd.prog 56=some T56:=by kernel_rfl
noncomputable def fs56:Array Field:=match T56.desc with | .struct fs=>fs | _=>#[]
@[go_sem] theorem T56_desc:T56.desc=.struct fs56:=by kernel_rfl
noncomputable def fs56_0:Field:=fs56.getD 0 default
@[go_sem] theorem fs56_at0:fs56[0]? = some fs56_0:=by kernel_rfl
@[go_sem] theorem fs56_0_type:fs56_0.type=54:=by kernel_rfl
@[go_sem] theorem fs56_0_off:fs56_0.offset=0:=by kernel_rfl
@[go_sem] theorem fo56_0:wap Tryd.prog 56 0=some (0,1):=by kernel_rfl
noncomputable def fs56_1:Field:=fs56.getD 1 default
@[go_sem] theorem fs56_at1:fs56[1]? = some fs56_1:=by kernel_rfl
@[go_sem] theorem fs56_1_type:fs56_1.type=3:=by kernel_rfl
@[go_sem] theorem fs56_1_off:fs56_1.offset=1:=by kernel_rfl
@[go_sem] theorem fo56_1:wap Tryd.prog 56 1=some (1,1):=by kernel_rfl
@[go_sem] theorem pl56:wbB Tryd.prog fs56.toList=some [(0,1),(1,1)]:=by kernel_rfl
@[go_sem] theorem T56_size:T56.size=2:=by kernel_rfl
@[go_sem] theorem T56_bytes:T56.bytes=32:=by kernel_rfl
@[go_sem] theorem T56_cells:zeroCells T56.zero=some [.d .nilslice,.d (.int .i64 0)]:=by kernel_rfl
@[go_sem] theorem T56_zero:wag T56=some (.d (.agg [.nilslice,(.int .i64 0)])):=by kernel_rfl
@[go_sem] theorem T56_ok:waf T56=true:=by kernel_rfl
noncomputable def T57:Ty:=(wad Tryd.prog 57).getD ⟨.invalid,0,0,none⟩
@[go_sem] theorem ty57:wad Tryd.prog 57=some T57:=by kernel_rfl
@[go_sem] theorem T57_desc:T57.desc=.func #[3,22,52] #[4] false:=by kernel_rfl
@[go_sem] theorem T57_size:T57.size=1:=by kernel_rfl
@[go_sem] theorem T57_bytes:T57.bytes=8:=by kernel_rfl
@[go_sem] theorem T57_zero:wag T57=some (.d .nilfunc):=by kernel_rfl
@[go_sem] theorem T57_ok:waf T57=true:=by kernel_rfl
noncomputable def T60:Ty:=(wad Tryd.prog 60).getD ⟨.invalid,0,0,none⟩
@[go_sem] theorem ty60:wad Tryd.prog 60=some T60:=by kernel_rfl
noncomputable def fs60:Array Field:=match T60.desc with | .struct fs=>fs | _=>#[]
@[go_sem] theorem T60_desc:T60.desc=.struct fs60:=by kernel_rfl
noncomputable def fs60_0:Field:=fs60.getD 0 default
@[go_sem] theorem fs60_at0:fs60[0]? = some fs60_0:=by kernel_rfl
@[go_sem] theorem fs60_0_type:fs60_0.type=3:=by kernel_rfl
@[go_sem] theorem fs60_0_off:fs60_0.offset=0:=by kernel_rfl
@[go_sem] theorem fo60_0:wap Tryd.prog 60 0=some (0,1):=by kernel_rfl
@[go_sem] theorem fs60_0_nm : (fs60_0.name == "_") = false := by kernel_rfl
noncomputable def fs60_1:Field:=fs60.getD 1 default
@[go_sem] theorem fs60_at1:fs60[1]? = some fs60_1:=by kernel_rfl
@[go_sem] theorem fs60_1_type:fs60_1.type=3:=by kernel_rfl
@[go_sem] theorem fs60_1_off:fs60_1.offset=1:=by kernel_rfl
@[go_sem] theorem fo60_1:wap Tryd.prog 60 1=some (1,1):=by kernel_rfl
@[go_sem] theorem fs60_1_nm : (fs60_1.name == "_") = false := by kernel_rfl
@[go_sem] theorem sih60:Tryd.prog.stoodInHeld 60=false:=by kernel_rfl
@[go_sem] theorem egt60:Tryd.prog.eqGuardType Tryd.prog.depth 60=false:=by kernel_rfl
@[go_sem] theorem pl60:wbB Tryd.prog fs60.toList=some [(0,1),(1,1)]:=by kernel_rfl
@[go_sem] theorem T60_size:T60.size=2:=by kernel_rfl
@[go_sem] theorem T60_bytes:T60.bytes=16:=by kernel_rfl
@[go_sem] theorem T60_cells:zeroCells T60.zero=some [.d (.int .i64 0),.d (.int .i64 0)]:=by kernel_rfl
@[go_sem] theorem T60_zero:wag T60=some (.d (.agg [(.int .i64 0),(.int .i64 0)])):=by kernel_rfl
@[go_sem] theorem T60_ok:waf T60=true:=by kernel_rfl
noncomputable def T61:Ty:=(wad Tryd.prog 61).getD ⟨.invalid,0,0,none⟩
@[go_sem] theorem ty61:wad Tryd.prog 61=some T61:=by kernel_rfl
noncomputable def fs61:Array Field:=match T61.desc with | .struct fs=>fs | _=>#[]
@[go_sem] theorem T61_desc:T61.desc=.struct fs61:=by kernel_rfl
noncomputable def fs61_0:Field:=fs61.getD 0 default
@[go_sem] theorem fs61_at0:fs61[0]? = some fs61_0:=by kernel_rfl
@[go_sem] theorem fs61_0_type:fs61_0.type=3:=by kernel_rfl
@[go_sem] theorem fs61_0_off:fs61_0.offset=0:=by kernel_rfl
@[go_sem] theorem fo61_0:wap Tryd.prog 61 0=some (0,1):=by kernel_rfl
@[go_sem] theorem fs61_0_nm : (fs61_0.name == "_") = false := by kernel_rfl
noncomputable def fs61_1:Field:=fs61.getD 1 default
@[go_sem] theorem fs61_at1:fs61[1]? = some fs61_1:=by kernel_rfl
@[go_sem] theorem fs61_1_type:fs61_1.type=3:=by kernel_rfl
@[go_sem] theorem fs61_1_off:fs61_1.offset=1:=by kernel_rfl
@[go_sem] theorem fo61_1:wap Tryd.prog 61 1=some (1,1):=by kernel_rfl
@[go_sem] theorem fs61_1_nm : (fs61_1.name == "_") = false := by kernel_rfl
@[go_sem] theorem sih61:Tryd.prog.stoodInHeld 61=false:=by kernel_rfl
@[go_sem] theorem egt61:Tryd.prog.eqGuardType Tryd.prog.depth 61=false:=by kernel_rfl
@[go_sem] theorem pl61:wbB Tryd.prog fs61.toList=some [(0,1),(1,1)]:=by kernel_rfl
@[go_sem] theorem T61_size:T61.size=2:=by kernel_rfl
@[go_sem] theorem T61_bytes:T61.bytes=16:=by kernel_rfl
@[go_sem] theorem T61_cells:zeroCells T61.zero=some [.d (.int .i64 0),.d (.int .i64 0)]:=by kernel_rfl
@[go_sem] theorem T61_zero:wag T61=some (.d (.agg [(.int .i64 0),(.int .i64 0)])):=by kernel_rfl
@[go_sem] theorem T61_ok:waf T61=true:=by kernel_rfl
noncomputable def T64:Ty:=(wad Tryd.prog 64).getD ⟨.invalid,0,0,none⟩
@[go_sem] theorem ty64:wad Tryd.prog 64=some T64:=by kernel_rfl
@[go_sem] theorem T64_desc:T64.desc=.func #[3,22,22,3,3,26] #[4] false:=by kernel_rfl
@[go_sem] theorem T64_size:T64.size=1:=by kernel_rfl
@[go_sem] theorem T64_bytes:T64.bytes=8:=by kernel_rfl
@[go_sem] theorem T64_zero:wag T64=some (.d .nilfunc):=by kernel_rfl
@[go_sem] theorem T64_ok:waf T64=true:=by kernel_rfl
noncomputable def T65:Ty:=(wad Tryd.prog 65).getD ⟨.invalid,0,0,none⟩
@[go_sem] theorem ty65:wad Tryd.prog 65=some T65:=by kernel_rfl
@[go_sem] theorem T65_desc:T65.desc=.func #[3,22,22,26] #[4] false:=by kernel_rfl
@[go_sem] theorem T65_size:T65.size=1:=by kernel_rfl
@[go_sem] theorem T65_bytes:T65.bytes=8:=by kernel_rfl
@[go_sem] theorem T65_zero:wag T65=some (.d .nilfunc):=by kernel_rfl
@[go_sem] theorem T65_ok:waf T65=true:=by kernel_rfl
noncomputable def T69:Ty:=(wad Tryd.prog 69).getD ⟨.invalid,0,0,none⟩
@[go_sem] theorem ty69:wad Tryd.prog 69=some T69:=by kernel_rfl
@[go_sem] theorem T69_desc:T69.desc=.func #[26,4] #[26,27] false:=by kernel_rfl
@[go_sem] theorem T69_size:T69.size=1:=by kernel_rfl
@[go_sem] theorem T69_bytes:T69.bytes=8:=by kernel_rfl
@[go_sem] theorem T69_zero:wag T69=some (.d .nilfunc):=by kernel_rfl
@[go_sem] theorem T69_ok:waf T69=true:=by kernel_rfl
noncomputable def T71:Ty:=(wad Tryd.prog 71).getD ⟨.invalid,0,0,none⟩
@[go_sem] theorem ty71:wad Tryd.prog 71=some T71:=by kernel_rfl
noncomputable def fs71:Array Field:=match T71.desc with | .struct fs=>fs | _=>#[]
@[go_sem] theorem T71_desc:T71.desc=.struct fs71:=by kernel_rfl
noncomputable def fs71_0:Field:=fs71.getD 0 default
@[go_sem] theorem fs71_at0:fs71[0]? = some fs71_0:=by kernel_rfl
@[go_sem] theorem fs71_0_type:fs71_0.type=3:=by kernel_rfl
@[go_sem] theorem fs71_0_off:fs71_0.offset=0:=by kernel_rfl
@[go_sem] theorem fo71_0:wap Tryd.prog 71 0=some (0,1):=by kernel_rfl
noncomputable def fs71_1:Field:=fs71.getD 1 default
@[go_sem] theorem fs71_at1:fs71[1]? = some fs71_1:=by kernel_rfl
@[go_sem] theorem fs71_1_type:fs71_1.type=22:=by kernel_rfl
@[go_sem] theorem fs71_1_off:fs71_1.offset=1:=by kernel_rfl
@[go_sem] theorem fo71_1:wap Tryd.prog 71 1=some (1,1):=by kernel_rfl
noncomputable def fs71_2:Field:=fs71.getD 2 default
@[go_sem] theorem fs71_at2:fs71[2]? = some fs71_2:=by kernel_rfl
@[go_sem] theorem fs71_2_type:fs71_2.type=22:=by kernel_rfl
@[go_sem] theorem fs71_2_off:fs71_2.offset=2:=by kernel_rfl
@[go_sem] theorem fo71_2:wap Tryd.prog 71 2=some (2,1):=by kernel_rfl
@[go_sem] theorem pl71:wbB Tryd.prog fs71.toList=some [(0,1),(1,1),(2,1)]:=by kernel_rfl
@[go_sem] theorem T71_size:T71.size=3:=by kernel_rfl
@[go_sem] theorem T71_bytes:T71.bytes=56:=by kernel_rfl
@[go_sem] theorem T71_cells:zeroCells T71.zero=some [.d (.int .i64 0),.d .nilslice,.d .nilslice]:=by kernel_rfl
@[go_sem] theorem T71_zero:wag T71=some (.d (.agg [(.int .i64 0),.nilslice,.nilslice])):=by kernel_rfl
@[go_sem] theorem T71_ok:waf T71=true:=by kernel_rfl
noncomputable def T72:Ty:=(wad Tryd.prog 72).getD ⟨.invalid,0,0,none⟩
@[go_sem] theorem ty72:wad Tryd.prog 72=some T72:=by kernel_rfl
noncomputable def fs72:Array Field:=match T72.desc with | .struct fs=>fs | _=>#[]
@[go_sem] theorem T72_desc:T72.desc=.struct fs72:=by kernel_rfl
noncomputable def fs72_0:Field:=fs72.getD 0 default
@[go_sem] theorem fs72_at0:fs72[0]? = some fs72_0:=by kernel_rfl
@[go_sem] theorem fs72_0_type:fs72_0.type=3:=by kernel_rfl
@[go_sem] theorem fs72_0_off:fs72_0.offset=0:=by kernel_rfl
@[go_sem] theorem fo72_0:wap Tryd.prog 72 0=some (0,1):=by kernel_rfl
noncomputable def fs72_1:Field:=fs72.getD 1 default
@[go_sem] theorem fs72_at1:fs72[1]? = some fs72_1:=by kernel_rfl
@[go_sem] theorem fs72_1_type:fs72_1.type=22:=by kernel_rfl
@[go_sem] theorem fs72_1_off:fs72_1.offset=1:=by kernel_rfl
@[go_sem] theorem fo72_1:wap Tryd.prog 72 1=some (1,1):=by kernel_rfl
noncomputable def fs72_2:Field:=fs72.getD 2 default
@[go_sem] theorem fs72_at2:fs72[2]? = some fs72_2:=by kernel_rfl
@[go_sem] theorem fs72_2_type:fs72_2.type=22:=by kernel_rfl
@[go_sem] theorem fs72_2_off:fs72_2.offset=2:=by kernel_rfl
@[go_sem] theorem fo72_2:wap Tryd.prog 72 2=some (2,1):=by kernel_rfl
@[go_sem] theorem pl72:wbB Tryd.prog fs72.toList=some [(0,1),(1,1),(2,1)]:=by kernel_rfl
@[go_sem] theorem T72_size:T72.size=3:=by kernel_rfl
@[go_sem] theorem T72_bytes:T72.bytes=56:=by kernel_rfl
@[go_sem] theorem T72_cells:zeroCells T72.zero=some [.d (.int .i64 0),.d .nilslice,.d .nilslice]:=by kernel_rfl
@[go_sem] theorem T72_zero:wag T72=some (.d (.agg [(.int .i64 0),.nilslice,.nilslice])):=by kernel_rfl
@[go_sem] theorem T72_ok:waf T72=true:=by kernel_rfl
noncomputable def T73:Ty:=(wad Tryd.prog 73).getD ⟨.invalid,0,0,none⟩
@[go_sem] theorem ty73:wad Tryd.prog 73=some T73:=by kernel_rfl
@[go_sem] theorem T73_desc:T73.desc=.func #[74] #[26,4] false:=by kernel_rfl
@[go_sem] theorem T73_size:T73.size=1:=by kernel_rfl
@[go_sem] theorem T73_bytes:T73.bytes=8:=by kernel_rfl
@[go_sem] theorem T73_zero:wag T73=some (.d .nilfunc):=by kernel_rfl
@[go_sem] theorem T73_ok:waf T73=true:=by kernel_rfl
noncomputable def T74:Ty:=(wad Tryd.prog 74).getD ⟨.invalid,0,0,none⟩
@[go_sem] theorem ty74:wad Tryd.prog 74=some T74:=by kernel_rfl
@[go_sem] theorem T74_desc:T74.desc=.func #[3,3] #[4] false:=by kernel_rfl
@[go_sem] theorem T74_size:T74.size=1:=by kernel_rfl
@[go_sem] theorem T74_bytes:T74.bytes=8:=by kernel_rfl
@[go_sem] theorem T74_zero:wag T74=some (.d .nilfunc):=by kernel_rfl
@[go_sem] theorem T74_ok:waf T74=true:=by kernel_rfl
noncomputable def T75:Ty:=(wad Tryd.prog 75).getD ⟨.invalid,0,0,none⟩
@[go_sem] theorem ty75:wad Tryd.prog 75=some T75:=by kernel_rfl
@[go_sem] theorem T75_desc:T75.desc=.pointer 81:=by kernel_rfl
@[go_sem] theorem T75_size:T75.size=1:=by kernel_rfl
@[go_sem] theorem T75_bytes:T75.bytes=8:=by kernel_rfl
@[go_sem] theorem T75_zero:wag T75=some (.d .nilptr):=by kernel_rfl
@[go_sem] theorem T75_ok:waf T75=true:=by kernel_rfl
noncomputable def T76:Ty:=(wad Tryd.prog 76).getD ⟨.invalid,0,0,none⟩
@[go_sem] theorem ty76:wad Tryd.prog 76=some T76:=by kernel_rfl
@[go_sem] theorem T76_desc:T76.desc=.slice 120:=by kernel_rfl
@[go_sem] theorem es76:wbS Tryd.prog 76=some 3:=by kernel_rfl
@[go_sem] theorem T76_size:T76.size=1:=by kernel_rfl
@[go_sem] theorem T76_bytes:T76.bytes=24:=by kernel_rfl
@[go_sem] theorem T76_zero:wag T76=some (.d .nilslice):=by kernel_rfl
@[go_sem] theorem T76_ok:waf T76=true:=by kernel_rfl
noncomputable def T77:Ty:=(wad Tryd.prog 77).getD ⟨.invalid,0,0,none⟩
@[go_sem] theorem ty77:wad Tryd.prog 77=some T77:=by kernel_rfl
noncomputable def fs77:Array Field:=match T77.desc with | .struct fs=>fs | _=>#[]
@[go_sem] theorem T77_desc:T77.desc=.struct fs77:=by kernel_rfl
noncomputable def fs77_0:Field:=fs77.getD 0 default
@[go_sem] theorem fs77_at0:fs77[0]? = some fs77_0:=by kernel_rfl
@[go_sem] theorem fs77_0_type:fs77_0.type=26:=by kernel_rfl
@[go_sem] theorem fs77_0_off:fs77_0.offset=0:=by kernel_rfl
@[go_sem] theorem fo77_0:wap Tryd.prog 77 0=some (0,1):=by kernel_rfl
noncomputable def fs77_1:Field:=fs77.getD 1 default
@[go_sem] theorem fs77_at1:fs77[1]? = some fs77_1:=by kernel_rfl
@[go_sem] theorem fs77_1_type:fs77_1.type=26:=by kernel_rfl
@[go_sem] theorem fs77_1_off:fs77_1.offset=1:=by kernel_rfl
@[go_sem] theorem fo77_1:wap Tryd.prog 77 1=some (1,1):=by kernel_rfl
noncomputable def fs77_2:Field:=fs77.getD 2 default
@[go_sem] theorem fs77_at2:fs77[2]? = some fs77_2:=by kernel_rfl
@[go_sem] theorem fs77_2_type:fs77_2.type=76:=by kernel_rfl
@[go_sem] theorem fs77_2_off:fs77_2.offset=2:=by kernel_rfl
@[go_sem] theorem fo77_2:wap Tryd.prog 77 2=some (2,1):=by kernel_rfl
@[go_sem] theorem pl77:wbB Tryd.prog fs77.toList=some [(0,1),(1,1),(2,1)]:=by kernel_rfl
@[go_sem] theorem T77_size:T77.size=3:=by kernel_rfl
@[go_sem] theorem T77_bytes:T77.bytes=72:=by kernel_rfl
@[go_sem] theorem T77_cells:zeroCells T77.zero=some [.d .nilslice,.d .nilslice,.d .nilslice]:=by kernel_rfl
@[go_sem] theorem T77_zero:wag T77=some (.d (.agg [.nilslice,.nilslice,.nilslice])):=by kernel_rfl
@[go_sem] theorem T77_ok:waf T77=true:=by kernel_rfl
noncomputable def T78:Ty:=(wad Tryd.prog 78).getD ⟨.invalid,0,0,none⟩
@[go_sem] theorem ty78:wad Tryd.prog 78=some T78:=by kernel_rfl
noncomputable def fs78:Array Field:=match T78.desc with | .struct fs=>fs | _=>#[]
@[go_sem] theorem T78_desc:T78.desc=.struct fs78:=by kernel_rfl
noncomputable def fs78_0:Field:=fs78.getD 0 default
@[go_sem] theorem fs78_at0:fs78[0]? = some fs78_0:=by kernel_rfl
@[go_sem] theorem fs78_0_type:fs78_0.type=26:=by kernel_rfl
@[go_sem] theorem fs78_0_off:fs78_0.offset=0:=by kernel_rfl
@[go_sem] theorem fo78_0:wap Tryd.prog 78 0=some (0,1):=by kernel_rfl
noncomputable def fs78_1:Field:=fs78.getD 1 default
@[go_sem] theorem fs78_at1:fs78[1]? = some fs78_1:=by kernel_rfl
@[go_sem] theorem fs78_1_type:fs78_1.type=26:=by kernel_rfl
@[go_sem] theorem fs78_1_off:fs78_1.offset=1:=by kernel_rfl
@[go_sem] theorem fo78_1:wap Tryd.prog 78 1=some (1,1):=by kernel_rfl
noncomputable def fs78_2:Field:=fs78.getD 2 default
@[go_sem] theorem fs78_at2:fs78[2]? = some fs78_2:=by kernel_rfl
@[go_sem] theorem fs78_2_type:fs78_2.type=76:=by kernel_rfl
@[go_sem] theorem fs78_2_off:fs78_2.offset=2:=by kernel_rfl
@[go_sem] theorem fo78_2:wap Tryd.prog 78 2=some (2,1):=by kernel_rfl
@[go_sem] theorem pl78:wbB Tryd.prog fs78.toList=some [(0,1),(1,1),(2,1)]:=by kernel_rfl
@[go_sem] theorem T78_size:T78.size=3:=by kernel_rfl
@[go_sem] theorem T78_bytes:T78.bytes=72:=by kernel_rfl
@[go_sem] theorem T78_cells:zeroCells T78.zero=some [.d .nilslice,.d .nilslice,.d .nilslice]:=by kernel_rfl
@[go_sem] theorem T78_zero:wag T78=some (.d (.agg [.nilslice,.nilslice,.nilslice])):=by kernel_rfl
@[go_sem] theorem T78_ok:waf T78=true:=by kernel_rfl
noncomputable def T79:Ty:=(wad Tryd.prog 79).getD ⟨.invalid,0,0,none⟩
@[go_sem] theorem ty79:wad Tryd.prog 79=some T79:=by kernel_rfl
@[go_sem] theorem T79_desc:T79.desc=.slice 26:=by kernel_rfl
@[go_sem] theorem es79:wbS Tryd.prog 79=some 1:=by kernel_rfl
@[go_sem] theorem T79_size:T79.size=1:=by kernel_rfl
@[go_sem] theorem T79_bytes:T79.bytes=24:=by kernel_rfl
@[go_sem] theorem T79_zero:wag T79=some (.d .nilslice):=by kernel_rfl
@[go_sem] theorem T79_ok:waf T79=true:=by kernel_rfl
noncomputable def T80:Ty:=(wad Tryd.prog 80).getD ⟨.invalid,0,0,none⟩
@[go_sem] theorem ty80:wad Tryd.prog 80=some T80:=by kernel_rfl
noncomputable def fs80:Array Field:=match T80.desc with | .struct fs=>fs | _=>#[]
@[go_sem] theorem T80_desc:T80.desc=.struct fs80:=by kernel_rfl
noncomputable def fs80_0:Field:=fs80.getD 0 default
@[go_sem] theorem fs80_at0:fs80[0]? = some fs80_0:=by kernel_rfl
@[go_sem] theorem fs80_0_type:fs80_0.type=3:=by kernel_rfl
@[go_sem] theorem fs80_0_off:fs80_0.offset=0:=by kernel_rfl
@[go_sem] theorem fo80_0:wap Tryd.prog 80 0=some (0,1):=by kernel_rfl
noncomputable def fs80_1:Field:=fs80.getD 1 default
@[go_sem] theorem fs80_at1:fs80[1]? = some fs80_1:=by kernel_rfl
@[go_sem] theorem fs80_1_type:fs80_1.type=22:=by kernel_rfl
@[go_sem] theorem fs80_1_off:fs80_1.offset=1:=by kernel_rfl
@[go_sem] theorem fo80_1:wap Tryd.prog 80 1=some (1,1):=by kernel_rfl
noncomputable def fs80_2:Field:=fs80.getD 2 default
@[go_sem] theorem fs80_at2:fs80[2]? = some fs80_2:=by kernel_rfl
@[go_sem] theorem fs80_2_type:fs80_2.type=78:=by kernel_rfl
@[go_sem] theorem fs80_2_off:fs80_2.offset=2:=by kernel_rfl
@[go_sem] theorem fo80_2:wap Tryd.prog 80 2=some (2,3):=by kernel_rfl
noncomputable def fs80_3:Field:=fs80.getD 3 default
@[go_sem] theorem fs80_at3:fs80[3]? = some fs80_3:=by kernel_rfl
@[go_sem] theorem fs80_3_type:fs80_3.type=79:=by kernel_rfl
@[go_sem] theorem fs80_3_off:fs80_3.offset=5:=by kernel_rfl
@[go_sem] theorem fo80_3:wap Tryd.prog 80 3=some (5,1):=by kernel_rfl
noncomputable def fs80_4:Field:=fs80.getD 4 default
@[go_sem] theorem fs80_at4:fs80[4]? = some fs80_4:=by kernel_rfl
@[go_sem] theorem fs80_4_type:fs80_4.type=26:=by kernel_rfl
@[go_sem] theorem fs80_4_off:fs80_4.offset=6:=by kernel_rfl
@[go_sem] theorem fo80_4:wap Tryd.prog 80 4=some (6,1):=by kernel_rfl
noncomputable def fs80_5:Field:=fs80.getD 5 default
@[go_sem] theorem fs80_at5:fs80[5]? = some fs80_5:=by kernel_rfl
@[go_sem] theorem fs80_5_type:fs80_5.type=32:=by kernel_rfl
@[go_sem] theorem fs80_5_off:fs80_5.offset=7:=by kernel_rfl
@[go_sem] theorem fo80_5:wap Tryd.prog 80 5=some (7,1):=by kernel_rfl
@[go_sem] theorem pl80:wbB Tryd.prog fs80.toList=some [(0,1),(1,1),(2,3),(5,1),(6,1),(7,1)]:=by kernel_rfl
@[go_sem] theorem T80_size:T80.size=8:=by kernel_rfl
@[go_sem] theorem T80_bytes:T80.bytes=176:=by kernel_rfl
@[go_sem] theorem T80_cells:zeroCells T80.zero=some [.d (.int .i64 0),.d .nilslice,.d .nilslice,.d .nilslice,.d .nilslice,.d .nilslice,.d .nilslice,.d .nilslice]:=by kernel_rfl
@[go_sem] theorem T80_zero:wag T80=some (.d (.agg [(.int .i64 0),.nilslice,.nilslice,.nilslice,.nilslice,.nilslice,.nilslice,.nilslice])):=by kernel_rfl
@[go_sem] theorem T80_ok:waf T80=true:=by kernel_rfl
noncomputable def T81:Ty:=(wad Tryd.prog 81).getD ⟨.invalid,0,0,none⟩
@[go_sem] theorem ty81:wad Tryd.prog 81=some T81:=by kernel_rfl
noncomputable def fs81:Array Field:=match T81.desc with | .struct fs=>fs | _=>#[]
@[go_sem] theorem T81_desc:T81.desc=.struct fs81:=by kernel_rfl
noncomputable def fs81_0:Field:=fs81.getD 0 default
@[go_sem] theorem fs81_at0:fs81[0]? = some fs81_0:=by kernel_rfl
@[go_sem] theorem fs81_0_type:fs81_0.type=3:=by kernel_rfl
@[go_sem] theorem fs81_0_off:fs81_0.offset=0:=by kernel_rfl
@[go_sem] theorem fo81_0:wap Tryd.prog 81 0=some (0,1):=by kernel_rfl
noncomputable def fs81_1:Field:=fs81.getD 1 default
@[go_sem] theorem fs81_at1:fs81[1]? = some fs81_1:=by kernel_rfl
@[go_sem] theorem fs81_1_type:fs81_1.type=22:=by kernel_rfl
@[go_sem] theorem fs81_1_off:fs81_1.offset=1:=by kernel_rfl
@[go_sem] theorem fo81_1:wap Tryd.prog 81 1=some (1,1):=by kernel_rfl
noncomputable def fs81_2:Field:=fs81.getD 2 default
@[go_sem] theorem fs81_at2:fs81[2]? = some fs81_2:=by kernel_rfl
@[go_sem] theorem fs81_2_type:fs81_2.type=78:=by kernel_rfl
@[go_sem] theorem fs81_2_off:fs81_2.offset=2:=by kernel_rfl
@[go_sem] theorem fo81_2:wap Tryd.prog 81 2=some (2,3):=by kernel_rfl
noncomputable def fs81_3:Field:=fs81.getD 3 default
@[go_sem] theorem fs81_at3:fs81[3]? = some fs81_3:=by kernel_rfl
@[go_sem] theorem fs81_3_type:fs81_3.type=79:=by kernel_rfl
@[go_sem] theorem fs81_3_off:fs81_3.offset=5:=by kernel_rfl
@[go_sem] theorem fo81_3:wap Tryd.prog 81 3=some (5,1):=by kernel_rfl
noncomputable def fs81_4:Field:=fs81.getD 4 default
@[go_sem] theorem fs81_at4:fs81[4]? = some fs81_4:=by kernel_rfl
@[go_sem] theorem fs81_4_type:fs81_4.type=26:=by kernel_rfl
@[go_sem] theorem fs81_4_off:fs81_4.offset=6:=by kernel_rfl
@[go_sem] theorem fo81_4:wap Tryd.prog 81 4=some (6,1):=by kernel_rfl
noncomputable def fs81_5:Field:=fs81.getD 5 default
@[go_sem] theorem fs81_at5:fs81[5]? = some fs81_5:=by kernel_rfl
@[go_sem] theorem fs81_5_type:fs81_5.type=32:=by kernel_rfl
@[go_sem] theorem fs81_5_off:fs81_5.offset=7:=by kernel_rfl
@[go_sem] theorem fo81_5:wap Tryd.prog 81 5=some (7,1):=by kernel_rfl
@[go_sem] theorem pl81:wbB Tryd.prog fs81.toList=some [(0,1),(1,1),(2,3),(5,1),(6,1),(7,1)]:=by kernel_rfl
@[go_sem] theorem T81_size:T81.size=8:=by kernel_rfl
@[go_sem] theorem T81_bytes:T81.bytes=176:=by kernel_rfl
@[go_sem] theorem T81_cells:zeroCells T81.zero=some [.d (.int .i64 0),.d .nilslice,.d .nilslice,.d .nilslice,.d .nilslice,.d .nilslice,.d .nilslice,.d .nilslice]:=by kernel_rfl
@[go_sem] theorem T81_zero:wag T81=some (.d (.agg [(.int .i64 0),.nilslice,.nilslice,.nilslice,.nilslice,.nilslice,.nilslice,.nilslice])):=by kernel_rfl
@[go_sem] theorem T81_ok:waf T81=true:=by kernel_rfl
noncomputable def T84:Ty:=(wad Tryd.prog 84).getD ⟨.invalid,0,0,none⟩
@[go_sem] theorem ty84:wad Tryd.prog 84=some T84:=by kernel_rfl
@[go_sem] theorem T84_desc:T84.desc=.func #[22,3,3] #[26] false:=by kernel_rfl
@[go_sem] theorem T84_size:T84.size=1:=by kernel_rfl
@[go_sem] theorem T84_bytes:T84.bytes=8:=by kernel_rfl
@[go_sem] theorem T84_zero:wag T84=some (.d .nilfunc):=by kernel_rfl
@[go_sem] theorem T84_ok:waf T84=true:=by kernel_rfl
noncomputable def T88:Ty:=(wad Tryd.prog 88).getD ⟨.invalid,0,0,none⟩
@[go_sem] theorem ty88:wad Tryd.prog 88=some T88:=by kernel_rfl
@[go_sem] theorem T88_desc:T88.desc=.pointer 92:=by kernel_rfl
@[go_sem] theorem T88_size:T88.size=1:=by kernel_rfl
@[go_sem] theorem T88_bytes:T88.bytes=8:=by kernel_rfl
@[go_sem] theorem T88_zero:wag T88=some (.d .nilptr):=by kernel_rfl
@[go_sem] theorem T88_ok:waf T88=true:=by kernel_rfl
noncomputable def T89:Ty:=(wad Tryd.prog 89).getD ⟨.invalid,0,0,none⟩
@[go_sem] theorem ty89:wad Tryd.prog 89=some T89:=by kernel_rfl
@[go_sem] theorem T89_desc:T89.desc=.map 121 3:=by kernel_rfl
@[go_sem] theorem T89_size:T89.size=1:=by kernel_rfl
@[go_sem] theorem T89_bytes:T89.bytes=8:=by kernel_rfl
@[go_sem] theorem T89_zero:wag T89=some (.d .nilmap):=by kernel_rfl
@[go_sem] theorem T89_ok:waf T89=true:=by kernel_rfl
noncomputable def T90:Ty:=(wad Tryd.prog 90).getD ⟨.invalid,0,0,none⟩
@[go_sem] theorem ty90:wad Tryd.prog 90=some T90:=by kernel_rfl
@[go_sem] theorem T90_desc:T90.desc=.map 9 3:=by kernel_rfl
@[go_sem] theorem T90_size:T90.size=1:=by kernel_rfl
@[go_sem] theorem T90_bytes:T90.bytes=8:=by kernel_rfl
@[go_sem] theorem T90_zero:wag T90=some (.d .nilmap):=by kernel_rfl
@[go_sem] theorem T90_ok:waf T90=true:=by kernel_rfl
noncomputable def T91:Ty:=(wad Tryd.prog 91).getD ⟨.invalid,0,0,none⟩
@[go_sem] theorem ty91:wad Tryd.prog 91=some T91:=by kernel_rfl
noncomputable def fs91:Array Field:=match T91.desc with | .struct fs=>fs | _=>#[]
@[go_sem] theorem T91_desc:T91.desc=.struct fs91:=by kernel_rfl
noncomputable def fs91_0:Field:=fs91.getD 0 default
@[go_sem] theorem fs91_at0:fs91[0]? = some fs91_0:=by kernel_rfl
@[go_sem] theorem fs91_0_type:fs91_0.type=3:=by kernel_rfl
@[go_sem] theorem fs91_0_off:fs91_0.offset=0:=by kernel_rfl
@[go_sem] theorem fo91_0:wap Tryd.prog 91 0=some (0,1):=by kernel_rfl
noncomputable def fs91_1:Field:=fs91.getD 1 default
@[go_sem] theorem fs91_at1:fs91[1]? = some fs91_1:=by kernel_rfl
@[go_sem] theorem fs91_1_type:fs91_1.type=22:=by kernel_rfl
@[go_sem] theorem fs91_1_off:fs91_1.offset=1:=by kernel_rfl
@[go_sem] theorem fo91_1:wap Tryd.prog 91 1=some (1,1):=by kernel_rfl
noncomputable def fs91_2:Field:=fs91.getD 2 default
@[go_sem] theorem fs91_at2:fs91[2]? = some fs91_2:=by kernel_rfl
@[go_sem] theorem fs91_2_type:fs91_2.type=89:=by kernel_rfl
@[go_sem] theorem fs91_2_off:fs91_2.offset=2:=by kernel_rfl
@[go_sem] theorem fo91_2:wap Tryd.prog 91 2=some (2,1):=by kernel_rfl
noncomputable def fs91_3:Field:=fs91.getD 3 default
@[go_sem] theorem fs91_at3:fs91[3]? = some fs91_3:=by kernel_rfl
@[go_sem] theorem fs91_3_type:fs91_3.type=90:=by kernel_rfl
@[go_sem] theorem fs91_3_off:fs91_3.offset=3:=by kernel_rfl
@[go_sem] theorem fo91_3:wap Tryd.prog 91 3=some (3,1):=by kernel_rfl
noncomputable def fs91_4:Field:=fs91.getD 4 default
@[go_sem] theorem fs91_at4:fs91[4]? = some fs91_4:=by kernel_rfl
@[go_sem] theorem fs91_4_type:fs91_4.type=32:=by kernel_rfl
@[go_sem] theorem fs91_4_off:fs91_4.offset=4:=by kernel_rfl
@[go_sem] theorem fo91_4:wap Tryd.prog 91 4=some (4,1):=by kernel_rfl
@[go_sem] theorem pl91:wbB Tryd.prog fs91.toList=some [(0,1),(1,1),(2,1),(3,1),(4,1)]:=by kernel_rfl
@[go_sem] theorem T91_size:T91.size=5:=by kernel_rfl
@[go_sem] theorem T91_bytes:T91.bytes=72:=by kernel_rfl
@[go_sem] theorem T91_cells:zeroCells T91.zero=some [.d (.int .i64 0),.d .nilslice,.d .nilmap,.d .nilmap,.d .nilslice]:=by kernel_rfl
@[go_sem] theorem T91_zero:wag T91=some (.d (.agg [(.int .i64 0),.nilslice,.nilmap,.nilmap,.nilslice])):=by kernel_rfl
@[go_sem] theorem T91_ok:waf T91=true:=by kernel_rfl
noncomputable def T92:Ty:=(wad Tryd.prog 92).getD ⟨.invalid,0,0,none⟩
@[go_sem] theorem ty92:wad Tryd.prog 92=some T92:=by kernel_rfl
noncomputable def fs92:Array Field:=match T92.desc with | .struct fs=>fs | _=>#[]
@[go_sem] theorem T92_desc:T92.desc=.struct fs92:=by kernel_rfl
noncomputable def fs92_0:Field:=fs92.getD 0 default
@[go_sem] theorem fs92_at0:fs92[0]? = some fs92_0:=by kernel_rfl
@[go_sem] theorem fs92_0_type:fs92_0.type=3:=by kernel_rfl
@[go_sem] theorem fs92_0_off:fs92_0.offset=0:=by kernel_rfl
@[go_sem] theorem fo92_0:wap Tryd.prog 92 0=some (0,1):=by kernel_rfl
noncomputable def fs92_1:Field:=fs92.getD 1 default
@[go_sem] theorem fs92_at1:fs92[1]? = some fs92_1:=by kernel_rfl
@[go_sem] theorem fs92_1_type:fs92_1.type=22:=by kernel_rfl
@[go_sem] theorem fs92_1_off:fs92_1.offset=1:=by kernel_rfl
@[go_sem] theorem fo92_1:wap Tryd.prog 92 1=some (1,1):=by kernel_rfl
noncomputable def fs92_2:Field:=fs92.getD 2 default
@[go_sem] theorem fs92_at2:fs92[2]? = some fs92_2:=by kernel_rfl
@[go_sem] theorem fs92_2_type:fs92_2.type=89:=by kernel_rfl
@[go_sem] theorem fs92_2_off:fs92_2.offset=2:=by kernel_rfl
@[go_sem] theorem fo92_2:wap Tryd.prog 92 2=some (2,1):=by kernel_rfl
noncomputable def fs92_3:Field:=fs92.getD 3 default
@[go_sem] theorem fs92_at3:fs92[3]? = some fs92_3:=by kernel_rfl
@[go_sem] theorem fs92_3_type:fs92_3.type=90:=by kernel_rfl
@[go_sem] theorem fs92_3_off:fs92_3.offset=3:=by kernel_rfl
@[go_sem] theorem fo92_3:wap Tryd.prog 92 3=some (3,1):=by kernel_rfl
noncomputable def fs92_4:Field:=fs92.getD 4 default
@[go_sem] theorem fs92_at4:fs92[4]? = some fs92_4:=by kernel_rfl
@[go_sem] theorem fs92_4_type:fs92_4.type=32:=by kernel_rfl
@[go_sem] theorem fs92_4_off:fs92_4.offset=4:=by kernel_rfl
@[go_sem] theorem fo92_4:wap Tryd.prog 92 4=some (4,1):=by kernel_rfl
@[go_sem] theorem pl92:wbB Tryd.prog fs92.toList=some [(0,1),(1,1),(2,1),(3,1),(4,1)]:=by kernel_rfl
@[go_sem] theorem T92_size:T92.size=5:=by kernel_rfl
@[go_sem] theorem T92_bytes:T92.bytes=72:=by kernel_rfl
@[go_sem] theorem T92_cells:zeroCells T92.zero=some [.d (.int .i64 0),.d .nilslice,.d .nilmap,.d .nilmap,.d .nilslice]:=by kernel_rfl
@[go_sem] theorem T92_zero:wag T92=some (.d (.agg [(.int .i64 0),.nilslice,.nilmap,.nilmap,.nilslice])):=by kernel_rfl
@[go_sem] theorem T92_ok:waf T92=true:=by kernel_rfl
noncomputable def T93:Ty:=(wad Tryd.prog 93).getD ⟨.invalid,0,0,none⟩
@[go_sem] theorem ty93:wad Tryd.prog 93=some T93:=by kernel_rfl
@[go_sem] theorem T93_desc:T93.desc=.func #[3,95] #[3] false:=by kernel_rfl
@[go_sem] theorem T93_size:T93.size=1:=by kernel_rfl
@[go_sem] theorem T93_bytes:T93.bytes=8:=by kernel_rfl
@[go_sem] theorem T93_zero:wag T93=some (.d .nilfunc):=by kernel_rfl
@[go_sem] theorem T93_ok:waf T93=true:=by kernel_rfl
noncomputable def T94:Ty:=(wad Tryd.prog 94).getD ⟨.invalid,0,0,none⟩
@[go_sem] theorem ty94:wad Tryd.prog 94=some T94:=by kernel_rfl
@[go_sem] theorem T94_desc:T94.desc=.int .u32:=by kernel_rfl
@[go_sem] theorem T94_size:T94.size=1:=by kernel_rfl
@[go_sem] theorem T94_bytes:T94.bytes=4:=by kernel_rfl
@[go_sem] theorem T94_zero:wag T94=some (.d (.int .u32 0)):=by kernel_rfl
@[go_sem] theorem T94_ok:waf T94=true:=by kernel_rfl
noncomputable def T95:Ty:=(wad Tryd.prog 95).getD ⟨.invalid,0,0,none⟩
@[go_sem] theorem ty95:wad Tryd.prog 95=some T95:=by kernel_rfl
@[go_sem] theorem T95_desc:T95.desc=.int .u32:=by kernel_rfl
@[go_sem] theorem T95_size:T95.size=1:=by kernel_rfl
@[go_sem] theorem T95_bytes:T95.bytes=4:=by kernel_rfl
@[go_sem] theorem T95_zero:wag T95=some (.d (.int .u32 0)):=by kernel_rfl
@[go_sem] theorem T95_ok:waf T95=true:=by kernel_rfl
noncomputable def T97:Ty:=(wad Tryd.prog 97).getD ⟨.invalid,0,0,none⟩
@[go_sem] theorem ty97:wad Tryd.prog 97=some T97:=by kernel_rfl
@[go_sem] theorem T97_desc:T97.desc=.func #[3] #[32] false:=by kernel_rfl
@[go_sem] theorem T97_size:T97.size=1:=by kernel_rfl
@[go_sem] theorem T97_bytes:T97.bytes=8:=by kernel_rfl
@[go_sem] theorem T97_zero:wag T97=some (.d .nilfunc):=by kernel_rfl
@[go_sem] theorem T97_ok:waf T97=true:=by kernel_rfl
noncomputable def T98:Ty:=(wad Tryd.prog 98).getD ⟨.invalid,0,0,none⟩
@[go_sem] theorem ty98:wad Tryd.prog 98=some T98:=by kernel_rfl
@[go_sem] theorem T98_desc:T98.desc=.func #[3,22] #[26] false:=by kernel_rfl
@[go_sem] theorem T98_size:T98.size=1:=by kernel_rfl
@[go_sem] theorem T98_bytes:T98.bytes=8:=by kernel_rfl
@[go_sem] theorem T98_zero:wag T98=some (.d .nilfunc):=by kernel_rfl
@[go_sem] theorem T98_ok:waf T98=true:=by kernel_rfl
noncomputable def T99:Ty:=(wad Tryd.prog 99).getD ⟨.invalid,0,0,none⟩
@[go_sem] theorem ty99:wad Tryd.prog 99=some T99:=by kernel_rfl
@[go_sem] theorem T99_desc:T99.desc=.func #[3,22,22] #[26,4] false:=by kernel_rfl
@[go_sem] theorem T99_size:T99.size=1:=by kernel_rfl
@[go_sem] theorem T99_bytes:T99.bytes=8:=by kernel_rfl
@[go_sem] theorem T99_zero:wag T99=some (.d .nilfunc):=by kernel_rfl
@[go_sem] theorem T99_ok:waf T99=true:=by kernel_rfl
noncomputable def T100:Ty:=(wad Tryd.prog 100).getD ⟨.invalid,0,0,none⟩
@[go_sem] theorem ty100:wad Tryd.prog 100=some T100:=by kernel_rfl
@[go_sem] theorem T100_desc:T100.desc=.pointer 102:=by kernel_rfl
@[go_sem] theorem T100_size:T100.size=1:=by kernel_rfl
@[go_sem] theorem T100_bytes:T100.bytes=8:=by kernel_rfl
@[go_sem] theorem T100_zero:wag T100=some (.d .nilptr):=by kernel_rfl
@[go_sem] theorem T100_ok:waf T100=true:=by kernel_rfl
noncomputable def T101:Ty:=(wad Tryd.prog 101).getD ⟨.invalid,0,0,none⟩
@[go_sem] theorem ty101:wad Tryd.prog 101=some T101:=by kernel_rfl
noncomputable def fs101:Array Field:=match T101.desc with | .struct fs=>fs | _=>#[]
@[go_sem] theorem T101_desc:T101.desc=.struct fs101:=by kernel_rfl
noncomputable def fs101_0:Field:=fs101.getD 0 default
@[go_sem] theorem fs101_at0:fs101[0]? = some fs101_0:=by kernel_rfl
@[go_sem] theorem fs101_0_type:fs101_0.type=3:=by kernel_rfl
@[go_sem] theorem fs101_0_off:fs101_0.offset=0:=by kernel_rfl
@[go_sem] theorem fo101_0:wap Tryd.prog 101 0=some (0,1):=by kernel_rfl
noncomputable def fs101_1:Field:=fs101.getD 1 default
@[go_sem] theorem fs101_at1:fs101[1]? = some fs101_1:=by kernel_rfl
@[go_sem] theorem fs101_1_type:fs101_1.type=22:=by kernel_rfl
@[go_sem] theorem fs101_1_off:fs101_1.offset=1:=by kernel_rfl
@[go_sem] theorem fo101_1:wap Tryd.prog 101 1=some (1,1):=by kernel_rfl
noncomputable def fs101_2:Field:=fs101.getD 2 default
@[go_sem] theorem fs101_at2:fs101[2]? = some fs101_2:=by kernel_rfl
@[go_sem] theorem fs101_2_type:fs101_2.type=22:=by kernel_rfl
@[go_sem] theorem fs101_2_off:fs101_2.offset=2:=by kernel_rfl
@[go_sem] theorem fo101_2:wap Tryd.prog 101 2=some (2,1):=by kernel_rfl
noncomputable def fs101_3:Field:=fs101.getD 3 default
@[go_sem] theorem fs101_at3:fs101[3]? = some fs101_3:=by kernel_rfl
@[go_sem] theorem fs101_3_type:fs101_3.type=78:=by kernel_rfl
@[go_sem] theorem fs101_3_off:fs101_3.offset=3:=by kernel_rfl
@[go_sem] theorem fo101_3:wap Tryd.prog 101 3=some (3,3):=by kernel_rfl
@[go_sem] theorem pl101:wbB Tryd.prog fs101.toList=some [(0,1),(1,1),(2,1),(3,3)]:=by kernel_rfl
@[go_sem] theorem T101_size:T101.size=6:=by kernel_rfl
@[go_sem] theorem T101_bytes:T101.bytes=128:=by kernel_rfl
@[go_sem] theorem T101_cells:zeroCells T101.zero=some [.d (.int .i64 0),.d .nilslice,.d .nilslice,.d .nilslice,.d .nilslice,.d .nilslice]:=by kernel_rfl
@[go_sem] theorem T101_zero:wag T101=some (.d (.agg [(.int .i64 0),.nilslice,.nilslice,.nilslice,.nilslice,.nilslice])):=by kernel_rfl
@[go_sem] theorem T101_ok:waf T101=true:=by kernel_rfl
noncomputable def T102:Ty:=(wad Tryd.prog 102).getD ⟨.invalid,0,0,none⟩
@[go_sem] theorem ty102:wad Tryd.prog 102=some T102:=by kernel_rfl
noncomputable def fs102:Array Field:=match T102.desc with | .struct fs=>fs | _=>#[]
@[go_sem] theorem T102_desc:T102.desc=.struct fs102:=by kernel_rfl
noncomputable def fs102_0:Field:=fs102.getD 0 default
@[go_sem] theorem fs102_at0:fs102[0]? = some fs102_0:=by kernel_rfl
@[go_sem] theorem fs102_0_type:fs102_0.type=3:=by kernel_rfl
@[go_sem] theorem fs102_0_off:fs102_0.offset=0:=by kernel_rfl
@[go_sem] theorem fo102_0:wap Tryd.prog 102 0=some (0,1):=by kernel_rfl
noncomputable def fs102_1:Field:=fs102.getD 1 default
@[go_sem] theorem fs102_at1:fs102[1]? = some fs102_1:=by kernel_rfl
@[go_sem] theorem fs102_1_type:fs102_1.type=22:=by kernel_rfl
@[go_sem] theorem fs102_1_off:fs102_1.offset=1:=by kernel_rfl
@[go_sem] theorem fo102_1:wap Tryd.prog 102 1=some (1,1):=by kernel_rfl
noncomputable def fs102_2:Field:=fs102.getD 2 default
@[go_sem] theorem fs102_at2:fs102[2]? = some fs102_2:=by kernel_rfl
@[go_sem] theorem fs102_2_type:fs102_2.type=22:=by kernel_rfl
@[go_sem] theorem fs102_2_off:fs102_2.offset=2:=by kernel_rfl
@[go_sem] theorem fo102_2:wap Tryd.prog 102 2=some (2,1):=by kernel_rfl
noncomputable def fs102_3:Field:=fs102.getD 3 default
@[go_sem] theorem fs102_at3:fs102[3]? = some fs102_3:=by kernel_rfl
@[go_sem] theorem fs102_3_type:fs102_3.type=78:=by kernel_rfl
@[go_sem] theorem fs102_3_off:fs102_3.offset=3:=by kernel_rfl
@[go_sem] theorem fo102_3:wap Tryd.prog 102 3=some (3,3):=by kernel_rfl
@[go_sem] theorem pl102:wbB Tryd.prog fs102.toList=some [(0,1),(1,1),(2,1),(3,3)]:=by kernel_rfl
@[go_sem] theorem T102_size:T102.size=6:=by kernel_rfl
@[go_sem] theorem T102_bytes:T102.bytes=128:=by kernel_rfl
@[go_sem] theorem T102_cells:zeroCells T102.zero=some [.d (.int .i64 0),.d .nilslice,.d .nilslice,.d .nilslice,.d .nilslice,.d .nilslice]:=by kernel_rfl
@[go_sem] theorem T102_zero:wag T102=some (.d (.agg [(.int .i64 0),.nilslice,.nilslice,.nilslice,.nilslice,.nilslice])):=by kernel_rfl
@[go_sem] theorem T102_ok:waf T102=true:=by kernel_rfl
noncomputable def T103:Ty:=(wad Tryd.prog 103).getD ⟨.invalid,0,0,none⟩
@[go_sem] theorem ty103:wad Tryd.prog 103=some T103:=by kernel_rfl
@[go_sem] theorem T103_desc:T103.desc=.func #[3,3,3] #[26,4] false:=by kernel_rfl
@[go_sem] theorem T103_size:T103.size=1:=by kernel_rfl
@[go_sem] theorem T103_bytes:T103.bytes=8:=by kernel_rfl
@[go_sem] theorem T103_zero:wag T103=some (.d .nilfunc):=by kernel_rfl
@[go_sem] theorem T103_ok:waf T103=true:=by kernel_rfl
noncomputable def T104:Ty:=(wad Tryd.prog 104).getD ⟨.invalid,0,0,none⟩
@[go_sem] theorem ty104:wad Tryd.prog 104=some T104:=by kernel_rfl
@[go_sem] theorem T104_desc:T104.desc=.func #[22,26] #[3] false:=by kernel_rfl
@[go_sem] theorem T104_size:T104.size=1:=by kernel_rfl
@[go_sem] theorem T104_bytes:T104.bytes=8:=by kernel_rfl
@[go_sem] theorem T104_zero:wag T104=some (.d .nilfunc):=by kernel_rfl
@[go_sem] theorem T104_ok:waf T104=true:=by kernel_rfl
noncomputable def T105:Ty:=(wad Tryd.prog 105).getD ⟨.invalid,0,0,none⟩
@[go_sem] theorem ty105:wad Tryd.prog 105=some T105:=by kernel_rfl
@[go_sem] theorem T105_desc:T105.desc=.func #[3] #[4] false:=by kernel_rfl
@[go_sem] theorem T105_size:T105.size=1:=by kernel_rfl
@[go_sem] theorem T105_bytes:T105.bytes=8:=by kernel_rfl
@[go_sem] theorem T105_zero:wag T105=some (.d .nilfunc):=by kernel_rfl
@[go_sem] theorem T105_ok:waf T105=true:=by kernel_rfl
noncomputable def T106:Ty:=(wad Tryd.prog 106).getD ⟨.invalid,0,0,none⟩
@[go_sem] theorem ty106:wad Tryd.prog 106=some T106:=by kernel_rfl
@[go_sem] theorem T106_desc:T106.desc=.func #[32,108] #[4] false:=by kernel_rfl
@[go_sem] theorem T106_size:T106.size=1:=by kernel_rfl
@[go_sem] theorem T106_bytes:T106.bytes=8:=by kernel_rfl
@[go_sem] theorem T106_zero:wag T106=some (.d .nilfunc):=by kernel_rfl
@[go_sem] theorem T106_ok:waf T106=true:=by kernel_rfl
noncomputable def T107:Ty:=(wad Tryd.prog 107).getD ⟨.invalid,0,0,none⟩
@[go_sem] theorem ty107:wad Tryd.prog 107=some T107:=by kernel_rfl
@[go_sem] theorem T107_desc:T107.desc=.func #[3,32,37] #[4] false:=by kernel_rfl
@[go_sem] theorem T107_size:T107.size=1:=by kernel_rfl
@[go_sem] theorem T107_bytes:T107.bytes=8:=by kernel_rfl
@[go_sem] theorem T107_zero:wag T107=some (.d .nilfunc):=by kernel_rfl
@[go_sem] theorem T107_ok:waf T107=true:=by kernel_rfl
noncomputable def T108:Ty:=(wad Tryd.prog 108).getD ⟨.invalid,0,0,none⟩
@[go_sem] theorem ty108:wad Tryd.prog 108=some T108:=by kernel_rfl
@[go_sem] theorem T108_desc:T108.desc=.func #[37] #[4] false:=by kernel_rfl
@[go_sem] theorem T108_size:T108.size=1:=by kernel_rfl
@[go_sem] theorem T108_bytes:T108.bytes=8:=by kernel_rfl
@[go_sem] theorem T108_zero:wag T108=some (.d .nilfunc):=by kernel_rfl
@[go_sem] theorem T108_ok:waf T108=true:=by kernel_rfl
noncomputable def T109:Ty:=(wad Tryd.prog 109).getD ⟨.invalid,0,0,none⟩
@[go_sem] theorem ty109:wad Tryd.prog 109=some T109:=by kernel_rfl
@[go_sem] theorem T109_desc:T109.desc=.func #[26,105] #[3] false:=by kernel_rfl
@[go_sem] theorem T109_size:T109.size=1:=by kernel_rfl
@[go_sem] theorem T109_bytes:T109.bytes=8:=by kernel_rfl
@[go_sem] theorem T109_zero:wag T109=some (.d .nilfunc):=by kernel_rfl
@[go_sem] theorem T109_ok:waf T109=true:=by kernel_rfl
noncomputable def T110:Ty:=(wad Tryd.prog 110).getD ⟨.invalid,0,0,none⟩
@[go_sem] theorem ty110:wad Tryd.prog 110=some T110:=by kernel_rfl
@[go_sem] theorem T110_desc:T110.desc=.func #[3,32] #[4] false:=by kernel_rfl
@[go_sem] theorem T110_size:T110.size=1:=by kernel_rfl
@[go_sem] theorem T110_bytes:T110.bytes=8:=by kernel_rfl
@[go_sem] theorem T110_zero:wag T110=some (.d .nilfunc):=by kernel_rfl
@[go_sem] theorem T110_ok:waf T110=true:=by kernel_rfl
noncomputable def T111:Ty:=(wad Tryd.prog 111).getD ⟨.invalid,0,0,none⟩
@[go_sem] theorem ty111:wad Tryd.prog 111=some T111:=by kernel_rfl
@[go_sem] theorem T111_desc:T111.desc=.func #[54] #[54] false:=by kernel_rfl
@[go_sem] theorem T111_size:T111.size=1:=by kernel_rfl
@[go_sem] theorem T111_bytes:T111.bytes=8:=by kernel_rfl
@[go_sem] theorem T111_zero:wag T111=some (.d .nilfunc):=by kernel_rfl
@[go_sem] theorem T111_ok:waf T111=true:=by kernel_rfl
noncomputable def T112:Ty:=(wad Tryd.prog 112).getD ⟨.invalid,0,0,none⟩
@[go_sem] theorem ty112:wad Tryd.prog 112=some T112:=by kernel_rfl
@[go_sem] theorem T112_desc:T112.desc=.func #[22,3,3] #[22] false:=by kernel_rfl
@[go_sem] theorem T112_size:T112.size=1:=by kernel_rfl
@[go_sem] theorem T112_bytes:T112.bytes=8:=by kernel_rfl
@[go_sem] theorem T112_zero:wag T112=some (.d .nilfunc):=by kernel_rfl
@[go_sem] theorem T112_ok:waf T112=true:=by kernel_rfl
noncomputable def T113:Ty:=(wad Tryd.prog 113).getD ⟨.invalid,0,0,none⟩
@[go_sem] theorem ty113:wad Tryd.prog 113=some T113:=by kernel_rfl
@[go_sem] theorem T113_desc:T113.desc=.slice 22:=by kernel_rfl
@[go_sem] theorem es113:wbS Tryd.prog 113=some 1:=by kernel_rfl
@[go_sem] theorem T113_size:T113.size=1:=by kernel_rfl
@[go_sem] theorem T113_bytes:T113.bytes=24:=by kernel_rfl
@[go_sem] theorem T113_zero:wag T113=some (.d .nilslice):=by kernel_rfl
@[go_sem] theorem T113_ok:waf T113=true:=by kernel_rfl
noncomputable def T114:Ty:=(wad Tryd.prog 114).getD ⟨.invalid,0,0,none⟩
@[go_sem] theorem ty114:wad Tryd.prog 114=some T114:=by kernel_rfl
@[go_sem] theorem T114_desc:T114.desc=.func #[22,116] #[4] false:=by kernel_rfl
@[go_sem] theorem T114_size:T114.size=1:=by kernel_rfl
@[go_sem] theorem T114_bytes:T114.bytes=8:=by kernel_rfl
@[go_sem] theorem T114_zero:wag T114=some (.d .nilfunc):=by kernel_rfl
@[go_sem] theorem T114_ok:waf T114=true:=by kernel_rfl
noncomputable def T115:Ty:=(wad Tryd.prog 115).getD ⟨.invalid,0,0,none⟩
@[go_sem] theorem ty115:wad Tryd.prog 115=some T115:=by kernel_rfl
@[go_sem] theorem T115_desc:T115.desc=.func #[3,56] #[4] false:=by kernel_rfl
@[go_sem] theorem T115_size:T115.size=1:=by kernel_rfl
@[go_sem] theorem T115_bytes:T115.bytes=8:=by kernel_rfl
@[go_sem] theorem T115_zero:wag T115=some (.d .nilfunc):=by kernel_rfl
@[go_sem] theorem T115_ok:waf T115=true:=by kernel_rfl
noncomputable def T116:Ty:=(wad Tryd.prog 116).getD ⟨.invalid,0,0,none⟩
@[go_sem] theorem ty116:wad Tryd.prog 116=some T116:=by kernel_rfl
@[go_sem] theorem T116_desc:T116.desc=.func #[56] #[4] false:=by kernel_rfl
@[go_sem] theorem T116_size:T116.size=1:=by kernel_rfl
@[go_sem] theorem T116_bytes:T116.bytes=8:=by kernel_rfl
@[go_sem] theorem T116_zero:wag T116=some (.d .nilfunc):=by kernel_rfl
@[go_sem] theorem T116_ok:waf T116=true:=by kernel_rfl
noncomputable def T117:Ty:=(wad Tryd.prog 117).getD ⟨.invalid,0,0,none⟩
@[go_sem] theorem ty117:wad Tryd.prog 117=some T117:=by kernel_rfl
@[go_sem] theorem T117_desc:T117.desc=.map 121 4:=by kernel_rfl
@[go_sem] theorem T117_size:T117.size=1:=by kernel_rfl
@[go_sem] theorem T117_bytes:T117.bytes=8:=by kernel_rfl
@[go_sem] theorem T117_zero:wag T117=some (.d .nilmap):=by kernel_rfl
@[go_sem] theorem T117_ok:waf T117=true:=by kernel_rfl
noncomputable def T118:Ty:=(wad Tryd.prog 118).getD ⟨.invalid,0,0,none⟩
@[go_sem] theorem ty118:wad Tryd.prog 118=some T118:=by kernel_rfl
@[go_sem] theorem T118_desc:T118.desc=.func #[3,95,95] #[26,4] false:=by kernel_rfl
@[go_sem] theorem T118_size:T118.size=1:=by kernel_rfl
@[go_sem] theorem T118_bytes:T118.bytes=8:=by kernel_rfl
@[go_sem] theorem T118_zero:wag T118=some (.d .nilfunc):=by kernel_rfl
@[go_sem] theorem T118_ok:waf T118=true:=by kernel_rfl
noncomputable def T119:Ty:=(wad Tryd.prog 119).getD ⟨.invalid,0,0,none⟩
@[go_sem] theorem ty119:wad Tryd.prog 119=some T119:=by kernel_rfl
@[go_sem] theorem T119_desc:T119.desc=.func #[] #[3] false:=by kernel_rfl
@[go_sem] theorem T119_size:T119.size=1:=by kernel_rfl
@[go_sem] theorem T119_bytes:T119.bytes=8:=by kernel_rfl
@[go_sem] theorem T119_zero:wag T119=some (.d .nilfunc):=by kernel_rfl
@[go_sem] theorem T119_ok:waf T119=true:=by kernel_rfl
noncomputable def T120:Ty:=(wad Tryd.prog 120).getD ⟨.invalid,0,0,none⟩
@[go_sem] theorem ty120:wad Tryd.prog 120=some T120:=by kernel_rfl
@[go_sem] theorem egt120:Tryd.prog.eqGuardType Tryd.prog.depth 120=false:=by kernel_rfl
@[go_sem] theorem T120_desc:T120.desc=.array 3 3:=by kernel_rfl
@[go_sem] theorem es120:wbS Tryd.prog 120=none:=by kernel_rfl
@[go_sem] theorem ars120:weA Tryd.prog 120=some (3,1):=by kernel_rfl
@[go_sem] theorem T120_size:T120.size=3:=by kernel_rfl
@[go_sem] theorem T120_bytes:T120.bytes=24:=by kernel_rfl
@[go_sem] theorem T120_cells:zeroCells T120.zero=some [.d (.int .i64 0),.d (.int .i64 0),.d (.int .i64 0)]:=by kernel_rfl
@[go_sem] theorem T120_zero:wag T120=some (.d (.agg [(.int .i64 0),(.int .i64 0),(.int .i64 0)])):=by kernel_rfl
@[go_sem] theorem T120_ok:waf T120=true:=by kernel_rfl
noncomputable def T121:Ty:=(wad Tryd.prog 121).getD ⟨.invalid,0,0,none⟩
@[go_sem] theorem ty121:wad Tryd.prog 121=some T121:=by kernel_rfl
@[go_sem] theorem egt121:Tryd.prog.eqGuardType Tryd.prog.depth 121=false:=by kernel_rfl
@[go_sem] theorem T121_desc:T121.desc=.array 3 3:=by kernel_rfl
@[go_sem] theorem es121:wbS Tryd.prog 121=none:=by kernel_rfl
@[go_sem] theorem ars121:weA Tryd.prog 121=some (3,1):=by kernel_rfl
@[go_sem] theorem T121_size:T121.size=3:=by kernel_rfl
@[go_sem] theorem T121_bytes:T121.bytes=24:=by kernel_rfl
@[go_sem] theorem T121_cells:zeroCells T121.zero=some [.d (.int .i64 0),.d (.int .i64 0),.d (.int .i64 0)]:=by kernel_rfl
@[go_sem] theorem T121_zero:wag T121=some (.d (.agg [(.int .i64 0),(.int .i64 0),(.int .i64 0)])):=by kernel_rfl
@[go_sem] theorem T121_ok:waf T121=true:=by kernel_rfl
noncomputable def T122:Ty:=(wad Tryd.prog 122).getD ⟨.invalid,0,0,none⟩
@[go_sem] theorem ty122:wad Tryd.prog 122=some T122:=by kernel_rfl
@[go_sem] theorem T122_desc:T122.desc=.func #[3,113] #[26] true:=by kernel_rfl
@[go_sem] theorem T122_size:T122.size=1:=by kernel_rfl
@[go_sem] theorem T122_bytes:T122.bytes=8:=by kernel_rfl
@[go_sem] theorem T122_zero:wag T122=some (.d .nilfunc):=by kernel_rfl
@[go_sem] theorem T122_ok:waf T122=true:=by kernel_rfl
noncomputable def T124:Ty:=(wad Tryd.prog 124).getD ⟨.invalid,0,0,none⟩
@[go_sem] theorem ty124:wad Tryd.prog 124=some T124:=by kernel_rfl
@[go_sem] theorem T124_desc:T124.desc=.func #[3] #[3] false:=by kernel_rfl
@[go_sem] theorem T124_size:T124.size=1:=by kernel_rfl
@[go_sem] theorem T124_bytes:T124.bytes=8:=by kernel_rfl
@[go_sem] theorem T124_zero:wag T124=some (.d .nilfunc):=by kernel_rfl
@[go_sem] theorem T124_ok:waf T124=true:=by kernel_rfl
noncomputable def T133:Ty:=(wad Tryd.prog 133).getD ⟨.invalid,0,0,none⟩
@[go_sem] theorem ty133:wad Tryd.prog 133=some T133:=by kernel_rfl
@[go_sem] theorem T133_desc:T133.desc=.map 3 3:=by kernel_rfl
@[go_sem] theorem T133_size:T133.size=1:=by kernel_rfl
@[go_sem] theorem T133_bytes:T133.bytes=8:=by kernel_rfl
@[go_sem] theorem T133_zero:wag T133=some (.d .nilmap):=by kernel_rfl
@[go_sem] theorem T133_ok:waf T133=true:=by kernel_rfl
noncomputable def T134:Ty:=(wad Tryd.prog 134).getD ⟨.invalid,0,0,none⟩
@[go_sem] theorem ty134:wad Tryd.prog 134=some T134:=by kernel_rfl
@[go_sem] theorem T134_desc:T134.desc=.func #[26] #[26] false:=by kernel_rfl
@[go_sem] theorem T134_size:T134.size=1:=by kernel_rfl
@[go_sem] theorem T134_bytes:T134.bytes=8:=by kernel_rfl
@[go_sem] theorem T134_zero:wag T134=some (.d .nilfunc):=by kernel_rfl
@[go_sem] theorem T134_ok:waf T134=true:=by kernel_rfl
noncomputable def T135:Ty:=(wad Tryd.prog 135).getD ⟨.invalid,0,0,none⟩
@[go_sem] theorem ty135:wad Tryd.prog 135=some T135:=by kernel_rfl
@[go_sem] theorem T135_desc:T135.desc=.map 121 26:=by kernel_rfl
@[go_sem] theorem T135_size:T135.size=1:=by kernel_rfl
@[go_sem] theorem T135_bytes:T135.bytes=8:=by kernel_rfl
@[go_sem] theorem T135_zero:wag T135=some (.d .nilmap):=by kernel_rfl
@[go_sem] theorem T135_ok:waf T135=true:=by kernel_rfl
noncomputable def T136:Ty:=(wad Tryd.prog 136).getD ⟨.invalid,0,0,none⟩
@[go_sem] theorem ty136:wad Tryd.prog 136=some T136:=by kernel_rfl
@[go_sem] theorem T136_desc:T136.desc=.func #[3,95] #[26] false:=by kernel_rfl
@[go_sem] theorem T136_size:T136.size=1:=by kernel_rfl
@[go_sem] theorem T136_bytes:T136.bytes=8:=by kernel_rfl
@[go_sem] theorem T136_zero:wag T136=some (.d .nilfunc):=by kernel_rfl
@[go_sem] theorem T136_ok:waf T136=true:=by kernel_rfl
noncomputable def T137:Ty:=(wad Tryd.prog 137).getD ⟨.invalid,0,0,none⟩
@[go_sem] theorem ty137:wad Tryd.prog 137=some T137:=by kernel_rfl
@[go_sem] theorem T137_desc:T137.desc=.func #[22,3] #[3] false:=by kernel_rfl
@[go_sem] theorem T137_size:T137.size=1:=by kernel_rfl
@[go_sem] theorem T137_bytes:T137.bytes=8:=by kernel_rfl
@[go_sem] theorem T137_zero:wag T137=some (.d .nilfunc):=by kernel_rfl
@[go_sem] theorem T137_ok:waf T137=true:=by kernel_rfl
noncomputable def T142:Ty:=(wad Tryd.prog 142).getD ⟨.invalid,0,0,none⟩
@[go_sem] theorem ty142:wad Tryd.prog 142=some T142:=by kernel_rfl
@[go_sem] theorem T142_desc:T142.desc=.func #[61] #[4] false:=by kernel_rfl
@[go_sem] theorem T142_size:T142.size=1:=by kernel_rfl
@[go_sem] theorem T142_bytes:T142.bytes=8:=by kernel_rfl
@[go_sem] theorem T142_zero:wag T142=some (.d .nilfunc):=by kernel_rfl
@[go_sem] theorem T142_ok:waf T142=true:=by kernel_rfl
noncomputable def T145:Ty:=(wad Tryd.prog 145).getD ⟨.invalid,0,0,none⟩
@[go_sem] theorem ty145:wad Tryd.prog 145=some T145:=by kernel_rfl
@[go_sem] theorem T145_desc:T145.desc=.pointer 78:=by kernel_rfl
@[go_sem] theorem T145_size:T145.size=1:=by kernel_rfl
@[go_sem] theorem T145_bytes:T145.bytes=8:=by kernel_rfl
@[go_sem] theorem T145_zero:wag T145=some (.d .nilptr):=by kernel_rfl
@[go_sem] theorem T145_ok:waf T145=true:=by kernel_rfl
noncomputable def T146:Ty:=(wad Tryd.prog 146).getD ⟨.invalid,0,0,none⟩
@[go_sem] theorem ty146:wad Tryd.prog 146=some T146:=by kernel_rfl
@[go_sem] theorem T146_desc:T146.desc=.pointer 148:=by kernel_rfl
@[go_sem] theorem T146_size:T146.size=1:=by kernel_rfl
@[go_sem] theorem T146_bytes:T146.bytes=8:=by kernel_rfl
@[go_sem] theorem T146_zero:wag T146=some (.d .nilptr):=by kernel_rfl
@[go_sem] theorem T146_ok:waf T146=true:=by kernel_rfl
noncomputable def T148:Ty:=(wad Tryd.prog 148).getD ⟨.invalid,0,0,none⟩
@[go_sem] theorem ty148:wad Tryd.prog 148=some T148:=by kernel_rfl
noncomputable def fs148:Array Field:=match T148.desc with | .struct fs=>fs | _=>#[]
@[go_sem] theorem T148_desc:T148.desc=.struct fs148:=by kernel_rfl
noncomputable def fs148_0:Field:=fs148.getD 0 default
@[go_sem] theorem fs148_at0:fs148[0]? = some fs148_0:=by kernel_rfl
@[go_sem] theorem fs148_0_type:fs148_0.type=146:=by kernel_rfl
@[go_sem] theorem fs148_0_off:fs148_0.offset=0:=by kernel_rfl
@[go_sem] theorem fo148_0:wap Tryd.prog 148 0=some (0,1):=by kernel_rfl
noncomputable def fs148_1:Field:=fs148.getD 1 default
@[go_sem] theorem fs148_at1:fs148[1]? = some fs148_1:=by kernel_rfl
@[go_sem] theorem fs148_1_type:fs148_1.type=52:=by kernel_rfl
@[go_sem] theorem fs148_1_off:fs148_1.offset=1:=by kernel_rfl
@[go_sem] theorem fo148_1:wap Tryd.prog 148 1=some (1,1):=by kernel_rfl
@[go_sem] theorem pl148:wbB Tryd.prog fs148.toList=some [(0,1),(1,1)]:=by kernel_rfl
@[go_sem] theorem T148_size:T148.size=2:=by kernel_rfl
@[go_sem] theorem T148_bytes:T148.bytes=32:=by kernel_rfl
@[go_sem] theorem T148_cells:zeroCells T148.zero=some [.d .nilptr,.d .nilslice]:=by kernel_rfl
@[go_sem] theorem T148_zero:wag T148=some (.d (.agg [.nilptr,.nilslice])):=by kernel_rfl
@[go_sem] theorem T148_ok:waf T148=true:=by kernel_rfl
noncomputable def T150:Ty:=(wad Tryd.prog 150).getD ⟨.invalid,0,0,none⟩
@[go_sem] theorem ty150:wad Tryd.prog 150=some T150:=by kernel_rfl
@[go_sem] theorem T150_size:T150.size=1:=by kernel_rfl
@[go_sem] theorem T150_bytes:T150.bytes=16:=by kernel_rfl
@[go_sem] theorem T150_zero:wag T150=some (.d .niliface):=by kernel_rfl
@[go_sem] theorem T150_ok:waf T150=true:=by kernel_rfl
noncomputable def T152:Ty:=(wad Tryd.prog 152).getD ⟨.invalid,0,0,none⟩
@[go_sem] theorem ty152:wad Tryd.prog 152=some T152:=by kernel_rfl
@[go_sem] theorem T152_desc:T152.desc=.func #[9] #[3,150] false:=by kernel_rfl
@[go_sem] theorem T152_size:T152.size=1:=by kernel_rfl
@[go_sem] theorem T152_bytes:T152.bytes=8:=by kernel_rfl
@[go_sem] theorem T152_zero:wag T152=some (.d .nilfunc):=by kernel_rfl
@[go_sem] theorem T152_ok:waf T152=true:=by kernel_rfl
noncomputable def T159:Ty:=(wad Tryd.prog 159).getD ⟨.invalid,0,0,none⟩
@[go_sem] theorem ty159:wad Tryd.prog 159=some T159:=by kernel_rfl
@[go_sem] theorem T159_desc:T159.desc=.int .u64:=by kernel_rfl
@[go_sem] theorem T159_size:T159.size=1:=by kernel_rfl
@[go_sem] theorem T159_bytes:T159.bytes=8:=by kernel_rfl
@[go_sem] theorem T159_zero:wag T159=some (.d (.int .u64 0)):=by kernel_rfl
@[go_sem] theorem T159_ok:waf T159=true:=by kernel_rfl
noncomputable def T160:Ty:=(wad Tryd.prog 160).getD ⟨.invalid,0,0,none⟩
@[go_sem] theorem ty160:wad Tryd.prog 160=some T160:=by kernel_rfl
@[go_sem] theorem T160_desc:T160.desc=.pointer 5:=by kernel_rfl
@[go_sem] theorem T160_size:T160.size=1:=by kernel_rfl
@[go_sem] theorem T160_bytes:T160.bytes=8:=by kernel_rfl
@[go_sem] theorem T160_zero:wag T160=some (.d .nilptr):=by kernel_rfl
@[go_sem] theorem T160_ok:waf T160=true:=by kernel_rfl
noncomputable def T162:Ty:=(wad Tryd.prog 162).getD ⟨.invalid,0,0,none⟩
@[go_sem] theorem ty162:wad Tryd.prog 162=some T162:=by kernel_rfl
@[go_sem] theorem T162_desc:T162.desc=.int .i64:=by kernel_rfl
@[go_sem] theorem T162_size:T162.size=1:=by kernel_rfl
@[go_sem] theorem T162_bytes:T162.bytes=8:=by kernel_rfl
@[go_sem] theorem T162_zero:wag T162=some (.d (.int .i64 0)):=by kernel_rfl
@[go_sem] theorem T162_ok:waf T162=true:=by kernel_rfl
noncomputable def T167:Ty:=(wad Tryd.prog 167).getD ⟨.invalid,0,0,none⟩
@[go_sem] theorem ty167:wad Tryd.prog 167=some T167:=by kernel_rfl
@[go_sem] theorem T167_desc:T167.desc=.func #[26,3,3,3] #[3,4] false:=by kernel_rfl
@[go_sem] theorem T167_size:T167.size=1:=by kernel_rfl
@[go_sem] theorem T167_bytes:T167.bytes=8:=by kernel_rfl
@[go_sem] theorem T167_zero:wag T167=some (.d .nilfunc):=by kernel_rfl
@[go_sem] theorem T167_ok:waf T167=true:=by kernel_rfl
noncomputable def T168:Ty:=(wad Tryd.prog 168).getD ⟨.invalid,0,0,none⟩
@[go_sem] theorem ty168:wad Tryd.prog 168=some T168:=by kernel_rfl
@[go_sem] theorem T168_desc:T168.desc=.func #[94] #[3] false:=by kernel_rfl
@[go_sem] theorem T168_size:T168.size=1:=by kernel_rfl
@[go_sem] theorem T168_bytes:T168.bytes=8:=by kernel_rfl
@[go_sem] theorem T168_zero:wag T168=some (.d .nilfunc):=by kernel_rfl
@[go_sem] theorem T168_ok:waf T168=true:=by kernel_rfl
noncomputable def T170:Ty:=(wad Tryd.prog 170).getD ⟨.invalid,0,0,none⟩
@[go_sem] theorem ty170:wad Tryd.prog 170=some T170:=by kernel_rfl
@[go_sem] theorem T170_desc:T170.desc=.int .u64:=by kernel_rfl
@[go_sem] theorem T170_size:T170.size=1:=by kernel_rfl
@[go_sem] theorem T170_bytes:T170.bytes=8:=by kernel_rfl
@[go_sem] theorem T170_zero:wag T170=some (.d (.int .u64 0)):=by kernel_rfl
@[go_sem] theorem T170_ok:waf T170=true:=by kernel_rfl
noncomputable def T174:Ty:=(wad Tryd.prog 174).getD ⟨.invalid,0,0,none⟩
@[go_sem] theorem ty174:wad Tryd.prog 174=some T174:=by kernel_rfl
@[go_sem] theorem T174_desc:T174.desc=.int .u64:=by kernel_rfl
@[go_sem] theorem T174_size:T174.size=1:=by kernel_rfl
@[go_sem] theorem T174_bytes:T174.bytes=8:=by kernel_rfl
@[go_sem] theorem T174_zero:wag T174=some (.d (.int .u64 0)):=by kernel_rfl
@[go_sem] theorem T174_ok:waf T174=true:=by kernel_rfl
noncomputable def T178:Ty:=(wad Tryd.prog 178).getD ⟨.invalid,0,0,none⟩
@[go_sem] theorem ty178:wad Tryd.prog 178=some T178:=by kernel_rfl
@[go_sem] theorem T178_desc:T178.desc=.pointer 3:=by kernel_rfl
@[go_sem] theorem T178_size:T178.size=1:=by kernel_rfl
@[go_sem] theorem T178_bytes:T178.bytes=8:=by kernel_rfl
@[go_sem] theorem T178_zero:wag T178=some (.d .nilptr):=by kernel_rfl
@[go_sem] theorem T178_ok:waf T178=true:=by kernel_rfl
noncomputable def T180:Ty:=(wad Tryd.prog 180).getD ⟨.invalid,0,0,none⟩
@[go_sem] theorem ty180:wad Tryd.prog 180=some T180:=by kernel_rfl
@[go_sem] theorem T180_desc:T180.desc=.array 24 5:=by kernel_rfl
@[go_sem] theorem es180:wbS Tryd.prog 180=none:=by kernel_rfl
@[go_sem] theorem ars180:weA Tryd.prog 180=some (24,1):=by kernel_rfl
@[go_sem] theorem T180_size:T180.size=24:=by kernel_rfl
@[go_sem] theorem T180_bytes:T180.bytes=24:=by kernel_rfl
@[go_sem] theorem T180_cells:zeroCells T180.zero=some [.d (.int .u8 0),.d (.int .u8 0),.d (.int .u8 0),.d (.int .u8 0),.d (.int .u8 0),.d (.int .u8 0),.d (.int .u8 0),.d (.int .u8 0),.d (.int .u8 0),.d (.int .u8 0),.d (.int .u8 0),.d (.int .u8 0),.d (.int .u8 0),.d (.int .u8 0),.d (.int .u8 0),.d (.int .u8 0),.d (.int .u8 0),.d (.int .u8 0),.d (.int .u8 0),.d (.int .u8 0),.d (.int .u8 0),.d (.int .u8 0),.d (.int .u8 0),.d (.int .u8 0)]:=by kernel_rfl
@[go_sem] theorem T180_zero:wag T180=some (.d (.agg [(.int .u8 0),(.int .u8 0),(.int .u8 0),(.int .u8 0),(.int .u8 0),(.int .u8 0),(.int .u8 0),(.int .u8 0),(.int .u8 0),(.int .u8 0),(.int .u8 0),(.int .u8 0),(.int .u8 0),(.int .u8 0),(.int .u8 0),(.int .u8 0),(.int .u8 0),(.int .u8 0),(.int .u8 0),(.int .u8 0),(.int .u8 0),(.int .u8 0),(.int .u8 0),(.int .u8 0)])):=by kernel_rfl
@[go_sem] theorem T180_ok:waf T180=true:=by kernel_rfl
noncomputable def T184:Ty:=(wad Tryd.prog 184).getD ⟨.invalid,0,0,none⟩
@[go_sem] theorem ty184:wad Tryd.prog 184=some T184:=by kernel_rfl
@[go_sem] theorem T184_desc:T184.desc=.pointer 174:=by kernel_rfl
@[go_sem] theorem T184_size:T184.size=1:=by kernel_rfl
@[go_sem] theorem T184_bytes:T184.bytes=8:=by kernel_rfl
@[go_sem] theorem T184_zero:wag T184=some (.d .nilptr):=by kernel_rfl
@[go_sem] theorem T184_ok:waf T184=true:=by kernel_rfl
noncomputable def T188:Ty:=(wad Tryd.prog 188).getD ⟨.invalid,0,0,none⟩
@[go_sem] theorem ty188:wad Tryd.prog 188=some T188:=by kernel_rfl
@[go_sem] theorem T188_desc:T188.desc=.array 20 170:=by kernel_rfl
@[go_sem] theorem es188:wbS Tryd.prog 188=none:=by kernel_rfl
@[go_sem] theorem ars188:weA Tryd.prog 188=some (20,1):=by kernel_rfl
@[go_sem] theorem T188_size:T188.size=20:=by kernel_rfl
@[go_sem] theorem T188_bytes:T188.bytes=160:=by kernel_rfl
@[go_sem] theorem T188_cells:zeroCells T188.zero=some [.d (.int .u64 0),.d (.int .u64 0),.d (.int .u64 0),.d (.int .u64 0),.d (.int .u64 0),.d (.int .u64 0),.d (.int .u64 0),.d (.int .u64 0),.d (.int .u64 0),.d (.int .u64 0),.d (.int .u64 0),.d (.int .u64 0),.d (.int .u64 0),.d (.int .u64 0),.d (.int .u64 0),.d (.int .u64 0),.d (.int .u64 0),.d (.int .u64 0),.d (.int .u64 0),.d (.int .u64 0)]:=by kernel_rfl
@[go_sem] theorem T188_zero:wag T188=some (.d (.agg [(.int .u64 0),(.int .u64 0),(.int .u64 0),(.int .u64 0),(.int .u64 0),(.int .u64 0),(.int .u64 0),(.int .u64 0),(.int .u64 0),(.int .u64 0),(.int .u64 0),(.int .u64 0),(.int .u64 0),(.int .u64 0),(.int .u64 0),(.int .u64 0),(.int .u64 0),(.int .u64 0),(.int .u64 0),(.int .u64 0)])):=by kernel_rfl
@[go_sem] theorem T188_ok:waf T188=true:=by kernel_rfl
noncomputable def T189:Ty:=(wad Tryd.prog 189).getD ⟨.invalid,0,0,none⟩
@[go_sem] theorem ty189:wad Tryd.prog 189=some T189:=by kernel_rfl
@[go_sem] theorem T189_desc:T189.desc=.array 65 5:=by kernel_rfl
@[go_sem] theorem es189:wbS Tryd.prog 189=none:=by kernel_rfl
@[go_sem] theorem ars189:weA Tryd.prog 189=some (65,1):=by kernel_rfl
@[go_sem] theorem T189_size:T189.size=65:=by kernel_rfl
@[go_sem] theorem T189_bytes:T189.bytes=65:=by kernel_rfl
@[go_sem] theorem T189_cells:zeroCells T189.zero=some [.d (.int .u8 0),.d (.int .u8 0),.d (.int .u8 0),.d (.int .u8 0),.d (.int .u8 0),.d (.int .u8 0),.d (.int .u8 0),.d (.int .u8 0),.d (.int .u8 0),.d (.int .u8 0),.d (.int .u8 0),.d (.int .u8 0),.d (.int .u8 0),.d (.int .u8 0),.d (.int .u8 0),.d (.int .u8 0),.d (.int .u8 0),.d (.int .u8 0),.d (.int .u8 0),.d (.int .u8 0),.d (.int .u8 0),.d (.int .u8 0),.d (.int .u8 0),.d (.int .u8 0),.d (.int .u8 0),.d (.int .u8 0),.d (.int .u8 0),.d (.int .u8 0),.d (.int .u8 0),.d (.int .u8 0),.d (.int .u8 0),.d (.int .u8 0),.d (.int .u8 0),.d (.int .u8 0),.d (.int .u8 0),.d (.int .u8 0),.d (.int .u8 0),.d (.int .u8 0),.d (.int .u8 0),.d (.int .u8 0),.d (.int .u8 0),.d (.int .u8 0),.d (.int .u8 0),.d (.int .u8 0),.d (.int .u8 0),.d (.int .u8 0),.d (.int .u8 0),.d (.int .u8 0),.d (.int .u8 0),.d (.int .u8 0),.d (.int .u8 0),.d (.int .u8 0),.d (.int .u8 0),.d (.int .u8 0),.d (.int .u8 0),.d (.int .u8 0),.d (.int .u8 0),.d (.int .u8 0),.d (.int .u8 0),.d (.int .u8 0),.d (.int .u8 0),.d (.int .u8 0),.d (.int .u8 0),.d (.int .u8 0),.d (.int .u8 0)]:=by kernel_rfl
@[go_sem] theorem T189_zero:wag T189=some (.d (.agg [(.int .u8 0),(.int .u8 0),(.int .u8 0),(.int .u8 0),(.int .u8 0),(.int .u8 0),(.int .u8 0),(.int .u8 0),(.int .u8 0),(.int .u8 0),(.int .u8 0),(.int .u8 0),(.int .u8 0),(.int .u8 0),(.int .u8 0),(.int .u8 0),(.int .u8 0),(.int .u8 0),(.int .u8 0),(.int .u8 0),(.int .u8 0),(.int .u8 0),(.int .u8 0),(.int .u8 0),(.int .u8 0),(.int .u8 0),(.int .u8 0),(.int .u8 0),(.int .u8 0),(.int .u8 0),(.int .u8 0),(.int .u8 0),(.int .u8 0),(.int .u8 0),(.int .u8 0),(.int .u8 0),(.int .u8 0),(.int .u8 0),(.int .u8 0),(.int .u8 0),(.int .u8 0),(.int .u8 0),(.int .u8 0),(.int .u8 0),(.int .u8 0),(.int .u8 0),(.int .u8 0),(.int .u8 0),(.int .u8 0),(.int .u8 0),(.int .u8 0),(.int .u8 0),(.int .u8 0),(.int .u8 0),(.int .u8 0),(.int .u8 0),(.int .u8 0),(.int .u8 0),(.int .u8 0),(.int .u8 0),(.int .u8 0),(.int .u8 0),(.int .u8 0),(.int .u8 0),(.int .u8 0)])):=by kernel_rfl
@[go_sem] theorem T189_ok:waf T189=true:=by kernel_rfl
noncomputable def T190:Ty:=(wad Tryd.prog 190).getD ⟨.invalid,0,0,none⟩
@[go_sem] theorem ty190:wad Tryd.prog 190=some T190:=by kernel_rfl
@[go_sem] theorem T190_desc:T190.desc=.array 32 5:=by kernel_rfl
@[go_sem] theorem es190:wbS Tryd.prog 190=none:=by kernel_rfl
@[go_sem] theorem ars190:weA Tryd.prog 190=some (32,1):=by kernel_rfl
@[go_sem] theorem T190_size:T190.size=32:=by kernel_rfl
@[go_sem] theorem T190_bytes:T190.bytes=32:=by kernel_rfl
@[go_sem] theorem T190_cells:zeroCells T190.zero=some [.d (.int .u8 0),.d (.int .u8 0),.d (.int .u8 0),.d (.int .u8 0),.d (.int .u8 0),.d (.int .u8 0),.d (.int .u8 0),.d (.int .u8 0),.d (.int .u8 0),.d (.int .u8 0),.d (.int .u8 0),.d (.int .u8 0),.d (.int .u8 0),.d (.int .u8 0),.d (.int .u8 0),.d (.int .u8 0),.d (.int .u8 0),.d (.int .u8 0),.d (.int .u8 0),.d (.int .u8 0),.d (.int .u8 0),.d (.int .u8 0),.d (.int .u8 0),.d (.int .u8 0),.d (.int .u8 0),.d (.int .u8 0),.d (.int .u8 0),.d (.int .u8 0),.d (.int .u8 0),.d (.int .u8 0),.d (.int .u8 0),.d (.int .u8 0)]:=by kernel_rfl
@[go_sem] theorem T190_zero:wag T190=some (.d (.agg [(.int .u8 0),(.int .u8 0),(.int .u8 0),(.int .u8 0),(.int .u8 0),(.int .u8 0),(.int .u8 0),(.int .u8 0),(.int .u8 0),(.int .u8 0),(.int .u8 0),(.int .u8 0),(.int .u8 0),(.int .u8 0),(.int .u8 0),(.int .u8 0),(.int .u8 0),(.int .u8 0),(.int .u8 0),(.int .u8 0),(.int .u8 0),(.int .u8 0),(.int .u8 0),(.int .u8 0),(.int .u8 0),(.int .u8 0),(.int .u8 0),(.int .u8 0),(.int .u8 0),(.int .u8 0),(.int .u8 0),(.int .u8 0)])):=by kernel_rfl
@[go_sem] theorem T190_ok:waf T190=true:=by kernel_rfl
noncomputable def T191:Ty:=(wad Tryd.prog 191).getD ⟨.invalid,0,0,none⟩
@[go_sem] theorem ty191:wad Tryd.prog 191=some T191:=by kernel_rfl
@[go_sem] theorem T191_desc:T191.desc=.array 64 5:=by kernel_rfl
@[go_sem] theorem es191:wbS Tryd.prog 191=none:=by kernel_rfl
@[go_sem] theorem ars191:weA Tryd.prog 191=some (64,1):=by kernel_rfl
@[go_sem] theorem T191_size:T191.size=64:=by kernel_rfl
@[go_sem] theorem T191_bytes:T191.bytes=64:=by kernel_rfl
@[go_sem] theorem T191_cells:zeroCells T191.zero=some [.d (.int .u8 0),.d (.int .u8 0),.d (.int .u8 0),.d (.int .u8 0),.d (.int .u8 0),.d (.int .u8 0),.d (.int .u8 0),.d (.int .u8 0),.d (.int .u8 0),.d (.int .u8 0),.d (.int .u8 0),.d (.int .u8 0),.d (.int .u8 0),.d (.int .u8 0),.d (.int .u8 0),.d (.int .u8 0),.d (.int .u8 0),.d (.int .u8 0),.d (.int .u8 0),.d (.int .u8 0),.d (.int .u8 0),.d (.int .u8 0),.d (.int .u8 0),.d (.int .u8 0),.d (.int .u8 0),.d (.int .u8 0),.d (.int .u8 0),.d (.int .u8 0),.d (.int .u8 0),.d (.int .u8 0),.d (.int .u8 0),.d (.int .u8 0),.d (.int .u8 0),.d (.int .u8 0),.d (.int .u8 0),.d (.int .u8 0),.d (.int .u8 0),.d (.int .u8 0),.d (.int .u8 0),.d (.int .u8 0),.d (.int .u8 0),.d (.int .u8 0),.d (.int .u8 0),.d (.int .u8 0),.d (.int .u8 0),.d (.int .u8 0),.d (.int .u8 0),.d (.int .u8 0),.d (.int .u8 0),.d (.int .u8 0),.d (.int .u8 0),.d (.int .u8 0),.d (.int .u8 0),.d (.int .u8 0),.d (.int .u8 0),.d (.int .u8 0),.d (.int .u8 0),.d (.int .u8 0),.d (.int .u8 0),.d (.int .u8 0),.d (.int .u8 0),.d (.int .u8 0),.d (.int .u8 0),.d (.int .u8 0)]:=by kernel_rfl
@[go_sem] theorem T191_zero:wag T191=some (.d (.agg [(.int .u8 0),(.int .u8 0),(.int .u8 0),(.int .u8 0),(.int .u8 0),(.int .u8 0),(.int .u8 0),(.int .u8 0),(.int .u8 0),(.int .u8 0),(.int .u8 0),(.int .u8 0),(.int .u8 0),(.int .u8 0),(.int .u8 0),(.int .u8 0),(.int .u8 0),(.int .u8 0),(.int .u8 0),(.int .u8 0),(.int .u8 0),(.int .u8 0),(.int .u8 0),(.int .u8 0),(.int .u8 0),(.int .u8 0),(.int .u8 0),(.int .u8 0),(.int .u8 0),(.int .u8 0),(.int .u8 0),(.int .u8 0),(.int .u8 0),(.int .u8 0),(.int .u8 0),(.int .u8 0),(.int .u8 0),(.int .u8 0),(.int .u8 0),(.int .u8 0),(.int .u8 0),(.int .u8 0),(.int .u8 0),(.int .u8 0),(.int .u8 0),(.int .u8 0),(.int .u8 0),(.int .u8 0),(.int .u8 0),(.int .u8 0),(.int .u8 0),(.int .u8 0),(.int .u8 0),(.int .u8 0),(.int .u8 0),(.int .u8 0),(.int .u8 0),(.int .u8 0),(.int .u8 0),(.int .u8 0),(.int .u8 0),(.int .u8 0),(.int .u8 0),(.int .u8 0)])):=by kernel_rfl
@[go_sem] theorem T191_ok:waf T191=true:=by kernel_rfl
@[go_sem] theorem es194:wbS Tryd.prog 194=none:=by kernel_rfl
@[go_sem] theorem ars194:weA Tryd.prog 194=some (0,1):=by kernel_rfl
@[go_sem] theorem rg0:List.range 0=[]:=by decide
@[go_sem] theorem rg3:List.range 3=[0,1,2]:=by decide
@[go_sem] theorem se22:wbO Tryd.prog 22=some (56,T56):=by kernel_rfl
@[go_sem] theorem se26:wbO Tryd.prog 26=some (3,T3):=by kernel_rfl
@[go_sem] theorem se32:wbO Tryd.prog 32=some (37,T37):=by kernel_rfl
@[go_sem] theorem se52:wbO Tryd.prog 52=some (5,T5):=by kernel_rfl
@[go_sem] theorem se54:wbO Tryd.prog 54=some (61,T61):=by kernel_rfl
@[go_sem] theorem se76:wbO Tryd.prog 76=some (120,T120):=by kernel_rfl
@[go_sem] theorem se79:wbO Tryd.prog 79=some (26,T26):=by kernel_rfl
@[go_sem] theorem se113:wbO Tryd.prog 113=some (22,T22):=by kernel_rfl
end Go.Pv.Tryd

namespace Go.Pv.Tryd
open Go.Proofs Go.Pv
theorem mo:Tryd.prog.follows .mixedOrders=true:=by kernel_rfl
def wpt:Nat:=0
def G:List (Nat×PD):=[(wpt,.agg (Lib.pow10Tab.map (PD.int .u64)))]
attribute [go_sem] reduceCtorEq Nat.reduceAdd Nat.reduceMul Nat.reduceLT Nat.reduceLeDiff Nat.reduceEqDiff Nat.reduceBEq Int.reduceToNat
attribute [go_sem] Tryd.results2 Tryd.results3 Tryd.results4 Tryd.results5 Tryd.results6 Tryd.results7 Tryd.results8 Tryd.results9 Tryd.results10 Tryd.results11 Tryd.results12 Tryd.results13 Tryd.results14 Tryd.results15 Tryd.results16 Tryd.results17 Tryd.results18 Tryd.results19 Tryd.results20 Tryd.results21 Tryd.results22 Tryd.results23 Tryd.results24 Tryd.results25 Tryd.results26 Tryd.results27 Tryd.results28 Tryd.results29 Tryd.results30 Tryd.results31 Tryd.results32 Tryd.results33 Tryd.results34 Tryd.results35 Tryd.results36 Tryd.results37 Tryd.results38 Tryd.results39 Tryd.results40 Tryd.results41 Tryd.results42 Tryd.results43 Tryd.results44 Tryd.results45 Tryd.results46 Tryd.results47 Tryd.results48 Tryd.results49 Tryd.results50 Tryd.results51 Tryd.results52 Tryd.results53 Tryd.results54 Tryd.results55 Tryd.results56 Tryd.results57 Tryd.results58 Tryd.results59 Tryd.results60 Tryd.results61 Tryd.results62 Tryd.results63 Tryd.results64 Tryd.results65 Tryd.results66 Tryd.results67 Tryd.results68 Tryd.results69 Tryd.results70 Tryd.results71 Tryd.results72 Tryd.results73 Tryd.results74 Tryd.results75 Tryd.results76 Tryd.results77 Tryd.results78 Tryd.results79 Tryd.results80 Tryd.results81 Tryd.results82 Tryd.results83 Tryd.results84 Tryd.results85 Tryd.results86 Tryd.results87 Tryd.results88 Tryd.results89 Tryd.results90 Tryd.results91 Tryd.results92 Tryd.results93 Tryd.results94 Tryd.results95 Tryd.results96 Tryd.results97 Tryd.results98 Tryd.results99 Tryd.results100 Tryd.results101 Tryd.results102 Tryd.results103 Tryd.results104 Tryd.results105 Tryd.results106 Tryd.results107 Tryd.results108 Tryd.results109 Tryd.results110 Tryd.results111 Tryd.results112 Tryd.results113 Tryd.results114 Tryd.results115 Tryd.results116 Tryd.results117 Tryd.results118 Tryd.results119 Tryd.results120 Tryd.results121 Tryd.results122 Tryd.results123 Tryd.results124 Tryd.results125 Tryd.results126 Tryd.results127 Tryd.results128 Tryd.results130 Tryd.results131 Tryd.results132 Tryd.results133 Tryd.results134 Tryd.results135 Tryd.results136 Tryd.results137 Tryd.results138 Tryd.results139 Tryd.results140 Tryd.results141 Tryd.results142 Tryd.results143 Tryd.results144 Tryd.results145 Tryd.results146 Tryd.results147 Tryd.results170
theorem wtd:Tryd.prog.underlying 135=some (.map 121 26):=by kernel_rfl
theorem wlL:KeyEnc Tryd.prog 121 Arr3_Int.pd (fun a:Arr3_Int=>Value.agg (([a.c0,a.c1,a.c2].map (Value.int .i64)).toArray)):=by
 obtain⟨i,hi,hs⟩:∃ i,Tryd.prog.info? 3=some i/\i.size=1:=by
  have h:(Tryd.prog.info? 3).map (·.size)=some 1:=by kernel_rfl
  simpa [Option.map_eq_some_iff]using h
 exact KeyEnc.ints (n:=3) (by kernel_rfl) hi hs (by kernel_rfl) (fun a:Arr3_Int=>[a.c0,a.c1,a.c2]) (fun _=>rfl) (by rintro⟨⟩ ⟨⟩ h; simp at h; simp[h])
theorem wuc:T26.zero=some (.slice none 0 0):=by kernel_rfl
theorem wte:Tryd.prog.underlying 117=some (.map 121 4):=by kernel_rfl
theorem MZ4:T4.zero=some (.bool false):=by kernel_rfl
theorem wtN:Tryd.prog.underlying 89=some (.map 121 3):=by kernel_rfl
theorem MZ3:T3.zero=some (.int .i64 0):=by kernel_rfl
theorem wtO:Tryd.prog.underlying 90=some (.map 9 3):=by kernel_rfl
theorem KE9:KeyEnc Tryd.prog 9 PD.str Value.string:=KeyEnc.str (by kernel_rfl)
theorem wtf:Tryd.prog.underlying 133=some (.map 3 3):=by kernel_rfl
theorem KE3:KeyEnc Tryd.prog 3 (PD.int .i64) (Value.int .i64):=KeyEnc.int (by kernel_rfl)
end Go.Pv.Tryd

namespace Go.Pv
theorem wbE {α:Type} (l:List α) {i:Nat} (h:l.length<=i):l.drop i=[]:=List.drop_eq_nil_of_le h
theorem wce {S X:Type} (f:S->Option (S ⊕ X)) (s:S):iter f s=(f s).bind fun o=>match o with
  | .inl s'=>iter f s'
  | .inr x=>some x:=by
 cases h:f s with
 | none =>
  simp only[Option.bind_none]
  cases hi:iter f s with
  | none=>rfl
  | some x =>
   obtain⟨n,hn⟩:=wiB hi
   cases n with
   | zero=>cases hn
   | succ n=>rw[weT,h]at hn; cases hn
 | some o =>
  simp only[Option.bind_some]
  cases o with
  | inr x=>exact waC h
  | inl s' =>
   show iter f s=iter f s'
   cases hi:iter f s' with
   | some x=>exact waF h hi
   | none =>
    cases hi2:iter f s with
    | none=>rfl
    | some x =>
     obtain⟨n,hn⟩:=wiB hi2
     cases n with
     | zero=>cases hn
     | succ n =>
      rw[weT,h]at hn
      have:=wlD (f:=f) (s:=s') (n:=n) hn
      rw[hi]at this; cases this
theorem wlb {α:Type} {s:List α} {p:α->Option Bool} {q:α->Bool} {f:Int->Option (Int ⊕ (Unit ⊕ Int))} (hs:s.length<=9223372036854775807)
  (hf:∀ v,f v=cond (decide (v < (s.length:Int))) ((idx s v).bind fun e=>(p e).bind fun r=>cond r (some (.inr (.inr v))) (some (.inl (IntKind.i64.wrap (v+1))))) (some (.inr (.inl ()))))
  (hq:∀ x∈s,p x=some (q x)):∀ (k i:Nat),k=s.length - i->iter f (i:Int)=some (match (s.drop i).findIdx? q with | some j=>.inr ((i+j:Nat):Int) | none=>.inl ())
 | 0,i,hk=>by
  have h1:decide ((i:Int) < (s.length:Int))=false:=by simp; omega
  rw[wce,hf,h1,List.drop_eq_nil_of_le (by omega)]; rfl
 | k+1,i,hk=>by
  have hi:i < s.length:=by omega
  have h1:decide ((i:Int) < (s.length:Int))=true:=by simp; omega
  have h2:idx s (i:Int)=some s[i]:=by
   unfold idx
   simp[hi]
  rw[wce,hf,h1,h2,List.drop_eq_getElem_cons hi,List.findIdx?_cons]
  simp only[cond_true,Option.bind_some,hq _ (List.getElem_mem hi)]
  cases hb:q s[i]with
  | true=>simp
  | false =>
   simp only[cond_false,Option.bind_some]
   rw[wak (by omega)]
   have:=wlb hs hf hq k (i+1) (by omega)
   rw[show ((i:Int)+1)=((i+1:Nat):Int) by omega,this]
   cases (s.drop (i+1)).findIdx? q with
   | none=>rfl
   | some j=>simp; omega
end Go.Pv

namespace Go.Pv
theorem wma {α:Type} (l:List α) (q:α->Bool):decide (0<=(match l.findIdx? q with | some j=>(j:Int) | none=>-1))=l.any q:=by
 cases h:l.findIdx? q with
 | none =>
  rw[List.findIdx?_eq_none_iff]at h
  have:l.any q=false:=by rw[List.any_eq_false]; intro x hx; simp[h x hx]
  rw[this]; rfl
 | some j =>
  have h2:l.any q=true:=by
   cases ha:l.any q with
   | true=>rfl
   | false =>
    rw[List.any_eq_false]at ha
    have:l.findIdx? q=none:=List.findIdx?_eq_none_iff.2 fun x hx=>by simpa using ha x hx
    rw[h]at this; cases this
  rw[h2]; simp
def we8 (b:Band):Bool:=((decide (b.Lo < 0))||(decide (b.Hi<=b.Lo)))||(decide (1000 < b.Hi))
def wb9 (k:Int) (r:Rule):Bool:=(((decide ((r.Bands.length:Int)=k))&&(decide (0<=r.Code)))&&(decide (r.Code<=99)))&&!(r.Bands.any we8)
theorem wrS (s:List Band) (hs:s.length<=9223372036854775807):wbj s=some (match s.findIdx? we8 with | some j=>(j:Int) | none=>-1):=by
 unfold wbj
 have h:=wlb (s:=s) (p:=wdJ) (q:=we8) (f:=wbQ s) hs (fun v=>rfl) (fun x _=>rfl) (s.length) 0 (by omega)
 rw[show ((0:Nat):Int)=0 from rfl]at h
 rw[h,List.drop_zero]
 cases s.findIdx? we8 <;> simp
theorem wtq (s:List Band) (hs:s.length<=9223372036854775807):waY s=some (s.any we8):=by
 unfold waY
 rw[wrS s hs,Option.bind_some,wma]
theorem wtr {k:Int} (hk:k<=4) (r:Rule):wdO k r=some (wb9 k r):=by
 unfold wdO wb9
 cases hc:(((decide ((r.Bands.length:Int)=k))&&(decide (0<=r.Code)))&&(decide (r.Code<=99)))with
 | false=>rfl
 | true =>
  have hl:(r.Bands.length:Int)=k:=by simp at hc; exact hc.1.1
  simp only[cond_true,Bool.true_and]
  rw[wtq _ (by omega)]; rfl
theorem woT {k:Int} (hk:k<=4) (s:List Rule) (hs:s.length<=9223372036854775807):wbt s k=some (match s.findIdx? (fun r=>!wb9 k r)with | some j=>(j:Int) | none=>-1):=by
 unfold wbt
 have h:=wlb (s:=s) (p:=fun e=>wb7 e k) (q:=fun r=>!wb9 k r) (f:=wbY s k) hs (fun v=>rfl) (fun x _=>by unfold wb7; rw[wtr hk]; rfl) (s.length) 0 (by omega)
 rw[show ((0:Nat):Int)=0 from rfl]at h
 rw[h,List.drop_zero]
 cases s.findIdx? (fun r=>!wb9 k r) <;> simp
theorem wqn {k:Int} (hk:k<=4) (s:List Rule) (hs:s.length<=9223372036854775807):waT s k=some (s.any fun r=>!wb9 k r):=by
 unfold waT
 rw[woT hk s hs,Option.bind_some,wma]
end Go.Pv

namespace Go.Pv
def wpu (k:Int) (t:List Rule):Int:=cond (decide (24 < (t.length:Int))) 3 (cond (t.any fun r=>!wb9 k r) 2 0)
def wj3 (k:Int):List (List Rule)->Int
 | []=>0
 | t::l=>cond (wpu k t == 0) (wj3 k l) (wpu k t)
def chk (k:Int) (ts:List (List Rule)):Int:=if 1<=k/\k<=4 then wj3 k ts else 2
theorem wlc {k:Int} (hk:k<=4) (ts:List (List Rule)) (hs:ts.length<=9223372036854775807):∀ (n i:Nat),n=ts.length - i->iter (wbU k ts) (i:Int)=some (cond (wj3 k (ts.drop i) == 0) (.inl ()) (.inr (wj3 k (ts.drop i))))
 | 0,i,hn=>by
  have h1:decide ((i:Int) < (ts.length:Int))=false:=by simp; omega
  rw[wce,List.drop_eq_nil_of_le (by omega)]
  unfold wbU
  rw[h1]; rfl
 | n+1,i,hn=>by
  have hi:i < ts.length:=by omega
  have h1:decide ((i:Int) < (ts.length:Int))=true:=by simp; omega
  have h2:idx ts (i:Int)=some ts[i]:=by unfold idx; simp[hi]
  rw[wce,List.drop_eq_getElem_cons hi]
  have ih:=wlc hk ts hs n (i+1) (by omega)
  generalize hm:wbU k ts=f at ih ⊢
  have hf:f (i:Int)=cond (decide (24 < (ts[i].length:Int))) (some (.inr (.inr 3))) ((waT ts[i] k).bind fun r2=>cond r2 (some (.inr (.inr 2))) (some (.inl (IntKind.i64.wrap ((i:Int)+1))))):=by
   rw[<-hm]; unfold wbU; rw[h1,cond_true,h2]; rfl
  rw[hf]
  simp only[wj3,wpu]
  cases hb:decide (24 < (ts[i].length:Int))with
  | true=>rfl
  | false =>
   have hb:¬ 24 < (ts[i].length:Int):=by simpa using hb
   simp only[cond_false]
   rw[wqn hk _ (by omega),Option.bind_some]
   cases ha:ts[i].any fun r=>!wb9 k r with
   | true=>rfl
   | false =>
    simp only[cond_false,Option.bind_some]
    rw[wak (by omega),show ((i:Int)+1)=((i+1:Nat):Int) by omega]
    exact ih
theorem wne (k:Int) (ts:List (List Rule)) (hs:ts.length<=9223372036854775807):wb8 k ts=some (chk k ts):=by
  unfold wb8 wd2 chk
  simp only[Option.bind_some]
  by_cases hk:1<=k/\k<=4
  · have h1:(!(decide (1<=k)&&decide (k<=4)))=false:=by simp; exact hk
    rw[h1,if_pos hk,cond_false]
    have h:=wlc hk.2 ts hs ts.length 0 (by omega)
    rw[show ((0:Nat):Int)=0 from rfl,List.drop_zero]at h
    rw[h]
    cases h0:wj3 k ts == 0 with
    | true => have : wj3 k ts = 0 := by simpa using h0
              rw[this]; rfl
    | false=>rfl
  · have h1:(!(decide (1<=k)&&decide (k<=4)))=true:=by
      cases h:decide (1<=k)&&decide (k<=4)with
      | false=>rfl
      | true=>exfalso; simp at h; exact hk h
    rw[h1,if_neg hk,cond_true]
theorem wnf {k:Int} (e:Rule) (hl:(e.Bands.length:Int)=k) (hk:k<=4):∀ (n i:Nat),n=e.Bands.length - i->iter (wcp k e) (i:Int)=some (cond ((e.Bands.drop i).any we8) (.inr 2) (.inl ()))
 | 0,i,hn=>by
  have h1:decide ((i:Int) < k)=false:=by simp; omega
  rw[wce,List.drop_eq_nil_of_le (by omega)]
  unfold wcp
  rw[h1]; rfl
 | n+1,i,hn=>by
  have hi:i < e.Bands.length:=by omega
  have h1:decide ((i:Int) < k)=true:=by simp; omega
  have h2:idx e.Bands (i:Int)=some e.Bands[i]:=by unfold idx; simp[hi]
  have ih:=wnf e hl hk n (i+1) (by omega)
  rw[wce,List.drop_eq_getElem_cons hi]
  generalize hm:wcp k e=f at ih ⊢
  have hf:f (i:Int)=cond (decide (e.Bands[i].Lo < 0)) (some (.inr (.inr 2))) (cond (decide (e.Bands[i].Hi<=e.Bands[i].Lo)) (some (.inr (.inr 2))) (cond (decide (1000 < e.Bands[i].Hi)) (some (.inr (.inr 2))) (some (.inl (IntKind.i64.wrap ((i:Int)+1)))))):=by
   rw[<-hm]; unfold wcp; rw[h1,cond_true,h2]; rfl
  rw[hf]
  simp only[List.any_cons,we8]
  cases ha:decide (e.Bands[i].Lo < 0)with
  | true=>rfl
  | false =>
   cases hb:decide (e.Bands[i].Hi<=e.Bands[i].Lo)with
   | true=>rfl
   | false =>
    cases hc:decide (1000 < e.Bands[i].Hi)with
    | true=>rfl
    | false =>
     simp only[cond_false,Option.bind_some,Bool.false_or]
     rw[wak (by omega),show ((i:Int)+1)=((i+1:Nat):Int) by omega]
     exact ih
theorem wng {k:Int} (hk:k<=4) (t:List Rule) (ht:t.length<=24):∀ (n i:Nat),n=t.length - i->iter (wcq k t) (i:Int)=some (cond ((t.drop i).any fun r=>!wb9 k r) (.inr 2) (.inl ()))
 | 0,i,hn=>by
  have h1:decide ((i:Int) < (t.length:Int))=false:=by simp; omega
  rw[wce,List.drop_eq_nil_of_le (by omega)]
  unfold wcq
  rw[h1]; rfl
 | n+1,i,hn=>by
  have hi:i < t.length:=by omega
  have h1:decide ((i:Int) < (t.length:Int))=true:=by simp; omega
  have h2:idx t (i:Int)=some t[i]:=by unfold idx; simp[hi]
  have ih:=wng hk t ht n (i+1) (by omega)
  rw[wce,List.drop_eq_getElem_cons hi]
  generalize hm:wcq k t=f at ih ⊢
  have hf:f (i:Int)=cond (wb9 k t[i]) (some (.inl (IntKind.i64.wrap ((i:Int)+1)))) (some (.inr (.inr 2))):=by
   rw[<-hm]; unfold wcq; rw[h1,cond_true,h2,Option.bind_some]
   by_cases hc:((t[i].Bands.length:Int)=k/\0<=t[i].Code)/\t[i].Code<=99
   ·have e1:(((decide (¬(t[i].Bands.length:Int)=k))||(decide (t[i].Code < 0)))||(decide (99 < t[i].Code)))=false:=by
     simp only[Bool.or_eq_false_iff,decide_eq_false_iff_not]; exact⟨⟨fun h=>h hc.1.1,by omega⟩,by omega⟩
    have e2:wb9 k t[i]=!(t[i].Bands.any we8):=by simp[wb9,hc.1.1,hc.1.2,hc.2]
    have hb:=wnf t[i] hc.1.1 hk t[i].Bands.length 0 (by omega)
    rw[show ((0:Nat):Int)=0 from rfl,List.drop_zero]at hb
    rw[e1,cond_false,hb,e2]
    cases t[i].Bands.any we8 <;> rfl
   ·have e1:(((decide (¬(t[i].Bands.length:Int)=k))||(decide (t[i].Code < 0)))||(decide (99 < t[i].Code)))=true:=by
     cases he:(((decide (¬(t[i].Bands.length:Int)=k))||(decide (t[i].Code < 0)))||(decide (99 < t[i].Code)))with
     | true=>rfl
     | false =>
      exfalso; simp only[Bool.or_eq_false_iff,decide_eq_false_iff_not,Decidable.not_not]at he
      exact hc ⟨⟨he.1.1,by omega⟩,by omega⟩
    have e2:wb9 k t[i]=false:=by
     cases he:wb9 k t[i]with
     | false=>rfl
     | true=>exfalso; simp only[wb9,Bool.and_eq_true,decide_eq_true_eq]at he; exact hc he.1
    rw[e1,e2]; rfl
  rw[hf]
  simp only[List.any_cons]
  cases hc:wb9 k t[i]with
  | false=>rfl
  | true =>
   simp only[cond_true,Option.bind_some,Bool.not_true,Bool.false_or]
   rw[wak (by omega),show ((i:Int)+1)=((i+1:Nat):Int) by omega]
   exact ih
theorem wlM (k:Int) (t:List Rule):wcW k t=some (chk k [t]):=by
 unfold wcW chk
 by_cases hk:1<=k/\k<=4
 ·have h1:((decide (k < 1))||(decide (4 < k)))=false:=by simp; omega
  rw[h1,cond_false,if_pos hk]
  simp only[wj3,wpu]
  cases ht:decide (24 < (t.length:Int))with
  | true=>rfl
  | false =>
   have ht:¬ 24 < (t.length:Int):=by simpa using ht
   have hb:=wng hk.2 t (by omega) t.length 0 (by omega)
   rw[show ((0:Nat):Int)=0 from rfl,List.drop_zero]at hb
   rw[cond_false,hb]
   cases t.any fun r=>!wb9 k r <;> rfl
 ·have h1:((decide (k < 1))||(decide (4 < k)))=true:=by
   simp only[Bool.or_eq_true,decide_eq_true_eq]; omega
  rw[h1,cond_true,if_neg hk]
end Go.Pv

namespace Go.Pv
def wpv (b:Band) (x:Int):Bool:=!(decide (x < b.Lo))&&!(decide (b.Hi<=x))
def whZ:List Band->List Int->Bool
 | b::bs,x::l=>wpv b x&&whZ bs l
 | _,_=>true
def wnR (t:List Rule) (l:List Int):Int:=match t.findIdx? (fun r=>whZ r.Bands l)with | some j=>(j:Int) | none=>-1
end Go.Pv

namespace Go.Pv
theorem wg3 {k:Int} {t:List Rule} (h:chk k [t]=0):1<=k/\k<=4/\t.length<=24/\∀ r∈t,wb9 k r=true:=by
 unfold chk at h
 by_cases hk:1<=k/\k<=4
 ·rw[if_pos hk]at h
  simp only[wj3,wpu]at h
  cases hb:decide (24 < (t.length:Int))with
  | true=>rw[hb]at h; simp at h
  | false =>
   rw[hb]at h
   cases ha:t.any fun r=>!wb9 k r with
   | true=>rw[ha]at h; simp at h
   | false =>
    rw[List.any_eq_false]at ha
    refine⟨hk.1,hk.2,by simp at hb; omega,fun r hr=>?_⟩
    have:=ha r hr
    simpa using this
 ·rw[if_neg hk]at h; cases h
theorem wmx {k:Int} {r:Rule} (h:wb9 k r=true):(r.Bands.length:Int)=k:=by
 simp only[wb9,Bool.and_eq_true,decide_eq_true_eq]at h; exact h.1.1.1
end Go.Pv

namespace Go.Pv
def wev (n:Int):List Int->List Int
 | []=>[n]
 | x::l=>cond (decide (n<=x)) (cond (decide (n < x)) (n::x::l) (x::l)) (x::wev n l)
def wld (n:Int) (l:List Int):Bool:=l.any fun x=>decide (n<=x)
theorem wpw {n:Int}:∀ {l:List Int},wld n l=false->wev n l=l++[n]
 | [],_=>rfl
 | x::l,h=>by
  simp only[wld,List.any_cons,Bool.or_eq_false_iff]at h
  simp only[wev,h.1,cond_false,List.cons_append,wpw (l:=l) h.2]
theorem won (l:List Int) (n:Int) (hl:l.length<=1000000):∀ (m i:Nat) (L:List Int),m=l.length - i->L.length<=i+1->iter (wbh l n) (true,(i:Int),L)=some (true,L++l.drop i)
 | 0,i,L,hm,hL=>by
  have h1:decide ((i:Int) < (l.length:Int))=false:=by simp; omega
  rw[wce,wbE (l) (by omega)]
  unfold wbh
  simp only[h1,cond_false,Option.bind_some,List.append_nil]
 | m+1,i,L,hm,hL=>by
  have hi:i < l.length:=by omega
  have h1:decide ((i:Int) < (l.length:Int))=true:=by simp; omega
  have h2:idx l (i:Int)=some l[i]:=by unfold idx; simp[hi]
  have ih:=won l n hl m (i+1) (L++[l[i]]) (by omega) (by simp; omega)
  rw[wce,List.drop_eq_getElem_cons hi]
  generalize hf0:wbh l n=f at ih ⊢
  have hf:f (true,(i:Int),L)=some (.inl (true,IntKind.i64.wrap ((i:Int)+1),L++[l[i]])):=by
   rw[<-hf0]; unfold wbh
   simp only[h1,cond_true,Bool.not_true,cond_false,Option.bind_some,h2]
   have:L.length+[l[i]].length<=4294967296:=by simp; omega
   simp only[wah,this,if_true]
  rw[hf]
  simp only[Option.bind_some]
  rw[wak (by omega),show ((i:Int)+1)=((i+1:Nat):Int) by omega,ih]
  simp
theorem woo (l:List Int) (n:Int) (hl:l.length<=1000000):∀ (m i:Nat) (L:List Int),m=l.length - i->L.length<=i->iter (wbh l n) (false,(i:Int),L)=some (wld n (l.drop i),L++cond (wld n (l.drop i)) (wev n (l.drop i)) (l.drop i))
 | 0,i,L,hm,hL=>by
  have h1:decide ((i:Int) < (l.length:Int))=false:=by simp; omega
  rw[wce,wbE (l) (by omega)]
  unfold wbh
  simp only[h1,cond_false,Option.bind_some,wld,List.any_nil,List.append_nil]
 | m+1,i,L,hm,hL=>by
  have hi:i < l.length:=by omega
  have h1:decide ((i:Int) < (l.length:Int))=true:=by simp; omega
  have h2:idx l (i:Int)=some l[i]:=by unfold idx; simp[hi]
  have ihd:=fun L hL=>won l n hl m (i+1) L (by omega) hL
  have ih:=woo l n hl m (i+1) (L++[l[i]]) (by omega) (by simp; omega)
  rw[wce,List.drop_eq_getElem_cons hi]
  generalize hf0:wbh l n=f at ih ihd ⊢
  have g1:L.length+[n].length<=4294967296:=by simp; omega
  have g2:(L++[n]).length+[l[i]].length<=4294967296:=by simp; omega
  have g3:L.length+[l[i]].length<=4294967296:=by simp; omega
  have hf:f (false,(i:Int),L)=cond (decide (n<=l[i])) (cond (decide (n < l[i])) (some (.inl (true,IntKind.i64.wrap ((i:Int)+1),L++[n]++[l[i]]))) (some (.inl (true,IntKind.i64.wrap ((i:Int)+1),L++[l[i]])))) (some (.inl (false,IntKind.i64.wrap ((i:Int)+1),L++[l[i]]))):=by
   rw[<-hf0]; unfold wbh
   simp only[h1,cond_true,Bool.not_false,Option.bind_some,h2]
   cases decide (n<=l[i])with
   | false=>simp only[cond_false,Option.bind_some,wah,g3,if_true]
   | true =>
    cases decide (n < l[i])with
    | false=>simp only[cond_true,cond_false,Option.bind_some,wah,g3,if_true]
    | true=>simp only[cond_true,Option.bind_some,wah,g1,g2,if_true]
  rw[hf]
  simp only[wld,List.any_cons,wev]
  cases ha:decide (n<=l[i])with
  | false =>
   simp only[cond_false,Option.bind_some,Bool.false_or]
   rw[wak (by omega),show ((i:Int)+1)=((i+1:Nat):Int) by omega,ih]
   simp only[wld]
   cases (List.drop (i+1) l).any fun x=>decide (n<=x) <;> simp
  | true =>
   cases hb:decide (n < l[i])with
   | false =>
    simp only[cond_true,cond_false,Option.bind_some,Bool.true_or]
    rw[wak (by omega),show ((i:Int)+1)=((i+1:Nat):Int) by omega,ihd _ (by simp; omega)]
    simp
   | true =>
    simp only[cond_true,Option.bind_some,Bool.true_or]
    rw[wak (by omega),show ((i:Int)+1)=((i+1:Nat):Int) by omega,ihd _ (by simp; omega)]
    simp
theorem wpx (l:List Int) (n:Int) (hl:l.length<=1000000):wdi l n=some (wev n l):=by
 unfold wdi
 have h:=woo l n hl l.length 0 [] (by omega) (by simp)
 rw[show ((0:Nat):Int)=0 from rfl,List.drop_zero,List.nil_append]at h
 rw[h]
 cases hh:wld n l with
 | true=>rfl
 | false =>
  have:l.length+[n].length<=4294967296:=by simp; omega
  simp only[Option.bind_some,cond_false,Bool.not_false,cond_true,wah,this,if_true,wpw hh]
end Go.Pv

namespace Go.Pv
def wpy (set:Int) (i:Nat):Bool:=decide ((set.fdiv (2 ^ (min i 64))).tmod 2=1)
def wat (r:Rule) (mark:Nat):Band:=r.Bands.getD mark default
def wc3 (mark:Nat) (set:Int):Nat->List Rule->List Int->List Int
 | _,[],out=>out
 | i,r::l,out=>wc3 mark set (i+1) l (cond (wpy set i) (wev (wat r mark).Hi (cond (decide (0 < (wat r mark).Lo)) (wev (wat r mark).Lo out) out)) out)
theorem wg4 (n:Int):∀ l:List Int,(wev n l).length<=l.length+1
 | []=>by simp[wev]
 | x::l=>by
  simp only[wev]
  cases decide (n<=x)with
  | true=>cases decide (n < x) <;> simp
  | false=>simp only[cond_false,List.length_cons]; have:=wg4 n l; omega
theorem wle (t:List Rule) (mark:Nat) (set:Int) (ht:t.length<=1000) (hm:∀ r∈t,mark < r.Bands.length):∀ (n i:Nat) (out:List Int),n=t.length - i->out.length<=1+2*i->iter (wcr t (mark:Int) set) (out,(i:Int))=some (wc3 mark set i (t.drop i) out)
 | 0,i,out,hn,ho=>by
  have h1:decide ((i:Int) < (t.length:Int))=false:=by simp; omega
  rw[wce,wbE (t) (by omega)]
  unfold wcr
  simp only[h1,cond_false,Option.bind_some,wc3]
 | n+1,i,out,hn,ho=>by
  have hi:i < t.length:=by omega
  have h1:decide ((i:Int) < (t.length:Int))=true:=by simp; omega
  have h2:idx t (i:Int)=some t[i]:=by unfold idx; simp[hi]
  have hmi:=hm t[i] (List.getElem_mem hi)
  have h3:idx t[i].Bands (mark:Int)=some (wat t[i] mark):=by unfold idx wat; simp[hmi]
  have ih:=fun out ho=>wle t mark set ht hm n (i+1) out (by omega) ho
  rw[wce,List.drop_eq_getElem_cons hi]
  generalize hf0:wcr t (mark:Int) set=f at ih ⊢
  have p1:=wpx out (wat t[i] mark).Lo (by omega)
  have hl1:=wg4 (wat t[i] mark).Lo out
  have hf:f (out,(i:Int))=some (.inl (cond (wpy set i) (wev (wat t[i] mark).Hi (cond (decide (0 < (wat t[i] mark).Lo)) (wev (wat t[i] mark).Lo out) out)) out,IntKind.i64.wrap ((i:Int)+1))):=by
   rw[<-hf0]; unfold wcr
   have hz:(0:Int)<=(i:Int):=by omega
   simp only[h1,cond_true,wah,hz,if_true,Int.toNat_natCast,wpy]
   cases decide ((set.fdiv (2 ^ (min i 64))).tmod 2=1)with
   | false=>simp only[cond_false,Option.bind_some]
   | true =>
    simp only[cond_true,h2,h3,Option.bind_some]
    cases decide (0 < (wat t[i] mark).Lo)with
    | false=>simp only[cond_false,Option.bind_some,wpx out (wat t[i] mark).Hi (by omega)]
    | true=>simp only[cond_true,Option.bind_some,p1,wpx (wev (wat t[i] mark).Lo out) (wat t[i] mark).Hi (by omega)]
  rw[hf]
  simp only[Option.bind_some,wc3]
  rw[wak (by omega),show ((i:Int)+1)=((i+1:Nat):Int) by omega]
  refine ih _ ?_
  cases wpy set i with
  | false=>simp only[cond_false]; omega
  | true =>
   simp only[cond_true]
   cases decide (0 < (wat t[i] mark).Lo)with
   | false=>simp only[cond_false]; have:=wg4 (wat t[i] mark).Hi out; omega
   | true=>simp only[cond_true]; have:=wg4 (wat t[i] mark).Hi (wev (wat t[i] mark).Lo out); omega
theorem wj4 (t:List Rule) (mark:Nat) (set:Int) (ht:t.length<=1000) (hm:∀ r∈t,mark < r.Bands.length):wb4 t (mark:Int) set=some (wc3 mark set 0 t [1000]):=by
 unfold wb4
 have h:=wle t mark set ht hm t.length 0 [1000] (by omega) (by simp)
 rw[show ((0:Nat):Int)=0 from rfl,List.drop_zero]at h
 rw[h]; rfl
end Go.Pv

namespace Go.Pv
def OLe {α:Type} (a b:Option α):Prop:=∀ r,a=some r->b=some r
theorem OLe.refl {α:Type} (a:Option α):OLe a a:=fun _ h=>h
theorem OLe.bind {α β:Type} {a a':Option α} {f f':α->Option β} (h:OLe a a') (hf:∀ x,OLe (f x) (f' x)):OLe (a.bind f) (a'.bind f'):=fun r hr=>by
 obtain⟨x,h1,h2⟩:=bind_some hr
 rw[h x h1]; exact hf x r h2
theorem OLe.cond {α:Type} {c:Bool} {a a' b b':Option α} (h:OLe a a') (h2:OLe b b'):OLe (cond c a b) (cond c a' b'):=fun r hr=>by
 cases c
 ·exact h2 r hr
 ·exact h r hr
theorem OLe.guard {α:Type} {p:Prop} [Decidable p] {a a':Option α} (h:OLe a a'):OLe (wah p a) (wah p a'):=fun r hr=>by
 unfold wah at hr ⊢
 split at hr
 ·rename_i hp; rw[if_pos hp]; exact h r hr
 ·cases hr
theorem wpz {S X:Type} {f f':S->Option (S ⊕ X)} (h:∀ s,OLe (f s) (f' s)):∀ (n:Nat) (s:S),OLe (wff f n s) (wff f' n s)
 | 0,s=>fun r hr=>by cases hr
 | n+1,s=>fun r hr=>by
  rw[weT]at hr ⊢
  obtain⟨o,h1,h2⟩:=bind_some hr
  rw[h s o h1]
  cases o with
  | inl s'=>exact wpz h n s' r h2
  | inr x=>exact h2
theorem OLe.iter {S X:Type} {f f':S->Option (S ⊕ X)} {n:Nat} {s:S} (h:∀ s,OLe (f s) (f' s)):OLe (wff f n s) (iter f' s):=fun r hr=>wlD (wpz h n s r hr)
def wee {S X:Type} (f:S->Option (S ⊕ X)) (s:S):Option X:=wff f 300 s
theorem OLe.iterQ {S X:Type} {f f':S->Option (S ⊕ X)} {s:S} (h:∀ s,OLe (f s) (f' s)):OLe (wee f s) (Pv.iter f' s):=OLe.iter h
def wnS (x:Int):List Int->List Int
 | []=>[x]
 | y::l=>if x<=y then x::y::l else y::wnS x l
def wdV:List Int->List Int
 | []=>[]
 | x::l=>wnS x (wdV l)
theorem wlf (x:Int):∀ l:List Int,(wnS x l).Perm (x::l)
 | []=>List.Perm.refl _
 | y::l=>by
  unfold wnS
  split
  ·exact List.Perm.refl _
  ·exact((wlf x l).cons y).trans (List.Perm.swap x y l)
theorem wmb (x:Int):∀ l:List Int,l.Pairwise (·<=·)->(wnS x l).Pairwise (·<=·)
 | [],_=>List.pairwise_singleton ..
 | y::l,h=>by
  unfold wnS
  rw[List.pairwise_cons]at h
  split
  ·rename_i hx
   refine List.pairwise_cons.2 ⟨fun z hz=>?_,List.pairwise_cons.2 h⟩
   rcases List.mem_cons.1 hz with rfl | hz
   ·exact hx
   ·have:=h.1 z hz; omega
  ·rename_i hx
   refine List.pairwise_cons.2 ⟨fun z hz=>?_,wmb x l h.2⟩
   rcases List.mem_cons.1 ((wlf x l).mem_iff.1 hz)with rfl | hz
   ·omega
   ·exact h.1 z hz
theorem wnh:∀ l:List Int,(wdV l).Perm l
 | []=>List.Perm.refl _
 | x::l=>(wlf x _).trans ((wnh l).cons x)
theorem wlg:∀ l:List Int,(wdV l).Pairwise (·<=·)
 | []=>List.Pairwise.nil
 | x::l=>wmb x _ (wlg l)
theorem wmc:∀ {a b:List Int},a.Pairwise (·<=·)->b.Pairwise (·<=·)->a.Perm b->a=b
 | [],b,_,_,h=>h.nil_eq
 | x::a,[],_,_,h=>by have:=h.length_eq; simp at this
 | x::a,y::b,h1,h2,h=>by
  rw[List.pairwise_cons]at h1 h2
  have e:x=y:=by
   have hx:x∈y::b:=h.mem_iff.1 (List.mem_cons_self ..)
   have hy:y∈x::a:=h.mem_iff.2 (List.mem_cons_self ..)
   rcases List.mem_cons.1 hx with rfl | hx
   ·rfl
   ·rcases List.mem_cons.1 hy with rfl | hy
    ·rfl
    ·have:=h1.1 y hy; have:=h2.1 x hx; omega
  subst e
  rw[wmc h1.2 h2.2 ((List.perm_cons x).1 h)]
theorem wax (l:List Int):sortI l=wdV l:=by
 refine wmc ?_ (wlg l) ?_
 ·unfold sortI
  have:=List.pairwise_mergeSort (le:=fun x y:Int=>decide (x<=y)) (fun a b c h1 h2=>by simp at *; omega) (fun a b=>by simp; omega) l
  exact this.imp fun h=>by simpa using h
 ·have:(sortI l).Perm l:=by unfold sortI; exact List.mergeSort_perm l _
  exact this.trans (wnh l).symm
def wpA:Nat->Nat->List UInt8
 | 0,_=>[]
 | k+1,u=>if u < 10 then [UInt8.ofNat (48+u)]else wpA k (u / 10)++[UInt8.ofNat (48+u % 10)]
theorem wnT:∀ (k u:Nat),u < 10 ^ k->0 < k->wpA k u=Lib.decDigits u
 | 0,u,_,h=>by cases h
 | k+1,u,h,_=>by
  rw[Lib.decDigits]
  simp only[wpA]
  by_cases hu:u < 10
  ·rw[if_pos hu,dif_pos hu]
  ·rw[if_neg hu,dif_neg hu]
   have h2:u / 10 < 10 ^ k:=by rw[Nat.pow_succ]at h; omega
   have h3:0 < k:=by
    cases k with
    | zero=>simp at h2; omega
    | succ k=>omega
   rw[wnT k _ h2 h3]
def wrk (n:Int):Option ByteArray:=wah (-1000000<=n/\n<=1000000) (some ⟨(if n < 0 then 45::wpA 7 n.natAbs else wpA 7 n.toNat).toArray⟩)
theorem wsG (n:Int):OLe (wrk n) (wlK n):=fun r hr=>by
 unfold wrk at hr
 obtain⟨h1,h2⟩:=wae hr
 unfold wlK wah
 rw[if_pos (by omega),<-h2]
 simp only[Option.some.injEq]
 unfold Lib.itoa
 rw[wnT 7 _ (by omega) (by omega),wnT 7 _ (by omega) (by omega)]
end Go.Pv

namespace Go.Pv
def wdo:Option (List Rule) :=
 some [(⟨[(⟨0,10⟩:Band)],1⟩:Rule),(⟨[(⟨5,20⟩:Band)],2⟩:Rule),(⟨[(⟨0,20⟩:Band)],3⟩:Rule)]
def wg5 (k1:Int):Option Bool :=
 some ((decide (1<=k1))&&(decide (k1<=4)))
def wgB (b1:Band):Option Bool :=
 some (((decide (b1.Lo < 0))||(decide (b1.Hi<=b1.Lo)))||(decide (1000 < b1.Hi)))
def wde (s1:(List Band)):Int->Option (Int ⊕ (Unit ⊕ Int)):=fun v1 =>
 cond (decide (v1 < (s1.length:Int)))
  (
  (idx s1 v1).bind fun e1 =>
  (wgB e1).bind fun r1 =>
  cond r1
   (
   some (.inr (.inr v1))
   )
   (
   some (.inl (IntKind.i64.wrap (v1+1)))
   )
  )
  (
  some (.inr (.inl ()))
  )
def wdE (s1:(List Band)):Option Int :=
 (
 (
  (
  (wee (wde s1) 0).bind fun x_7=>match x_7 with
    | (.inl y1)=>some (.inl y1)
    | (.inr y2)=>some (.inr y2)
  )
  : Option (Unit ⊕ Int)).bind fun o_1=>match o_1 with
   | (.inl _) =>
     some (-1)
   | (.inr y3)=>some y3
 )
def wdf (s1:(List Band)):Option Bool :=
 (wdE s1).bind fun r1 =>
 some (decide (0<=r1))
def whI (k1:Int) (r1:Rule):Option Bool :=
 ((cond (((decide ((r1.Bands.length:Int)=k1))&&(decide (0<=r1.Code)))&&(decide (r1.Code<=99)))
  (
   (wdf r1.Bands).bind fun r2 =>
   some (!r2)
  )
  (some false)
 ):Option Bool).bind fun b1 =>
 some b1
def weY (r1:Rule) (k1:Int):Option Bool :=
 (whI k1 r1).bind fun r2 =>
 some (!r2)
def wdr (s1:(List Rule)) (f1:Int):Int->Option (Int ⊕ (Unit ⊕ Int)):=fun v1 =>
 cond (decide (v1 < (s1.length:Int)))
  (
  (idx s1 v1).bind fun e1 =>
  (weY e1 f1).bind fun r1 =>
  cond r1
   (
   some (.inr (.inr v1))
   )
   (
   some (.inl (IntKind.i64.wrap (v1+1)))
   )
  )
  (
  some (.inr (.inl ()))
  )
def wdW (s1:(List Rule)) (f1:Int):Option Int :=
 (
 (
  (
  (wee (wdr s1 f1) 0).bind fun x_7=>match x_7 with
    | (.inl y1)=>some (.inl y1)
    | (.inr y2)=>some (.inr y2)
  )
  : Option (Unit ⊕ Int)).bind fun o_1=>match o_1 with
   | (.inl _) =>
     some (-1)
   | (.inr y3)=>some y3
 )
def wds (s1:(List Rule)) (f1:Int):Option Bool :=
 (wdW s1 f1).bind fun r1 =>
 some (decide (0<=r1))
def we9 (k1:Int) (ts1:(List (List Rule))):Int->Option (Int ⊕ (Unit ⊕ Int)):=fun v1 =>
 cond (decide (v1 < (ts1.length:Int)))
  (
  (idx ts1 v1).bind fun e1 =>
  cond (decide (24 < (e1.length:Int)))
   (
   some (.inr (.inr 3))
   )
   (
   (wds e1 k1).bind fun r2 =>
   cond r2
    (
    some (.inr (.inr 2))
    )
    (
    some (.inl (IntKind.i64.wrap (v1+1)))
    )
   )
  )
  (
  some (.inr (.inl ()))
  )
def wd8 (k1:Int) (ts1:(List (List Rule))):Option Int :=
 (wg5 k1).bind fun r1 =>
 cond (!r1)
  (
  some 2
  )
  (
  (
  (
   (
   (wee (we9 k1 ts1) 0).bind fun x_10=>match x_10 with
     | (.inl y1)=>some (.inl y1)
     | (.inr y2)=>some (.inr y2)
   )
   : Option (Unit ⊕ Int)).bind fun o_4=>match o_4 with
    | (.inl _) =>
      some 0
    | (.inr y3)=>some y3
  )
  )
def weG (t1:(List Rule)):Option Int :=
 wah (0<=(t1.length:Int)) <|
 some (IntKind.u32.wrap ((IntKind.u32.wrap (1*(2 ^ (min ((t1.length:Int)).toNat 32)))) - 1))
def wf0 (mark1:Int) (e1:(List Rule)):(Int×(List Int))->Option ((Int×(List Int)) ⊕ (List Int)):=fun (v2,L4) =>
 cond (decide (v2 < (e1.length:Int)))
  (
  (idx e1 v2).bind fun e2 =>
  (idx e2.Bands mark1).bind fun e3 =>
  wah (L4.length+[e3.Lo,e3.Hi].length<=4294967296) <|
  some (.inl ((IntKind.i64.wrap (v2+1)),(L4++[e3.Lo,e3.Hi])))
  )
  (
  some (.inr L4)
  )
def wf1 (mark1:Int) (ts1:(List (List Rule))):(Int×(List Int))->Option ((Int×(List Int)) ⊕ (List Int)):=fun (v1,L2) =>
 cond (decide (v1 < (ts1.length:Int)))
  (
  (
   (idx ts1 v1).bind fun e1 =>
   (wee (wf0 mark1 e1) (0,L2)).bind fun x_21 =>
   some x_21
   : Option (List Int)).bind fun L3 =>
  some (.inl ((IntKind.i64.wrap (v1+1)),L3))
  )
  (
  some (.inr L2)
  )
def we5 (mark1:Int) (ts1:(List (List Rule))):Option (List Int) :=
 (
  (wee (wf1 mark1 ts1) (0,[1000])).bind fun x_7 =>
  some x_7
  : Option (List Int)).bind fun L1 =>
 wah (L1.length<=4294967296) <|
 wah ((wdV L1).length<=4294967296) <|
 (
  (idx (List.take ((compactI (wdV L1)).length) (waL (wdV L1))) 0).bind fun e4 =>
  cond (decide (e4=0))
   (
   wah (0<=1/\1<=((List.take ((compactI (wdV L1)).length) (waL (wdV L1))).length:Int)/\((List.take ((compactI (wdV L1)).length) (waL (wdV L1))).length:Int)<=((List.take ((compactI (wdV L1)).length) (waL (wdV L1))).length:Int)) <|
   some (((List.take ((compactI (wdV L1)).length) (waL (wdV L1))).drop 1).take ((((List.take ((compactI (wdV L1)).length) (waL (wdV L1))).length:Int):Int) - 1).toNat)
   )
   (
   some (List.take ((compactI (wdV L1)).length) (waL (wdV L1)))
   )
  : Option (List Int)).bind fun out1 =>
 some out1
def wf2 (t1:(List Rule)) (mark1:Int) (value1:Int):(Int×Int)->Option ((Int×Int) ⊕ Int):=fun (out2,v1) =>
 cond (decide (v1 < (t1.length:Int)))
  (
  (
   (idx t1 v1).bind fun e1 =>
   (idx e1.Bands mark1).bind fun e2 =>
   cond ((decide (e2.Lo<=value1))&&(decide (value1 < e2.Hi)))
    (
    wah (0<=v1) <|
    some (IntKind.u32.wrap ↑(BitVec.ofInt IntKind.u32.bits out2 ||| BitVec.ofInt IntKind.u32.bits (IntKind.u32.wrap (1*(2 ^ (min (v1).toNat 32))))).toNat)
    )
    (
    some out2
    )
   : Option Int).bind fun out3 =>
  some (.inl (out3,(IntKind.i64.wrap (v1+1))))
  )
  (
  some (.inr out2)
  )
def wek (t1:(List Rule)) (mark1:Int) (value1:Int):Option Int :=
 (
  (wee (wf2 t1 mark1 value1) (0,0)).bind fun x_7 =>
  some x_7
  : Option Int).bind fun out1 =>
 some out1
def weH (s1:Int):Int->Option (Int ⊕ (Unit ⊕ Int)):=fun v1 =>
 cond (decide (v1 < 24))
  (
  wah (0<=v1) <|
  cond (decide (¬(IntKind.u32.wrap ↑(BitVec.ofInt IntKind.u32.bits s1 &&& BitVec.ofInt IntKind.u32.bits (IntKind.u32.wrap (1*(2 ^ (min (v1).toNat 32))))).toNat)=0))
   (
   some (.inr (.inr v1))
   )
   (
   some (.inl (IntKind.i64.wrap (v1+1)))
   )
  )
  (
  some (.inr (.inl ()))
  )
def wc1 (s1:Int):Option Int :=
 (
 (
  (
  (wee (weH s1) 0).bind fun x_7=>match x_7 with
    | (.inl y1)=>some (.inl y1)
    | (.inr y2)=>some (.inr y2)
  )
  : Option (Unit ⊕ Int)).bind fun o_1=>match o_1 with
   | (.inl _) =>
     some (-1)
   | (.inr y3)=>some y3
 )
def wew (from1:Int) (e1:Int) (r3:((List Int)×(List (Arr3_Int×(List Int))))):(Int×(List Int))->Option ((Int×(List Int)) ⊕ ((List (Arr3_Int×(List Int)))×(List Int))):=fun (v2,L5) =>
 cond (decide (v2 < (r3.1.length:Int)))
  (
  (idx r3.1 v2).bind fun e2 =>
  (idx L5 v2).bind fun e3 =>
  some (.inl ((IntKind.i64.wrap (v2+1)),(L5.set (v2).toNat (IntKind.i64.wrap (e3+(IntKind.i64.wrap (e2*(IntKind.i64.wrap (e1 - from1)))))))))
  )
  (
  some (.inr (r3.2,L5))
  )
def wex (mark1:Int) (a1:Int) (o1:(List Rule)) (o2:Int) (self:((List Rule)->Int->(List (Arr3_Int×(List Int)))->Int->Int->Option ((List Int)×(List (Arr3_Int×(List Int)))))) (r1:(List Int)):(Int×Int×(List (Arr3_Int×(List Int)))×(List Int))->Option ((Int×Int×(List (Arr3_Int×(List Int)))×(List Int)) ⊕ ((List (Arr3_Int×(List Int)))×(List Int))):=fun (from1,v1,M2,L2) =>
 cond (decide (v1 < (r1.length:Int)))
  (
  (
   (idx r1 v1).bind fun e1 =>
   (wek o1 mark1 from1).bind fun r2 =>
   (
    cond (decide ((IntKind.i64.wrap (mark1+1)) < o2))
     (
     (self o1 o2 M2 (IntKind.i64.wrap (mark1+1)) (IntKind.u32.wrap ↑(BitVec.ofInt IntKind.u32.bits a1 &&& BitVec.ofInt IntKind.u32.bits r2).toNat)).bind fun r3 =>
     (wee (wew from1 e1 r3) (0,L2)).bind fun x_30 =>
     some x_30
     )
     (
     (wc1 (IntKind.u32.wrap ↑(BitVec.ofInt IntKind.u32.bits a1 &&& BitVec.ofInt IntKind.u32.bits r2).toNat)).bind fun r4 =>
     cond (decide (r4 < 0))
      (
      (idx L2 (o1.length:Int)).bind fun e4 =>
      some (M2,(L2.set ((o1.length:Int)).toNat (IntKind.i64.wrap (e4+(IntKind.i64.wrap (e1 - from1))))))
      )
      (
      (idx L2 r4).bind fun e5 =>
      some (M2,(L2.set (r4).toNat (IntKind.i64.wrap (e5+(IntKind.i64.wrap (e1 - from1))))))
      )
     )
    : Option ((List (Arr3_Int×(List Int)))×(List Int))).bind fun (M4,L4) =>
   some (e1,M4,L4)
   : Option (Int×(List (Arr3_Int×(List Int)))×(List Int))).bind fun (from2,M3,L3) =>
  some (.inl (from2,(IntKind.i64.wrap (v1+1)),M3,L3))
  )
  (
  some (.inr (M2,L2))
  )
def weI (self:((List Rule)->Int->(List (Arr3_Int×(List Int)))->Int->Int->Option ((List Int)×(List (Arr3_Int×(List Int)))))) (o1:(List Rule)) (o2:Int) (m1:(List (Arr3_Int×(List Int)))) (mark1:Int) (a1:Int):Option ((List Int)×(List (Arr3_Int×(List Int)))) :=
 cond ((waQ (⟨mark1,(IntKind.i64.wrap a1),0⟩:Arr3_Int) m1).isSome)
  (
  some (((waQ (⟨mark1,(IntKind.i64.wrap a1),0⟩:Arr3_Int) m1).getD []),m1)
  )
  (
  wah (0<=(IntKind.i64.wrap ((o1.length:Int)+1))/\(IntKind.i64.wrap ((o1.length:Int)+1))<=4294967296) <|
  (
   (we5 mark1 [o1]).bind fun r1 =>
   (wee (wex mark1 a1 o1 o2 self r1) (0,0,m1,(List.replicate ((IntKind.i64.wrap ((o1.length:Int)+1))).toNat (0:Int)))).bind fun x_11 =>
   some x_11
   : Option ((List (Arr3_Int×(List Int)))×(List Int))).bind fun (M1,L1) =>
  some (L1,(wc5 (⟨mark1,(IntKind.i64.wrap a1),0⟩:Arr3_Int) L1 M1))
  )
def wfa:Nat->(List Rule)->Int->(List (Arr3_Int×(List Int)))->Int->Int->Option ((List Int)×(List (Arr3_Int×(List Int))))
 | 0=>fun _ _ _ _ _=>none
 | n+1=>weI (wfa n)
def wgC (k1:Int) (t1:(List Rule)):Option (List Int) :=
 (weG t1).bind fun r1 =>
 (wfa 100 t1 k1 [] 0 r1).bind fun r2 =>
 (whz r2.1).bind fun r3 =>
 some r3
def wf3 (t1:(List Rule)) (r2:(List Int)):(Int×(List Int))->Option ((Int×(List Int)) ⊕ (List Int)):=fun (v1,L2) =>
 cond (decide (v1 < ((r2.take (((t1.length:Int):Int) - 0).toNat).length:Int)))
  (
  (
   (idx (r2.take (((t1.length:Int):Int) - 0).toNat) v1).bind fun e1 =>
   cond (decide (e1=0))
    (
    wah (L2.length+[v1].length<=4294967296) <|
    some (L2++[v1])
    )
    (
    some L2
    )
   : Option (List Int)).bind fun L3 =>
  some (.inl ((IntKind.i64.wrap (v1+1)),L3))
  )
  (
  some (.inr L2)
  )
def whJ (k1:Int) (t1:(List Rule)):Option ((List Int)×Int) :=
 (wd8 k1 [t1]).bind fun r1 =>
 cond (decide (¬r1=0))
  (
  some ([],r1)
  )
  (
  (
   (wgC k1 t1).bind fun r2 =>
   wah (0<=0/\0<=(t1.length:Int)/\(t1.length:Int)<=(r2.length:Int)) <|
   (wee (wf3 t1 r2) (0,[])).bind fun x_12 =>
   some x_12
   : Option (List Int)).bind fun L1 =>
  some (L1,0)
  )
def wg6 (i1:Int) (v1:Int):Option Bool :=
 some (decide (i1 < 0))
def wc6 (mark1:Int) (a1:Int) (b1:Int) (o1:Walker) (self:(Walker->(List (Arr3_Int×Bool))->Int->Int->Int->Option ((List Int)×Bool×(List (Arr3_Int×Bool))))) (r4:(List Int)):(Int×Int×(List (Arr3_Int×Bool)))->Option ((Int×Int×(List (Arr3_Int×Bool))) ⊕ ((List (Arr3_Int×Bool)) ⊕ ((List Int)×Bool×(List (Arr3_Int×Bool))))):=fun (from1,v1,M2) =>
 cond (decide (v1 < (r4.length:Int)))
  (
  (idx r4 v1).bind fun e1 =>
  (wek o1.s mark1 from1).bind fun r5 =>
  (wek o1.t mark1 from1).bind fun r6 =>
  (self o1 M2 (IntKind.i64.wrap (mark1+1)) (IntKind.u32.wrap ↑(BitVec.ofInt IntKind.u32.bits a1 &&& BitVec.ofInt IntKind.u32.bits r5).toNat) (IntKind.u32.wrap ↑(BitVec.ofInt IntKind.u32.bits b1 &&& BitVec.ofInt IntKind.u32.bits r6).toNat)).bind fun r7 =>
  cond r7.2.1
   (
   wah (1+r7.1.length<=4294967296) <|
   some (.inr (.inr (([from1]++r7.1),true,r7.2.2)))
   )
   (
   some (.inl (e1,(IntKind.i64.wrap (v1+1)),r7.2.2))
   )
  )
  (
  some (.inr (.inl M2))
  )
def wdg (self:(Walker->(List (Arr3_Int×Bool))->Int->Int->Int->Option ((List Int)×Bool×(List (Arr3_Int×Bool))))) (o1:Walker) (m1:(List (Arr3_Int×Bool))) (mark1:Int) (a1:Int) (b1:Int):Option ((List Int)×Bool×(List (Arr3_Int×Bool))) :=
 cond (decide (mark1=o1.k))
  (
  (wc1 a1).bind fun r1 =>
  (wc1 b1).bind fun r2 =>
  (wg6 r1 r2).bind fun r3 =>
  some ([],r3,m1)
  )
  (
  cond ((waQ (⟨mark1,(IntKind.i64.wrap a1),(IntKind.i64.wrap b1)⟩:Arr3_Int) m1).getD false)
   (
   some ([],false,m1)
   )
   (
   (
   (
    (we5 mark1 [o1.s,o1.t]).bind fun r4 =>
    (
    (wee (wc6 mark1 a1 b1 o1 self r4) (0,0,m1)).bind fun x_15=>match x_15 with
      | (.inl y1)=>some (.inl y1)
      | (.inr y2)=>some (.inr y2)
    )
    : Option ((List (Arr3_Int×Bool)) ⊕ ((List Int)×Bool×(List (Arr3_Int×Bool))))).bind fun o_8=>match o_8 with
     | (.inl M1) =>
       some ([],false,(wc5 (⟨mark1,(IntKind.i64.wrap a1),(IntKind.i64.wrap b1)⟩:Arr3_Int) true M1))
     | (.inr y3)=>some y3
   )
   )
  )
def wdt:Nat->Walker->(List (Arr3_Int×Bool))->Int->Int->Int->Option ((List Int)×Bool×(List (Arr3_Int×Bool)))
 | 0=>fun _ _ _ _ _=>none
 | n+1=>wdg (wdt n)
def wd9 (w1:Walker):Option ((List Int)×Bool) :=
 (weG w1.s).bind fun r1 =>
 (weG w1.t).bind fun r2 =>
 (wdt 100 w1 [] 0 r1 r2).bind fun r3 =>
 some (r3.1,r3.2.1)
def wg7 (l1:(List Int)) (ok1:Bool):Option ((List Int)×Int) :=
 cond (!ok1)
  (
  some ([],10)
  )
  (
  some (l1,0)
  )
def wig (k1:Int) (t1:(List Rule)):Option ((List Int)×Int) :=
 (wd8 k1 [t1]).bind fun r1 =>
 cond (decide (¬r1=0))
  (
  some ([],r1)
  )
  (
  (wd9 (⟨k1,t1,[]⟩:Walker)).bind fun r2 =>
  (wg7 r2.1 r2.2).bind fun r3 =>
  some (r3.1,r3.2)
  )
def wef (o1:Builder) (a1:Int):Option (Int×Builder) :=
 (wc1 a1).bind fun r1 =>
 cond (decide (r1 < 0))
  (
  some ((-1),o1)
  )
  (
  (idx o1.rules r1).bind fun e1 =>
  some ((IntKind.i64.wrap ((-2) - e1.Code)),o1)
  )
def wfu (ends1:(List Int)) (to1:(List Int)):(Int×(List Int)×(List Int))->Option ((Int×(List Int)×(List Int)) ⊕ ((List Int)×(List Int))):=fun (v1,L3,L4) =>
 cond (decide (v1 < (to1.length:Int)))
  (
  (
   (idx to1 v1).bind fun e1 =>
   ((cond (decide (0 < (L4.length:Int)))
    (
     (idx L4 (IntKind.i64.wrap ((L4.length:Int) - 1))).bind fun e2 =>
     some (decide (e2=e1))
    )
    (some false)
   ):Option Bool).bind fun b1 =>
   cond b1
    (
    (idx ends1 v1).bind fun e3 =>
    (idx L3 (IntKind.i64.wrap ((L4.length:Int) - 1))).bind fun e4 =>
    some ((L3.set ((IntKind.i64.wrap ((L4.length:Int) - 1))).toNat e3),L4)
    )
    (
    (idx ends1 v1).bind fun e5 =>
    wah (L3.length+[e5].length<=4294967296) <|
    wah (L4.length+[e1].length<=4294967296) <|
    some ((L3++[e5]),(L4++[e1]))
    )
   : Option ((List Int)×(List Int))).bind fun (L5,L6) =>
  some (.inl ((IntKind.i64.wrap (v1+1)),L5,L6))
  )
  (
  some (.inr (L3,L4))
  )
def wgD (ends1:(List Int)) (to1:(List Int)):Option ((List Int)×(List Int)) :=
 (
  (wee (wfu ends1 to1) (0,[],[])).bind fun x_7 =>
  some x_7
  : Option ((List Int)×(List Int))).bind fun (L1,L2) =>
 some (L1,L2)
def wdP (e1:(List Int)):(Int×Bool×(List Int))->Option ((Int×Bool×(List Int)) ⊕ (Bool×(List Int))):=fun (v2,c5,L5) =>
 cond (decide (v2 < (e1.length:Int)))
  (
  (idx e1 v2).bind fun e2 =>
  (wrk e2).bind fun r1 =>
  wah (bsz r1+bsz (⟨#[32]⟩:ByteArray)<=4294967296) <|
  (wla (⟨c5,L5⟩:StringsBuilder) (r1++(⟨#[32]⟩:ByteArray))).bind fun r2 =>
  some (.inl ((IntKind.i64.wrap (v2+1)),true,r2.buf))
  )
  (
  some (.inr (c5,L5))
  )
def wdQ (x1:Node):(Int×Bool×(List Int))->Option ((Int×Bool×(List Int)) ⊕ (Bool×(List Int))):=fun (v1,c2,L2) =>
 cond (decide (v1 < ([[x1.Mark],x1.Cuts,x1.To].length:Int)))
  (
  (
   (idx [[x1.Mark],x1.Cuts,x1.To] v1).bind fun e1 =>
   (
    (wee (wdP e1) (0,c2,L2)).bind fun x_23 =>
    some x_23
    : Option (Bool×(List Int))).bind fun (c4,L4) =>
   (wgA (⟨c4,L4⟩:StringsBuilder) 124).bind fun r3 =>
   some (true,r3.buf)
   : Option (Bool×(List Int))).bind fun (c3,L3) =>
  some (.inl ((IntKind.i64.wrap (v1+1)),c3,L3))
  )
  (
  some (.inr (c2,L2))
  )
def weg (o1:Builder) (x1:Node):Option (Int×Builder) :=
 (
  (wee (wdQ x1) (0,false,[])).bind fun x_7 =>
  some x_7
  : Option (Bool×(List Int))).bind fun (c1,L1) =>
 (wfA (⟨c1,L1⟩:StringsBuilder)).bind fun r4 =>
 (
  cond (!((waQ r4 o1.same).isSome))
   (
   (wfA (⟨c1,L1⟩:StringsBuilder)).bind fun r5 =>
   wah (o1.nodes.length+[x1].length<=4294967296) <|
   some ((o1.nodes.length:Int),(wc5 r5 (o1.nodes.length:Int) o1.same),(o1.nodes++[x1]))
   )
   (
   some (((waQ r4 o1.same).getD 0),o1.same,o1.nodes)
   )
  : Option (Int×(List (ByteArray×Int))×(List Node))).bind fun (n1,M1,L6) =>
 some (n1,(⟨o1.k,o1.rules,o1.known,M1,L6⟩:Builder))
def wea (mark1:Int) (a1:Int) (self:(Builder->Int->Int->Option (Int×Builder))) (r2:(List Int)):(Int×Int×Int×(List Rule)×(List (Arr3_Int×Int))×(List (ByteArray×Int))×(List Node)×(List Int))->Option ((Int×Int×Int×(List Rule)×(List (Arr3_Int×Int))×(List (ByteArray×Int))×(List Node)×(List Int)) ⊕ (Int×(List Rule)×(List (Arr3_Int×Int))×(List (ByteArray×Int))×(List Node)×(List Int))):=fun (from1,v1,c3,c4,M3,M4,L3,L4) =>
 cond (decide (v1 < (r2.length:Int)))
  (
  (idx r2 v1).bind fun e1 =>
  (wek c4 mark1 from1).bind fun r3 =>
  (self (⟨c3,c4,M3,M4,L3⟩:Builder) (IntKind.i64.wrap (mark1+1)) (IntKind.u32.wrap ↑(BitVec.ofInt IntKind.u32.bits a1 &&& BitVec.ofInt IntKind.u32.bits r3).toNat)).bind fun r4 =>
  wah (L4.length+[r4.1].length<=4294967296) <|
  some (.inl (e1,(IntKind.i64.wrap (v1+1)),r4.2.k,r4.2.rules,r4.2.known,r4.2.same,r4.2.nodes,(L4++[r4.1])))
  )
  (
  some (.inr (c3,c4,M3,M4,L3,L4))
  )
def weh (self:(Builder->Int->Int->Option (Int×Builder))) (o1:Builder) (mark1:Int) (a1:Int):Option (Int×Builder) :=
 cond (decide (mark1=o1.k))
  (
  (wef o1 a1).bind fun r1 =>
  some (r1.1,r1.2)
  )
  (
  cond ((waQ (⟨mark1,(IntKind.i64.wrap a1),0⟩:Arr3_Int) o1.known).isSome)
   (
   some (((waQ (⟨mark1,(IntKind.i64.wrap a1),0⟩:Arr3_Int) o1.known).getD 0),o1)
   )
   (
   (we5 mark1 [o1.rules]).bind fun r2 =>
   (
    (wee (wea mark1 a1 self r2) (0,0,o1.k,o1.rules,o1.known,o1.same,o1.nodes,[])).bind fun x_13 =>
    some x_13
    : Option (Int×(List Rule)×(List (Arr3_Int×Int))×(List (ByteArray×Int))×(List Node)×(List Int))).bind fun (c1,c2,M1,M2,L1,L2) =>
   (wgD r2 L2).bind fun r5 =>
   (idx r5.2 0).bind fun e2 =>
   (
    cond (decide (1 < (r5.2.length:Int)))
     (
     (weg (⟨c1,c2,M1,M2,L1⟩:Builder) (⟨mark1,r5.1,r5.2⟩:Node)).bind fun r6 =>
     some (r6.1,r6.2.k,r6.2.rules,r6.2.known,r6.2.same,r6.2.nodes)
     )
     (
     some (e2,c1,c2,M1,M2,L1)
     )
    : Option (Int×Int×(List Rule)×(List (Arr3_Int×Int))×(List (ByteArray×Int))×(List Node))).bind fun (n1,c5,c6,M5,M6,L5) =>
   some (n1,(⟨c5,c6,(wc5 (⟨mark1,(IntKind.i64.wrap a1),0⟩:Arr3_Int) n1 M5),M6,L5⟩:Builder))
   )
  )
def weJ:Nat->Builder->Int->Int->Option (Int×Builder)
 | 0=>fun _ _ _=>none
 | n+1=>weh (weJ n)
def wc7 (l1:(List Node)) (o1:Builder) (self:((List (Int×Int))->(List Node)->Builder->Int->Option (Int×(List (Int×Int))×(List Node)))) (e2:Node):(Int×(List (Int×Int))×(List Node))->Option ((Int×(List (Int×Int))×(List Node)) ⊕ ((List (Int×Int))×(List Node))):=fun (v1,M2,L2) =>
 cond (decide (v1 < (e2.To.length:Int)))
  (
  (idx e2.To v1).bind fun e3 =>
  (self M2 L2 o1 e3).bind fun r2 =>
  (idx r2.2.2 (l1.length:Int)).bind fun e4 =>
  wah (e4.To.length+[r2.1].length<=4294967296) <|
  some (.inl ((IntKind.i64.wrap (v1+1)),r2.2.1,(r2.2.2.set (((l1.length:Int)).toNat) (⟨e4.Mark,e4.Cuts,(e4.To++[r2.1])⟩:Node))))
  )
  (
  some (.inr (M2,L2))
  )
def wdh (self:((List (Int×Int))->(List Node)->Builder->Int->Option (Int×(List (Int×Int))×(List Node)))) (m1:(List (Int×Int))) (l1:(List Node)) (o1:Builder) (n1:Int):Option (Int×(List (Int×Int))×(List Node)) :=
 cond (decide (n1 < 0))
  (
  some (n1,m1,l1)
  )
  (
  cond ((waQ n1 m1).isSome)
   (
   some (((waQ n1 m1).getD 0),m1,l1)
   )
   (
   (idx o1.nodes n1).bind fun e1 =>
   (whz e1.Cuts).bind fun r1 =>
   wah (l1.length+1<=4294967296) <|
   (
    (idx o1.nodes n1).bind fun e2 =>
    (wee (wc7 l1 o1 self e2) (0,(wc5 n1 (l1.length:Int) m1),(l1++[(⟨e1.Mark,r1,[]⟩:Node)]))).bind fun x_21 =>
    some x_21
    : Option ((List (Int×Int))×(List Node))).bind fun (M1,L1) =>
   some ((l1.length:Int),M1,L1)
   )
  )
def wdu:Nat->(List (Int×Int))->(List Node)->Builder->Int->Option (Int×(List (Int×Int))×(List Node))
 | 0=>fun _ _ _ _=>none
 | n+1=>wdh (wdu n)
def wdR (o1:Builder) (top1:Int):Option ((List Node)×Builder) :=
 (wdu 100 [] [] o1 top1).bind fun r1 =>
 some (r1.2.2,o1)
def wf4 (k1:Int) (t1:(List Rule)):Option ((List Node)×Int) :=
 (wd8 k1 [t1]).bind fun r1 =>
 cond (decide (¬r1=0))
  (
  some ([],r1)
  )
  (
  (weG t1).bind fun r2 =>
  (weJ 100 (⟨k1,t1,[],[],[]⟩:Builder) 0 r2).bind fun r3 =>
  cond (decide (r3.1 < 0))
   (
   some ([(⟨0,[1000],[r3.1]⟩:Node)],0)
   )
   (
   (wdR r3.2 r3.1).bind fun r4 =>
   some (r4.1,0)
   )
  )
def weK (a1:(List Int)) (b1:(List Int)):Int->Option (Int ⊕ (Unit ⊕ Bool)):=fun i1 =>
 cond (decide (i1 < (a1.length:Int)))
  (
  (idx a1 i1).bind fun e1 =>
  (idx b1 i1).bind fun e2 =>
  cond (decide (¬e1=e2))
   (
   some (.inr (.inr false))
   )
   (
   some (.inl (IntKind.i64.wrap (i1+1)))
   )
  )
  (
  some (.inr (.inl ()))
  )
def wdF (a1:(List Int)) (b1:(List Int)):Option Bool :=
 cond (decide (¬(a1.length:Int)=(b1.length:Int)))
  (
  some false
  )
  (
  (
  (
   (
   (wee (weK a1 b1) 0).bind fun x_9=>match x_9 with
     | (.inl y1)=>some (.inl y1)
     | (.inr y2)=>some (.inr y2)
   )
   : Option (Unit ⊕ Bool)).bind fun o_3=>match o_3 with
    | (.inl _) =>
      some true
    | (.inr y3)=>some y3
  )
  )
def wfb:Option Bool :=
 (wdo).bind fun r1 =>
 (whJ 1 r1).bind fun r2 =>
 (wdo).bind fun r3 =>
 (wig 1 r3).bind fun r4 =>
 (wdo).bind fun r5 =>
 (wf4 1 r5).bind fun r6 =>
 ((cond (decide (r2.2=0))
  (
   (wdF r2.1 [2]).bind fun r7 =>
   some r7
  )
  (some false)
 ):Option Bool).bind fun b1 =>
 ((cond (b1&&(decide (r4.2=0)))
  (
   (wdF r4.1 [20]).bind fun r8 =>
   some r8
  )
  (some false)
 ):Option Bool).bind fun b2 =>
 ((cond ((b2&&(decide (r6.2=0)))&&(decide ((r6.1.length:Int)=1)))
  (
   (idx r6.1 0).bind fun e1 =>
   (wdF e1.To [(-3),(-4),(-1)]).bind fun r9 =>
   some r9
  )
  (some false)
 ):Option Bool).bind fun b3 =>
 some b3
theorem wiV :OLe (wdo) (wch):=by
 intros; unfold wdo wch; try simp only[wax]; try dsimp only
 repeat' (first | exact OLe.refl _ | refine OLe.bind ?_ (fun _=>?_) | refine OLe.cond ?_ ?_ | refine OLe.guard ?_ | refine OLe.iterQ (fun _=>?_) | split)
theorem wlS (k1:Int):OLe (wg5 k1) (wd2 k1):=by
 intros; unfold wg5 wd2; try simp only[wax]; try dsimp only
 repeat' (first | exact OLe.refl _ | refine OLe.bind ?_ (fun _=>?_) | refine OLe.cond ?_ ?_ | refine OLe.guard ?_ | refine OLe.iterQ (fun _=>?_) | split)
theorem wlh (b1:Band):OLe (wgB b1) (wdJ b1):=by
 intros; unfold wgB wdJ; try simp only[wax]; try dsimp only
 repeat' (first | exact OLe.refl _ | refine OLe.bind ?_ (fun _=>?_) | refine OLe.cond ?_ ?_ | refine OLe.guard ?_ | refine OLe.iterQ (fun _=>?_) | split)
theorem wfK (s1:(List Band)):∀ e0_,OLe (wde s1 e0_) (wbQ s1 e0_):=by
 intros; unfold wde wbQ; try simp only[wax]; try dsimp only
 repeat' (first | exact OLe.refl _ | exact wlh _ | refine OLe.bind ?_ (fun _=>?_) | refine OLe.cond ?_ ?_ | refine OLe.guard ?_ | refine OLe.iterQ (fun _=>?_) | split)
theorem wgE (s1:(List Band)):OLe (wdE s1) (wbj s1):=by
 intros; unfold wdE wbj; try simp only[wax]; try dsimp only
 repeat' (first | exact OLe.refl _ | exact wfK _ _ | refine OLe.bind ?_ (fun _=>?_) | refine OLe.cond ?_ ?_ | refine OLe.guard ?_ | refine OLe.iterQ (fun _=>?_) | split)
theorem wfL (s1:(List Band)):OLe (wdf s1) (waY s1):=by
 intros; unfold wdf waY; try simp only[wax]; try dsimp only
 repeat' (first | exact OLe.refl _ | exact wgE _ | refine OLe.bind ?_ (fun _=>?_) | refine OLe.cond ?_ ?_ | refine OLe.guard ?_ | refine OLe.iterQ (fun _=>?_) | split)
theorem wmy (k1:Int) (r1:Rule):OLe (whI k1 r1) (wdO k1 r1):=by
 intros; unfold whI wdO; try simp only[wax]; try dsimp only
 repeat' (first | exact OLe.refl _ | exact wfL _ | refine OLe.bind ?_ (fun _=>?_) | refine OLe.cond ?_ ?_ | refine OLe.guard ?_ | refine OLe.iterQ (fun _=>?_) | split)
theorem wiq (r1:Rule) (k1:Int):OLe (weY r1 k1) (wb7 r1 k1):=by
 intros; unfold weY wb7; try simp only[wax]; try dsimp only
 repeat' (first | exact OLe.refl _ | exact wmy _ _ | refine OLe.bind ?_ (fun _=>?_) | refine OLe.cond ?_ ?_ | refine OLe.guard ?_ | refine OLe.iterQ (fun _=>?_) | split)
theorem wgk (s1:(List Rule)) (f1:Int):∀ e0_,OLe (wdr s1 f1 e0_) (wbY s1 f1 e0_):=by
 intros; unfold wdr wbY; try simp only[wax]; try dsimp only
 repeat' (first | exact OLe.refl _ | exact wiq _ _ | refine OLe.bind ?_ (fun _=>?_) | refine OLe.cond ?_ ?_ | refine OLe.guard ?_ | refine OLe.iterQ (fun _=>?_) | split)
theorem wg8 (s1:(List Rule)) (f1:Int):OLe (wdW s1 f1) (wbt s1 f1):=by
 intros; unfold wdW wbt; try simp only[wax]; try dsimp only
 repeat' (first | exact OLe.refl _ | exact wgk _ _ _ | refine OLe.bind ?_ (fun _=>?_) | refine OLe.cond ?_ ?_ | refine OLe.guard ?_ | refine OLe.iterQ (fun _=>?_) | split)
theorem wgl (s1:(List Rule)) (f1:Int):OLe (wds s1 f1) (waT s1 f1):=by
 intros; unfold wds waT; try simp only[wax]; try dsimp only
 repeat' (first | exact OLe.refl _ | exact wg8 _ _ | refine OLe.bind ?_ (fun _=>?_) | refine OLe.cond ?_ ?_ | refine OLe.guard ?_ | refine OLe.iterQ (fun _=>?_) | split)
theorem wiW (k1:Int) (ts1:(List (List Rule))):∀ e0_,OLe (we9 k1 ts1 e0_) (wbU k1 ts1 e0_):=by
 intros; unfold we9 wbU; try simp only[wax]; try dsimp only
 repeat' (first | exact OLe.refl _ | exact wgl _ _ | refine OLe.bind ?_ (fun _=>?_) | refine OLe.cond ?_ ?_ | refine OLe.guard ?_ | refine OLe.iterQ (fun _=>?_) | split)
theorem wfc (k1:Int) (ts1:(List (List Rule))):OLe (wd8 k1 ts1) (wb8 k1 ts1):=by
 intros; unfold wd8 wb8; try simp only[wax]; try dsimp only
 repeat' (first | exact OLe.refl _ | exact wlS _ | exact wiW _ _ _ | refine OLe.bind ?_ (fun _=>?_) | refine OLe.cond ?_ ?_ | refine OLe.guard ?_ | refine OLe.iterQ (fun _=>?_) | split)
theorem wgF (t1:(List Rule)):OLe (weG t1) (wcL t1):=by
 intros; unfold weG wcL; try simp only[wax]; try dsimp only
 repeat' (first | exact OLe.refl _ | refine OLe.bind ?_ (fun _=>?_) | refine OLe.cond ?_ ?_ | refine OLe.guard ?_ | refine OLe.iterQ (fun _=>?_) | split)
theorem wky (mark1:Int) (e1:(List Rule)):∀ e0_,OLe (wf0 mark1 e1 e0_) (wcQ mark1 e1 e0_):=by
 intros; unfold wf0 wcQ; try simp only[wax]; try dsimp only
 repeat' (first | exact OLe.refl _ | refine OLe.bind ?_ (fun _=>?_) | refine OLe.cond ?_ ?_ | refine OLe.guard ?_ | refine OLe.iterQ (fun _=>?_) | split)
theorem wkz (mark1:Int) (ts1:(List (List Rule))):∀ e0_,OLe (wf1 mark1 ts1 e0_) (wcR mark1 ts1 e0_):=by
 intros; unfold wf1 wcR; try simp only[wax]; try dsimp only
 repeat' (first | exact OLe.refl _ | exact wky _ _ _ | refine OLe.bind ?_ (fun _=>?_) | refine OLe.cond ?_ ?_ | refine OLe.guard ?_ | refine OLe.iterQ (fun _=>?_) | split)
theorem wf5 (mark1:Int) (ts1:(List (List Rule))):OLe (we5 mark1 ts1) (wbL mark1 ts1):=by
 intros; unfold we5 wbL; try simp only[wax]; try dsimp only
 repeat' (first | exact OLe.refl _ | exact wkz _ _ _ | refine OLe.bind ?_ (fun _=>?_) | refine OLe.cond ?_ ?_ | refine OLe.guard ?_ | refine OLe.iterQ (fun _=>?_) | split)
theorem wkA (t1:(List Rule)) (mark1:Int) (value1:Int):∀ e0_,OLe (wf2 t1 mark1 value1 e0_) (wcS t1 mark1 value1 e0_):=by
 intros; unfold wf2 wcS; try simp only[wax]; try dsimp only
 repeat' (first | exact OLe.refl _ | refine OLe.bind ?_ (fun _=>?_) | refine OLe.cond ?_ ?_ | refine OLe.guard ?_ | refine OLe.iterQ (fun _=>?_) | split)
theorem wf6 (t1:(List Rule)) (mark1:Int) (value1:Int):OLe (wek t1 mark1 value1) (wca t1 mark1 value1):=by
 intros; unfold wek wca; try simp only[wax]; try dsimp only
 repeat' (first | exact OLe.refl _ | exact wkA _ _ _ _ | refine OLe.bind ?_ (fun _=>?_) | refine OLe.cond ?_ ?_ | refine OLe.guard ?_ | refine OLe.iterQ (fun _=>?_) | split)
theorem wih (s1:Int):∀ e0_,OLe (weH s1 e0_) (wbF s1 e0_):=by
 intros; unfold weH wbF; try simp only[wax]; try dsimp only
 repeat' (first | exact OLe.refl _ | refine OLe.bind ?_ (fun _=>?_) | refine OLe.cond ?_ ?_ | refine OLe.guard ?_ | refine OLe.iterQ (fun _=>?_) | split)
theorem weL (s1:Int):OLe (wc1 s1) (wbv s1):=by
 intros; unfold wc1 wbv; try simp only[wax]; try dsimp only
 repeat' (first | exact OLe.refl _ | exact wih _ _ | refine OLe.bind ?_ (fun _=>?_) | refine OLe.cond ?_ ?_ | refine OLe.guard ?_ | refine OLe.iterQ (fun _=>?_) | split)
theorem wh0 (from1:Int) (e1:Int) (r3:((List Int)×(List (Arr3_Int×(List Int))))):∀ e0_,OLe (wew from1 e1 r3 e0_) (wdA from1 e1 r3 e0_):=by
 intros; unfold wew wdA; try simp only[wax]; try dsimp only
 repeat' (first | exact OLe.refl _ | refine OLe.bind ?_ (fun _=>?_) | refine OLe.cond ?_ ?_ | refine OLe.guard ?_ | refine OLe.iterQ (fun _=>?_) | split)
theorem wh1 (mark1:Int) (a1:Int) (o1:(List Rule)) (o2:Int) (self self':((List Rule)->Int->(List (Arr3_Int×(List Int)))->Int->Int->Option ((List Int)×(List (Arr3_Int×(List Int)))))) (hself:∀ x0 x1 x2 x3 x4,OLe (self x0 x1 x2 x3 x4) (self' x0 x1 x2 x3 x4)) (r1:(List Int)):∀ e0_,OLe (wex mark1 a1 o1 o2 self r1 e0_) (wdB mark1 a1 o1 o2 self' r1 e0_):=by
 intros; unfold wex wdB; try simp only[wax]; try dsimp only
 repeat' (first | exact OLe.refl _ | exact wf6 _ _ _ | exact wh0 _ _ _ _ | exact weL _ | exact hself _ _ _ _ _ | refine OLe.bind ?_ (fun _=>?_) | refine OLe.cond ?_ ?_ | refine OLe.guard ?_ | refine OLe.iterQ (fun _=>?_) | split)
theorem wii (self self':((List Rule)->Int->(List (Arr3_Int×(List Int)))->Int->Int->Option ((List Int)×(List (Arr3_Int×(List Int)))))) (hself:∀ x0 x1 x2 x3 x4,OLe (self x0 x1 x2 x3 x4) (self' x0 x1 x2 x3 x4)) (o1:(List Rule)) (o2:Int) (m1:(List (Arr3_Int×(List Int)))) (mark1:Int) (a1:Int):OLe (weI self o1 o2 m1 mark1 a1) (wcX self' o1 o2 m1 mark1 a1):=by
 intros; unfold weI wcX; try simp only[wax]; try dsimp only
 repeat' (first | exact OLe.refl _ | exact wf5 _ _ | exact wh1 _ _ _ _ _ _ (by assumption) _ _ | exact hself _ _ _ _ _ | refine OLe.bind ?_ (fun _=>?_) | refine OLe.cond ?_ ?_ | refine OLe.guard ?_ | refine OLe.iterQ (fun _=>?_) | split)
theorem wiX :∀ e0_ e1_ e2_ e3_ e4_ e5_,OLe (wfa e0_ e1_ e2_ e3_ e4_ e5_) (wdn e0_ e1_ e2_ e3_ e4_ e5_):=by
 intro e0_; induction e0_ with
 | zero=>intros; exact fun _ h=>nomatch h
 | succ k ih=>intro e1_ e2_ e3_ e4_ e5_; exact wii _ _ ih _ _ _ _ _
theorem wli (k1:Int) (t1:(List Rule)):OLe (wgC k1 t1) (wep k1 t1):=by
 intros; unfold wgC wep; try simp only[wax]; try dsimp only
 repeat' (first | exact OLe.refl _ | exact wgF _ | exact wiX _ _ _ _ _ _ | refine OLe.bind ?_ (fun _=>?_) | refine OLe.cond ?_ ?_ | refine OLe.guard ?_ | refine OLe.iterQ (fun _=>?_) | split)
theorem wkB (t1:(List Rule)) (r2:(List Int)):∀ e0_,OLe (wf3 t1 r2 e0_) (weX t1 r2 e0_):=by
 intros; unfold wf3 weX; try simp only[wax]; try dsimp only
 repeat' (first | exact OLe.refl _ | refine OLe.bind ?_ (fun _=>?_) | refine OLe.cond ?_ ?_ | refine OLe.guard ?_ | refine OLe.iterQ (fun _=>?_) | split)
theorem wmz (k1:Int) (t1:(List Rule)):OLe (whJ k1 t1) (we4 k1 t1):=by
 intros; unfold whJ we4; try simp only[wax]; try dsimp only
 repeat' (first | exact OLe.refl _ | exact wfc _ _ | exact wli _ _ | exact wkB _ _ _ | refine OLe.bind ?_ (fun _=>?_) | refine OLe.cond ?_ ?_ | refine OLe.guard ?_ | refine OLe.iterQ (fun _=>?_) | split)
theorem wlT (i1:Int) (v1:Int):OLe (wg6 i1 v1) (weE i1 v1):=by
 intros; unfold wg6 weE; try simp only[wax]; try dsimp only
 repeat' (first | exact OLe.refl _ | refine OLe.bind ?_ (fun _=>?_) | refine OLe.cond ?_ ?_ | refine OLe.guard ?_ | refine OLe.iterQ (fun _=>?_) | split)
theorem wfF (mark1:Int) (a1:Int) (b1:Int) (o1:Walker) (self self':(Walker->(List (Arr3_Int×Bool))->Int->Int->Int->Option ((List Int)×Bool×(List (Arr3_Int×Bool))))) (hself:∀ x0 x1 x2 x3 x4,OLe (self x0 x1 x2 x3 x4) (self' x0 x1 x2 x3 x4)) (r4:(List Int)):∀ e0_,OLe (wc6 mark1 a1 b1 o1 self r4 e0_) (wcc mark1 a1 b1 o1 self' r4 e0_):=by
 intros; unfold wc6 wcc; try simp only[wax]; try dsimp only
 repeat' (first | exact OLe.refl _ | exact wf6 _ _ _ | exact hself _ _ _ _ _ | refine OLe.bind ?_ (fun _=>?_) | refine OLe.cond ?_ ?_ | refine OLe.guard ?_ | refine OLe.iterQ (fun _=>?_) | split)
theorem wfM (self self':(Walker->(List (Arr3_Int×Bool))->Int->Int->Int->Option ((List Int)×Bool×(List (Arr3_Int×Bool))))) (hself:∀ x0 x1 x2 x3 x4,OLe (self x0 x1 x2 x3 x4) (self' x0 x1 x2 x3 x4)) (o1:Walker) (m1:(List (Arr3_Int×Bool))) (mark1:Int) (a1:Int) (b1:Int):OLe (wdg self o1 m1 mark1 a1 b1) (wbR self' o1 m1 mark1 a1 b1):=by
 intros; unfold wdg wbR; try simp only[wax]; try dsimp only
 repeat' (first | exact OLe.refl _ | exact weL _ | exact wlT _ _ | exact wf5 _ _ | exact wfF _ _ _ _ _ _ (by assumption) _ _ | exact hself _ _ _ _ _ | refine OLe.bind ?_ (fun _=>?_) | refine OLe.cond ?_ ?_ | refine OLe.guard ?_ | refine OLe.iterQ (fun _=>?_) | split)
theorem wgm :∀ e0_ e1_ e2_ e3_ e4_ e5_,OLe (wdt e0_ e1_ e2_ e3_ e4_ e5_) (wbZ e0_ e1_ e2_ e3_ e4_ e5_):=by
 intro e0_; induction e0_ with
 | zero=>intros; exact fun _ h=>nomatch h
 | succ k ih=>intro e1_ e2_ e3_ e4_ e5_; exact wfM _ _ ih _ _ _ _ _
theorem whA (w1:Walker):OLe (wd9 w1) (wcy w1):=by
 intros; unfold wd9 wcy; try simp only[wax]; try dsimp only
 repeat' (first | exact OLe.refl _ | exact wgF _ | exact wgm _ _ _ _ _ _ | refine OLe.bind ?_ (fun _=>?_) | refine OLe.cond ?_ ?_ | refine OLe.guard ?_ | refine OLe.iterQ (fun _=>?_) | split)
theorem wlU (l1:(List Int)) (ok1:Bool):OLe (wg7 l1 ok1) (weF l1 ok1):=by
 intros; unfold wg7 weF; try simp only[wax]; try dsimp only
 repeat' (first | exact OLe.refl _ | refine OLe.bind ?_ (fun _=>?_) | refine OLe.cond ?_ ?_ | refine OLe.guard ?_ | refine OLe.iterQ (fun _=>?_) | split)
theorem wni (k1:Int) (t1:(List Rule)):OLe (wig k1 t1) (wft k1 t1):=by
 intros; unfold wig wft; try simp only[wax]; try dsimp only
 repeat' (first | exact OLe.refl _ | exact wfc _ _ | exact whA _ | exact wlU _ _ | refine OLe.bind ?_ (fun _=>?_) | refine OLe.cond ?_ ?_ | refine OLe.guard ?_ | refine OLe.iterQ (fun _=>?_) | split)
theorem whK (o1:Builder) (a1:Int):OLe (wef o1 a1) (wbI o1 a1):=by
 intros; unfold wef wbI; try simp only[wax]; try dsimp only
 repeat' (first | exact OLe.refl _ | exact weL _ | refine OLe.bind ?_ (fun _=>?_) | refine OLe.cond ?_ ?_ | refine OLe.guard ?_ | refine OLe.iterQ (fun _=>?_) | split)
theorem wjj (ends1:(List Int)) (to1:(List Int)):∀ e0_,OLe (wfu ends1 to1 e0_) (wbw ends1 to1 e0_):=by
 intros; unfold wfu wbw; try simp only[wax]; try dsimp only
 repeat' (first | exact OLe.refl _ | refine OLe.bind ?_ (fun _=>?_) | refine OLe.cond ?_ ?_ | refine OLe.guard ?_ | refine OLe.iterQ (fun _=>?_) | split)
theorem wlj (ends1:(List Int)) (to1:(List Int)):OLe (wgD ends1 to1) (wdd ends1 to1):=by
 intros; unfold wgD wdd; try simp only[wax]; try dsimp only
 repeat' (first | exact OLe.refl _ | exact wjj _ _ _ | refine OLe.bind ?_ (fun _=>?_) | refine OLe.cond ?_ ?_ | refine OLe.guard ?_ | refine OLe.iterQ (fun _=>?_) | split)
theorem wgM (e1:(List Int)):∀ e0_,OLe (wdP e1 e0_) (wa2 e1 e0_):=by
 intros; unfold wdP wa2; try simp only[wax]; try dsimp only
 repeat' (first | exact OLe.refl _ | exact wsG _ | refine OLe.bind ?_ (fun _=>?_) | refine OLe.cond ?_ ?_ | refine OLe.guard ?_ | refine OLe.iterQ (fun _=>?_) | split)
theorem wgN (x1:Node):∀ e0_,OLe (wdQ x1 e0_) (waP x1 e0_):=by
 intros; unfold wdQ waP; try simp only[wax]; try dsimp only
 repeat' (first | exact OLe.refl _ | exact wgM _ _ | refine OLe.bind ?_ (fun _=>?_) | refine OLe.cond ?_ ?_ | refine OLe.guard ?_ | refine OLe.iterQ (fun _=>?_) | split)
theorem whL (o1:Builder) (x1:Node):OLe (weg o1 x1) (wa9 o1 x1):=by
 intros; unfold weg wa9; try simp only[wax]; try dsimp only
 repeat' (first | exact OLe.refl _ | exact wgN _ _ | refine OLe.bind ?_ (fun _=>?_) | refine OLe.cond ?_ ?_ | refine OLe.guard ?_ | refine OLe.iterQ (fun _=>?_) | split)
theorem whB (mark1:Int) (a1:Int) (self self':(Builder->Int->Int->Option (Int×Builder))) (hself:∀ x0 x1 x2,OLe (self x0 x1 x2) (self' x0 x1 x2)) (r2:(List Int)):∀ e0_,OLe (wea mark1 a1 self r2 e0_) (wbk mark1 a1 self' r2 e0_):=by
 intros; unfold wea wbk; try simp only[wax]; try dsimp only
 repeat' (first | exact OLe.refl _ | exact wf6 _ _ _ | exact hself _ _ _ | refine OLe.bind ?_ (fun _=>?_) | refine OLe.cond ?_ ?_ | refine OLe.guard ?_ | refine OLe.iterQ (fun _=>?_) | split)
theorem whM (self self':(Builder->Int->Int->Option (Int×Builder))) (hself:∀ x0 x1 x2,OLe (self x0 x1 x2) (self' x0 x1 x2)) (o1:Builder) (mark1:Int) (a1:Int):OLe (weh self o1 mark1 a1) (wbJ self' o1 mark1 a1):=by
 intros; unfold weh wbJ; try simp only[wax]; try dsimp only
 repeat' (first | exact OLe.refl _ | exact whK _ _ | exact wf5 _ _ | exact whB _ _ _ _ (by assumption) _ _ | exact wlj _ _ | exact whL _ _ | exact hself _ _ _ | refine OLe.bind ?_ (fun _=>?_) | refine OLe.cond ?_ ?_ | refine OLe.guard ?_ | refine OLe.iterQ (fun _=>?_) | split)
theorem wij :∀ e0_ e1_ e2_ e3_,OLe (weJ e0_ e1_ e2_ e3_) (wa6 e0_ e1_ e2_ e3_):=by
 intro e0_; induction e0_ with
 | zero=>intros; exact fun _ h=>nomatch h
 | succ k ih=>intro e1_ e2_ e3_; exact whM _ _ ih _ _ _
theorem wfG (l1:(List Node)) (o1:Builder) (self self':((List (Int×Int))->(List Node)->Builder->Int->Option (Int×(List (Int×Int))×(List Node)))) (hself:∀ x0 x1 x2 x3,OLe (self x0 x1 x2 x3) (self' x0 x1 x2 x3)) (e2:Node):∀ e0_,OLe (wc7 l1 o1 self e2 e0_) (waI l1 o1 self' e2 e0_):=by
 intros; unfold wc7 waI; try simp only[wax]; try dsimp only
 repeat' (first | exact OLe.refl _ | exact hself _ _ _ _ | refine OLe.bind ?_ (fun _=>?_) | refine OLe.cond ?_ ?_ | refine OLe.guard ?_ | refine OLe.iterQ (fun _=>?_) | split)
theorem wfN (self self':((List (Int×Int))->(List Node)->Builder->Int->Option (Int×(List (Int×Int))×(List Node)))) (hself:∀ x0 x1 x2 x3,OLe (self x0 x1 x2 x3) (self' x0 x1 x2 x3)) (m1:(List (Int×Int))) (l1:(List Node)) (o1:Builder) (n1:Int):OLe (wdh self m1 l1 o1 n1) (waZ self' m1 l1 o1 n1):=by
 intros; unfold wdh waZ; try simp only[wax]; try dsimp only
 repeat' (first | exact OLe.refl _ | exact wfG _ _ _ _ (by assumption) _ _ | exact hself _ _ _ _ | refine OLe.bind ?_ (fun _=>?_) | refine OLe.cond ?_ ?_ | refine OLe.guard ?_ | refine OLe.iterQ (fun _=>?_) | split)
theorem wgn :∀ e0_ e1_ e2_ e3_ e4_,OLe (wdu e0_ e1_ e2_ e3_ e4_) (waH e0_ e1_ e2_ e3_ e4_):=by
 intro e0_; induction e0_ with
 | zero=>intros; exact fun _ h=>nomatch h
 | succ k ih=>intro e1_ e2_ e3_ e4_; exact wfN _ _ ih _ _ _ _
theorem wgO (o1:Builder) (top1:Int):OLe (wdR o1 top1) (wa3 o1 top1):=by
 intros; unfold wdR wa3; try simp only[wax]; try dsimp only
 repeat' (first | exact OLe.refl _ | exact wgn _ _ _ _ _ | refine OLe.bind ?_ (fun _=>?_) | refine OLe.cond ?_ ?_ | refine OLe.guard ?_ | refine OLe.iterQ (fun _=>?_) | split)
theorem wkC (k1:Int) (t1:(List Rule)):OLe (wf4 k1 t1) (wbD k1 t1):=by
 intros; unfold wf4 wbD; try simp only[wax]; try dsimp only
 repeat' (first | exact OLe.refl _ | exact wfc _ _ | exact wgF _ | exact wij _ _ _ _ | exact wgO _ _ | refine OLe.bind ?_ (fun _=>?_) | refine OLe.cond ?_ ?_ | refine OLe.guard ?_ | refine OLe.iterQ (fun _=>?_) | split)
theorem wik (a1:(List Int)) (b1:(List Int)):∀ e0_,OLe (weK a1 b1 e0_) (waU a1 b1 e0_):=by
 intros; unfold weK waU; try simp only[wax]; try dsimp only
 repeat' (first | exact OLe.refl _ | refine OLe.bind ?_ (fun _=>?_) | refine OLe.cond ?_ ?_ | refine OLe.guard ?_ | refine OLe.iterQ (fun _=>?_) | split)
theorem wjk (a1:(List Int)) (b1:(List Int)):OLe (wdF a1 b1) (wbl a1 b1):=by
 intros; unfold wdF wbl; try simp only[wax]; try dsimp only
 repeat' (first | exact OLe.refl _ | exact wik _ _ _ | refine OLe.bind ?_ (fun _=>?_) | refine OLe.cond ?_ ?_ | refine OLe.guard ?_ | refine OLe.iterQ (fun _=>?_) | split)
theorem wiY :OLe (wfb) (wci):=by
 intros; unfold wfb wci; try simp only[wax]; try dsimp only
 repeat' (first | exact OLe.refl _ | exact wiV  | exact wmz _ _ | exact wni _ _ | exact wkC _ _ | exact wjk _ _ | refine OLe.bind ?_ (fun _=>?_) | refine OLe.cond ?_ ?_ | refine OLe.guard ?_ | refine OLe.iterQ (fun _=>?_) | split)
end Go.Pv

namespace Go.Pv
theorem wpB:wfb=some true:=by decide +kernel
theorem wnj:wci=some true:=wiY _ wpB
end Go.Pv

namespace Go.Pv
def wlk (t:List Rule):Int:=IntKind.i64.wrap ((IntKind.i64.wrap (1*(2 ^ (min ((t.length:Int)).toNat 64)))) - 1)
theorem wiG (t:List Rule):wcE t=some (wlk t):=by
 unfold wcE
 have hz:(0:Int)<=(t.length:Int):=by omega
 simp only[wah,hz,if_true]; rfl
theorem wmd {k:Int} {t:List Rule} (h:chk k [t]=0) (most:Int):∀ (n m:Nat) (out:Int),n=k.toNat - m->∃ v,iter (waw k t most) (out,(m:Int))=some v
 | 0,m,out,hn=>by
  obtain⟨h1,h2,_⟩:=wg3 h
  have h3:decide ((m:Int) < k)=false:=by simp; omega
  rw[wce]
  unfold waw
  simp only[h3,Bool.false_and,cond_false,Option.bind_some]
  exact⟨_,rfl⟩
 | n+1,m,out,hn=>by
  obtain⟨h1,h2,ht,hf⟩:=wg3 h
  have h3:decide ((m:Int) < k)=true:=by simp; omega
  have ih:=fun out=>wmd h most n (m+1) out (by omega)
  rw[wce]
  generalize hf0:waw k t most=f at ih ⊢
  have hff:f (out,(m:Int))=cond (decide (out < most)) (some (.inl (IntKind.i64.wrap (out*((wc3 m (wlk t) 0 t [1000]).length:Int)),IntKind.i64.wrap ((m:Int)+1)))) (some (.inr out)):=by
   rw[<-hf0]; unfold waw
   simp only[h3,Bool.true_and]
   cases decide (out < most)with
   | false=>rfl
   | true=>simp only[cond_true,wiG,Option.bind_some,wj4 t m (wlk t) (by omega) (fun r hr=>by have:=wmx (hf r hr); omega)]
  rw[hff]
  cases decide (out < most)with
  | false=>exact⟨_,rfl⟩
  | true =>
   simp only[cond_true,Option.bind_some]
   rw[wak (by omega:-9223372036854775808<=(m:Int)+1/\(m:Int)+1<=9223372036854775807),show ((m:Int)+1)=((m+1:Nat):Int) by omega]
   exact ih _
theorem wpC (k:Int) (t:List Rule) (most:Int):∃ v,wcC k t most=some v:=by
 unfold wcC
 rw[wlM k t,Option.bind_some]
 by_cases h:chk k [t]=0
 ·rw[decide_eq_false (by simp[h]),cond_false]
  obtain⟨v,hv⟩:=wmd h most k.toNat 0 1 (by omega)
  rw[show ((0:Nat):Int)=0 from rfl]at hv
  rw[hv]; exact⟨_,rfl⟩
 ·rw[decide_eq_true (by simpa using h),cond_true]; exact⟨_,rfl⟩
theorem wpD (t:List Rule):∀ (n i:Nat),n=41 - i->i<=40->∃ v,iter (waG t) (i:Int)=some v
 | 0,i,hn,hi=>by omega
 | n+1,i,hn,hi=>by
  rw[wce]
  by_cases hlt:i < t.length
  ·have h1:decide ((i:Int) < (t.length:Int))=true:=by simp; omega
   have h2:idx t (i:Int)=some t[i]:=by unfold idx; simp[hlt]
   by_cases h40:i=40
   ·have h3:decide (40<=(i:Int))=true:=by simp; omega
    unfold waG
    simp only[h1,h3,cond_true,Option.bind_some]
    exact⟨_,rfl⟩
   ·have h3:decide (40<=(i:Int))=false:=by simp; omega
    have ih:=wpD t n (i+1) (by omega) (by omega)
    generalize hf0:waG t=f at ih ⊢
    have hf:f (i:Int)=cond (decide (20 < (t[i].Bands.length:Int))) (some (.inr (.inr false))) (some (.inl (IntKind.i64.wrap ((i:Int)+1)))):=by
     rw[<-hf0]; unfold waG
     simp only[h1,h3,cond_true,cond_false,Option.bind_some,h2]
    rw[hf]
    cases decide (20 < (t[i].Bands.length:Int))with
    | true=>exact⟨_,rfl⟩
    | false =>
     simp only[cond_false,Option.bind_some]
     rw[wak (by omega),show ((i:Int)+1)=((i+1:Nat):Int) by omega]
     exact ih
  ·have h1:decide ((i:Int) < (t.length:Int))=false:=by simp; omega
   unfold waG
   simp only[h1,cond_false,Option.bind_some]
   exact⟨_,rfl⟩
theorem wrT (k:Int) (t:List Rule):∃ b,wcf k t=some b:=by
 unfold wcf
 obtain⟨v,hv⟩:=wpD t 41 0 (by omega) (by omega)
 rw[show ((0:Nat):Int)=0 from rfl]at hv
 rw[hv]
 cases v with
 | inl u =>
  obtain⟨p,hp⟩:=wpC k t 30000
  simp only[Option.bind_some,hp]; exact⟨_,rfl⟩
 | inr b=>exact⟨b,rfl⟩
end Go.Pv

namespace Go.Pv
end Go.Pv

namespace Go.Pv
end Go.Pv

namespace Go.Pv
theorem wtP {α:Type} [Inhabited α] {l:List α} {i:Int} (h0:0<=i) (h1:i < l.length):idx l i=some (l.getD i.toNat default):=by
 have:i.toNat < l.length:=by omega
 unfold idx; simp[h0,this]
end Go.Pv

namespace Go.Pv
end Go.Pv

namespace Go.Pv
end Go.Pv

namespace Go.Pv
end Go.Pv

namespace Go.Pv
end Go.Pv

namespace Go.Pv
end Go.Pv

namespace Go.Pv
theorem whl {x:Int} (h:0<=x/\x < 4294967296):IntKind.u32.wrap x=x:=by
 have:IntKind.u32.wrap x=x % 4294967296:=by simp[IntKind.wrap,IntKind.bits,IntKind.signed]
 rw[this]; exact Int.emod_eq_of_lt h.1 h.2
theorem wfT {a:Nat} (h:a < 4294967296):(BitVec.ofInt IntKind.u32.bits (a:Int)).toNat=a:=by
 rw[BitVec.toNat_ofInt,show ((2 ^ IntKind.u32.bits:Nat):Int)=4294967296 by decide,Int.emod_eq_of_lt (by omega) (by omega),Int.toNat_natCast]
theorem wkq {a:Nat} (h:a < 4294967296):(BitVec.ofInt IntKind.i64.bits (a:Int)).toNat=a:=by
 rw[BitVec.toNat_ofInt,show ((2 ^ IntKind.i64.bits:Nat):Int)=18446744073709551616 by decide,Int.emod_eq_of_lt (by omega) (by omega),Int.toNat_natCast]
theorem wqC {a b:Nat} (ha:a < 4294967296) (hb:b < 4294967296):IntKind.u32.wrap ↑(BitVec.ofInt IntKind.u32.bits (a:Int) &&& BitVec.ofInt IntKind.u32.bits (b:Int)).toNat=((a &&& b:Nat):Int):=by
 rw[BitVec.toNat_and,wfT ha,wfT hb]
 have:=Nat.and_le_left (n:=a) (m:=b)
 exact whl (by omega)
theorem wtQ {a b:Nat} (ha:a < 4294967296) (hb:b < 4294967296):IntKind.u32.wrap ↑(BitVec.ofInt IntKind.u32.bits (a:Int) ||| BitVec.ofInt IntKind.u32.bits (b:Int)).toNat=((a ||| b:Nat):Int):=by
 rw[BitVec.toNat_or,wfT ha,wfT hb]
 have:a ||| b < 2 ^ 32:=Nat.or_lt_two_pow (by omega) (by omega)
 exact whl (by omega)
theorem wtR {a b:Nat} (ha:a < 4294967296) (hb:b < 4294967296):IntKind.i64.wrap ↑(BitVec.ofInt IntKind.i64.bits (a:Int) ||| BitVec.ofInt IntKind.i64.bits (b:Int)).toNat=((a ||| b:Nat):Int):=by
 rw[BitVec.toNat_or,wkq ha,wkq hb]
 have:a ||| b < 2 ^ 32:=Nat.or_lt_two_pow (by omega) (by omega)
 exact wak (by omega)
theorem wnU {i:Nat} (h:i < 32):IntKind.u32.wrap (1*(2 ^ (min ((i:Int)).toNat 32)))=((2 ^ i:Nat):Int):=by
 rw[Int.toNat_natCast,Nat.min_eq_left (by omega),Int.one_mul]
 have h1:2 ^ i < 2 ^ 32:=Nat.pow_lt_pow_right (by omega) h
 have e:(2:Int) ^ i=((2 ^ i:Nat):Int):=by simp
 rw[e]
 generalize (2:Nat) ^ i=q at h1
 exact whl (by omega)
theorem wqD {i:Nat} (h:i < 32):IntKind.i64.wrap (1*(2 ^ (min ((i:Int)).toNat 64)))=((2 ^ i:Nat):Int):=by
 rw[Int.toNat_natCast,Nat.min_eq_left (by omega),Int.one_mul]
 have h1:2 ^ i < 2 ^ 32:=Nat.pow_lt_pow_right (by omega) h
 have e:(2:Int) ^ i=((2 ^ i:Nat):Int):=by simp
 rw[e]
 generalize (2:Nat) ^ i=q at h1
 exact wak (by omega)
theorem wqE (a i:Nat):a &&& 2 ^ i=cond (a.testBit i) (2 ^ i) 0:=by
 apply Nat.eq_of_testBit_eq
 intro j
 rw[Nat.testBit_and,Nat.testBit_two_pow]
 by_cases h:i=j
 ·subst h
  cases hb:a.testBit i <;> simp[Nat.testBit_two_pow]
 ·cases hb:a.testBit i <;> simp[Nat.testBit_two_pow,h]
theorem wnV (a i:Nat) (hi:i < 64):decide ((((a:Int)).fdiv (2 ^ (min ((i:Int)).toNat 64))).tmod 2=1)=a.testBit i:=by
 rw[Int.toNat_natCast,Nat.min_eq_left (by omega)]
 have e:(2:Int) ^ i=((2 ^ i:Nat):Int):=by simp
 rw[e,Int.fdiv_eq_ediv_of_nonneg _ (Int.natCast_nonneg _),<-Int.natCast_ediv,Int.tmod_eq_emod_of_nonneg (Int.natCast_nonneg _)]
 rw[Nat.testBit_eq_decide_div_mod_eq,decide_eq_decide]
 omega
theorem wsH {a i:Nat} (ha:a < 4294967296) (hi:i < 32):decide (¬(IntKind.u32.wrap ↑(BitVec.ofInt IntKind.u32.bits (a:Int) &&& BitVec.ofInt IntKind.u32.bits (IntKind.u32.wrap (1*(2 ^ (min ((i:Int)).toNat 32))))).toNat)=0)=a.testBit i:=by
 have h1:2 ^ i < 2 ^ 32:=Nat.pow_lt_pow_right (by omega) hi
 rw[wnU hi,wqC ha (by omega),wqE]
 have h2:0 < 2 ^ i:=Nat.two_pow_pos i
 generalize (2:Nat) ^ i=q at h2
 cases a.testBit i with
 | true=>rw[cond_true]; exact decide_eq_true (by omega)
 | false=>rfl
def wfU {α:Type} (p:α->Bool):Nat->List α->Nat
 | _,[]=>0
 | i,x::l=>(cond (p x) (2 ^ i) 0) ||| wfU p (i+1) l
theorem wiH {α:Type} (p:α->Bool):∀ (l:List α) (i j:Nat),(wfU p i l).testBit j=(decide (i<=j)&&((l[j - i]?).map p).getD false)
 | [],i,j=>by simp[wfU]
 | x::l,i,j=>by
  rw[wfU,Nat.testBit_or,wiH p l (i+1) j]
  by_cases h:i<=j
  ·by_cases h2:i=j
   ·subst h2
    cases hp:p x with
    | true=>simp[hp]
    | false=>simp[hp]; intro h3; omega
   ·have e1:(cond (p x) (2 ^ i) 0).testBit j=false:=by
     cases p x with
     | true=>exact Nat.testBit_two_pow_of_ne h2
     | false=>simp
    rw[e1,show j - i=(j - (i+1))+1 by omega,List.getElem?_cons_succ]
    simp[h,show i+1<=j by omega]
  ·have e1:(cond (p x) (2 ^ i) 0).testBit j=false:=by
    cases p x with
    | true=>exact Nat.testBit_two_pow_of_ne (by omega)
    | false=>simp
   rw[e1]
   simp[h,show ¬ i+1<=j by omega]
theorem wpE {α:Type} (p:α->Bool):∀ (l:List α) (i n:Nat),i+l.length<=n->wfU p i l < 2 ^ n
 | [],i,n,_=>Nat.two_pow_pos n
 | x::l,i,n,h=>by
  simp only[List.length_cons]at h
  refine Nat.or_lt_two_pow ?_ (wpE p l (i+1) n (by omega))
  cases p x with
  | true=>exact Nat.pow_lt_pow_right (by omega) (by omega)
  | false=>exact Nat.two_pow_pos n
def inB (mark:Nat) (x:Int) (r:Rule):Bool:=(decide ((wat r mark).Lo<=x))&&(decide (x < (wat r mark).Hi))
def wdX (t:List Rule) (mark:Nat) (x:Int):Nat:=wfU (inB mark x) 0 t
theorem wj5 {r:Rule} {mark:Nat} (h:mark < r.Bands.length):idx r.Bands (mark:Int)=some (wat r mark):=by
 rw[wtP (by omega) (by omega),Int.toNat_natCast]; rfl
theorem wop (t:List Rule) (mark:Nat) (x:Int) (ht:t.length<=24) (hm:∀ r∈t,mark < r.Bands.length):∀ (n i:Nat) (out:Nat),n=t.length - i->out < 2 ^ 24->iter (wcS t (mark:Int) x) ((out:Int),(i:Int))=some ((out ||| wfU (inB mark x) i (t.drop i):Nat):Int)
 | 0,i,out,hn,ho=>by
  have h1:decide ((i:Int) < (t.length:Int))=false:=by simp; omega
  rw[wbE (t) (by omega)]
  refine waC ?_
  unfold wcS
  simp only[h1,cond_false,wfU,Nat.or_zero]
 | n+1,i,out,hn,ho=>by
  have hi:i < t.length:=by omega
  have h1:decide ((i:Int) < (t.length:Int))=true:=by simp; omega
  have h2:idx t (i:Int)=some t[i]:=by unfold idx; simp[hi]
  have hmi:=hm t[i] (List.getElem_mem hi)
  have hp:(2:Nat) ^ i < 2 ^ 24:=Nat.pow_lt_pow_right (by omega) (by omega)
  rw[List.drop_eq_getElem_cons hi,wfU]
  have ho2:out ||| cond (inB mark x t[i]) (2 ^ i) 0 < 2 ^ 24:=Nat.or_lt_two_pow ho (by cases inB mark x t[i] <;> simp <;> omega)
  have ih:=wop t mark x ht hm n (i+1) (out ||| cond (inB mark x t[i]) (2 ^ i) 0) (by omega) ho2
  rw[Nat.or_assoc]at ih
  refine waF ?_ ih
  unfold wcS
  simp only[h1,cond_true,h2,Option.bind_some,wj5 hmi]
  have e:((decide ((wat t[i] mark).Lo<=x))&&(decide (x < (wat t[i] mark).Hi)))=inB mark x t[i]:=rfl
  rw[e,wak (by omega)]
  cases inB mark x t[i]with
  | true =>
   simp only[cond_true]
   rw[waV (by omega),wnU (by omega),wtQ (by omega) (by omega)]
   rfl
  | false=>simp only[cond_false,Nat.or_zero,Option.bind_some]; rfl
theorem wts (t:List Rule) (mark:Nat) (x:Int) (ht:t.length<=24) (hm:∀ r∈t,mark < r.Bands.length):wca t (mark:Int) x=some (wdX t mark x:Int):=by
 unfold wca
 have h:=wop t mark x ht hm t.length 0 0 (by omega) (by omega)
 rw[Nat.zero_or,List.drop_zero,show (((0:Nat):Int),((0:Nat):Int))=((0:Int),(0:Int))from rfl]at h
 rw[h]; rfl
theorem woq (t:List Rule) (mark:Nat) (a:Nat) (x:Int) (ht:t.length<=24) (hm:∀ r∈t,mark < r.Bands.length):∀ (n i:Nat) (out:Nat),n=t.length - i->out < 2 ^ 24->iter (wcZ t (mark:Int) (a:Int) x) ((out:Int),(i:Int))=some ((out ||| (a &&& wfU (inB mark x) i (t.drop i)):Nat):Int)
 | 0,i,out,hn,ho=>by
  have h1:decide ((i:Int) < (t.length:Int))=false:=by simp; omega
  rw[wbE (t) (by omega)]
  refine waC ?_
  unfold wcZ
  simp only[h1,cond_false,wfU,Nat.and_zero,Nat.or_zero]
 | n+1,i,out,hn,ho=>by
  have hi:i < t.length:=by omega
  have h1:decide ((i:Int) < (t.length:Int))=true:=by simp; omega
  have h2:idx t (i:Int)=some t[i]:=by unfold idx; simp[hi]
  have hmi:=hm t[i] (List.getElem_mem hi)
  have hp:(2:Nat) ^ i < 2 ^ 24:=Nat.pow_lt_pow_right (by omega) (by omega)
  rw[List.drop_eq_getElem_cons hi,wfU]
  have hb:a &&& (cond (inB mark x t[i]) (2 ^ i) 0)=cond (a.testBit i&&inB mark x t[i]) (2 ^ i) 0:=by
   cases inB mark x t[i]with
   | true=>rw[cond_true,wqE]; cases a.testBit i <;> simp
   | false=>simp
  have ho2:out ||| cond (a.testBit i&&inB mark x t[i]) (2 ^ i) 0 < 2 ^ 24:=Nat.or_lt_two_pow ho (by cases (a.testBit i&&inB mark x t[i]) <;> simp <;> omega)
  have ih:=woq t mark a x ht hm n (i+1) (out ||| cond (a.testBit i&&inB mark x t[i]) (2 ^ i) 0) (by omega) ho2
  rw[Nat.and_or_distrib_left,hb,<-Nat.or_assoc]
  refine waF ?_ ih
  unfold wcZ
  simp only[h1,cond_true,h2,Option.bind_some,wj5 hmi]
  have hw:IntKind.i64.wrap ((i:Int)+1)=((i+1:Nat):Int):=by rw[wak (by omega)]; rfl
  rw[waV (by omega),wnV a i (by omega),hw]
  cases a.testBit i with
  | false=>simp only[cond_false,Option.bind_some,Bool.false_and,Nat.or_zero]
  | true =>
   simp only[cond_true,Option.bind_some,Bool.true_and]
   have e:inB mark x t[i]=((decide ((wat t[i] mark).Lo<=x))&&(decide (x < (wat t[i] mark).Hi))):=rfl
   rw[e]
   cases decide ((wat t[i] mark).Lo<=x)with
   | false=>simp only[cond_false,Option.bind_some,Bool.false_and,Nat.or_zero]
   | true =>
    simp only[cond_true,Option.bind_some,Bool.true_and]
    cases decide (x < (wat t[i] mark).Hi)with
    | false=>simp only[cond_false,Option.bind_some,Nat.or_zero]
    | true =>
     simp only[cond_true]
     rw[waV (by omega),wqD (by omega),wtR (by omega) (by omega)]
     rfl
theorem wtt (t:List Rule) (mark:Nat) (a:Nat) (x:Int) (ht:t.length<=24) (hm:∀ r∈t,mark < r.Bands.length):wc0 t (mark:Int) (a:Int) x=some ((a &&& wdX t mark x:Nat):Int):=by
 unfold wc0
 have h:=woq t mark a x ht hm t.length 0 0 (by omega) (by omega)
 rw[Nat.zero_or,List.drop_zero,show (((0:Nat):Int),((0:Nat):Int))=((0:Int),(0:Int))from rfl]at h
 rw[h]; rfl
end Go.Pv

namespace Go.Pv
def wb5 (a:Nat):Nat->Nat->Option Nat
 | _,0=>none
 | i,n+1=>cond (a.testBit i) (some i) (wb5 a (i+1) n)
def wb6 (a:Nat):Int:=match wb5 a 0 24 with | some i=>(i:Int) | none=>-1
theorem wkr (a:Nat) (ha:a < 4294967296):∀ (n i:Nat),n=24 - i->iter (wbF (a:Int)) (i:Int)=some (match wb5 a i n with | some j=>.inr (j:Int) | none=>.inl ())
 | 0,i,hn=>by
  refine waC ?_
  unfold wbF
  rw[decide_eq_false (by omega)]; rfl
 | n+1,i,hn=>by
  rw[wce]
  have hf:wbF (a:Int) (i:Int)=cond (a.testBit i) (some (.inr (.inr (i:Int)))) (some (.inl ((i+1:Nat):Int))):=by
   unfold wbF
   rw[decide_eq_true (by omega),cond_true,waV (by omega),wsH ha (by omega),wak (by omega)]
   rfl
  rw[hf]
  simp only[wb5]
  cases a.testBit i with
  | true=>rfl
  | false=>exact wkr a ha n (i+1) (by omega)
theorem wqo (a:Nat) (ha:a < 4294967296):wbv (a:Int)=some (wb6 a):=by
 unfold wbv wb6
 have h:=wkr a ha 24 0 (by omega)
 rw[show ((0:Nat):Int)=0 from rfl]at h
 rw[h]
 cases wb5 a 0 24 <;> rfl
theorem wjl {a:Nat}:∀ {n i:Nat},(∃ j,i<=j/\j < i+n/\a.testBit j=true)->∃ j,wb5 a i n=some j
 | 0,i,⟨j,h1,h2,_⟩=>by omega
 | n+1,i,⟨j,h1,h2,h3⟩=>by
  simp only[wb5]
  cases hb:a.testBit i with
  | true=>exact⟨i,rfl⟩
  | false =>
   have:i≠j:=by intro e; subst e; rw[hb]at h3; cases h3
   exact wjl ⟨j,by omega,by omega,h3⟩
theorem wks (a:Nat):∀ (n i j:Nat),n=24 - i->wb5 a i n=some j->iter (wcM (a:Int)) (i:Int)=some (j:Int)
 | 0,i,j,_,h=>by cases h
 | n+1,i,j,hn,h=>by
  rw[wce]
  have hf:wcM (a:Int) (i:Int)=cond (a.testBit i) (some (.inr (i:Int))) (some (.inl ((i+1:Nat):Int))):=by
   unfold wcM
   have hb:=wnV a i (by omega)
   rw[waV (by omega),wak (by omega)]
   have h2:(((a:Int)).fdiv (2 ^ (min ((i:Int)).toNat 64))).tmod 2=0\/(((a:Int)).fdiv (2 ^ (min ((i:Int)).toNat 64))).tmod 2=1:=by
    rw[Int.toNat_natCast,Nat.min_eq_left (by omega)]
    have e:(2:Int) ^ i=((2 ^ i:Nat):Int):=by simp
    rw[e,Int.fdiv_eq_ediv_of_nonneg _ (Int.natCast_nonneg _),<-Int.natCast_ediv,Int.tmod_eq_emod_of_nonneg (Int.natCast_nonneg _)]
    omega
   rcases h2 with h2 | h2
   ·rw[h2]at hb ⊢
    rw[<-hb]; rfl
   ·rw[h2]at hb ⊢
    rw[<-hb]; rfl
  rw[hf]
  simp only[wb5]at h
  cases hb:a.testBit i with
  | true=>rw[hb]at h; cases h; rfl
  | false=>rw[hb]at h; exact wks a n (i+1) j (by omega) h
theorem wqp (a:Nat) (ha:a < 2 ^ 24):wcH (a:Int)=some (wb6 a):=by
 unfold wcH wb6
 by_cases h0:a=0
 ·subst h0
  have:wb5 0 0 24=none:=by decide
  rw[this]; rfl
 ·have h1:decide (((a:Nat):Int)=0)=false:=decide_eq_false (by omega)
  obtain⟨j,hj⟩:∃ j,wb5 a 0 24=some j:=by
   obtain⟨j,hj⟩:=Nat.exists_testBit_of_ne_zero h0
   refine wjl ⟨j,by omega,?_,hj⟩
   refine Nat.lt_of_not_le fun hge=>?_
   have:a < 2 ^ j:=Nat.lt_of_lt_of_le ha (Nat.pow_le_pow_right (by omega) (by omega))
   rw[Nat.testBit_lt_two_pow this]at hj
   cases hj
  have h:=wks a 24 0 j (by omega) hj
  rw[show ((0:Nat):Int)=0 from rfl]at h
  rw[h1,cond_false,h,hj]; rfl
def wgG (t:List Rule) (a:Nat):Int:=if wb6 a < 0 then -1 else (t.getD (wb6 a).toNat default).Code
theorem wkt {a:Nat}:∀ {n i j:Nat},wb5 a i n=some j->a.testBit j=true/\j < i+n
 | 0,i,j,h=>by cases h
 | n+1,i,j,h=>by
  simp only[wb5]at h
  cases hb:a.testBit i with
  | true=>rw[hb]at h; cases h; exact⟨hb,by omega⟩
  | false =>
   rw[hb]at h
   obtain⟨h1,h2⟩:=wkt (n:=n) h
   exact⟨h1,by omega⟩
theorem wiI {a n:Nat} (ha:a < 2 ^ n) (h:¬ wb6 a < 0):(wb6 a).toNat < n:=by
 unfold wb6 at h ⊢
 cases hf:wb5 a 0 24 with
 | none=>rw[hf]at h; exact absurd (by decide) h
 | some j =>
  obtain⟨h1,_⟩:=wkt hf
  simp only[Int.toNat_natCast]
  refine Nat.lt_of_not_le fun hge=>?_
  have:a < 2 ^ j:=Nat.lt_of_lt_of_le ha (Nat.pow_le_pow_right (by omega) hge)
  rw[Nat.testBit_lt_two_pow this]at h1
  cases h1
def web (t:List Rule):Nat:=2 ^ t.length - 1
theorem wjm (t:List Rule):web t < 2 ^ t.length:=by
 have:=Nat.two_pow_pos t.length
 unfold web; omega
theorem wsI (t:List Rule) (ht:t.length<=24):wcL t=some (web t:Int):=by
 unfold wcL web
 have h1:2 ^ t.length<=2 ^ 24:=Nat.pow_le_pow_right (by omega) ht
 have h2:=Nat.two_pow_pos t.length
 rw[waV (by omega),wnU (by omega)]
 generalize (2:Nat) ^ t.length=q at h1 h2
 rw[whl (by omega)]
 congr 1; omega
theorem wqF (t:List Rule) (ht:t.length<=24):wcE t=some (web t:Int):=by
 rw[wiG]
 unfold wlk web
 have h1:2 ^ t.length<=2 ^ 24:=Nat.pow_le_pow_right (by omega) ht
 have h2:=Nat.two_pow_pos t.length
 rw[wqD (by omega)]
 generalize (2:Nat) ^ t.length=q at h1 h2
 rw[wak (by omega)]
 congr 1; omega
end Go.Pv

set_option linter.unusedSimpArgs false
set_option linter.unusedVariables false
namespace Go.Pv
open Go.Lib
theorem wjn {s:List Int} (hs:s.Pairwise (·<=·)):(compactI s).Pairwise (· < ·)/\∀ x,x∈compactI s ↔ x∈s:=by
 have hle:∀ i j:Nat,i<=j->j < s.length->s.toArray[i]!<=s.toArray[j]!:=fun i j hij hj=>by
  have h1:s.toArray[i]! = s[i]'(by omega):=by simp[show i < s.length by omega]
  have h2:s.toArray[j]! = s[j]:=by simp[hj]
  rw[h1,h2]
  rcases Nat.lt_or_ge i j with h | h
  ·exact List.pairwise_iff_getElem.1 hs i j (by omega) hj h
  ·have:i=j:=by omega
   subst this; exact Int.le_refl _
 have key:∀ m:Nat,m<=s.length->(compactUpTo s.toArray m).Pairwise (· < ·)/\(∀ x∈compactUpTo s.toArray m,∃ j,j < m/\x=s.toArray[j]!)/\∀ j,j < m->s.toArray[j]!∈compactUpTo s.toArray m:=by
  intro m
  induction m with
  | zero=>intro _; exact⟨by simp[compactUpTo],fun x hx=>by simp[compactUpTo]at hx,fun j hj=>absurd hj (by omega)⟩
  | succ m ih =>
   intro hm
   obtain⟨h1,h2,h3⟩:=ih (by omega)
   rw[compactUpTo_succ]
   cases hk:keeps s.toArray m with
   | true =>
    simp only[if_true]
    refine⟨?_,fun x hx=>?_,fun j hj=>?_⟩
    ·rw[List.pairwise_append]
     refine⟨h1,by simp,fun x hx y hy=>?_⟩
     have hy:=List.mem_singleton.1 hy
     obtain⟨j,hj,e⟩:=h2 x hx
     simp only[keeps,decide_eq_true_eq]at hk
     have a1:=hle j (m - 1) (by omega) (by omega)
     have a2:=hle (m - 1) m (by omega) (by omega)
     rw[e,hy]
     rcases hk with h | h
     ·omega
     ·omega
    ·rcases List.mem_append.1 hx with h | h
     ·obtain⟨j,hj,e⟩:=h2 x h
      exact⟨j,by omega,e⟩
     ·simp only[List.mem_singleton]at h
      exact⟨m,by omega,h⟩
    ·rcases Nat.lt_or_ge j m with h | h
     ·exact List.mem_append_left _ (h3 j h)
     ·have:j=m:=by omega
      subst this
      exact List.mem_append_right _ (List.mem_singleton.2 rfl)
   | false =>
    simp only[Bool.false_eq_true,if_false,List.append_nil]
    refine⟨h1,fun x hx=>?_,fun j hj=>?_⟩
    ·obtain⟨j,hj,e⟩:=h2 x hx
     exact⟨j,by omega,e⟩
    ·rcases Nat.lt_or_ge j m with h | h
     ·exact h3 j h
     ·have:j=m:=by omega
      subst this
      simp only[keeps,decide_eq_false_iff_not]at hk
      have e:s.toArray[j]! = s.toArray[j - 1]!:=by
       refine Classical.byContradiction fun h=>hk (.inr h)
      rw[e]
      refine h3 (j - 1) ?_
      have:j≠0:=fun h=>hk (.inl h)
      omega
 obtain⟨h1,h2,h3⟩:=key s.length (Nat.le_refl _)
 unfold compactI compact
 refine⟨h1,fun x=>⟨fun hx=>?_,fun hx=>?_⟩⟩
 ·obtain⟨j,hj,e⟩:=h2 x hx
  rw[e,show s.toArray[j]! = s[j] by simp[hj]]
  exact List.getElem_mem hj
 ·obtain⟨j,hj,rfl⟩:=List.getElem_of_mem hx
  rw[show s[j]=s.toArray[j]! by simp[hj]]
  exact h3 j hj
theorem wnk (l:List Int):(sortI l).Perm l:=by unfold sortI; exact List.mergeSort_perm l _
theorem wll (l:List Int):(sortI l).Pairwise (·<=·):=by
 unfold sortI
 have:=List.pairwise_mergeSort (le:=fun x y:Int=>decide (x<=y)) (fun a b c h1 h2=>by simp at *; omega) (fun a b=>by simp; omega) l
 simpa using this
theorem wpF (l:List Int):List.take ((compactI l).length) (waL l)=compactI l:=by
 unfold waL; simp
def wfv (mark:Nat) (t:List Rule):List Int:=t.flatMap fun r=>[(wat r mark).Lo,(wat r mark).Hi]
theorem wj6 (mark:Nat):∀ t:List Rule,(wfv mark t).length=2*t.length
 | []=>rfl
 | r::t=>by
  have:=wj6 mark t
  unfold wfv at this ⊢
  simp only[List.flatMap_cons,List.length_append,List.length_cons,List.length_nil,this]; omega
theorem wnl (mark:Nat) (t:List Rule) (ht:t.length<=24) (hm:∀ r∈t,mark < r.Bands.length):∀ (n i:Nat) (L:List Int),n=t.length - i->L.length+2*n<=1000->iter (wcQ (mark:Int) t) ((i:Int),L)=some (L++wfv mark (t.drop i))
 | 0,i,L,hn,hL=>by
  rw[wbE (t) (by omega)]
  refine waC ?_
  unfold wcQ
  dsimp only
  rw[decide_eq_false (by omega)]
  simp[wfv]
 | n+1,i,L,hn,hL=>by
  have hi:i < t.length:=by omega
  have h2:idx t (i:Int)=some t[i]:=by unfold idx; simp[hi]
  have hmi:=hm t[i] (List.getElem_mem hi)
  have ih:=wnl mark t ht hm n (i+1) (L++[(wat t[i] mark).Lo,(wat t[i] mark).Hi]) (by omega) (by simp; omega)
  rw[List.append_assoc]at ih
  rw[List.drop_eq_getElem_cons hi]
  refine waF ?_ ih
  unfold wcQ
  dsimp only
  rw[decide_eq_true (by omega),cond_true,h2]
  simp only[Option.bind_some,wj5 hmi]
  rw[waV (by simp; omega),wak (by omega)]
  rfl
theorem wj7 (mark:Nat) (ts:List (List Rule)) (hts:ts.length<=2) (ht:∀ t∈ts,t.length<=24/\∀ r∈t,mark < r.Bands.length):∀ (n i:Nat) (L:List Int),n=ts.length - i->L.length+48*n<=900->iter (wcR (mark:Int) ts) ((i:Int),L)=some (L++(ts.drop i).flatMap (wfv mark))
 | 0,i,L,hn,hL=>by
  rw[wbE (ts) (by omega)]
  refine waC ?_
  unfold wcR
  dsimp only
  rw[decide_eq_false (by omega)]
  simp
 | n+1,i,L,hn,hL=>by
  have hi:i < ts.length:=by omega
  have h2:idx ts (i:Int)=some ts[i]:=by unfold idx; simp[hi]
  obtain⟨hl,hmi⟩:=ht ts[i] (List.getElem_mem hi)
  have hlen:=wj6 mark ts[i]
  have ih:=wj7 mark ts hts ht n (i+1) (L++wfv mark ts[i]) (by omega) (by simp; omega)
  rw[List.append_assoc]at ih
  rw[List.drop_eq_getElem_cons hi]
  refine waF ?_ ih
  unfold wcR
  dsimp only
  have h3:=wnl mark ts[i] hl hmi ts[i].length 0 L (by omega) (by omega)
  rw[show ((0:Nat):Int)=0 from rfl,List.drop_zero]at h3
  rw[decide_eq_true (by omega),cond_true,h2]
  simp only[Option.bind_some]
  rw[h3,wak (by omega)]
  rfl
structure Cuts (mark:Nat) (ts:List (List Rule)) (cs:List Int):Prop where
 up:cs.Pairwise (· < ·)
 pos:∀ c∈cs,0 < c/\c<=1000
 last:(1000:Int)∈cs
 lo:∀ t∈ts,∀ r∈t,0 < (wat r mark).Lo->(wat r mark).Lo∈cs
 hi:∀ t∈ts,∀ r∈t,(wat r mark).Hi∈cs
theorem wrU (mark:Nat) (ts:List (List Rule)) (hts:ts.length<=2) (ht:∀ t∈ts,t.length<=24/\∀ r∈t,mark < r.Bands.length) (hb:∀ t∈ts,∀ r∈t,0<=(wat r mark).Lo/\(wat r mark).Lo < (wat r mark).Hi/\(wat r mark).Hi<=1000) :
  ∃ cs,wbL (mark:Int) ts=some cs/\Cuts mark ts cs/\cs.length<=97:=by
 unfold wbL
 have h1:=wj7 mark ts hts ht ts.length 0 [1000] (by omega) (by simp; omega)
 rw[show ((0:Nat):Int)=0 from rfl,List.drop_zero]at h1
 rw[h1]
 simp only[Option.bind_some]
 generalize hL:[1000]++ts.flatMap (wfv mark)=L
 have hlen:L.length<=97:=by
  rw[<-hL]
  have:∀ l:List (List Rule),(∀ t∈l,t.length<=24)->(l.flatMap (wfv mark)).length<=48*l.length:=fun l=>by
   induction l with
   | nil=>simp
   | cons t l ih =>
    intro h
    have a:=ih fun t ht=>h t (List.mem_cons_of_mem _ ht)
    have b:=wj6 mark t
    have c:=h t (List.mem_cons_self ..)
    simp only[List.flatMap_cons,List.length_append,List.length_cons]; omega
  have:=this ts fun t h=>(ht t h).1
  simp only[List.length_append,List.length_cons,List.length_nil]; omega
 have hmem:∀ x,x∈L ↔ x=1000\/∃ t∈ts,∃ r∈t,x=(wat r mark).Lo\/x=(wat r mark).Hi:=fun x=>by
  rw[<-hL]
  simp[wfv]
 have hge:∀ x∈L,0<=x/\x<=1000:=fun x hx=>by
  rcases (hmem x).1 hx with rfl | ⟨t,ht1,r,hr,h | h⟩
  ·omega
  ·have:=hb t ht1 r hr; omega
  ·have:=hb t ht1 r hr; omega
 rw[waV (by omega),waV (by rw[sortI_length]; omega),wpF]
 obtain⟨hup,hcm⟩:=wjn (wll L)
 have hcm2:∀ x,x∈compactI (sortI L) ↔ x∈L:=fun x=>(hcm x).trans (wnk L).mem_iff
 have hcl:(compactI (sortI L)).length<=L.length:=by
  refine Nat.le_trans ?_ (Nat.le_of_eq (sortI_length L))
  unfold compactI Go.Lib.compact compactUpTo
  rw[List.length_map]
  exact Nat.le_trans (List.length_filter_le _ _) (by simp)
 have h1000:(1000:Int)∈compactI (sortI L):=(hcm2 _).2 ((hmem _).2 (.inl rfl))
 generalize compactI (sortI L)=C at hup hcm2 hcl h1000
 cases C with
 | nil=>simp at h1000
 | cons c C =>
  have e0:idx (c::C) 0=some c:=rfl
  rw[e0]
  simp only[Option.bind_some]
  rw[List.pairwise_cons]at hup
  by_cases hc:c=0
  ·subst hc
   rw[decide_eq_true rfl,cond_true,waV (by simp; omega)]
   have e1:((0::C).drop 1).take (((((0:Int)::C).length:Int)) - 1).toNat=C:=by
    simp
   rw[e1]
   refine⟨C,rfl,⟨hup.2,fun x hx=>⟨hup.1 x hx,(hge x ((hcm2 x).1 (List.mem_cons_of_mem _ hx))).2⟩,?_,fun t h1 r h2 h3=>?_,fun t h1 r h2=>?_⟩,by simp at hcl; omega⟩
   ·rcases List.mem_cons.1 h1000 with h | h
    ·omega
    ·exact h
   ·rcases List.mem_cons.1 ((hcm2 _).2 ((hmem _).2 (.inr ⟨t,h1,r,h2,.inl rfl⟩)))with h | h
    ·omega
    ·exact h
   ·rcases List.mem_cons.1 ((hcm2 _).2 ((hmem _).2 (.inr ⟨t,h1,r,h2,.inr rfl⟩)))with h | h
    ·have:=hb t h1 r h2; omega
    ·exact h
  ·rw[decide_eq_false hc,cond_false]
   have hc0:=hge c ((hcm2 c).1 (List.mem_cons_self ..))
   refine⟨c::C,rfl,⟨List.pairwise_cons.2 hup,fun x hx=>⟨?_,(hge x ((hcm2 x).1 hx)).2⟩,h1000,fun t h1 r h2 h3=>(hcm2 _).2 ((hmem _).2 (.inr ⟨t,h1,r,h2,.inl rfl⟩)),fun t h1 r h2=>(hcm2 _).2 ((hmem _).2 (.inr ⟨t,h1,r,h2,.inr rfl⟩))⟩,by omega⟩
   rcases List.mem_cons.1 hx with rfl | hx
   ·omega
   ·have:=hup.1 x hx; omega
end Go.Pv

namespace Go.Pv
def wf7 (t:List Rule):Nat->Nat->List Int->Nat
 | _,a,[]=>a
 | mark,a,x::xs=>wf7 t (mark+1) (a &&& wdX t mark x) xs
def Pts (n:Nat) (xs:List Int):Prop:=xs.length=n/\∀ x∈xs,0<=x/\x < 1000
def wj8:List Int->List Int->Prop
 | [],_=>True
 | _::_,[]=>False
 | x::xs,y::ys=>x < y\/(x=y/\wj8 xs ys)
theorem wnm:∀ {xs ys:List Int},xs.length=ys.length->wj8 xs ys->wj8 ys xs->xs=ys
 | [],[],_,_,_=>rfl
 | [],_::_,h,_,_=>by simp at h
 | _::_,[],h,_,_=>by simp at h
 | x::xs,y::ys,h,h1,h2=>by
  simp only[wj8]at h1 h2
  have e:x=y:=by omega
  subst e
  have h3:wj8 xs ys:=h1.elim (fun h=>by omega) (fun h=>h.2)
  have h4:wj8 ys xs:=h2.elim (fun h=>by omega) (fun h=>h.2)
  rw[wnm (by simpa using h) h3 h4]
structure Ans (s t:List Rule) (P:Nat->Nat->Bool) (mark n a b:Nat) (f:Bool) (xs:List Int):Prop where
 hit:f=true->Pts n xs/\P (wf7 s mark a xs) (wf7 t mark b xs)=true/\∀ ys,Pts n ys->P (wf7 s mark a ys) (wf7 t mark b ys)=true->wj8 xs ys
 miss:f=false->xs=[]/\∀ ys,Pts n ys->P (wf7 s mark a ys) (wf7 t mark b ys)=false
theorem Ans.uniq {s t:List Rule} {P:Nat->Nat->Bool} {mark n a b:Nat} {f g:Bool} {xs ys:List Int} (h:Ans s t P mark n a b f xs) (h':Ans s t P mark n a b g ys):f=g/\xs=ys:=by
 cases f with
 | true =>
  obtain⟨h1,h2,h3⟩:=h.hit rfl
  cases g with
  | true =>
   obtain⟨g1,g2,g3⟩:=h'.hit rfl
   exact⟨rfl,wnm (h1.1.trans g1.1.symm) (h3 _ g1 g2) (g3 _ h1 h2)⟩
  | false =>
   have:=(h'.miss rfl).2 _ h1
   rw[h2]at this; cases this
 | false =>
  obtain⟨h1,h2⟩:=h.miss rfl
  cases g with
  | true =>
   obtain⟨g1,g2,g3⟩:=h'.hit rfl
   have:=h2 _ g1
   rw[g2]at this; cases this
  | false=>exact⟨rfl,h1.trans (h'.miss rfl).1.symm⟩
def wlm (mark:Nat) (t:List Rule) (a:Nat) (cs:List Int):Prop :=
 ∀ (i:Nat) (r:Rule),t[i]? = some r->a.testBit i=true->(0 < (wat r mark).Lo->(wat r mark).Lo∈cs)/\(wat r mark).Hi∈cs
theorem wnn {mark:Nat} {t:List Rule} {a:Nat} {cs:List Int} (h:wlm mark t a cs) {u x:Int} (h0:0<=u) (hu:u<=x) (hc:∀ c∈cs,¬ (u < c/\c<=x)):a &&& wdX t mark x=a &&& wdX t mark u:=by
 apply Nat.eq_of_testBit_eq
 intro j
 rw[Nat.testBit_and,Nat.testBit_and]
 unfold wdX
 rw[wiH,wiH]
 cases hb:a.testBit j with
 | false=>simp
 | true =>
  cases ht:t[j]? with
  | none=>simp[ht]
  | some r =>
   obtain⟨h1,h2⟩:=h j r ht hb
   have e:inB mark x r=inB mark u r:=by
    unfold inB
    have e1:decide ((wat r mark).Lo<=x)=decide ((wat r mark).Lo<=u):=by
     rw[decide_eq_decide]
     constructor
     ·intro h3
      refine Int.not_lt.1 fun h4=>?_
      exact hc _ (h1 (by omega)) ⟨h4,h3⟩
     ·intro h3; omega
    have e2:decide (x < (wat r mark).Hi)=decide (u < (wat r mark).Hi):=by
     rw[decide_eq_decide]
     constructor
     ·intro h3; omega
     ·intro h3
      refine Int.not_le.1 fun h4=>?_
      exact hc _ h2 ⟨h3,h4⟩
    rw[e1,e2]
   simp[ht,e]
end Go.Pv

namespace Go.Pv
theorem wrV {mark:Nat} {ts:List (List Rule)} {t:List Rule} {a:Nat} {cs:List Int} (h:Cuts mark ts cs) (ht:t∈ts):wlm mark t a cs:=fun i r hr _=>by
 have hm:r∈t:=List.mem_of_getElem? hr
 exact⟨h.lo t ht r hm,h.hi t ht r hm⟩
end Go.Pv

namespace Go.Pv
theorem weO {k:Nat} {r:Rule} (h:wb9 (k:Int) r=true) {mark:Nat} (hm:mark < k):mark < r.Bands.length/\0<=(wat r mark).Lo/\(wat r mark).Lo < (wat r mark).Hi/\(wat r mark).Hi<=1000:=by
 have hl:=wmx h
 have hlt:mark < r.Bands.length:=by omega
 unfold wb9 at h
 simp only[Bool.and_eq_true,Bool.not_eq_true',List.any_eq_false]at h
 have hb:=h.2 (wat r mark) (by
  unfold wat
  simp only[List.getD,List.getElem?_eq_getElem hlt,Option.getD_some]
  exact List.getElem_mem hlt)
 simp only[we8,Bool.or_eq_true,decide_eq_true_eq,not_or]at hb
 omega
theorem wsJ {t:List Rule} (ht:t.length<=24) (mark:Nat) (x:Int):wdX t mark x < 2 ^ 24:=wpE _ _ _ _ (by omega)
end Go.Pv

namespace Go.Pv
theorem wnW (n:Int):∀ {l:List Int},l.Pairwise (· < ·)->(wev n l).Pairwise (· < ·)/\∀ x,x∈wev n l ↔ x=n\/x∈l
 | [],_=>⟨List.pairwise_singleton ..,fun x=>by simp[wev]⟩
 | y::l,h=>by
  have hc:=List.pairwise_cons.1 h
  simp only[wev]
  by_cases h1:n<=y
  ·rw[decide_eq_true h1,cond_true]
   by_cases h2:n < y
   ·rw[decide_eq_true h2,cond_true]
    refine⟨List.pairwise_cons.2 ⟨fun x hx=>?_,h⟩,fun x=>by simp⟩
    rcases List.mem_cons.1 hx with rfl | hx
    ·exact h2
    ·have:=hc.1 x hx; omega
   ·rw[decide_eq_false h2,cond_false]
    have:n=y:=by omega
    subst this
    exact⟨h,fun x=>by simp⟩
  ·rw[decide_eq_false h1,cond_false]
   obtain⟨g1,g2⟩:=wnW n hc.2
   refine⟨List.pairwise_cons.2 ⟨fun x hx=>?_,g1⟩,fun x=>?_⟩
   ·rcases (g2 x).1 hx with rfl | hx
    ·omega
    ·exact hc.1 x hx
   ·rw[List.mem_cons,g2,List.mem_cons]
    constructor
    ·rintro(h | h | h)
     ·exact .inr (.inl h)
     ·exact .inl h
     ·exact .inr (.inr h)
    ·rintro(h | h | h)
     ·exact .inr (.inl h)
     ·exact .inl h
     ·exact .inr (.inr h)
theorem wsK (a i:Nat) (hi:i < 64):wpy (a:Int) i=a.testBit i:=by
 have:=wnV a i hi
 rw[Int.toNat_natCast]at this
 exact this
theorem wil (mark a:Nat):∀ (l:List Rule) (i:Nat) (out:List Int),i+l.length<=24->out.Pairwise (· < ·) →
  (wc3 mark (a:Int) i l out).Pairwise (· < ·)/\(∀ x∈out,x∈wc3 mark (a:Int) i l out)/\(∀ x∈wc3 mark (a:Int) i l out,x∈out\/∃ r∈l,(x=(wat r mark).Lo/\0 < x)\/x=(wat r mark).Hi) ∧
   (∀ (j:Nat) (r:Rule),l[j]? = some r->a.testBit (i+j)=true->(0 < (wat r mark).Lo->(wat r mark).Lo∈wc3 mark (a:Int) i l out)/\(wat r mark).Hi∈wc3 mark (a:Int) i l out)/\(wc3 mark (a:Int) i l out).length<=out.length+2*l.length
 | [],i,out,_,h=>⟨h,fun x hx=>hx,fun x hx=>.inl hx,fun j r hr=>by simp at hr,by simp[wc3]⟩
 | r::l,i,out,hl,h=>by
  simp only[List.length_cons]at hl
  simp only[wc3]
  rw[wsK a i (by omega)]
  cases hb:a.testBit i with
  | false =>
   simp only[cond_false]
   obtain⟨g1,g2,g3,g4,g5⟩:=wil mark a l (i+1) out (by omega) h
   refine⟨g1,g2,fun x hx=>?_,fun j q hq hj=>?_,by simp only[List.length_cons]; omega⟩
   ·rcases g3 x hx with h | ⟨q,h1,h2⟩
    ·exact .inl h
    ·exact .inr ⟨q,List.mem_cons_of_mem _ h1,h2⟩
   ·cases j with
    | zero=>rw[Nat.add_zero,hb]at hj; cases hj
    | succ j=>exact g4 j q (by simpa using hq) (by rw[<-hj]; congr 1; omega)
  | true =>
   simp only[cond_true]
   have hout:∃ o2,(cond (decide (0 < (wat r mark).Lo)) (wev (wat r mark).Lo out) out)=o2/\o2.Pairwise (· < ·)/\(∀ x,x∈o2 ↔ (x=(wat r mark).Lo/\0 < x)\/x∈out)/\o2.length<=out.length+1:=by
    by_cases h0:0 < (wat r mark).Lo
    ·rw[decide_eq_true h0,cond_true]
     obtain⟨k1,k2⟩:=wnW (wat r mark).Lo h
     refine⟨_,rfl,k1,fun x=>?_,wg4 _ _⟩
     rw[k2]
     constructor
     ·rintro(h | h)
      ·exact .inl ⟨h,by omega⟩
      ·exact .inr h
     ·rintro(h | h)
      ·exact .inl h.1
      ·exact .inr h
    ·rw[decide_eq_false h0,cond_false]
     refine⟨_,rfl,h,fun x=>?_,by omega⟩
     constructor
     ·exact .inr
     ·rintro(h | h)
      ·omega
      ·exact h
   obtain⟨o2,e,k1,k2,k3⟩:=hout
   rw[e]
   obtain⟨m1,m2⟩:=wnW (wat r mark).Hi k1
   have m3:=wg4 (wat r mark).Hi o2
   obtain⟨g1,g2,g3,g4,g5⟩:=wil mark a l (i+1) (wev (wat r mark).Hi o2) (by omega) m1
   refine⟨g1,fun x hx=>g2 x ((m2 x).2 (.inr ((k2 x).2 (.inr hx)))),fun x hx=>?_,fun j q hq hj=>?_,by simp only[List.length_cons]; omega⟩
   ·rcases g3 x hx with h | ⟨q,h1,h2⟩
    ·rcases (m2 x).1 h with h | h
     ·exact .inr ⟨r,List.mem_cons_self ..,.inr h⟩
     ·rcases (k2 x).1 h with h | h
      ·exact .inr ⟨r,List.mem_cons_self ..,.inl h⟩
      ·exact .inl h
    ·exact .inr ⟨q,List.mem_cons_of_mem _ h1,h2⟩
   ·cases j with
    | zero =>
     simp only[List.getElem?_cons_zero,Option.some.injEq]at hq
     subst hq
     exact⟨fun h0=>g2 _ ((m2 _).2 (.inr ((k2 _).2 (.inl ⟨rfl,h0⟩)))),g2 _ ((m2 _).2 (.inl rfl))⟩
    | succ j=>exact g4 j q (by simpa using hq) (by rw[<-hj]; congr 1; omega)
end Go.Pv

namespace Go.Pv
structure TabOk (t:Table):Prop where
 size:t.heads=[]\/t.heads.length=4096
 next:t.next.length=t.keys.length
 heads:∀ x∈t.heads,-1<=x/\x < t.keys.length
 back:∀ (i:Nat) (x:Int),t.next[i]? = some x->-1<=x/\x < i
 few:t.keys.length<=2000000000
theorem wqG {mark a b:Nat} (hm:mark<=4):∃ n:Nat,n < 4096/\wcY (⟨(mark:Int),(a:Int),(b:Int)⟩:Arr3_Int)=some (n:Int):=by
 unfold wcY
 dsimp only
 have ea:(a:Int).tmod 1000003=(a:Int) % 1000003:=Int.tmod_eq_emod_of_nonneg (by omega)
 have eb:(b:Int).tmod 1000003=(b:Int) % 1000003:=Int.tmod_eq_emod_of_nonneg (by omega)
 rw[ea,eb]
 have ha:0<=(a:Int) % 1000003/\(a:Int) % 1000003 < 1000003:=by omega
 have hb:0<=(b:Int) % 1000003/\(b:Int) % 1000003 < 1000003:=by omega
 generalize (a:Int) % 1000003=x at ha
 generalize (b:Int) % 1000003=y at hb
 rw[wak (x:=(mark:Int)*7) (by omega),wak (x:=x*31) (by omega),wak (x:=y*17) (by omega),wak (x:=(mark:Int)*7+x*31) (by omega),wak (x:=(mark:Int)*7+x*31+y*17) (by omega),Int.tmod_eq_emod_of_nonneg (by omega)]
 exact⟨(((mark:Int)*7+x*31+y*17) % 4096).toNat,by omega,by congr 1; omega⟩
end Go.Pv

namespace Go.Pv
def bnd:Nat->Nat
 | 0=>0
 | d+1=>1+98*bnd d
theorem wrW:∀ {d:Nat},d<=4->bnd d<=1000000
 | 0,_=>by decide
 | 1,_=>by decide
 | 2,_=>by decide
 | 3,_=>by decide
 | 4,_=>by decide
 | d+5,h=>by omega
structure CmpOk (s t:List Rule) (P:Nat->Nat->Bool) (k:Nat) (o:Compare):Prop where
 ek:o.k=(k:Int)
 es:o.s=s
 et:o.t=t
 tab:TabOk o.alike
 memo:∀ mark a b:Nat,mark<=k->(⟨(mark:Int),(a:Int),(b:Int)⟩:Arr3_Int)∈o.alike.keys->Ans s t P mark (k - mark) a b false []
theorem wrl {k:Nat} {t:List Rule} (ht:t.length<=24/\∀ r∈t,wb9 (k:Int) r=true) {mark:Nat} (hm:mark < k) (a:Nat):wb4 t (mark:Int) (a:Int)=some (wc3 mark (a:Int) 0 t [1000])/\(wc3 mark (a:Int) 0 t [1000]).Pairwise (· < ·)/\(1000:Int)∈wc3 mark (a:Int) 0 t [1000]/\(∀ c∈wc3 mark (a:Int) 0 t [1000],0 < c/\c<=1000)/\wlm mark t a (wc3 mark (a:Int) 0 t [1000])/\(wc3 mark (a:Int) 0 t [1000]).length<=49:=by
 obtain⟨g1,g2,g3,g4,g5⟩:=wil mark a t 0 [1000] (by omega) (List.pairwise_singleton ..)
 refine⟨wj4 t mark (a:Int) (by omega) fun r hr=>(weO (ht.2 r hr) hm).1,g1,g2 _ (by simp),fun c hc=>?_,fun i r hr hb=>g4 i r hr (by simpa using hb),by simp only[List.length_cons,List.length_nil]at g5; omega⟩
 rcases g3 c hc with h | ⟨r,h1,h2⟩
 ·simp only[List.mem_singleton]at h; omega
 ·have:=weO (ht.2 r h1) hm
  omega
end Go.Pv

namespace Go.Pv
end Go.Pv

namespace Go.Pv
end Go.Pv

namespace Go.Pv
def wud (m a:Nat):Nat:=if wb6 a < 0 then m else (wb6 a).toNat
def wt7 (m a:Nat):List Int:=(List.replicate (m+1) (0:Int)).set (wud m a) 1
def wue (l:List Int) (c:Int) (v:List Int):List Int:=List.zipWith (fun x y=>x+c*y) l v
def wtS (m:Nat) (g:Int->List Int):Nat->List Int
 | 0=>List.replicate (m+1) 0
 | n+1=>wue (wtS m g n) 1 (g (n:Int))
def wtT (t:List Rule):Nat->Nat->Nat->List Int
 | 0,_,a=>wt7 t.length a
 | d+1,mark,a=>wtS t.length (fun x=>wtT t d (mark+1) (a &&& wdX t mark x)) 1000
end Go.Pv

namespace Go.Pv
end Go.Pv

namespace Go.Pv
noncomputable def cs1 (t:List Rule) (mark:Nat):List Int:=(wbL (mark:Int) [t]).getD []
theorem wjo {k:Nat} {t:List Rule} (ht:t.length<=24/\∀ r∈t,wb9 (k:Int) r=true) {mark:Nat} (hm:mark < k):wbL (mark:Int) [t]=some (cs1 t mark)/\Cuts mark [t] (cs1 t mark)/\(cs1 t mark).length<=97:=by
 obtain⟨cs,h1,h2,h3⟩:=wrU mark [t] (by simp) (fun u hu=>by
  simp only[List.mem_cons,List.not_mem_nil,or_false]at hu
  subst hu
  exact⟨ht.1,fun r hr=>(weO (ht.2 r hr) hm).1⟩) (fun u hu r hr=>by
  simp only[List.mem_cons,List.not_mem_nil,or_false]at hu
  subst hu
  exact(weO (ht.2 r hr) hm).2)
 have e:cs1 t mark=cs:=by unfold cs1; rw[h1]; rfl
 rw[e]; exact⟨h1,h2,h3⟩
end Go.Pv

namespace Go.Pv
end Go.Pv

namespace Go.Pv
theorem wno {o:Search} (h:TabOk o.seen) (key:Arr3_Int):∀ (n:Nat) (i:Int),i < n->-1<=i->i < o.seen.keys.length->∃ j,iter (wbs key o) i=some j/\(j < 0\/∃ m:Nat,j=m/\o.seen.keys[m]? = some key)
 | n,i,hn,h1,h2=>by
  by_cases h0:0<=i
  ·obtain⟨m,rfl⟩:∃ m:Nat,i=m:=⟨i.toNat,by omega⟩
   have hm:m < o.seen.keys.length:=by omega
   have e1:idx o.seen.keys (m:Int)=some o.seen.keys[m]:=by unfold idx; simp[hm]
   have hm2:m < o.seen.next.length:=by rw[h.next]; exact hm
   have e2:idx o.seen.next (m:Int)=some o.seen.next[m]:=by unfold idx; simp[hm2]
   have hf:wbs key o (m:Int)=cond (!((o.seen.keys[m].c0 == key.c0)&&((o.seen.keys[m].c1 == key.c1)&&(o.seen.keys[m].c2 == key.c2)))) (some (.inl o.seen.next[m])) (some (.inr (m:Int))):=by
    unfold wbs
    rw[decide_eq_true h0,cond_true,e1]
    simp only[Option.bind_some,e2]
   cases hk:((o.seen.keys[m].c0 == key.c0)&&((o.seen.keys[m].c1 == key.c1)&&(o.seen.keys[m].c2 == key.c2)))with
   | true =>
    rw[hk]at hf
    refine⟨m,waC hf,.inr ?_⟩
    simp only[Bool.and_eq_true,beq_iff_eq]at hk
    have:o.seen.keys[m]=key:=by
     generalize o.seen.keys[m]=q at hk
     cases q; cases key; simp_all
    exact⟨m,rfl,by rw[List.getElem?_eq_getElem hm,this]⟩
   | false =>
    rw[hk]at hf
    obtain⟨b1,b2⟩:=h.back m o.seen.next[m] (List.getElem?_eq_getElem hm2)
    cases n with
    | zero=>omega
    | succ n =>
     obtain⟨j,g1,g2⟩:=wno h key n o.seen.next[m] (by omega) b1 (by omega)
     exact⟨j,waF hf g1,g2⟩
  ·refine⟨i,waC ?_,.inl (by omega)⟩
   unfold wbs
   rw[decide_eq_false h0]; rfl
theorem wsL {o:Search} (h:TabOk o.seen) {mark a b:Nat} (hm:mark<=4):∃ j,wbM o (⟨(mark:Int),(a:Int),(b:Int)⟩:Arr3_Int)=some (j,o)/\(j < 0\/∃ m:Nat,j=m/\o.seen.keys[m]? = some (⟨(mark:Int),(a:Int),(b:Int)⟩:Arr3_Int)):=by
 unfold wbM
 rcases h.size with h0 | h0
 ·have:decide ((o.seen.heads.length:Int)=0)=true:=decide_eq_true (by rw[h0]; rfl)
  rw[this]
  exact⟨-1,rfl,.inl (by omega)⟩
 ·have:decide ((o.seen.heads.length:Int)=0)=false:=decide_eq_false (by omega)
  obtain⟨n,hn,hs⟩:=wqG (a:=a) (b:=b) hm
  have hl:n < o.seen.heads.length:=by omega
  have e1:idx o.seen.heads (n:Int)=some o.seen.heads[n]:=by unfold idx; simp[hl]
  obtain⟨b1,b2⟩:=h.heads _ (List.getElem_mem hl)
  obtain⟨j,g1,g2⟩:=wno h (⟨(mark:Int),(a:Int),(b:Int)⟩:Arr3_Int) o.seen.keys.length o.seen.heads[n] b2 b1 b2
  rw[this,cond_false,hs]
  simp only[Option.bind_some,e1,g1]
  exact⟨j,rfl,g2⟩
theorem wiZ:∀ (n:Nat) (L:List Int),L.length+n=4096->iter wby L=some (L++List.replicate n (-1))
 | 0,L,h=>by
  refine waC ?_
  unfold wby
  rw[decide_eq_false (by omega)]; simp
 | n+1,L,h=>by
  have ih:=wiZ n (L++[-1]) (by simp; omega)
  rw[List.append_assoc]at ih
  refine waF ?_ ih
  unfold wby
  rw[decide_eq_true (by omega),cond_true,waV (by simp; omega)]
theorem wtu {o:Search} (h:TabOk o.seen) (hfew:o.seen.keys.length+1<=2000000000) {mark a b:Nat} (hm:mark<=4):∃ o',wbu o (⟨(mark:Int),(a:Int),(b:Int)⟩:Arr3_Int)=some o'/\o'.k=o.k/\o'.t=o.t/\o'.many=o.many/\o'.at_=o.at_/\o'.nodes=o.nodes/\TabOk o'.seen/\o'.seen.keys=o.seen.keys++[⟨(mark:Int),(a:Int),(b:Int)⟩]:=by
 unfold wbu
 obtain⟨L1,hL,hlen,hin⟩:∃ L1,iter wby o.seen.heads=some L1/\L1.length=4096/\∀ x∈L1,-1<=x/\x < o.seen.keys.length:=by
  rcases h.size with h0 | h0
  ·refine⟨_,wiZ 4096 o.seen.heads (by rw[h0]; rfl),by rw[h0,List.nil_append,List.length_replicate],fun x hx=>?_⟩
   rw[h0,List.nil_append]at hx
   have:=(List.mem_replicate.1 hx).2
   omega
  ·refine⟨_,wiZ 0 o.seen.heads (by omega),by simpa using h0,fun x hx=>h.heads x (by simpa using hx)⟩
 obtain⟨n,hn,hs⟩:=wqG (a:=a) (b:=b) hm
 have hl:n < L1.length:=by omega
 have e1:idx L1 (n:Int)=some L1[n]:=by unfold idx; simp[hl]
 have hx:=hin _ (List.getElem_mem hl)
 rw[hL]
 simp only[Option.bind_some]
 rw[hs]
 simp only[Option.bind_some]
 rw[waV (by simp; omega),e1]
 simp only[Option.bind_some]
 rw[waV (by have:=h.next; simp; omega)]
 have hw:IntKind.i64.wrap (((o.seen.keys.length+[(⟨(mark:Int),(a:Int),(b:Int)⟩:Arr3_Int)].length:Nat):Int) - 1)=(o.seen.keys.length:Int):=by
  rw[wak (by simp; omega)]; simp
 refine⟨_,rfl,rfl,rfl,rfl,rfl,rfl,⟨.inr (by simp[hlen]),by simp[h.next],fun x hx=>?_,fun i x hi=>?_,by simp; omega⟩,rfl⟩
 ·rcases List.mem_or_eq_of_mem_set hx with hx | hx
  ·have:=hin x hx; simp; omega
  ·have hx:x=IntKind.i64.wrap (((o.seen.keys.length+[(⟨(mark:Int),(a:Int),(b:Int)⟩:Arr3_Int)].length:Nat):Int) - 1):=by rw[hx]; simp
   rw[hw]at hx; simp; omega
 ·by_cases hi2:i < o.seen.next.length
  ·rw[List.getElem?_append_left hi2]at hi
   exact h.back i x hi
  ·rw[List.getElem?_append_right (by omega)]at hi
   cases hd:i - o.seen.next.length with
   | zero =>
    rw[hd]at hi
    simp only[List.getElem?_cons_zero,Option.some.injEq]at hi
    subst hi
    have:=h.next
    omega
   | succ m=>rw[hd]at hi; simp at hi
end Go.Pv

namespace Go.Pv
structure SrchOk (t:List Rule) (k:Nat) (o:Search):Prop where
 ek:o.k=(k:Int)
 et:o.t=t
 tab:TabOk o.seen
 many:o.many.length=o.seen.keys.length
 memo:∀ (i mark a:Nat) (V:List Int),o.seen.keys[i]? = some (⟨(mark:Int),(a:Int),0⟩:Arr3_Int)->o.many[i]? = some V->mark < k->V=wtT t (k - mark) mark a
end Go.Pv

namespace Go.Pv
end Go.Pv

namespace Go.Pv
end Go.Pv

namespace Go.Pv
end Go.Pv

namespace Go.Pv
theorem wnX {t:List Rule}:∀ (ys:List Int) (mark a:Nat),a < 2 ^ t.length->wf7 t mark a ys < 2 ^ t.length
 | [],_,_,h=>h
 | y::ys,mark,a,h=>wnX ys (mark+1) _ (Nat.lt_of_le_of_lt Nat.and_le_left h)
end Go.Pv

