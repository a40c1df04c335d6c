/- TariffDiagrams answers true for every input, as its tied card says: under the conditions of the card (Rows, Cards, Tie), no more. Part 7 of 7: by one AI agent and its programs; no person has read it. -/
import Derived.Test.YtnfnkllhjaemnaaDoorTariffDiagramsA
import Derived.Test.YtnfnkllhjaemnaaDoorTariffDiagramsB
import Derived.Test.YtnfnkllhjaemnaaDoorTariffDiagramsC
import Derived.Test.YtnfnkllhjaemnaaDoorTariffDiagramsD
import Derived.Test.YtnfnkllhjaemnaaDoorTariffDiagramsE
import Derived.Test.YtnfnkllhjaemnaaDoorTariffDiagramsF
import Derived.ProofKit
import Derived.Deep.Slices
import Derived.LaidMore
import Derived.OpenShut
import Derived.Stop.Joined
import Derived.WideKeyArgs
import Derived.Deep.OwnRows
import Derived.Test.YtnfnkllhjaemnaaDoorRows
import Derived.Test.YtnfnkllhjaemnaaDoorCards
import Derived.Test.YtnfnkllhjaemnaaDoorTie
import Derived.SevenTiedAt
set_option linter.unusedSimpArgs false
set_option linter.unusedVariables false
set_option linter.all false

namespace Go.Pv
open Go Go.ChangeShapes Go.WideShapes Go.ChangeAt Go.RowKit
def Base.top (P:Program) (W:World):Base P where
 w0:=W
 X:=fun _ _=>False
 hX:=fun _ _ h=>h.elim
 o0:=fun _=>False
 φ0:=fun _=>none
 z0:=fun _=>0
 ro:=none
 held:=[]
 hheld:=fun _=>rfl
 J:=fun _ _ _ _=>True
 stab:=fun _ _ _ _ _ _ _ _ _ _ _ _ _=>trivial
 y:=none
 yok:=fun _ _ h=>by cases h
def inW (w:World) (b _k:Nat):Prop:=b < w.heap.size
theorem wqX {w:World} {b k:Nat} (h:inW w b k):okd w (fun _ _=>False) Nm.no [] b k :=
 ⟨h,fun h=>h,fun h=>h.elim (fun ⟨_,_,h,_⟩=>by cases h) fun h=>h⟩
def wqY (G:List (Nat×PD)) (w:World):Prop :=
 ∀ g x,(g,x)∈G->∃ c e f v,w.heap[g]? = some (.cells c e f)/\RepD w (inW w) v x/\v.cells.size=c.size/\∀ j,j < v.cells.size->c[j]? = some (v.cells.getD j undef)/\flat (v.cells.getD j undef)=true
theorem wtF (b:Nat):¬ own Nm.no [] b:=fun h=>h.elim (fun ⟨_,_,h,_⟩=>by cases h) fun h=>h
theorem woV {P:Program} {G:List (Nat×PD)} {f:FuncId} {args:List PD} {b:Bool} (h:PureFn P G f (args.map .d) (.d (.bool b))) {W:World} {vs:List Value} (hl:vs.length=args.length)
  (hv:∀ i (hi:i < args.length),RepD W (inW W) (vs.getD i undef) args[i]) (hG:wqY G W) :
  Calls P f vs.toArray W fun e W'=>e=.returned (.bool b)/\Keeps (fun _=>False) W W':=by
 have key:=h (Base.top P W) Nm.no vs rfl (by simpa using hl) (fun i hi=>by
  have hi':i < args.length:=by simpa using hi
  have e:(args.map PV.d)[i]=.d args[i]:=by simp
  rw[e]
  exact .d ((hv i hi').mono' (fun _ _ h=>wqX h) fun _ _ _ _ _ _ h=>h)) ⟨⟨fun r x b h=>by simp[waa]at h,fun r x h=>by simp[waa]at h,fun r s x y b h=>by simp[waa]at h,fun b h=>h.elim⟩,Keeps.refl _ _,
   fun r x b h=>by simp[waa]at h,fun r x h=>by simp[waa]at h,fun r x b h=>by simp[waa]at h,fun g x hx=>by
    obtain⟨c,e,f,v,h1,h2,h3,h4⟩:=hG g x hx
    exact⟨c,e,f,v,h1,wtF g,h2.mono' (fun _ _ h=>wqX h) fun _ _ _ _ _ _ h=>h,h3,h4,fun h=>h⟩,fun b h=>h.elim,fun b h=>h⟩
 refine callsIn_wide.1 (CallsIn.mono key ?_)
 rintro e w' ⟨v,p,H',g',φ',rfl,⟨rfl,rfl⟩,hr,hs⟩
 cases hr with
 | d hd=>cases hd; exact⟨rfl,hs.keeps⟩
section
variable {H:Type} {enc:TypeId×Value->H} {P:Program} {w:World} {sp:Nat->Bool} {held:Bool}
def wo2 (P:Program) (w:World) {α:Type} (t:TypeId) (k:Nat) (f:α->PD):Prop :=
 P.cellsOf t=k/\∀ {H:Type} (enc:TypeId×Value->H) (sp:Nat->Bool) (held:Bool) (n:Nat) (cs:List Value) (x:DataW H×List MemPlace),DataW.trod enc P w 0 sp held n t cs=some x->w.noneFrozen x.2 →
  ∃ (v:Value) (a:α),v.cells.toList=cs/\RepD w (inW w) v (f a)/\v.cells.size=k/\∀ j,j < k->flat (v.cells.getD j undef)=true
theorem woH {α:Type} [Inhabited α] {t e:TypeId} {k n:Nat} {f:α->PD} {v:Value} {x:DataW H×List MemPlace} (ht:P.underlying t=some (.slice e)) (he:wo2 P w e k f) (hk:0 < k) (h:DataW.trod enc P w 0 sp held n t [v]=some x) (hnf:w.noneFrozen x.2):∃ l:List α,RepD w (inW w) v (.imm k (wab f l)):=by
 rcases Go.Deep.open_slice ht h with ⟨h1,_⟩ | ⟨a,len,cap,m,n',D,Pl,h1,_,hl,_,hm,hxe,hx⟩
 ·simp only[List.cons.injEq,and_true]at h1
  subst h1
  exact⟨[],.imm0 k⟩
 ·simp only[List.cons.injEq,and_true]at h1
  subst h1
  have hlm:len<=m:=by rw[hm]; split <;> omega
  rw[he.1]at hx
  have h2:∀ i,i < len->∃ y:Value×α,(y.1.cells.toList.length=k/\w.cells? 0 (a.add (i*k)) k=some y.1.cells.toList)/\RepD w (inW w) y.1 (f y.2)/\y.1.cells.size=k/\∀ j,j < k->flat (y.1.cells.getD j undef)=true:=fun i hi=>by
   obtain⟨cs',h3,h4⟩:=hx i (by omega)
   obtain⟨v,b,h5,h6,h7,h8⟩:=he.2 enc sp held n' cs' _ h4 (fun b o hm=>hnf b o (by rw[hxe]; exact List.mem_append_right _ (List.mem_flatMap.2 ⟨i,List.mem_range.2 (by omega),hm⟩)))
   exact⟨(v,b),⟨by simp[h7],by rw[h5]; exact h3⟩,h6,h7,h8⟩
  have hsp:0 < len->a.spot=none:=fun hpos=>by
   obtain⟨y,⟨h3,h4⟩,_⟩:=h2 0 hpos
   simp only[World.cells?,Nat.zero_le,if_true]at h4
   have:=mapM_some_get h4 0 0 (by simp[hk])
   rw[Nat.zero_mul]at this
   have e:(a.add 0).add 0=a:=by simp[Addr.add]
   rw[e,List.getElem?_eq_getElem (by rw[h3]; exact hk)]at this
   unfold World.cell? at this
   split at this
   ·split at this
    ·cases this
    ·rename_i hn
     cases hs:a.spot with
     | none=>rfl
     | some s=>rw[hs]at hn; exact absurd rfl hn
   ·cases this
  have:Inhabited (Value×α):=⟨(undef,default)⟩
  obtain⟨Y,hY⟩:=Go.Deep.choose_lt h2
  have hcell:∀ i,i < len->∀ j,j < k->w.cell? ⟨a.block,a.off+i*k+j,none⟩=some ((Y i).1.cells.getD j undef):=fun i hi j hj=>by
   obtain⟨⟨h3,h4⟩,h5,h6,_⟩:=hY i hi
   simp only[World.cells?,Nat.zero_le,if_true]at h4
   have:=mapM_some_get h4 j j (by simp[hj])
   rw[Go.Deep.add_add]at this
   have e1:a.add (i*k+j)=⟨a.block,a.off+i*k+j,none⟩:=by
    have hsp:=hsp (by omega)
    obtain⟨b,o,s⟩:=a
    dsimp only at hsp
    subst hsp
    simp only[Addr.add]
    split
    ·rename_i h0
     have e2:o+i*k+j=o:=by omega
     rw[e2]
    ·rw[Nat.add_assoc]
   rw[e1]at this
   rw[this,List.getElem?_eq_getElem (by rw[h3]; exact hj)]
   simp[Array.getD,h6,hj]
  have hpos:wab f ((List.range len).map fun i=>(Y i).2)≠[]->0 < len:=fun hne=>by
   rcases Nat.eq_zero_or_pos len with h | h
   ·subst h; simp[wab]at hne
   ·exact h
  refine⟨(List.range len).map fun i=>(Y i).2,.imm (fun i=>(Y i).1) (fun hne=>hsp (hpos hne)) (fun hne=>?_) (by simp[wab]) hl (fun i hi=>?_) (fun i hi=>?_) (fun i hi=>?_) (fun i hi=>?_) (fun i hi j hj _=>hnf _ _ ?_)⟩
  rotate_right
  ·have hi':i < len:=by simpa [wab]using hi
   rw[hxe]
   refine List.mem_append_left _ (List.mem_map.2 ⟨i*k+j,List.mem_range.2 ?_,by rw[Nat.add_assoc]⟩)
   rw[he.1]
   have h1:(i+1)*k<=m*k:=Nat.mul_le_mul_right _ (by omega)
   rw[Nat.add_mul,Nat.one_mul]at h1
   omega
  ·have hlen:0 < len:=by
    rcases Nat.eq_zero_or_pos len with h | h
    ·subst h; simp[wab]at hne
    ·exact h
   exact World.block_lt_of_cell? w ⟨a.block,a.off+0*k+0,none⟩ (hcell 0 hlen 0 hk)
  ·have hi':i < len:=by simpa [wab]using hi
   have:=(hY i hi').2.1
   simpa [wab]using this
  ·exact(hY i (by simpa [wab]using hi)).2.2.1
  ·exact(hY i (by simpa [wab]using hi)).2.2.2
  ·exact hcell i (by simpa [wab]using hi)
theorem woW {α:Type} [Inhabited α] {r:Reach} {b0:Nat} {t e:TypeId} {k:Nat} {f:α->PD} {v:Value} {d:DataW H} {p:List MemPlace} (ht:P.underlying t=some (.slice e)) (he:wo2 P w e k f) (hk:0 < k)
  (hval:Value.okWide P w r b0 t v) (h:DataW.Trod enc P w 0 sp held t v d p) (hnf:w.noneFrozen p):∃ l:List α,RepD w (inW w) v (.imm k (wab f l)):=by
 obtain⟨a0,len,cap,rfl⟩:=okWide_slice ht hval
 obtain⟨n,hn⟩:=h
 simp only[Value.cells]at hn
 exact woH ht he hk hn hnf
theorem wqv {r:Reach} {b0:Nat} {t:TypeId} {k:IntKind} {v:Value} (ht:P.underlying t=some (.int k)) (hval:Value.okWide P w r b0 t v):∃ n,RepD w (inW w) v (.int k n):=by
 obtain⟨n,rfl⟩:=okWide_int ht hval
 exact⟨n,.int k n⟩
theorem Keeps.since {w':World} (h:Keeps (fun _=>False) w w'):w.Since w.heap.size w' :=
 ⟨h.os,h.tape,h.output,h.size,fun k hk=>h.block k hk fun h=>h⟩
theorem wkx {w':World} {sp':Nat->Bool} (hl:laidOutB P=true):∀ {ts:List TypeId} {vs:List Value} {ds:List (DataW H)} {ps:List MemPlace},(ts.all fun t=>P.readableRec t&&decide (t < P.types.size))=true →
  DataW.TrodAll enc P w 0 (fun _=>true) true ts vs ds ps->(∀ p∈ps,w.sameAt w' p)->(∀ p∈ps,sp' p.block=true)->DataW.TrodAll enc P w' 0 sp' true ts vs ds ps
 | [],[],[],_,_,h,_,_=>h
 | [],[],_::_,_,_,h,_,_=>h.elim
 | [],_::_,_,_,_,h,_,_=>h.elim
 | _::_,[],_,_,_,h,_,_=>h.elim
 | _::_,_::_,[],_,_,h,_,_=>h.elim
 | t::ts,v::vs,d::ds,_,ht,⟨p,q,h1,h2,e⟩,hs,hp=>by
  subst e
  rw[List.all_cons,Bool.and_eq_true,Bool.and_eq_true,decide_eq_true_eq]at ht
  exact⟨p,q,WideElems.Trod_stays hl ht.1.1 ht.1.2 h1 (fun x hx=>hs x (List.mem_append_left _ hx)) (fun x hx=>hp x (List.mem_append_left _ hx)),
   wkx hl ht.2 h2 (fun x hx=>hs x (List.mem_append_right _ hx)) (fun x hx=>hp x (List.mem_append_right _ hx)),rfl⟩
theorem ws7 {f:Func} {s:ChangeSpec} {apart fresh handsOn:Bool} {W W':World} {args:Array Value} {ds:List (DataW H)} {before:List MemPlace} {t:TypeId} (hv:s.vars=[])
  (hW:DataW.Whole enc P f.params.toList [] apart W args.toList ds [] before) (hs:Keeps (fun _=>False) W W') (e:s.fn H (ds++[])={ results:=[.lit (.bool true)],args:=ds })
  (hr:f.resultTypes=#[t]) (ht:P.underlying t=some .bool) (hl:laidOutB P=true) (hrec:(f.params.toList.all fun t=>P.readableRec t&&decide (t < P.types.size))=true) :
  s.post enc P f apart fresh handsOn false W args (.bool true) W':=by
 have hlt:=hW.lt
 have hW2:=hW
 obtain⟨p,q,hA,hV,hpq,_,_⟩:=hW2
 have hlt':∀ x∈p,x.block < W.heap.size:=fun x hx=>hlt x (by rw[hpq]; exact List.mem_append_left _ hx)
 refine⟨ds,[],before,[],p,[],by rw[hv]; exact hW,?_,?_,?_,(Keeps.since hs).frame _,fun h=>by cases h⟩
 ·rw[e,hr]
  exact trodAll_mk1 (shut_bool ht _)
 ·rw[e]
  exact wkx hl hrec hA (fun x hx=>(Keeps.since hs).sameAt (hlt' x hx)) (fun x hx=>by simpa using hlt' x hx)
 ·rw[e,hv]
  rfl
end
end Go.Pv

namespace Go.Pv.Tryd
open Go Go.Proofs Go.Pv Go.ChangeShapes Go.WideShapes Go.ChangeAt Go.RowKit
theorem own:ownKnob Tryd.prog.godebug=none:=by kernel_rfl
theorem wtG:laidOutB Tryd.prog=true:=by kernel_rfl
theorem wrv {α:Type} {l:List α} (h:l.length=2):∃ a b,l=[a,b]:=by
 rcases l with _ | ⟨a,_ | ⟨b,_ | ⟨c,l⟩⟩⟩
 ·cases h
 ·cases h
 ·exact⟨a,b,rfl⟩
 ·simp at h
set_option maxRecDepth 100000 in
theorem wrw {w:World}:wo2 Tryd.prog w 61 2 Band.pd:=by
 refine⟨by kernel_rfl,fun enc sp held n cs x h _=>?_⟩
 obtain⟨xs,m,_,_,hl,hx,hf⟩:=DataW.trod_struct Tryd.underlying61 h
 have c26:Tryd.prog.cellsOf 61=2:=by kernel_rfl
 have c3:Tryd.prog.cellsOf 3=1:=by kernel_rfl
 rw[c26]at hl
 have hx2:xs.length=2:=hx
 obtain⟨a,b,rfl⟩:=wrv hl
 obtain⟨x0,x1,rfl⟩:=wrv hx2
 clear hl hx hx2
 have f0:DataW.trod enc Tryd.prog w 0 sp held m 3 (([a,b].drop 0).take (Tryd.prog.cellsOf 3))=some x0:=hf 0 _ rfl
 have f1:DataW.trod enc Tryd.prog w 0 sp held m 3 (([a,b].drop 1).take (Tryd.prog.cellsOf 3))=some x1:=hf 1 _ rfl
 rw[c3]at f0 f1
 obtain⟨m0,e0,_⟩:=DataW.trod_int Tryd.underlying3 f0
 obtain⟨m1,e1,_⟩:=DataW.trod_int Tryd.underlying3 f1
 simp at e0 e1
 subst e0 e1
 refine⟨.agg #[.int .i64 m0,.int .i64 m1],⟨m0,m1⟩,rfl,.agg rfl (fun i hi=>?_) (fun i hi=>?_),rfl,fun j hj=>?_⟩
 ·match i,hi with
  | 0,_=>exact .int .i64 m0
  | 1,_=>exact .int .i64 m1
 ·match i,hi with
  | 0,_=>rfl
  | 1,_=>rfl
 ·match j,hj with
  | 0,_=>rfl
  | 1,_=>rfl
theorem wnC {H:Type} {enc:TypeId×Value->H} {P:Program} {w:World} {sp:Nat->Bool} {held:Bool} {n:Nat} {t e:TypeId} {a:Value} {x:DataW H×List MemPlace} (ht:P.underlying t=some (.slice e)) (h:DataW.trod enc P w 0 sp held n t [a]=some x):flat a=true:=by
 rcases Go.Deep.open_slice ht h with ⟨h1,_⟩ | ⟨p,len,cap,m,n',D,Pl,h1,_⟩
 ·simp only[List.cons.injEq,and_true]at h1; subst h1; rfl
 ·simp only[List.cons.injEq,and_true]at h1; subst h1; rfl
set_option maxRecDepth 100000 in
theorem wrx {w:World}:wo2 Tryd.prog w 56 2 Rule.pd:=by
 refine⟨by kernel_rfl,fun enc sp held n cs x h hnf=>?_⟩
 obtain⟨xs,m,_,hxe,hl,hx,hf⟩:=DataW.trod_struct Tryd.underlying56 h
 have c26:Tryd.prog.cellsOf 56=2:=by kernel_rfl
 have c54:Tryd.prog.cellsOf 54=1:=by kernel_rfl
 have c3:Tryd.prog.cellsOf 3=1:=by kernel_rfl
 rw[c26]at hl
 have hx2:xs.length=2:=hx
 obtain⟨a,b,rfl⟩:=wrv hl
 obtain⟨x0,x1,rfl⟩:=wrv hx2
 clear hl hx hx2
 have f0:DataW.trod enc Tryd.prog w 0 sp held m 54 (([a,b].drop 0).take (Tryd.prog.cellsOf 54))=some x0:=hf 0 _ rfl
 have f1:DataW.trod enc Tryd.prog w 0 sp held m 3 (([a,b].drop 1).take (Tryd.prog.cellsOf 3))=some x1:=hf 1 _ rfl
 rw[c54]at f0
 rw[c3]at f1
 obtain⟨m1,e1,_⟩:=DataW.trod_int Tryd.underlying3 f1
 simp at e1
 subst e1
 have f0':DataW.trod enc Tryd.prog w 0 sp held m 54 [a]=some x0:=f0
 obtain⟨l,hr⟩:=woH (f:=Band.pd) Tryd.underlying54 wrw (by decide) f0' (fun b o h=>hnf b o (by rw[hxe]; simp[h]))
 have hfl:=wnC Tryd.underlying54 f0'
 refine⟨.agg #[a,.int .i64 m1],⟨l,m1⟩,rfl,.agg rfl (fun i hi=>?_) (fun i hi=>?_),rfl,fun j hj=>?_⟩
 ·match i,hi with
  | 0,_=>exact hr
  | 1,_=>exact .int .i64 m1
 ·match i,hi with
  | 0,_=>exact hfl
  | 1,_=>rfl
 ·match j,hj with
  | 0,_=>exact hfl
  | 1,_=>rfl
def wqZ : String := "internal/strconv.uint64pow10"
theorem gTab:Tryd.prog.globalNamed wqZ=some wpt:=by kernel_rfl
theorem tTab:(Tryd.prog.globals[wpt]?).map (·.type)=some 188:=by kernel_rfl
def wnD:List (String×DataW Unit):=YtnfnkllhjaemnaaDoor.Rows.tariffCodesRow.laid
theorem ws8 (os:Os) (args:Array Value):laidMetH Tryd.prog wnD ((World.doorLaid Tryd.prog 400 os).forCall (fun _ _=>0) ⟨#[],args,[]⟩).memory :=
 laidMetH_of_parts3 (fuel:=8) (laidMet_of_run' 8 (by kernel_rfl) (by kernel_rfl)) (by kernel_rfl) (by kernel_rfl)
theorem wtH {H:Type} {enc:TypeId×Value->H} {w:World} {sp:Nat->Bool} {held:Bool} {m:Nat} {t:TypeId} {k:IntKind} (ht:Tryd.prog.underlying t=some (.int k)) (hc:Tryd.prog.cellsOf t=1) {cs:List Value} {xs:List (DataW H×List MemPlace)} {L:List Int}
  (hl:cs.length=L.length) (hxs:xs.map (·.1)=L.map fun i=>DataW.lit (.int k i)) (hf:∀ i,i < L.length->DataW.trod enc Tryd.prog w 0 sp held m t ((cs.drop (i*Tryd.prog.cellsOf t)).take (Tryd.prog.cellsOf t))=xs[i]?):cs=L.map (Value.int k):=by
 apply List.ext_getElem (by simp[hl])
 intro i h1 h2
 have hi:i < L.length:=by simpa using h2
 have h3:=hf i hi
 rw[hc,Nat.mul_one]at h3
 have hxl:xs.length=L.length:=by have:=congrArg List.length hxs; simpa using this
 rw[List.getElem?_eq_getElem (by omega)]at h3
 have e1:(cs.drop i).take 1=[cs[i]]:=by
  rw[List.drop_eq_getElem_cons h1]; rfl
 rw[e1]at h3
 obtain⟨n,e2,e3⟩:=DataW.trod_int ht h3
 simp only[List.cons.injEq,and_true]at e2
 have h4:(xs.map (·.1))[i]? = (L.map fun i=>DataW.lit (.int k i))[i]?:=by rw[hxs]
 rw[List.getElem?_map,List.getElem?_map,List.getElem?_eq_getElem (by omega),List.getElem?_eq_getElem hi]at h4
 simp only[Option.map_some,Option.some.injEq]at h4
 rw[e3.1]at h4
 simp only[DataW.lit.injEq,Lit.int.injEq,true_and]at h4
 simp only[List.getElem_map,e2,h4]
set_option maxRecDepth 100000 in
theorem wp6 {W:World} (h:laidMetH Tryd.prog wnD W):wqY G W:=by
 rw[MakeChecks.laidMetH_plain _ _ _ (by kernel_rfl)]at h
 obtain⟨ps,hv,_⟩:=h
 have hv : DataW.LaidVars Tryd.prog W [("math/bits.deBruijn32tab", YtnfnkllhjaemnaaDoor.Rows.laid_math_bits_deBruijn32tab), ("math/bits.deBruijn64tab", YtnfnkllhjaemnaaDoor.Rows.laid_math_bits_deBruijn64tab), (wqZ, YtnfnkllhjaemnaaDoor.Rows.laid_internal_strconv_uint64pow10)] ps := hv
 obtain⟨_,_,_,_,_,q1,_,_,_,_,hv,_⟩:=hv
 obtain⟨_,_,_,_,_,q2,_,_,_,_,hv,_⟩:=hv
 obtain⟨g0,t0,cs0,f0,p0,q0,hg0,ht0,hv0,hd0,_,_⟩:=hv
 obtain rfl:=Option.some.inj (gTab.symm.trans hg0)
 obtain rfl:=Option.some.inj (tTab.symm.trans ht0)
 obtain⟨xs,m,_,hx,hl,hn,hf⟩:=DataW.trod_array Tryd.underlying188 hd0
 have c188:Tryd.prog.cellsOf 188=20:=by kernel_rfl
 have c170:Tryd.prog.cellsOf 170=1:=by kernel_rfl
 rw[c188]at hl
 have elaid:(YtnfnkllhjaemnaaDoor.Rows.laid_internal_strconv_uint64pow10:DataW Unit)=.agg (Lib.pow10Tab.map fun i=>DataW.lit (.int .u64 i)):=by kernel_rfl
 rw[elaid]at hx
 simp only[Prod.mk.injEq,DataW.agg.injEq]at hx
 have hcs:=wtH (k:=.u64) Tryd.underlying170 c170 (L:=Lib.pow10Tab) (hl.trans Lib.pow10Tab_length.symm) hx.1.symm (fun i hi=>hf i (by rw[Lib.pow10Tab_length]at hi; exact hi))
 have hcs2:cs0=(Lib.pow10Tab.map (Value.int .u64)).toArray:=by
  rw[<-hcs]
 subst hcs2
 intro g x hgx
 simp only[G,List.mem_singleton,Prod.mk.injEq]at hgx
 obtain⟨rfl,rfl⟩:=hgx
 simp only[World.var?,hg0,Option.bind_some]at hv0
 split at hv0
 ·rename_i cs t f hh
  cases hv0
  have hc:(Value.agg (Lib.pow10Tab.map (Value.int .u64)).toArray).cells=(Lib.pow10Tab.map (Value.int .u64)).toArray:=by kernel_rfl
  refine⟨_,_,_,.agg (Lib.pow10Tab.map (Value.int .u64)).toArray,hh,.agg (by simp) (fun i hi=>?_) (fun i hi=>?_),by rw[hc],fun j hj=>?_⟩
  ·have hi':i < Lib.pow10Tab.length:=by simpa using hi
   have e:(Lib.pow10Tab.map (Value.int .u64)).toArray.getD i undef=.int .u64 Lib.pow10Tab[i]:=by simp[Array.getD,hi']
   rw[e,List.getElem_map]
   exact .int .u64 _
  ·have hi':i < Lib.pow10Tab.length:=by simpa using hi
   have e:(Lib.pow10Tab.map (Value.int .u64)).toArray.getD i undef=.int .u64 Lib.pow10Tab[i]:=by simp[Array.getD,hi']
   rw[e]; rfl
  ·rw[hc]at hj ⊢
   have hj':j < Lib.pow10Tab.length:=by simpa using hj
   have e:(Lib.pow10Tab.map (Value.int .u64)).toArray.getD j undef=.int .u64 Lib.pow10Tab[j]:=by simp[Array.getD,hj']
   rw[e]
   exact⟨by simp[hj'],rfl⟩
 ·cases hv0
end Go.Pv.Tryd

namespace Go.Pv.Tryd
open Go Go.Proofs Go.Pv Go.ChangeShapes Go.WideShapes Go.ChangeAt Go.RowKit Go.Proofs.YtnfnkllhjaemnaaDoor
set_option maxRecDepth 100000 in
theorem wnE (os:Os) (started:os.Started) (H:Type) (enc:TypeId×Value->H) :
  ReturnsInHanded {} Tryd.checked os 4 .any (fun w args=>(Rows.tariffDiagramsSpec.pre enc Tryd.prog Tryd.f4 [] false w args/\laidMetH Tryd.prog wnD w)/\sizedMet enc Tryd.prog Tryd.f4 (OpenSpec.ofChange Rows.tariffDiagramsSpec) false w args)
   (Rows.tariffDiagramsSpec.post enc Tryd.prog Tryd.f4 false true false false):=by
 refine returnsInHanded_of_change_and (C:=Tryd.checked) (X:=fun w _=>laidMetH Tryd.prog wnD w) (fun _ _ _ hh h=>h.of_heap hh) own started (by kernel_rfl) Tryd.func4
  (ChangeSpec.witness_shaped (enc:=enc) (C:=Tryd.checked) (os:=os) (X:=fun w _=>laidMetH Tryd.prog wnD w) false (World.doorLaid Tryd.prog 400 os) #[.int .i64 0,.slice none 0 0] 8 rfl (World.shaped_of_RefB (by kernel_rfl) (by kernel_rfl)) (by kernel_rfl) (by kernel_rfl) (by kernel_rfl) (ws8 os _)) ?_
 intro W base args ds gs before hval0 hW _ _ hL _
 have hval:∀ (j:Nat) t v,Tryd.f4.params[j]? = some t->args[j]? = some v->Value.okWide Tryd.prog W .any base t v:=hval0
 have hW':=hW
 obtain⟨p,q,hA0,hV,rfl,hfz,hnd⟩:=hW
 have hA:DataW.TrodAll enc Tryd.prog W 0 (fun _=>true) true Tryd.f4.params.toList args.toList ds p:=hA0
 obtain⟨rfl,rfl⟩:=trodVars_none hV
 rw[Tryd.params4]at hA hval
 obtain⟨v0,vs0,d0,ds0,p0,q0,ha,rfl,rfl,t0,hA⟩:=trodAll_cons hA
 obtain⟨v1,vs1,d1,ds1,p1,q1,rfl,rfl,rfl,t1,hA⟩:=trodAll_cons hA
 obtain⟨rfl,rfl,rfl⟩:=trodAll_nil hA
 have hargs:args=#[v0,v1]:=Array.toList_inj.1 ha
 subst hargs
 obtain⟨x0,r0⟩:=wqv Tryd.underlying3 (hval 0 3 v0 rfl rfl)
 obtain⟨x1,r1⟩:=woW Tryd.underlying22 wrx (by decide) (hval 1 22 v1 rfl rfl) t1 (fun b o h=>hfz b o (by simp[h]))
 have hw:=woV (args:=[.int .i64 x0,.imm 2 (wab Rule.pd x1)]) (vs:=[v0,v1]) (wqu x0 x1 true (wlv x0 x1)) rfl (fun i hi=>by
  match i,hi with
  | 0,_=>exact r0
  | 1,_=>exact r1) (wp6 hL)
 refine hw.mono fun e W' ⟨he,hs⟩=>?_
 subst he
 exact⟨_,rfl,ws7 rfl hW' hs rfl (t:=4) (by rfl) Tryd.underlying4 wtG (by kernel_rfl)⟩
theorem woX:Rows.TariffDiagramsSaid :=
 OpenClaim.holds_of_wide 4 Tryd.f4 rfl rfl rfl rfl rfl rfl rfl ⟨rfl,rfl,rfl,rfl,rfl⟩ rfl rfl rfl rfl rfl (by kernel_rfl) Tryd.func4 (by kernel_rfl)
  (of_decide_eq_true (by kernel_rfl)) (by unfold Func.isWrapper; first | (rw[if_pos (by decide +kernel)]; kernel_rfl) | (rw[if_neg (by decide +kernel)]; exact⟨rfl,rfl⟩))
  (fun os started H enc _=>wnE os started H enc)
theorem diagrams_card:Rows.TariffDiagramsCardSaid :=
 Claim7.holds_tied_plain_at .later [] [.data,.data,.data] true Rows.tariffDiagramsCard.stood.harness false
  woX (fun _ h=>by cases h) (by kernel_rfl) (fun _ h=>by cases h) tariffDiagrams_row_tie rfl ⟨rfl,rfl⟩ (by kernel_rfl) rfl
  (fun f fn hf hfn=>by
   obtain rfl:f=4:=Option.some.inj ((show Tryd.prog.funcNamed Rows.tariffDiagramsRow.func=some 4 by kernel_rfl).symm.trans hf) |>.symm
   obtain rfl:fn=Tryd.f4:=(Option.some.inj (Tryd.func4.symm.trans hfn)).symm
   exact⟨by kernel_rfl,fun j t ht=>by
    rw[Tryd.params4]at ht
    have hm:t∈[3,22]:=by simpa using Array.mem_of_getElem? ht
    have hall:([3,22].all fun u=>!Tryd.prog.wantsStandIn u)=true:=by kernel_rfl
    exact(show Tryd.prog.wantsStandIn t=false by simpa using List.all_eq_true.1 hall t hm)⟩)
  (by kernel_rfl)
end Go.Pv.Tryd

namespace Go.Proofs.YtnfnkllhjaemnaaDoor

theorem diagrams_card : Rows.TariffDiagramsCardSaid := Go.Pv.Tryd.diagrams_card

#print axioms diagrams_card

end Go.Proofs.YtnfnkllhjaemnaaDoor
