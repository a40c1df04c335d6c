/- TariffDiagrams answers true for every input, as its tied card says: under the conditions of the card (Rows, Cards, Tie), no more. Part 3 of 7: by one AI agent and its programs; no person has read it. -/
import Derived.Test.YtnfnkllhjaemnaaDoorTariffDiagramsA
import Derived.Test.YtnfnkllhjaemnaaDoorTariffDiagramsB
import Derived.Sort.Grow
import Derived.Lib.SlicesCompact
import Derived.WideKeyRuns
import Derived.ChangeKeysEq
import Derived.MapKept
import Derived.Laws.StructEq
import Derived.Lib.Builder
import Derived.Lib.UnsafeStr
import Derived.Lib.AppendStr
import Derived.Lib.FrozenHead
import Derived.Laws.Externs
set_option linter.unusedSimpArgs false
set_option linter.unusedVariables false
set_option linter.all false

namespace Go.Pv
def whG (ks:List Nat) (e:List (Nat×PV)):List (Nat×PV):=match ks with
 | []=>[]
 | k::l=>(k,wam e k)::whG l e
def whi (ks:List Nat) (h:wac):wac:=match ks with
 | []=>[]
 | k::l=>match waa h k with
  | some x=>(k,x)::whi l h
  | none=>whi l h
theorem waj {α β:Type} {l:List α} {i:Int} {f:α->Option β} {r:β} (h:(idx l i).bind f=some r):∃ x,(0<=i/\i < l.length/\l[i.toNat]? = some x/\i.toNat < l.length)/\f x=some r :=
 let ⟨x,h1,h2⟩:=bind_some h; ⟨x,wsv h1,h2⟩
section
variable {P:Program} {G:List (Nat×PD)} {ro:Option Nat} {N:Nat} {ops:Array Oper} {σ τ σ':St} {o:Oper} {rest:List Oper}
theorem pf {f:FuncId} {fn:Func} {c:Code} {args:List PV} {res:PV} {n:Nat} {e0:List (Nat×PV)} (hf:P.funcs[f]? = some fn) (hn:fn.ntmps=n)
  (h:AWp P G none n c ⟨e0,[],[],none⟩ (Fin P G fn fun p H=>∃ u,frzT H p=some u/\leV u res)) (hb:fn.body=some c:=by rfl) (hN:args.length<=n:=by simp)
  (he:wcm 0 args=e0:=by(simp only[wcm,Nat.reduceAdd,Nat.zero_add]; rfl)):PureFn P G f args res:=by
 subst hn he; exact PureFn.intro2 hf hb hN h
theorem Fn.pf {f:FuncId} {fn:Func} {c:Code} {args:List PV} {n:Nat} {e0:List (Nat×PV)} {R:PV->wac->Prop} (hf:P.funcs[f]? = some fn) (hn:fn.ntmps=n)
  (h:AWp P G none n c ⟨e0,[],[],none⟩ (Fin P G fn R)) (hb:fn.body=some c:=by rfl) (hN:args.length<=n:=by simp)
  (he:wcm 0 args=e0:=by(simp only[wcm,Nat.reduceAdd,Nat.zero_add]; rfl)):Fn P G f args [] R:=by
 subst hn he; exact Fn.intro hf hb hN h
theorem rt {fn:Func} {p u res:PV} (hp:wiN P G fn.results.toList σ=some p:=by(simp only[go_sem,List.length_append,List.length_set,List.length_replicate,↓reduceIte]; rfl))
  (hd:σ.dfr=[]:=by first | exact True.intro | rfl)
  (hf:frzT σ.heap p=some u:=by(simp only[go_sem,wd7,List.take_length,List.length_append,List.length_set,List.length_replicate,↓reduceIte]; rfl))
  (hl:leV u res:=by first | exact leV_refl _ | (simp only[go_sem,leV,leVL,leD,leDL,wd7,leD_refl,leDL_refl,wjf,↓reduceIte]; done)) :
  Fin P G fn (fun p H=>∃ u,frzT H p=some u/\leV u res) .ret σ:=⟨p,hp,hd,u,hf,hl⟩
theorem wtb {fn:Func} {e k n:Nat} {l:List PD} (hp:wiN P G fn.results.toList σ=some (.slc 1000 0 n):=by(simp only[go_sem,↓reduceIte]; rfl)) (hd:σ.dfr=[]:=by first | exact True.intro | rfl) (hn:n=l.length:=by(rw[lenc_length]; rfl))
  (hh:σ.heap=[(1000,⟨e,k,dl l⟩)]:=by first | rfl | (simp only[go_sem,wd7,wog,↓reduceIte]; done)):Fin P G fn (fun p H=>p=.slc 1000 0 l.length/\H=[(1000,⟨e,k,dl l⟩)]) .ret σ :=
 ⟨_,hp,hd,by rw[hn],hh⟩
theorem sg {id:Nat} {l:List Oper} {y:Code} {Q:Post} (h:∀ K:St->Prop,(∀ σ,AWp P G ro N y σ Q->K σ)->AOps P G ro N l.toArray l σ K):AWp P G ro N (.seq (.region id l.toArray false) y) σ Q :=
 AWp.seq fun K hK=>AWp.reg (h K hK)
theorem sd {id:Nat} {l:List Oper} {y:Code} {Q:Post} (hm:P.follows .mixedOrders=true) (h:∀ K:St->Prop,(∀ σ,AWp P G ro N y σ Q->K σ)->DOps P G ro N [] l.toArray K l [] σ):AWp P G ro N (.seq (.region id l.toArray true) y) σ Q :=
 AWp.seq fun K hK=>AWp.draw hm [] trivial (h K hK)
theorem oo {Q:St->Prop} (h2:AOps P G ro N ops rest σ' Q) (h:∀ K:St->Prop,K σ'->wjR P G ro N (wbq ops) o σ K:=by(intro K k; simp(disch:=omega) only[go_sem,↓reduceIte]; exact k)):AOps P G ro N ops (o::rest) σ Q :=
 AOps.consU fun K hK=>h K (hK _ h2)
theorem ol {Q:St->Prop} (h2:AOps P G ro N ops rest σ' Q) (h:∀ K:St->Prop,K σ'->wo0 P N (wbq ops) o σ K:=by(intro K k; simp(disch:=omega) only[go_sem,↓reduceIte]; exact k)):AOps P G ro N ops (o::rest) σ Q :=
 AOps.consL fun K hK=>h K (hK _ h2)
theorem dd {xs:Exc} {acc:List Foot} {f:Foot} {Q:St->Prop} (h2:DOps P G ro N xs ops Q rest (acc++[f]) σ') (h:∀ K:Foot->St->Prop,K f σ'->wfr N (wbq ops) o σ (wib P G ro N xs o σ) K:=by(intro K k; simp(disch:=omega) only[go_sem,↓reduceIte]; exact k)):DOps P G ro N xs ops Q (o::rest) acc σ :=
 DOps.consU fun K hK=>h K (hK _ _ h2)
theorem ddl {xs:Exc} {acc:List Foot} {f:Foot} {Q:St->Prop} (h2:DOps P G ro N xs ops Q rest (acc++[f]) σ') (h:∀ K:Foot->St->Prop,K f σ'->wfr N (wbq ops) o σ (wje P N xs o σ) K:=by(intro K k; simp(disch:=omega) only[go_sem,↓reduceIte]; exact k)):DOps P G ro N xs ops Q (o::rest) acc σ :=
 DOps.consLU fun K hK=>h K (hK _ _ h2)
theorem ddx {xs:Exc} {acc:List Foot} {f:Foot} {Q:St->Prop} (h2:DOps P G ro N xs ops Q rest (acc++[f]) σ') (h:∀ K:Foot->St->Prop,K f σ'->wfr N (wbq ops) o σ (wlG P N xs o σ) K:=by(intro K k; simp(disch:=omega) only[go_sem,↓reduceIte]; exact k)):DOps P G ro N xs ops Q (o::rest) acc σ :=
 DOps.consX fun K hK=>h K (hK _ _ h2)
theorem cl {f:FuncId} {c:Call} {args:List PV} {res:PV} {Q:St->Prop} (hf:PureFn P G f args res) (h2:AOps P G ro N ops rest σ' Q) (hg:∀ {K:St->Prop},OpT P G ro N o σ K->wjR P G ro N (wbq ops) o σ K:=by(intro K k; simp(disch:=omega) only[go_sem,↓reduceIte]; exact k))
  (ho:o.op=.call c:=by rfl) (hc:c.callee=.value (.func f):=by rfl) (hcal:wbd P f=true:=by kernel_rfl)
  (ha:wdD σ.heap (wau σ c.args.toList) args:=by(repeat' (first | exact trivial | exact rfl | exact dyR rfl | exact dyS rfl | refine wa8 rfl ?_ | refine waJ ?_ | exact wbc (by repeat' (first | exact trivial | decide | apply And.intro)) | apply And.intro))) (hd:wao N o.dst:=by(simp only[go_sem,↓reduceIte]; done))
  (hp:σ.put o.dst res=σ':=by(simp only[go_sem,↓reduceIte]; rfl)) (hr:dOnly res:=by(simp only[go_sem]; done)):AOps P G ro N ops (o::rest) σ Q :=
 AOps.consU fun _ hK=>hg (OpT.call ho hc hcal hf ha hd (hp▸hK _ h2) hr)
theorem wt4 {f:FuncId} {c:Call} {xo:Operand} {args:List PV} {e k:Nat} {l:List PD} {Q:St->Prop} (r:Nat) (hf:RowFn P G f args e k l) (h2:AOps P G ro N ops rest σ' Q) (hg:∀ {K:St->Prop},OpT P G ro N o σ K->wjR P G ro N (wbq ops) o σ K:=by(intro K k; simp(disch:=omega) only[go_sem,↓reduceIte]; exact k))
  (ho:o.op=.call c:=by rfl) (hc:c.callee=.value xo:=by rfl) (hx:wcB (σ.eval xo)=some (f,[]):=by rfl) (hcal:wbd P f=true:=by kernel_rfl)
  (ha:wdD σ.heap (wau σ c.args.toList) args:=by(repeat' (first | exact trivial | exact rfl | exact dyR rfl | exact dyS rfl | refine wa8 rfl ?_ | refine waJ ?_ | exact wbc (by repeat' (first | exact trivial | decide | apply And.intro)) | apply And.intro))) (hd:wao N o.dst:=by(simp only[go_sem,↓reduceIte]; done)) (hr0:waa σ.heap r=none:=by rfl) (hp0:1000<=r:=by decide)
  (hp:({ σ with heap:=wal σ.heap r { e,k,els:=dl l } }:St).put o.dst (.slc r 0 l.length)=σ':=by(simp only[go_sem,↓reduceIte]; rfl)):AOps P G ro N ops (o::rest) σ Q :=
 AOps.consU fun _ hK=>hg (OpT.callRow ho hc hx hcal hf ha hd hr0 hp0 (hp▸hK _ h2))
theorem clV {f:FuncId} {c:Call} {xo:Operand} {args:List PV} {res:PV} {Q:St->Prop} (hf:PureFn P G f args res) (h2:AOps P G ro N ops rest σ' Q) (hd:wao N o.dst:=by(simp only[go_sem,↓reduceIte]; done)) (hg:∀ {K:St->Prop},OpT P G ro N o σ K->wfh P G ro N (wbq ops) o σ K:=by(intro K k; simp(disch:=omega) only[go_sem,↓reduceIte]; exact k))
  (ho:o.op=.call c:=by rfl) (hc:c.callee=.value xo:=by rfl) (hx:wcB (σ.eval xo)=some (f,[]):=by rfl) (hcal:wbd P f=true:=by kernel_rfl)
  (ha:wdD σ.heap (wau σ c.args.toList) args:=by(repeat' (first | exact trivial | exact rfl | exact dyR rfl | exact dyS rfl | refine wa8 rfl ?_ | refine waJ ?_ | exact wbc (by repeat' (first | exact trivial | decide | apply And.intro)) | apply And.intro)))
  (hp:σ.put o.dst res=σ':=by(simp only[go_sem,↓reduceIte]; rfl)) (hr:dOnly res:=by(simp only[go_sem]; done)) (hcl:clean res:=by(simp only[clean,cleanL,and_self]; done)) (hrf:refsIn [] res:=by(simp only[go_sem]; done)) (hren:res.ren id=res:=by rfl):AOps P G ro N ops (o::rest) σ Q :=
 AOps.consC hd fun _ hK=>hg (OpT.callV ho hc hx hcal hf ha hd (hp▸hK _ h2) hr hcl hrf hren)
theorem clC {f:FuncId} {c:Call} {xo:Operand} {caps args:List PV} {res:PV} {Q:St->Prop} (hf:PureFn P G f args res) (h2:AOps P G ro N ops rest σ' Q) (hd:wao N o.dst:=by(simp only[go_sem,↓reduceIte]; done)) (hg:∀ {K:St->Prop},OpT P G ro N o σ K->wfh P G ro N (wbq ops) o σ K:=by(intro K k; simp(disch:=omega) only[go_sem,↓reduceIte]; exact k))
  (ho:o.op=.call c:=by rfl) (hc:c.callee=.value xo:=by rfl) (hx:wcB (σ.eval xo)=some (f,caps):=by rfl) (hcal:wbd P f=true:=by kernel_rfl)
  (ha:wdq σ.heap [] id (wau σ c.args.toList++caps) args:=by(repeat' (first | exact trivial | exact rfl | exact dyR rfl | exact dyS rfl | refine wa8 rfl ?_ | refine waJ ?_ | exact wbc (by repeat' (first | exact trivial | decide | apply And.intro)) | apply And.intro | (simp only[go_sem,↓reduceIte]; done))))
  (hp:σ.put o.dst res=σ':=by(simp only[go_sem,↓reduceIte]; rfl)) (hcl:clean res:=by(simp only[clean,cleanL,and_self]; done)) (hrf:refsIn [] res:=by(simp only[go_sem]; done)) (hren:res.ren id=res:=by rfl):AOps P G ro N ops (o::rest) σ Q:=by
 refine AOps.consC hd fun K hK=>hg ?_
 refine OpT.callG (H:=[]) (g:=id) (gc:=none) ho hc hx hcal hf (wmp σ) (.inl rfl) ha hd ?_
 rintro p H' g' ⟨rfl,rfl⟩
 refine⟨id,⟨fun r x' h=>by simp[waa]at h,fun r x h=>by simp[waa]at h,fun r x' h=>by simp[waa]at h,fun r s x y h=>by simp[waa]at h,fun r x h=>by simp[waa]at h⟩,hcl,hrf,?_⟩
 rw[hren]
 exact hp▸hK _ h2
theorem dcl {f:FuncId} {c:Call} {args:List PV} {res:PV} {xs:Exc} {acc:List Foot} {ft:Foot} {Q:St->Prop} (hf:PureFn P G f args res) (h2:DOps P G ro N xs ops Q rest (acc++[ft]) σ')
  (ho:o.op=.call c:=by rfl) (hc:c.callee=.value (.func f):=by rfl) (hcal:wbd P f=true:=by kernel_rfl)
  (ha:wdD σ.heap (wau σ c.args.toList) args:=by(repeat' (first | exact trivial | exact rfl | exact dyR rfl | exact dyS rfl | refine wa8 rfl ?_ | refine waJ ?_ | exact wbc (by repeat' (first | exact trivial | decide | apply And.intro)) | apply And.intro))) (hd:wao N o.dst:=by(simp only[go_sem,↓reduceIte]; done))
  (hp:σ.put o.dst res=σ':=by(simp only[go_sem,↓reduceIte]; rfl)) (hr:dOnly res:=by(simp only[go_sem]; done)) (hx:exE xs (waS o.dst res):=by(simp only[go_sem,or_true,true_or,↓reduceIte]; done))
  (hg:∀ (S:(Foot->St->Prop)->Prop) (K:Foot->St->Prop),(∀ K',K' (some (waM (wav o.op)++wcT σ (wav o.op),wa5 o.dst)) σ'->S K')->K ft σ'->wfr N (wbq ops) o σ S K:=by(intro S K hS k; simp(disch:=omega) only[go_sem,↓reduceIte]; exact hS _ k)):DOps P G ro N xs ops Q (o::rest) acc σ :=
 DOps.consC fun _ hK=>hg _ _ (fun _ hK'=>OpX.call ho hc hcal hf ha hd hr hx (by rw[hp]; exact hK')) (hK _ _ h2)
theorem ct {l l1 l2:List Oper} {Q:St->Prop} {e0:List (Nat×PV)} {h0:wac} (n:Nat) (ks rs:List Nat) (e:List (Nat×PV)->List (Nat×PV))
  (h1:AOps P G ro N ops l1 σ (fun σ'=>Sub G N σ' ⟨e e0,h0,σ.dfr,σ.gh⟩)) (h2:AOps P G ro N ops l2 ⟨e e0,h0,σ.dfr,σ.gh⟩ Q)
  (he:whG ks σ.env=e0:=by(simp only[whG,wam,↓reduceIte,Nat.reduceEqDiff]; rfl)) (hh:whi rs σ.heap=h0:=by(simp only[whi,waa,wbr,↓reduceIte,Nat.reduceEqDiff,Nat.reduceLT]; rfl))
  (hl1:l.take n=l1:=by(simp only[List.take_succ_cons,List.take_zero]; rfl)) (hl2:l.drop n=l2:=by(simp only[List.drop_succ_cons,List.drop_zero]; rfl)):AOps P G ro N ops l σ Q:=by
 subst hl1 hl2 he hh; exact AOps.cut n _ h1 h2
theorem sb (h1:wlw τ.env σ.env:=by(repeat' (first | exact trivial | exact rfl | exact dyR rfl | exact dyS rfl | refine wa8 rfl ?_ | refine waJ ?_ | exact wbc (by repeat' (first | exact trivial | decide | apply And.intro)) | apply And.intro | exact wsw (by(simp only[List.length_append,List.length_set,List.length_replicate,List.length_cons,List.length_nil,Nat.zero_add]; done)))))
  (h2:wc9 τ.heap σ.heap:=by(repeat' (first | exact trivial | exact rfl | exact dyR rfl | exact dyS rfl | refine wa8 rfl ?_ | refine waJ ?_ | exact wbc (by repeat' (first | exact trivial | decide | apply And.intro)) | exact congrArg (fun els=>some (Row.mk _ _ els)) (wof rfl) | (simp only[List.length_append,List.length_set,List.length_replicate,List.length_cons,List.length_nil,Nat.zero_add]; first | exact rfl | exact dyR rfl) | apply And.intro)))
  (h3:wja τ.heap τ.env:=by(repeat' (first | exact trivial | exact rfl | exact dyR rfl | exact dyS rfl | refine wa8 rfl ?_ | refine waJ ?_ | exact wbc (by repeat' (first | exact trivial | decide | apply And.intro)) | apply And.intro | (simp only[go_sem,↓reduceIte]; done))))
  (h4:wcw τ.heap τ.heap:=by(repeat' (first | exact trivial | exact wfq _ _ | exact rfl | exact dyR rfl | exact dyS rfl | refine wa8 rfl ?_ | refine waJ ?_ | exact wbc (by repeat' (first | exact trivial | decide | apply And.intro)) | apply And.intro | (simp only[go_sem,↓reduceIte]; done))))
  (h5:σ.dfr=τ.dfr/\refsInL τ.heap τ.dfr/\σ.gh=τ.gh:=by first | exact⟨rfl,trivial,rfl⟩ | exact⟨rfl,(by simp only[go_sem,whF,wcU,↓reduceIte]),rfl⟩):Sub G N σ τ:=Sub.mk h1 h2 h3 h4 h5
theorem sc (h2 : wc9 τ.heap σ.heap := by (repeat' (first | exact trivial | exact rfl | exact dyR rfl | exact dyS rfl | refine wa8 rfl ?_ | refine waJ ?_ | exact wbc (by repeat' (first | exact trivial | decide | apply And.intro)) | exact congrArg (fun els => some (Row.mk _ _ els)) (wof rfl) | (simp only [List.length_append, List.length_set, List.length_replicate, List.length_cons, List.length_nil, Nat.zero_add]; first | exact rfl | exact dyR rfl) | apply And.intro))) (h1 : wmZ σ.heap τ.heap σ.env τ.env := by (repeat' (first | exact trivial | exact .inl ⟨leV_refl _, by first | exact trivial | exact rfl | (simp only [go_sem, ↓reduceIte]; done)⟩ | exact .inl ⟨wpn _ _, trivial⟩ | exact .inr ⟨_, wqA rfl (by first | rfl | (simp only [List.length_append, List.length_set, List.length_replicate, List.length_cons, List.length_nil, Nat.zero_add]; done)), leV_refl _, wmr rfl⟩ | exact .inr ⟨.dptr _ _ _ _, rfl, leV_refl _, wmq rfl⟩ | exact .inl ⟨wta (by simp only [List.length_append, List.length_set, List.length_replicate, List.length_cons, List.length_nil, Nat.zero_add]; done), rfl⟩ | exact .inl ⟨by (simp only [leV]; exact wjf _ _), trivial⟩ | exact .inr ⟨_, by (simp only [go_sem, List.take_length, List.length_append, List.length_set, List.length_replicate, ↓reduceIte]; first | done | rfl), by (first | exact leV_refl _ | (simp only [go_sem, leV, leVL, leD, leDL, wd7, leD_refl, leDL_refl, ↓reduceIte]; done)), by (intro r hr; simp only [go_sem, rowsOf, rowsOfL, List.mem_cons, List.not_mem_nil, or_false, List.append_nil, ↓reduceIte] at hr; first | done | (subst hr; rfl) | (rcases hr with rfl | rfl <;> rfl) | (rcases hr with rfl | rfl | rfl <;> rfl) | (rcases hr with rfl | rfl | rfl | rfl <;> rfl))⟩ | exact .inl ⟨by (simp only [go_sem, leV, leD, leDL, wd7, leD_refl, leDL_refl, wjf, ↓reduceIte]; done), trivial⟩ |
      exact .inr ⟨_,by(simp only[go_sem,List.take_length,List.length_append,List.length_set,List.length_replicate,↓reduceIte]; first | done | rfl),by(first | exact leV_refl _ | (simp only[go_sem,leV,leVL,leD,leDL,wd7,leD_refl,leDL_refl,↓reduceIte]; done)),by(intro r hr; simp only[go_sem,rowsOf,rowsOfL,List.mem_cons,List.not_mem_nil,or_false,List.append_nil,↓reduceIte]at hr; first | done | (subst hr; rfl) | (rcases hr with rfl | rfl <;> rfl) | (rcases hr with rfl | rfl | rfl <;> rfl) | (rcases hr with rfl | rfl | rfl | rfl <;> rfl))⟩ | apply And.intro)))
    (h4:wcw τ.heap τ.heap:=by(repeat' (first | exact trivial | exact wfq _ _ | exact rfl | exact dyR rfl | exact dyS rfl | refine wa8 rfl ?_ | refine waJ ?_ | exact wbc (by repeat' (first | exact trivial | decide | apply And.intro)) | apply And.intro | (simp only[go_sem,↓reduceIte]; done)))) (h5:σ.dfr=τ.dfr/\refsInL τ.heap τ.dfr/\σ.gh=τ.gh:=by first | exact⟨rfl,trivial,rfl⟩ | exact⟨rfl,(by simp only[go_sem,whF,wcU,↓reduceIte]),rfl⟩):Sub G N σ τ:=Sub.cv h2 h1 h4 h5
theorem cd {α:Type} {c:Operand} {x y:Code} {Q:Post} {b:Bool} {m1 m2:α} {r:α} (h:cond b m1 m2=r) (h1:m1=r->AWp P G ro N x σ Q) (h2:m2=r->AWp P G ro N y σ Q) (hc:σ.eval c=.d (.bool b):=by rfl):AWp P G ro N (.cond c x y) σ Q :=
 AWp.cond hc (fun hb=>h1 (by rw[hb]at h; exact h)) (fun hb=>h2 (by rw[hb]at h; exact h))
theorem cdt {c:Operand} {x y:Code} {Q:Post} (h1:AWp P G ro N x σ Q) (hc:σ.eval c=.d (.bool true):=by rfl):AWp P G ro N (.cond c x y) σ Q:=AWp.cond hc (fun _=>h1) (fun hb=>by cases hb)
theorem cdf {c:Operand} {x y:Code} {Q:Post} (h1:AWp P G ro N y σ Q) (hc:σ.eval c=.d (.bool false):=by rfl):AWp P G ro N (.cond c x y) σ Q:=AWp.cond hc (fun hb=>by cases hb) (fun _=>h1)
theorem lp {S X:Type} {c:Code} {Q:Post} (ks rs:List Nat) (e:S->List (Nat×PV)->List (Nat×PV)) (H:S->wac->wac) {e0:List (Nat×PV)} {h0:wac} {f:S->Option (S ⊕ X)} {s0:S} {x:X}
  (hi:iter f s0=some x) (hs:Sub G N σ ⟨e s0 e0,H s0 h0,σ.dfr,σ.gh⟩)
  (h:∀ s o,f s=some o->AWp P G ro N c ⟨e s e0,H s h0,σ.dfr,σ.gh⟩ (Post.then (fun σ'=>∃ s',o=.inl s'/\Sub G N σ' ⟨e s' e0,H s' h0,σ.dfr,σ.gh⟩) (fun ex σ'=>∃ y,o=.inr y/\(y=x->Q ex σ'))))
  (he:whG ks σ.env=e0:=by(simp only[whG,wam,↓reduceIte,Nat.reduceEqDiff]; rfl)) (hh:whi rs σ.heap=h0:=by(simp only[whi,waa,wbr,↓reduceIte,Nat.reduceEqDiff,Nat.reduceLT]; rfl)):AWp P G ro N (.loop c) σ Q:=by
 obtain⟨n,hn⟩:=wiB hi
 refine AWp.loopI (fun i:Nat×S=>⟨e i.2 e0,H i.2 h0,σ.dfr,σ.gh⟩) (fun i=>wff f i.1 i.2=some x) (fun i=>i.1) (n,s0) hn hs ?_
 rintro⟨n,s⟩ hn
 cases n with
 | zero=>cases hn
 | succ n =>
  rw[weT]at hn
  obtain⟨o,h1,h2⟩:=bind_some hn
  refine(h s o h1).mono fun ex σ' hp=>?_
  cases ex with
  | normal=>obtain⟨s',rfl,h4⟩:=hp; exact⟨(n,s'),h2,Nat.lt_succ_self n,h4⟩
  | _=>obtain⟨y,rfl,h4⟩:=hp; exact h4 (by simpa using h2)
theorem jm {α ι ρ:Type} {x y:Code} {Q:Post} (ks rs:List Nat) (e:ι->List (Nat×PV)->List (Nat×PV)) (H:ι->wac->wac) {e0:List (Nat×PV)} {h0:wac} {m:Option α} {f:α->Option ρ} {r:ρ} (inj:ι->α) (h:m.bind f=some r)
  (h1:∀ o,m=some o->f o=some r->AWp P G ro N x σ (Post.then (fun σ'=>∃ i,o=inj i/\Sub G N σ' ⟨e i e0,H i h0,σ.dfr,σ.gh⟩) Q)) (h2:∀ i,f (inj i)=some r->AWp P G ro N y ⟨e i e0,H i h0,σ.dfr,σ.gh⟩ Q)
  (he:whG ks σ.env=e0:=by(simp only[whG,wam,↓reduceIte,Nat.reduceEqDiff]; rfl)) (hh:whi rs σ.heap=h0:=by(simp only[whi,waa,wbr,↓reduceIte,Nat.reduceEqDiff,Nat.reduceLT]; rfl)):AWp P G ro N (.seq x y) σ Q:=by
 obtain⟨o,h3,h4⟩:=bind_some h
 exact AWp.seqI (fun i=>⟨e i e0,H i h0,σ.dfr,σ.gh⟩) (fun i=>o=inj i) (h1 o h3 h4) (fun i hi=>h2 i (hi▸h4))
theorem jn {α ρ:Type} {x y:Code} {Q:Post} (ks rs:List Nat) (e:α->List (Nat×PV)->List (Nat×PV)) (H:α->wac->wac) {e0:List (Nat×PV)} {h0:wac} {m:Option α} {f:α->Option ρ} {r:ρ} (h:m.bind f=some r)
  (h1:∀ o,m=some o->AWp P G ro N x σ (Post.then (fun σ'=>Sub G N σ' ⟨e o e0,H o h0,σ.dfr,σ.gh⟩) Q)) (h2:∀ o,f o=some r->AWp P G ro N y ⟨e o e0,H o h0,σ.dfr,σ.gh⟩ Q)
  (he:whG ks σ.env=e0:=by(simp only[whG,wam,↓reduceIte,Nat.reduceEqDiff]; rfl)) (hh:whi rs σ.heap=h0:=by(simp only[whi,waa,wbr,↓reduceIte,Nat.reduceEqDiff,Nat.reduceLT]; rfl)):AWp P G ro N (.seq x y) σ Q :=
 jm ks rs e H id h (fun o h3 _=>(h1 o h3).mono fun ex σ' hp=>by cases ex <;> first | exact⟨o,rfl,hp⟩ | exact hp) h2 he hh
theorem ln {S X:Type} {T:S->St} {p:S} {q:S ⊕ X} (h:some (.inl p)=some q) (hs:Sub G N σ (T p)):∃ s',q=.inl s'/\Sub G N σ (T s'):=⟨p,(Option.some.inj h).symm,hs⟩
theorem lx {S X:Type} {y x:X} {q:S ⊕ X} {R:Prop} (h:some (.inr y)=some q) (hq:y=x->R):∃ y',q=.inr y'/\(y'=x->R):=⟨y,(Option.some.inj h).symm,hq⟩
theorem bt (b:Bool):b=true\/b=false:=Bool.eq_false_or_eq_true b
end
end Go.Pv

namespace Go.Pv
open Go.Sort
theorem wok (w:World) (os:Array Obj) {b:Nat} (h:b < w.heap.size):(grow w os).heap[b]? = w.heap[b]?:=by
 simp[grow,Array.getElem?_append,h]
theorem wiS {α:Type} [Inhabited α] (enc:α->Value) (w:World) (blk off:Nat) (d:Array α) (b:Nat):(putRow enc w blk off d).heap[b]? = if b=blk then (w.heap[b]?).map (onCells (putCells enc off d))else w.heap[b]?:=by
 simp only[putRow,mapBlock,Array.getElem?_modify]
 by_cases h:b=blk
 ·subst h; simp
 ·simp[h,Ne.symm h]
theorem Sit.putRow {P:Program} {G:List (Nat×PD)} {B:Base P} {w:World} {φ:Nm} {r e:Nat} {g:Gh} {α:Type} [Inhabited α] {enc:α->Value} {pd:α->PD} (hrep:∀ (w:World) (ok:Nat->Nat->Prop) x,RepD w ok (enc x) (pd x)) (hflat:∀ x,flat (enc x)=true)
    {L L':List α} (hro:B.ro=none) (hs:Sit G B w φ [(r,⟨e,1,dl (wab pd L)⟩)] g) (hl:L'.length=L.length) {b:Nat} (hb:φ r=some b) (n:Nat) (os:Array Obj) (hnb:∀ x,isByte (.d (pd x))=false:=by exact fun _=>rfl) :
    Sit G B (grow (Sort.putRow enc (Sort.ahead w n) b 0 L'.toArray) os) φ [(r,⟨e,1,dl (wab pd L')⟩)] g:=by
  have hx:waa ([(r,⟨e,1,dl (wab pd L)⟩)]:wac) r=some ⟨e,1,dl (wab pd L)⟩:=by simp[waa]
  have hr:Rep G B 0 ⟨[],[(r,⟨e,1,dl (wab pd L)⟩)],[],g⟩ { tmps:=#[],defers:=[] } w φ:=by
    refine Rep.of_sit hs rfl (fun t=>.any _) ?_
    rw[B.hheld hro]; exact .nil
  have hlt:=hr.heap.lt hx hb
  have e1:grow (Sort.putRow enc (Sort.ahead w n) b 0 L'.toArray) os=Sort.putRow enc (grow (Sort.ahead w n) os) b 0 L'.toArray:=(putRow_grow enc (Sort.ahead w n) os b 0 L'.toArray hlt).symm
  rw[e1]
  have hsz:w.heap.size<=(grow (Sort.ahead w n) os).heap.size:=by simp[grow,Sort.ahead]
  have hold:∀ c,c < w.heap.size->(grow (Sort.ahead w n) os).heap[c]? = w.heap[c]?:=fun c h=>wok (Sort.ahead w n) os h
  have hr1:Rep G B 0 ⟨[],[(r,⟨e,1,dl (wab pd L)⟩)],[],g⟩ { tmps:=#[],defers:=[] } (grow (Sort.ahead w n) os) φ :=
    hr.world (wjz hsz hold (fun s x c h1 h2=>hr.heap.lt h1 h2)) ⟨rfl,rfl,rfl,hsz,fun c h _=>hold c h⟩ (fun s x c h1 h2=>hold c (hr.heap.lt h1 h2)) (fun c h _=>hold c h)
  obtain⟨c,C,z,h1,h2,h3,hz⟩:=(hr1.heap.rows r _ b hx hb).here (Nat.le_refl 1)
  have hz0:z=0:=hz.zero_of fun p hp=>by simp only[dl,wab,List.mem_map]at hp; obtain⟨_,⟨x,_,rfl⟩,rfl⟩:=hp; exact hnb x
  subst hz0
  have hll:(dl (wab pd L)).length=L.length:=by simp[dl,wab]
  have hw:=hr1.write (hk1:=Nat.le_refl 1) (w':=Sort.putRow enc (grow (Sort.ahead w n) os) b 0 L'.toArray) (c':=putCells enc 0 L'.toArray c) hx hb (els:=dl (wab pd L')) (by simp[dl,wab,hl]) h1 (by rw[wiS,if_pos rfl,h1]; rfl) (.zero _) (by simp[putCells])
    ⟨rfl,rfl,rfl,by simp,fun k _ hk=>by rw[wiS,if_neg hk]⟩ (by simp) (fun i hi=>by
      have hi':i < L'.length:=by simpa [dl,wab]using hi
      have hcs:i < c.size:=by
        have:=h2.1; have:=h2.2.1
        rw[hll]at this
        dsimp only at *
        omega
      refine⟨enc L'[i],?_,by rw[weP (hflat _)]; rfl,fun j hj=>?_⟩
      · have e2:(dl (wab pd L'))[i]=.d (pd L'[i]):=by simp[dl,wab]
        rw[e2]; exact .d (hrep _ _ _)
      · have hj0:j=0:=by dsimp only at hj; omega
        subst hj0
        rw[weP (hflat _)]
        refine⟨?_,hflat _⟩
        simp[putCells,Array.getElem?_mapIdx,hcs,hi',Array.getD])
  have e3:wal ([(r,⟨e,1,dl (wab pd L)⟩)]:wac) r ⟨e,1,dl (wab pd L')⟩=[(r,⟨e,1,dl (wab pd L')⟩)]:=by simp[wal]
  have:=hw.sit
  dsimp only at this
  rw[e3]at this
  exact this
theorem Sit.holds {P:Program} {G:List (Nat×PD)} {B:Base P} {w:World} {φ:Nm} {r e:Nat} {g:Gh} {α:Type} [Inhabited α] {enc:α->Value} {pd:α->PD} (hun:∀ (w:World) (X:Nat->Nat->Prop) (φ:Nm) (H:wac) v x,RepV w X φ H v (.d (pd x))->v=enc x) (hflat:∀ x,flat (enc x)=true)
    {L:List α} (hs:Sit G B w φ [(r,⟨e,1,dl (wab pd L)⟩)] g) {b:Nat} (hb:φ r=some b) (hnb:∀ x,isByte (.d (pd x))=false:=by exact fun _=>rfl):Holds enc w b 0 L.toArray/\b < w.heap.size:=by
  have hx:waa ([(r,⟨e,1,dl (wab pd L)⟩)]:wac) r=some ⟨e,1,dl (wab pd L)⟩:=by simp[waa]
  obtain⟨c,C,z,h1,h2,h3,hz⟩:=(hs.heap.rows r _ b hx hb).here (Nat.le_refl 1)
  have hz0:z=0:=hz.zero_of fun p hp=>by simp only[dl,wab,List.mem_map]at hp; obtain⟨_,⟨x,_,rfl⟩,rfl⟩:=hp; exact hnb x
  subst hz0
  refine⟨fun j hj=>?_,(Array.getElem?_eq_some_iff.1 h1).1⟩
  have hj':j < L.length:=by simpa using hj
  obtain⟨v,hv,hs1,hv2⟩:=h3 j (by simpa [dl,wab]using hj')
  have e2:(dl (wab pd L))[j]'(by simpa [dl,wab]using hj')=.d (pd L[j]):=by simp[dl,wab]
  rw[e2]at hv
  have:=hun _ _ _ _ _ _ hv
  subst this
  have hc:=(hv2 0 Nat.one_pos).1
  rw[weP (hflat _)]at hc
  have hc:c[j]? = some (enc L[j]):=by simpa [Array.getD]using hc
  refine⟨?_,?_⟩
  · simp[World.cell?,h1,hc,hj']
  · simp[World.frozen?,h1]
end Go.Pv

namespace Go.Pv
section
variable {P:Program} {G:List (Nat×PD)} {ro:Option Nat} {N:Nat} {ops:Array Oper} {σ τ σ':St} {o:Oper} {rest:List Oper}
def HandFn (P:Program) (G:List (Nat×PD)) (f:FuncId) (args:List PV) (i e k:Nat) (l:List PD) (res:PV) (l':List PD):Prop :=
 Fn P G f args [(i,⟨e,k,dl l⟩)] fun p K=>p=res/\K=[(i,⟨e,k,dl l'⟩)]/\l'.length=l.length
theorem weV {i s:Nat} {x y:Row} (h:waa [(i,x)] s=some y):s=i/\y=x:=by
 simp only[waa]at h
 split at h
 ·rename_i e; simp only[Option.some.injEq]at h; exact⟨e.symm,h.symm⟩
 ·cases h
theorem clH {f:FuncId} {c:Call} {xo:Operand} {args:List PV} {res:PV} {i e k:Nat} {l l':List PD} {Q:St->Prop} (r:Nat) (hf:HandFn P G f args i e k l res l') (h2:AOps P G ro N ops rest σ' Q)
  (hd:wao N o.dst:=by(simp only[go_sem,↓reduceIte]; done)) (hg:∀ {K:St->Prop},OpT P G ro N o σ K->wfh P G ro N (wbq ops) o σ K:=by(intro K k; simp(disch:=omega) only[go_sem,↓reduceIte]; exact k))
  (ho:o.op=.call c:=by rfl) (hc:c.callee=.value xo:=by rfl) (hx:wcB (σ.eval xo)=some (f,[]):=by rfl) (hcal:wbd P f=true:=by kernel_rfl) (hi:i < 1000:=by decide)
  (hrow:waa σ.heap r=some ⟨e,k,dl l⟩:=by rfl)
  (ha:wdq σ.heap [(i,⟨e,k,dl l⟩)] (fun _=>r) (wau σ c.args.toList) args:=by(repeat' (first | exact trivial | exact rfl | apply And.intro | exact wsw (by(simp only[lenc_length,List.length_append,List.length_set,List.length_replicate,List.length_cons,List.length_nil,Nat.zero_add]; done)) | (simp only[go_sem,↓reduceIte]; done))))
  (hp:({ σ with heap:=wal σ.heap r ⟨e,k,dl l'⟩ }:St).put o.dst (res.ren fun _=>r)=σ':=by(simp only[go_sem,↓reduceIte]; rfl)) (hcl:clean res:=by(simp only[clean,cleanL,and_self]; done)) (hrf:refsIn [(i,⟨e,k,dl l'⟩)] res:=by(first | exact trivial | exact rfl | (simp only[go_sem,↓reduceIte]; done))) :
  AOps P G ro N ops (o::rest) σ Q:=by
 refine AOps.consC hd fun K hK=>hg ?_
 refine OpT.callG (H:=[(i,⟨e,k,dl l⟩)]) (g:=fun _=>r) (gc:=none) ho hc hx hcal hf ⟨fun s x h=>?_,fun s x h=>?_,fun s t x y h h' _=>?_,fun s x h=>?_⟩ (.inl rfl) (by rw[List.append_nil]; exact ha) hd ?_
 ·rw[(weV h).1]; exact hi
 ·rw[(weV h).2,hrow]; simp only[Row.ren,dl_ren]
 ·rw[(weV h).1,(weV h').1]
 ·rw[(weV h).2]; exact wfq _ _
 ·rintro p H' g' ⟨rfl,rfl,hlen⟩
  refine⟨fun _=>r,⟨fun s x h _=>?_,fun s x h=>?_,fun s x h hs=>?_,fun s t x y h h' _=>?_,fun s x h=>?_⟩,hcl,hrf,?_⟩
  ·obtain⟨rfl,rfl⟩:=weV h
   exact⟨⟨e,k,dl l⟩,by simp[waa],rfl,rfl,by simp[dl,hlen]⟩
  ·obtain⟨rfl,rfl⟩:=weV h
   exact⟨_,by simp[waa]; rfl⟩
  ·have:=(weV h).1; omega
  ·rw[(weV h).1,(weV h').1]
  ·rw[(weV h).2]; exact⟨wfq _ _,by rw[dl_clean]; trivial⟩
  ·simp only[wbP,Row.ren,dl_ren,whw]
   exact hp▸hK _ h2
def NewFn (P:Program) (G:List (Nat×PD)) (f:FuncId) (args:List PV) (res:Nat->PV) (e k:Nat) (l:List PD):Prop :=
 Fn P G f args [] fun p K=>∃ q,1000<=q/\p=res q/\K=[(q,⟨e,k,dl l⟩)]
theorem NewFn.pf {f:FuncId} {fn:Func} {c:Code} {args:List PV} {n:Nat} {e0:List (Nat×PV)} {res:Nat->PV} {e k:Nat} {l:List PD} (hf:P.funcs[f]? = some fn) (hn:fn.ntmps=n)
  (h:AWp P G none n c ⟨e0,[],[],none⟩ (Fin P G fn fun p K=>∃ q,1000<=q/\p=res q/\waa K q=some ⟨e,k,dl l⟩)) (hb:fn.body=some c:=by rfl) (hN:args.length<=n:=by simp)
  (he:wcm 0 args=e0:=by(simp only[wcm,Nat.reduceAdd,Nat.zero_add]; rfl)) (hrf:∀ q x,refsIn [(q,x)] (res q):=by(intro q x; simp only[go_sem,waa,↓reduceIte,Option.isSome_some]; done)):NewFn P G f args res e k l:=by
 subst hn he
 intro B φ vs h0 h1 h2 h3
 refine(Fn.intro hf hb hN h B φ vs h0 h1 h2 h3).mono ?_
 rintro e' w' ⟨v,p,H',g',φ',he,⟨q,hq,rfl,hg⟩,hv,hs⟩
 have hle:∀ r x,waa [(q,(⟨e,k,dl l⟩:Row))] r=some x->waa H' r=some x:=fun r x hx=>by
  obtain⟨rfl,rfl⟩:=weV hx; exact hg
 exact⟨v,_,[(q,⟨e,k,dl l⟩)],g',φ',he,⟨q,hq,rfl,rfl⟩,hv.less hle (hrf q _),hs.less hle (fun r x hx=>by rw[(weV hx).2]; exact wfq _ _)⟩
end
end Go.Pv

namespace Go.Pv
@[irreducible] def sortI (l:List Int):List Int:=l.mergeSort fun x y=>decide (x<=y)
@[irreducible] def compactI (l:List Int):List Int:=Go.Lib.compact l
def waL (l:List Int):List Int:=compactI l++List.replicate (l.length - (compactI l).length) 0
@[go_sem] theorem sortI_length (l:List Int):(sortI l).length=l.length:=by unfold sortI; exact List.length_mergeSort l
end Go.Pv

namespace Go.Pv
section
variable {P:Program} {G:List (Nat×PD)} {ro:Option Nat} {N:Nat} {σ:St} {o:Oper} {K:St->Prop}
theorem wk5:∀ {H:wac} {r:Nat} {x:Row},waa H r=some x->wal H r x=H
 | [],_,_,h=>by simp[waa]at h
 | (s,y)::l,r,x,h=>by
  simp only[waa]at h
  simp only[wal]
  split at h
  ·rename_i e; simp only[Option.some.injEq]at h; subst h; rw[if_pos e,e]
  ·rename_i e; rw[if_neg e,wk5 h]
theorem wt5 {k n m:Nat} {cur news:List Value} (h1:n*k<=cur.length) (h2:news.length=m*k) (i j:Nat) (hj:j < k) :
  (cur.take (n*k)++news++cur.drop (n*k+news.length))[i*k+j]? = if i < n then cur[i*k+j]? else if i < n+m then news[(i - n)*k+j]? else cur[i*k+j]?:=by
 have hl:(cur.take (n*k)).length=n*k:=by simp; omega
 by_cases hi:i < n
 ·rw[if_pos hi]
  have hm:=Nat.mul_le_mul_right k (show i+1<=n from hi)
  rw[Nat.add_mul,Nat.one_mul]at hm
  rw[List.append_assoc,List.getElem?_append_left (by omega),List.getElem?_take,if_pos (by omega)]
 ·rw[if_neg hi]
  have hge:=Nat.mul_le_mul_right k (show n<=i by omega)
  by_cases hi2:i < n+m
  ·rw[if_pos hi2]
   have hm:=Nat.mul_le_mul_right k (show i - n+1<=m by omega)
   rw[Nat.add_mul,Nat.one_mul]at hm
   have hsub:(i - n)*k=i*k - n*k:=Nat.sub_mul _ _ _
   rw[List.append_assoc,List.getElem?_append_right (by omega),hl,List.getElem?_append_left (by omega)]
   congr 1; omega
  ·rw[if_neg hi2]
   have hm:=Nat.mul_le_mul_right k (show n+m<=i by omega)
   rw[Nat.add_mul]at hm
   rw[List.getElem?_append_right (by simp only[List.length_append,hl]; omega),List.getElem?_drop]
   congr 1
   simp only[List.length_append,hl]; omega
theorem headOk.over {z n:Nat} {l m:List PV} (h:headOk z l) (hn:z<=n) {k:Nat}:headOk z (l.take n++m++l.drop k):=fun i hi=>by
 obtain⟨p,h1,h2⟩:=h i hi
 have hl:=(List.getElem?_eq_some_iff.1 h1).1
 exact⟨p,by rw[List.append_assoc,List.getElem?_append_left (by simp; omega),List.getElem?_take,if_pos (by omega)]; exact h1,h2⟩
theorem headOk.zero_first {z:Nat} {l:List PV} (h:headOk z l) (hn:∀ p,l[0]? = some p->isByte p=false):z=0:=by
 rcases Nat.eq_zero_or_pos z with rfl | hz
 ·rfl
 ·obtain⟨p,h1,h2⟩:=h 0 hz
  rw[hn p h1]at h2; cases h2
theorem headOk.of_first {z n:Nat} {l:List PV} (h:headOk z l) (hn:∀ p,l[0]? = some p->isByte p=false) (_:0<=n):z<=n:=by
 rw[h.zero_first hn]; exact Nat.zero_le _
theorem wsz {α:Type} {f:α->PD} {L:List α} (h:∀ x,isByte (.d (f x))=false):∀ p,(dl (wab f L))[0]? = some p->isByte p=false:=fun p hp=>by
 cases L with
 | nil=>simp[dl,wab]at hp
 | cons x L=>simp[dl,wab]at hp; rw[<-hp]; exact h x
theorem Rep.over {B:Base P} {a:Act} {w:World} {φ:Nm} (hr:Rep G B N σ a w φ) {r b:Nat} {x:Row} (hx:waa σ.heap r=some x) (hb:φ r=some b) (hk1:1<=x.k) {cur:Array Value} {zf:Nat} (hc:w.heap[b]? = some (.cells cur x.e (0,zf))) {n:Nat} (hzf:headOk zf x.els) (hzn:zf<=n) {L:List PV} {news:List Value}
  (hn:n+L.length<=x.els.length) (hl:news.length=L.length*x.k)
  (hL:∀ i (hi:i < L.length),∃ v,RepV w B.X φ σ.heap v L[i]/\v.cells.size=x.k/\∀ j,j < x.k->news[i*x.k+j]? = some (v.cells.getD j undef)/\flat (v.cells.getD j undef)=true) :
  Rep G B N { σ with heap:=wal σ.heap r { x with els:=x.els.take n++L++x.els.drop (n+L.length) } } a (w.setRow b (cur.toList.take (n*x.k)++news++cur.toList.drop (n*x.k+news.length)).toArray) φ:=by
 obtain⟨c,C,_,h1,h2,h3,_⟩:=(hr.heap.rows r x b hx hb).here hk1
 rw[hc]at h1; simp only[Option.some.injEq,Obj.cells.injEq,true_and,Prod.mk.injEq]at h1; obtain⟨rfl,-⟩:=h1
 have hCm:=Nat.mul_le_mul_right x.k (show n+L.length<=C by have:=h2.2.1; omega)
 rw[Nat.add_mul]at hCm
 have hcl:cur.toList.length=C*x.k:=by simpa using h2.1
 refine hr.write hx hb hk1 (by simp; omega) hc (setRow_heap w b cur _ x.e _ hc) (hzf.over hzn) (by simp; omega) ⟨rfl,rfl,rfl,by simp,fun y _ hy=>setRow_other w b y _ hy⟩ (size_setRow _ _ _) fun i hi=>?_
 have hi':i < x.els.length:=by simp at hi; omega
 have hcell:∀ j,j < x.k->(cur.toList.take (n*x.k)++news++cur.toList.drop (n*x.k+news.length)).toArray[i*x.k+j]? = if i < n then cur[i*x.k+j]? else if i < n+L.length then news[(i - n)*x.k+j]? else cur[i*x.k+j]?:=fun j hj=>by
  have:=wt5 (k:=x.k) (n:=n) (m:=L.length) (cur:=cur.toList) (news:=news) (by omega) hl i j hj
  simpa using this
 by_cases hin:i < n
 ·obtain⟨v,h4,h5,h6⟩:=h3 i hi'
  refine⟨v,?_,h5,fun j hj=>⟨?_,(h6 j hj).2⟩⟩
  ·have e:(x.els.take n++L++x.els.drop (n+L.length))[i]=x.els[i]:=by
    rw[List.getElem_append_left (by simp; omega),List.getElem_append_left (by simp; omega)]; simp
   rw[e]; exact h4
  ·rw[hcell j hj,if_pos hin]; exact(h6 j hj).1
 ·by_cases hin2:i < n+L.length
  ·obtain⟨v,h4,h5,h6⟩:=hL (i - n) (by omega)
   refine⟨v,?_,h5,fun j hj=>⟨?_,(h6 j hj).2⟩⟩
   ·have e:(x.els.take n++L++x.els.drop (n+L.length))[i]=L[i - n]'(by omega):=by
     rw[List.getElem_append_left (by simp; omega),List.getElem_append_right (by simp; omega)]
     congr 1; simp; omega
    rw[e]; exact h4
   ·rw[hcell j hj,if_neg hin,if_pos hin2]; exact(h6 j hj).1
  ·obtain⟨v,h4,h5,h6⟩:=h3 i hi'
   refine⟨v,?_,h5,fun j hj=>⟨?_,(h6 j hj).2⟩⟩
   ·have e:(x.els.take n++L++x.els.drop (n+L.length))[i]=x.els[i]:=by
     rw[List.getElem_append_right (by simp; omega),List.getElem_drop]
     congr 1; simp; omega
    rw[e]; exact h4
   ·rw[hcell j hj,if_neg hin,if_neg hin2]; exact(h6 j hj).1
theorem OpT.clear {s:Operand} {t e:TypeId} {y z:Ty} {zv:Value} {zp:PV} {r lo n:Nat} {row:Row} (ho:o.op=.call { callee:=.builtin .clear,args:=#[s],argTypes:=#[t] })
  (ht:wad P t=some y) (hde:y.desc=.slice e) (he:wad P e=some z) (hz:z.zero=some zv) (hzp:wh8 zv=some zp) (hzs:zv.cells.size=z.size) (hk:1<=z.size)
  (hs:σ.eval s=.slc r lo n) (hx:waa σ.heap r=some row) (hrk:row.k=z.size) (hdst:o.dst=none) (hnb:∀ p,row.els[0]? = some p->isByte p=false:=by exact wsz (fun _=>rfl))
  (hK:K { σ with heap:=wal σ.heap r { row with els:=row.els.take lo++List.replicate n zp++row.els.drop (lo+n) } }):OpT P G ro N o σ K:=by
 intro B hro a w φ hr next Q hnx
 have hsv:=hr.eval s
 rw[hs]at hsv
 obtain⟨hu,it,hit,hs1,hs2,hs3⟩:=wbm he
 have hut:P.underlying t=some (.slice e):=by rw[(wbm ht).1,hde]
 have hop:∀ v' w',(Builtin.clear_ #[t] o.type #[a.eval s]).run P w=.ok v' w'->(o.semAt ro a.eval).run P w=.ok (.value v') w':=by
  intro v' w' h
  rw[Oper.semAt_eq _ _ _ (fun c hc=>by rw[ho]at hc; cases hc)]
  simp only[execOp,ho,resolve,invoke,builtin,Sem.run_bind,Sem.run_pure,Result.andThen_ok,List.map_toArray,List.map_cons,List.map_nil,h]
 have hput0:∀ {τ:St} {w':World} {u:Value},Rep G B N τ a w' φ->Rep G B N τ (a.put o.dst u) w' φ:=fun h=>by rw[hdst]; exact h
 by_cases hn0:n=0
 ·subst hn0
  have hself:wal σ.heap r { row with els:=row.els.take lo++List.replicate 0 zp++row.els.drop (lo+0) }=σ.heap:=by
   have:row.els.take lo++List.replicate 0 zp++row.els.drop (lo+0)=row.els:=by simp
   rw[this]; exact wk5 hx
  rw[hself]at hK
  have hrun:(Builtin.clear_ #[t] o.type #[a.eval s]).run P w=.ok (.tuple #[]) w:=by
   rcases wd3 hsv with ⟨⟨p0,h1,_⟩,_⟩ | ⟨_,_,cap,h1,_⟩
   ·rw[h1]; cases p0 <;> simp[Builtin.clear_,run_underlying hut]
   ·rw[h1]; simp[Builtin.clear_,run_underlying hut]
  exact wa7 (hop _ _ hrun) (hnx _ _ _ φ hK (hput0 hr))
 ·rcases wd3 hsv with ⟨_,_,h4,_⟩ | ⟨x2,b,cap,h3,hx2,hb,hn,hc,hl,hzz⟩
  ·exact absurd h4 hn0
  ·rw[hx]at hx2; simp only[Option.some.injEq]at hx2; subst hx2
   obtain⟨cur,C,zf,h1,h2,h3',hzf⟩:=(hr.heap.rows r row b hx hb).here (wfo hsv hx)
   have hsz:=hzz _ _ _ h1
   obtain⟨hz1,hz2⟩:=wkI (w:=w) (X:=B.X) (φ:=φ) (H:=σ.heap) hzp
   obtain⟨news,hnw⟩:∃ news,news=(madeCells zv.cells (n*z.size)).toList:=⟨_,rfl⟩
   have hnl:news.length=n*z.size:=by rw[hnw]; simp[size_madeCells]
   have hng:∀ i j,i < n->j < z.size->news[i*z.size+j]? = some (zv.cells.getD j undef):=fun i j hi hj=>by
    rw[hnw]
    have:=wkh (z:=zv.cells) (k:=z.size) (n:=n) (i:=i) (j:=j) hzs hj hi
    simpa using this
   have hnf:∀ u∈news,u.oneCell'=true:=fun u hu=>by
    obtain⟨q,hq,rfl⟩:=List.getElem_of_mem hu
    have hq':q < n*z.size:=hnl▸hq
    have e1:=hng (q / z.size) (q % z.size) (Nat.div_lt_of_lt_mul (by rw[Nat.mul_comm]; exact hq')) (Nat.mod_lt _ hk)
    rw[show q / z.size*z.size+q % z.size=q by rw[Nat.mul_comm]; exact Nat.div_add_mod q z.size,List.getElem?_eq_getElem hq,Option.some.injEq]at e1
    rw[e1]; exact hz2 _ (by rw[hzs]; exact Nat.mod_lt _ hk)
   have hzc:(Builtin.zeroCells zv.cells n).toList=news:=by
    rw[hnw]; simp[Builtin.zeroCells,madeCells,hzs]
   have hfit:lo*row.k+news.length<=cur.size:=by
    rw[hnl,hrk,<-Nat.add_mul,hsz,hrk]; exact Nat.mul_le_mul_right _ (by omega)
   have hst:=run_storeCells_atF P b (lo*row.k) row.e (0,zf) news 0 cur w h1 (by rw[(hzf.zero_first hnb)]; exact Nat.zero_le _) (by simpa using hfit) hnf
   simp only[Nat.add_zero]at hst
   have hrun:(Builtin.clear_ #[t] o.type #[a.eval s]).run P w=.ok (.tuple #[]) (w.setRow b (cur.toList.take (lo*row.k)++news++cur.toList.drop (lo*row.k+news.length)).toArray):=by
    obtain⟨m,rfl⟩:∃ m,n=m+1:=⟨n - 1,by omega⟩
    rw[h3]
    have hzr:=whS he hz
    simp[Builtin.clear_,run_underlying hut,hzr,hzc,hst]
   have hrep:=hr.over hx hb (wfo hsv hx) h1 hzf (hzf.of_first hnb (by omega)) (n:=lo) (L:=List.replicate n zp) (news:=news) (by simpa using hn) (by rw[hrk]; simpa using hnl) (fun i hi=>by
    have hi':i < n:=by simpa using hi
    refine⟨zv,by simpa using hz1,by rw[hrk]; exact hzs,fun j hj=>?_⟩
    rw[hrk]at hj ⊢
    exact⟨hng i j hi' hj,hz2 j (by rw[hzs]; exact hj)⟩)
   rw[List.length_replicate]at hrep
   exact wa7 (hop _ _ hrun) (hnx _ _ _ φ hK (hput0 hrep))
theorem wsA {P:Program} {w:World} {X:Nat->Nat->Prop} {φ:Nm} {H:wac} {t e:TypeId} {y:Ty} {k:Nat} {els:List PD} {v:Value} (ht:wad P t=some y) (hde:y.desc=.slice e) (hv:RepV w X φ H v (.d (.imm k els))) (x z:Operand) :
  ∃ b,(do eqGuard .eql t x z v (.slice none 0 0); Go.binOp .eql t v (.slice none 0 0):Sem Value).run P w=.ok (.bool b) w/\(b=true->els=[]):=by
 have heq:∀ u b,(∀ d,(Op.equalIn (d+1) t u (.slice none 0 0)).run P w=.ok b w)->(Op.equal t u (.slice none 0 0)).run P w=.ok b w:=fun u b h=>h 9999
 have hb:∃ b,(Op.equal t v (.slice none 0 0)).run P w=.ok b w/\(b=true->els=[]):=by
  cases hv with | d hv =>
  cases hv with
  | imm0 =>
   refine⟨true,heq _ _ fun d=>?_,fun _=>rfl⟩
   unfold Op.equalIn
   rw[Sem.run_bind,wbo ht,hde]; rfl
  | imm =>
   refine⟨false,heq _ _ fun d=>?_,fun h=>by cases h⟩
   unfold Op.equalIn
   rw[Sem.run_bind,wbo ht,hde]; rfl
 obtain⟨b,h1,h2⟩:=hb
 refine⟨b,?_,h2⟩
 have hg:(eqGuard .eql t x z v (.slice none 0 0)).run P w=.ok () w:=by
  refine wfl (.inr (by simp)) (.inr (by simp))
 have h3:Go.binOp .eql t v (.slice none 0 0)=(do Pure.pure (.bool (<-Op.equal t v (.slice none 0 0))):Sem Value):=by
  cases hv with | d hv=>cases hv <;> rfl
 rw[Sem.run_bind,hg,h3]
 simp only[Result.andThen]
 rw[Sem.run_bind,h1]; rfl
theorem OpT.nilTest {x:Operand} {t t' e:TypeId} {y:Ty} {k:Nat} {els:List PD} (ho:o.op=.binOp .eql t x (.const (.slice none 0 0)) t') (ht:wad P t=some y) (hde:y.desc=.slice e) (hx:σ.eval x=.d (.imm k els)) (hd:wao N o.dst)
  (h1:els=[]->K (σ.put o.dst (.d (.bool true)))) (h2:K (σ.put o.dst (.d (.bool false)))):OpT P G ro N o σ K:=by
 intro B hro a w φ hr next Q hnx
 have hv:=hr.eval x
 rw[hx]at hv
 obtain⟨b,h3,h4⟩:=wsA ht hde hv x (.const (.slice none 0 0))
 have hop:(o.semAt ro a.eval).run P w=.ok (.value (.bool b)) w:=by
  rw[Oper.semAt_eq _ _ _ (fun c hc=>by rw[ho]at hc; cases hc)]
  simp only[execOp,ho]
  exact wb2 h3
 refine wa7 hop (hnx _ _ _ φ ?_ (hr.put hd (.d (.bool b))))
 cases b with
 | true=>exact h1 (h4 rfl)
 | false=>exact h2
theorem wrP {P:Program} {w:World} {k:IntKind} {n:Int} {y:Nat} (h0:0<=n) (h1:n<=y) (c:BoundsCode):(Instr.sliceBound (.int k n) y c).run P w=.ok n.toNat w:=by
 simp[Instr.sliceBound,asIntOf,h0,h1]
theorem OpT.sliceEnd {x lo:Operand} {t e:TypeId} {y z:Ty} {r l0 n:Nat} {k1:IntKind} (ho:o.op=.slice t x (some lo) none none) (ht:wad P t=some y) (hde:y.desc=.slice e) (he:wad P e=some z)
  (hx:σ.eval x=.slc r l0 n) (h1:σ.eval lo=.d (.int k1 n)) (hd:wao N o.dst) (k:Nat) (hK:K (σ.put o.dst (.d (.imm k [])))):OpT P G ro N o σ K:=by
 intro B hro a w φ hr next Q hnx
 have hv:=hr.eval x
 rw[hx]at hv
 have v1:=hr.eval lo; rw[h1]at v1
 have hs:∃ p cap,a.eval x=.slice p n cap/\n<=cap/\(p=none->n=0/\cap=0)/\∀ q,p=some q->q.spot=none:=by
  rcases wd3 hv with ⟨⟨p,e1,e3⟩,_,e2,_⟩ | ⟨_,b,cap,e1,_,_,_,e2,_⟩
  ·exact⟨p,0,by rw[e1,e2],by omega,fun _=>⟨e2,rfl⟩,e3⟩
  ·exact⟨_,cap,e1,e2,(by intro h; cases h),(by intro q hq; cases hq; rfl)⟩
 obtain⟨p,cap,e1,e2,e3,e4⟩:=hs
 have hrun:(Instr.sliceAt t (a.eval x) (some (a.eval lo)) none none).run P w=.ok (.slice (if cap=n then p else p.map (·.add (n*z.size))) 0 (cap - n)) w:=by
  rw[e1,wcv v1]
  simp only[Instr.sliceAt,Sem.run_bind,wbo ht,Result.andThen,hde,Instr.slice,Instr.sliceBounds,Option.isSome_none,wrP (k:=k1) (n:=(n:Int)) (y:=n) (by omega) (by omega),Sem.run_pure,wdv he,Int.toNat_natCast,Bool.false_eq_true,if_false,Nat.sub_self]
 refine wa7 (u:=.slice (if cap=n then p else p.map (·.add (n*z.size))) 0 (cap - n)) ?_ (hnx _ _ _ φ hK (hr.put hd (.d ?_)))
 ·rw[Oper.semAt_eq _ _ _ (fun c hc=>by rw[ho]at hc; cases hc)]
  simp only[execOp,ho,Option.map_some,Option.map_none]
  exact wb2 hrun
 ·cases p with
  | none =>
   obtain⟨h8,h9⟩:=e3 rfl
   subst h8 h9
   simp only[Option.map_none,ite_self,Nat.sub_self]
   exact .imm0 k
  | some q =>
   obtain⟨qb,qo,qs⟩:=q
   have:=e4 _ rfl
   dsimp only at this
   subst this
   rw[Option.map_some,wck]
   split
   ·exact .imm (fun _=>undef) (fun _=>rfl) (fun h=>absurd rfl h) rfl (by omega) (fun i hi=>by simp at hi) (fun i hi=>by simp at hi) (fun i hi=>by simp at hi) (fun i hi=>by simp at hi) (fun i hi=>by simp at hi)
   ·exact .imm (fun _=>undef) (fun _=>rfl) (fun h=>absurd rfl h) rfl (by omega) (fun i hi=>by simp at hi) (fun i hi=>by simp at hi) (fun i hi=>by simp at hi) (fun i hi=>by simp at hi) (fun i hi=>by simp at hi)
theorem OpX.sliceEnd {xs:Exc} {K:Foot->St->Prop} {x lo:Operand} {t e:TypeId} {y z:Ty} {r l0 n:Nat} {k1:IntKind} (ho:o.op=.slice t x (some lo) none none) (ht:wad P t=some y) (hde:y.desc=.slice e) (he:wad P e=some z)
  (hx:σ.eval x=.slc r l0 n) (h1:σ.eval lo=.d (.int k1 n)) (hd:wao N o.dst) (k:Nat) (hxs:exE xs (waS o.dst (.d (.imm k [])))) (hK:K (some (waM (wav o.op)++wcT σ (wav o.op),wa5 o.dst)) (σ.put o.dst (.d (.imm k [])))):OpX P G ro N xs o σ K:=by
 refine⟨some (waM (wav o.op)++wcT σ (wav o.op),wa5 o.dst),σ.put o.dst (.d (.imm k [])),⟨waS o.dst (.d (.imm k [])),fun k hk=>by rw[wcF]at hk; exact hk,hxs,fun σ' hd' hs _=>?_,wbC _ _ _,St.put_rest _ _ _⟩,hK⟩
 have ha:=wcN (σ:=σ) (σ':=σ') (l:=wav o.op) fun k hk=>hs k (List.mem_append_left _ hk)
 rw[ho]at ha
 have m1:x∈wav (.slice t x (some lo) none none):=by simp[wav,wjK]
 have m2:lo∈wav (.slice t x (some lo) none none):=by simp[wav,wjK]
 exact OpT.sliceEnd ho ht hde he (by rw[ha _ m1]; exact hx) (by rw[ha _ m2]; exact h1) hd k ⟨by rw[St.put_rest]; exact hd',wbC _ _ _⟩
variable {ops:Array Oper} {rest:List Oper} {σ':St}
theorem nt {x:Operand} {t t' e:TypeId} {y:Ty} {k:Nat} {els:List PD} {Q:St->Prop} (ht:wad P t=some y) (hde:y.desc=.slice e) (h1:els=[]->AOps P G ro N ops rest (σ.put o.dst (.d (.bool true))) Q) (h2:AOps P G ro N ops rest (σ.put o.dst (.d (.bool false))) Q)
  (hd:wao N o.dst:=by(simp only[go_sem,↓reduceIte]; done)) (hg:∀ {K:St->Prop},OpT P G ro N o σ K->wfh P G ro N (wbq ops) o σ K:=by(intro K k; simp(disch:=omega) only[go_sem,↓reduceIte]; exact k))
  (ho:o.op=.binOp .eql t x (.const (.slice none 0 0)) t':=by rfl) (hx:σ.eval x=.d (.imm k els):=by rfl):AOps P G ro N ops (o::rest) σ Q :=
 AOps.consC hd fun _ hK=>hg (OpT.nilTest ho ht hde hx hd (fun he=>hK _ (h1 he)) (hK _ h2))
theorem on {Q:St->Prop} (h:∀ K:St->Prop,(∀ σ,AOps P G ro N ops rest σ Q->K σ)->OpT P G ro N o σ K) (hd:wao N o.dst:=by(simp only[go_sem,↓reduceIte]; done))
  (hg:∀ {K:St->Prop},OpT P G ro N o σ K->wfh P G ro N (wbq ops) o σ K:=by(intro K k; simp(disch:=omega) only[go_sem,↓reduceIte]; exact k)):AOps P G ro N ops (o::rest) σ Q :=
 AOps.consC hd fun K hK=>hg (h K hK)
theorem HandFn.pf {f:FuncId} {fn:Func} {c:Code} {args:List PV} {n:Nat} {e0:List (Nat×PV)} {i e k:Nat} {l l':List PD} {res:PV} (hf:P.funcs[f]? = some fn) (hn:fn.ntmps=n) (hl:l'.length=l.length)
  (h:AWp P G none n c ⟨e0,[(i,⟨e,k,dl l⟩)],[],none⟩ (Fin P G fn fun p K=>p=res/\K=[(i,⟨e,k,dl l'⟩)])) (hb:fn.body=some c:=by rfl) (hN:args.length<=n:=by simp)
  (he:wcm 0 args=e0:=by(simp only[wcm,Nat.reduceAdd,Nat.zero_add]; rfl)):HandFn P G f args i e k l res l':=by
 subst hn he
 intro B φ vs h0 h1 h2 h3
 refine(Fn.intro hf hb hN h B φ vs h0 h1 h2 h3).mono ?_
 rintro e' w' ⟨v,p,H',g',φ',he,⟨rfl,rfl⟩,hv,hs⟩
 exact⟨v,_,_,g',φ',he,⟨rfl,rfl,hl⟩,hv,hs⟩
theorem wsB {α:Type} {H:wac} {r e k n:Nat} {f:α->PD} {L:List α} (h:waa H r=some ⟨e,k,dl (wab f L)⟩):frzT H (.slc r 0 n)=some (.d (.imm k (wab f (L.take n)))):=by
 simp only[frzT,frz,h,dl_allD,Option.map_some,List.drop_zero,lenc_take]
variable {τ:St}
theorem sct (h2 : wc9 τ.heap σ.heap := by (repeat' (first | exact trivial | exact rfl | (simp only [List.length_append, List.length_set, List.length_replicate, List.length_cons, List.length_nil, Nat.zero_add]; exact rfl) | apply And.intro))) (h1 : wmZ σ.heap τ.heap σ.env τ.env := by (repeat' (first | exact trivial | exact .inr ⟨_, wsB rfl, leV_refl _, wmr rfl⟩ | exact .inr ⟨.dptr _ _ _ _, rfl, leV_refl _, wmq rfl⟩ | exact .inl ⟨leV_refl _, by first | exact trivial | exact rfl | (simp only [go_sem, ↓reduceIte]; done)⟩ | exact .inl ⟨wpn _ _, trivial⟩ | exact .inr ⟨_, wqA rfl (by first | rfl | (simp only [List.length_append, List.length_set, List.length_replicate, List.length_cons, List.length_nil, Nat.zero_add]; done)), leV_refl _, wmr rfl⟩ | exact .inr ⟨.dptr _ _ _ _, rfl, leV_refl _, wmq rfl⟩ | exact .inl ⟨wta (by simp only [List.length_append, List.length_set, List.length_replicate, List.length_cons, List.length_nil, Nat.zero_add]; done), rfl⟩ | exact .inl ⟨by (simp only [leV]; exact wjf _ _), trivial⟩ | exact .inr ⟨_, by (simp only [go_sem, List.take_length, List.length_append, List.length_set, List.length_replicate, ↓reduceIte]; first | done | rfl), by (first | exact leV_refl _ | (simp only [go_sem, leV, leVL, leD, leDL, wd7, leD_refl, leDL_refl, ↓reduceIte]; done)), by (intro r hr; simp only [go_sem, rowsOf, rowsOfL, List.mem_cons, List.not_mem_nil, or_false, List.append_nil, ↓reduceIte] at hr; first | done | (subst hr; rfl) | (rcases hr with rfl | rfl <;> rfl) | (rcases hr with rfl | rfl | rfl <;> rfl) | (rcases hr with rfl | rfl | rfl | rfl <;> rfl))⟩ | exact .inl ⟨by (simp only [go_sem, leV, leD, leDL, wd7, leD_refl, leDL_refl, wjf, ↓reduceIte]; done), trivial⟩ |
      exact .inr ⟨_,by(simp only[go_sem,List.take_length,List.length_append,List.length_set,List.length_replicate,↓reduceIte]; first | done | rfl),by(first | exact leV_refl _ | (simp only[go_sem,leV,leVL,leD,leDL,wd7,leD_refl,leDL_refl,↓reduceIte]; done)),by(intro r hr; simp only[go_sem,rowsOf,rowsOfL,List.mem_cons,List.not_mem_nil,or_false,List.append_nil,↓reduceIte]at hr; first | done | (subst hr; rfl) | (rcases hr with rfl | rfl <;> rfl) | (rcases hr with rfl | rfl | rfl <;> rfl) | (rcases hr with rfl | rfl | rfl | rfl <;> rfl))⟩ | apply And.intro)))
    (h4:wcw τ.heap τ.heap:=by(repeat' (first | exact trivial | exact wfq _ _ | exact rfl | apply And.intro | (simp only[go_sem,↓reduceIte]; done)))) (h5:σ.dfr=τ.dfr/\refsInL τ.heap τ.dfr/\σ.gh=τ.gh:=by first | exact⟨rfl,trivial,rfl⟩ | exact⟨rfl,(by simp only[go_sem,whF,wcU,↓reduceIte]),rfl⟩):Sub G N σ τ:=Sub.cv h2 h1 h4 h5
end
end Go.Pv

namespace Go.Pv
section
variable {P:Program} {G:List (Nat×PD)} {ro:Option Nat} {N:Nat} {σ σ':St} {ops:Array Oper} {o:Oper} {rest:List Oper}
theorem dap {xs:Exc} {acc:List Foot} {f:Foot} {Q:St->Prop} (hg:o.guard=none) (h:∀ K:Foot->St->Prop,K f σ'->OpX P G ro N xs o σ K) (h2:DOps P G ro N xs ops Q rest (acc++[f]) σ'):DOps P G ro N xs ops Q (o::rest) acc σ:=by
 obtain⟨f1,σ1,h3,rfl,rfl⟩:=h (fun f1 σ1=>f1=f/\σ1=σ') ⟨rfl,rfl⟩
 exact .step (DStep.plain hg h3) h2
end
end Go.Pv

namespace Go.Pv
def wdI {α:Type} [DecidableEq α] (a:α):List α->Option Nat
 | []=>none
 | b::l=>if a=b then some 0 else (wdI a l).map (·+1)
structure KeyEnc (P:Program) (kt:TypeId) {α:Type} [DecidableEq α] (enc:α->PD) (val:α->Value):Prop where
 uniq:∀ {w:World} {ok:Nat->Nat->Prop} {v:Value} {a:α},RepD w ok v (enc a)->v=val a
 check:∀ (w:World) (em:Bool) (a:α),(Instr.checkKey em 10000 kt (val a)).run P w=.ok () w
 find:∀ (w:World) (a:α) (es:List MapEntry) (ks:List α),es.map (·.key)=ks.map val->(Instr.findKey kt (val a) es).run P w=.ok ((wdI a ks).map fun j=>(j,(es.getD j default).val)) w
 stays:∀ (w:World) (a:α),(Instr.keyThatStays (val a) (val a)).run P w=.ok (val a) w
theorem wm6 {α:Type} [DecidableEq α] {d:TypeDesc} {val:α->Value} (h:∀ a b,Instr.sameNow d (val a) (val b)=some (decide (a=b))) (a:α):∀ (es:List MapEntry) (ks:List α) (i:Nat),es.map (·.key)=ks.map val →
  Instr.findNow d (val a) es i=some ((wdI a ks).map fun j=>(i+j,(es.getD j default).val))
 | [],ks,i,he=>by
  have:ks=[]:=by simpa using he.symm
  subst this; rfl
 | e::es,[],i,he=>by simp at he
 | e::es,b::ks,i,he=>by
  simp only[List.map_cons,List.cons.injEq]at he
  simp only[Instr.findNow,he.1,h,wdI]
  by_cases hab:a=b
  ·simp[hab]
  ·simp only[hab,decide_false,if_false]
   rw[wm6 h a es ks (i+1) he.2]
   cases wdI a ks with
   | none=>rfl
   | some j=>simp[Nat.add_comm,Nat.add_left_comm]
theorem KeyEnc.plain {P:Program} {kt:TypeId} {d:TypeDesc} {α:Type} [DecidableEq α] {enc:α->PD} {val:α->Value} (hk:P.underlying kt=some d) (hik:∀ a,MapKept.IsKey d (val a)) (hu:∀ {w:World} {ok:Nat->Nat->Prop} {v:Value} {a:α},RepD w ok v (enc a)->v=val a)
  (h:∀ a b,Instr.sameNow d (val a) (val b)=some (decide (a=b))):KeyEnc P kt enc val where
 uniq:=hu
 check w em a:=MapKept.run_checkKey hk (hik a) em 9999
 find w a es ks he:=by
  have:=wm6 h a es ks 0 he
  rw[MapKept.run_findKey hk this]
  simp
 stays w a:=MapKept.run_keyThatStays (hik a)
theorem KeyEnc.int {P:Program} {kt:TypeId} {k:IntKind} (hk:P.underlying kt=some (.int k)):KeyEnc P kt (PD.int k) (Value.int k) :=
 .plain hk (fun a=>by simp[MapKept.IsKey]) (fun h=>wjy h) fun a b=>by
  simp only[Instr.sameNow,if_true]
  by_cases h:a=b <;> simp[h]
theorem KeyEnc.str {P:Program} {kt:TypeId} (hk:P.underlying kt=some .string):KeyEnc P kt PD.str Value.string :=
 .plain hk (fun a=>by simp[MapKept.IsKey]) (fun h=>wo7 h) fun a b=>by
  simp only[Instr.sameNow]
  congr 1
  rw[beq_toListBytes,Bool.eq_iff_iff,beq_iff_eq,decide_eq_true_iff]
  constructor
  ·intro h
   have h2:a.data=b.data:=by rw[ByteArray.toList_eq,ByteArray.toList_eq]at h; exact Array.toList_inj.1 h
   cases a; cases b; simpa using h2
  ·rintro rfl; rfl
section
variable {P:Program} {w:World}
theorem wkp {α:Type} [DecidableEq α] {kt:TypeId} {val:α->Value} (h:∀ a b,(Op.equal kt (val a) (val b)).run P w=.ok (decide (a=b)) w) (a:α):∀ (es:List MapEntry) (ks:List α) (i:Nat),es.map (·.key)=ks.map val →
  (Instr.findAsking kt (val a) es i).run P w=.ok ((wdI a ks).map fun j=>(i+j,(es.getD j default).val)) w
 | [],ks,i,he=>by
  have:ks=[]:=by simpa using he.symm
  subst this; simp[Instr.findAsking,wdI]
 | e::es,[],i,he=>by simp at he
 | e::es,b::ks,i,he=>by
  simp only[List.map_cons,List.cons.injEq]at he
  simp only[Instr.findAsking,he.1,Sem.run_bind,h,Result.andThen_ok,wdI]
  by_cases hab:a=b
  ·simp[hab]
  ·simp only[hab,decide_false,if_false,Bool.false_eq_true]
   rw[wkp h a es ks (i+1) he.2]
   cases wdI a ks with
   | none=>rfl
   | some j=>simp[Nat.add_comm,Nat.add_left_comm]
theorem wk6 {e:TypeId} {k:IntKind} (he:P.underlying e=some (.int k)) (d:Nat) (l m:List Int):∀ is:List Nat,(∀ i∈is,i < l.length/\i < m.length) →
  (Op.eqItems (d+1) e 1 ((l.map (Value.int k)).toArray) ((m.map (Value.int k)).toArray) is).run P w=.ok (is.all fun i=>decide (l[i]? = m[i]?)) w
 | [],_=>by simp[Op.eqItems]
 | i::is,h=>by
  obtain⟨h1,h2⟩:=h i (by simp)
  have hp:P.plainKey e=true:=by simp[Program.plainKey,he]
  have e1:(part e ((l.map (Value.int k)).toArray) (i*1)).run P w=.ok (.int k l[i]) w:=run_part_plain w hp (by simp[h1])
  have e2:(part e ((m.map (Value.int k)).toArray) (i*1)).run P w=.ok (.int k m[i]) w:=run_part_plain w hp (by simp[h2])
  have e3:=run_equalIn_int (P:=P) w d e k k l[i] m[i] (by simp[he])
  simp only[Op.eqItems,Sem.run_bind,e1,e2,e3,Result.andThen_ok,List.all_cons,List.getElem?_eq_getElem h1,List.getElem?_eq_getElem h2,Option.some.injEq]
  by_cases hab:l[i]=m[i]
  ·simp only[hab,beq_self_eq_true,Bool.not_true,Bool.false_eq_true,if_false,decide_true,Bool.true_and]
   exact wk6 he d l m is fun j hj=>h j (by simp[hj])
  ·simp[hab]
theorem woP {kt e:TypeId} {k:IntKind} {n:Nat} {i:TypeInfo} (hk:P.underlying kt=some (.array n e)) (hi:P.info? e=some i) (hs:i.size=1) (he:P.underlying e=some (.int k)) (em:Bool) (d:Nat) (l:List Int) (hl:l.length=n) :
    (Instr.checkKey em (d+2) kt (.agg ((l.map (Value.int k)).toArray))).run P w=.ok () w:=by
  have hp:P.plainKey e=true:=by simp[Program.plainKey,he]
  have hsz:(sizeOf e).run P w=.ok 1 w:=by simp[sizeOf,typeInfo,Sem.run_bind,program,Sem.run,hi,hs,Result.andThen]
  rw[Instr.checkKey]
  simp only[Sem.run_bind,run_underlying hk,Result.andThen_ok]
  simp only[Std.Legacy.Range.forIn_eq_forIn_range',Std.Legacy.Range.size,Nat.sub_zero,Nat.add_one_sub_one,Nat.div_one]
  have hall : ∀ is : List Nat, (∀ j ∈ is, j < l.length) → (forIn is PUnit.unit (fun j _ => do
        let s <-sizeOf e
        let v <-part e ((l.map (Value.int k)).toArray) (j*s)
        Instr.checkKey em (d+1) e v
        pure (ForInStep.yield PUnit.unit)):Sem PUnit).run P w=.ok PUnit.unit w:=by
    intro is
    induction is with
    | nil=>intro _; simp
    | cons j is ih =>
      intro h
      have h1:=h j (by simp)
      have e1:(part e ((l.map (Value.int k)).toArray) (j*1)).run P w=.ok (.int k l[j]) w:=run_part_plain w hp (by simp[h1])
      have e2:(Instr.checkKey em (d+1) e (.int k l[j])).run P w=.ok () w:=MapKept.run_checkKey he (by simp[MapKept.IsKey]) em d
      simp only[List.forIn_cons,Sem.run_bind,hsz,Result.andThen_ok,e1,e2,Sem.run_pure]
      exact ih fun j hj=>h j (by simp[hj])
  have:=hall (List.range' 0 n) (fun j hj=>by simp at hj; omega)
  rw[this]; rfl
theorem KeyEnc.ints {kt e:TypeId} {k:IntKind} {n:Nat} {i:TypeInfo} (hk:P.underlying kt=some (.array n e)) (hi:P.info? e=some i) (hs:i.size=1) (he:P.underlying e=some (.int k)) {α:Type} [DecidableEq α] (toL:α->List Int) (hn:∀ a,(toL a).length=n) (hj:∀ a b,toL a=toL b->a=b) :
  KeyEnc P kt (fun a=>PD.agg ((toL a).map (PD.int k))) (fun a=>Value.agg ((toL a).map (Value.int k)).toArray) where
 uniq {w ok v a} h:=by
  cases h with
  | @agg vs _ hs h hf =>
   refine congrArg Value.agg (Array.ext (by simpa using hs) fun j h1 h2=>?_)
   ·have h3:j < (toL a).length:=by simpa using h2
    have:=h j (by simpa using h3)
    simp only[List.getElem_map]at this
    have:=wjy this
    simp only[Array.getD,h1,dite_true]at this
    simpa using this
 check w em a:=woP hk hi hs he em 9998 (toL a) (hn a)
 find w a es ks hes:=by
  have hc:P.cellsOf e=1:=by simp[Program.cellsOf,hi,hs]
  have heq:∀ a b,(Op.equal kt (.agg ((toL a).map (Value.int k)).toArray) (.agg ((toL b).map (Value.int k)).toArray)).run P w=.ok (decide (a=b)) w:=fun a b=>by
   have h1:=run_equalIn_array (P:=P) (w:=w) 9999 ((toL a).map (Value.int k)).toArray ((toL b).map (Value.int k)).toArray hk hi
   rw[hc]at h1
   have h2:=wk6 (P:=P) (w:=w) he 9998 (toL a) (toL b) (List.range n) (fun i hi=>by rw[hn,hn]; simpa using hi)
   rw[h2]at h1
   refine h1.trans ?_
   congr 1
   rw[Bool.eq_iff_iff,List.all_eq_true,decide_eq_true_iff]
   constructor
   ·intro h
    refine hj a b (List.ext_getElem? fun j=>?_)
    by_cases hjn:j < n
    ·simpa using h j (by simpa using hjn)
    ·rw[List.getElem?_eq_none (by rw[hn]; omega),List.getElem?_eq_none (by rw[hn]; omega)]
   ·rintro rfl j _; simp
  rw[run_findKey_eq w (by simp[hk])]
  have:=wkp (P:=P) (w:=w) (val:=fun a=>Value.agg ((toL a).map (Value.int k)).toArray) heq a es ks 0 hes
  simpa using this
 stays w a:=by
  have h:∀ l:List Int,Instr.sameBits 10000 (.agg ((l.map (Value.int k)).toArray)) (.agg ((l.map (Value.int k)).toArray))=true:=fun l=>by
   simp only[Instr.sameBits,beq_self_eq_true,Bool.true_and,List.all_eq_true]
   rintro⟨x,y⟩ hxy
   have:x=y/\∃ n,x=Value.int k n:=by
    simp only[List.zip_map',List.mem_map]at hxy
    simp at hxy
    obtain⟨z,_,h1,h2⟩:=hxy
    exact⟨h1.symm.trans h2,z,h1.symm⟩
   obtain⟨rfl,n,rfl⟩:=this
   simp[Instr.sameBits]
  simp only[Instr.keyThatStays,h,if_true,Sem.run_pure]
end
def wjZ {α β:Type} (encK:α->PD) (encV:β->PD) (e:α×β):PV:=.tuple [.d (encK e.1),.d (encV e.2)]
def waq {α β:Type} (encK:α->PD) (encV:β->PD) (L:List (α×β)):List PV:=L.map (wjZ encK encV)
def wc5 {α β:Type} [DecidableEq α] (a:α) (b:β):List (α×β)->List (α×β)
 | []=>[(a,b)]
 | e::l=>if a=e.1 then (a,b)::l else e::wc5 a b l
def waQ {α β:Type} [DecidableEq α] (a:α):List (α×β)->Option β
 | []=>none
 | e::l=>if a=e.1 then some e.2 else waQ a l
theorem why {α β:Type} [DecidableEq α] (a a':α) (b:β):∀ l:List (α×β),waQ a' (wc5 a b l)=if a'=a then some b else waQ a' l
 | []=>by simp only[wc5,waQ]
 | e::l=>by
  simp only[wc5]
  split
  ·rename_i h
   simp only[waQ]
   split
   ·rfl
   ·rename_i h2; rw[if_neg (by rw[<-h]; exact h2)]
  ·rename_i h
   simp only[waQ,why a a' b l]
   by_cases h2:a'=e.1
   ·rw[if_pos h2,if_pos h2,if_neg (by rw[h2]; exact fun e=>h e.symm)]
   ·rw[if_neg h2,if_neg h2]
theorem wm7 {α β:Type} [DecidableEq α] (a:α):∀ l:List (α×β),waQ a l=(wdI a (l.map Prod.fst)).bind fun j=>(l[j]?).map Prod.snd
 | []=>rfl
 | e::l=>by
  simp only[waQ,List.map_cons,wdI]
  split
  ·rfl
  ·rw[wm7 a l]
   cases wdI a (l.map Prod.fst)with
   | none=>rfl
   | some j=>rfl
theorem wm8 {α β:Type} [DecidableEq α] (a:α) (b:β):∀ l:List (α×β),wc5 a b l=match wdI a (l.map Prod.fst)with | some j=>l.set j (a,b) | none=>l++[(a,b)]
 | []=>rfl
 | e::l=>by
  simp only[wc5,List.map_cons,wdI]
  split
  ·rfl
  ·rw[wm8 a b l]
   cases wdI a (l.map Prod.fst)with
   | none=>rfl
   | some j=>rfl
theorem wmt {α:Type} [DecidableEq α] {a:α}:∀ {l:List α} {j:Nat},wdI a l=some j->l[j]? = some a
 | [],j,h=>by simp[wdI]at h
 | b::l,j,h=>by
  simp only[wdI]at h
  split at h
  ·rename_i e; simp only[Option.some.injEq]at h; subst h; subst e; rfl
  ·simp only[Option.map_eq_some_iff]at h
   obtain⟨i,h1,rfl⟩:=h
   simpa using wmt h1
section
variable {P:Program} {G:List (Nat×PD)} {ro:Option Nat} {N:Nat} {o:Oper} {σ:St} {K:St->Prop}
theorem wqB {w:World} {X:Nat->Nat->Prop} {φ:Nm} {H:wac} {b e:Nat} {α β:Type} [DecidableEq α] {kt:TypeId} {encK:α->PD} {valK:α->Value} {encV:β->PD} {L:List (α×β)} (hK:KeyEnc P kt encK valK) (h:RowOk w X φ H b ⟨e,0,waq encK encV L⟩) :
  ∃ es cl,w.heap[b]? = some (.map es cl)/\es.size=L.length/\es.toList.map (·.key)=(L.map Prod.fst).map valK/\∀ j (hj:j < L.length),RepV w X φ H (es.toList.getD j default).val (.d (encV L[j].2)):=by
 obtain⟨es,cl,h1,h2,h3⟩:=h.map rfl
 have hl:(waq encK encV L).length=L.length:=by simp[waq]
 have waa:∀ j (hj:j < L.length),(es.toList.getD j default).key=valK L[j].1/\RepV w X φ H (es.toList.getD j default).val (.d (encV L[j].2)):=fun j hj=>by
  have h4:=h3 j (by rw[hl]; exact hj)
  have e1:(waq encK encV L)[j]'(by rw[hl]; exact hj)=.tuple [.d (encK L[j].1),.d (encV L[j].2)]:=by simp[waq,wjZ]
  have e0:es.getD j default=es.toList.getD j default:=by simp[Array.getD_eq_getD_getElem?]
  rw[e1,e0]at h4
  cases h4 with
  | tuple hs h5 =>
   have h6:=h5 0 (by simp)
   have h7:=h5 1 (by simp)
   exact⟨hK.uniq (waR h6),h7⟩
 have h2':es.size=L.length:=by rw[h2]; simp[waq]
 refine⟨es,cl,h1,h2',?_,fun j hj=>(waa j hj).2⟩
 apply List.ext_getElem
 ·simpa using h2'
 ·intro j hj1 hj2
  have hj:j < L.length:=by simpa using hj2
  have:=(waa j hj).1
  simp only[List.getElem_map]
  rw[<-this]
  simp[List.getD,h2',hj]
theorem OpT.lookup {α β:Type} [DecidableEq α] {kt et t:TypeId} {x ix:Operand} {cok:Bool} {r e:Nat} {L:List (α×β)} {k:α} {v0:β} {encK:α->PD} {valK:α->Value} {encV:β->PD} {y:Ty} {z:Value} (hK:KeyEnc P kt encK valK)
  (ho:o.op=.lookup t x ix cok) (ht:P.underlying t=some (.map kt et)) (hx:σ.eval x=.mp r) (hrow:waa σ.heap r=some ⟨e,0,waq encK encV L⟩) (hi:σ.eval ix=.d (encK k)) (hy:wad P et=some y) (hz:y.zero=some z)
  (hzv:∀ (w:World) (ok:Nat->Nat->Prop),RepD w ok z (encV v0)) (hd:wao N o.dst)
  (hk:K (σ.put o.dst (if cok then .tuple [.d (encV ((waQ k L).getD v0)),.d (.bool (waQ k L).isSome)]else .d (encV ((waQ k L).getD v0))))):OpT P G ro N o σ K:=by
 intro B hro a w φ hr next Q hn
 have hxv:=hr.eval x
 rw[hx]at hxv
 generalize hav:a.eval x=av at hxv
 cases hxv with | mp hx2 hb hk0 =>
 rename_i b x2
 rw[hrow]at hx2; cases hx2
 have hiv:=hr.eval ix
 rw[hi]at hiv
 have hiv:=hK.uniq (waR hiv)
 obtain⟨es,cl,h1,h2,h3,h4⟩:=wqB hK (hr.heap.rows r _ b hrow hb)
 have hf:=hK.find w k es.toList (L.map Prod.fst) h3
 have hc:=hK.check w es.isEmpty k
 have hzr:=whS hy hz w
 obtain⟨u,hu,hur⟩:∃ u:Value×Bool,(Instr.lookup t (a.eval x) (a.eval ix) cok).run P w=.ok (if cok then .tuple #[u.1,.bool u.2]else u.1) w/\RepV w B.X φ σ.heap u.1 (.d (encV ((waQ k L).getD v0)))/\u.2=(waQ k L).isSome:=by
  rw[wm7,hav,hiv]
  simp only[Instr.lookup,Sem.run_bind,run_underlying ht,Result.andThen_ok,MapKept.run_getObj_map h1,Sem.run_pure,hc,hf]
  cases hj:wdI k (L.map Prod.fst)with
  | none=>exact⟨(z,false),by simp only[Option.map_none,Sem.run_bind,hzr,Result.andThen_ok,Sem.run_pure],.d (hzv _ _),rfl⟩
  | some j =>
   have hjl:j < L.length:=by
    have:=wmt hj
    obtain⟨h,_⟩:=List.getElem?_eq_some_iff.1 this
    simpa using h
   refine⟨((es.toList.getD j default).val,true),by simp only[Option.map_some,Sem.run_bind]; rfl,?_,by simp[hjl]⟩
   have:=h4 j hjl
   simpa [hjl]using this
 refine wa7 (u:=if cok then .tuple #[u.1,.bool u.2]else u.1) (w':=w) ?_ (hn _ _ _ φ hk (hr.put hd ?_))
 ·rw[Oper.semAt_eq _ _ _ (fun c hc=>by rw[ho]at hc; cases hc)]
  simp only[execOp,ho]
  exact wb2 hu
 ·cases cok with
  | false=>exact hur.1
  | true =>
   refine .tuple rfl fun i hi=>?_
   match i,hi with
   | 0,_=>exact hur.1
   | 1,_=>rw[<-hur.2]; exact .d (.bool _)
theorem Rep.writeMap {B:Base P} {a:Act} {w:World} {φ:Nm} (hr:Rep G B N σ a w φ) {r b:Nat} {x:Row} (hx:waa σ.heap r=some x) (hb:φ r=some b) (hk0:x.k=0) {els:List PV} {es es':Array MapEntry} {cl cl':Nat} (hc:w.heap[b]? = some (.map es cl))
  (hs:es'.size=els.length) (he:∀ i (hi:i < els.length),RepV w B.X φ σ.heap (.tuple #[(es'.getD i default).key,(es'.getD i default).val]) els[i]) :
  Rep G B N { σ with heap:=wal σ.heap r { x with els:=els } } a (w.putObj b (.map es' cl')) φ:=by
 have hlt:b < w.heap.size:=(Array.getElem?_eq_some_iff.1 hc).1
 have hself:(w.putObj b (.map es' cl')).heap[b]? = some (.map es' cl'):=World.putObj_heap_same hlt
 have hoth:∀ b',b'≠b->(w.putObj b (.map es' cl')).heap[b']? = w.heap[b']?:=fun b' h=>World.putObj_heap_other h
 have hz:(w.putObj b (.map es' cl')).heap.size=w.heap.size:=World.putObj_size
 obtain⟨w',hw'⟩:∃ w',w'=w.putObj b (.map es' cl'):=⟨_,rfl⟩
 have hos:w'.os=w.os/\w'.tape=w.tape/\w'.output=w.output:=by subst hw'; exact⟨rfl,rfl,rfl⟩
 rw[<-hw']at hself hoth hz ⊢
 have hown:=fun b=>wo8 (φ:=φ) (x':={ x with els:=els }) hx b
 have hbr:waD φ σ.heap b:=⟨r,x,hx,hb⟩
 have hbo:own φ σ.heap b:=.inl hbr
 have hrow:=fun b=>wmk (φ:=φ) (x':={ x with els:=els }) hx b
 have hext:Ext w B.X φ σ.heap w' φ (wal σ.heap r { x with els:=els }):=by
  refine⟨fun s y h=>?_,fun b' kk h=>⟨by rw[hz]; exact h.1,h.2.1,fun ho=>h.2.2 ((hown b').1 ho)⟩,fun b' kk h=>⟨by rw[hz]; exact h.1,fun ho=>h.2 ((hown b').1 ho)⟩,fun b' kk h=>?_,fun s y b' h hb' c0 e0 f0 hh=>?_⟩
  ·by_cases hs:r=s
   ·subst hs; rw[hx]at h; simp only[Option.some.injEq]at h; subst h
    exact⟨{ x with els:=els },by rw[wai]; simp,rfl,fun hk=>by omega,rfl⟩
   ·exact⟨y,by rw[wai,if_neg hs]; exact h,rfl,fun _=>rfl,rfl⟩
  ·exact hoth b' (fun he=>h.2 (he▸hbo))
  ·by_cases hbb:b'=b
   ·subst hbb; rw[hself]at hh; cases hh
   ·rw[hoth b' hbb]at hh; exact⟨c0,e0,f0,hh,rfl⟩
 refine⟨hr.size,fun t=>(hr.env t).ext hext,⟨fun s y b' hs' hb'=>?_,fun s y hs' hb'=>?_,fun s t y z b' hs' ht hb' hb2=>?_,fun b' hT=>⟨hz▸(hr.heap.far b' hT).1,(hr.heap.far b' hT).2.1,fun h=>(hr.heap.far b' hT).2.2 ((hrow b').1 h)⟩⟩,
  ⟨hos.1.trans hr.keeps.os,hos.2.1.trans hr.keeps.tape,hos.2.2.trans hr.keeps.output,by rw[hz]; exact hr.keeps.size,?_⟩,fun s y b' hs' hb'=>?_,fun s y hs' hp=>?_,fun s y b' hs' hp hb'=>?_,?_,hr.tnew,
  wdT (w:=w) (φ:=φ) (H:=σ.heap) hr.inv rfl hos.1 hos.2.1 hos.2.2 (by rw[hz]; exact Nat.le_refl _) (fun b' h1 h2=>hoth b' fun e=>h2 (e▸hbr)) (fun b' h=>.inl ((hrow b').1 h)),hr.dfr.ext hext⟩
 ·rw[wai]at hs'
  by_cases h:r=s
  ·subst h
   rw[if_pos rfl]at hs'; simp only[Option.some.injEq]at hs'; subst hs'
   rw[hb]at hb'; simp only[Option.some.injEq]at hb'; subst hb'
   refine⟨fun hk=>absurd hk (by rw[show x.k=0 from hk0]; omega),fun _=>⟨es',cl',hself,hs,fun i hi=>(he i hi).ext hext⟩,(hr.heap.rows r x b hx hb).free⟩
  ·rw[if_neg h]at hs'
   have hne:b'≠b:=fun e=>h ((hr.heap.inj s r y x b' hs' hx hb' (e▸hb)).symm)
   exact(hr.heap.rows s y b' hs' hb').ext hext (hoth b' hne)
 ·rw[wai]at hs'
  by_cases h:r=s
  ·subst h; rw[hb]at hb'; cases hb'
  ·rw[if_neg h]at hs'; exact hr.heap.void s y hs' hb'
 ·rw[wai]at hs' ht
  have:∀ s y,(if r=s then some ({ x with els:=els }:Row)else waa σ.heap s)=some y->∃ y',waa σ.heap s=some y':=fun s y h=>by
   split at h
   ·rename_i e; exact⟨x,e▸hx⟩
   ·exact⟨y,h⟩
  obtain⟨y',h1⟩:=this s y hs'
  obtain⟨z',h2⟩:=this t z ht
  exact hr.heap.inj s t y' z' b' h1 h2 hb' hb2
 ·intro b' hb' ho
  refine(hoth b' (fun e=>?_)).trans (hr.keeps.block b' hb' ho)
  subst e
  rcases hr.new r x b' hx hb with h | h
  ·exact ho h
  ·omega
 ·rw[wai]at hs'
  split at hs'
  ·rename_i e; subst e; exact hr.new r x b' hx hb'
  ·exact hr.new s y b' hs' hb'
 ·rw[wai]at hs'
  split at hs'
  ·rename_i e; subst e; exact hr.pins r x hx hp
  ·exact hr.pins s y hs' hp
 ·rw[wai]at hs'
  have hcz:csz w' b'=csz w b':=by
   by_cases hbb:b'=b
   ·subst hbb; unfold csz; rw[hself,hc]
   ·exact wel (hoth b' hbb)
  rw[hcz]
  split at hs'
  ·rename_i e; subst e; exact hr.psz r x b' hx hp hb'
  ·exact hr.psz s y b' hs' hp hb'
 ·exact hr.glob.ext hext (fun g y hm=>by obtain⟨_,_,_,_,_,h2,_⟩:=hr.glob g y hm; exact fun ho=>h2 ((hown g).1 ho))
theorem OpT.mapSet {α β:Type} [DecidableEq α] {kt et t:TypeId} {m ix x:Operand} {r e:Nat} {L:List (α×β)} {k:α} {v:β} {encK:α->PD} {valK:α->Value} {encV:β->PD} (hK:KeyEnc P kt encK valK)
  (ho:o.op=.mapUpdate t m ix x\/o.op=.insert t m ix x) (ht:P.underlying t=some (.map kt et)) (hx:σ.eval m=.mp r) (hrow:waa σ.heap r=some ⟨e,0,waq encK encV L⟩) (hi:σ.eval ix=.d (encK k)) (hv:σ.eval x=.d (encV v)) (hd:wao N o.dst)
  (hk:K (({ σ with heap:=wal σ.heap r ⟨e,0,waq encK encV (wc5 k v L)⟩ }:St).put o.dst .any)):OpT P G ro N o σ K:=by
 intro B hro a w φ hr next Q hn
 have hxv:=hr.eval m
 rw[hx]at hxv
 generalize hav:a.eval m=av at hxv
 cases hxv with | mp hx2 hb hk0 =>
 rename_i b x2
 rw[hrow]at hx2; cases hx2
 have hiv:=hr.eval ix
 rw[hi]at hiv
 have hir:=hiv
 have hiv:=hK.uniq (waR hiv)
 have hvv:=hr.eval x
 rw[hv]at hvv
 obtain⟨es,cl,h1,h2,h3,h4⟩:=wqB hK (hr.heap.rows r _ b hrow hb)
 have hf:=hK.find w k es.toList (L.map Prod.fst) h3
 have hc:=hK.check w false k
 have hst:=hK.stays w k
 have hkey:∀ j (hj:j < L.length),(es.toList.getD j default).key=valK L[j].1:=fun j hj=>by
  have e1:=congrArg (fun l=>l[j]?) h3
  simp only[List.getElem?_map]at e1
  have hj':j < es.toList.length:=by simpa [h2]using hj
  rw[List.getElem?_eq_getElem hj',List.getElem?_eq_getElem hj]at e1
  simp only[Option.map_some,Option.some.injEq]at e1
  simpa [List.getD,h2,hj]using e1
 have hold:∀ j (hj:j < L.length),RepV w B.X φ σ.heap (.tuple #[(es.toList.getD j default).key,(es.toList.getD j default).val]) (wjZ encK encV L[j]):=fun j hj=>by
  obtain⟨es2,cl2,h5,h6,h7⟩:=(hr.heap.rows r _ b hrow hb).map rfl
  rw[h1]at h5; cases h5
  have h8:=h7 j (by simpa [waq]using hj)
  simpa [waq,Array.getD_eq_getD_getElem?]using h8
 have hnew:RepV w B.X φ σ.heap (.tuple #[a.eval ix,a.eval x]) (wjZ encK encV (k,v)):=by
  refine .tuple rfl fun i hi=>?_
  match i,hi with
  | 0,_=>exact hir
  | 1,_=>exact hvv
 obtain⟨es',cl',hrun,hs',he'⟩:∃ es' cl',(Instr.mapUpdate t (a.eval m) (a.eval ix) (a.eval x)).run P w=.ok () (w.putObj b (.map es' cl'))/\es'.size=(waq encK encV (wc5 k v L)).length ∧
   ∀ i (hi:i < (waq encK encV (wc5 k v L)).length),RepV w B.X φ σ.heap (.tuple #[(es'.getD i default).key,(es'.getD i default).val]) (waq encK encV (wc5 k v L))[i]:=by
  rw[hav]
  simp only[Instr.mapUpdate,Sem.run_bind,run_underlying ht,Result.andThen_ok,MapKept.run_getObj_map h1]
  rw[hiv,hc,Result.andThen_ok,hf]
  rw[wm8]
  cases hj:wdI k (L.map Prod.fst)with
  | none =>
   refine⟨es.push { key:=valK k,val:=a.eval x,born:=cl },cl+1,by simp only[Option.map_none,Result.andThen_ok,MapKept.run_setObj_map _ h1]; rfl,by simp[waq,h2],fun i hi=>?_⟩
   have hi':i < L.length+1:=by simpa [waq]using hi
   by_cases hil:i < L.length
   ·have:=hold i hil
    simpa [waq,Array.getD_eq_getD_getElem?,Array.getElem?_push,h2,hil,Nat.ne_of_lt hil,List.getElem_append]using this
   ·have:i=L.length:=by omega
    subst this
    rw[hiv]at hnew
    have hg:(es.push { key:=valK k,val:=a.eval x,born:=cl }).getD L.length default={ key:=valK k,val:=a.eval x,born:=cl }:=by
     rw[<-h2]; simp[Array.getD_eq_getD_getElem?]
    rw[hg]
    simpa [waq,List.getElem_append]using hnew
  | some j =>
   have hjk:=wmt hj
   have hjl:j < L.length:=by obtain⟨h,_⟩:=List.getElem?_eq_some_iff.1 hjk; simpa using h
   have hkj:((es[j]?).map (·.key)).getD (valK k)=valK k:=by
    have e1:=hkey j hjl
    have e2:L[j].1=k:=by simpa [hjl]using hjk
    rw[e2]at e1
    simpa [h2,hjl,List.getD]using e1
   refine⟨es.modify j fun e=>{ e with key:=valK k,val:=a.eval x },cl,by simp only[Option.map_some,Result.andThen_ok,Sem.run_bind,hkj,hst,MapKept.run_setObj_map _ h1]; rfl,by simp[waq,h2],fun i hi=>?_⟩
   have hi':i < L.length:=by simpa [waq]using hi
   by_cases hij:i=j
   ·subst hij
    rw[hiv]at hnew
    have hg:(es.modify i fun e=>{ e with key:=valK k,val:=a.eval x }).getD i default={ es.getD i default with key:=valK k,val:=a.eval x }:=by
     simp[Array.getD_eq_getD_getElem?,h2,hi',Array.getElem_modify]
    rw[hg]
    simpa [waq]using hnew
   ·have:=hold i hi'
    have hg:(es.modify j fun e=>{ e with key:=valK k,val:=a.eval x }).getD i default=es.toList.getD i default:=by
     simp[Array.getD_eq_getD_getElem?,Array.getElem?_modify,Ne.symm hij]
    rw[hg]
    simpa [waq,List.getElem_set_ne (Ne.symm hij)]using this
 have hrep:=hr.writeMap hrow hb rfl h1 (cl':=cl') hs' he'
 refine wjC (w':=w.putObj b (.map es' cl')) ?_ (hn _ _ _ φ hk (hrep.put hd (.any _)))
 rw[Oper.semAt_eq _ _ _ (fun c hc=>by rcases ho with ho | ho <;> (rw[ho]at hc; cases hc))]
 rcases ho with ho | ho
 all_goals
  unfold execOp
  simp only[ho]
  rw[Sem.run_bind,hrun]; rfl
theorem Rep.new_map {B:Base P} {a:Act} {w:World} {φ:Nm} (hr:Rep G B N σ a w φ) {e r:Nat} (hr0:waa σ.heap r=none) (hp:1000<=r) :
  Rep G B N { σ with heap:=wal σ.heap r ⟨e,0,[]⟩ } a (w.alloc (.map #[] 0)) (upd φ r (some w.heap.size)) ∧
  RepV (w.alloc (.map #[] 0)) B.X (upd φ r (some w.heap.size)) (wal σ.heap r ⟨e,0,[]⟩) (.map (some w.heap.size)) (.mp r):=by
 have hne:∀ s y,waa σ.heap s=some y->s≠r:=fun s y h he=>by rw[he,hr0]at h; cases h
 have hX:∀ k,¬ B.X w.heap.size k:=fun k h=>absurd (B.hX _ _ h) (Nat.not_lt.2 hr.keeps.size)
 have hrow':∀ b,waD (upd φ r (some w.heap.size)) (wal σ.heap r ⟨e,0,[]⟩) b->waD φ σ.heap b\/b=w.heap.size:=by
  rintro b ⟨s,y,h1,h2⟩
  rw[wai]at h1
  by_cases hs:s=r
  ·subst hs; simp[upd]at h2; exact .inr h2.symm
  ·rw[if_neg (Ne.symm hs)]at h1; simp only[upd,hs,if_false]at h2; exact .inl ⟨s,y,h1,h2⟩
 have hrow:∀ b,b < w.heap.size->waD (upd φ r (some w.heap.size)) (wal σ.heap r ⟨e,0,[]⟩) b->waD φ σ.heap b:=fun b hb h=>by
  rcases hrow' b h with h | h
  ·exact h
  ·omega
 have hext:Ext w B.X φ σ.heap (w.alloc (.map #[] 0)) (upd φ r (some w.heap.size)) (wal σ.heap r ⟨e,0,[]⟩):=by
  have hown:∀ b,b < w.heap.size->own (upd φ r (some w.heap.size)) (wal σ.heap r ⟨e,0,[]⟩) b->own φ σ.heap b:=by
   rintro b hb (hrw | hT)
   ·exact .inl (hrow b hb hrw)
   ·exact .inr hT
  refine⟨fun s y h=>⟨y,by rw[wai,if_neg (Ne.symm (hne s y h))]; exact h,rfl,fun _=>rfl,by simp[upd,hne s y h]⟩,fun b kk h=>⟨by simp; have:=h.1; omega,h.2.1,fun ho=>h.2.2 (hown b h.1 ho)⟩,
   fun b kk h=>⟨by simp; have:=h.1; omega,fun ho=>h.2 (hown b h.1 ho)⟩,fun b kk h=>heap_alloc_old w _ h.1,fun s y b h hb c' e' f' hh=>⟨c',e',f',?_,rfl⟩⟩
  rw[heap_alloc_old w _ (hr.heap.lt h hb)]at hh
  exact hh
 refine⟨⟨hr.size,fun t=>(hr.env t).ext hext,⟨fun s y b hs hb=>?_,fun s y hs hb=>?_,fun s t y z b hs ht hb hb'=>?_,fun b hT=>?_⟩,?_,fun s y b hs hb=>?_,fun s y hs hpin=>?_,fun s y b hs hpin hb=>?_,?_,hr.tnew,?_,hr.dfr.ext hext⟩,?_⟩
 ·rw[wai]at hs
  by_cases h:s=r
  ·subst h
   simp only[if_true,Option.some.injEq]at hs
   subst hs
   simp only[upd,if_true,Option.some.injEq]at hb
   subst hb
   exact⟨fun hk=>absurd hk (by show ¬ 1<=0; omega),fun _=>⟨#[],0,heap_alloc_new w _,rfl,fun i hi=>by simp at hi⟩,hX⟩
  ·rw[if_neg (Ne.symm h)]at hs
   simp only[upd,h,if_false]at hb
   exact(hr.heap.rows s y b hs hb).ext hext (heap_alloc_old w _ (hr.heap.lt hs hb))
 ·rw[wai]at hs
  by_cases h:s=r
  ·subst h; simp[upd]at hb
  ·rw[if_neg (Ne.symm h)]at hs
   simp only[upd,h,if_false]at hb
   exact hr.heap.void s y hs hb
 ·rw[wai]at hs ht
  by_cases h:s=r <;> by_cases h':t=r
  ·rw[h,h']
  ·subst h
   rw[if_neg (Ne.symm h')]at ht
   simp only[upd,h',if_false,if_true,Option.some.injEq]at hb hb'
   have:=hr.heap.lt ht hb'; omega
  ·subst h'
   rw[if_neg (Ne.symm h)]at hs
   simp only[upd,h,if_false,if_true,Option.some.injEq]at hb hb'
   have:=hr.heap.lt hs hb; omega
  ·rw[if_neg (Ne.symm h)]at hs
   rw[if_neg (Ne.symm h')]at ht
   simp only[upd,h,h',if_false]at hb hb'
   exact hr.heap.inj s t y z b hs ht hb hb'
 ·obtain⟨h1,h2,h3⟩:=hr.heap.far b hT
  exact⟨by simp; omega,h2,fun h=>h3 (hrow b h1 h)⟩
 ·exact hr.keeps.trans ⟨rfl,rfl,rfl,by simp,fun b hb _=>heap_alloc_old w _ hb⟩
 ·rw[wai]at hs
  by_cases h:s=r
  ·subst h; simp only[upd,if_true,Option.some.injEq]at hb; subst hb; exact .inr hr.keeps.size
  ·rw[if_neg (Ne.symm h)]at hs; simp only[upd,h,if_false]at hb; exact hr.new s y b hs hb
 ·rw[wai]at hs
  have hlt:s < 1000:=by simpa [pinned]using hpin
  have h:s≠r:=by omega
  rw[if_neg (Ne.symm h)]at hs
  simp only[upd,h,if_false]
  exact hr.pins s y hs hpin
 ·rw[wai]at hs
  have hlt:s < 1000:=by simpa [pinned]using hpin
  have h:s≠r:=by omega
  rw[if_neg (Ne.symm h)]at hs
  simp only[upd,h,if_false]at hb
  exact(wel (heap_alloc_old w _ (hr.heap.lt hs hb))).trans (hr.psz s y b hs hpin hb)
 ·refine hr.glob.ext hext (fun g y hm=>?_)
  obtain⟨c',e',f',v',h1,h2,_⟩:=hr.glob g y hm
  have hlt:g < w.heap.size:=(Array.getElem?_eq_some_iff.1 h1).1
  rintro(h3 | h3)
  ·exact h2 (.inl (hrow g hlt h3))
  ·exact h2 (.inr h3)
 ·refine wdT (w:=w) (φ:=φ) (H:=σ.heap) hr.inv rfl rfl rfl rfl (by simp) (fun b hb _=>heap_alloc_old w _ hb) (fun b hb=>?_)
  rcases hrow' b hb with h | h
  ·exact .inl h
  ·exact .inr (by omega)
 ·exact .mp (by rw[wai]; simp; rfl) (by simp[upd]) rfl
theorem OpT.makeMap {t:TypeId} {r0:Nat} (ho:o.op=.makeMap t none) (hd:wao N o.dst) (hr0:waa σ.heap r0=none) (hp0:1000<=r0)
  (hK:K (({ σ with heap:=wal σ.heap r0 ⟨t,0,[]⟩ }:St).put o.dst (.mp r0))):OpT P G ro N o σ K:=by
 intro B hro a w φ hr next Q hn
 obtain⟨h1,h2⟩:=hr.new_map (e:=t) hr0 hp0
 refine wa7 (u:=.map (some w.heap.size)) (w':=w.alloc (.map #[] 0)) ?_ (hn _ _ _ _ hK (h1.put hd h2))
 rw[Oper.semAt_eq _ _ _ (fun c hc=>by rw[ho]at hc; cases hc)]
 simp only[execOp,ho,Option.map_none]
 exact wb2 rfl
end
end Go.Pv

namespace Go.Pv
def wbA (gs:List Nat):wac->wac
 | []=>[]
 | (r,x)::l=>if gs.contains r=true then wbA gs l else (r,x)::wbA gs l
theorem wgx (gs:List Nat):∀ (H:wac) (s:Nat),waa (wbA gs H) s=if s∈gs then none else waa H s
 | [],s=>by simp[wbA,waa]
 | (r,x)::l,s=>by
  simp only[wbA]
  by_cases hr:gs.contains r=true
  ·rw[if_pos hr,wgx gs l s]
   by_cases hs:s∈gs
   ·simp[hs]
   ·simp only[hs,if_false,waa]
    rw[if_neg (fun e=>hs (by subst e; simpa using hr))]
  ·rw[if_neg hr]
   simp only[waa,wgx gs l s]
   by_cases hrs:r=s
   ·subst hrs
    have:¬ r∈gs:=by simpa using hr
    simp[this]
   ·simp[hrs]
structure ExtU (gs:List Nat) (w:World) (X:Nat->Nat->Prop) (φ:Nm) (H:wac) (w':World) (φ':Nm) (H':wac):Prop where
 dom:∀ s x,s ∉ gs->waa H s=some x->∃ x',waa H' s=some x'/\x'.k=x.k/\(1<=x.k->x'.els.length=x.els.length)/\φ' s=φ s
 okd:∀ b k,okd w X φ H b k->okd w' X φ' H' b k
 okb:∀ b k,okb w φ H b k->okb w' φ' H' b k
 blk:∀ b k,Pv.okb w φ H b k->w'.heap[b]? = w.heap[b]?
 sz:∀ s x b,s ∉ gs->waa H s=some x->φ s=some b->∀ c e f,w'.heap[b]? = some (.cells c e f)->∃ c0 e0 f0,w.heap[b]? = some (.cells c0 e0 f0)/\c0.size=c.size
theorem RepV.extU {gs:List Nat} {w w':World} {X:Nat->Nat->Prop} {φ φ':Nm} {H H':wac} (h:ExtU gs w X φ H w' φ' H') {v:Value} {p:PV} (hv:RepV w X φ H v p):(∀ r∈rowsOf p,r ∉ gs)->RepV w' X φ' H' v p:=by
 induction hv with
 | any v=>intro _; exact .any v
 | d hd=>intro _; exact .d (hd.mono h.okd (fun b k hb=>h.blk b k (wcz hb)))
 | b hd=>intro _; exact .b (hd.mono h.okb h.blk)
 | ptr hx hb hk =>
  intro hg
  obtain⟨x',h1,h2,_,h4⟩:=h.dom _ _ (hg _ (by simp[rowsOf])) hx
  rw[<-h2]
  exact .ptr h1 (h4.trans hb) (h2▸hk)
 | dptr hd hi=>intro _; exact .dptr (hd.mono h.okd (fun b k hb=>h.blk b k (wcz hb))) hi
 | bptr hd hi=>intro _; exact .bptr (hd.mono h.okb h.blk) hi
 | glob g=>intro _; exact .glob g
 | val hf=>intro _; exact .val hf
 | slc hx hb hk hn hc hl hz =>
  intro hg
  obtain⟨x',h1,h2,h3,h4⟩:=h.dom _ _ (hg _ (by simp[rowsOf])) hx
  have h3:=h3 hk
  rw[<-h2]
  refine .slc h1 (h4.trans hb) (h2▸hk) (h3▸hn) hc (h3▸hl) (fun c e f hh=>?_)
  obtain⟨c0,e0,f0,h5,h6⟩:=h.sz _ _ _ (hg _ (by simp[rowsOf])) hx hb c e f hh
  rw[h2,<-h6]
  exact hz _ _ _ h5
 | slc0 hx hb hk hp =>
  intro hg
  obtain⟨x',h1,h2,_,h4⟩:=h.dom _ _ (hg _ (by simp[rowsOf])) hx
  exact .slc0 h1 (h4.trans hb) (h2▸hk) hp
 | mp hx hb hk =>
  intro hg
  obtain⟨x',h1,h2,_,h4⟩:=h.dom _ _ (hg _ (by simp[rowsOf])) hx
  exact .mp h1 (h4.trans hb) (h2▸hk)
 | func hs _ ih=>intro hg; simp only[rowsOf]at hg; exact .func hs fun i hi=>ih i hi fun r hr=>hg r (wdx hi hr)
 | agg hs _ hf ih=>intro hg; simp only[rowsOf]at hg; exact .agg hs (fun i hi=>ih i hi fun r hr=>hg r (wdx hi hr)) hf
 | tuple hs _ ih=>intro hg; simp only[rowsOf]at hg; exact .tuple hs fun i hi=>ih i hi fun r hr=>hg r (wdx hi hr)
theorem wpq {l:List PV} {p:PV} (hp:p∈l) {r:Nat} (h:r∈rowsOf p):r∈rowsOfL l:=by
 obtain⟨i,hi,rfl⟩:=List.getElem_of_mem hp
 exact wdx hi h
structure HandU (σ:St) (H:wac) (g:Nat->Nat) (gs:List Nat):Prop where
 h0:Hand0 σ H g
 giv:∀ r x,waa H r=some x->1000<=r->g r∈gs
 pin:∀ r x,waa H r=some x->r < 1000->g r ∉ gs
 all:∀ s∈gs,∃ r x,waa H r=some x/\g r=s
 big:∀ s∈gs,1000<=s
 env:∀ s∈gs,∀ t,s ∉ rowsOf (wam σ.env t)
 dfr:∀ s∈gs,s ∉ rowsOfL σ.dfr
 out:∀ s∈gs,∀ t y,waa σ.heap t=some y->(∀ r x,waa H r=some x->g r≠t)->s ∉ rowsOfL y.els
structure BackU (σ:St) (H H':wac) (g ρ:Nat->Nat) (gs:List Nat):Prop where
 old:∀ r x',waa H' r=some x'->r < 1000->∃ x,waa H r=some x/\ρ r=g r/\x'.k=x.k/\(1<=x.k->x'.els.length=x.els.length)
 all:∀ r x,waa H r=some x->r < 1000->∃ x',waa H' r=some x'
 new:∀ r x',waa H' r=some x'->1000<=r->(waa σ.heap (ρ r)=none\/ρ r∈gs)/\1000<=ρ r
 inj:∀ r s x y,waa H' r=some x->waa H' s=some y->ρ r=ρ s->r=s
 refs:∀ r x,waa H' r=some x->refsInL H' x.els/\cleanL x.els
structure MergedU (σ:St) (H':wac) (ρ:Nat->Nat) (gs:List Nat) (H2:wac):Prop where
 inn:∀ r x,waa H' r=some x->waa H2 (ρ r)=some (x.ren ρ)
 out:∀ s,(∀ r x,waa H' r=some x->ρ r≠s)->waa H2 s=if s∈gs then none else waa σ.heap s
section
variable {P:Program} {G:List (Nat×PD)} {B:Base P} {N:Nat} {σ:St} {a:Act} {w w':World} {φ φ':Nm} {H H' H2:wac} {g ρ:Nat->Nat} {gs:List Nat}
theorem BackU.merged (hb:BackU σ H H' g ρ gs):MergedU σ H' ρ gs (wbP ρ H' (wbA gs σ.heap)):=by
 obtain⟨h1,h2⟩:=whv (ρ:=ρ) (l:=H') (H0:=wbA gs σ.heap) (fun r s hr hs he=>by
  obtain⟨x,hx⟩:=Option.isSome_iff_exists.1 hr
  obtain⟨y,hy⟩:=Option.isSome_iff_exists.1 hs
  exact hb.inj r s x y hx hy he)
 exact⟨h1,fun s hn=>(h2 s hn).trans (wgx _ _ _)⟩
open Classical in
theorem wcn {φ':Nm} (hi:∀ r s x y,waa H' r=some x->waa H' s=some y->ρ r=ρ s->r=s) {r:Nat} {x:Row} (h:waa H' r=some x):(wbe φ φ' H' ρ none) (ρ r)=φ' r:=by
 have hex:∃ r',(waa H' r').isSome=true/\ρ r'=ρ r:=⟨r,by rw[h]; rfl,rfl⟩
 show (if h:∃ r',(waa H' r').isSome=true/\ρ r'=ρ r then φ' (Classical.choose h)else φ (ρ r))=_
 rw[dif_pos hex]
 obtain⟨h1,h2⟩:=Classical.choose_spec hex
 obtain⟨y,hy⟩:=Option.isSome_iff_exists.1 h1
 rw[hi _ _ _ _ hy h h2]
structure CameU (hr:Rep G B N σ a w φ) (H H' H2:wac) (g ρ:Nat->Nat) (gs:List Nat) (g':Gh) (w':World) (φ':Nm):Prop where
 hh:HandU σ H g gs
 hb:BackU σ H H' g ρ gs
 hm:MergedU σ H' ρ gs H2
 hs:Sit G (hr.bc H g none) w' φ' H' g'
variable {g':Gh} {hr:Rep G B N σ a w φ} (c:CameU hr H H' H2 g ρ gs g' w' φ')
include c
theorem CameU.old {b:Nat} (hlt:b < w.heap.size) (h:¬ own (wbT φ H g none) H b):w'.heap[b]? = w.heap[b]?:=c.hs.keeps.block b hlt h
theorem CameU.out_own {s b:Nat} {y:Row} (hn:∀ r x,waa H' r=some x->ρ r≠s) (hg:s ∉ gs) (hy:waa σ.heap s=some y) (hφ:φ s=some b):¬ own (wbT φ H g none) H b:=by
 rintro(⟨r,x,hx,hrb⟩ | hT)
 ·rw[wdb hx]at hrb
  have e:=hr.heap.inj _ _ _ _ b (c.hh.h0.row r x hx) hy hrb hφ
  rcases Nat.lt_or_ge r 1000 with h | h
  ·obtain⟨x',hx'⟩:=c.hb.all r x hx h
   obtain⟨_,_,h2,_⟩:=c.hb.old r x' hx' h
   exact hn r x' hx' (h2.trans e)
  ·exact hg (e▸c.hh.giv r x hx h)
 ·simp[wbT]at hT
theorem CameU.handed {r:Nat} {x':Row} (hx':waa H' r=some x') (hp:r < 1000):∃ x,waa H r=some x/\ρ r=g r/\x'.k=x.k/\(1<=x.k->x'.els.length=x.els.length)/\φ' r=φ (g r):=by
 obtain⟨x,h1,h2,h3,h4⟩:=c.hb.old r x' hx' hp
 refine⟨x,h1,h2,h3,h4,?_⟩
 have:=c.hs.pins r x' hx' (by simp[pinned,hp])
 exact this.trans (wdb (φ:=φ) (g:=g) (gc:=none) h1)
theorem CameU.row_of {b:Nat} (h:waD (wbe φ φ' H' ρ none) H2 b):waD φ' H' b\/∃ s y,(∀ r x,waa H' r=some x->ρ r≠s)/\s ∉ gs/\waa σ.heap s=some y/\φ s=some b:=by
 obtain⟨s,y,h1,h2⟩:=h
 by_cases hex:∃ r x,waa H' r=some x/\ρ r=s
 ·obtain⟨r,x,hx,rfl⟩:=hex
  rw[wcn c.hb.inj hx]at h2
  exact .inl ⟨r,x,hx,h2⟩
 ·have hn:∀ r x,waa H' r=some x->ρ r≠s:=fun r x hx e=>hex ⟨r,x,hx,e⟩
  rw[wbn hn]at h2
  rw[c.hm.out s hn]at h1
  split at h1
  ·cases h1
  ·rename_i hg
   exact .inr ⟨s,y,hn,hg,h1,h2⟩
theorem CameU.own_old {b:Nat} (hlt:b < w.heap.size) (h:own (wbe φ φ' H' ρ none) H2 b):own φ σ.heap b:=by
 rcases h with h | h
 ·rcases c.row_of h with ⟨r,x,hx,hφ⟩ | ⟨s,y,_,_,hy,hφ⟩
  ·rcases c.hs.new r x b hx hφ with h | h
   ·exact wdc c.hh.h0 h
   ·exact absurd hlt (Nat.not_lt.2 h)
  ·exact .inl ⟨s,y,hy,hφ⟩
 ·exact .inr (by simpa [wbe]using h)
theorem CameU.own_new {b kk:Nat} (hX:¬ (hr.bc H g none).X b kk) (ho:¬ own φ' H' b):¬ own (wbe φ φ' H' ρ none) H2 b:=by
 rintro(h | h)
 ·rcases c.row_of h with h | ⟨s,y,hn,hg,hy,hφ⟩
  ·exact ho (.inl h)
  ·exact hX (.inr ⟨.inl ⟨s,y,hy,hφ⟩,c.out_own hn hg hy hφ⟩)
 ·have h:φ.T b:=by simpa [wbe]using h
  refine hX (.inr ⟨.inr h,?_⟩)
  rintro(h2 | h2)
  ·exact(hr.heap.far b h).2.2 (wd4 c.hh.h0 h2)
  ·simp[wbT]at h2
theorem CameU.lt1000 {s r0:Nat} {x0' y:Row} (hg:s ∉ gs) (hx0:waa H' r0=some x0') (he:ρ r0=s) (hy:waa σ.heap s=some y):r0 < 1000:=by
 rcases Nat.lt_or_ge r0 1000 with h | h
 ·exact h
 ·rcases (c.hb.new r0 x0' hx0 h).1 with h1 | h1
  ·rw[he,hy]at h1; cases h1
  ·exact absurd (he▸h1) hg
theorem CameU.ext:ExtU gs w B.X φ σ.heap w' (wbe φ φ' H' ρ none) H2:=by
 have hsz:=c.hs.keeps.size
 refine⟨fun r x hg hx=>?_,fun b kk h=>⟨Nat.lt_of_lt_of_le h.1 hsz,h.2.1,fun ho=>h.2.2 (c.own_old h.1 ho)⟩,fun b kk h=>⟨Nat.lt_of_lt_of_le h.1 hsz,fun ho=>h.2 (c.own_old h.1 ho)⟩,
  fun b kk h=>c.old h.1 (fun ho=>h.2 (wdc c.hh.h0 ho)),fun r x b hg hx hφ cs e f hcs=>?_⟩
 ·by_cases hex:∃ r0 x0,waa H' r0=some x0/\ρ r0=r
  ·obtain⟨r0,x0',hx0,rfl⟩:=hex
   have hp:=c.lt1000 hg hx0 rfl hx
   obtain⟨x0,h1,h2,h3,h4,h5⟩:=c.handed hx0 hp
   have h6:=c.hh.h0.row r0 x0 h1
   rw[<-h2,hx]at h6
   simp only[Option.some.injEq]at h6; subst h6
   refine⟨x0'.ren ρ,c.hm.inn r0 x0' hx0,h3,fun hk=>by simp only[Row.ren,wan]; exact h4 hk,?_⟩
   rw[wcn c.hb.inj hx0,h5,h2]
  ·have hn:∀ r0 x0,waa H' r0=some x0->ρ r0≠r:=fun r0 x0 h e=>hex ⟨r0,x0,h,e⟩
   exact⟨x,(c.hm.out r hn).trans (by rw[if_neg hg]; exact hx),rfl,fun _=>rfl,wbn hn⟩
 ·have hw':csz w' b=cs.size:=by unfold csz; rw[hcs]
  have hcsz:csz w b=csz w' b->∃ c0 e0 f0,w.heap[b]? = some (.cells c0 e0 f0)/\c0.size=cs.size:=fun hcz=>by
   obtain⟨o,h1,h2⟩:=(hr.heap.rows r x b hx hφ).some
   cases o with
   | cells c0 e0 f0=>exact⟨c0,e0,f0,h1,by rw[<-hw',<-hcz]; unfold csz; rw[h1]⟩
   | map es cl =>
    exfalso
    have hk0:x.k=0:=Nat.eq_zero_of_not_pos fun hk=>by
     obtain⟨_,_,_,h3,_⟩:=(hr.heap.rows r x b hx hφ).here hk
     rw[h1]at h3; cases h3
    by_cases hex:∃ r0 x0,waa H' r0=some x0/\ρ r0=r
    ·obtain⟨r0,x0',hx0,rfl⟩:=hex
     have hp:=c.lt1000 hg hx0 rfl hx
     obtain⟨x0,h4,h5,h6,_,h7⟩:=c.handed hx0 hp
     have h8:=c.hh.h0.row r0 x0 h4
     rw[<-h5,hx]at h8
     simp only[Option.some.injEq]at h8
     have h9:x0'.k=0:=by rw[h6,<-hk0,h8]; rfl
     obtain⟨_,_,h10,_⟩:=(c.hs.heap.rows r0 x0' b hx0 (by rw[h7,<-h5]; exact hφ)).map h9
     rw[hcs]at h10; cases h10
    ·have hn:∀ r0 x0,waa H' r0=some x0->ρ r0≠r:=fun r0 x0 h e=>hex ⟨r0,x0,h,e⟩
     have:=c.old (hr.heap.lt hx hφ) (c.out_own hn hg hx hφ)
     rw[hcs,h1]at this; cases this
   | _=>cases h2
  refine hcsz ?_
  by_cases hex:∃ r0 x0,waa H' r0=some x0/\ρ r0=r
  ·obtain⟨r0,x0',hx0,rfl⟩:=hex
   have hp:=c.lt1000 hg hx0 rfl hx
   obtain⟨x0,h1,h2,h3,h4,h5⟩:=c.handed hx0 hp
   exact(c.hs.psz r0 x0' b hx0 (by simp[pinned,hp]) (by rw[h5,<-h2]; exact hφ)).symm
  ·have hn:∀ r0 x0,waa H' r0=some x0->ρ r0≠r:=fun r0 x0 h e=>hex ⟨r0,x0,h,e⟩
   exact(wel (c.old (hr.heap.lt hx hφ) (c.out_own hn hg hx hφ))).symm
theorem CameU.okd {b kk:Nat} (h:okd w' (hr.bc H g none).X φ' H' b kk):okd w' B.X (wbe φ φ' H' ρ none) H2 b kk:=⟨h.1,fun hX=>h.2.1 (.inl hX),c.own_new h.2.1 h.2.2⟩
theorem CameU.val {v:Value} {p:PV} (hv:RepV w' (hr.bc H g none).X φ' H' v p):clean p->refsIn H' p->RepV w' B.X (wbe φ φ' H' ρ none) H2 v (p.ren ρ):=by
 have hd:∀ {v:Value} {x:PD},RepD w' (Pv.okd w' (hr.bc H g none).X φ' H') v x->RepD w' (Pv.okd w' B.X (wbe φ φ' H' ρ none) H2) v x:=fun h=>h.mono (fun b k hb=>c.okd hb) (fun _ _ _=>rfl)
 induction hv with
 | any v=>intro _ _; simp only[PV.ren]; exact .any v
 | d h=>intro _ _; simp only[PV.ren]; exact .d (hd h)
 | b h=>intro h0 _; simp[clean]at h0
 | @ptr r i off b x hx hφ hk=>intro _ _; simp only[PV.ren]; exact RepV.ptr (x:=x.ren ρ) (c.hm.inn _ _ hx) ((wcn c.hb.inj hx).trans hφ) hk
 | @mp r b x hx hφ hk=>intro _ _; simp only[PV.ren]; exact RepV.mp (x:=x.ren ρ) (c.hm.inn _ _ hx) ((wcn c.hb.inj hx).trans hφ) hk
 | dptr h hi=>intro _ _; simp only[PV.ren]; exact .dptr (hd h) hi
 | bptr h hi=>intro h0 _; simp[clean]at h0
 | glob n=>intro _ _; simp only[PV.ren]; exact .glob n
 | val hf=>intro _ _; simp only[PV.ren]; exact .val hf
 | @slc r lo n cap b x hx hφ hk hn hc hl hz=>intro _ _; simp only[PV.ren]; exact RepV.slc (x:=x.ren ρ) (c.hm.inn _ _ hx) ((wcn c.hb.inj hx).trans hφ) hk (by simpa [Row.ren,wan]using hn) hc (by simpa [Row.ren,wan]using hl) hz
 | @slc0 r x p hx hφ hk hp=>intro _ _; simp only[PV.ren]; exact RepV.slc0 (x:=x.ren ρ) (c.hm.inn _ _ hx) ((wcn c.hb.inj hx).trans hφ) hk hp
 | func hs _ ih =>
  intro h0 h1
  simp only[clean]at h0; simp only[refsIn]at h1
  simp only[PV.ren]
  refine .func (by rw[wan]; exact hs) (fun i hi=>?_)
  rw[wan]at hi
  rw[wcx _ _ i hi]
  exact ih i hi (wcA h0 i hi) (wbp h1 i hi)
 | agg hs _ hf ih =>
  intro h0 h1
  simp only[clean]at h0; simp only[refsIn]at h1
  simp only[PV.ren]
  refine .agg (by rw[wan]; exact hs) (fun i hi=>?_) (fun i hi=>hf i (by rw[wan]at hi; exact hi))
  rw[wan]at hi
  rw[wcx _ _ i hi]
  exact ih i hi (wcA h0 i hi) (wbp h1 i hi)
 | tuple hs _ ih =>
  intro h0 h1
  simp only[clean]at h0; simp only[refsIn]at h1
  simp only[PV.ren]
  refine .tuple (by rw[wan]; exact hs) (fun i hi=>?_)
  rw[wan]at hi
  rw[wcx _ _ i hi]
  exact ih i hi (wcA h0 i hi) (wbp h1 i hi)
omit c in
theorem Dfr.extU {m:Nat->Prop} {gs:List Nat} {w w':World} {X:Nat->Nat->Prop} {φ φ':Nm} {H H':wac} {ds:List Deferred} {ps:List PV} (h:Dfr m w X φ H ds ps) (he:ExtU gs w X φ H w' φ' H') (hg:∀ r∈rowsOfL ps,r ∉ gs):Dfr m w' X φ' H' ds ps:=by
 have:=h.map (f:=id) (fun D h=>⟨he.okd D 0 h,he.blk D 0 (wcz h)⟩) (fun p hp v hv=>hv.extU he fun r hr=>hg r (wpq hp hr))
 simpa using this
omit c in
theorem GlobOk.extU {gs:List Nat} {G:List (Nat×PD)} {X:Nat->Nat->Prop} {w w':World} {φ φ':Nm} {H H':wac} (h:ExtU gs w X φ H w' φ' H') (hg:GlobOk G w X φ H) (hlt:∀ g x,(g,x)∈G->¬ own φ' H' g):GlobOk G w' X φ' H':=by
 intro g x hm
 obtain⟨c,e,f,v,h1,h2,h3,h4,h5⟩:=hg g x hm
 have hlt':g < w.heap.size:=(Array.getElem?_eq_some_iff.1 h1).1
 refine⟨c,e,f,v,(h.blk g 0 ⟨hlt',h2⟩).trans h1,hlt g x hm,h3.mono h.okd (fun b k hb=>h.blk b k (wcz hb)),h4,h5⟩
theorem CameU.rep:Rep G B N { σ with heap:=H2 } a w' (wbe φ φ' H' ρ none):=by
 have he:=c.ext
 have hsz:=c.hs.keeps.size
 have hnewB:∀ b,own φ σ.heap b->B.o0 b\/B.w0.heap.size<=b:=fun b h=>h.elim (fun ⟨r,x,h1,h2⟩=>hr.new r x b h1 h2) (fun h=>hr.tnew b h)
 have hlt:∀ {s y b},waa σ.heap s=some y->φ s=some b->b < w.heap.size:=fun h1 h2=>hr.heap.lt h1 h2
 have hout:∀ {s y},waa H2 s=some y->(∀ r x,waa H' r=some x->ρ r≠s)->s ∉ gs/\waa σ.heap s=some y:=fun {s y} h hn=>by
  rw[c.hm.out s hn]at h
  split at h
  ·cases h
  ·rename_i hg; exact⟨hg,h⟩
 have hT0:(wbe φ φ' H' ρ none).T=φ.T:=by funext b; simp[wbe]
 refine⟨hr.size,fun t=>(hr.env t).extU he (fun r hr' hg=>c.hh.env r hg t hr'),⟨fun s y b hs hb=>?_,fun s y hs hb=>?_,fun s t y z b hs ht hb hb'=>?_,fun b hT=>?_⟩,⟨c.hs.keeps.os.trans hr.keeps.os,c.hs.keeps.tape.trans hr.keeps.tape,c.hs.keeps.output.trans hr.keeps.output,Nat.le_trans hr.keeps.size hsz,fun b hb ho=>?_⟩,
  fun s y b hs hb=>?_,fun s y hs hp=>?_,fun s y b hs hp hb=>?_,hr.glob.extU he (fun n x hm=>?_),fun b hT=>?_,?_,hr.dfr.extU he (fun r hr' hg=>c.hh.dfr r hg hr')⟩
 -- rows
 ·by_cases hex:∃ r x,waa H' r=some x/\ρ r=s
  ·obtain⟨r,x,hx,rfl⟩:=hex
   rw[wcn c.hb.inj hx]at hb
   have hs':=c.hm.inn r x hx
   rw[hs]at hs'; simp only[Option.some.injEq]at hs'; subst hs'
   refine(c.hs.heap.rows r x b hx hb).turn rfl rfl (by simp[Row.ren,wan]) (fun _ _ h=>h) (fun kk hX=>(c.hs.heap.rows r x b hx hb).free kk (.inl hX)) (fun i hi' _ v h4=>?_) fun z hz=>by simp only[Row.ren,wet]; exact hz.map fun p hp=>wmo ρ hp
   have:=c.val h4 (wcA (c.hb.refs r x hx).2 i hi') (wbp (c.hb.refs r x hx).1 i hi')
   simp only[Row.ren]
   rw[wcx _ _ i hi']
   exact this
  ·have hn:∀ r x,waa H' r=some x->ρ r≠s:=fun r x h e=>hex ⟨r,x,h,e⟩
   obtain⟨hg,hs⟩:=hout hs hn
   rw[wbn hn]at hb
   have hnH:∀ r x,waa H r=some x->g r≠s:=fun r x hx e=>by
    rcases Nat.lt_or_ge r 1000 with h | h
    ·obtain⟨x',hx'⟩:=c.hb.all r x hx h
     obtain⟨_,_,h2,_⟩:=c.hb.old r x' hx' h
     exact hn r x' hx' (h2.trans e)
    ·exact hg (e▸c.hh.giv r x hx h)
   exact(hr.heap.rows s y b hs hb).turn rfl rfl rfl (fun _ _ h=>(c.old (hlt hs hb) (c.out_own hn hg hs hb)).trans h) (hr.heap.rows s y b hs hb).free (fun i hi _ v hv=>hv.extU he fun r hr' hgr=>c.hh.out r hgr s y hs hnH (wdx hi hr')) fun _ h=>h
 ·by_cases hex:∃ r x,waa H' r=some x/\ρ r=s
  ·obtain⟨r,x,hx,rfl⟩:=hex
   rw[wcn c.hb.inj hx]at hb
   have hs':=c.hm.inn r x hx
   rw[hs]at hs'; simp only[Option.some.injEq]at hs'; subst hs'
   simp only[Row.ren,c.hs.heap.void r x hx hb,renL]
  ·have hn:∀ r x,waa H' r=some x->ρ r≠s:=fun r x h e=>hex ⟨r,x,h,e⟩
   rw[wbn hn]at hb
   exact hr.heap.void s y (hout hs hn).2 hb
 -- no two rows in one block
 ·have key:∀ {s t:Nat} {y z:Row},(∃ r x,waa H' r=some x/\ρ r=s)->(∀ r x,waa H' r=some x->ρ r≠t)->waa H2 t=some z->(wbe φ φ' H' ρ none) s=some b->(wbe φ φ' H' ρ none) t=some b->False:=by
   rintro s t y z ⟨r,x,hx,rfl⟩ hn ht h1 h2
   rw[wcn c.hb.inj hx]at h1
   rw[wbn hn]at h2
   obtain⟨hg,ht⟩:=hout ht hn
   rcases c.hs.new r x b hx h1 with h | h
   ·exact c.out_own hn hg ht h2 h
   ·exact absurd (hlt ht h2) (Nat.not_lt.2 h)
  by_cases h1:∃ r x,waa H' r=some x/\ρ r=s <;> by_cases h2:∃ r x,waa H' r=some x/\ρ r=t
  ·obtain⟨r,x,hx,rfl⟩:=h1
   obtain⟨r',x',hx',rfl⟩:=h2
   rw[wcn c.hb.inj hx]at hb
   rw[wcn c.hb.inj hx']at hb'
   rw[c.hs.heap.inj r r' x x' b hx hx' hb hb']
  ·exact(key (y:=y) h1 (fun r x h e=>h2 ⟨r,x,h,e⟩) ht hb hb').elim
  ·exact(key (y:=z) h2 (fun r x h e=>h1 ⟨r,x,h,e⟩) hs hb' hb).elim
  ·have hn1:∀ r x,waa H' r=some x->ρ r≠s:=fun r x h e=>h1 ⟨r,x,h,e⟩
   have hn2:∀ r x,waa H' r=some x->ρ r≠t:=fun r x h e=>h2 ⟨r,x,h,e⟩
   rw[wbn hn1]at hb
   rw[wbn hn2]at hb'
   exact hr.heap.inj s t y z b (hout hs hn1).2 (hout ht hn2).2 hb hb'
 -- what is somebody else's
 ·rw[hT0]at hT
  obtain⟨h1,h2,h3⟩:=hr.heap.far b hT
  refine⟨Nat.lt_of_lt_of_le h1 hsz,h2,fun h=>?_⟩
  rcases c.row_of h with ⟨r,x,hx,hφ⟩ | ⟨s,y,hn,_,hy,hφ⟩
  ·rcases c.hs.new r x b hx hφ with h | h
   ·rcases h with h | h
    ·exact h3 (wd4 c.hh.h0 h)
    ·simp[wbT]at h
   ·exact absurd h1 (Nat.not_lt.2 h)
  ·exact h3 ⟨s,y,hy,hφ⟩
 ·refine(c.old (Nat.lt_of_lt_of_le hb hr.keeps.size) (fun h=>?_)).trans (hr.keeps.block b hb ho)
  rcases hnewB b (wdc c.hh.h0 h)with h | h
  ·exact ho h
  ·omega
 -- new
 ·by_cases hex:∃ r x,waa H' r=some x/\ρ r=s
  ·obtain⟨r,x,hx,rfl⟩:=hex
   rw[wcn c.hb.inj hx]at hb
   rcases c.hs.new r x b hx hb with h | h
   ·exact hnewB b (wdc c.hh.h0 h)
   ·exact .inr (Nat.le_trans hr.keeps.size h)
  ·have hn:∀ r x,waa H' r=some x->ρ r≠s:=fun r x h e=>hex ⟨r,x,h,e⟩
   rw[wbn hn]at hb
   exact hr.new s y b (hout hs hn).2 hb
 ·by_cases hex:∃ r x,waa H' r=some x/\ρ r=s
  ·obtain⟨r,x,hx,rfl⟩:=hex
   rw[wcn c.hb.inj hx]
   rcases Nat.lt_or_ge r 1000 with h | h
   ·obtain⟨x0,h1,h2,_,_,h5⟩:=c.handed hx h
    rw[h5,h2]
    exact hr.pins _ _ (c.hh.h0.row r x0 h1) (h2▸hp)
   ·have:=(c.hb.new r x hx h).2
    simp only[pinned,decide_eq_true_eq]at hp; omega
  ·have hn:∀ r x,waa H' r=some x->ρ r≠s:=fun r x h e=>hex ⟨r,x,h,e⟩
   rw[wbn hn]
   exact hr.pins s y (hout hs hn).2 hp
 ·by_cases hex:∃ r x,waa H' r=some x/\ρ r=s
  ·obtain⟨r,x,hx,rfl⟩:=hex
   rw[wcn c.hb.inj hx]at hb
   rcases Nat.lt_or_ge r 1000 with h | h
   ·obtain⟨x0,h1,h2,_,_,h5⟩:=c.handed hx h
    exact(c.hs.psz r x b hx (by simp[pinned,h]) hb).trans (hr.psz _ _ b (c.hh.h0.row r x0 h1) (h2▸hp) (by rw[<-h5]; exact hb))
   ·have:=(c.hb.new r x hx h).2
    simp only[pinned,decide_eq_true_eq]at hp; omega
  ·have hn:∀ r x,waa H' r=some x->ρ r≠s:=fun r x h e=>hex ⟨r,x,h,e⟩
   obtain⟨hg,hs⟩:=hout hs hn
   rw[wbn hn]at hb
   exact(wel (c.old (hlt hs hb) (c.out_own hn hg hs hb))).trans (hr.psz s y b hs hp hb)
 ·obtain⟨cs,e,f,v,h1,h2,_⟩:=hr.glob n x hm
  exact fun ho=>h2 (c.own_old (Array.getElem?_eq_some_iff.1 h1).1 ho)
 ·exact hr.tnew b (hT0▸hT)
 -- the loop's body
 ·refine wdT (w:=w) (φ:=φ) (H:=σ.heap) hr.inv hT0 c.hs.keeps.os c.hs.keeps.tape c.hs.keeps.output hsz (fun b hlt hn=>c.old hlt fun ho=>?_) (fun b h=>?_)
  ·rcases ho with h | h
   ·exact hn (wd4 c.hh.h0 h)
   ·simp[wbT]at h
  ·rcases c.row_of h with ⟨r,x,hx,hφ⟩ | ⟨s,y,hn,_,hy,hφ⟩
   ·rcases c.hs.new r x b hx hφ with h | h
    ·rcases h with h | h
     ·exact .inl (wd4 c.hh.h0 h)
     ·simp[wbT]at h
    ·exact .inr h
   ·exact .inl ⟨s,y,hy,hφ⟩
end
section
variable {P:Program} {G:List (Nat×PD)} {ro:Option Nat} {B:Base P} {N:Nat} {σ τ:St} {a:Act} {w w':World} {φ φ':Nm} {H H' H2:wac} {g ρ:Nat->Nat} {gs:List Nat} {o:Oper} {K:St->Prop}
theorem OpT.callU {c:Call} {f:FuncId} {xo:Operand} {caps args:List PV} {Post:PV->wac->Prop} (ho:o.op=.call c) (hc:c.callee=.value xo) (hx:wcB (σ.eval xo)=some (f,caps)) (hcal:wbd P f=true)
  (hf:Fn P G f args H Post) (hh:HandU σ H g gs) (ha:wdq σ.heap H g (wau σ c.args.toList++caps) args) (hd:wao N o.dst)
  (hK:∀ p H',Post p H'->∃ ρ,BackU σ H H' g ρ gs/\clean p/\refsIn H' p/\K (({ σ with heap:=wbP ρ H' (wbA gs σ.heap) }:St).put o.dst (p.ren ρ))):OpT P G ro N o σ K:=by
 intro B hro a w φ hr next Q hn
 obtain⟨vs,hv1,hv2,hv3⟩:=wjM hx (hr.eval xo)
 obtain⟨h1,h2⟩:=whf ha
 obtain⟨h3,h4⟩:=wkY hr (ops:=c.args.toList) hv2 hv3
 have hcall:=hf (hr.bc H g none) (wbT φ H g none) (c.args.toList.map a.eval++vs.toList) rfl (h3.trans h1) (fun i hi=>wkX hr hh.h0 (h4 i (h1▸hi)) (h2 i (h1▸hi) hi)) (hr.hand hh.h0 (.inl rfl))
 have hrun:(o.semAt ro a.eval).run P w=.ok (.enter f (c.args.toList.map a.eval++vs.toList).toArray) w:=by
  rw[Oper.semAt_eq _ _ _ (fun c hc=>by rw[ho]at hc; cases hc)]
  have e1:(c.args.toList.map a.eval++vs.toList).toArray=c.args.map a.eval++vs:=by
   apply Array.toList_inj.1; simp
  have e2:(#[]++c.args.map a.eval++vs:Array Value)=c.args.map a.eval++vs:=by simp
  simp only[execOp,ho,resolve,hc,hv1,Deferred.ofValue,Sem.run_bind,Sem.run_pure,Result.andThen_ok,invoke,e1,e2]
  exact weD hcal _ w
 refine⟨fun _ _=>trivial,?_⟩
 show o.uponIn (Fw ro) 0 P a next Q ((o.semAt ro a.eval).run P w)
 rw[hrun]
 refine⟨fun h=>(by cases h),?_⟩
 refine CallsIn.mono (R:=fun e w'=>∃ v p H' g' φ',e=.returned v/\Post p H'/\RepV w' (hr.bc H g none).X φ' H' v p/\Sit G (hr.bc H g none) w' φ' H' g') hcall ?_
 rintro e w' ⟨v,p,H',g',φ',rfl,hP,h5,h6⟩
 obtain⟨ρ,hb,hcl,href,hKp⟩:=hK p H' hP
 have cm:CameU hr H H' (wbP ρ H' (wbA gs σ.heap)) g ρ gs g' w' φ':=⟨hh,hb,hb.merged,h6⟩
 exact hn _ _ _ _ hKp (cm.rep.put hd (cm.val h5 hcl href))
end
end Go.Pv

namespace Go.Pv
def ObjFn (P:Program) (G:List (Nat×PD)) (f:FuncId) (args:List PV) (H:wac) (res:PV) (H':wac):Prop:=Fn P G f args H fun p K=>p=res/\K=H'
@[go_sem] theorem mels_nil {α β:Type} (k:α->PD) (v:β->PD):waq k v []=[]:=rfl
@[go_sem] theorem mels_ren {α β:Type} (ρ:Nat->Nat) (k:α->PD) (v:β->PD) (L:List (α×β)):renL ρ (waq k v L)=waq k v L:=by
 induction L with
 | nil=>simp[waq,renL]
 | cons e l ih=>simp only[waq,List.map_cons,renL]at ih ⊢; rw[ih]; simp[wjZ,PV.ren,renL]
@[go_sem] theorem mels_clean {α β:Type} (k:α->PD) (v:β->PD) (L:List (α×β)):cleanL (waq k v L)=True:=by
 induction L with
 | nil=>simp[waq,cleanL]
 | cons e l ih=>simp only[waq,List.map_cons,cleanL]at ih ⊢; rw[ih]; simp[wjZ,clean,cleanL]
@[go_sem] theorem mels_rows {α β:Type} (k:α->PD) (v:β->PD) (L:List (α×β)):rowsOfL (waq k v L)=[]:=by
 induction L with
 | nil=>simp[waq,rowsOfL]
 | cons e l ih=>simp only[waq,List.map_cons,rowsOfL]at ih ⊢; rw[ih]; simp[wjZ,rowsOf,rowsOfL]
@[go_sem] theorem mels_kill {α β:Type} (r:Nat) (k:α->PD) (v:β->PD) (L:List (α×β)):killL r (waq k v L)=waq k v L:=by
 induction L with
 | nil=>simp[waq,killL]
 | cons e l ih=>simp only[waq,List.map_cons,killL]at ih ⊢; rw[ih]; simp[wjZ,PV.kill,killL]
@[go_sem] theorem mels_refs {α β:Type} (H:wac) (k:α->PD) (v:β->PD) (L:List (α×β)):refsInL H (waq k v L)=True:=by
 induction L with
 | nil=>simp[waq,refsInL]
 | cons e l ih=>simp only[waq,List.map_cons,refsInL]at ih ⊢; rw[ih]; simp[wjZ,refsIn,refsInL]
@[go_sem] theorem mels_length {α β:Type} (k:α->PD) (v:β->PD) (L:List (α×β)):(waq k v L).length=L.length:=by simp[waq]
def wdk (b:Bool) (r:Nat):PV:=match b with
 | true=>.ptr r 0 0
 | false=>.d .nilptr
def wlI (b:Bool) (r:Nat):List Nat:=match b with
 | true=>[r]
 | false=>[]
@[go_sem] theorem optP_ren (g:Nat->Nat) (b:Bool) (r:Nat):(wdk b r).ren g=wdk b (g r):=by cases b <;> simp[wdk,PV.ren]
@[go_sem] theorem optP_kill (q:Nat) (b:Bool) (r:Nat):(wdk b r).kill q=if r=q then (match b with | true=>.any | false=>.d .nilptr)else wdk b r:=by
 cases b <;> simp[wdk,PV.kill]
@[go_sem] theorem optP_clean (b:Bool) (r:Nat):clean (wdk b r)=True:=by cases b <;> simp[wdk,clean]
@[go_sem] theorem optP_refs {H:wac} {b:Bool} {r:Nat} (h:(waa H r).isSome=true):refsIn H (wdk b r)=True:=by cases b <;> simp[wdk,refsIn,h]
@[go_sem] theorem optP_rows (b:Bool) (r:Nat):rowsOf (wdk b r)=wlI b r:=by cases b <;> simp[wdk,rowsOf,wlI]
@[go_sem] theorem optP_cells (b:Bool) (r:Nat):way (wdk b r)=some [wdk b r]:=by cases b <;> rfl
@[go_sem] theorem optP_sb (b:Bool) (r:Nat):isByte (wdk b r)=false:=by cases b <;> rfl
theorem wl8 {b:Bool} {r q:Nat} {l:List PV} (h:(r == q)=false) (h2:(rowsOfL l).contains q=false):(rowsOfL [PV.agg (wdk b r::l)]).contains q=false:=by
 have e:rowsOfL [PV.agg (wdk b r::l)]=wlI b r++rowsOfL l:=by simp[rowsOfL,rowsOf,optP_rows]
 rw[e]
 have hne:r≠q:=by simpa using h
 have h2':q ∉ rowsOfL l:=by simpa using h2
 cases b <;> simp[wlI,h2',Ne.symm hne]
section
variable {P:Program} {G:List (Nat×PD)} {ro:Option Nat} {N:Nat} {ops:Array Oper} {σ τ σ':St} {o:Oper} {rest:List Oper}
theorem ObjFn.pf {f:FuncId} {fn:Func} {c:Code} {args:List PV} {H H':wac} {res:PV} {n:Nat} {e0:List (Nat×PV)} (hf:P.funcs[f]? = some fn) (hn:fn.ntmps=n)
  (h:AWp P G none n c ⟨e0,H,[],none⟩ (Fin P G fn fun p K=>p=res/\wc9 H' K)) (hb:fn.body=some c:=by rfl) (hN:args.length<=n:=by simp)
  (he:wcm 0 args=e0:=by(simp only[wcm,Nat.reduceAdd,Nat.zero_add]; rfl)) (hrf:refsIn H' res:=by first | exact trivial | exact rfl | (simp only[go_sem,↓reduceIte]; done))
  (hrh:wcw H' H':=by(repeat' (first | exact trivial | exact wfq _ _ | exact rfl | exact dyR rfl | exact dyS rfl | refine wa8 rfl ?_ | refine waJ ?_ | exact wbc (by repeat' (first | exact trivial | decide | apply And.intro)) | apply And.intro | (simp only[go_sem,↓reduceIte]; done)))):ObjFn P G f args H res H':=by
 subst hn he
 intro B φ vs h0 h1 h2 h3
 refine(Fn.intro hf hb hN h B φ vs h0 h1 h2 h3).mono ?_
 rintro e' w' ⟨v,p,K,g',φ',he,⟨rfl,hle⟩,hv,hs⟩
 exact⟨v,_,H',g',φ',he,⟨rfl,rfl⟩,hv.less (fun r x hx=>wbV hle r x hx) hrf,hs.less (fun r x hx=>wbV hle r x hx) (fun r x hx=>weC hrh r x hx)⟩
theorem rtO {fn:Func} {p res:PV} {H':wac} (hp:wiN P G fn.results.toList σ=some p:=by(simp only[go_sem,List.length_append,List.length_set,List.length_replicate,↓reduceIte]; rfl))
  (hd:σ.dfr=[]:=by first | exact True.intro | rfl) (hpr:p=res:=by first | rfl | (simp only[go_sem,wd7,wog,↓reduceIte]; done))
  (hle:wc9 H' σ.heap:=by(repeat' (first | exact trivial | exact rfl | exact dyR rfl | exact dyS rfl | refine wa8 rfl ?_ | refine waJ ?_ | exact wbc (by repeat' (first | exact trivial | decide | apply And.intro)) | (simp only[List.length_append,List.length_set,List.length_replicate,List.length_cons,List.length_nil,Nat.zero_add]; exact rfl) | apply And.intro))):Fin P G fn (fun p K=>p=res/\wc9 H' K) .ret σ:=⟨p,hp,hd,hpr,hle⟩
def weo (Hc:wac) (g:Nat->Nat) (H0:wac):wac->Prop
 | []=>True
 | (r,x)::l=>(waa Hc (g r)=some (x.ren g)/\refsInL H0 x.els)/\weo Hc g H0 l
def wiT (g:Nat->Nat) (gs:List Nat):wac->Prop
 | []=>True
 | (r,_)::l=>(if r < 1000 then gs.contains (g r)=false else gs.contains (g r)=true)/\wiT g gs l
def wmu (g:Nat->Nat) (H:wac):List Nat->Prop
 | []=>True
 | s::l=>((H.any fun x=>g x.1 == s)=true/\1000<=s)/\wmu g H l
def wg1 (gs:List Nat):List (Nat×PV)->Prop
 | []=>True
 | (_,v)::l=>((rowsOf v).any fun r=>gs.contains r)=false/\wg1 gs l
def wfX (g:Nat->Nat) (H:wac) (gs:List Nat):wac->Prop
 | []=>True
 | (s,x)::l=>((H.any fun y=>g y.1 == s)=true\/((rowsOfL x.els).any fun r=>gs.contains r)=false)/\wfX g H gs l
def wfI (H:wac) (g:Nat->Nat) (gs:List Nat) (H0:wac):wac->Prop
 | []=>True
 | (r,x)::l=>((if r < 1000 then match waa H r with
   | some y=>x.k=y.k/\(x.k=0\/x.els.length=y.els.length)
   | none=>False
  else gs.contains (g r)=true/\1000<=g r)/\refsInL H0 x.els/\cleanL x.els)/\wfI H g gs H0 l
theorem wdU {Hc:wac} {g:Nat->Nat} {H0:wac}:∀ {l:wac},weo Hc g H0 l->∀ r x,waa l r=some x->waa Hc (g r)=some (x.ren g)/\refsInL H0 x.els
 | [],_,r,x,h=>by simp[waa]at h
 | (s,y)::l,h,r,x,hx=>by
  simp only[waa]at hx
  split at hx
  ·rename_i e; subst e; cases hx; exact h.1
  ·exact wdU h.2 r x hx
theorem wfY {g:Nat->Nat} {gs:List Nat}:∀ {l:wac},wiT g gs l->∀ r x,waa l r=some x->if r < 1000 then g r ∉ gs else g r∈gs
 | [],_,r,x,h=>by simp[waa]at h
 | (s,y)::l,h,r,x,hx=>by
  simp only[waa]at hx
  split at hx
  ·rename_i e; subst e
   have:=h.1
   split at this <;> rename_i hlt
   ·rw[if_pos hlt]; simpa using this
   ·rw[if_neg hlt]; simpa using this
  ·exact wfY h.2 r x hx
theorem whj {g:Nat->Nat} {s:Nat}:∀ {H:wac},(H.any fun x=>g x.1 == s)=true->∃ r x,waa H r=some x/\g r=s
 | [],h=>by simp at h
 | (r,x)::l,h=>by
  by_cases hr:g r=s
  ·exact⟨r,x,by simp[waa],hr⟩
  ·have:(l.any fun x=>g x.1 == s)=true:=by simpa [hr]using h
   obtain⟨r',x',h1,h2⟩:=whj this
   have hne:r≠r':=fun e=>hr (e▸h2)
   exact⟨r',x',by simp only[waa,if_neg hne]; exact h1,h2⟩
theorem wfZ {g:Nat->Nat} {H:wac}:∀ {l:List Nat},wmu g H l->∀ s∈l,(∃ r x,waa H r=some x/\g r=s)/\1000<=s
 | s0::l,h,s,hs=>by
  rcases List.mem_cons.1 hs with rfl | hs
  ·exact⟨whj h.1.1,h.1.2⟩
  ·exact wfZ h.2 s hs
theorem whY {gs l:List Nat} (h:(l.any fun r=>gs.contains r)=false):∀ s∈gs,s ∉ l:=fun s hs hl=>by
 have:(l.any fun r=>gs.contains r)=true:=List.any_eq_true.2 ⟨s,hl,by simpa using hs⟩
 rw[h]at this; cases this
theorem whk {gs:List Nat}:∀ {e:List (Nat×PV)},wg1 gs e->∀ s∈gs,∀ t,s ∉ rowsOf (wam e t)
 | [],_,s,_,t=>by simp[wam,rowsOf]
 | (u,v)::l,h,s,hs,t=>by
  simp only[wam]
  split
  ·exact whY h.1 s hs
  ·exact whk h.2 s hs t
theorem wgy {g:Nat->Nat} {H:wac} {gs:List Nat}:∀ {l:wac},wfX g H gs l->∀ s∈gs,∀ t y,waa l t=some y->(∀ r x,waa H r=some x->g r≠t)->s ∉ rowsOfL y.els
 | [],_,s,_,t,y,h,_=>by simp[waa]at h
 | (u,v)::l,h,s,hs,t,y,hy,hn=>by
  simp only[waa]at hy
  split at hy
  ·rename_i e; subst e; cases hy
   rcases h.1 with h1 | h1
   ·obtain⟨r,x,h2,h3⟩:=whj h1
    exact absurd h3 (hn r x h2)
   ·exact whY h1 s hs
  ·exact wgy h.2 s hs t y hy hn
theorem wdz {H : wac} {g : Nat → Nat} {gs : List Nat} {H0 : wac} : ∀ {l : wac}, wfI H g gs H0 l → ∀ r x, waa l r = some x → (if r < 1000 then match waa H r with
      | some y=>x.k=y.k/\(x.k=0\/x.els.length=y.els.length)
      | none=>False
    else gs.contains (g r)=true/\1000<=g r)/\refsInL H0 x.els/\cleanL x.els
  | [],_,r,x,h=>by simp[waa]at h
  | (s,y)::l,h,r,x,hx=>by
    simp only[waa]at hx
    split at hx
    · rename_i e; subst e; cases hx; exact h.1
    · exact wdz h.2 r x hx
theorem clU {f:FuncId} {c:Call} {xo:Operand} {caps args:List PV} {res:PV} {H H':wac} {Q:St->Prop} (gl:List (Nat×Nat)) (gs:List Nat) (hf:ObjFn P G f args H res H') (h2:AOps P G ro N ops rest σ' Q)
  (hd:wao N o.dst:=by(simp only[go_sem,↓reduceIte]; done)) (hg:∀ {K:St->Prop},OpT P G ro N o σ K->wfh P G ro N (wbq ops) o σ K:=by(intro K k; simp(disch:=omega) only[go_sem,↓reduceIte]; exact k))
  (ho:o.op=.call c:=by rfl) (hc:c.callee=.value xo:=by rfl) (hx:wcB (σ.eval xo)=some (f,caps):=by rfl) (hcal:wbd P f=true:=by kernel_rfl)
  (hrow:weo σ.heap (war gl) H H:=by(simp only[weo,Row.ren,go_sem,↓reduceIte]; (repeat' (first | exact trivial | exact rfl | exact dyR rfl | exact dyS rfl | refine wa8 rfl ?_ | refine waJ ?_ | exact wbc (by repeat' (first | exact trivial | decide | apply And.intro)) | (simp only[List.length_append,List.length_set,List.length_replicate,List.length_cons,List.length_nil,Nat.zero_add]; exact rfl) | apply And.intro))))
  (hinj:wd5 (war gl) H:=by(simp only[wd5,wfp,go_sem,↓reduceIte]; (repeat' (first | exact trivial | (intro h; cases h; done) | apply And.intro))))
  (hgs:wiT (war gl) gs H:=by(simp only[wiT,go_sem,↓reduceIte]; (repeat' (first | exact trivial | exact rfl | exact dyR rfl | exact dyS rfl | refine wa8 rfl ?_ | refine waJ ?_ | exact wbc (by repeat' (first | exact trivial | decide | apply And.intro)) | apply And.intro))))
  (him:wmu (war gl) H gs:=by(repeat' (first | exact trivial | exact rfl | exact dyR rfl | exact dyS rfl | refine wa8 rfl ?_ | refine waJ ?_ | exact wbc (by repeat' (first | exact trivial | decide | apply And.intro)) | decide | apply And.intro)))
  (henv:wg1 gs σ.env:=by(repeat' (first | exact trivial | exact rfl | exact dyR rfl | exact dyS rfl | refine wa8 rfl ?_ | refine waJ ?_ | exact wbc (by repeat' (first | exact trivial | decide | apply And.intro)) | apply And.intro)))
  (hdfr:((rowsOfL σ.dfr).any fun r=>gs.contains r)=false:=by rfl)
  (hout:wfX (war gl) H gs σ.heap:=by(repeat' (first | exact trivial | exact .inl rfl | exact .inr rfl | exact .inr (by simp only[go_sem,List.any_nil]) | apply And.intro)))
  (ha:wdq σ.heap H (war gl) (wau σ c.args.toList++caps) args:=by(repeat' (first | exact trivial | exact rfl | exact dyR rfl | exact dyS rfl | refine wa8 rfl ?_ | refine waJ ?_ | exact wbc (by repeat' (first | exact trivial | decide | apply And.intro)) | apply And.intro | (simp only[go_sem,↓reduceIte]; done))))
  (hback:wfI H (war gl) gs H' H':=by(simp only[wfI,go_sem,↓reduceIte]; (repeat' (first | exact trivial | exact rfl | exact dyR rfl | exact dyS rfl | refine wa8 rfl ?_ | refine waJ ?_ | exact wbc (by repeat' (first | exact trivial | decide | apply And.intro)) | exact .inl trivial | exact .inl rfl | exact .inr rfl | decide | apply And.intro))))
  (hall:whg H' H:=by(repeat' (first | exact trivial | exact rfl | exact dyR rfl | exact dyS rfl | refine wa8 rfl ?_ | refine waJ ?_ | exact wbc (by repeat' (first | exact trivial | decide | apply And.intro)) | apply And.intro)))
  (hinj2:wd5 (war gl) H':=by(simp only[wd5,wfp,go_sem,↓reduceIte]; (repeat' (first | exact trivial | (intro h; cases h; done) | apply And.intro))))
  (hp:({ σ with heap:=wbP (war gl) H' (wbA gs σ.heap) }:St).put o.dst (res.ren (war gl))=σ':=by(simp only[wbA,Row.ren,go_sem,↓reduceIte]; rfl))
  (hcl:clean res:=by(simp only[clean,cleanL,and_self]; done)) (hrf:refsIn H' res:=by(first | exact trivial | exact rfl | exact dyR rfl | exact dyS rfl | refine wa8 rfl ?_ | refine waJ ?_ | exact wbc (by repeat' (first | exact trivial | decide | apply And.intro)) | (simp only[go_sem,↓reduceIte]; done))) :
  AOps P G ro N ops (o::rest) σ Q:=by
 refine AOps.consC hd fun K hK=>hg ?_
 refine OpT.callU (H:=H) (g:=war gl) (gs:=gs) ho hc hx hcal hf ⟨⟨fun r x h=>(wdU hrow r x h).1,fun r s x y h h'=>wd6 hinj r s x y (waK h) (waK h'),fun r x h=>(wdU hrow r x h).2⟩,fun r x h hr=>?_,fun r x h hr=>?_,fun s hs=>(wfZ him s hs).1,fun s hs=>(wfZ him s hs).2,whk henv,whY hdfr,wgy hout⟩ ha hd ?_
 ·have:=wfY hgs r x h
  rw[if_neg (by omega)]at this; exact this
 ·have:=wfY hgs r x h
  rw[if_pos hr]at this; exact this
 ·rintro p K' ⟨rfl,rfl⟩
  refine⟨war gl,⟨fun r x h hr=>?_,fun r x h _=>Option.isSome_iff_exists.1 (wge hall r x (waK h)),fun r x h hr=>?_,fun r s x y h h'=>wd6 hinj2 r s x y (waK h) (waK h'),fun r x h=>(wdz hback r x h).2⟩,hcl,hrf,hp▸hK _ h2⟩
  ·have:=(wdz hback r x h).1
   rw[if_pos hr]at this
   split at this
   ·rename_i y hy; exact⟨y,hy,rfl,this.1,fun hk=>this.2.resolve_left (by have:=this.1; omega)⟩
   ·exact this.elim
  ·have:=(wdz hback r x h).1
   rw[if_neg (by omega)]at this
   exact⟨.inr (by simpa using this.1),this.2⟩
theorem FnG.nilAt {P:Program} {G:List (Nat×PD)} {f:FuncId} {args:List PV} {H:wac} {g:Gh} {R:PV->wac->Gh->Prop} (i:Nat) {k:Nat} (h:FnG P G f args H g R) (hi:args[i]? = some (.d (.imm k []))):FnG P G f (args.set i (.d .nilslice)) H g R:=by
 intro B φ vs h0 h1 h2 h3
 have hl:args.length=(args.set i (.d .nilslice)).length:=by simp
 refine h B φ vs h0 (h1.trans hl.symm) (fun j hj=>?_) h3
 have h4:=h2 j (by omega)
 by_cases hij:i=j
 ·subst hij
  obtain⟨_,e⟩:=List.getElem?_eq_some_iff.1 hi
  rw[e]
  rw[List.getElem_set_self]at h4
  exact h4.le (wpn (f:=PD.bool) k)
 ·rw[List.getElem_set_ne hij]at h4; exact h4
theorem PureFn.nilAt {P:Program} {G:List (Nat×PD)} {f:FuncId} {args:List PV} {res:PV} (i:Nat) {k:Nat} (h:PureFn P G f args res) (hi:args[i]? = some (.d (.imm k []))):PureFn P G f (args.set i (.d .nilslice)) res:=FnG.nilAt i h hi
theorem ObjFn.nilAt {P:Program} {G:List (Nat×PD)} {f:FuncId} {args:List PV} {H H':wac} {res:PV} (i:Nat) {k:Nat} (h:ObjFn P G f args H res H') (hi:args[i]? = some (.d (.imm k []))):ObjFn P G f (args.set i (.d .nilslice)) H res H':=FnG.nilAt i h hi
theorem RowFn.pure {P:Program} {G:List (Nat×PD)} {f:FuncId} {args:List PV} {e k:Nat} {l:List PD} (h:RowFn P G f args e k l):PureFn P G f args (.d (.imm k l)):=by
 intro B φ vs h0 h1 h2 h3
 refine(h B φ vs h0 h1 h2 h3).mono ?_
 rintro e' w' ⟨v,p,H',g',φ',he,⟨rfl,rfl⟩,hv,hs⟩
 have hf:frzT [(1000,{ e,k,els:=dl l })] (.slc 1000 0 l.length)=some (.d (.imm k l)):=by
  simp only[frzT,frz,waa,↓reduceIte,dl_allD,Option.map_some,List.drop_zero,List.take_length]
 exact⟨v,_,[],g',φ',he,⟨rfl,rfl⟩,wlx hs.heap hv hf,hs.drop⟩
theorem omk {α β:Type} (encK:α->PD) (encV:β->PD) (r0:Nat) {t:TypeId} {Q:St->Prop} (h2:AOps P G ro N ops rest σ' Q)
  (hd:wao N o.dst:=by(simp only[go_sem,↓reduceIte]; done)) (hg:∀ {K:St->Prop},OpT P G ro N o σ K->wfh P G ro N (wbq ops) o σ K:=by(intro K k; simp(disch:=omega) only[go_sem,↓reduceIte]; exact k))
  (ho:o.op=.makeMap t none:=by rfl) (hr0:waa σ.heap r0=none:=by first | rfl | exact dyR rfl) (hp0:1000<=r0:=by decide)
  (hp:({ σ with heap:=wal σ.heap r0 ⟨t,0,waq encK encV ([]:List (α×β))⟩ }:St).put o.dst (.mp r0)=σ':=by(simp only[go_sem,↓reduceIte]; rfl)):AOps P G ro N ops (o::rest) σ Q :=
 AOps.consC hd fun _ hK=>hg (OpT.makeMap ho hd hr0 hp0 (hp▸hK _ h2))
theorem oml {α β:Type} [DecidableEq α] {kt et t:TypeId} {x ix:Operand} {cok:Bool} {r e:Nat} {L:List (α×β)} {k:α} {v0:β} {encK:α->PD} {valK:α->Value} {encV:β->PD} {y:Ty} {z:Value} {Q:St->Prop} (hK:KeyEnc P kt encK valK) (ht:P.underlying t=some (.map kt et))
  (hy:wad P et=some y) (hz:y.zero=some z) (hzv:∀ (w:World) (ok:Nat->Nat->Prop),RepD w ok z (encV v0)) (h2:AOps P G ro N ops rest σ' Q)
  (hd:wao N o.dst:=by(simp only[go_sem,↓reduceIte]; done)) (hg:∀ {K:St->Prop},OpT P G ro N o σ K->wfh P G ro N (wbq ops) o σ K:=by(intro K k; simp(disch:=omega) only[go_sem,↓reduceIte]; exact k))
  (ho:o.op=.lookup t x ix cok:=by rfl) (hx:σ.eval x=.mp r:=by rfl) (hrow:waa σ.heap r=some ⟨e,0,waq encK encV L⟩:=by first | rfl | exact dyR rfl) (hi:σ.eval ix=.d (encK k):=by rfl)
  (hp:σ.put o.dst (if cok then .tuple [.d (encV ((waQ k L).getD v0)),.d (.bool (waQ k L).isSome)]else .d (encV ((waQ k L).getD v0)))=σ':=by(simp only[go_sem,↓reduceIte]; rfl)):AOps P G ro N ops (o::rest) σ Q :=
 AOps.consC hd fun _ hq=>hg (OpT.lookup hK ho ht hx hrow hi hy hz hzv hd (hp▸hq _ h2))
theorem oms {α β:Type} [DecidableEq α] {kt et t:TypeId} {m ix x:Operand} {r e:Nat} {L:List (α×β)} {k:α} {v:β} {encK:α->PD} {valK:α->Value} {encV:β->PD} {Q:St->Prop} (hK:KeyEnc P kt encK valK) (ht:P.underlying t=some (.map kt et)) (h2:AOps P G ro N ops rest σ' Q)
  (hd:wao N o.dst:=by(simp only[go_sem,↓reduceIte]; done)) (hg:∀ {K:St->Prop},OpT P G ro N o σ K->wfh P G ro N (wbq ops) o σ K:=by(intro K k; simp(disch:=omega) only[go_sem,↓reduceIte]; exact k))
  (ho:o.op=.mapUpdate t m ix x\/o.op=.insert t m ix x:=by first | exact .inl rfl | exact .inr rfl) (hx:σ.eval m=.mp r:=by rfl) (hrow:waa σ.heap r=some ⟨e,0,waq encK encV L⟩:=by first | rfl | exact dyR rfl) (hi:σ.eval ix=.d (encK k):=by rfl) (hv:σ.eval x=.d (encV v):=by rfl)
  (hp:({ σ with heap:=wal σ.heap r ⟨e,0,waq encK encV (wc5 k v L)⟩ }:St).put o.dst .any=σ':=by(simp only[go_sem,↓reduceIte]; rfl)):AOps P G ro N ops (o::rest) σ Q :=
 AOps.consC hd fun _ hq=>hg (OpT.mapSet hK ho ht hx hrow hi hv hd (hp▸hq _ h2))
theorem sdX {id:Nat} {l:List Oper} {y:Code} {Q:Post} (hm:P.follows .mixedOrders=true) (xs:Exc) (h:∀ K:St->Prop,(∀ σ,AWp P G ro N y σ Q->K σ)->DOps P G ro N xs l.toArray K l [] σ)
  (hxs:exIni σ xs:=by(repeat' (first | exact trivial | exact .inl rfl | apply And.intro | refine .inr ⟨?_,?_⟩ | exact .inr rfl | refine wm5 ?_ | exact .inr (wm4 _ _ _) | exact .inr (woj (by decide)) | exact .inr (wjg (by decide) rfl) | exact .inr (wl8 rfl rfl) | exact .inr (by simp only[go_sem,rowsOf,rowsOfL,dl_rows,List.contains_nil,List.append_nil,List.nil_append]; done)))) :
  AWp P G ro N (.seq (.region id l.toArray true) y) σ Q :=
 AWp.seq fun K hK=>AWp.drawX hm xs hxs (h K hK)
theorem drX {id:Nat} {l:List Oper} {Q:Post} (hm:P.follows .mixedOrders=true) (xs:Exc) (h:DOps P G ro N xs l.toArray (Q .normal) l [] σ)
  (hxs:exIni σ xs:=by(repeat' (first | exact trivial | exact .inl rfl | apply And.intro | refine .inr ⟨?_,?_⟩ | exact .inr rfl | refine wm5 ?_ | exact .inr (wm4 _ _ _) | exact .inr (woj (by decide)) | exact .inr (wjg (by decide) rfl) | exact .inr (wl8 rfl rfl) | exact .inr (by simp only[go_sem,rowsOf,rowsOfL,dl_rows,List.contains_nil,List.append_nil,List.nil_append]; done)))) :
  AWp P G ro N (.region id l.toArray true) σ Q:=AWp.drawX hm xs hxs h
theorem wmv {xs:Exc} {acc:List Foot} {Q:St->Prop} {c:Call} {t e ts d r n:Nat} {xo:Operand} {z:Ty} {row:Row} (S:List Nat) (Sh:wac) (L:List PV) (hel:wbO P t=some (e,z))
  (h2:DOps P G ro N xs ops Q rest (acc++[some (.h r::(waM (wav o.op)++wcT σ (wav o.op)++(S.map .t++wcP Sh)),.t d::.h r::.t ts::wcP Sh)]) σ')
  (hg:o.guard=none:=by rfl) (ho:o.op=.call c:=by rfl) (hcb:c.callee=.builtin .append:=by rfl) (hct:c.argTypes=#[t,t]:=by rfl) (hca:c.args=#[.tmp ts,xo]:=by rfl) (hdst:o.dst=some d:=by rfl) (hd:d < N:=by decide)
  (hs:wam σ.env ts=.slc r 0 n:=by rfl) (hx:waa σ.heap r=some row:=by first | rfl | exact dyR rfl)
  (hz:waf z=true:=by(simp only[go_sem]; done)) (hL:whE z.size σ.heap (σ.eval xo)=some L:=by(simp only[go_sem,↓reduceIte]; try rfl)) (hn:row.els.length=n:=by first | (simp only[go_sem]; done) | rfl) (hre:row.e=e:=by rfl) (hrk:row.k=z.size:=by first | (simp only[go_sem]; done) | rfl) (hp0:1000<=r:=by decide)
  (h63:n+L.length<=9223372036854775807:=by(simp only[go_sem,List.length_nil,List.length_cons]; omega)) (hbytes:(n+L.length)*z.bytes<=140737488355328:=by(simp only[go_sem,List.length_nil,List.length_cons]; omega))
  (hS:wgY xs r S:=by(simp only[wgY,true_and,true_or,or_true,and_self]; done)) (hSs:S.contains ts=true:=by decide) (hSd:S.contains d=true:=by decide) (hne:d≠ts:=by decide)
  (hlead:wgZ σ.env r ts S:=by(repeat' (first | exact trivial | exact .inl rfl | exact .inr rfl | apply And.intro))) (hcod:wg0 Sh S:=by(repeat' (first | exact trivial | exact .inl (by decide) | exact .inr rfl | apply And.intro)))
  (hcel:wid σ.heap r Sh:=by(repeat' (first | exact trivial | exact rfl | exact dyR rfl | exact dyS rfl | refine wa8 rfl ?_ | refine waJ ?_ | exact wbc (by repeat' (first | exact trivial | decide | apply And.intro)) | decide | apply And.intro))) (hrm:r ∉ rowsOfL row.els:=by first | exact weN rfl | exact weN (dl_rows _) | exact wjY (by decide) | exact wiD (by decide) rfl | exact weN (by(simp only[go_sem]; done))) (hLm:r ∉ rowsOfL L:=by first | exact weN rfl | exact weN (dl_rows _) | exact weN (by(simp only[go_sem]; done))) (hdm:(rowsOfL σ.dfr).contains r=false:=by rfl)
  (hxe:exE xs ((.t d,.v (.slc r 0 (n+L.length)))::(.h r,.r (some { row with els:=row.els++L }))::(.t ts,.v .any)::wd1 r Sh):=by(simp(disch:=omega) only[go_sem,wd1,Nat.reduceAdd,true_or,or_true,and_self,true_and,↓reduceIte]; done))
  (hp:({ σ with env:=wdC (wdC σ.env ts .any) d (.slc r 0 (n+L.length)),heap:=wal (wgw r Sh σ.heap) r { row with els:=row.els++L } }:St)=σ':=by(simp only[go_sem,wgw,↓reduceIte]; rfl)):DOps P G ro N xs ops Q (o::rest) acc σ:=by
 obtain⟨f1,σ1,h3,h4,h5⟩:=OpX.appH (K:=fun f1 σ1=>f1=some (.h r::(waM (wav o.op)++wcT σ (wav o.op)++(S.map .t++wcP Sh)),.t d::.h r::.t ts::wcP Sh)/\σ1=σ') Sh ho hcb hct hca hdst hd hel hz hs hx hL hn hre hrk hp0 h63 hbytes hS hSs hSd hne hlead hcod hcel hrm hLm hdm hxe ⟨rfl,hp⟩
 rw[h4,h5]at h3
 exact .step (DStep.plain hg h3) h2
theorem wrg:∀ {p:PV},wdp p=true->isByte p=false
 | .d x,h=>by cases x <;> simp[wdp]at h <;> rfl
 | .any,_ | .b _,_ | .ptr ..,_ | .dptr ..,_ | .bptr ..,_ | .glob _,_ | .val _,_ | .slc ..,_ | .mp _,_ | .func ..,_ | .agg _,_ | .tuple _,_=>rfl
theorem Sub.voidCell (s i e k r:Nat) {x:Row} {p:PV} {cs:List PV} (hs:waa σ.heap s=some x) (hk1:1<=x.k) (hels:x.els=[p]) (hp:wdp p=true) (hcs:way p=some cs) (hi:cs[i]? = some (.d .nilslice)) (hr0:waa σ.heap r=none) (hr:1000<=r) (hk:1<=k) :
  Sub G N σ { env:=σ.env,heap:=wal (wal σ.heap s { x with els:=[.agg (cs.set i (.slc r 0 0))] }) r { e,k,els:=[] },dfr:=σ.dfr,gh:=σ.gh }:=by
 intro P B a w φ hrep
 have hsr:s≠r:=fun h=>by subst h; rw[hs]at hr0; cases hr0
 have hgetr:waa (wal (wal σ.heap s { x with els:=[.agg (cs.set i (.slc r 0 0))] }) r { e,k,els:=[] }) r=some { e,k,els:=[] }:=by rw[wai]; simp
 have hgets:waa (wal (wal σ.heap s { x with els:=[.agg (cs.set i (.slc r 0 0))] }) r { e,k,els:=[] }) s=some { x with els:=[.agg (cs.set i (.slc r 0 0))] }:=by
  rw[wai,if_neg (Ne.symm hsr),wai]; simp
 have hgeto:∀ t,t≠r->t≠s->waa (wal (wal σ.heap s { x with els:=[.agg (cs.set i (.slc r 0 0))] }) r { e,k,els:=[] }) t=waa σ.heap t:=fun t h1 h2=>by
  rw[wai,if_neg (Ne.symm h1),wai,if_neg (Ne.symm h2)]
 obtain⟨H2,hH2⟩:∃ H2,H2=wal (wal σ.heap s { x with els:=[.agg (cs.set i (.slc r 0 0))] }) r { e,k,els:=[] }:=⟨_,rfl⟩
 rw[<-hH2]at hgetr hgets hgeto ⊢
 have hback:∀ t y,t≠r->waa H2 t=some y->∃ y',waa σ.heap t=some y'/\y.k=y'.k/\y.e=y'.e/\y.els.length=y'.els.length:=fun t y h1 h=>by
  by_cases h2:t=s
  ·subst h2; rw[hgets]at h; cases h; exact⟨x,hs,rfl,rfl,by simp[hels]⟩
  ·rw[hgeto t h1 h2]at h; exact⟨y,h,rfl,rfl,rfl⟩
 have hrow:∀ b,waD (upd φ r none) H2 b->waD φ σ.heap b:=by
  rintro b ⟨t,y,h1,h2⟩
  by_cases ht:t=r
  ·subst ht; simp[upd]at h2
  ·simp only[upd,ht,if_false]at h2
   obtain⟨y',h3,_⟩:=hback t y ht h1
   exact⟨t,y',h3,h2⟩
 have hown:∀ b,own (upd φ r none) H2 b->own φ σ.heap b:=fun b h=>h.imp (hrow b) id
 have hext:Ext w B.X φ σ.heap w (upd φ r none) H2:=by
  refine⟨fun t y h=>?_,fun b kk h=>⟨h.1,h.2.1,fun ho=>h.2.2 (hown b ho)⟩,fun b kk h=>⟨h.1,fun ho=>h.2 (hown b ho)⟩,fun _ kk _=>rfl,fun t y b _ _ c e f hh=>⟨c,e,f,hh,rfl⟩⟩
  have htr:t≠r:=fun e=>by subst e; rw[hr0]at h; cases h
  by_cases ht:t=s
  ·subst ht; rw[hs]at h; cases h
   exact⟨_,hgets,rfl,fun _=>by simp[hels],by simp[upd,htr]⟩
  ·exact⟨y,(hgeto t htr ht).trans h,rfl,fun _=>rfl,by simp[upd,htr]⟩
 have hval:∀ v,RepV w B.X φ σ.heap v p->RepV w B.X (upd φ r none) H2 v (.agg (cs.set i (.slc r 0 0))):=fun v hv=>by
  obtain⟨vs,rfl⟩:=RepV.agg_of hp hv
  have h1:=wc8 hcs (hv.ext hext)
  have hil:i < cs.length:=(List.getElem?_eq_some_iff.1 hi).1
  have h2:RepV w B.X (upd φ r none) H2 (vs.getD i undef) (.slc r 0 0):=by
   have h3:=h1.rep i hil
   rw[(List.getElem?_eq_some_iff.1 hi).2]at h3
   have h4:=wei (waR h3)
   simp only[Value.cells]at h4
   rw[h4]
   exact .slc0 hgetr (by simp[upd]) hk (by simp)
  have h5:=h1.set i h2 (by have:=h1.flat i hil; simpa only[Value.cells]using this)
  have h6:(Value.agg vs).cells.setIfInBounds i (vs.getD i undef)=vs:=by
   apply Array.ext
   ·simp[Value.cells]
   ·intro j h1 h2
    by_cases hji:i=j
    ·subst hji; simp[Value.cells,Array.getD,h2]
    ·exact Array.getElem_setIfInBounds_ne h2 hji
  rw[h6]at h5
  exact .agg h5.size h5.rep h5.flat
 refine⟨upd φ r none,Rep.of_sit ⟨⟨fun t y b ht hb=>?_,fun t y ht hb=>?_,fun t u y z b ht hu hb hb'=>?_,fun b hT=>⟨(hrep.heap.far b hT).1,(hrep.heap.far b hT).2.1,fun h=>(hrep.heap.far b hT).2.2 (hrow b h)⟩⟩,hrep.keeps,fun t y b ht hb=>?_,fun t y ht hp'=>?_,fun t y b ht hp' hb=>?_,?_,hrep.tnew,wdT (w:=w) (φ:=φ) (H:=σ.heap) hrep.inv rfl rfl rfl rfl (Nat.le_refl _) (fun _ _ _=>rfl) (fun b hb=>.inl (hrow b hb))⟩ hrep.size (fun t=>(hrep.env t).ext hext) (hrep.dfr.ext hext)⟩
 ·have htr:t≠r:=fun e=>by subst e; simp[upd]at hb
  simp only[upd,htr,if_false]at hb
  by_cases h:t=s
  ·subst h; rw[hgets]at ht; cases ht
   refine(hrep.heap.rows t x b hs hb).turn rfl rfl (by simp[hels]) (fun _ _ h=>h) (hrep.heap.rows t x b hs hb).free (fun j hj hj' v hv=>?_) fun z hz=>by
    have hpb:isByte p=false:=wrg hp
    have:=hz.zero_of fun q hq=>by rw[hels]at hq; simp at hq; rw[hq]; exact hpb
    subst this; exact .zero _
   have hj0:j=0:=by simp[hels]at hj; exact hj
   subst hj0
   have e1:x.els[0]=p:=by simp[hels]
   rw[e1]at hv
   exact hval v hv
  ·rw[hgeto t htr h]at ht
   exact(hrep.heap.rows t y b ht hb).ext hext rfl
 ·by_cases htr:t=r
  ·subst htr; rw[hgetr]at ht; cases ht; rfl
  ·simp only[upd,htr,if_false]at hb
   obtain⟨y',h1,_,_,h4⟩:=hback t y htr ht
   have:=hrep.heap.void t y' h1 hb
   rw[this]at h4
   exact List.eq_nil_of_length_eq_zero h4
 ·have htr:t≠r:=fun e=>by subst e; simp[upd]at hb
  have hur:u≠r:=fun e=>by subst e; simp[upd]at hb'
  simp only[upd,htr,hur,if_false]at hb hb'
  obtain⟨y',h1,_⟩:=hback t y htr ht
  obtain⟨z',h2,_⟩:=hback u z hur hu
  exact hrep.heap.inj t u y' z' b h1 h2 hb hb'
 ·have htr:t≠r:=fun e=>by subst e; simp[upd]at hb
  simp only[upd,htr,if_false]at hb
  obtain⟨y',h1,_⟩:=hback t y htr ht
  exact hrep.new t y' b h1 hb
 ·have hlt:t < 1000:=by simpa [pinned]using hp'
  have htr:t≠r:=by omega
  simp only[upd,htr,if_false]
  obtain⟨y',h1,_⟩:=hback t y htr ht
  exact hrep.pins t y' h1 hp'
 ·have hlt:t < 1000:=by simpa [pinned]using hp'
  have htr:t≠r:=by omega
  simp only[upd,htr,if_false]at hb
  obtain⟨y',h1,_⟩:=hback t y htr ht
  exact hrep.psz t y' b h1 hp' hb
 ·exact hrep.glob.ext hext (fun g x hm=>by obtain⟨_,_,_,_,_,h2,_⟩:=hrep.glob g x hm; exact fun ho=>h2 (hown g ho))
end
attribute [go_sem] weo wiT wmu wg1 wfX wfI wbA wgw wcP wd1 wid wg0
end Go.Pv

namespace Go.Pv
open Go.Lib
def wbf (s:ByteArray):List Int:=s.data.toList.map fun b=>(b.toNat:Int)
theorem wdN (s:ByteArray):(wbf s).length=s.size:=by simp[wbf]
theorem wpr (s:ByteArray):(wbf s).map (Value.int .u8)=strCells s:=by simp[wbf,strCells]
section
variable {P:Program} {G:List (Nat×PD)} {ro:Option Nat} {N:Nat} {o:Oper} {σ:St} {K:St->Prop}
theorem wnQ (P:Program) (w:World) (t u ty e:TypeId) {y z:Ty} (ht:wad P t=some y) (hd:y.desc=.slice e) (hu:P.underlying u=some .string) (he:wad P e=some z) (hz:z.zero=some (.int .u8 0)) (hz1:z.size=1) (hz2:z.bytes=1)
    (v:Value) (b:Option Nat) (n:Nat) (old:List Value) (hold:old.length=n) (z0:Nat) (hz0:z0<=n)
    (hv:((∃ p0,v=.slice p0 0 0)/\b=none/\n=0)\/∃ g cap cur,v=.slice (some ⟨g,0,none⟩) n cap/\b=some g/\w.heap[g]? = some (.cells cur e (0,z0))/\n<=cap/\cap<=maxLen/\cur.size=cap*1/\cur.toList.take n=old)
    (s:ByteArray) (hm:1<=s.size) (h63:n+s.size<=maxLen) (hbytes:n+s.size<=140737488355328) :
    ∃ v' w',(Builtin.append_ #[t,u] ty #[v,.string s]).run P w=.ok v' w'/\Appended w w' e 1 b n s.size old (strCells s) v' z0:=by
  obtain⟨hue,it,hit,hs1,hs2,hs3⟩:=wbm he
  have hut:P.underlying t=some (.slice e):=by rw[(wbm ht).1,hd]
  have hs1':it.size=1:=hs1.trans hz1
  have hs2':it.bytes=1:=hs2.trans hz2
  have hsmall:n+s.size<=9223372036854775807:=by simp only[maxLen]at h63; omega
  have hlen:(old++strCells s).length=(n+s.size)*1:=by rw[List.length_append,hold,strCells_length,Nat.mul_one]
  have grown : ∀ (cp : Nat), cp < n + s.size → Appended w (w.drew.alloc (.cells (old.toArray ++ (strCells s).toArray ++ Builtin.zeroCells (Value.int .u8 0).cells (grownCap w (n + s.size) cp e - (n + s.size))) e)) e 1 b n s.size old (strCells s)
        (.slice (some ⟨w.heap.size,0,none⟩) (n+s.size) (grownCap w (n+s.size) cp e)) z0:=by
    intro cp ho
    have hge:=grownCap_ge w (n+s.size) cp e
    have hcm:grownCap w (n+s.size) cp e<=maxLen:=grownCap_le_maxLen w (n+s.size) cp e h63
    have hzs:(Value.int IntKind.u8 0).cells.size=1:=rfl
    refine⟨⟨w.heap.size,_,_,0,rfl,heap_alloc_new w.drew _,hge,hcm,?_,?_,.inr rfl,.inl rfl⟩,⟨rfl,rfl,rfl,by simp,fun x hx _=>heap_alloc_old w.drew _ hx⟩⟩
    · simp only[Array.size_append,List.size_toArray,size_zeroCells,hzs,hold,strCells_length]
      omega
    · intro q hq
      rw[<-hlen]at hq
      rw[Array.getElem?_append_left (by simpa using hq)]
      simp
  rcases hv with ⟨⟨p0,rfl⟩,rfl,rfl⟩ | ⟨g,cap,cur,rfl,rfl,hg,hnc,hcm,hcs,htake⟩
  · have hx:old=[]:=List.eq_nil_of_length_eq_zero hold
    subst hx
    cases p0 with
    | some a0 =>
      have hr:=run_append_grow_string (P:=P) w t u ty e it (.int .u8 0) hut hu hit (hs3.trans hz) a0 0 0 [] (by simp) (by simp) s (by omega) (by omega) (by rw[hs2']; exact growslice_fits (by omega) (by omega))
      exact⟨_,_,hr,grown 0 (by omega)⟩
    | none =>
      have hr:=run_append_nil_string (P:=P) w t u ty e it (.int .u8 0) hut hu hit (hs3.trans hz) s (by omega) (by omega) (by rw[hs2']; omega)
      have hgr:=grown 0 (by omega)
      have e1:(s.data.map fun b=>Value.int .u8 b.toNat)=(strCells s).toArray:=by
        apply Array.ext'
        simp[strCells]
      simp only[Nat.zero_add,Array.empty_append]at hgr ⊢
      rw[e1]at hr
      exact⟨_,_,hr,hgr⟩
  · by_cases hroom:n+s.size<=cap
    · have hcs':cur.size=cap:=by simpa using hcs
      have hr:=run_append_room_stringF (P:=P) w t u ty e it hut hu hit hs1' g n cap cur (0,z0) hg hz0 s hroom (by omega)
      refine⟨_,_,hr,⟨g,cap,_,z0,rfl,setRow_heap w g cur _ e _ hg,hroom,hcm,?_,?_,.inl ⟨rfl,size_setRow _ _ _⟩,.inr rfl⟩,⟨rfl,rfl,rfl,by simp,fun x _ hx=>setRow_other w g x _ (fun e=>hx (by rw[e]))⟩⟩
      · simp only[List.size_toArray,List.length_append,List.length_take,List.length_drop,Array.length_toList,strCells_length]
        omega
      · intro q hq
        rw[<-hlen]at hq
        rw[htake]
        simp only[List.getElem?_toArray]
        rw[List.getElem?_append_left hq]
    · have holds:∀ j u,old[j]? = some u->w.cell? ((⟨g,0,none⟩:Addr).add j)=some u:=fun j u hu=>by
        rw[wck,Nat.zero_add,cell_of_row w g j cur e (0,z0) hg]
        rw[<-htake,List.getElem?_take]at hu
        split at hu
        · simpa using hu
        · cases hu
      have hr:=run_append_grow_string (P:=P) w t u ty e it (.int .u8 0) hut hu hit (hs3.trans hz) ⟨g,0,none⟩ n cap old (by rw[hs1',Nat.mul_one]; exact hold) holds s (by omega) (by omega) (by rw[hs2']; exact growslice_fits (by omega) (by omega))
      exact⟨_,_,hr,grown cap (by omega)⟩
theorem OpT.appendStr {s x:Operand} {t u e:TypeId} {y z:Ty} {r n:Nat} {row:Row} {str:ByteArray} (ho:o.op=.call { callee:=.builtin .append,args:=#[s,x],argTypes:=#[t,u] })
    (ht:wad P t=some y) (hde:y.desc=.slice e) (hu:P.underlying u=some .string) (he:wad P e=some z) (hz:z.zero=some (.int .u8 0)) (hz1:z.size=1) (hz2:z.bytes=1)
    (hs:σ.eval s=.slc r 0 n) (hx:waa σ.heap r=some row) (hn:row.els.length=n) (hre:row.e=e) (hrk:row.k=1) (hp:1000<=r)
    (hsrc:σ.eval x=.d (.str str)) (hbytes:n+str.size<=140737488355328) (hd:wao N o.dst)
    (hK:K ((σ.grown r row (dl (wab (PD.int .u8) (wbf str)))).put o.dst (.slc r 0 (n+str.size)))):OpT P G ro N o σ K:=by
  intro B hro a w φ hr next Q hnx
  subst hn
  have hsv:=hr.eval s
  rw[hs]at hsv
  have hxv:=hr.eval x
  rw[hsrc]at hxv
  have hxv:=wgS hxv
  have hop:∀ v' w',(Builtin.append_ #[t,u] o.type #[a.eval s,a.eval x]).run P w=.ok v' w'->(o.semAt ro a.eval).run P w=.ok (.value v') w':=by
    intro v' w' h
    rw[Oper.semAt_eq _ _ _ (fun c hc=>by rw[ho]at hc; cases hc)]
    simp only[execOp,ho,resolve,invoke,builtin,Sem.run_bind,Sem.run_pure,Result.andThen_ok,List.map_toArray,List.map_cons,List.map_nil,h]
  have hLl:(dl (wab (PD.int .u8) (wbf str))).length=str.size:=by simp[dl,wab,wdN]
  obtain⟨hue,it,hit,hs1,hs2,hs3⟩:=wbm he
  have hut:P.underlying t=some (.slice e):=by rw[(wbm ht).1,hde]
  by_cases hm0:str.size=0
  · have hL0:wbf str=[]:=List.eq_nil_of_length_eq_zero (by rw[wdN]; exact hm0)
    obtain⟨h1,h2⟩:=hr.grown_nil hx
    have hrun:(Builtin.append_ #[t,u] o.type #[a.eval s,a.eval x]).run P w=.ok (a.eval s) w:=by
      have hc:∃ b cap,a.eval s=.slice b row.els.length cap/\row.els.length<=cap:=by
        rcases wd3 hsv with ⟨⟨p0,h1,_⟩,_,h2,_⟩ | ⟨_,_,cap,h1,_,_,_,h2,_⟩
        · exact⟨p0,0,by rw[h1,h2],by omega⟩
        · exact⟨_,cap,h1,h2⟩
      obtain⟨b,cap,hc1,hc2⟩:=hc
      rw[hc1,hxv]
      have hf:=run_firstCells_string (P:=P) w 1 str
      rw[hm0,strCells,show str.data.toList=[]from List.eq_nil_of_length_eq_zero hm0]at hf
      cases b <;> simp[Builtin.append_,run_underlying hut,run_underlying hu,sizeOf,typeInfo,hit,hs1,hz1,Builtin.lenOf,hm0,hf,storeCells,hc2]
    rw[hL0]at hK
    rw[hm0]at hK
    refine wa7 (hop _ _ hrun) (hnx _ _ _ φ hK (h1.put hd ?_))
    rcases wd3 hsv with ⟨⟨p0,h3,hp0⟩,_,h4,h5,_⟩ | ⟨x2,b,cap,h3,hx2,hb,hn,hc,hl,hzz⟩
    · rw[h3,h4]; exact .slc0 h2 h5 (by show 1<=row.k; omega) hp0
    · rw[hx]at hx2; simp only[Option.some.injEq]at hx2; subst hx2
      rw[h3]
      have:=RepV.slc (w:=w) (X:=B.X) (φ:=φ) (H:=(σ.grown r row []).heap) (x:={ row with els:=killL r row.els++killL r [] }) (lo:=0) (n:=row.els.length) (cap:=cap) (b:=b) h2 hb (by show 1<=row.k; omega) (by simp[wbN]) hc (by simpa [wbN,killL]using hl) hzz
      exact this
  · have hcore : ∃ old z0, headOk z0 row.els ∧ old.length = row.els.length ∧
        (((∃ p0,a.eval s=.slice p0 0 0)/\φ r=none/\row.els.length=0)\/∃ g cap cur,a.eval s=.slice (some ⟨g,0,none⟩) row.els.length cap/\φ r=some g/\w.heap[g]? = some (.cells cur e (0,z0))/\row.els.length<=cap/\cap<=maxLen/\cur.size=cap*1/\cur.toList.take row.els.length=old) ∧
        ∀ i (hi:i < row.els.length),∃ v,RepV w B.X φ σ.heap v row.els[i]/\v.cells.size=row.k/\∀ j,j < row.k->old[i*row.k+j]? = some (v.cells.getD j undef)/\flat (v.cells.getD j undef)=true:=by
      rcases wd3 hsv with ⟨⟨p0,h3,_⟩,_,h4,h5,_⟩ | ⟨x2,b,cap,h3,hx2,hb,hn,hc,hl,hzz⟩
      · exact⟨[],0,.zero _,by simp[h4],.inl ⟨⟨p0,h3⟩,h5,h4⟩,fun i hi=>by omega⟩
      · rw[hx]at hx2; simp only[Option.some.injEq]at hx2; subst hx2
        obtain⟨cur,C,zf,h1,h2,h3',hzf⟩:=(hr.heap.rows r row b hx hb).here (by omega)
        have hsz:=hzz _ _ _ h1
        rw[Nat.zero_add]at hsz hl
        have hCc:C=cap:=Nat.eq_of_mul_eq_mul_right (by omega) (h2.1.symm.trans hsz)
        rw[hrk,Nat.mul_one]at hsz
        refine⟨cur.toList.take row.els.length,zf,hzf,by simp; omega,.inr ⟨b,cap,cur,by rw[h3]; simp,hb,by rw[<-hre]; exact h1,hc,by omega,by omega,rfl⟩,fun i hi=>?_⟩
        obtain⟨v,h4,h5,h6⟩:=h3' i hi
        refine⟨v,h4,h5,fun j hj=>⟨?_,(h6 j hj).2⟩⟩
        have hj0:j=0:=by omega
        subst hj0
        rw[hrk,List.getElem?_take,if_pos (by omega)]
        simpa [hrk]using (h6 0 (by omega)).1
    obtain⟨old,z0,hzf,hol,hvv,hold⟩:=hcore
    obtain⟨v',w',hrun,happ⟩:=wnQ P w t u o.type e ht hde hu he hz hz1 hz2 (a.eval s) (φ r) row.els.length old hol z0 hzf.le hvv str (by omega) (by unfold maxLen; omega) hbytes
    rw[<-hxv]at hrun
    rw[<-hre,<-hrk]at happ
    obtain⟨φ',h1,h2⟩:=hr.grown hx (by omega) hp hLl.symm hzf happ hold (by rw[hrk,Nat.mul_one]; exact hol) (fun i hi=>by
      have hi':i < (wbf str).length:=by rw[wdN]; omega
      refine⟨.int .u8 (wbf str)[i],?_,by rw[hrk]; rfl,fun j hj=>?_⟩
      · have e2:(dl (wab (PD.int .u8) (wbf str)))[i]=.d (.int .u8 (wbf str)[i]):=by simp[dl,wab]
        rw[e2]; exact .d (.int _ _)
      · have hj0:j=0:=by omega
        subst hj0
        refine⟨?_,rfl⟩
        rw[<-wpr,hrk]
        simp[hi',Value.cells])
    exact wa7 (hop _ _ hrun) (hnx _ _ _ φ' hK (h1.put hd h2))
theorem wql {e:TypeId} (hc:P.cellsOf e≠0) (count:Nat) (hn:1<=count):liesAt P P.depth e count 0 e 1=true:=by
 have hd:P.depth=(2*(P.types.size+Made.depth)+1)+1:=rfl
 rw[hd]
 simp only[liesAt,Bool.or_eq_true]
 left
 rw[hd]
 simp[rowAt,hc,hn,sameLayout]
theorem OpT.neqSame {t t' te:TypeId} {x y:Operand} {r i off:Nat} {j:TypeInfo} (ho:o.op=.binOp .neq t x y t') (ht:P.underlying t=some (.pointer te)) (hj:P.info? te=some j) (hx:σ.eval x=.ptr r i off) (hy:σ.eval y=.ptr r i off) (hd:wao N o.dst)
  (hK:K (σ.put o.dst (.d (.bool false)))):OpT P G ro N o σ K:=by
 intro B hro a w φ hr next Q hnx
 have hv:=hr.eval x
 rw[hx]at hv
 have hv2:=hr.eval y
 rw[hy]at hv2
 obtain⟨ad,h1,h2⟩:∃ ad,a.eval x=.pointer (some ad)/\a.eval y=.pointer (some ad):=by
  generalize a.eval x=vx at hv
  generalize a.eval y=vy at hv2
  cases hv with | ptr h1 hb h2 =>
  cases hv2 with | ptr h3 hb2 h4 =>
  rw[h1]at h3; cases h3
  rw[hb]at hb2; cases hb2
  exact⟨_,rfl,rfl⟩
 have hg:(eqGuard .neq t x y (a.eval x) (a.eval y)).run P w=.ok () w:=wfl (.inl (by rw[h1]; simp)) (.inl (by rw[h1]; simp))
 have hop:(o.semAt ro a.eval).run P w=.ok (.value (.bool false)) w:=by
  rw[Oper.semAt_eq _ _ _ (fun c hc=>by rw[ho]at hc; cases hc)]
  simp only[execOp,ho]
  refine wb2 ?_
  rw[Sem.run_bind,hg]
  simp only[Result.andThen]
  rw[h1,h2]
  exact run_neq_ptr_same w ad ht hj
 exact wa7 hop (hnx _ _ _ φ hK (hr.put hd (.d (.bool false))))
theorem wol {B:Base P} {a:Act} {w:World} {φ:Nm} (hr:Rep G B N σ a w φ) {v:Value} {r:Nat} {row:Row} (hx:waa σ.heap r=some row) (h0:0 < row.els.length) (hv:RepV w B.X φ σ.heap v (.ptr r 0 0)) :
  ∃ b n,v=.pointer (some ⟨b,0,none⟩)/\1<=n/\1<=row.k/\w.shape? b=some (row.e,n*row.k):=by
 cases hv with | ptr h1 hb h2 =>
 rename_i b x
 rw[hx]at h1; cases h1
 obtain⟨c,C,z,h3,h4,_⟩:=(hr.heap.rows r row b hx hb).here h2
 exact⟨b,C,by simp,by omega,h2,by simp[World.shape?,h3,h4.1]⟩
theorem OpT.toUnsafe {src dst t:TypeId} {x:Operand} {r:Nat} {row:Row} {j:TypeInfo} (ho:o.op=.convert src dst x) (hs:P.underlying src=some (.pointer t)) (hd':P.underlying dst=some .unsafePointer) (hj:P.info? t=some j) (hj0:j.size≠0) (hx:σ.eval x=.ptr r 0 0) (hrow:waa σ.heap r=some row)
  (h0:0 < row.els.length) (hd:wao N o.dst) (hK:K (σ.put o.dst (.ptr r 0 0))):OpT P G ro N o σ K:=by
 intro B hro a w φ hr next Q hnx
 have hv:=hr.eval x
 rw[hx]at hv
 obtain⟨b,n,h1,h2,h3,h4⟩:=wol hr hrow h0 hv
 have hop:(o.semAt ro a.eval).run P w=.ok (.value (a.eval x)) w:=by
  rw[Oper.semAt_eq _ _ _ (fun c hc=>by rw[ho]at hc; cases hc)]
  simp only[execOp,ho]
  refine wb2 ?_
  rw[h1]
  exact run_to_unsafe w ⟨b,0,none⟩ hs hd' hj hj0 h4 (Nat.mul_pos (by omega) (by omega))
 exact wa7 hop (hnx _ _ _ φ hK (hr.put hd hv))
theorem OpT.fromUnsafe {src dst u:TypeId} {x:Operand} {r:Nat} {row:Row} {j:TypeInfo} (ho:o.op=.convert src dst x) (hs:P.underlying src=some .unsafePointer) (hd':P.underlying dst=some (.pointer u)) (hj:P.info? u=some j) (hx:σ.eval x=.ptr r 0 0) (hrow:waa σ.heap r=some row)
  (h0:0 < row.els.length) (hre:row.e=u) (hrk:row.k=P.cellsOf u) (hd:wao N o.dst) (hK:K (σ.put o.dst (.ptr r 0 0))):OpT P G ro N o σ K:=by
 intro B hro a w φ hr next Q hnx
 have hv:=hr.eval x
 rw[hx]at hv
 obtain⟨b,n,h1,h2,h3,h4⟩:=wol hr hrow h0 hv
 have hop:(o.semAt ro a.eval).run P w=.ok (.value (a.eval x)) w:=by
  rw[Oper.semAt_eq _ _ _ (fun c hc=>by rw[ho]at hc; cases hc)]
  simp only[execOp,ho]
  refine wb2 ?_
  rw[h1]
  refine run_from_unsafe w ⟨b,0,none⟩ hs hd' hj h4 ?_
  rw[hre,hrk,Nat.mul_div_cancel _ (by omega)]
  exact wql (by omega) n h2
 exact wa7 hop (hnx _ _ _ φ hK (hr.put hd hv))
theorem OpT.noEscape {c:Call} {f:FuncId} {x:Operand} (ho:o.op=.call c) (hc:c.callee=.value (.func f)) (hca:c.args=#[x])
  (hrun:∀ (w:World) (v:Value),(callFunc f #[v]).run P w=.ok (.value v) w) (hd:wao N o.dst) (hK:K (σ.put o.dst (σ.eval x))):OpT P G ro N o σ K:=by
 intro B hro a w φ hr next Q hnx
 have hop:(o.semAt ro a.eval).run P w=.ok (.value (a.eval x)) w:=by
  rw[Oper.semAt_eq _ _ _ (fun c hc=>by rw[ho]at hc; cases hc)]
  simp only[execOp,ho,hc,hca,resolve,invoke]
  simp[hrun,Act.eval,Deferred.ofValue]
 exact wa7 hop (hnx _ _ _ φ hK (hr.put hd (hr.eval x)))
theorem woQ (a b:ByteArray):wbf (a++b)=wbf a++wbf b:=by
 simp[wbf]
theorem OpT.sliceData {c:Call} {x:Operand} {r n:Nat} (ho:o.op=.call c) (hc:c.callee=.builtin .unsafeSliceData) (hca:c.args=#[x]) (hx:σ.eval x=.slc r 0 n) (hn:n≠0) (hd:wao N o.dst) (hK:K (σ.put o.dst (.ptr r 0 0))):OpT P G ro N o σ K:=by
 intro B hro a w φ hr next Q hnx
 have hv:=hr.eval x
 rw[hx]at hv
 rcases wd3 hv with ⟨_,_,h4,_⟩ | ⟨x2,b,cap,h3,hx2,hb,hle,hcp,hl,hzz⟩
 ·exact absurd h4 hn
 ·have hpos:=wfo hv hx2
  have hop:(o.semAt ro a.eval).run P w=.ok (.value (.pointer (some ⟨b,0*x2.k+0,none⟩))) w:=by
   rw[Oper.semAt_eq _ _ _ (fun c hc=>by rw[ho]at hc; cases hc)]
   simp only[execOp,ho,hc,hca,resolve,invoke,builtin,Sem.run_bind,Sem.run_pure,Result.andThen_ok,List.map_toArray,List.map_cons,List.map_nil,h3,run_unsafeSliceData_row (P:=P) w _ _ _ n cap (by omega),Nat.add_zero]
  exact wa7 hop (hnx _ _ _ φ hK (hr.put hd (.ptr hx2 hb hpos)))
theorem OpT.mkStr {c:Call} {x y:Operand} {pt it e r:Nat} {s:ByteArray} (ho:o.op=.call c) (hc:c.callee=.builtin .unsafeString) (hca:c.args=#[x,y]) (hct:c.argTypes=#[pt,it]) (hpt:P.underlying pt=some (.pointer e)) (hce:P.cellsOf e=1)
  (hx:σ.eval x=.ptr r 0 0) (hy:σ.eval y=.d (.int .i64 s.size)) (hrow:waa σ.heap r=some ⟨e,1,dl (wab (PD.int .u8) (wbf s))⟩) (hs0:s.size≠0) (hd:wao N o.dst) (hK:K (σ.put o.dst (.d (.str s)))):OpT P G ro N o σ K:=by
 intro B hro a w φ hr next Q hnx
 have hv:=hr.eval x
 rw[hx]at hv
 have hyv:=hr.eval y
 rw[hy]at hyv
 have hyv:=wcv hyv
 generalize hav:a.eval x=av at hv
 cases hv with | ptr h1 hb h2 =>
 rename_i b x2
 rw[hrow]at h1; cases h1
 obtain⟨cs,C,z,h3,h4,h5,h6⟩:=(hr.heap.rows r _ b hrow hb).here h2
 have hll:(dl (wab (PD.int .u8) (wbf s))).length=s.size:=by simp[dl,wab,wdN]
 have hsl:s.data.toList.length=s.size:=by simp
 dsimp only at h3 h4 h5 h6
 rw[hll]at h4
 have hcs:cs.size=C:=by rw[h4.1,Nat.mul_one]
 have hcell:∀ j x,s.data.toList[j]? = some x->w.cell? ((⟨b,0,none⟩:Addr).add j)=some (.int .u8 x.toNat):=fun j x hj=>by
  obtain⟨hj',hjx⟩:=List.getElem?_eq_some_iff.1 hj
  obtain⟨v,g1,g2,g3⟩:=h5 j (by rw[hll,<-hsl]; exact hj')
  have e1:(dl (wab (PD.int .u8) (wbf s)))[j]'(by rw[hll,<-hsl]; exact hj')=.d (.int .u8 (x.toNat:Int)):=by simp[dl,wab,wbf,<-hjx]
  rw[e1]at g1
  have e2:=wcv g1
  subst e2
  rw[wck,Nat.zero_add,cell_of_row w b j cs e (0,z) h3]
  have:=(g3 0 Nat.one_pos).1
  simpa [Value.cells]using this
 have hrun:=run_unsafeString_row (P:=P) w pt it o.type e hpt hce b cs.size (by simp[World.shape?,h3]) s.data.toList (fun h=>hs0 (by rw[<-hsl,h]; rfl)) (by rw[hsl,hcs]; exact h4.2.1) (by rw[hsl]; have:=h4.2.1; have:=h4.2.2; unfold maxLen at this; omega) hcell
 rw[hsl]at hrun
 have hop:(o.semAt ro a.eval).run P w=.ok (.value (.string s)) (w.freeze ⟨b,0,none⟩ s.size):=by
  rw[Oper.semAt_eq _ _ _ (fun c hc=>by rw[ho]at hc; cases hc)]
  have e3:(⟨s.data.toList.toArray⟩:ByteArray)=s:=by cases s; simp
  rw[e3]at hrun
  have e4:(⟨b,0*1+0,none⟩:Addr)=⟨b,0,none⟩:=rfl
  simp only[execOp,ho,hc,hca,hct,resolve,invoke,builtin,Sem.run_bind,Sem.run_pure,Result.andThen_ok,List.map_toArray,List.map_cons,List.map_nil,hav,hyv,e4,hrun]
 have hw':(w.freeze ⟨b,0,none⟩ s.size).heap[b]? = some (.cells cs e (0,s.size)):=by
  have hz:z<=s.size:=by have:=h6.le; rw[hll]at this; exact this
  simp only[World.freeze,hs0,if_false,Array.getElem?_modify,if_true,h3,Option.map_some,Option.some.injEq,Obj.cells.injEq,true_and]
  by_cases hz0:z=0
  ·subst hz0; simp
  ·rw[if_neg (by simpa using Ne.symm hz0)]
   simp; omega
 have hoth:∀ c,c≠b->(w.freeze ⟨b,0,none⟩ s.size).heap[c]? = w.heap[c]?:=fun c hc=>by
  simp[World.freeze,hs0,Array.getElem?_modify,Ne.symm hc]
 have hsz:(w.freeze ⟨b,0,none⟩ s.size).heap.size=w.heap.size:=by simp[World.freeze,hs0]
 have hrep:=hr.write (w':=w.freeze ⟨b,0,none⟩ s.size) hrow hb h2 (els:=dl (wab (PD.int .u8) (wbf s))) rfl h3 hw' (fun i hi=>by
  have hi':i < (wbf s).length:=by rw[wdN]; exact hi
  exact⟨.d (.int .u8 (wbf s)[i]),by simp[dl,wab,hi'],rfl⟩) rfl ⟨by simp[World.freeze,hs0],by simp[World.freeze,hs0],by simp[World.freeze,hs0],by rw[hsz]; exact Nat.le_refl _,fun c _ hc=>hoth c hc⟩ hsz h5
 have hself:wal σ.heap r { (⟨e,1,dl (wab (PD.int .u8) (wbf s))⟩:Row)with els:=dl (wab (PD.int .u8) (wbf s)) }=σ.heap:=wk5 hrow
 rw[hself]at hrep
 exact wa7 hop (hnx _ _ _ φ hK (hrep.put hd (.d (.str s))))
variable {xs:Exc}
theorem OpX.sliceData {K:Foot->St->Prop} {c:Call} {x:Operand} {r n:Nat} (ho:o.op=.call c) (hc:c.callee=.builtin .unsafeSliceData) (hca:c.args=#[x]) (hx:σ.eval x=.slc r 0 n) (hn:n≠0) (hd:wao N o.dst) (hxe:exE xs (waS o.dst (.ptr r 0 0)))
  (hK:K (some (waM (wav o.op),wa5 o.dst)) (σ.put o.dst (.ptr r 0 0))):OpX P G ro N xs o σ K:=by
 refine⟨some (waM (wav o.op),wa5 o.dst),σ.put o.dst (.ptr r 0 0),⟨waS o.dst (.ptr r 0 0),fun k hk=>by rw[wcF]at hk; exact hk,hxe,fun σ' hd' hs _=>?_,wbC _ _ _,St.put_rest _ _ _⟩,hK⟩
 have h1:=wcN (σ:=σ) (σ':=σ') (l:=wav o.op) fun k hk=>hs k hk
 have hmem:x∈wav o.op:=by rw[ho]; simp[wav,hca]
 exact OpT.sliceData ho hc hca ((h1 x hmem).trans hx) hn hd ⟨by rw[St.put_rest]; exact hd',wbC _ _ _⟩
theorem OpX.mkStr {K:Foot->St->Prop} {c:Call} {x y:Operand} {pt it e r:Nat} {s:ByteArray} (ho:o.op=.call c) (hc:c.callee=.builtin .unsafeString) (hca:c.args=#[x,y]) (hct:c.argTypes=#[pt,it]) (hpt:P.underlying pt=some (.pointer e)) (hce:P.cellsOf e=1)
  (hx:σ.eval x=.ptr r 0 0) (hy:σ.eval y=.d (.int .i64 s.size)) (hrow:waa σ.heap r=some ⟨e,1,dl (wab (PD.int .u8) (wbf s))⟩) (hs0:s.size≠0) (hd:wao N o.dst) (hxe:exE xs (waS o.dst (.d (.str s))))
  (hK:K (some (.h r::waM (wav o.op),wa5 o.dst)) (σ.put o.dst (.d (.str s)))):OpX P G ro N xs o σ K:=by
 refine⟨some (.h r::waM (wav o.op),wa5 o.dst),σ.put o.dst (.d (.str s)),⟨waS o.dst (.d (.str s)),fun k hk=>by rw[wcF]at hk; exact hk,hxe,fun σ' hd' hs _=>?_,wbC _ _ _,St.put_rest _ _ _⟩,hK⟩
 have h1:=wcN (σ:=σ) (σ':=σ') (l:=wav o.op) fun k hk=>hs k (List.mem_cons_of_mem _ hk)
 have h2:waa σ'.heap r=waa σ.heap r:=by
  have:=hs (.h r) (List.mem_cons_self ..)
  simpa only[St.look,Cont.r.injEq]using this
 have hm1:x∈wav o.op:=by rw[ho]; simp[wav,hca]
 have hm2:y∈wav o.op:=by rw[ho]; simp[wav,hca]
 exact OpT.mkStr ho hc hca hct hpt hce ((h1 x hm1).trans hx) ((h1 y hm2).trans hy) (h2.trans hrow) hs0 hd ⟨by rw[St.put_rest]; exact hd',wbC _ _ _⟩
theorem Sit.more {B:Base P} {w w':World} {φ:Nm} {H:wac} {g:Gh} (hro:B.ro=none) (hs:Sit G B w φ H g) (hsz:w.heap.size<=w'.heap.size) (hold:∀ b,b < w.heap.size->w'.heap[b]? = w.heap[b]?) (hos:w'.os=w.os) (ht:w'.tape=w.tape) (hout:w'.output=w.output):Sit G B w' φ H g:=by
 have hr:Rep G B 0 ⟨[],H,[],g⟩ { tmps:=#[],defers:=[] } w φ:=by
  refine Rep.of_sit hs rfl (fun t=>.any _) ?_
  rw[B.hheld hro]; exact .nil
 exact(hr.world (wjz hsz hold (fun s x c h1 h2=>hr.heap.lt h1 h2)) ⟨hos,ht,hout,hsz,fun c h _=>hold c h⟩ (fun s x c h1 h2=>hold c (hr.heap.lt h1 h2)) (fun c h _=>hold c h)).sit
theorem wrQ {Hc Hc':wac} {g:Nat->Nat} {H0:wac}:∀ {l:wac},weo Hc g H0 l->(∀ r x,waa l r=some x->waa Hc' (g r)=waa Hc (g r))->(∀ r x,waa l r=some x->waa Hc' (g r)=some (x.ren g)/\refsInL H0 x.els)
 | l,h,hs,r,x,hx=>⟨(hs r x hx).trans (wdU h r x hx).1,(wdU h r x hx).2⟩
def weW (g:Nat->Nat):wac->List Key
 | []=>[]
 | (r,_)::l=>.h (g r)::weW g l
theorem wk7 {g:Nat->Nat}:∀ {l:wac} {r:Nat} {x:Row},waa l r=some x->Key.h (g r)∈weW g l
 | [],r,x,h=>by simp[waa]at h
 | (t,y)::l,r,x,h=>by
  simp only[waa]at h
  split at h
  ·rename_i e; subst e; simp[weW]
  ·simp[weW,wk7 h]
def wiE:wac->Prop
 | []=>True
 | (r,_)::l=>r < 1000/\wiE l
theorem wfS:∀ {l:wac},wiE l->∀ r x,waa l r=some x->r < 1000
 | [],_,r,x,h=>by simp[waa]at h
 | (s,y)::l,h,r,x,hx=>by
  simp only[waa]at hx
  split at hx
  ·rename_i e; subst e; exact h.1
  ·exact wfS h.2 r x hx
def wg2:wac->Prop
 | []=>True
 | (_,x)::l=>cleanL x.els/\wg2 l
theorem wif:∀ {l:wac},wg2 l->∀ r x,waa l r=some x->cleanL x.els
 | [],_,r,x,h=>by simp[waa]at h
 | (s,y)::l,h,r,x,hx=>by
  simp only[waa]at hx
  split at hx
  ·rename_i e; subst e; cases hx; exact h.1
  ·exact wif h.2 r x hx
theorem OpX.callR {K:Foot->St->Prop} {c:Call} {f:FuncId} {xo:Operand} {caps args:List PV} {res:PV} {H:wac} (g:Nat->Nat) (ho:o.op=.call c) (hc:c.callee=.value xo) (hx:wcB (σ.eval xo)=some (f,caps)) (hcal:wbd P f=true)
  (hf:ObjFn P G f args H res H) (hrow:weo σ.heap g H H) (hinj:wd5 g H) (hpin:wiE H) (hcln:wg2 H) (ha:∀ H0,wdq H0 H g (wau σ c.args.toList++caps) args) (hd:wao N o.dst) (hcl:clean res) (hrf:refsIn H res) (hren:res.ren g=res) (hxe:exE xs (waS o.dst res))
  (hK:K (some (weW g H++waM (xo::wav o.op),wa5 o.dst)) (σ.put o.dst res)):OpX P G ro N xs o σ K:=by
 refine⟨some (weW g H++waM (xo::wav o.op),wa5 o.dst),σ.put o.dst res,⟨waS o.dst res,fun k hk=>by rw[wcF]at hk; exact hk,hxe,fun σ' hd' hs _=>?_,wbC _ _ _,St.put_rest _ _ _⟩,hK⟩
 have h1:=wcN (σ:=σ) (σ':=σ') (l:=xo::wav o.op) fun k hk=>hs k (List.mem_append_right _ hk)
 rw[ho]at h1
 have hgt:∀ r x,waa H r=some x->waa σ'.heap (g r)=waa σ.heap (g r):=fun r x hrx=>by
  have:=hs (.h (g r)) (List.mem_append_left _ (wk7 hrx))
  simpa only[St.look,Cont.r.injEq]using this
 have hrow':=wrQ hrow hgt
 have hi:∀ r s x y,waa H r=some x->waa H s=some y->g r=g s->r=s:=fun r s x y h h'=>wd6 hinj r s x y (waK h) (waK h')
 refine OpT.callU (H:=H) (g:=g) (gs:=[]) (caps:=caps) (args:=args) ho hc (by rw[h1 xo (by simp)]; exact hx) hcal hf ⟨⟨fun r x h=>(hrow' r x h).1,hi,fun r x h=>(hrow' r x h).2⟩,fun r x h hr=>?_,fun r x _ _=>by simp,fun s hs=>by simp at hs,fun s hs=>by simp at hs,fun s hs=>by simp at hs,fun s hs=>by simp at hs,fun s hs=>by simp at hs⟩ ?_ hd ?_
 ·have:=wfS hpin r x h; omega
 ·rw[wcd (l:=c.args.toList) fun x hx=>h1 x (by simp[wav,hx])]; exact ha _
 ·rintro p H' ⟨rfl,rfl⟩
  refine⟨g,⟨fun r x' h _=>⟨x',h,rfl,rfl,fun _=>rfl⟩,fun r x h _=>⟨x,h⟩,fun r x' h hr=>?_,hi,fun r x h=>⟨(hrow' r x h).2,wif hcln r x h⟩⟩,hcl,hrf,?_⟩
  ·have:=wfS hpin r x' h; omega
  ·rw[hren]
   have hm:=BackU.merged (σ:=σ') (H:=H') (H':=H') (g:=g) (ρ:=g) (gs:=[]) ⟨fun r x' h _=>⟨x',h,rfl,rfl,fun _=>rfl⟩,fun r x h _=>⟨x,h⟩,fun r x' h hr=>(by have:=wfS hpin r x' h; omega),hi,fun r x h=>⟨(hrow' r x h).2,wif hcln r x h⟩⟩
   refine⟨by rw[St.put_rest]; exact hd',?_⟩
   rw[<-wbC]
   funext k
   cases k with
   | t n=>cases hdst:o.dst <;> simp[St.look,St.put]
   | h n =>
    have:waa (wbP g H' (wbA [] σ'.heap)) n=waa σ'.heap n:=by
     by_cases hex:∃ r x,waa H' r=some x/\g r=n
     ·obtain⟨r,x,h2,rfl⟩:=hex
      rw[hm.inn r x h2,(hrow' r x h2).1]
     ·rw[hm.out n (fun r x h2 h3=>hex ⟨r,x,h2,h3⟩)]; simp
    cases hdst:o.dst <;> simp[St.look,St.put,this]
theorem wtL {f:FuncId} {c:Call} {xo:Operand} {caps args:List PV} {res:PV} {H:wac} {acc:List Foot} {ops:Array Oper} {rest:List Oper} {σ':St} {Q:St->Prop} (gl:List (Nat×Nat)) (hf:ObjFn P G f args H res H)
  (h2:DOps P G ro N xs ops Q rest (acc++[some (weW (war gl) H++waM (xo::wav o.op),wa5 o.dst)]) σ')
  (hg:o.guard=none:=by rfl) (ho:o.op=.call c:=by rfl) (hc:c.callee=.value xo:=by rfl) (hx:wcB (σ.eval xo)=some (f,caps):=by rfl) (hcal:wbd P f=true:=by kernel_rfl)
  (hrow:weo σ.heap (war gl) H H:=by(simp only[weo,Row.ren,go_sem,↓reduceIte]; (repeat' (first | exact trivial | exact rfl | (simp only[List.length_append,List.length_set,List.length_replicate,List.length_cons,List.length_nil,Nat.zero_add]; exact rfl) | apply And.intro))))
  (hinj:wd5 (war gl) H:=by(simp only[wd5,wfp,go_sem,↓reduceIte]; (repeat' (first | exact trivial | (intro h; cases h; done) | apply And.intro))))
  (hpin:wiE H:=by(repeat' (first | exact trivial | decide | apply And.intro))) (hcln:wg2 H:=by(simp only[wg2,go_sem,↓reduceIte]; (repeat' (first | exact trivial | exact rfl | apply And.intro))))
  (ha:∀ H0,wdq H0 H (war gl) (wau σ c.args.toList++caps) args:=by(intro H0; repeat' (first | exact trivial | exact rfl | apply And.intro | (simp only[go_sem,↓reduceIte]; done)))) (hd:wao N o.dst:=by(simp only[go_sem,↓reduceIte]; done))
  (hp:σ.put o.dst res=σ':=by(simp only[go_sem,↓reduceIte]; rfl)) (hcl:clean res:=by(simp only[clean,cleanL,and_self]; done)) (hrf:refsIn H res:=by(simp only[go_sem]; done)) (hren:res.ren (war gl)=res:=by rfl) (hxe:exE xs (waS o.dst res):=by(simp only[go_sem,or_true,true_or,↓reduceIte]; done)) :
  DOps P G ro N xs ops Q (o::rest) acc σ:=by
 obtain⟨f1,σ1,h3,h4,h5⟩:=OpX.callR (K:=fun f1 σ1=>f1=some (weW (war gl) H++waM (xo::wav o.op),wa5 o.dst)/\σ1=σ') (war gl) ho hc hx hcal hf hrow hinj hpin hcln ha hd hcl hrf hren hxe ⟨rfl,hp⟩
 rw[h4,h5]at h3
 exact .step (DStep.plain hg h3) h2
end
attribute [go_sem] weW wg2
def ofI (l:List Int):ByteArray:=⟨(l.map fun n=>n.toNat.toUInt8).toArray⟩
def wjh (l:List Int):Bool:=l.all fun n=>decide (0<=n)&&decide (n < 256)
theorem wrh {l:List Int} (h:wjh l=true):wbf (ofI l)=l:=by
 simp only[wjh,List.all_eq_true,Bool.and_eq_true,decide_eq_true_eq]at h
 simp only[wbf,ofI,List.map_map]
 conv=>rhs; rw[<-List.map_id l]
 refine List.map_congr_left fun n hn=>?_
 obtain⟨h1,h2⟩:=h n hn
 simp only[Function.comp,id_eq]
 have:n.toNat.toUInt8.toNat=n.toNat:=by simp[Nat.mod_eq_of_lt (show n.toNat < 256 by omega)]
 rw[this]; omega
theorem wri (s:ByteArray):ofI (wbf s)=s:=by
 cases s with | mk d =>
 have:(fun n:Int=>n.toNat.toUInt8) ∘ (fun b:UInt8=>(b.toNat:Int))=id:=by funext b; simp
 simp only[ofI,wbf,List.map_map,this,List.map_id,Array.toArray_toList]
theorem woR (s:ByteArray):wjh (wbf s)=true:=by
 simp only[wjh,wbf,List.all_eq_true,Bool.and_eq_true,decide_eq_true_eq,List.mem_map]
 rintro n ⟨b,_,rfl⟩
 have:=b.toNat_lt
 omega
theorem wps (l:List Int):(ofI l).size=l.length:=by simp[ofI,ByteArray.size]
end Go.Pv

namespace Go.Pv
section
variable {P:Program} {G:List (Nat×PD)} {B:Base P} {N:Nat} {σ τ:St} {a:Act} {w:World} {φ φ':Nm} {H H':wac} {ρ:Nat->Nat}
theorem Row.ren_len (x:Row):(x.ren ρ).els.length=x.els.length:=by simp[Row.ren,wan]
theorem RepV.renamed {X:Nat->Nat->Prop} (hrow:∀ r x,waa H r=some x->waa H' (ρ r)=some (x.ren ρ)/\φ' (ρ r)=φ r) (hown:∀ b,own φ' H' b ↔ own φ H b) {v:Value} {p:PV} (h:RepV w X φ H v p):RepV w X φ' H' v (p.ren ρ):=by
 have hd:∀ b kk,okd w X φ H b kk->okd w X φ' H' b kk:=fun b kk hb=>⟨hb.1,hb.2.1,fun ho=>hb.2.2 ((hown b).1 ho)⟩
 have hb':∀ b kk,okb w φ H b kk->okb w φ' H' b kk:=fun b kk hb=>⟨hb.1,fun ho=>hb.2 ((hown b).1 ho)⟩
 induction h with
 | any v=>simp only[PV.ren]; exact .any v
 | d h=>simp only[PV.ren]; exact .d (h.mono hd (fun _ _ _=>rfl))
 | b h=>simp only[PV.ren]; exact .b (h.mono hb' (fun _ _ _=>rfl))
 | @ptr r i off b x hx hb hk =>
  simp only[PV.ren]
  obtain⟨h1,h2⟩:=hrow _ _ hx
  exact .ptr (x:=x.ren ρ) h1 (h2.trans hb) hk
 | dptr h hi=>simp only[PV.ren]; exact .dptr (h.mono hd (fun _ _ _=>rfl)) hi
 | bptr h hi=>simp only[PV.ren]; exact .bptr (h.mono hb' (fun _ _ _=>rfl)) hi
 | glob g=>simp only[PV.ren]; exact .glob g
 | val hf=>simp only[PV.ren]; exact .val hf
 | @slc r lo n cap b x hx hb hk hn hc hl hz =>
  simp only[PV.ren]
  obtain⟨h1,h2⟩:=hrow _ _ hx
  exact .slc (x:=x.ren ρ) h1 (h2.trans hb) hk (by rw[Row.ren_len]; exact hn) hc (by rw[Row.ren_len]; exact hl) hz
 | @slc0 r x p hx hb hk hp =>
  simp only[PV.ren]
  obtain⟨h1,h2⟩:=hrow _ _ hx
  exact .slc0 (x:=x.ren ρ) h1 (h2.trans hb) hk hp
 | @mp r b x hx hb hk =>
  simp only[PV.ren]
  obtain⟨h1,h2⟩:=hrow _ _ hx
  exact .mp (x:=x.ren ρ) h1 (h2.trans hb) hk
 | func hs _ ih =>
  simp only[PV.ren]
  exact .func (by rw[wan]; exact hs) fun i hi=>by rw[wcx _ _ i (by rw[wan]at hi; exact hi) hi]; exact ih i (by rw[wan]at hi; exact hi)
 | agg hs _ hf ih =>
  simp only[PV.ren]
  exact .agg (by rw[wan]; exact hs) (fun i hi=>by rw[wcx _ _ i (by rw[wan]at hi; exact hi) hi]; exact ih i (by rw[wan]at hi; exact hi)) fun i hi=>hf i (by rw[wan]at hi; exact hi)
 | tuple hs _ ih =>
  simp only[PV.ren]
  exact .tuple (by rw[wan]; exact hs) fun i hi=>by rw[wcx _ _ i (by rw[wan]at hi; exact hi) hi]; exact ih i (by rw[wan]at hi; exact hi)
structure Renames (σ τ:St) (ρ:Nat->Nat):Prop where
 env:∀ t,wam τ.env t=(wam σ.env t).ren ρ
 row:∀ r x,waa σ.heap r=some x->waa τ.heap (ρ r)=some (x.ren ρ)
 all:∀ s y,waa τ.heap s=some y->∃ r x,waa σ.heap r=some x/\s=ρ r
 inj:∀ r s x y,waa σ.heap r=some x->waa σ.heap s=some y->ρ r=ρ s->r=s
 pin:∀ r x,waa σ.heap r=some x->r < 1000->ρ r=r
 big:∀ r x,waa σ.heap r=some x->1000<=r->1000<=ρ r
 dfr:τ.dfr=σ.dfr.map (PV.ren ρ)
 gh:σ.gh=τ.gh
open Classical in
noncomputable def wj0 (φ:Nm) (H:wac) (ρ:Nat->Nat):Nm:=⟨fun s=>if h:∃ r,(waa H r).isSome=true/\ρ r=s then φ (Classical.choose h)else none,φ.T⟩
open Classical in
theorem wsC (hi:∀ r s x y,waa H r=some x->waa H s=some y->ρ r=ρ s->r=s) {r:Nat} {x:Row} (h:waa H r=some x):(wj0 φ H ρ) (ρ r)=φ r:=by
 have hex:∃ r',(waa H r').isSome=true/\ρ r'=ρ r:=⟨r,by rw[h]; rfl,rfl⟩
 show (if h:∃ r',(waa H r').isSome=true/\ρ r'=ρ r then φ (Classical.choose h)else none)=_
 rw[dif_pos hex]
 obtain⟨h1,h2⟩:=Classical.choose_spec hex
 obtain⟨y,hy⟩:=Option.isSome_iff_exists.1 h1
 rw[hi _ _ _ _ hy h h2]
theorem Sub.ren (h:Renames σ τ ρ):Sub G N σ τ:=by
 intro P B a w φ hr
 have hat:∀ r x,waa σ.heap r=some x->(wj0 φ σ.heap ρ) (ρ r)=φ r:=fun r x hx=>wsC h.inj hx
 have hrow:∀ b,waD (wj0 φ σ.heap ρ) τ.heap b ↔ waD φ σ.heap b:=fun b=>by
  constructor
  ·rintro⟨s,y,h1,h2⟩
   obtain⟨r,x,h3,rfl⟩:=h.all s y h1
   exact⟨r,x,h3,(hat r x h3).symm.trans h2⟩
  ·rintro⟨r,x,h1,h2⟩
   exact⟨ρ r,_,h.row r x h1,(hat r x h1).trans h2⟩
 have hown:∀ b,own (wj0 φ σ.heap ρ) τ.heap b ↔ own φ σ.heap b:=fun b=>or_congr (hrow b) Iff.rfl
 have hv:∀ {v p},RepV w B.X φ σ.heap v p->RepV w B.X (wj0 φ σ.heap ρ) τ.heap v (p.ren ρ):=fun {v p} hv=>hv.renamed (fun r x hx=>⟨h.row r x hx,hat r x hx⟩) hown
 have hd:∀ b kk,okd w B.X φ σ.heap b kk->okd w B.X (wj0 φ σ.heap ρ) τ.heap b kk:=fun b kk hb=>⟨hb.1,hb.2.1,fun ho=>hb.2.2 ((hown b).1 ho)⟩
 refine⟨wj0 φ σ.heap ρ,Rep.of_sit ⟨⟨fun s y b hs hb=>?_,fun s y hs hb=>?_,fun s t y z b hs ht hb hb'=>?_,fun b hT=>⟨(hr.heap.far b hT).1,(hr.heap.far b hT).2.1,fun ho=>(hr.heap.far b hT).2.2 ((hrow b).1 ho)⟩⟩,hr.keeps,fun s y b hs hb=>?_,fun s y hs hp=>?_,fun s y b hs hp hb=>?_,?_,hr.tnew,?_⟩ hr.size (fun t=>?_) ?_⟩
 ·obtain⟨r,x,h1,rfl⟩:=h.all s y hs
  have h2:=h.row r x h1
  rw[hs]at h2; cases h2
  rw[hat r x h1]at hb
  refine(hr.heap.rows r x b h1 hb).turn rfl rfl (Row.ren_len x) (fun _ _ h=>h) (hr.heap.rows r x b h1 hb).free (fun i hi hi' v hv'=>?_) fun z hz=>by simp only[Row.ren,wet]; exact hz.map fun p hp=>wmo ρ hp
  simp only[Row.ren]
  rw[wcx _ _ i hi (by simpa [Row.ren]using hi')]
  exact hv hv'
 ·obtain⟨r,x,h1,rfl⟩:=h.all s y hs
  have h2:=h.row r x h1
  rw[hs]at h2; cases h2
  rw[hat r x h1]at hb
  have:=hr.heap.void r x h1 hb
  simp[Row.ren,this,renL]
 ·obtain⟨r,x,h1,rfl⟩:=h.all s y hs
  obtain⟨r',x',h1',rfl⟩:=h.all t z ht
  rw[hat r x h1]at hb
  rw[hat r' x' h1']at hb'
  rw[hr.heap.inj r r' x x' b h1 h1' hb hb']
 ·obtain⟨r,x,h1,rfl⟩:=h.all s y hs
  rw[hat r x h1]at hb
  exact hr.new r x b h1 hb
 ·obtain⟨r,x,h1,rfl⟩:=h.all s y hs
  rcases Nat.lt_or_ge r 1000 with hl | hl
  ·rw[hat r x h1,h.pin r x h1 hl]
   exact hr.pins r x h1 (by simp[pinned,hl])
  ·have:=h.big r x h1 hl
   simp[pinned]at hp; omega
 ·obtain⟨r,x,h1,rfl⟩:=h.all s y hs
  rcases Nat.lt_or_ge r 1000 with hl | hl
  ·rw[hat r x h1]at hb
   exact hr.psz r x b h1 (by simp[pinned,hl]) hb
  ·have:=h.big r x h1 hl
   simp[pinned]at hp; omega
 ·intro g y hm
  obtain⟨c,e,f,v,h1,h2,h3,h4,h5,h6⟩:=hr.glob g y hm
  exact⟨c,e,f,v,h1,fun ho=>h2 ((hown g).1 ho),h3.mono hd (fun _ _ _=>rfl),h4,h5,h6⟩
 ·rw[<-h.gh]
  exact wdT (w:=w) (φ:=φ) (H:=σ.heap) hr.inv rfl rfl rfl rfl (Nat.le_refl _) (fun _ _ _=>rfl) (fun b hb=>.inl ((hrow b).1 hb))
 ·rw[h.env t]; exact hv (hr.env t)
 ·rw[h.dfr,<-h.gh]
  exact hr.dfr.map (fun D hD=>⟨hd D 0 hD,rfl⟩) fun p _ v hv'=>hv hv'
end
def wcV (ρ:Nat->Nat):wac->wac
 | []=>[]
 | (r,x)::l=>(r,x.ren ρ)::wcV ρ l
def wgz (ρ:Nat->Nat):List (Nat×PV)->List (Nat×PV)
 | []=>[]
 | (t,v)::l=>(t,v.ren ρ)::wgz ρ l
theorem wfs (ρ:Nat->Nat):∀ (l:wac) (r:Nat),waa (wcV ρ l) r=(waa l r).map (Row.ren ρ)
 | [],_=>rfl
 | (s,x)::l,r=>by
  simp only[wcV,waa]
  split
  ·rfl
  ·exact wfs ρ l r
theorem wiU (ρ:Nat->Nat):∀ (l:List (Nat×PV)) (t:Nat),wam (wgz ρ l) t=(wam l t).ren ρ
 | [],_=>by simp[wgz,wam,PV.ren]
 | (s,x)::l,t=>by
  simp only[wgz,wam]
  split
  ·rfl
  ·exact wiU ρ l t
def foc (c i q s:Nat):Nat:=if s=sn c i then q else s
def unf (c i q s:Nat):Nat:=if s=q then sn c i else s
theorem we7 {c i q s:Nat} (h:s < 1000000):foc c i q s=s:=by unfold foc; rw[if_neg (by unfold sn; omega)]
theorem foc_at {c i q:Nat}:foc c i q (sn c i)=q:=by simp[foc]
theorem unf_at {c i q:Nat}:unf c i q q=sn c i:=by simp[unf]
theorem wfJ {c i q s:Nat} (h:s≠q):unf c i q s=s:=by unfold unf; rw[if_neg h]
theorem wk8 {c i j:Nat} (h:sn c i=sn c j):i=j:=by unfold sn at h; omega
theorem wrj {α:Type} {c i q:Nat} {F:Nat->α->PV} [NestF F] {L:List α} {x:α} (h:L[i]? = some x):renL (foc c i q) (wbH c F L)=(wbH c F L).set i (F q x):=by
 rw[wet]
 apply List.ext_getElem?
 intro j
 rw[List.getElem?_map,List.getElem?_set]
 simp only[wbH,whh,wie]
 by_cases hij:i=j
 ·subst hij
  rw[h]; simp[NestF.ren,foc_at,(List.getElem?_eq_some_iff.1 h).1]
 ·rw[if_neg hij]
  cases L[j]? with
  | none=>rfl
  | some y =>
   simp only[Option.map_some,NestF.ren]
   unfold foc
   rw[if_neg (fun e=>hij (wk8 e).symm)]
theorem wk9 {α:Type} {c i q:Nat} {F:Nat->α->PV} [NestF F] {L:List α} {x:α} (hq:q < 1000000) (hi:i < L.length):renL (unf c i q) ((wbH c F L).set i (F q x))=wbH c F (L.set i x):=by
 rw[wet]
 apply List.ext_getElem?
 intro j
 rw[List.getElem?_map,List.getElem?_set]
 simp only[wbH,whh,wie,List.getElem?_set]
 by_cases hij:i=j
 ·subst hij
  simp[hi,NestF.ren,unf_at]
 ·rw[if_neg hij,if_neg hij]
  cases L[j]? with
  | none=>rfl
  | some y =>
   simp only[Option.map_some,NestF.ren]
   rw[wfJ (by unfold sn; omega)]
theorem woS {α:Type} {c i q:Nat} {F:Nat->α->PV} [NestF F] {L:List α} {x:α} {p:PV} (hq:q < 1000000) (hi:i < L.length) (hp:p=F q x):renL (unf c i q) ((wbH c F L).set i p)=wbH c F (L.set i x):=by
 rw[hp]; exact wk9 hq hi
theorem wtM (ρ:Nat->Nat) (l:List PD):renL ρ (l.map PV.d)=l.map PV.d:=by
 rw[wet,List.map_map]; rfl
theorem NestG.ren {α:Type} {g:α->Row} [NestG g] (ρ:Nat->Nat) (x:α):(g x).ren ρ=g x:=by
 obtain⟨_,l,h⟩:=NestG.data (g:=g) x
 simp only[Row.ren,h,wtM]
 cases hg:g x
 rw[hg]at h; simp only at h; subst h; rfl
section
variable {G:List (Nat×PD)} {N:Nat} {σ:St}
theorem Sub.focus {α:Type} (c i q:Nat) {F:Nat->α->PV} {g:α->Row} [NestF F] [NestG g] {L:List α} {x:α} {l l':wac} {e':List (Nat×PV)} (hx:L[i]? = some x) (hs:σ.heap=waA c (waN g L) l) (hlow:wcK l) (hq:waa l q=none) (hq1:1000<=q) (hq2:q < 1000000)
  (hl:wcV (foc c i q) l=l') (he:wgz (foc c i q) σ.env=e') (hd:σ.dfr=[]):Sub G N σ ⟨e',waA c ((waN g L).set i none) ((q,g x)::l'),σ.dfr,σ.gh⟩:=by
 subst hl he
 have hsn:∀ j,waa σ.heap (sn c j)=(L[j]?).map g:=fun j=>by rw[hs,wdy j hlow,wcD]
 have hlo:∀ r,r < 1000000->waa σ.heap r=waa l r:=fun r h=>by rw[hs,wbr h]
 have hcase:∀ r x',waa σ.heap r=some x'->(∃ j,r=sn c j/\(L[j]?).map g=some x')\/(r < 1000000/\waa l r=some x'/\r≠q):=fun r x' h=>by
  rw[hs]at h
  rcases wej h with ⟨j,h1,h2⟩ | h
  ·rw[wcD]at h2; exact .inl ⟨j,h1,h2⟩
  ·by_cases hr:r < 1000000
   ·exact .inr ⟨hr,h,fun e=>by rw[e,hq]at h; cases h⟩
   ·rw[wcg hlow r (by omega)]at h; cases h
 have hlow':wcK ((q,g x)::wcV (foc c i q) l):=⟨hq2,by
  have:∀ l:wac,wcK l->wcK (wcV (foc c i q) l):=fun l=>by
   induction l with
   | nil=>exact fun h=>h
   | cons y l ih=>obtain⟨s,y⟩:=y; exact fun h=>⟨h.1,ih h.2⟩
  exact this l hlow⟩
 have hgx:∀ j,waa (waA c ((waN g L).set i none) ((q,g x)::wcV (foc c i q) l)) (sn c j)=if i=j then none else (L[j]?).map g:=fun j=>by
  rw[wdy j hlow',wiC]
 have hgl:∀ r,r < 1000000->waa (waA c ((waN g L).set i none) ((q,g x)::wcV (foc c i q) l)) r=if q=r then some (g x)else (waa l r).map (Row.ren (foc c i q)):=fun r hr=>by
  rw[wbr hr]; simp only[waa,wfs]
 refine Sub.ren (ρ:=foc c i q) ⟨fun t=>wiU _ _ t,fun r y hy=>?_,fun s y hy=>?_,fun r s y z hy hz hrs=>?_,fun r y hy hr=>?_,fun r y hy hr=>?_,by rw[hd]; rfl,rfl⟩
 ·rcases hcase r y hy with ⟨j,rfl,h2⟩ | ⟨h1,h2,h3⟩
  ·by_cases hij:i=j
   ·subst hij
    rw[foc_at,hgl q hq2,if_pos rfl]
    rw[hx]at h2; simp only[Option.map_some,Option.some.injEq]at h2; subst h2
    rw[NestG.ren]
   ·have e1:foc c i q (sn c j)=sn c j:=by unfold foc; rw[if_neg (fun e=>hij (wk8 e).symm)]
    rw[e1,hgx,if_neg hij,h2]
    cases hj:L[j]? with
    | none=>rw[hj]at h2; cases h2
    | some z=>rw[hj]at h2; simp only[Option.map_some,Option.some.injEq]at h2; subst h2; rw[NestG.ren]
  ·rw[we7 h1,hgl r h1,if_neg (Ne.symm h3),h2]; rfl
 ·rcases wej hy with ⟨j,rfl,h2⟩ | h
  ·rw[wiC]at h2
   split at h2
   ·cases h2
   ·rename_i hij
    exact⟨sn c j,y,(hsn j).trans h2,by unfold foc; rw[if_neg (fun e=>hij (wk8 e).symm)]⟩
  ·simp only[waa,wfs]at h
   split at h
   ·rename_i e; subst e
    exact⟨sn c i,g x,by rw[hsn,hx]; rfl,foc_at.symm⟩
   ·simp only[Option.map_eq_some_iff]at h
    obtain⟨y',h1,_⟩:=h
    have hr:s < 1000000:=Nat.lt_of_not_le fun hge=>by rw[wcg hlow s hge]at h1; cases h1
    exact⟨s,y',(hlo s hr).trans h1,(we7 hr).symm⟩
 ·rcases hcase r y hy with ⟨j,rfl,h2⟩ | ⟨h1,h2,h3⟩ <;> rcases hcase s z hz with ⟨j',rfl,h2'⟩ | ⟨h1',h2',h3'⟩
  ·unfold foc at hrs
   split at hrs <;> split at hrs
   ·rename_i e e'; rw[e,e']
   ·unfold sn at hrs; omega
   ·unfold sn at hrs; omega
   ·exact hrs
  ·rw[we7 h1']at hrs
   unfold foc at hrs
   split at hrs
   ·exact absurd hrs.symm h3'
   ·unfold sn at hrs; omega
  ·rw[we7 h1]at hrs
   unfold foc at hrs
   split at hrs
   ·exact absurd hrs h3
   ·unfold sn at hrs; omega
  ·rw[we7 h1,we7 h1']at hrs; exact hrs
 ·exact we7 (by omega)
 ·unfold foc
  split
  ·exact hq1
  ·exact hr
theorem wqm (q:Nat) (l:wac) (s:Nat):waa (wbA [q] l) s=if s=q then none else waa l s:=by
 rw[wgx]; simp
theorem Sub.unfocus {α:Type} (c i q:Nat) {F:Nat->α->PV} {g:α->Row} [NestF F] [NestG g] {L:List α} (x:α) {l l':wac} {e':List (Nat×PV)} (hi:i < L.length) (hs:σ.heap=waA c ((waN g L).set i none) l) (hlow:wcK l) (hq:waa l q=some (g x)) (hq1:1000<=q) (hq2:q < 1000000)
  (hl:wcV (unf c i q) (wbA [q] l)=l') (he:wgz (unf c i q) σ.env=e') (hd:σ.dfr=[]):Sub G N σ ⟨e',waA c (waN g (L.set i x)) l',σ.dfr,σ.gh⟩:=by
 subst hl he
 have hsn:∀ j,waa σ.heap (sn c j)=if i=j then none else (L[j]?).map g:=fun j=>by rw[hs,wdy j hlow,wiC]
 have hlo:∀ r,r < 1000000->waa σ.heap r=waa l r:=fun r h=>by rw[hs,wbr h]
 have hcase:∀ r x',waa σ.heap r=some x'->(∃ j,r=sn c j/\i≠j/\(L[j]?).map g=some x')\/(r < 1000000/\waa l r=some x'):=fun r x' h=>by
  rw[hs]at h
  rcases wej h with ⟨j,h1,h2⟩ | h
  ·rw[wiC]at h2
   split at h2
   ·cases h2
   ·rename_i hij; exact .inl ⟨j,h1,hij,h2⟩
  ·by_cases hr:r < 1000000
   ·exact .inr ⟨hr,h⟩
   ·rw[wcg hlow r (by omega)]at h; cases h
 have hget':∀ s,waa (wcV (unf c i q) (wbA [q] l)) s=if s=q then none else (waa l s).map (Row.ren (unf c i q)):=fun s=>by
  rw[wfs,wqm]; split <;> rfl
 have hlow':wcK (wcV (unf c i q) (wbA [q] l)):=by
  have h1:∀ l:wac,wcK l->wcK (wcV (unf c i q) l):=fun l=>by
   induction l with
   | nil=>exact fun h=>h
   | cons y l ih=>obtain⟨s,y⟩:=y; exact fun h=>⟨h.1,ih h.2⟩
  have h2:∀ l:wac,wcK l->wcK (wbA [q] l):=fun l=>by
   induction l with
   | nil=>exact fun h=>h
   | cons y l ih =>
    obtain⟨s,y⟩:=y
    intro h
    simp only[wbA]
    split
    ·exact ih h.2
    ·exact⟨h.1,ih h.2⟩
  exact h1 _ (h2 l hlow)
 have hgx:∀ j,waa (waA c (waN g (L.set i x)) (wcV (unf c i q) (wbA [q] l))) (sn c j)=if i=j then some (g x)else (L[j]?).map g:=fun j=>by
  rw[wdy j hlow',wcD,List.getElem?_set]
  split
  ·rename_i e; subst e; simp[hi]
  ·rfl
 refine Sub.ren (ρ:=unf c i q) ⟨fun t=>wiU _ _ t,fun r y hy=>?_,fun s y hy=>?_,fun r s y z hy hz hrs=>?_,fun r y hy hr=>?_,fun r y hy hr=>?_,by rw[hd]; rfl,rfl⟩
 ·rcases hcase r y hy with ⟨j,rfl,hij,h2⟩ | ⟨h1,h2⟩
  ·rw[wfJ (by unfold sn; omega),hgx,if_neg hij,h2]
   cases hj:L[j]? with
   | none=>rw[hj]at h2; cases h2
   | some z=>rw[hj]at h2; simp only[Option.map_some,Option.some.injEq]at h2; subst h2; rw[NestG.ren]
  ·by_cases hrq:r=q
   ·subst hrq
    rw[unf_at,hgx,if_pos rfl]
    rw[hq]at h2; cases h2
    rw[NestG.ren]
   ·rw[wfJ hrq,wbr h1,hget',if_neg hrq,h2]; rfl
 ·rcases wej hy with ⟨j,rfl,h2⟩ | h
  ·rw[wcD,List.getElem?_set]at h2
   by_cases hij:i=j
   ·subst hij
    exact⟨q,g x,(hlo q hq2).trans hq,unf_at.symm⟩
   ·rw[if_neg hij]at h2
    exact⟨sn c j,y,by rw[hsn,if_neg hij]; exact h2,by rw[wfJ (by unfold sn; omega)]⟩
  ·rw[hget']at h
   split at h
   ·cases h
   ·rename_i hsq
    simp only[Option.map_eq_some_iff]at h
    obtain⟨y',h1,_⟩:=h
    have hr:s < 1000000:=Nat.lt_of_not_le fun hge=>by rw[wcg hlow s hge]at h1; cases h1
    exact⟨s,y',(hlo s hr).trans h1,(wfJ hsq).symm⟩
 ·rcases hcase r y hy with ⟨j,rfl,hij,h2⟩ | ⟨h1,h2⟩ <;> rcases hcase s z hz with ⟨j',rfl,hij',h2'⟩ | ⟨h1',h2'⟩
  ·rw[wfJ (by unfold sn; omega),wfJ (by unfold sn; omega)]at hrs; exact hrs
  ·rw[wfJ (by unfold sn; omega)]at hrs
   unfold unf at hrs
   split at hrs
   ·exact absurd (wk8 hrs).symm hij
   ·exact hrs
  ·rw[wfJ (s:=sn c j') (by unfold sn; omega)]at hrs
   unfold unf at hrs
   split at hrs
   ·exact absurd (wk8 hrs) hij'
   ·exact hrs
  ·unfold unf at hrs
   split at hrs <;> split at hrs
   ·rename_i e e'; rw[e,e']
   ·unfold sn at hrs; omega
   ·unfold sn at hrs; omega
   ·exact hrs
 ·exact wfJ (by omega)
 ·unfold unf
  split
  ·unfold sn; omega
  ·exact hr
theorem Sub.voidEl (s j e k r:Nat) {x:Row} {p p':PV} (hs:waa σ.heap s=some x) (hk1:1<=x.k) (hels:x.els[j]? = some p) (hpb:isByte p=false) (hr0:waa σ.heap r=none) (hr:1000<=r)
  (hval:∀ (w:World) (X:Nat->Nat->Prop) (φ:Nm) (H:wac) (v:Value),waa H r=some { e,k,els:=[] }->φ r=none->RepV w X φ H v p->RepV w X φ H v p') :
  Sub G N σ { env:=σ.env,heap:=wal (wal σ.heap s { x with els:=x.els.set j p' }) r { e,k,els:=[] },dfr:=σ.dfr,gh:=σ.gh }:=by
 intro P B a w φ hrep
 have hsr:s≠r:=fun h=>by subst h; rw[hs]at hr0; cases hr0
 have hgetr:waa (wal (wal σ.heap s { x with els:=x.els.set j p' }) r { e,k,els:=[] }) r=some { e,k,els:=[] }:=by rw[wai]; simp
 have hgets:waa (wal (wal σ.heap s { x with els:=x.els.set j p' }) r { e,k,els:=[] }) s=some { x with els:=x.els.set j p' }:=by
  rw[wai,if_neg (Ne.symm hsr),wai]; simp
 have hgeto:∀ t,t≠r->t≠s->waa (wal (wal σ.heap s { x with els:=x.els.set j p' }) r { e,k,els:=[] }) t=waa σ.heap t:=fun t h1 h2=>by
  rw[wai,if_neg (Ne.symm h1),wai,if_neg (Ne.symm h2)]
 obtain⟨H2,hH2⟩:∃ H2,H2=wal (wal σ.heap s { x with els:=x.els.set j p' }) r { e,k,els:=[] }:=⟨_,rfl⟩
 rw[<-hH2]at hgetr hgets hgeto ⊢
 have hback:∀ t y,t≠r->waa H2 t=some y->∃ y',waa σ.heap t=some y'/\y.k=y'.k/\y.e=y'.e/\y.els.length=y'.els.length:=fun t y h1 h=>by
  by_cases h2:t=s
  ·subst h2; rw[hgets]at h; cases h; exact⟨x,hs,rfl,rfl,by simp⟩
  ·rw[hgeto t h1 h2]at h; exact⟨y,h,rfl,rfl,rfl⟩
 have hrow:∀ b,waD (upd φ r none) H2 b->waD φ σ.heap b:=by
  rintro b ⟨t,y,h1,h2⟩
  by_cases ht:t=r
  ·subst ht; simp[upd]at h2
  ·simp only[upd,ht,if_false]at h2
   obtain⟨y',h3,_⟩:=hback t y ht h1
   exact⟨t,y',h3,h2⟩
 have hown:∀ b,own (upd φ r none) H2 b->own φ σ.heap b:=fun b h=>h.imp (hrow b) id
 have hext:Ext w B.X φ σ.heap w (upd φ r none) H2:=by
  refine⟨fun t y h=>?_,fun b kk h=>⟨h.1,h.2.1,fun ho=>h.2.2 (hown b ho)⟩,fun b kk h=>⟨h.1,fun ho=>h.2 (hown b ho)⟩,fun _ kk _=>rfl,fun t y b _ _ c e f hh=>⟨c,e,f,hh,rfl⟩⟩
  have htr:t≠r:=fun e=>by subst e; rw[hr0]at h; cases h
  by_cases ht:t=s
  ·subst ht; rw[hs]at h; cases h
   exact⟨_,hgets,rfl,fun _=>by simp,by simp[upd,htr]⟩
  ·exact⟨y,(hgeto t htr ht).trans h,rfl,fun _=>rfl,by simp[upd,htr]⟩
 have hval':∀ v,RepV w B.X φ σ.heap v p->RepV w B.X (upd φ r none) H2 v p':=fun v hv=>hval _ _ _ _ v hgetr (by simp[upd]) (hv.ext hext)
 refine⟨upd φ r none,Rep.of_sit ⟨⟨fun t y b ht hb=>?_,fun t y ht hb=>?_,fun t u y z b ht hu hb hb'=>?_,fun b hT=>⟨(hrep.heap.far b hT).1,(hrep.heap.far b hT).2.1,fun h=>(hrep.heap.far b hT).2.2 (hrow b h)⟩⟩,hrep.keeps,fun t y b ht hb=>?_,fun t y ht hp'=>?_,fun t y b ht hp' hb=>?_,?_,hrep.tnew,wdT (w:=w) (φ:=φ) (H:=σ.heap) hrep.inv rfl rfl rfl rfl (Nat.le_refl _) (fun _ _ _=>rfl) (fun b hb=>.inl (hrow b hb))⟩ hrep.size (fun t=>(hrep.env t).ext hext) (hrep.dfr.ext hext)⟩
 ·have htr:t≠r:=fun e=>by subst e; simp[upd]at hb
  simp only[upd,htr,if_false]at hb
  by_cases h:t=s
  ·subst h; rw[hgets]at ht; cases ht
   refine(hrep.heap.rows t x b hs hb).turn rfl rfl (by simp) (fun _ _ h=>h) (hrep.heap.rows t x b hs hb).free (fun m hm hm' v hv=>?_) fun z hz=>hz.set (hz.past hels hpb) p'
   by_cases hjm:j=m
   ·subst hjm
    have e1:x.els[j]=p:=(List.getElem?_eq_some_iff.1 hels).2
    rw[e1]at hv
    simpa using hval' v hv
   ·have e1:(x.els.set j p')[m]=x.els[m]:=List.getElem_set_ne hjm _
    rw[e1]; exact hv.ext hext
  ·rw[hgeto t htr h]at ht
   exact(hrep.heap.rows t y b ht hb).ext hext rfl
 ·by_cases htr:t=r
  ·subst htr; rw[hgetr]at ht; cases ht; rfl
  ·simp only[upd,htr,if_false]at hb
   obtain⟨y',h1,_,_,h4⟩:=hback t y htr ht
   have:=hrep.heap.void t y' h1 hb
   rw[this]at h4
   exact List.eq_nil_of_length_eq_zero h4
 ·have htr:t≠r:=fun e=>by subst e; simp[upd]at hb
  have hur:u≠r:=fun e=>by subst e; simp[upd]at hb'
  simp only[upd,htr,hur,if_false]at hb hb'
  obtain⟨y',h1,_⟩:=hback t y htr ht
  obtain⟨z',h2,_⟩:=hback u z hur hu
  exact hrep.heap.inj t u y' z' b h1 h2 hb hb'
 ·have htr:t≠r:=fun e=>by subst e; simp[upd]at hb
  simp only[upd,htr,if_false]at hb
  obtain⟨y',h1,_⟩:=hback t y htr ht
  exact hrep.new t y' b h1 hb
 ·have hlt:t < 1000:=by simpa [pinned]using hp'
  have htr:t≠r:=by omega
  simp only[upd,htr,if_false]
  obtain⟨y',h1,_⟩:=hback t y htr ht
  exact hrep.pins t y' h1 hp'
 ·have hlt:t < 1000:=by simpa [pinned]using hp'
  have htr:t≠r:=by omega
  simp only[upd,htr,if_false]at hb
  obtain⟨y',h1,_⟩:=hback t y htr ht
  exact hrep.psz t y' b h1 hp' hb
 ·exact hrep.glob.ext hext (fun g x hm=>by obtain⟨_,_,_,_,_,h2,_⟩:=hrep.glob g x hm; exact fun ho=>h2 (hown g ho))
theorem wsD {w:World} {X:Nat->Nat->Prop} {φ:Nm} {H:wac} {v:Value} {p:PV} {cs:List PV} {r e k i:Nat} (hp:wdp p=true) (hcs:way p=some cs) (hi:cs[i]? = some (.d .nilslice)) (hk:1<=k) (hg:waa H r=some { e,k,els:=[] }) (hφ:φ r=none) (hv:RepV w X φ H v p):RepV w X φ H v (.agg (cs.set i (.slc r 0 0))):=by
 obtain⟨vs,rfl⟩:=RepV.agg_of hp hv
 have h1:=wc8 hcs hv
 have hil:i < cs.length:=(List.getElem?_eq_some_iff.1 hi).1
 have h2:RepV w X φ H (vs.getD i undef) (.slc r 0 0):=by
  have h3:=h1.rep i hil
  rw[(List.getElem?_eq_some_iff.1 hi).2]at h3
  have h4:=wei (waR h3)
  simp only[Value.cells]at h4
  rw[h4]
  exact .slc0 hg hφ hk (by simp)
 have h5:=h1.set i h2 (by have:=h1.flat i hil; simpa only[Value.cells]using this)
 have h6:(Value.agg vs).cells.setIfInBounds i (vs.getD i undef)=vs:=by
  apply Array.ext
  ·simp[Value.cells]
  ·intro j h1 h2
   by_cases hji:i=j
   ·subst hji; simp[Value.cells,Array.getD,h2]
   ·exact Array.getElem_setIfInBounds_ne h2 hji
 rw[h6]at h5
 exact .agg h5.size h5.rep h5.flat
theorem wsE {w:World} {X:Nat->Nat->Prop} {φ:Nm} {H:wac} {v:Value} {r e k:Nat} (hk:1<=k) (hg:waa H r=some { e,k,els:=[] }) (hφ:φ r=none) (hv:RepV w X φ H v (.d .nilslice)):RepV w X φ H v (.slc r 0 0):=by
 have h4:=wei (waR hv)
 rw[h4]
 exact .slc0 hg hφ hk (by simp)
theorem Sub.push {α:Type} (c R e k:Nat) {F:Nat->α->PV} {g:α->Row} {L:List α} (x:α) {l l':wac} {e1 k1:Nat} {p:PV} (hs:σ.heap=waA c (waN g L) l) (hlow:wcK l) (hR:waa l R=some ⟨e1,k1,wbH c F L++[p]⟩) (hk1:1<=k1) (hpb:isByte p=false)
  (hg:g x=⟨e,k,[]⟩) (hval:∀ (w:World) (X:Nat->Nat->Prop) (φ:Nm) (H:wac) (v:Value),waa H (sn c L.length)=some { e,k,els:=[] }->φ (sn c L.length)=none->RepV w X φ H v p->RepV w X φ H v (F (sn c L.length) x))
  (hl:wal l R ⟨e1,k1,wbH c F (L++[x])⟩=l'):Sub G N σ ⟨σ.env,waA c (waN g (L++[x])) l',σ.dfr,σ.gh⟩:=by
 subst hl
 have hRl:R < 1000000:=Nat.lt_of_not_le fun h=>by rw[wcg hlow R h]at hR; cases hR
 have hR':waa σ.heap R=some ⟨e1,k1,wbH c F L++[p]⟩:=by rw[hs,wbr hRl]; exact hR
 have hn:waa σ.heap (sn c L.length)=none:=by rw[hs,wdy _ hlow,wcD]; simp
 refine(Sub.voidEl R L.length e k (sn c L.length) hR' hk1 (p:=p) (by simp[List.getElem?_append,nelF_length]) hpb hn (by unfold sn; omega) hval).trans ?_
 intro P B a w φ hr
 refine⟨φ,hr.same ?_ rfl⟩
 funext key
 cases key with
 | t t=>rfl
 | h s =>
  simp only[St.look,Cont.r.injEq]
  have e0:(wbH c F L++[p]).set L.length (F (sn c L.length) x)=wbH c F (L++[x]):=by
   have h1:(wbH c F L++[p]).set L.length (F (sn c L.length) x)=wbH c F L++[F (sn c L.length) x]:=by
    rw[List.set_append]; simp[nelF_length]
   rw[h1]; exact wrN _ L x
  have hlow':wcK (wal l R ⟨e1,k1,wbH c F (L++[x])⟩):=by
   have:∀ l:wac,wcK l->wcK (wal l R ⟨e1,k1,wbH c F (L++[x])⟩):=fun l=>by
    induction l with
    | nil=>exact fun _=>⟨hRl,trivial⟩
    | cons y l ih =>
     obtain⟨s,y⟩:=y
     intro h
     simp only[wal]
     split
     ·exact⟨h.1,h.2⟩
     ·exact⟨h.1,ih h.2⟩
   exact this l hlow
  rw[wai,wai,e0]
  by_cases h1:sn c L.length=s
  ·subst h1
   rw[if_pos rfl,wdy _ hlow',wcD]
   simp[hg]
  ·rw[if_neg h1]
   by_cases h2:R=s
   ·subst h2
    rw[if_pos rfl,wbr hRl,wai,if_pos rfl]
   ·rw[if_neg h2,hs]
    by_cases hlt:s < 1000000
    ·rw[wbr hlt,wbr hlt,wai,if_neg h2]
    ·have hl1:=wcg hlow s (by omega)
     have hl2:=wcg hlow' s (by omega)
     have hd:∀ (M:List (Option Row)) (l:wac),waa l s=none->waa (waA c M l) s=waa (wcb c 0 M) s:=fun M l hl=>by
      simp only[waA,wd0,hl]; cases waa (wcb c 0 M) s <;> rfl
     rw[hd _ _ hl1,hd _ _ hl2]
     by_cases hex:∃ j,s=sn c j
     ·obtain⟨j,rfl⟩:=hex
      have hj:j≠L.length:=fun e=>h1 (by rw[e])
      simp only[wfz,Nat.zero_le,if_true,Nat.sub_zero,wcD]
      rw[List.getElem?_append]
      by_cases hjl:j < L.length
      ·rw[if_pos hjl]
      ·rw[if_neg hjl,List.getElem?_eq_none (by omega),List.getElem?_eq_none (by simp; omega)]
     ·have hno:∀ (M:List (Option Row)),waa (wcb c 0 M) s=none:=fun M=>by
       cases hh:waa (wcb c 0 M) s with
       | none=>rfl
       | some y=>obtain⟨j,h3,_⟩:=wdH M 0 hh; exact absurd ⟨j,h3⟩ hex
      rw[hno,hno]
end
class NestP {α:Type} (F:Nat->α->PV) (g:α->Row) (pd:α->PD):Prop where
 frz:∀ H r x,waa H r=some (g x)->frz H (F r x)=some (pd x)
def wji:List (Nat×PV)->Prop
 | []=>True
 | (_,v)::l=>((rowsOf v).all fun r=>decide (r < 1000000))=true/\wji l
theorem wj1:∀ {l:List (Nat×PV)},wji l->∀ t,∀ r∈rowsOf (wam l t),r < 1000000
 | [],_,t,r,h=>by simp[wam,rowsOf]at h
 | (s,v)::l,h,t,r,hr=>by
  simp only[wam]at hr
  split at hr
  ·have:=List.all_eq_true.1 h.1 r hr
   simpa using this
  ·exact wj1 h.2 t r hr
def wlJ (R:Nat):wac->Prop
 | []=>True
 | (s,x)::l=>(s=R\/((rowsOfL x.els).all fun r=>decide (r < 1000000))=true)/\wlJ R l
theorem wl9 {R:Nat}:∀ {l:wac},wlJ R l->∀ s y,waa l s=some y->s≠R->∀ r∈rowsOfL y.els,r < 1000000
 | [],_,s,y,h,_,_,_=>by simp[waa]at h
 | (t,x)::l,h,s,y,hs,hne,r,hr=>by
  simp only[waa]at hs
  split at hs
  ·rename_i e; subst e; cases hs
   rcases h.1 with h1 | h1
   ·exact absurd h1 hne
   ·simpa using List.all_eq_true.1 h1 r hr
  ·exact wl9 h.2 s y hs hne r hr
section
variable {G:List (Nat×PD)} {N:Nat} {σ:St}
theorem Sub.unnest {α:Type} (c R:Nat) {F:Nat->α->PV} {g:α->Row} (pd:α->PD) [NestF F] [NestG g] [NestP F g pd] {L:List α} {l l':wac} {e k:Nat} (hs:σ.heap=waA c (waN g L) l) (hlow:wcK l) (hR:waa l R=some ⟨e,k,wbH c F L⟩)
  (henv:wji σ.env) (hrows:wlJ R l) (hd:σ.dfr=[]) (hgh:σ.gh=none) (hl:wal l R ⟨e,k,dl (wab pd L)⟩=l'):Sub G N σ ⟨σ.env,l',σ.dfr,σ.gh⟩:=by
 subst hl
 intro P B a w φ hr
 have hRl:R < 1000000:=Nat.lt_of_not_le fun h=>by rw[wcg hlow R h]at hR; cases hR
 have hsn:∀ j,waa σ.heap (sn c j)=(L[j]?).map g:=fun j=>by rw[hs,wdy j hlow,wcD]
 have hlo:∀ r,r < 1000000->waa σ.heap r=waa l r:=fun r h=>by rw[hs,wbr h]
 have hsmall:∀ s y,waa l s=some y->s < 1000000:=fun s y h=>Nat.lt_of_not_le fun h2=>by rw[wcg hlow s h2]at h; cases h
 have hback:∀ s y,waa (wal l R ⟨e,k,dl (wab pd L)⟩) s=some y->∃ y',waa σ.heap s=some y'/\y.k=y'.k/\y.e=y'.e/\y.els.length=y'.els.length/\s < 1000000:=fun s y h=>by
  rw[wai]at h
  split at h
  ·rename_i e1; subst e1; cases h
   exact⟨_,(hlo R hRl).trans hR,rfl,rfl,by simp[dl,wab,nelF_length],hRl⟩
  ·exact⟨y,(hlo s (hsmall s y h)).trans h,rfl,rfl,rfl,hsmall s y h⟩
 have hrow:∀ b,waD φ (wal l R ⟨e,k,dl (wab pd L)⟩) b->waD φ σ.heap b:=by
  rintro b ⟨s,y,h1,h2⟩
  obtain⟨y',h3,_⟩:=hback s y h1
  exact⟨s,y',h3,h2⟩
 have hown:∀ b,own φ (wal l R ⟨e,k,dl (wab pd L)⟩) b->own φ σ.heap b:=fun b h=>h.imp (hrow b) id
 have hok:∀ b kk,okd w B.X φ σ.heap b kk->okd w B.X φ (wal l R ⟨e,k,dl (wab pd L)⟩) b kk:=fun b kk h=>⟨h.1,h.2.1,fun ho=>h.2.2 (hown b ho)⟩
 have hext:ExtU ((List.range L.length).map (sn c)) w B.X φ σ.heap w φ (wal l R ⟨e,k,dl (wab pd L)⟩):=by
  refine⟨fun s x hns h=>?_,hok,fun b kk h=>⟨h.1,fun ho=>h.2 (hown b ho)⟩,fun _ kk _=>rfl,fun s x b _ h1 h2 c' e' f' hh=>⟨c',e',f',hh,rfl⟩⟩
  have h0:=h
  rw[hs]at h
  rcases wej h with ⟨j,rfl,h2⟩ | h
  ·rw[wcD]at h2
   have hj:j < L.length:=by
    cases hj:L[j]? with
    | none=>rw[hj]at h2; cases h2
    | some z=>exact(List.getElem?_eq_some_iff.1 hj).1
   exact absurd (List.mem_map.2 ⟨j,by simpa using hj,rfl⟩) hns
  ·by_cases hsR:R=s
   ·subst hsR; rw[hR]at h; cases h
    exact⟨⟨e,k,dl (wab pd L)⟩,by rw[wai,if_pos rfl],rfl,fun _=>by simp[dl,wab,nelF_length],rfl⟩
   ·exact⟨x,by rw[wai,if_neg hsR]; exact h,rfl,fun _=>rfl,rfl⟩
 have hlowval:∀ {v p},RepV w B.X φ σ.heap v p->(∀ r∈rowsOf p,r < 1000000)->RepV w B.X φ (wal l R ⟨e,k,dl (wab pd L)⟩) v p:=fun {v p} hv hp=>hv.extU hext fun r hr hm=>by
  obtain⟨j,_,rfl⟩:=List.mem_map.1 hm
  have:=hp _ hr
  unfold sn at this; omega
 have hsub:∀ j x b kk,waa σ.heap (sn c j)=some x->φ (sn c j)=some b->okd w B.X φ (wal l R ⟨e,k,dl (wab pd L)⟩) b kk:=fun j x b kk hx hb=>⟨hr.heap.lt hx hb,(hr.heap.rows _ x b hx hb).free kk,fun ho=>by
  rcases ho with ⟨s,y,hy,hs'⟩ | hT
  ·obtain⟨y',h3,_,_,_,h4⟩:=hback s y hy
   have e1:=hr.heap.inj s (sn c j) y' x b h3 hx hs' hb
   subst e1; unfold sn at h4; omega
  ·exact(hr.heap.far b hT).2.2 ⟨_,x,hx,hb⟩⟩
 refine⟨φ,Rep.of_sit ⟨⟨fun s y b hy hb=>?_,fun s y hy hb=>?_,fun s t y z b hy hz hb hb'=>?_,fun b hT=>⟨(hr.heap.far b hT).1,(hr.heap.far b hT).2.1,fun ho=>(hr.heap.far b hT).2.2 (hrow b ho)⟩⟩,hr.keeps,fun s y b hy hb=>?_,fun s y hy hp=>?_,fun s y b hy hp hb=>?_,?_,hr.tnew,?_⟩ hr.size (fun t=>hlowval (hr.env t) (wj1 henv t)) ?_⟩
 ·rw[wai]at hy
  by_cases hsR:R=s
  ·subst hsR
   rw[if_pos rfl]at hy; cases hy
   refine(hr.heap.rows R _ b ((hlo R hRl).trans hR) hb).turn rfl rfl (by simp[dl,wab,nelF_length]) (fun _ _ h=>h) (hr.heap.rows R _ b ((hlo R hRl).trans hR) hb).free (fun i hi hi' v hv=>?_) fun z hz=>?_
   ·have hi2:i < L.length:=by simpa [nelF_length]using hi
    have e1:(wbH c F L)[i]=F (sn c i) L[i]:=by
     have:=weU c F L i
     rw[List.getElem?_eq_getElem hi,List.getElem?_eq_getElem hi2]at this
     simpa using this
    have e2:(dl (wab pd L))[i]=.d (pd L[i]):=by simp[dl,wab]
    rw[e1]at hv
    rw[e2]
    have hgi:waa σ.heap (sn c i)=some (g L[i]):=by rw[hsn,List.getElem?_eq_getElem hi2]; rfl
    refine .d (wkW hr.heap hok hv (fun r hr' x b kk hx hb=>?_) (NestP.frz σ.heap (sn c i) L[i] hgi))
    have:=NestF.rows _ _ _ hr'
    subst this
    exact hsub i x b kk hx hb
   ·have:=hz.zero_of fun p hp=>by
     obtain⟨i,hi,rfl⟩:=List.getElem_of_mem hp
     have hi2:i < L.length:=by simpa [nelF_length]using hi
     have:=weU c F L i
     rw[List.getElem?_eq_getElem hi,List.getElem?_eq_getElem hi2]at this
     simp only[Option.map_some,Option.some.injEq]at this
     rw[this]; exact NestF.byte _ _
    subst this; exact .zero _
  ·rw[if_neg hsR]at hy
   have hy':=(hlo s (hsmall s y hy)).trans hy
   refine(hr.heap.rows s y b hy' hb).turn rfl rfl rfl (fun _ _ h=>h) (hr.heap.rows s y b hy' hb).free (fun i hi _ v hv=>hlowval hv fun r hr'=>wl9 hrows s y hy (Ne.symm hsR) r (wdx hi hr')) fun _ h=>h
 ·obtain⟨y',h1,_,_,h4,_⟩:=hback s y hy
  have:=hr.heap.void s y' h1 hb
  rw[this]at h4
  exact List.eq_nil_of_length_eq_zero h4
 ·obtain⟨y',h1,_⟩:=hback s y hy
  obtain⟨z',h2,_⟩:=hback t z hz
  exact hr.heap.inj s t y' z' b h1 h2 hb hb'
 ·obtain⟨y',h1,_⟩:=hback s y hy
  exact hr.new s y' b h1 hb
 ·obtain⟨y',h1,_⟩:=hback s y hy
  exact hr.pins s y' h1 hp
 ·obtain⟨y',h1,_⟩:=hback s y hy
  exact hr.psz s y' b h1 hp hb
 ·intro n y hm
  obtain⟨c',e',f',v,h1,h2,h3,h4,h5,h6⟩:=hr.glob n y hm
  exact⟨c',e',f',v,h1,fun ho=>h2 (hown n ho),h3.mono hok (fun _ _ _=>rfl),h4,h5,h6⟩
 ·rw[hgh]
  have:=hr.inv
  rw[hgh]at this
  exact this
 ·have:=hr.dfr
  rw[hd]at this ⊢
  refine this.map (f:=id) (fun D hD=>⟨hok D 0 hD,rfl⟩) (fun p hp=>by simp at hp)
end
theorem wm9 {gl:List (Nat×Nat)} (h:(gl.all fun p=>decide (p.1 < 1000000))=true) {s:Nat} (hs:1000000<=s):war gl s=s:=by
 induction gl with
 | nil=>rfl
 | cons p l ih =>
  obtain⟨a,b⟩:=p
  simp only[List.all_cons,Bool.and_eq_true,decide_eq_true_eq]at h
  simp only[war]
  rw[if_neg (by omega)]
  exact ih h.2
theorem wrR {gl:List (Nat×Nat)} (h:(gl.all fun p=>decide (p.2 < 1000000))=true) {s:Nat} (hs:s < 1000000):war gl s < 1000000:=by
 induction gl with
 | nil=>exact hs
 | cons p l ih =>
  obtain⟨a,b⟩:=p
  simp only[List.all_cons,Bool.and_eq_true,decide_eq_true_eq]at h
  simp only[war]
  split
  ·exact h.1
  ·exact ih h.2
theorem wna {α:Type} {c:Nat} {F:Nat->α->PV} [NestF F] {L:List α} {gl:List (Nat×Nat)} (h:(gl.all fun p=>decide (p.1 < 1000000))=true):renL (war gl) (wbH c F L)=wbH c F L:=by
 rw[wet]
 apply List.ext_getElem?
 intro i
 rw[List.getElem?_map,weU]
 cases L[i]? with
 | none=>rfl
 | some x=>simp only[Option.map_some,NestF.ren]; rw[wm9 h (by unfold sn; omega)]
theorem wnb {α:Type} {c:Nat} {F:Nat->α->PV} [NestF F] {L:List α}:cleanL (wbH c F L):=by
 have:∀ l:List PV,(∀ (i:Nat) (p:PV),l[i]? = some p->clean p)->cleanL l:=fun l=>by
  induction l with
  | nil=>exact fun _=>trivial
  | cons p l ih=>exact fun h=>⟨h 0 p rfl,ih fun i q hq=>h (i+1) q (by simpa using hq)⟩
 refine this _ fun i p hp=>?_
 rw[weU,Option.map_eq_some_iff]at hp
 obtain⟨x,_,rfl⟩:=hp
 exact NestF.clean _ _
def wnc (g:Nat->Nat) (H:wac):wac->Prop
 | []=>True
 | (s,x)::l=>((H.any fun y=>g y.1 == s)=true\/((rowsOfL x.els).all fun r=>decide (r < 1000000))=true)/\wnc g H l
theorem wnd {g:Nat->Nat} {H:wac}:∀ {l:wac},wnc g H l->∀ t y,waa l t=some y->(∀ r x,waa H r=some x->g r≠t)->∀ s∈rowsOfL y.els,s < 1000000
 | [],_,t,y,h,_,_,_=>by simp[waa]at h
 | (s,x)::l,h,t,y,hy,hn,r,hr=>by
  simp only[waa]at hy
  split at hy
  ·rename_i e; subst e; cases hy
   rcases h.1 with h1 | h1
   ·obtain⟨r',x',h2,h3⟩:=whj h1
    exact absurd h3 (hn r' x' h2)
   ·simpa using List.all_eq_true.1 h1 r hr
  ·exact wnd h.2 t y hy hn r hr
section
variable {P:Program} {G:List (Nat×PD)} {ro:Option Nat} {N:Nat} {ops:Array Oper} {σ σ':St} {o:Oper} {rest:List Oper}
theorem OpT.relook {K:St->Prop} (h:OpT P G ro N o σ (fun τ=>τ.look=σ'.look/\τ.rest=σ'.rest)) (hK:K σ'):OpT P G ro N o σ K :=
 fun B hro a w φ hr next Q hn=>h B hro a w φ hr next Q fun τ a' w' φ' h1 h2=>hn σ' a' w' φ' hK (h2.same h1.1 h1.2)
theorem OpT.callD {α:Type} {nc:Nat} {g:α->Row} [NestG g] {L L':List α} {c:Call} {f:FuncId} {xo:Operand} {caps args:List PV} {res:PV} {lH lH' lc:wac} {K:St->Prop} (gl:List (Nat×Nat)) (gs:List Nat)
    (hf:ObjFn P G f args (waA nc (waN g L) lH) res (waA nc (waN g L') lH')) (hs:σ.heap=waA nc (waN g L) lc) (hlH:wcK lH) (hlH':wcK lH') (hlc:wcK lc)
    (hg1:(gl.all fun p=>decide (p.1 < 1000000))=true) (hg2:(gl.all fun p=>decide (p.2 < 1000000))=true)
    (hd:wao N o.dst) (ho:o.op=.call c) (hc:c.callee=.value xo) (hx:wcB (σ.eval xo)=some (f,caps)) (hcal:wbd P f=true)
    (hrow:weo lc (war gl) (waA nc (waN g L) lH) lH) (hinj:wd5 (war gl) lH) (hgs:wiT (war gl) gs lH) (him:wmu (war gl) lH gs) (hgl:(gs.all fun p=>decide (p < 1000000))=true)
    (henv:wg1 gs σ.env) (henv2:wji σ.env) (hdfr:σ.dfr=[]) (hout:wfX (war gl) lH gs lc) (hout2:wnc (war gl) lH lc)
    (ha:wdq σ.heap (waA nc (waN g L) lH) (war gl) (wau σ c.args.toList++caps) args)
    (hback:wfI lH (war gl) gs (waA nc (waN g L') lH') lH') (hall:whg lH' lH) (hinj2:wd5 (war gl) lH') (hcl:clean res) (hrf:refsIn (waA nc (waN g L') lH') res)
    (hK:K (({ σ with heap:=waA nc (waN g L') (wbP (war gl) lH' (wbA gs lc)) }:St).put o.dst (res.ren (war gl)))):OpT P G ro N o σ K:=by
  have hsn:∀ (M:List α) (l:wac),wcK l->∀ j,waa (waA nc (waN g M) l) (sn nc j)=(M[j]?).map g:=fun M l hl j=>by rw[wdy j hl,wcD]
  have hcase:∀ (M:List α) (l:wac),wcK l->∀ r x,waa (waA nc (waN g M) l) r=some x->(∃ j,r=sn nc j/\(M[j]?).map g=some x)\/(r < 1000000/\waa l r=some x):=fun M l hl r x h=>by
    rcases wej h with ⟨j,h1,h2⟩ | h
    · rw[wcD]at h2; exact .inl ⟨j,h1,h2⟩
    · by_cases hr:r < 1000000
      · exact .inr ⟨hr,h⟩
      · rw[wcg hl r (by omega)]at h; cases h
  have hbig:∀ j,1000000<=sn nc j:=fun j=>by unfold sn; omega
  have hlow:∀ r,r < 1000000->war gl r < 1000000:=fun r h=>wrR hg2 h
  have hhigh:∀ j,war gl (sn nc j)=sn nc j:=fun j=>wm9 hg1 (hbig j)
  have hlen:∀ (M:List α) j x,(M[j]?).map g=some x->j < M.length/\∃ z,M[j]? = some z/\x=g z:=fun M j x h=>by
    cases hj:M[j]? with
    | none=>rw[hj]at h; cases h
    | some z=>rw[hj]at h; simp only[Option.map_some,Option.some.injEq]at h; exact⟨(List.getElem?_eq_some_iff.1 hj).1,z,rfl,h.symm⟩
  have hgsl:∀ s∈gs,s < 1000000:=fun s h=>by simpa using List.all_eq_true.1 hgl s h
  have hmem:∀ s,s∈gs++(List.range L.length).map (sn nc) ↔ s∈gs\/∃ j,j < L.length/\s=sn nc j:=fun s=>by
    simp only[List.mem_append,List.mem_map,List.mem_range]
    exact or_congr Iff.rfl ⟨fun ⟨j,h1,h2⟩=>⟨j,h1,h2.symm⟩,fun ⟨j,h1,h2⟩=>⟨j,h1,h2.symm⟩⟩
  have hrefs:∀ (H0:wac) (x:α),refsInL H0 (g x).els:=fun H0 x=>by
    obtain⟨_,l,h⟩:=NestG.data (g:=g) x
    rw[h,wiu]; trivial
  have hclean:∀ (x:α),cleanL (g x).els:=fun x=>by
    obtain⟨_,l,h⟩:=NestG.data (g:=g) x
    rw[h]
    induction l with
    | nil=>trivial
    | cons p l ih => exact ⟨trivial, (by have : ∀ l : List PD, cleanL (l.map PV.d) := fun l => by
                                          induction l with
                                          | nil=>trivial
                                          | cons q l ih=>exact⟨trivial,ih⟩
                                         exact this l)⟩
  have hinj0:∀ (M:List α) (l:wac),wcK l->wd5 (war gl) l->∀ r s x y,waa (waA nc (waN g M) l) r=some x->waa (waA nc (waN g M) l) s=some y->war gl r=war gl s->r=s:=fun M l hl hi r s x y h h' he=>by
    rcases hcase M l hl r x h with ⟨j,rfl,_⟩ | ⟨h1,h2⟩ <;> rcases hcase M l hl s y h' with ⟨j',rfl,_⟩ | ⟨h1',h2'⟩
    · rw[hhigh,hhigh]at he; exact he
    · rw[hhigh]at he; have:=hlow s h1'; have:=hbig j; omega
    · rw[hhigh]at he; have:=hlow r h1; have:=hbig j'; omega
    · exact wd6 hi r s x y (waK h2) (waK h2') he
  have hnone:∀ j,L.length<=j->waa σ.heap (sn nc j)=none:=fun j h=>by rw[hs,hsn L lc hlc,List.getElem?_eq_none h]; rfl
  refine OpT.relook (σ':=({ σ with heap:=waA nc (waN g L') (wbP (war gl) lH' (wbA gs lc)) }:St).put o.dst (res.ren (war gl))) ?_ hK
  refine OpT.callU (H:=waA nc (waN g L) lH) (g:=war gl) (gs:=gs++(List.range L.length).map (sn nc)) ho hc hx hcal hf
    ⟨⟨fun r x h=>?_,hinj0 L lH hlH hinj,fun r x h=>?_⟩,fun r x h hr=>?_,fun r x h hr=>?_,fun s h=>?_,fun s h=>?_,fun s h t=>?_,fun s _=>by rw[hdfr]; simp[rowsOfL],fun s h t y hy hn=>?_⟩ ha hd ?_
  · rcases hcase L lH hlH r x h with ⟨j,rfl,h2⟩ | ⟨h1,h2⟩
    · obtain⟨_,z,_,rfl⟩:=hlen L j x h2
      rw[hhigh,hs,hsn L lc hlc,h2,NestG.ren]
    · rw[hs,wbr (hlow r h1)]; exact(wdU hrow r x h2).1
  · rcases hcase L lH hlH r x h with ⟨j,rfl,h2⟩ | ⟨h1,h2⟩
    · obtain⟨_,z,_,rfl⟩:=hlen L j x h2; exact hrefs _ z
    · exact(wdU hrow r x h2).2
  · rw[hmem]
    rcases hcase L lH hlH r x h with ⟨j,rfl,h2⟩ | ⟨h1,h2⟩
    · exact .inr ⟨j,(hlen L j x h2).1,hhigh j⟩
    · have:=wfY hgs r x h2
      rw[if_neg (by omega)]at this; exact .inl this
  · rw[hmem]
    rintro(h3 | ⟨j,_,h3⟩)
    · rcases hcase L lH hlH r x h with ⟨j,rfl,h2⟩ | ⟨h1,h2⟩
      · have:=hbig j; omega
      · have:=wfY hgs r x h2
        rw[if_pos hr]at this; exact this h3
    · have:=hlow r (by omega); have:=hbig j; omega
  · rcases (hmem s).1 h with h | ⟨j,h1,rfl⟩
    · obtain⟨⟨r,x,h2,h3⟩,_⟩:=wfZ him s h
      have hr:r < 1000000:=Nat.lt_of_not_le fun h4=>by rw[wcg hlH r h4]at h2; cases h2
      exact⟨r,x,by rw[wbr hr]; exact h2,h3⟩
    · exact⟨sn nc j,g L[j],by rw[hsn L lH hlH,List.getElem?_eq_getElem h1]; rfl,hhigh j⟩
  · rcases (hmem s).1 h with h | ⟨j,h1,rfl⟩
    · exact(wfZ him s h).2
    · have:=hbig j; omega
  · rcases (hmem s).1 h with h | ⟨j,h1,rfl⟩
    · exact whk henv s h t
    · intro hm; have:=wj1 henv2 t _ hm; have:=hbig j; omega
  · have hy0:=hy
    rw[hs]at hy
    have hty:waa lc t=some y:=by
      rcases hcase L lc hlc t y hy with ⟨j,rfl,h2⟩ | ⟨h1,h2⟩
      · exact absurd (hhigh j) (hn (sn nc j) y (by rw[hsn L lH hlH]; exact h2))
      · exact h2
    have hn':∀ r x,waa lH r=some x->war gl r≠t:=fun r x hx=>hn r x (by
      have hr:r < 1000000:=Nat.lt_of_not_le fun h4=>by rw[wcg hlH r h4]at hx; cases hx
      rw[wbr hr]; exact hx)
    rcases (hmem s).1 h with h | ⟨j,h1,rfl⟩
    · exact wgy hout s h t y hty hn'
    · intro hm; have:=wnd hout2 t y hty hn' _ hm; have:=hbig j; omega
  · rintro p H' ⟨rfl,rfl⟩
    have hb:BackU σ (waA nc (waN g L) lH) (waA nc (waN g L') lH') (war gl) (war gl) (gs++(List.range L.length).map (sn nc)):=by
      refine⟨fun r x' h hr=>?_,fun r x h hr=>?_,fun r x' h hr=>?_,hinj0 L' lH' hlH' hinj2,fun r x h=>?_⟩
      · rcases hcase L' lH' hlH' r x' h with ⟨j,rfl,h2⟩ | ⟨h1,h2⟩
        · have:=hbig j; omega
        · have:=(wdz hback r x' h2).1
          rw[if_pos hr]at this
          split at this
          · rename_i y hy; exact⟨y,by rw[wbr (by omega)]; exact hy,rfl,this.1,fun hk=>this.2.resolve_left (by have:=this.1; omega)⟩
          · exact this.elim
      · rcases hcase L lH hlH r x h with ⟨j,rfl,h2⟩ | ⟨h1,h2⟩
        · have:=hbig j; omega
        · obtain⟨x',hx'⟩:=Option.isSome_iff_exists.1 (wge hall r x (waK h2))
          exact⟨x',by rw[wbr h1]; exact hx'⟩
      · rw[hmem]
        rcases hcase L' lH' hlH' r x' h with ⟨j,rfl,h2⟩ | ⟨h1,h2⟩
        · rw[hhigh]
          refine⟨?_,by have:=hbig j; omega⟩
          by_cases hj:j < L.length
          · exact .inr (.inr ⟨j,hj,rfl⟩)
          · exact .inl (hnone j (by omega))
        · have:=(wdz hback r x' h2).1
          rw[if_neg (by omega)]at this
          exact⟨.inr (.inl (by simpa using this.1)),this.2⟩
      · rcases hcase L' lH' hlH' r x h with ⟨j,rfl,h2⟩ | ⟨h1,h2⟩
        · obtain⟨_,z,_,rfl⟩:=hlen L' j x h2; exact⟨hrefs _ z,hclean z⟩
        · exact(wdz hback r x h2).2
    refine⟨war gl,hb,hcl,hrf,?_⟩
    have hm:=hb.merged
    have hmin:∀ r x,waa lH' r=some x->waa (wbP (war gl) lH' (wbA gs lc)) (war gl r)=some (x.ren (war gl)):=(whv (ρ:=war gl) (l:=lH') (H0:=wbA gs lc) (fun r s hr hs he=>by
      obtain⟨x,hx⟩:=Option.isSome_iff_exists.1 hr
      obtain⟨y,hy⟩:=Option.isSome_iff_exists.1 hs
      exact wd6 hinj2 r s x y (waK hx) (waK hy) he)).1
    have hmout:∀ s,(∀ r x,waa lH' r=some x->war gl r≠s)->waa (wbP (war gl) lH' (wbA gs lc)) s=if s∈gs then none else waa lc s:=fun s h=>((whv (ρ:=war gl) (l:=lH') (H0:=wbA gs lc) (fun r s hr hs he=>by
      obtain⟨x,hx⟩:=Option.isSome_iff_exists.1 hr
      obtain⟨y,hy⟩:=Option.isSome_iff_exists.1 hs
      exact wd6 hinj2 r s x y (waK hx) (waK hy) he)).2 s h).trans (wgx _ _ _)
    have hlm:∀ s,1000000<=s->waa (wbP (war gl) lH' (wbA gs lc)) s=none:=fun s h=>by
      rw[hmout s fun r x hx e=>by
        have hr:r < 1000000:=Nat.lt_of_not_le fun h4=>by rw[wcg hlH' r h4]at hx; cases hx
        have:=hlow r hr; omega]
      split
      · rfl
      · exact wcg hlc s h
    have hheap:∀ s,waa (wbP (war gl) (waA nc (waN g L') lH') (wbA (gs++(List.range L.length).map (sn nc)) σ.heap)) s=waa (waA nc (waN g L') (wbP (war gl) lH' (wbA gs lc))) s:=fun s=>by
      by_cases hex:∃ r x,waa (waA nc (waN g L') lH') r=some x/\war gl r=s
      · obtain⟨r,x,h1,rfl⟩:=hex
        rw[hm.inn r x h1]
        rcases hcase L' lH' hlH' r x h1 with ⟨j,rfl,h2⟩ | ⟨h3,h2⟩
        · obtain⟨_,z,_,rfl⟩:=hlen L' j x h2
          rw[hhigh,NestG.ren]
          have:waa (waA nc (waN g L') (wbP (war gl) lH' (wbA gs lc))) (sn nc j)=(((waN g L')[j]?).join):=by
            simp only[waA,wd0,wfz,Nat.zero_le,if_true,Nat.sub_zero,hlm _ (hbig j)]
            cases ((waN g L')[j]?).join <;> rfl
          rw[this,wcD,h2]
        · rw[wbr (hlow r h3),hmin r x h2]
      · have hn:∀ r x,waa (waA nc (waN g L') lH') r=some x->war gl r≠s:=fun r x h1 h2=>hex ⟨r,x,h1,h2⟩
        rw[hm.out s hn,hs]
        by_cases hsl:s < 1000000
        · rw[wbr hsl,wbr hsl]
          have hn':∀ r x,waa lH' r=some x->war gl r≠s:=fun r x hx=>hn r x (by
            have hr:r < 1000000:=Nat.lt_of_not_le fun h4=>by rw[wcg hlH' r h4]at hx; cases hx
            rw[wbr hr]; exact hx)
          rw[hmout s hn']
          by_cases h1:s∈gs
          · rw[if_pos ((hmem s).2 (.inl h1)),if_pos h1]
          · rw[if_neg h1,if_neg]
            intro h2
            rcases (hmem s).1 h2 with h2 | ⟨j,_,rfl⟩
            · exact h1 h2
            · have:=hbig j; omega
        · have hd2:∀ (M:List (Option Row)) (l:wac),waa l s=none->waa (waA nc M l) s=waa (wcb nc 0 M) s:=fun M l hl=>by
            simp only[waA,wd0,hl]; cases waa (wcb nc 0 M) s <;> rfl
          rw[hd2 _ _ (hlm s (by omega))]
          have h0:waa (wcb nc 0 (waN g L')) s=none:=by
            cases hh:waa (wcb nc 0 (waN g L')) s with
            | none=>rfl
            | some y =>
              obtain⟨j,rfl,h3,_⟩:=wdH _ 0 hh
              rw[Nat.sub_zero,wcD]at h3
              exact absurd (hhigh j) (hn (sn nc j) y (by rw[hsn L' lH' hlH']; exact h3))
          rw[h0]
          split
          · rfl
          · rename_i hns
            rw[hd2 _ _ (wcg hlc s (by omega))]
            cases hh:waa (wcb nc 0 (waN g L)) s with
            | none=>rfl
            | some y =>
              obtain⟨j,rfl,h3,_⟩:=wdH _ 0 hh
              rw[Nat.sub_zero,wcD]at h3
              exact absurd ((hmem _).2 (.inr ⟨j,(hlen L j y h3).1,rfl⟩)) hns
    refine⟨?_,by rw[St.put_rest,St.put_rest]; rfl⟩
    funext key
    cases key with
    | t t=>cases hdst:o.dst <;> simp[St.look,St.put]
    | h s =>
      have:=hheap s
      cases hdst:o.dst <;> simp[St.look,St.put,this]
end
end Go.Pv

namespace Go.Pv
section
variable {P:Program} {G:List (Nat×PD)} {ro:Option Nat} {N:Nat} {ops:Array Oper} {σ σ':St} {o:Oper} {rest:List Oper}
@[go_sem] theorem nelF_cleanT {α:Type} {c:Nat} {F:Nat->α->PV} [NestF F] {L:List α}:cleanL (wbH c F L)=True:=eq_true wnb
theorem wt6 {α:Type} (c:Nat) (g:α->Row):Sub G N σ ⟨σ.env,waA c (waN g []) σ.heap,σ.dfr,σ.gh⟩:=fun _ _ _ _ φ hr=>⟨φ,hr⟩
theorem drp (e':List (Nat×PV)) (h:wlw e' σ.env:=by(repeat' (first | exact trivial | exact rfl | exact wsw (by(simp only[List.length_append,List.length_set,List.length_replicate,List.length_cons,List.length_nil,Nat.zero_add]; done)) | apply And.intro))):Sub G N σ ⟨e',σ.heap,σ.dfr,σ.gh⟩:=by
 intro P B a w φ hr
 refine⟨φ,⟨hr.size,fun t=>?_,hr.heap,hr.keeps,hr.new,hr.pins,hr.psz,hr.glob,hr.tnew,hr.inv,hr.dfr⟩⟩
 rcases wkM h t with h | h
 ·rw[h]; exact .any _
 ·rw[h]; exact hr.env t
theorem Sub.voidVar (s e k r:Nat) {x:Row} (hs:waa σ.heap s=some x) (hk1:1<=x.k) (hels:x.els=[.d .nilslice]) (hr0:waa σ.heap r=none) (hr:1000<=r) (hk:1<=k) :
  Sub G N σ { env:=σ.env,heap:=wal (wal σ.heap s { x with els:=[.slc r 0 0] }) r { e,k,els:=[] },dfr:=σ.dfr,gh:=σ.gh }:=by
 have h:=Sub.voidEl (G:=G) (N:=N) (σ:=σ) s 0 e k r (x:=x) (p:=.d .nilslice) (p':=.slc r 0 0) hs hk1 (by rw[hels]; rfl) rfl hr0 hr fun w X φ H v h1 h2 h3=>wsE hk h1 h2 h3
 rw[hels]at h
 exact h
theorem fcs {α:Type} (c i q:Nat) (y:Row) {F:Nat->α->PV} {g:α->Row} [NestF F] [NestG g] {L:List α} {x:α} {l l':wac} {e':List (Nat×PV)} (hx:L[i]? = some x)
  (hy:g x=y:=by rfl) (hs:σ.heap=waA c (waN g L) l:=by rfl) (hlow:wcK l:=by(repeat' (first | exact trivial | decide | apply And.intro))) (hq:waa l q=none:=by rfl) (hq1:1000<=q:=by decide) (hq2:q < 1000000:=by decide)
  (hl:wcV (foc c i q) l=l':=by(simp only[wcV,Row.ren,renL,PV.ren,dl_ren,mels_ren,optP_ren,we7,Nat.reduceLT]; rfl)) (he:wgz (foc c i q) σ.env=e':=by(simp only[wgz,renL,PV.ren,optP_ren,we7,Nat.reduceLT]; rfl)) (hd:σ.dfr=[]:=by rfl) :
  Sub G N σ ⟨e',waA c ((waN g L).set i none) ((q,y)::l'),σ.dfr,σ.gh⟩:=hy▸Sub.focus (F:=F) c i q hx hs hlow hq hq1 hq2 hl he hd
mutual
theorem PV.ren_id:∀ p:PV,p.ren id=p
 | .func fn l=>by simp only[PV.ren,renL_id l]
 | .agg l=>by simp only[PV.ren,renL_id l]
 | .tuple l=>by simp only[PV.ren,renL_id l]
 | .ptr ..=>by simp only[PV.ren,id]
 | .slc ..=>by simp only[PV.ren,id]
 | .mp ..=>by simp only[PV.ren,id]
 | .any | .d _ | .b _ | .dptr .. | .bptr .. | .glob _ | .val _=>by simp only[PV.ren]
theorem renL_id:∀ l:List PV,renL id l=l
 | []=>by simp only[renL]
 | p::l=>by simp only[renL,PV.ren_id p,renL_id l]
end
theorem Row.ren_id (x:Row):x.ren id=x:=by simp only[Row.ren,renL_id]
theorem Sub.same {H:wac} (h:∀ r,waa H r=waa σ.heap r):Sub G N σ ⟨σ.env,H,σ.dfr,σ.gh⟩ :=
 Sub.ren (ρ:=id) ⟨fun t=>(PV.ren_id _).symm,fun r x hx=>by rw[Row.ren_id]; exact(h r).trans hx,fun s y hy=>⟨s,y,(h s).symm.trans hy,rfl⟩,fun r s _ _ _ _ e=>e,fun _ _ _ _=>rfl,fun _ _ _ hr=>hr,by
  show σ.dfr=σ.dfr.map (PV.ren id)
  rw[<-wet,renL_id],rfl⟩
def wtc (ρ:Nat->Nat) (o:Option Row) (y:Row):Prop:=match o with
 | some x=>x.e=y.e/\x.k=y.k/\renL ρ x.els=y.els
 | none=>False
def wo1 (ρ:Nat->Nat) (l:wac):wac->Prop
 | []=>True
 | (s,y)::m=>wtc ρ (waa l s) y/\wo1 ρ l m
theorem wom {ρ:Nat->Nat} {l:wac}:∀ {m:wac},wo1 ρ l m->∀ s y,(s,y)∈m->wtc ρ (waa l s) y
 | (r,x)::m,h,s,y,hm=>by
  rcases List.mem_cons.1 hm with hm | hm
  ·cases hm; exact h.1
  ·exact wom h.2 s y hm
theorem wsF {ρ:Nat->Nat} {l m:wac} (h:wo1 ρ l m) (hall:whg m l) (r:Nat):waa m r=waa (wcV ρ l) r:=by
 rw[wfs]
 cases hm:waa m r with
 | some y =>
  have:=wom h r y (waK hm)
  cases hl:waa l r with
  | none=>rw[hl]at this; exact this.elim
  | some x =>
   rw[hl]at this
   obtain⟨h2,h3,h4⟩:=this
   simp only[Option.map_some,Row.ren,h4]
   cases x; cases y; simp only at h2 h3; subst h2 h3; rfl
 | none =>
  cases hl:waa l r with
  | none=>rfl
  | some x=>have:=wge hall r x (waK hl); rw[hm]at this; cases this
theorem ufc {α:Type} (c i q:Nat) {F:Nat->α->PV} {g:α->Row} [NestF F] [NestG g] {L:List α} (x:α) (l':wac) {l:wac} {e':List (Nat×PV)} (hi:i < L.length)
  (hs:σ.heap=waA c ((waN g L).set i none) l:=by rfl) (hlow:wcK l:=by(repeat' (first | exact trivial | decide | apply And.intro))) (hq:waa l q=some (g x):=by rfl) (hq1:1000<=q:=by decide) (hq2:q < 1000000:=by decide)
  (hl:wo1 (unf c i q) (wbA [q] l) l') (hall:whg l' (wbA [q] l):=by(repeat' (first | exact trivial | exact rfl | apply And.intro))) (he:wgz (unf c i q) σ.env=e':=by rfl) (hd:σ.dfr=[]:=by rfl) :
  Sub G N σ ⟨e',waA c (waN g (L.set i x)) l',σ.dfr,σ.gh⟩:=fun P B a w φ hr=>by
 obtain⟨φ,hr⟩:=Sub.unfocus (F:=F) c i q x hi hs hlow hq hq1 hq2 rfl he hd P B a w φ hr
 refine Sub.same (fun r=>?_) P B a w φ hr
 simp only[waA,wd0,wsF hl hall]
theorem psh {α:Type} (c R j:Nat) {F:Nat->α->PV} {g:α->Row} {L:List α} (x:α) {l l':wac} {e k e1 k1:Nat} {p:PV} {cs:List PV}
  (hs:σ.heap=waA c (waN g L) l:=by rfl) (hlow:wcK l:=by(repeat' (first | exact trivial | decide | apply And.intro))) (hR:waa l R=some ⟨e1,k1,wbH c F L++[p]⟩:=by rfl) (hk1:1<=k1:=by decide) (hpb:isByte p=false:=by rfl)
  (hg:g x=⟨e,k,[]⟩:=by rfl) (hk:1<=k:=by decide) (hp:wdp p=true:=by rfl) (hcs:way p=some cs:=by rfl) (hi:cs[j]? = some (.d .nilslice):=by rfl) (hF:∀ r,PV.agg (cs.set j (.slc r 0 0))=F r x:=by(intro r; rfl))
  (hl:wal l R ⟨e1,k1,wbH c F (L++[x])⟩=l':=by(simp only[wal,↓reduceIte,Nat.reduceEqDiff]; rfl)):Sub G N σ ⟨σ.env,waA c (waN g (L++[x])) l',σ.dfr,σ.gh⟩ :=
 Sub.push c R e k x hs hlow hR hk1 hpb hg (fun w X φ H v h1 h2 h3=>hF _▸wsD hp hcs hi hk h1 h2 h3) hl
theorem unn {α:Type} (c R:Nat) {F:Nat->α->PV} {g:α->Row} (pd:α->PD) [NestF F] [NestG g] [NestP F g pd] {L:List α} {l l':wac} {e k:Nat}
  (hs:σ.heap=waA c (waN g L) l:=by rfl) (hlow:wcK l:=by(repeat' (first | exact trivial | decide | apply And.intro))) (hR:waa l R=some ⟨e,k,wbH c F L⟩:=by rfl)
  (henv:wji σ.env:=by(repeat' (first | exact trivial | exact rfl | apply And.intro))) (hrows:wlJ R l:=by(repeat' (first | exact trivial | exact .inl rfl | exact .inr rfl | exact .inr (by simp only[go_sem,List.all_nil]) | apply And.intro))) (hd:σ.dfr=[]:=by rfl) (hgh:σ.gh=none:=by rfl)
  (hl:wal l R ⟨e,k,dl (wab pd L)⟩=l':=by(simp only[wal,↓reduceIte,Nat.reduceEqDiff]; rfl)):Sub G N σ ⟨σ.env,l',σ.dfr,σ.gh⟩:=Sub.unnest (F:=F) c R pd hs hlow hR henv hrows hd hgh hl
theorem clD {α:Type} {nc:Nat} {g:α->Row} [NestG g] {L L':List α} {c:Call} {f:FuncId} {xo:Operand} {caps args:List PV} {res:PV} {lH lH' lc:wac} {Q:St->Prop} (gl:List (Nat×Nat)) (gs:List Nat)
  (hf:ObjFn P G f args (waA nc (waN g L) lH) res (waA nc (waN g L') lH')) (h2:AOps P G ro N ops rest σ' Q)
  (hd:wao N o.dst:=by(simp only[go_sem,↓reduceIte]; done)) (hg:∀ {K:St->Prop},OpT P G ro N o σ K->wfh P G ro N (wbq ops) o σ K:=by(intro K k; simp(disch:=omega) only[go_sem,↓reduceIte]; exact k))
  (hs:σ.heap=waA nc (waN g L) lc:=by rfl) (hlH:wcK lH:=by(repeat' (first | exact trivial | decide | apply And.intro))) (hlH':wcK lH':=by(repeat' (first | exact trivial | decide | apply And.intro))) (hlc:wcK lc:=by(repeat' (first | exact trivial | decide | apply And.intro)))
  (hg1:(gl.all fun p=>decide (p.1 < 1000000))=true:=by rfl) (hg2:(gl.all fun p=>decide (p.2 < 1000000))=true:=by rfl)
  (ho:o.op=.call c:=by rfl) (hc:c.callee=.value xo:=by rfl) (hx:wcB (σ.eval xo)=some (f,caps):=by rfl) (hcal:wbd P f=true:=by kernel_rfl)
  (hrow:weo lc (war gl) (waA nc (waN g L) lH) lH:=by(simp(disch:=decide) only[weo,Row.ren,wna]; simp only[go_sem,↓reduceIte]; (repeat' (first | exact trivial | exact rfl | exact dyS rfl | exact wbc (by(repeat' (first | exact trivial | decide | apply And.intro))) | (simp only[List.length_append,List.length_set,List.length_replicate,List.length_cons,List.length_nil,Nat.zero_add]; exact rfl) | apply And.intro))))
  (hinj:wd5 (war gl) lH:=by(simp only[wd5,wfp,go_sem,↓reduceIte]; (repeat' (first | exact trivial | (intro h; cases h; done) | apply And.intro))))
  (hgs:wiT (war gl) gs lH:=by(simp only[wiT,go_sem,↓reduceIte]; (repeat' (first | exact trivial | exact rfl | apply And.intro))))
  (him:wmu (war gl) lH gs:=by(repeat' (first | exact trivial | exact rfl | decide | apply And.intro))) (hgl:(gs.all fun p=>decide (p < 1000000))=true:=by rfl)
  (henv:wg1 gs σ.env:=by(repeat' (first | exact trivial | exact rfl | apply And.intro))) (henv2:wji σ.env:=by(repeat' (first | exact trivial | exact rfl | apply And.intro))) (hdfr:σ.dfr=[]:=by rfl)
  (hout:wfX (war gl) lH gs lc:=by(repeat' (first | exact trivial | exact .inl rfl | exact .inr rfl | exact .inr (by simp only[go_sem,List.any_nil]) | apply And.intro)))
  (hout2:wnc (war gl) lH lc:=by(repeat' (first | exact trivial | exact .inl rfl | exact .inr rfl | exact .inr (by simp only[go_sem,List.all_nil]) | apply And.intro)))
  (ha:wdq σ.heap (waA nc (waN g L) lH) (war gl) (wau σ c.args.toList++caps) args:=by(repeat' (first | exact trivial | exact rfl | exact dyS rfl | apply And.intro | (simp only[go_sem,↓reduceIte]; done))))
  (hback:wfI lH (war gl) gs (waA nc (waN g L') lH') lH':=by(simp only[wfI,go_sem,↓reduceIte]; (repeat' (first | exact trivial | exact rfl | exact dyS rfl | exact wbc (by(repeat' (first | exact trivial | decide | apply And.intro))) | exact wnb | exact .inl trivial | exact .inl rfl | exact .inr rfl | decide | apply And.intro))))
  (hall:whg lH' lH:=by(repeat' (first | exact trivial | exact rfl | apply And.intro))) (hinj2:wd5 (war gl) lH':=by(simp only[wd5,wfp,go_sem,↓reduceIte]; (repeat' (first | exact trivial | (intro h; cases h; done) | apply And.intro))))
  (hp:({ σ with heap:=waA nc (waN g L') (wbP (war gl) lH' (wbA gs lc)) }:St).put o.dst (res.ren (war gl))=σ':=by(simp(disch:=decide) only[wbP,Row.ren,wna]; simp only[wbA,go_sem,↓reduceIte]; rfl))
  (hcl:clean res:=by(simp only[clean,cleanL,and_self]; done)) (hrf:refsIn (waA nc (waN g L') lH') res:=by(first | exact trivial | exact rfl | (simp only[go_sem,↓reduceIte]; done))) :
  AOps P G ro N ops (o::rest) σ Q :=
 AOps.consC hd fun K hK=>hg (OpT.callD gl gs hf hs hlH hlH' hlc hg1 hg2 hd ho hc hx hcal hrow hinj hgs him hgl henv henv2 hdfr hout hout2 ha hback hall hinj2 hcl hrf (hp▸hK _ h2))
end
end Go.Pv

namespace Go.Pv
section
variable {P:Program} {G:List (Nat×PD)} {ro:Option Nat} {N:Nat} {xs:Exc} {σ:St} {o:Oper}
end
end Go.Pv

