/- TariffDiagrams answers true for every input, as its tied card says: under the conditions of the card (Rows, Cards, Tie), no more. Part 2 of 7: by one AI agent and its programs; no person has read it. -/
import Derived.Test.YtnfnkllhjaemnaaDoorTariffDiagramsA
import Derived.OrdersIn
import Derived.Laws.StructEq
import Derived.ChangeKeysEq
import Derived.Lib.MinMax
set_option linter.unusedSimpArgs false
set_option linter.unusedVariables false
set_option linter.all false

namespace Go.Pv
inductive Key where
 | t (n:Nat)
 | h (n:Nat)
 deriving DecidableEq
inductive Cont where
 | v (p:PV)
 | r (x:Option Row)
abbrev SF:=Key->Cont
def St.look (σ:St):SF
 | .t n=>.v (wam σ.env n)
 | .h n=>.r (waa σ.heap n)
abbrev Eff:=List (Key×Cont)
def wdl:Eff->Key->Option Cont
 | [],_=>none
 | (k,c)::l,k'=>if k=k' then some c else wdl l k'
def SF.app (s:SF) (e:Eff):SF:=fun k=>(wdl e k).getD (s k)
def wct (e:Eff):List Key:=e.map (·.1)
theorem wq5 {e:Eff} {k:Key} (h:k ∉ wct e):wdl e k=none:=by
 induction e with
 | nil=>rfl
 | cons x l ih =>
  obtain⟨k',c⟩:=x
  simp only[wct,List.map_cons,List.mem_cons,not_or]at h
  simp only[wdl]
  rw[if_neg (Ne.symm h.1)]
  exact ih h.2
theorem wq6 {e:Eff} {k:Key} (h:k∈wct e):∃ c,wdl e k=some c:=by
 induction e with
 | nil=>simp[wct]at h
 | cons x l ih =>
  obtain⟨k',c⟩:=x
  simp only[wdl]
  by_cases hk:k'=k
  ·exact⟨c,if_pos hk⟩
  ·rw[if_neg hk]
   simp only[wct,List.map_cons,List.mem_cons]at h
   exact ih (h.resolve_left (Ne.symm hk))
theorem wen {s:SF} {e:Eff} {k:Key} (h:k ∉ wct e):s.app e k=s k:=by simp[SF.app,wq5 h]
theorem wjG {s s':SF} {e:Eff} {k:Key} (h:k∈wct e):s.app e k=s'.app e k:=by
 obtain⟨c,hc⟩:=wq6 h
 simp[SF.app,hc]
def wba (s0:SF) (E:Nat->Eff) (D:Nat->Bool):Nat->SF
 | 0=>s0
 | i+1=>if D i then (wba s0 E D i).app (E i)else wba s0 E D i
section
variable {s0:SF} {E:Nat->Eff} {n:Nat} {pre:Nat->Nat->Prop} {rd:Nat->Key->Prop}
structure Ordered (n:Nat) (E:Nat->Eff) (rd:Nat->Key->Prop) (pre:Nat->Nat->Prop):Prop where
 lt:∀ i j,pre i j->i < j
 apart:∀ i j,i < j->j < n->pre i j\/((∀ k,k∈wct (E i)->¬ rd j k/\k ∉ wct (E j))/\∀ k,k∈wct (E j)->¬ rd i k)
theorem wq7 (D:Nat->Bool) {j:Nat} (hDj:D j=false) {k:Key} (h:∀ i,i < n->i≠j->k∈wct (E i)->(D i=true ↔ i < j)) (hj:j < n):wba s0 E D n k=wba s0 E (fun _=>true) j k:=by
  have h1:∀ m,m<=j->wba s0 E D m k=wba s0 E (fun _=>true) m k:=by
    intro m
    induction m with
    | zero=>intro _; rfl
    | succ m ih =>
      intro hm
      simp only[wba,if_true]
      by_cases hk:k∈wct (E m)
      · have:=(h m (by omega) (by omega) hk).2 (by omega)
        rw[if_pos this]
        exact wjG hk
      · rw[wen hk,<-ih (by omega)]
        split
        · exact wen hk
        · rfl
  have h2:∀ m,j<=m->m<=n->wba s0 E D m k=wba s0 E D j k:=by
    intro m
    induction m with
    | zero => intro h _; have : j = 0 := by omega
              subst this; rfl
    | succ m ih =>
      intro hm hmn
      by_cases hjm:j=m+1
      · subst hjm; rfl
      · simp only[wba]
        by_cases hDm:D m=true
        · rw[if_pos hDm]
          have hmj:m≠j:=fun e=>by rw[e,hDj]at hDm; cases hDm
          have hk:k ∉ wct (E m):=fun hk=>by
            have:=(h m (by omega) hmj hk).1 hDm; omega
          rw[wen hk]
          exact ih (by omega) (by omega)
        · rw[if_neg hDm]; exact ih (by omega) (by omega)
  rw[h2 n (by omega) (Nat.le_refl _),h1 j (Nat.le_refl _)]
theorem wsp (ho:Ordered n E rd pre) (D:Nat->Bool) (hcl:∀ i j,pre i j->D j=true->D i=true) {j:Nat} (hj:j < n) (hDj:D j=false) (hpre:∀ i,pre i j->D i=true) :
  wba s0 E (fun i=>D i||decide (i=j)) n=(wba s0 E D n).app (E j):=by
 funext k
 have hcmp:∀ i,i < n->i≠j->D i=true->j < i->k∈wct (E j)->k ∉ wct (E i):=fun i hi hne hDi hlt hk=>by
  rcases ho.apart j i hlt hi with h | h
  ·have:=hcl j i h hDi; rw[hDj]at this; cases this
  ·exact(h.1 k hk).2
 have h1:∀ m,m<=j->wba s0 E (fun i=>D i||decide (i=j)) m k=wba s0 E D m k:=by
  intro m
  induction m with
  | zero=>intro _; rfl
  | succ m ih =>
   intro hm
   simp only[wba,show ¬ m=j by omega,decide_false,Bool.or_false]
   split
   ·simp only[SF.app,ih (by omega)]
   ·exact ih (by omega)
 have h2:∀ m,j+1<=m->m<=n->wba s0 E (fun i=>D i||decide (i=j)) m k=(wba s0 E D m).app (E j) k:=by
  intro m
  induction m with
  | zero=>intro h; omega
  | succ m ih =>
   intro hm hmn
   by_cases hmj:m=j
   ·subst hmj
    simp only[wba,decide_true,Bool.or_true,if_true,hDj,Bool.false_eq_true,if_false]
    by_cases hk:k∈wct (E m)
    ·exact wjG hk
    ·rw[wen hk,wen hk,h1 m (Nat.le_refl _)]
   ·have ih:=ih (by omega) (by omega)
    simp only[wba,hmj,decide_false,Bool.or_false]
    by_cases hDm:D m=true
    ·rw[if_pos hDm,if_pos hDm]
     by_cases hkj:k∈wct (E j)
     ·have hkm:=hcmp m (by omega) hmj hDm (by omega) hkj
      rw[wen hkm,ih]
      exact wjG hkj
     ·rw[wen hkj]at ih ⊢
      by_cases hkm:k∈wct (E m)
      ·exact wjG hkm
      ·rw[wen hkm,wen hkm,ih]
    ·rw[if_neg hDm,if_neg hDm]; exact ih
 exact h2 n (by omega) (Nat.le_refl _)
theorem wq8 (ho:Ordered n E rd pre) (D:Nat->Bool) (hcl:∀ i j,pre i j->D j=true->D i=true) {j:Nat} (hj:j < n) (hDj:D j=false) (hpre:∀ i,pre i j->D i=true) {k:Key} (hk:rd j k) :
  wba s0 E D n k=wba s0 E (fun _=>true) j k:=by
 refine wq7 D hDj (fun i hi hne hki=>?_) hj
 constructor
 ·intro hDi
  rcases Nat.lt_or_gt_of_ne hne with h | h
  ·exact h
  ·rcases ho.apart j i h hi with h' | h'
   ·have:=hcl j i h' hDi; rw[hDj]at this; cases this
   ·exact absurd hk (h'.2 k hki)
 ·intro hlt
  rcases ho.apart i j hlt hj with h | h
  ·exact hpre i h
  ·exact absurd hk (h.1 k hki).1
theorem wpd (D:Nat->Bool):∀ m,(∀ i,i < m->D i=true)->wba s0 E D m=wba s0 E (fun _=>true) m
 | 0,_=>rfl
 | m+1,h=>by simp only[wba,h m (by omega),if_true,wpd D m (fun i hi=>h i (by omega))]
end
def St.rest (σ:St):List PV×Gh:=(σ.dfr,σ.gh)
mutual
def rowsOf:PV->List Nat
 | .ptr r _ _=>[r]
 | .slc r _ _=>[r]
 | .mp r=>[r]
 | .func _ l=>rowsOfL l
 | .agg l=>rowsOfL l
 | .tuple l=>rowsOfL l
 | .any=>[]
 | .d _=>[]
 | .b _=>[]
 | .dptr _ _ _ _=>[]
 | .bptr _ _ _ _=>[]
 | .glob _=>[]
 | .val _=>[]
def rowsOfL:List PV->List Nat
 | []=>[]
 | p::l=>rowsOf p++rowsOfL l
end
theorem wdx {l:List PV} {i:Nat} (hi:i < l.length) {r:Nat} (h:r∈rowsOf l[i]):r∈rowsOfL l:=by
 induction l generalizing i with
 | nil=>simp at hi
 | cons p l ih =>
  simp only[rowsOfL,List.mem_append]
  cases i with
  | zero=>exact .inl h
  | succ i=>exact .inr (ih (by simpa using hi) (by simpa using h))
def Cont.rows:Cont->List Nat
 | .v p=>rowsOf p
 | .r (some x)=>rowsOfL x.els
 | .r none=>[]
abbrev Exc:=List (Nat×List Nat)
def Key.among:Key->List Nat->Bool
 | .t n,S=>S.contains n
 | .h n,S=>S.contains (n+1000000)
def exOk:Exc->Key->Cont->Prop
 | [],_,_=>True
 | (r,S)::l,k,c=>(k.among S=true\/c.rows.contains r=false)/\exOk l k c
def exE (xs:Exc):Eff->Prop
 | []=>True
 | (k,c)::l=>exOk xs k c/\exE xs l
theorem wqx {xs:Exc}:∀ {e:Eff},exE xs e->∀ k c,wdl e k=some c->exOk xs k c
 | (k',c')::l,h,k,c,hf=>by
  simp only[wdl]at hf
  split at hf
  ·rename_i hk; subst hk; simp only[Option.some.injEq]at hf; subst hf; exact h.1
  ·exact wqx h.2 k c hf
theorem wqy {xs:Exc} {s0:SF} {E:Nat->Eff} {D:Nat->Bool} (h0:∀ k,exOk xs k (s0 k)):∀ n,(∀ i,i < n->exE xs (E i))->∀ k,exOk xs k (wba s0 E D n k)
 | 0,_,k=>h0 k
 | n+1,h,k=>by
  have ih:=wqy (D:=D) h0 n (fun i hi=>h i (by omega)) k
  simp only[wba]
  split
  ·simp only[SF.app]
   cases hf:wdl (E n) k with
   | none=>exact ih
   | some c=>exact wqx (h n (by omega)) k c hf
  ·exact ih
theorem wsq (k:Key) (c:Cont):exOk [] k c=True:=rfl
theorem wlz (e:Eff):exE [] e=True:=by
 induction e with
 | nil=>rfl
 | cons x l ih=>obtain⟨k,c⟩:=x; simp only[exE,wsq,ih,and_self]
def wpe {P:Program} (G:List (Nat×PD)) (B:Base P) (N:Nat) (z:List PV×Gh) (s:SF) (a:Act) (w:World):Prop:=∃ σ φ,σ.rest=z/\σ.look=s/\Rep G B N σ a w φ
def Loc (P:Program) (G:List (Nat×PD)) (ro:Option Nat) (N:Nat) (xs:Exc) (ops:Array Oper) (o:Oper) (rd:Key->Prop) (e:Eff) (z:List PV×Gh) (s:SF):Prop :=
 ∀ s':SF,(∀ k,rd k->s' k=s k)->(∀ k,exOk xs k (s' k))->∀ (B:Base P),B.ro=ro->∀ a w,wpe G B N z s' a w->∀ (next:Act->World->Prop) (Q:Exit->Act->World->Prop),(∀ a' w',wpe G B N z (s'.app e) a' w'->next a' w') →
  if Region.wanted o (yielded ops a.tmps)then o.wpIn (Fw ro) 0 P a w next Q else (∀ f,o.about P w a.eval=some f->(Fw ro).fn f)/\next (a.put o.dst undef) w
def wgU (ops:Array Oper) (i j:Nat):Prop:=∃ o,ops[j]? = some o/\∃ e∈o.after.toList,Region.binds .any e=true/\e.on=i
inductive Prec (ops:Array Oper):Nat->Nat->Prop
 | one {i j:Nat} (h:wgU ops i j):Prec ops i j
 | more {i k j:Nat} (h:wgU ops k j) (h':Prec ops i k):Prec ops i j
section
variable {P:Program} {G:List (Nat×PD)} {ro:Option Nat} {N:Nat} {ops:Array Oper}
theorem Prec.lt (he:∀ i j,wgU ops i j->i < j) {i j:Nat} (h:Prec ops i j):i < j:=by
 induction h with
 | one h=>exact he _ _ h
 | more h _ ih=>exact Nat.lt_trans ih (he _ _ h)
theorem wjH (he:∀ i j,wgU ops i j->i < j):∀ listed:Array Bool,listed.size=ops.size->Region.ready .any ops listed=[]->∀ i,i < ops.size->listed.getD i true=true:=by
 intro listed hs hr i
 induction i using Nat.strongRecOn with
 | _ i ih =>
  intro hi
  cases hl:listed.getD i true with
  | true=>rfl
  | false =>
   exfalso
   have:i∈Region.ready .any ops listed:=by
    unfold Region.ready
    rw[List.mem_filter]
    refine⟨by simpa using hi,?_⟩
    simp only[hl,Bool.not_false,Bool.true_and,Array.getElem?_eq_getElem hi,Option.map_some,Option.getD_some]
    rw[Array.all_eq_true]
    intro m hm
    simp only[Bool.or_eq_true,Bool.not_eq_true']
    by_cases hb:Region.binds .any (ops[i].after[m])=true
    ·right
     have hedge:wgU ops (ops[i].after[m]).on i:=⟨ops[i],Array.getElem?_eq_getElem hi,ops[i].after[m],by simp,hb,rfl⟩
     have hlt:=he _ _ hedge
     have:=ih _ hlt (by omega)
     have hlt2:(ops[i].after[m]).on < listed.size:=by omega
     simpa [Array.getD,hlt2]using this
    ·left; simpa using hb
   rw[hr]at this
   simp at this
theorem wht (listed:Array Bool) {i:Nat} (hi:i∈Region.ready .any ops listed):∃ hi:i < ops.size,listed.getD i true=false/\∀ k,wgU ops k i->listed.getD k false=true:=by
 unfold Region.ready at hi
 rw[List.mem_filter]at hi
 obtain⟨h1,h2⟩:=hi
 have hi:i < ops.size:=by simpa using h1
 simp only[Bool.and_eq_true,Bool.not_eq_true',Array.getElem?_eq_getElem hi,Option.map_some,Option.getD_some]at h2
 refine⟨hi,h2.1,?_⟩
 rintro k ⟨o,ho,e,hm,hb,rfl⟩
 rw[Array.getElem?_eq_getElem hi]at ho
 simp only[Option.some.injEq]at ho; subst ho
 have h3:=h2.2
 rw[Array.all_eq_true]at h3
 obtain⟨m,hm1,rfl⟩:=List.getElem_of_mem hm
 have hm':m < ops[i].after.size:=by rw[<-Array.length_toList]; exact hm1
 have:=h3 m hm'
 simp only[Bool.or_eq_true,Bool.not_eq_true']at this
 rcases this with h | h
 ·rw[show (ops[i].after.toList[m])=ops[i].after[m]'hm' by simp]at hb
  rw[hb]at h; cases h
 ·simpa using h
theorem wjI (he:∀ i j,wgU ops i j->i < j) {listed:Array Bool} (hs:listed.size=ops.size) (hcl:∀ i j,Prec ops i j->listed.getD j true=true->j < ops.size->listed.getD i true=true) {j:Nat} (hj:j∈Region.ready .any ops listed) :
  ∀ i,Prec ops i j->listed.getD i true=true:=by
 obtain⟨hj1,hj2,hj3⟩:=wht listed hj
 have hgd:∀ k,k < ops.size->listed.getD k false=true->listed.getD k true=true:=fun k hk h=>by
  have:k < listed.size:=by omega
  simpa [Array.getD,this]using h
 intro i h
 cases h with
 | one h=>exact hgd i (by have:=he _ _ h; omega) (hj3 i h)
 | more h h' =>
  rename_i k
  have hk:=hgd k (by have:=he _ _ h; omega) (hj3 k h)
  exact hcl i k h' hk (by have:=he _ _ h; omega)
theorem wjJ {listed:Array Bool} (hs:listed.size=ops.size) {j:Nat} (hj1:j < ops.size):∀ i,(listed.setIfInBounds j true).getD i true=(listed.getD i true||decide (i=j)):=fun i=>by
 have hjs:j < listed.size:=by omega
 by_cases hij:i=j
 ·subst hij; simp[Array.getD,hjs]
 ·simp only[hij,decide_false,Bool.or_false]
  simp[Array.getD_eq_getD_getElem?,Array.getElem?_setIfInBounds,Ne.symm hij]
theorem wqe {m:Nat} (he:∀ i j,wgU ops i j->i < j) (hch:∀ j,m<=j->j < ops.size->∀ i,i < j->Prec ops i j) {Q:Exit->Act->World->Prop} :
  ∀ (fuel j:Nat) (listed:Array Bool),m<=j->j<=ops.size->listed.size=ops.size->(∀ i,i < ops.size->(listed.getD i true=true ↔ i < j))->ops.size - j<=fuel →
   ∀ a w,wpL (Fw ro) 0 P ops Q (ops.toList.drop j) a w->wpAnyIn (Fw ro) 0 P .any ops Q fuel listed a w:=by
 intro fuel
 induction fuel with
 | zero =>
  intro j listed hm hj hs hl hf a w hw
  have hj:j=ops.size:=by omega
  subst hj
  rw[List.drop_of_length_le (by simp)]at hw
  refine⟨?_,hw⟩
  cases hr:Region.ready .any ops listed with
  | nil=>rfl
  | cons x l =>
   obtain⟨hi,h1,_⟩:=wht listed (i:=x) (by rw[hr]; simp)
   rw[(hl x hi).2 hi]at h1; cases h1
 | succ fuel ih =>
  intro j listed hm hj hs hl hf a w hw
  refine⟨fun hr=>?_,fun i hi=>?_⟩
  ·have hall:=wjH he listed hs hr
   have:j=ops.size:=by
    by_cases hjn:j < ops.size
    ·exact absurd ((hl j hjn).1 (hall j hjn)) (Nat.lt_irrefl _)
    ·omega
   subst this
   rw[List.drop_of_length_le (by simp)]at hw
   exact hw
  ·have hcl:∀ i k,Prec ops i k->listed.getD k true=true->k < ops.size->listed.getD i true=true:=fun i k h hk hkn=>by
    have h1:=(hl k hkn).1 hk
    have h2:=h.lt he
    exact(hl i (by omega)).2 (by omega)
   have hp:=wjI he hs hcl hi
   obtain⟨hi1,hi2,_⟩:=wht listed hi
   have hge:¬ i < j:=fun h=>by rw[(hl i hi1).2 h]at hi2; cases hi2
   have hij:i=j:=by
    by_cases h:j < i
    ·have:=hp j (hch i (by omega) hi1 j h)
     exact absurd ((hl j (by omega)).1 this) (Nat.lt_irrefl _)
    ·omega
   subst hij
   have hset:=wjJ (ops:=ops) hs hi1
   have hd:ops.toList.drop i=ops[i]::ops.toList.drop (i+1):=by
    rw[List.drop_eq_getElem_cons (by simpa using hi1)]; simp
   have hnext:∀ a w,wpL (Fw ro) 0 P ops Q (ops.toList.drop (i+1)) a w->wpAnyIn (Fw ro) 0 P .any ops Q fuel (listed.setIfInBounds i true) a w :=
    ih (i+1) _ (by omega) (by omega) (by simpa using hs) (fun k hk=>by
     rw[hset k,Bool.or_eq_true,decide_eq_true_eq,hl k hk]; omega) (by omega)
   rw[hd,wpL]at hw
   unfold wpOpIn
   simp only[Array.getElem?_eq_getElem hi1]
   split at hw
   ·rename_i hwant
    rw[if_pos hwant]
    exact Oper.wpIn_mono hnext hw
   ·rename_i hwant
    rw[if_neg hwant]
    exact⟨hw.1,hnext _ _ hw.2⟩
theorem woa (n j:Nat) (hj:j<=n):(List.range n).countP (fun i=>decide (i < j))=j:=by
 induction n with
 | zero=>simp; omega
 | succ n ih =>
  rw[List.range_succ,List.countP_append]
  by_cases h:j<=n
  ·rw[ih h]; simp[show ¬ n < j by omega]
  ·have:j=n+1:=by omega
   subst this
   have:(List.range n).countP (fun i=>decide (i < n+1))=(List.range n).length:=List.countP_eq_length.2 (fun i hi=>by simp at hi ⊢; omega)
   rw[this]; simp
theorem wrD {xs:Exc} {E:Nat->Eff} {rd:Nat->Key->Prop} {s0:SF} {z:List PV×Gh} {b m:Nat} (hm:m<=ops.size) (ho:Ordered m E rd (Prec ops)) (he:∀ i j,wgU ops i j->i < j)
    (hloc:∀ i (hi:i < ops.size),b<=i->i < m->Loc P G ro N xs ops ops[i] (rd i) (E i) z (wba s0 E (fun _=>true) i)) (hch:∀ j,m<=j->j < ops.size->∀ i,i < m->Prec ops i j)
    {Q:Exit->Act->World->Prop} {B:Base P} (hx0:∀ k,exOk xs k (s0 k)) (hxE:∀ i,i < m->exE xs (E i)) (hro:B.ro=ro)
    (hQ:∀ (fuel:Nat) (listed:Array Bool),listed.size=ops.size->(∀ i,i < ops.size->(listed.getD i true=true ↔ i < m))->ops.size - m<=fuel->∀ a w,wpe G B N z (wba s0 E (fun _=>true) m) a w->wpAnyIn (Fw ro) 0 P .any ops Q fuel listed a w) :
    ∀ (fuel:Nat) (listed:Array Bool),listed.size=ops.size->(∀ i j,Prec ops i j->listed.getD j true=true->j < ops.size->listed.getD i true=true)->(∀ j,m<=j->j < ops.size->listed.getD j true=false)->(∀ i,i < b->listed.getD i true=true) →
      (ops.size - (List.range ops.size).countP (fun i=>listed.getD i true)<=fuel) →
      ∀ a w,wpe G B N z (wba s0 E (fun i=>listed.getD i true) m) a w->wpAnyIn (Fw ro) 0 P .any ops Q fuel listed a w:=by
  -- once the first ones are done
  have hend:∀ (fuel:Nat) (listed:Array Bool),listed.size=ops.size->(∀ j,m<=j->j < ops.size->listed.getD j true=false)->(ops.size - (List.range ops.size).countP (fun i=>listed.getD i true)<=fuel)->(∀ i,i < m->listed.getD i true=true) →
      ∀ a w,wpe G B N z (wba s0 E (fun i=>listed.getD i true) m) a w->wpAnyIn (Fw ro) 0 P .any ops Q fuel listed a w:=by
    intro fuel listed hs hno hf hall a w hrep
    rw[wpd _ _ hall]at hrep
    have hl:∀ i,i < ops.size->(listed.getD i true=true ↔ i < m):=fun i hi=>by
      refine⟨fun h=>?_,hall i⟩
      by_cases him:i < m
      · exact him
      · rw[hno i (by omega) hi]at h; cases h
    refine hQ fuel listed hs hl ?_ a w hrep
    have hc:(List.range ops.size).countP (fun i=>listed.getD i true)=m:=by
      rw[<-woa ops.size m hm]
      exact List.countP_congr (fun i hi=>by rw[hl i (by simpa using hi)]; simp)
    omega
  intro fuel
  induction fuel with
  | zero =>
    intro listed hs hcl hno hfirst hf a w hrep
    have hall:∀ i,i < ops.size->listed.getD i true=true:=by
      intro i hi
      have hc:(List.range ops.size).countP (fun i=>listed.getD i true)=(List.range ops.size).length:=by
        have:=List.countP_le_length (p:=fun i=>listed.getD i true) (l:=List.range ops.size)
        simp only[List.length_range]at this ⊢
        omega
      exact List.countP_eq_length.1 hc i (by simpa using hi)
    exact hend 0 listed hs hno hf (fun i hi=>hall i (by omega)) a w hrep
  | succ fuel ih =>
    intro listed hs hcl hno hfirst hf a w hrep
    by_cases hpre:∀ i,i < m->listed.getD i true=true
    · exact hend (fuel+1) listed hs hno hf hpre a w hrep
    refine⟨fun hr=>absurd (fun i hi=>wjH he listed hs hr i (by omega)) hpre,fun j hj=>?_⟩
    obtain⟨hj1,hj2,hj3⟩:=wht listed hj
    have hp:=wjI he hs hcl hj
    have hjm:j < m:=by
      by_cases h:j < m
      · exact h
      · exact absurd (fun i hi=>hp i (hch j (by omega) hj1 i hi)) hpre
    have hbj:b<=j:=by
      rcases Nat.lt_or_ge j b with h | h
      · rw[hfirst j h]at hj2; cases hj2
      · exact h
    have hset:=wjJ (ops:=ops) hs hj1
    have hcl':∀ i k,Prec ops i k->(fun i=>listed.getD i true) k=true->(fun i=>listed.getD i true) i=true:=fun i k h hk=>by
      by_cases hks:k < ops.size
      · exact hcl i k h hk hks
      · exfalso
        have:∃ o,ops[k]? = some o:=by cases h with
          | one h=>obtain⟨o,ho,_⟩:=h; exact⟨o,ho⟩
          | more h _=>obtain⟨o,ho,_⟩:=h; exact⟨o,ho⟩
        obtain⟨o,ho⟩:=this
        exact hks (Array.getElem?_eq_some_iff.1 ho).1
    have hread:∀ k,rd j k->wba s0 E (fun i=>listed.getD i true) m k=wba s0 E (fun _=>true) j k:=fun k hk =>
      wq8 ho (fun i=>listed.getD i true) hcl' hjm hj2 hp hk
    have hadd:wba s0 E (fun i=>listed.getD i true||decide (i=j)) m=(wba s0 E (fun i=>listed.getD i true) m).app (E j) :=
      wsp ho (fun i=>listed.getD i true) hcl' hjm hj2 hp
    have hl:=hloc j hj1 hbj hjm _ hread (wqy hx0 m hxE) B hro a w hrep (wpAnyIn (Fw ro) 0 P .any ops Q fuel (listed.setIfInBounds j true)) Q (fun a' w' h=>by
      refine ih _ (by simpa using hs) (fun i k hik hk hks=>?_) (fun k hk hks=>?_) (fun i hi=>by rw[hset,hfirst i hi]; rfl) ?_ a' w' ?_
      · rw[hset]at hk ⊢
        simp only[Bool.or_eq_true,decide_eq_true_eq]at hk ⊢
        rcases hk with hk | rfl
        · exact .inl (hcl i k hik hk hks)
        · exact .inl (hp i hik)
      · rw[hset,hno k hk hks]; simp; omega
      · have hcount:(List.range ops.size).countP (fun i=>listed.getD i true) < (List.range ops.size).countP (fun i=>(listed.setIfInBounds j true).getD i true):=by
          have hmono:∀ (l:List Nat),j∈l->l.countP (fun i=>listed.getD i true) < l.countP (fun i=>(listed.setIfInBounds j true).getD i true):=by
            have hle:∀ (l:List Nat),l.countP (fun i=>listed.getD i true)<=l.countP (fun i=>(listed.setIfInBounds j true).getD i true):=fun l =>
              List.countP_mono_left (fun x _ hx=>by simp only[hset,Bool.or_eq_true]; exact .inl hx)
            intro l
            induction l with
            | nil=>intro h; simp at h
            | cons x l ihl =>
              intro h
              rw[List.countP_cons,List.countP_cons]
              by_cases hx:x=j
              · subst hx
                have e1:(listed.setIfInBounds x true).getD x true=true:=by rw[hset]; simp
                have:=hle l
                simp only[hj2,Bool.false_eq_true,if_false,e1,if_true]
                omega
              · have:=ihl (by simpa [Ne.symm hx]using h)
                have e2:(listed.setIfInBounds j true).getD x true=listed.getD x true:=by rw[hset]; simp[hx]
                rw[e2]; omega
          exact hmono _ (by simpa using hj1)
        omega
      · have e:(fun i=>(listed.setIfInBounds j true).getD i true)=fun i=>listed.getD i true||decide (i=j):=funext hset
        rw[e,hadd]; exact h)
    unfold wpOpIn
    simp only[Array.getElem?_eq_getElem hj1]
    exact hl
end
end Go.Pv

namespace Go.Pv
mutual
def valRows:PV->List Nat
 | .ptr r _ _=>[r]
 | .slc r _ _=>[r]
 | .mp r=>[r]
 | .agg l=>valRowsL l
 | .any=>[]
 | .d _=>[]
 | .b _=>[]
 | .dptr _ _ _ _=>[]
 | .bptr _ _ _ _=>[]
 | .glob _=>[]
 | .val _=>[]
 | .func _ _=>[]
 | .tuple _=>[]
def valRowsL:List PV->List Nat
 | []=>[]
 | p::l=>valRows p++valRowsL l
end
def wjK:Option Operand->List Operand
 | some x=>[x]
 | none=>[]
def wav:Op->List Operand
 | .move x=>[x]
 | .assign x=>[x]
 | .pick c a b=>[c,a,b]
 | .binOp _ _ x y _=>[x,y]
 | .unOp _ _ x=>[x]
 | .convert _ _ x=>[x]
 | .fieldAddr _ x _=>[x]
 | .field _ x _=>[x]
 | .indexAddr _ x i=>[x,i]
 | .extract x _=>[x]
 | .build _ parts=>parts.toList.map (·.2)
 | .load _ x=>[x]
 | .slice _ x lo hi none=>x::(wjK lo++wjK hi)
 | .makeFunc _ first captured=>first.toList++captured.toList
 | .call c=>c.args.toList
 | .nilCheck x=>[x]
 | .makeInterface _ x=>[x]
 | .box _ x=>[x]
 | .makeSlice _ l c=>[l,c]
 | .buildSlice _ _ parts=>parts.toList.map (·.2)
 | .store _ ad x=>[ad,x]
 | _=>[]
def waM:List Operand->List Key
 | []=>[]
 | .tmp t::l=>.t t::waM l
 | .const _::l=>waM l
 | .global _::l=>waM l
 | .func _::l=>waM l
def wcT (σ:St):List Operand->List Key
 | []=>[]
 | x::l=>(valRows (σ.eval x)).map .h++wcT σ l
section
variable {P:Program} {G:List (Nat×PD)} {σ σ':St}
theorem wcN {l:List Operand} (h:∀ k∈waM l,σ'.look k=σ.look k):∀ x∈l,σ'.eval x=σ.eval x:=by
 induction l with
 | nil=>intro x hx; cases hx
 | cons y l ih =>
  intro x hx
  have hl:∀ k∈waM l,σ'.look k=σ.look k:=fun k hk=>h k (by cases y <;> simp[waM,hk])
  rcases List.mem_cons.1 hx with rfl | hx
  ·cases x with
   | tmp t =>
    have:=h (.t t) (by simp[waM])
    simp only[St.look,Cont.v.injEq]at this
    exact this
   | _=>rfl
  ·exact ih hl x hx
theorem whV {l:List Operand} (h:∀ k∈wcT σ l,σ'.look k=σ.look k):∀ x∈l,∀ r∈valRows (σ.eval x),waa σ'.heap r=waa σ.heap r:=by
 induction l with
 | nil=>intro x hx; cases hx
 | cons y l ih =>
  intro x hx r hr
  rcases List.mem_cons.1 hx with rfl | hx
  ·have:=h (.h r) (by simp only[wcT,List.mem_append,List.mem_map]; exact .inl ⟨r,hr,rfl⟩)
   simp only[St.look,Cont.r.injEq]at this
   exact this
  ·exact ih (fun k hk=>h k (by simp[wcT,hk])) x hx r hr
theorem wcd:∀ {l:List Operand},(∀ x∈l,σ'.eval x=σ.eval x)->wau σ' l=wau σ l
 | [],_=>rfl
 | x::l,h=>by simp only[wau]; rw[h x (by simp),wcd fun y hy=>h y (by simp[hy])]
theorem wiO:∀ {l:List (Nat×Operand)},(∀ x∈l.map (·.2),σ'.eval x=σ.eval x)->whT σ' l=whT σ l
 | [],_=>rfl
 | (i,x)::l,h=>by simp only[whT]; rw[h x (by simp),wiO fun y hy=>h y (by simp only[List.map_cons,List.mem_cons]; exact .inr hy)]
theorem wkQ {o:Option Operand} (h:∀ x∈wjK o,σ'.eval x=σ.eval x):we2 σ' o=we2 σ o:=by
 cases o with
 | none=>rfl
 | some x=>simp only[we2]; rw[h x (by simp[wjK])]
theorem wqf {H H':wac} {t:TypeId} {p:PV} (h:∀ r∈valRows p,waa H' r=waa H r):wit P G H' t p=wit P G H t p:=by
 cases p <;> try rfl
 rename_i r i off
 simp only[wit]; rw[h r (by simp[valRows])]
theorem wpf {H H':wac} {q:Nat} {lo hi:Option Int} {p:PV} (h:∀ r∈valRows p,waa H' r=waa H r):wh6 q H' lo hi p=wh6 q H lo hi p:=by
 cases p with
 | slc r a n=>simp only[wh6]; rw[h r (by simp[valRows])]
 | d x=>cases x <;> rfl
 | b x=>cases x <;> rfl
 | _=>rfl
theorem woK {H H':wac} {n:Nat} {i:Int} {p:PV} (h:∀ r∈valRows p,waa H' r=waa H r):wh3 n H' i p=wh3 n H i p:=by
 cases p with
 | slc r a n=>simp only[wh3]; rw[h r (by simp[valRows])]
 | d x=>cases x <;> rfl
 | b x=>cases x <;> rfl
 | _=>rfl
mutual
theorem frz_agree {H H':wac}:∀ (p:PV),(∀ r∈valRows p,waa H' r=waa H r)->frz H' p=frz H p
 | .slc r _ _,h=>by simp only[frz]; rw[h r (by simp[valRows])]
 | .agg l,h=>by simp only[frz]; rw[frzL_agree l (fun r hr=>h r (by simpa [valRows]using hr))]
 | .any,_=>rfl
 | .d _,_=>rfl
 | .b _,_=>rfl
 | .ptr _ _ _,_=>rfl
 | .dptr _ _ _ _,_=>rfl
 | .bptr _ _ _ _,_=>rfl
 | .glob _,_=>rfl
 | .val _,_=>rfl
 | .func _ _,_=>rfl
 | .tuple _,_=>rfl
 | .mp _,_=>rfl
theorem frzL_agree {H H':wac}:∀ (l:List PV),(∀ r∈valRowsL l,waa H' r=waa H r)->frzL H' l=frzL H l
 | [],_=>rfl
 | p::l,h=>by
  simp only[frzL]
  rw[frz_agree p (fun r hr=>h r (by simp[valRowsL,hr])),frzL_agree l (fun r hr=>h r (by simp[valRowsL,hr]))]
end
theorem wh9 {H H':wac}:∀ {l m:List PV},(∀ p∈l,∀ r∈valRows p,waa H' r=waa H r)->wdD H l m->wdD H' l m
 | [],[],_,_=>trivial
 | p::l,q::m,h,ha=>by
  refine⟨?_,wh9 (fun p hp=>h p (by simp[hp])) ha.2⟩
  have h1:=ha.1
  cases q with
  | b x =>
   rcases h1 with h1 | h1
   ·exact .inl h1
   ·exact .inr (by rw[frz_agree p (h p (by simp))]; exact h1)
  | _=>exact h1
 | [],_::_,_,h=>h.elim
 | _::_,[],_,h=>h.elim
theorem wkR {op:Op} (h:∀ x∈wav op,σ'.eval x=σ.eval x) (hr:∀ x∈wav op,∀ r∈valRows (σ.eval x),waa σ'.heap r=waa σ.heap r):wcl P G σ' op=wcl P G σ op:=by
 cases op <;> try rfl
 all_goals simp only[wav,List.mem_cons,List.mem_append,List.not_mem_nil,or_false,forall_eq_or_imp,forall_eq]at h hr
 all_goals try (simp only[wcl]; simp only[h]; done)
 case indexAddr t x i =>
  simp only[wcl,whU,h.1,h.2]
  split <;> try rfl
  exact woK hr.1
 case build t parts =>
  simp only[wcl]; rw[wiO h]
 case load t x=>simp only[wcl,h]; exact wqf hr
 case slice t x lo hi mx =>
  cases mx with
  | some _=>rfl
  | none =>
   simp only[wav,List.mem_cons,List.mem_append,forall_eq_or_imp]at h hr
   simp only[wcl,wjx,h.1,wkQ fun x hx=>h.2 x (.inl hx),wkQ fun x hx=>h.2 x (.inr hx)]
   split <;> try rfl
   exact wpf hr.1
 case makeFunc fn first captured =>
  simp only[wcl]; rw[wcd fun x hx=>h x (.inl hx),wcd fun x hx=>h x (.inr hx)]
 case call c =>
  simp only[wcl,callV]
  split <;> try rfl
  rw[wcd h]
def wkS (σ:St) (op:Op):List Key :=
 match op with
 | .load _ _ | .indexAddr _ _ _ | .slice _ _ _ _ _=>wcT σ (wav op)
 | _=>[]
theorem woL {op:Op} (h:∀ x∈wav op,σ'.eval x=σ.eval x) (hr:∀ k∈wkS σ op,σ'.look k=σ.look k):wcl P G σ' op=wcl P G σ op:=by
 have key:(wkS σ op=wcT σ (wav op))\/(∀ H,wcl P G { σ' with heap:=H } op=wcl P G σ' op):=by
  have ev:∀ H x,St.eval { σ' with heap:=H } x=σ'.eval x:=fun H x=>by cases x <;> rfl
  cases op
  case build t parts=>exact .inr fun H=>by simp only[wcl]; rw[wiO (σ':={ σ' with heap:=H }) (σ:=σ') fun x _=>ev H x]
  case makeFunc a b c =>
   refine .inr fun H=>?_
   simp only[wcl]; rw[wcd (σ':={ σ' with heap:=H }) (σ:=σ') (fun x _=>ev H x),wcd (σ':={ σ' with heap:=H }) (σ:=σ') (fun x _=>ev H x)]
  case call c =>
   refine .inr fun H=>?_
   simp only[wcl,callV]; split <;> try rfl
   rw[wcd (σ':={ σ' with heap:=H }) (σ:=σ') (fun x _=>ev H x)]
  all_goals first | exact .inl rfl | exact .inr fun _=>rfl
 rcases key with e | e
 ·exact wkR h (whV (by rw[<-e]; exact hr))
 ·rw[<-e σ.heap]
  exact wkR (σ':={ σ' with heap:=σ.heap }) (fun x hx=>(by cases x <;> rfl:St.eval { σ' with heap:=σ.heap } x=σ'.eval x).trans (h x hx)) (fun _ _ _ _=>rfl)
def whe (P:Program) (σ:St) (r:Nat):Op->Option (Row×PV)
 | .alloc e=>match wad P e with
  | some y=>match wag y with
   | some p=>some (weS e y.size p,.ptr r 0 0)
   | none=>none
  | none=>none
 | .box e x=>match wad P e with
  | some y=>match way (σ.eval x)with
   | some l=>if l.length=y.size/\1<=y.size then some (weS e y.size (σ.eval x),.ptr r 0 0)else none
   | none=>none
  | none=>none
 | .makeSlice t l c=>match wbO P t,σ.eval l,σ.eval c with
  | some (e,z),.d (.int _ n),.d (.int _ m)=>match wag z with
   | some zp=>wah (0<=n/\n<=m/\(z.bytes:Int)*m<=281474976710656/\m<=9223372036854775807) (some ({ e,k:=z.size,els:=List.replicate n.toNat zp },.slc r 0 n.toNat))
   | none=>none
  | _,_,_=>none
 | .buildSlice t len parts=>match wbO P t with
  | some (e,z)=>if waf z=true/\weB 0 parts.toList=true/\parts.toList.length=len/\wgb z.size (wau σ (parts.toList.map (·.2)))=true/\len*z.size<=16777216 then
    some ({ e,k:=z.size,els:=wau σ (parts.toList.map (·.2)) },.slc r 0 len)else none
  | none=>none
 | _=>none
def wgc (P:Program) (σ:St):Op->Option (Nat×Row)
 | .store t ad x=>match σ.eval ad with
  | .ptr r i off=>match waa σ.heap r with
   | some row=>match row.els[i]? with
    | some e=>match wad P t,way (σ.eval x),wdZ row.k e off (σ.eval x)with
     | some y,some l,some e'=>if l.length=y.size then some (r,{ row with els:=row.els.set i e' })else none
     | _,_,_=>none
    | none=>none
   | none=>none
  | _=>none
 | _=>none
theorem wqg {op:Op} {r:Nat} (h:∀ x∈wav op,σ'.eval x=σ.eval x):whe P σ' r op=whe P σ r op:=by
 cases op <;> try rfl
 all_goals simp only[wav,List.mem_cons,List.not_mem_nil,or_false,forall_eq_or_imp,forall_eq]at h
 case box e x=>simp only[whe,h]
 case makeSlice t l c=>simp only[whe,h.1,h.2]
 case buildSlice t len parts=>simp only[whe]; rw[wcd h]
theorem woM {op:Op} {r:Nat} {x:Row} (h:∀ x∈wav op,σ'.eval x=σ.eval x) (hs:wgc P σ op=some (r,x)) (hr:waa σ'.heap r=waa σ.heap r):wgc P σ' op=some (r,x):=by
 unfold wgc at hs ⊢
 split at hs <;> try (simp at hs; done)
 rename_i t ad y
 simp only[wav,List.mem_cons,List.not_mem_nil,or_false,forall_eq_or_imp,forall_eq]at h
 simp only[h.1,h.2]
 split at hs <;> try (simp at hs; done)
 rename_i r1 i off ha
 have:r1=r:=by
  split at hs <;> try (simp at hs; done)
  split at hs <;> try (simp at hs; done)
  split at hs <;> try (simp at hs; done)
  split at hs <;> simp only[Option.some.injEq,Prod.mk.injEq,reduceCtorEq]at hs
  exact hs.1
 subst this
 rw[hr]; exact hs
variable {ro:Option Nat} {N:Nat} {o:Oper} {K:St->Prop}
theorem OpT.new {r:Nat} {x:Row} {p:PV} (h:whe P σ r o.op=some (x,p)) (hd:wao N o.dst) (hr0:waa σ.heap r=none) (hp0:1000<=r) (hK:K (({ σ with heap:=wal σ.heap r x }:St).put o.dst p)):OpT P G ro N o σ K:=by
 unfold whe at h
 split at h <;> (try (simp at h; done)) <;> rename_i ho
 ·split at h <;> try (simp at h; done)
  rename_i y hy
  split at h <;> simp only[Option.some.injEq,Prod.mk.injEq,reduceCtorEq]at h
  rename_i q hq; obtain⟨rfl,rfl⟩:=h
  obtain⟨z,h1,h2,h3,h4⟩:=whd hq
  exact OpT.alloc ho hy h1 h2 ⟨h3,h4⟩ hd hr0 hp0 hK
 ·split at h <;> try (simp at h; done)
  rename_i y hy
  split at h <;> try (simp at h; done)
  rename_i l hl
  split at h <;> simp only[Option.some.injEq,Prod.mk.injEq,reduceCtorEq]at h
  rename_i hc; obtain⟨rfl,rfl⟩:=h
  exact OpT.box ho hy hl hc hd hr0 hp0 hK
 ·split at h <;> try (simp at h; done)
  rename_i e z kl n kc m hse hl hc
  split at h <;> try (simp at h; done)
  rename_i zp hzp
  obtain⟨⟨h0,h1,h2,h3⟩,h⟩:=wae h
  simp only[Option.some.injEq,Prod.mk.injEq]at h; obtain⟨rfl,rfl⟩:=h
  obtain⟨y,hy,hde,he⟩:=wda hse
  obtain⟨zv,h4,h5,h6,h7⟩:=whd hzp
  exact OpT.makeSlice ho hy hde he h4 h5 h6 h7 hl hc h0 h1 h2 h3 hd hr0 hp0 hK
 ·split at h <;> try (simp at h; done)
  rename_i e z hse
  split at h <;> simp only[Option.some.injEq,Prod.mk.injEq,reduceCtorEq]at h
  rename_i hc; obtain⟨rfl,rfl⟩:=h
  obtain⟨h1,h2,h3,h4,h5⟩:=hc
  obtain⟨y,hy,hde,he⟩:=wda hse
  obtain⟨zv,h6,h7,h8⟩:=wfH h1
  exact OpT.buildSlice ho hy hde he h6 h7 h8 h2 h3 h4 h5 hd hr0 hp0 hK
theorem OpT.store1 {r:Nat} {x:Row} (h:wgc P σ o.op=some (r,x)) (hd:wao N o.dst) (hK:K (({ σ with heap:=wal σ.heap r x }:St).put o.dst .any)):OpT P G ro N o σ K:=by
 unfold wgc at h
 split at h <;> (try (simp at h; done)) ; rename_i ho
 split at h <;> try (simp at h; done)
 rename_i r1 i off ha
 split at h <;> try (simp at h; done)
 rename_i row hx
 split at h <;> try (simp at h; done)
 rename_i e he
 split at h <;> try (simp at h; done)
 rename_i y l e' hy hl hs
 split at h <;> simp only[Option.some.injEq,Prod.mk.injEq,reduceCtorEq]at h
 rename_i hc; obtain⟨rfl,rfl⟩:=h
 exact OpT.store ho hy ha hx he hs hl hc hd hK
end
abbrev Foot:=Option (List Key×List Key)
def wa5:Option Tmp->List Key
 | some d=>[.t d]
 | none=>[]
def waS (dst:Option Tmp) (v:PV):Eff :=
 match dst with
 | some d=>[(.t d,.v v)]
 | none=>[]
theorem wbC (σ:St) (dst:Option Tmp) (v:PV):(σ.put dst v).look=σ.look.app (waS dst v):=by
 funext k
 cases dst with
 | none=>rfl
 | some d =>
  cases k with
  | t n =>
   simp only[St.put,St.look,waS,SF.app,wdl,Key.t.injEq,wfk]
   by_cases h:d=n
   ·simp[h]
   ·simp[h,St.look]
  | h n=>simp[St.put,St.look,waS,SF.app,wdl]
theorem wgV (σ:St) (r:Nat) (x:Row) (dst:Option Tmp) (v:PV):(({ σ with heap:=wal σ.heap r x }:St).put dst v).look=σ.look.app (waS dst v++[(.h r,.r (some x))]):=by
 rw[wbC]
 funext k
 have e:({ σ with heap:=wal σ.heap r x }:St).look=σ.look.app [(.h r,.r (some x))]:=by
  funext k
  cases k with
  | t n=>simp[St.look,SF.app,wdl]
  | h n =>
   simp only[St.look,SF.app,wdl,Key.h.injEq,wai]
   by_cases h:r=n
   ·simp[h]
   ·simp[h,St.look]
 rw[e]
 cases dst with
 | none=>rfl
 | some d =>
  simp only[waS,SF.app,wdl,List.cons_append,List.nil_append]
  by_cases h:Key.t d=k
  ·simp[h]
  ·simp[h]
theorem wcF (dst:Option Tmp) (v:PV):wct (waS dst v)=wa5 dst:=by cases dst <;> rfl
theorem St.put_rest (σ:St) (dst:Option Tmp) (v:PV):(σ.put dst v).rest=σ.rest:=by cases dst <;> rfl
end Go.Pv

namespace Go.Pv
def wrE (ms:List Nat) (o:Oper):Nat:=o.after.toList.foldl (fun m e=>if Region.binds .any e then m ||| (2 ^ e.on ||| ms.getD e.on 0)else m) 0
def wdG:List Oper->List Nat->List Nat
 | [],ms=>ms
 | o::l,ms=>wdG l (ms++[wrE ms o])
def wiv (l m:List Key):Bool:=l.all fun k=>!m.contains k
def whu:Foot->Foot->Bool
 | some (r,w),some (r',w')=>wiv w r'&&wiv w w'&&wiv w' r
 | _,_=>false
def wlA (m:Nat) (f:Foot):Nat->List Foot->Bool
 | _,[]=>true
 | i,g::l=>(m.testBit i||whu g f)&&wlA m f (i+1) l
def wgW:List Nat->List Foot->List Foot->Bool
 | m::ms,seen,f::l=>wlA m f 0 seen&&wgW ms (seen++[f]) l
 | _,_,[]=>true
 | [],_,_::_=>false
def weM:Nat->List Oper->Bool
 | _,[]=>true
 | i,o::l=>(o.after.toList.all fun e=>!Region.binds .any e||decide (e.on < i))&&weM (i+1) l
def wgX (m:Nat):Nat->List Nat->Bool
 | _,[]=>true
 | j,x::l=>(decide (j < m)||(List.range j).all fun i=>x.testBit i)&&wgX m (j+1) l
theorem wl4 {m:Nat}:∀ {l:List Nat} {i:Nat},wgX m i l=true->∀ j,j < l.length->m<=i+j->∀ k,k < i+j->(l.getD j 0).testBit k=true
 | x::l,i,h,j,hj,hm,k,hk=>by
  simp only[wgX,Bool.and_eq_true,Bool.or_eq_true,decide_eq_true_eq,List.all_eq_true,List.mem_range]at h
  cases j with
  | zero=>exact(h.1.resolve_left (by omega)) k (by omega)
  | succ j=>
   have:=wl4 h.2 j (by simpa using hj) (by omega) k (by omega)
   simpa using this
def wpg (ops:List Oper) (fs:List Foot):Bool:=decide (fs.length<=ops.length)&&weM 0 ops&&wgW (wdG ops []) [] fs&&wgX fs.length 0 (wdG ops [])
def wia (m:Nat):Nat->List Nat->Bool
 | _,[]=>true
 | j,x::l=>(decide (j < m)||(List.range m).all fun i=>x.testBit i)&&wia m (j+1) l
theorem wjL {m:Nat}:∀ {l:List Nat} {i:Nat},wia m i l=true->∀ j,j < l.length->m<=i+j->∀ k,k < m->(l.getD j 0).testBit k=true
 | x::l,i,h,j,hj,hm,k,hk=>by
  simp only[wia,Bool.and_eq_true,Bool.or_eq_true,decide_eq_true_eq,List.all_eq_true,List.mem_range]at h
  cases j with
  | zero=>exact(h.1.resolve_left (by omega)) k hk
  | succ j =>
   have:=wjL h.2 j (by simpa using hj) (by omega) k hk
   simpa using this
def wlB (ops:List Oper) (fs:List Foot):Bool:=decide (fs.length<=ops.length)&&weM 0 ops&&wgW (wdG ops []) [] fs&&wia fs.length 0 (wdG ops [])
def wrF (ops:List Oper) (m:Nat):Bool:=decide (m < ops.length)&&weM 0 ops&&wia (m+1) 0 (wdG ops [])
def wnL (ops:List Oper) (m:Nat):Bool:=weM 0 ops&&wgX m 0 (wdG ops [])
theorem wkj:∀ {l:List Oper} {i:Nat},weM i l=true->∀ j (hj:j < l.length),∀ e∈l[j].after.toList,Region.binds .any e=true->e.on < i+j
 | o::l,i,h,j,hj,e,he,hb=>by
  simp only[weM,Bool.and_eq_true,List.all_eq_true]at h
  cases j with
  | zero =>
   have:=h.1 e he
   simpa [hb]using this
  | succ j =>
   have:=wkj h.2 j (by simpa using hj) e (by simpa using he) hb
   omega
theorem wl5 {m:Nat} {f:Foot}:∀ {l:List Foot} {i:Nat},wlA m f i l=true->∀ j (hj:j < l.length),m.testBit (i+j)=true\/whu l[j] f=true
 | g::l,i,h,j,hj=>by
  simp only[wlA,Bool.and_eq_true,Bool.or_eq_true]at h
  cases j with
  | zero=>simpa using h.1
  | succ j =>
   have:=wl5 h.2 j (by simpa using hj)
   rw[show i+(j+1)=i+1+j by omega]
   simpa using this
theorem wkT:∀ {ms:List Nat} {seen l:List Foot},wgW ms seen l=true->∀ j (hj:j < l.length),∀ i (hi:i < seen.length+j),
  ((ms.getD j 0).testBit i=true\/whu ((seen++l)[i]'(by simp; omega)) l[j]=true)
 | m::ms,seen,f::l,h,j,hj,i,hi=>by
  simp only[wgW,Bool.and_eq_true]at h
  cases j with
  | zero =>
   have:=wl5 h.1 i (by simpa using hi)
   rw[Nat.zero_add]at this
   rw[List.getElem_append_left (by simpa using hi)]
   simpa using this
  | succ j =>
   have:=wkT h.2 j (by simpa using hj) i (by simp; omega)
   simpa [List.append_assoc]using this
 | [],_,_::_,h,_,_,_,_=>by simp[wgW]at h
theorem wnM {f g:Foot} (h:whu f g=true):∃ r w r' w',f=some (r,w)/\g=some (r',w')/\(∀ k∈w,k ∉ r'/\k ∉ w')/\∀ k∈w',k ∉ r:=by
 unfold whu at h
 split at h <;> try (simp at h; done)
 rename_i r w r' w'
 simp only[wiv,Bool.and_eq_true,List.all_eq_true,Bool.not_eq_true',List.contains_eq_mem,decide_eq_false_iff_not]at h
 exact⟨r,w,r',w',rfl,rfl,fun k hk=>⟨h.1.1 k hk,h.1.2 k hk⟩,h.2⟩
theorem wkU {ms:List Nat} {i:Nat}:∀ (l:List Edge) (m:Nat),(l.foldl (fun m e=>if Region.binds .any e then m ||| (2 ^ e.on ||| ms.getD e.on 0)else m) m).testBit i=true →
  m.testBit i=true\/∃ e∈l,Region.binds .any e=true/\(e.on=i\/(ms.getD e.on 0).testBit i=true)
 | [],m,h=>.inl h
 | e::l,m,h=>by
  simp only[List.foldl_cons]at h
  rcases wkU l _ h with h | ⟨e',h1,h2,h3⟩
  ·split at h
   ·rename_i hb
    simp only[Nat.testBit_or,Bool.or_eq_true,Nat.testBit_two_pow,decide_eq_true_eq]at h
    rcases h with h | h | h
    ·exact .inl h
    ·exact .inr ⟨e,by simp,hb,.inl h⟩
    ·exact .inr ⟨e,by simp,hb,.inr h⟩
   ·exact .inl h
  ·exact .inr ⟨e',by simp[h1],h2,h3⟩
theorem wes:∀ (l:List Oper) (ms:List Nat),(wdG l ms).length=ms.length+l.length
 | [],ms=>rfl
 | o::l,ms=>by simp only[wdG,wes l,List.length_append,List.length_cons,List.length_nil]; omega
theorem wmP {ops:Array Oper}:∀ (l:List Oper) (ms:List Nat),(∃ pre,ops.toList=pre++l/\pre.length=ms.length)->(∀ j i,j < ms.length->(ms.getD j 0).testBit i=true->Prec ops i j) →
  ∀ j i,j < (wdG l ms).length->((wdG l ms).getD j 0).testBit i=true->Prec ops i j
 | [],ms,_,h=>h
 | o::l,ms,⟨pre,h1,h2⟩,h=>by
  refine wmP l _ ⟨pre++[o],by rw[h1]; simp,by simp[h2]⟩ fun j i hj hb=>?_
  by_cases hjm:j < ms.length
  ·exact h j i hjm (by simpa [List.getD,List.getElem?_append,hjm]using hb)
  ·have hje:j=ms.length:=by simp at hj; omega
   subst hje
   have hb:(wrE ms o).testBit i=true:=by simpa [List.getD]using hb
   have ho:ops[ms.length]? = some o:=by
    rw[<-Array.getElem?_toList,h1,<-h2]; simp
   rcases wkU _ _ hb with hb | ⟨e,he,hbi,h3⟩
   ·simp at hb
   ·have hedge:wgU ops e.on ms.length:=⟨o,ho,e,he,hbi,rfl⟩
    rcases h3 with h3 | h3
    ·rw[h3]at hedge; exact .one hedge
    ·rcases Nat.lt_or_ge e.on ms.length with hlt | hge
     ·exact .more hedge (h _ _ hlt h3)
     ·rw[List.getD_eq_getElem?_getD,List.getElem?_eq_none hge]at h3; simp at h3
def Foot.rd:Foot->Key->Prop
 | some (r,_),k=>k∈r
 | none,_=>True
def Foot.covers:Foot->Eff->Prop
 | some (_,w),e=>∀ k∈wct e,k∈w
 | none,_=>True
section
variable {P:Program} {G:List (Nat×PD)} {ro:Option Nat} {N:Nat} {ops:Array Oper} {σ:St}
def DStep (P:Program) (G:List (Nat×PD)) (ro:Option Nat) (N:Nat) (xs:Exc) (ops:Array Oper) (o:Oper) (σ:St) (f:Foot) (σ1:St):Prop :=
 ∃ e,f.covers e/\exE xs e/\Loc P G ro N xs ops o f.rd e σ.rest σ.look/\σ1.look=σ.look.app e/\σ1.rest=σ.rest
def BOps (P:Program) (G:List (Nat×PD)) (ro:Option Nat) (N:Nat) (ops:Array Oper) (Q:St->Prop) (m:Nat) (l:List Oper) (σ:St):Prop :=
 l=ops.toList.drop m->∀ B:Base P,B.ro=ro->∀ a w φ,Rep G B N σ a w φ->∀ Q':Exit->Act->World->Prop,(∀ τ a' w' φ',Q τ->Rep G B N τ a' w' φ'->Q' .normal a' w') →
  ∀ (fuel:Nat) (listed:Array Bool),listed.size=ops.size->(∀ i,i < ops.size->(listed.getD i true=true ↔ i < m))->ops.size - m<=fuel->wpAnyIn (Fw ro) 0 P .any ops Q' fuel listed a w
inductive DOps (P:Program) (G:List (Nat×PD)) (ro:Option Nat) (N:Nat) (xs:Exc) (ops:Array Oper) (Q:St->Prop):List Oper->List Foot->St->Prop
 | bar {l:List Oper} {acc:List Foot} {σ:St} (h:wlB ops.toList acc=true) (hq:BOps P G ro N ops Q acc.length l σ):DOps P G ro N xs ops Q l acc σ
 | step {o:Oper} {l:List Oper} {acc:List Foot} {σ σ1:St} {f:Foot} (h:DStep P G ro N xs ops o σ f σ1) (h':DOps P G ro N xs ops Q l (acc++[f]) σ1):DOps P G ro N xs ops Q (o::l) acc σ
theorem wiP {l:List Oper} (h7:weM 0 l=true):(∀ j i,j < (wdG l []).length->((wdG l []).getD j 0).testBit i=true->Prec l.toArray i j)/\∀ i j,wgU l.toArray i j->i < j:=by
 refine⟨wmP (ops:=l.toArray) l [] ⟨[],by simp,rfl⟩ (fun j i hj=>by simp at hj),?_⟩
 rintro i j ⟨o,ho,e,he,hb,rfl⟩
 obtain⟨hj,rfl⟩:=Array.getElem?_eq_some_iff.1 ho
 have:=wkj h7 j (by simpa using hj) e (by simpa using he) hb
 omega
theorem BOps.chain {l:List Oper} {Q:St->Prop} {m:Nat} (h:wnL ops.toList m=true) (hm:m<=ops.size) (hq:AOps P G ro N ops l σ Q):BOps P G ro N ops Q m l σ:=by
 intro hl B hro a w φ hr Q' hQ fuel listed hs hex hf
 simp only[wnL,Bool.and_eq_true]at h
 obtain⟨h1,h2⟩:=wiP h.1
 refine wqe (by simpa using h2) (fun j hj1 hj2 i hij=>?_) fuel m listed (Nat.le_refl _) hm hs hex hf a w ?_
 ·have hj:j < ops.toList.length:=by simpa using hj2
  have:=wl4 h.2 j (by rw[wes]; simpa using hj) (by omega) i (by omega)
  simpa using h1 j i (by rw[wes]; simpa using hj) (by simpa using this)
 ·rw[<-hl]; exact hq B hro a w φ hr Q' hQ
theorem wq9 {F:Fence} {n:Nat} {o:Oper} {a:Act} {w:World} {K K':Act->World->Prop} {Q Q':Exit->Act->World->Prop} (h:∀ a w,K a w->K' a w) (hQ:∀ e a w,e≠.normal->Q e a w->Q' e a w)
  (hh:o.wpIn F n P a w K Q):o.wpIn F n P a w K' Q':=by
 unfold Oper.wpIn at *
 refine⟨hh.1,?_⟩
 have hh:=hh.2
 have hlo:LetsOut Q->LetsOut Q':=fun ⟨a,w,hq⟩=>⟨a,w,hQ _ a w (by simp) hq⟩
 generalize (o.semAt F.round a.eval).run P w=r at *
 cases r with
 | ok x w' =>
  cases x <;> simp only[Oper.uponIn]at hh ⊢ <;>
   first
    | exact h _ _ hh
    | exact⟨hh.1,CallsIn.mono hh.2 (fun e w'' he=>by cases e <;> first | exact h _ _ he | exact hQ _ _ _ (by simp) he | exact hlo he)⟩
    | exact⟨hh.1,RowsIn.mono hh.2 (fun _ _ he=>h _ _ he)⟩
    | exact⟨hh.1,RoundIn.mono hh.2 (fun e w'' he=>by cases e <;> first | exact h _ _ he | exact hQ _ _ _ (by simp) he | exact hlo he)⟩
 | halt x w'=>cases x <;> simp only[Oper.uponIn]at hh ⊢ <;> first | exact hQ _ _ _ (by simp) hh | exact hh
theorem BOps.hard {o:Oper} {l:List Oper} {Q:St->Prop} {m:Nat} (h:wrF ops.toList m=true) (hq:AOps P G ro N ops [o] σ (fun σ'=>BOps P G ro N ops Q (m+1) l σ')):BOps P G ro N ops Q m (o::l) σ:=by
 intro hl B hro a w φ hr Q' hQ fuel listed hs hex hf
 simp only[wrF,Bool.and_eq_true,decide_eq_true_eq]at h
 obtain⟨⟨hm,he⟩,hb⟩:=h
 have hm:m < ops.size:=by simpa using hm
 obtain⟨h1,h2⟩:=wiP he
 have h2:∀ i j,wgU ops i j->i < j:=by simpa using h2
 have hpr:∀ j,m < j->j < ops.size->Prec ops m j:=fun j hmj hj=>by
  have:=wjL hb j (by rw[wes]; simpa using hj) (by omega) m (by omega)
  simpa using h1 j m (by rw[wes]; simpa using hj) (by simpa using this)
 have hd:ops.toList.drop m=ops[m]::ops.toList.drop (m+1):=by
  rw[List.drop_eq_getElem_cons (by simpa using hm)]; simp
 rw[hd]at hl
 simp only[List.cons.injEq]at hl
 obtain⟨ho,hl⟩:=hl
 cases fuel with
 | zero=>omega
 | succ fuel =>
 refine⟨fun hrd=>?_,fun i hi=>?_⟩
 ·have:=(hex m hm).1 (wjH h2 listed hs hrd m hm); omega
 ·have hcl:∀ i k,Prec ops i k->listed.getD k true=true->k < ops.size->listed.getD i true=true:=fun i k h hk hkn=>by
   have h1:=(hex k hkn).1 hk
   have h3:=h.lt h2
   exact(hex i (by omega)).2 (by omega)
  have hp:=wjI h2 hs hcl hi
  obtain⟨hi1,hi2,_⟩:=wht listed hi
  have hge:¬ i < m:=fun h=>by rw[(hex i hi1).2 h]at hi2; cases hi2
  have him:i=m:=by
   by_cases h:m < i
   ·have:=(hex m hm).1 (hp m (hpr i h hi1)); omega
   ·omega
  subst him
  have hset:=wjJ (ops:=ops) hs hi1
  have hnext:∀ σ' a' w' φ',BOps P G ro N ops Q (i+1) l σ'->Rep G B N σ' a' w' φ'->wpAnyIn (Fw ro) 0 P .any ops Q' fuel (listed.setIfInBounds i true) a' w':=fun σ' a' w' φ' hB hr' =>
   hB hl B hro a' w' φ' hr' Q' hQ fuel _ (by simpa using hs) (fun k hk=>by
     rw[hset k,Bool.or_eq_true,decide_eq_true_eq,hex k hk]; omega) (by omega)
  have hw:=hq B hro a w φ hr (fun e a' w'=>match e with | .normal=>wpAnyIn (Fw ro) 0 P .any ops Q' fuel (listed.setIfInBounds i true) a' w' | e=>Q' e a' w') (fun σ' a' w' φ' hB hr'=>hnext σ' a' w' φ' hB hr')
  simp only[wpL,if_true]at hw
  unfold wpOpIn
  simp only[Array.getElem?_eq_getElem hi1,<-ho]
  split at hw
  ·rename_i hwant
   rw[if_pos hwant]
   exact wq9 (fun _ _ h=>h) (fun e a w hne h=>by cases e <;> first | exact absurd rfl hne | exact h) hw
  ·rename_i hwant
   rw[if_neg hwant]
   exact hw
theorem wjd {m:Nat}:∀ {l:List Nat} {j:Nat},wgX m j l=true->wia m j l=true
 | [],_,_=>rfl
 | x::l,j,h=>by
  simp only[wgX,wia,Bool.and_eq_true,Bool.or_eq_true,decide_eq_true_eq,List.all_eq_true,List.mem_range]at h ⊢
  refine⟨?_,wjd h.2⟩
  rcases Nat.lt_or_ge j m with hj | hj
  ·exact .inl hj
  ·exact .inr fun i hi=>(h.1.resolve_left (by omega)) i (by omega)
theorem DOps.stop {xs:Exc} {Q:St->Prop} {l:List Oper} {acc:List Foot} (h:wpg ops.toList acc=true) (hq:AOps P G ro N ops l σ Q):DOps P G ro N xs ops Q l acc σ:=by
 simp only[wpg,Bool.and_eq_true,decide_eq_true_eq]at h
 obtain⟨⟨⟨h6,h7⟩,h8⟩,hch⟩:=h
 refine .bar ?_ (BOps.chain ?_ (by simpa using h6) hq)
 ·simp only[wlB,Bool.and_eq_true,decide_eq_true_eq]; exact⟨⟨⟨h6,h7⟩,h8⟩,wjd hch⟩
 ·simp only[wnL,Bool.and_eq_true]; exact⟨h7,hch⟩
theorem wmQ {s0:SF} {E E':Nat->Eff} {D:Nat->Bool}:∀ n,(∀ i,i < n->E i=E' i)->wba s0 E D n=wba s0 E' D n
 | 0,_=>rfl
 | n+1,h=>by simp only[wba]; rw[wmQ n fun i hi=>h i (by omega),h n (by omega)]
theorem DOps.unroll {xs:Exc} {s0:SF} {b:Nat} {z:List PV×Gh} {Q:St->Prop} {l:List Oper} {acc:List Foot} {σ:St} (h:DOps P G ro N xs ops Q l acc σ):∀ (es:List Eff) (pre:List Oper),ops.toList=pre++l->acc.length=pre.length->es.length=pre.length->b<=pre.length →
  (∀ i (hi:i < pre.length),∃ (h1:i < acc.length),acc[i].covers (es.getD i [])/\exE xs (es.getD i [])/\(b<=i->Loc P G ro N xs ops pre[i] acc[i].rd (es.getD i []) z (wba s0 (fun i=>es.getD i []) (fun _=>true) i))) →
  wba s0 (fun i=>es.getD i []) (fun _=>true) pre.length=σ.look->σ.rest=z →
  ∃ (acc':List Foot) (es':List Eff) (τ:St),wlB ops.toList acc'=true/\acc <+: acc'/\es <+: es'/\BOps P G ro N ops Q acc'.length (ops.toList.drop acc'.length) τ/\τ.rest=z/\(∀ i (hi:i < ops.size) (h1:i < acc'.length),acc'[i].covers (es'.getD i [])/\exE xs (es'.getD i [])/\(b<=i->Loc P G ro N xs ops ops[i] acc'[i].rd (es'.getD i []) z (wba s0 (fun i=>es'.getD i []) (fun _=>true) i))) ∧
   wba s0 (fun i=>es'.getD i []) (fun _=>true) acc'.length=τ.look:=by
 induction h with
 | @bar l acc σ h hq =>
  intro es pre h1 h2 h3 hbp h4 h5 h6
  refine⟨acc,es,σ,h,List.prefix_refl _,List.prefix_refl _,?_,h6,fun i hi h7=>?_,by rw[h2]; exact h5⟩
  ·have e:ops.toList.drop acc.length=l:=by rw[h1,h2]; simp
   rw[e]; exact hq
  ·obtain⟨_,h8,h9⟩:=h4 i (by omega)
   have e:ops[i]=pre[i]:=by
    have hi':i < ops.toList.length:=by simpa using hi
    have:ops.toList[i]=pre[i]:=by simp only[h1]; rw[List.getElem_append_left (by omega)]
    simpa using this
   rw[e]; exact⟨h8,h9⟩
 | @step o l acc σ σ1 f h h' ih =>
  intro es pre h1 h2 h3 hbp h4 h5 h6
  obtain⟨e,h8,hx8,h9,h10,h11⟩:=h
  have hold:∀ i,i < pre.length->(es++[e]).getD i []=es.getD i []:=fun i hi=>by
   simp[List.getD,List.getElem?_append,show i < es.length by omega]
  have hnew:(es++[e]).getD pre.length []=e:=by
   simp[List.getD,<-h3]
  have hf:∀ i,i<=pre.length->wba s0 (fun i=>(es++[e]).getD i []) (fun _=>true) i=wba s0 (fun i=>es.getD i []) (fun _=>true) i:=fun i hi =>
   wmQ i fun j hj=>hold j (by omega)
  have hih:=ih (es++[e]) (pre++[o]) (by rw[h1]; simp) (by simp[h2]) (by simp[h3]) (by simp; omega) (fun i hi=>?_) ?_ (h11.trans h6)
  ·obtain⟨acc',es',τ,g1,g2,g3,g4⟩:=hih
   exact⟨acc',es',τ,g1,(List.prefix_append _ _).trans g2,(List.prefix_append _ _).trans g3,g4⟩
  ·by_cases hip:i < pre.length
   ·obtain⟨h13,h14,h15⟩:=h4 i hip
    refine⟨by simp; omega,?_⟩
    rw[List.getElem_append_left h13,List.getElem_append_left hip,hold i hip,hf i (by omega)]
    exact⟨h14,h15⟩
   ·have hie:i=pre.length:=by simp at hi; omega
    subst hie
    refine⟨by simp; omega,?_⟩
    have e1:(acc++[f])[pre.length]'(by simp; omega)=f:=by simp[<-h2]
    have e2:(pre++[o])[pre.length]'(by simp)=o:=by simp
    rw[e1,e2,hnew,hf _ (Nat.le_refl _),h5,<-h6]
    exact⟨h8,hx8,fun _=>h9⟩
  ·rw[show (pre++[o]).length=pre.length+1 by simp]
   simp only[wba,if_true]
   rw[hf _ (Nat.le_refl _),h5,hnew]
   exact h10.symm
theorem Rep.same {B:Base P} {a:Act} {w:World} {φ:Nm} {τ:St} (hr:Rep G B N σ a w φ) (h:σ.look=τ.look) (hd:σ.rest=τ.rest):Rep G B N τ a w φ:=by
 have he:∀ t,wam τ.env t=wam σ.env t:=fun t=>by
  have:=congrFun h (.t t); simp only[St.look,Cont.v.injEq]at this; exact this.symm
 have hh:∀ r,waa τ.heap r=waa σ.heap r:=fun r=>by
  have:=congrFun h (.h r); simp only[St.look,Cont.r.injEq]at this; exact this.symm
 simp only[St.rest,Prod.mk.injEq]at hd
 have hrow:∀ b,waD φ τ.heap b->waD φ σ.heap b:=fun b ⟨r,x,h1,h2⟩=>⟨r,x,by rw[<-hh]; exact h1,h2⟩
 have hown:∀ b,own φ τ.heap b->own φ σ.heap b:=fun b h=>h.imp (hrow b) id
 have hext:Ext w B.X φ σ.heap w φ τ.heap:=by
  exact⟨fun r x hx=>⟨x,by rw[hh]; exact hx,rfl,fun _=>rfl,rfl⟩,fun b kk hb=>⟨hb.1,hb.2.1,fun ho=>hb.2.2 (hown b ho)⟩,fun b kk hb=>⟨hb.1,fun ho=>hb.2 (hown b ho)⟩,fun _ kk _=>rfl,fun s y b _ _ c e f hh=>⟨c,e,f,hh,rfl⟩⟩
 refine Rep.of_sit ⟨⟨fun r x b hx hb=>?_,fun r x hx=>hr.heap.void r x (hh r▸hx),fun r s x y b hx hy=>hr.heap.inj r s x y b (hh r▸hx) (hh s▸hy),fun b hT=>⟨(hr.heap.far b hT).1,(hr.heap.far b hT).2.1,fun h=>(hr.heap.far b hT).2.2 (hrow b h)⟩⟩,hr.keeps,
  fun r x b hx=>hr.new r x b (hh r▸hx),fun r x hx=>hr.pins r x (hh r▸hx),fun r x b hx=>hr.psz r x b (hh r▸hx),?_,hr.tnew,hd.2▸wdT hr.inv rfl rfl rfl rfl (Nat.le_refl _) (fun _ _ _=>rfl) (fun b hb=>.inl (hrow b hb))⟩ hr.size (fun t=>?_) (hd.1▸hd.2▸hr.dfr.ext hext)
 ·exact(hr.heap.rows r x b (hh r▸hx) hb).ext hext rfl
 ·exact hr.glob.ext hext (fun g x hm=>by
   obtain⟨_,_,_,_,_,h2,_⟩:=hr.glob g x hm
   exact fun ho=>h2 (hown g ho))
 ·rw[he]; exact(hr.env t).ext hext
theorem Rep.drawn {B:Base P} {a:Act} {w:World} {φ:Nm} (hr:Rep G B N σ a w φ) (n:Nat):Rep G B N σ a { w with drawn:=n } φ :=
 hr.world (wjz (Nat.le_refl _) (fun _ _=>rfl) (fun r x b h1 h2=>hr.heap.lt h1 h2)) ⟨rfl,rfl,rfl,Nat.le_refl _,fun _ _ _=>rfl⟩ (fun r x b h1 h2=>rfl) (fun _ _ _=>rfl)
theorem RepV.rows {w:World} {X:Nat->Nat->Prop} {φ:Nm} {H:wac} {v:Value} {p:PV} (hv:RepV w X φ H v p):∀ r∈rowsOf p,(waa H r).isSome=true:=by
 have key:∀ {ps:List PV},(∀ i (hi:i < ps.length),∀ r∈rowsOf ps[i],(waa H r).isSome=true)->∀ r∈rowsOfL ps,(waa H r).isSome=true:=by
  intro ps
  induction ps with
  | nil=>intro _ r hr; simp[rowsOfL]at hr
  | cons p l ih =>
   intro h r hr
   simp only[rowsOfL,List.mem_append]at hr
   rcases hr with hr | hr
   ·exact h 0 (by simp) r hr
   ·exact ih (fun i hi=>h (i+1) (by simpa using hi)) r hr
 induction hv with
 | ptr hx hb=>intro r hr; simp only[rowsOf,List.mem_singleton]at hr; subst hr; rw[hx]; rfl
 | slc hx=>intro r hr; simp only[rowsOf,List.mem_singleton]at hr; subst hr; rw[hx]; rfl
 | mp hx=>intro r hr; simp only[rowsOf,List.mem_singleton]at hr; subst hr; rw[hx]; rfl
 | slc0 hx=>intro r hr; simp only[rowsOf,List.mem_singleton]at hr; subst hr; rw[hx]; rfl
 | func hs _ ih=>intro r hr; simp only[rowsOf]at hr; exact key ih r hr
 | agg hs _ hf ih=>intro r hr; simp only[rowsOf]at hr; exact key ih r hr
 | tuple hs _ ih=>intro r hr; simp only[rowsOf]at hr; exact key ih r hr
 | _=>intro r hr; simp[rowsOf]at hr
theorem Rep.no_row {B:Base P} {a:Act} {w:World} {φ:Nm} (hr:Rep G B N σ a w φ) {r:Nat} (h:waa σ.heap r=none) (k:Key):(σ.look k).rows.contains r=false:=by
 have hno:∀ l:List Nat,(∀ s∈l,(waa σ.heap s).isSome=true)->l.contains r=false:=fun l hl=>by
  rw[List.contains_eq_mem,decide_eq_false_iff_not]
  intro hm
  have:=hl r hm
  rw[h]at this; cases this
 cases k with
 | t n=>exact hno _ (hr.env n).rows
 | h n =>
  simp only[St.look]
  cases hx:waa σ.heap n with
  | none=>rfl
  | some x =>
   refine hno _ fun s hs=>?_
   cases hφ:φ n with
   | none=>simp only[Cont.rows]at hs; rw[hr.heap.void n x hx hφ]at hs; simp[rowsOfL]at hs
   | some b =>
    have key:∀ (ps:List PV),(∀ i (hi:i < ps.length),∀ r∈rowsOf ps[i],(waa σ.heap r).isSome=true)->∀ r∈rowsOfL ps,(waa σ.heap r).isSome=true:=by
     intro ps
     induction ps with
     | nil=>intro _ r hr; simp[rowsOfL]at hr
     | cons p l ih =>
      intro h r hr
      simp only[rowsOfL,List.mem_append]at hr
      rcases hr with hr | hr
      ·exact h 0 (by simp) r hr
      ·exact ih (fun i hi=>h (i+1) (by simpa using hi)) r hr
    exact key x.els (fun i hi=>by obtain⟨v,h4⟩:=(hr.heap.rows n x b hx hφ).el i hi; exact h4.rows) s hs
def wmR (σ:St):Exc->Prop
 | []=>True
 | (r,_)::l=>waa σ.heap r=none/\wmR σ l
theorem Rep.exOk {B:Base P} {a:Act} {w:World} {φ:Nm} (hr:Rep G B N σ a w φ):∀ {xs:Exc},wmR σ xs->∀ k,Pv.exOk xs k (σ.look k)
 | [],_,_=>trivial
 | (r,S)::l,h,k=>⟨.inr (hr.no_row h.1 k),hr.exOk h.2 k⟩
def wra (r:Nat) (S:List Nat):List (Nat×PV)->Prop
 | []=>True
 | (t,v)::l=>(S.contains t=true\/(rowsOf v).contains r=false)/\wra r S l
def wgu (r:Nat) (S:List Nat):wac->Prop
 | []=>True
 | (s,x)::l=>(S.contains (s+1000000)=true\/(rowsOfL x.els).contains r=false)/\wgu r S l
def exIni (σ:St):Exc->Prop
 | []=>True
 | (r,S)::l=>(waa σ.heap r=none\/(wra r S σ.env/\wgu r S σ.heap))/\exIni σ l
theorem wob {r:Nat} {S:List Nat}:∀ {l:List (Nat×PV)},wra r S l->∀ n,S.contains n=true\/(rowsOf (wam l n)).contains r=false
 | [],_,n=>.inr (by simp[wam,rowsOf])
 | (t,v)::l,h,n=>by
  simp only[wam]
  split
  ·rename_i e; subst e; exact h.1
  ·exact wob h.2 n
theorem wmS {r:Nat} {S:List Nat}:∀ {l:wac},wgu r S l->∀ n x,waa l n=some x->S.contains (n+1000000)=true\/(rowsOfL x.els).contains r=false
 | [],_,n,x,hx=>by simp[waa]at hx
 | (t,v)::l,h,n,x,hx=>by
  simp only[waa]at hx
  split at hx
  ·rename_i e; subst e; cases hx; exact h.1
  ·exact wmS h.2 n x hx
theorem Rep.exIni {B:Base P} {a:Act} {w:World} {φ:Nm} (hr:Rep G B N σ a w φ):∀ {xs:Exc},exIni σ xs->∀ k,Pv.exOk xs k (σ.look k)
 | [],_,_=>trivial
 | (r,S)::l,h,k=>by
  refine⟨?_,hr.exIni h.2 k⟩
  rcases h.1 with h1 | ⟨h1,h2⟩
  ·exact .inr (hr.no_row h1 k)
  ·cases k with
   | t n=>exact wob h1 n
   | h n =>
    simp only[St.look]
    cases hx:waa σ.heap n with
    | none=>exact .inr rfl
    | some x=>exact wmS h2 n x hx
theorem BOps.draw {l:List Oper} {Q:St->Prop} {m:Nat} (xs:Exc) (hxs:exIni σ xs) (hmo:m<=ops.size) (h:DOps P G ro N xs ops Q l (List.replicate m (some ([],[]))) σ):BOps P G ro N ops Q m l σ:=by
 intro hl B hro a w φ hr Q' hq fuel listed hs hex hf
 have hnil:∀ i,(List.replicate m ([]:Eff)).getD i []=[]:=fun i=>by
  rw[List.getD_eq_getElem?_getD,List.getElem?_replicate]; split <;> rfl
 have hf0:∀ n,wba σ.look (fun i=>(List.replicate m ([]:Eff)).getD i []) (fun _=>true) n=σ.look:=by
  intro n
  induction n with
  | zero=>rfl
  | succ n ih=>simp only[wba,if_true]; rw[ih,hnil]; rfl
 obtain⟨acc,es,τ,h1,hpa,hpe,h2,h3,h4,h5⟩:=DOps.unroll (s0:=σ.look) (b:=m) (z:=σ.rest) (ops:=ops) h (List.replicate m []) (ops.toList.take m) (by rw[hl]; simp) (by simp; omega) (by simp; omega) (by simp; omega)
  (fun i hi=>by
   have hi:i < m:=by simp at hi; omega
   refine⟨by simpa using hi,?_,?_,fun h=>by omega⟩
   ·rw[hnil]; simp[Foot.covers,wct]
   ·rw[hnil]; trivial)
  (by rw[hf0]) rfl
 simp only[wlB,Bool.and_eq_true,decide_eq_true_eq]at h1
 obtain⟨⟨⟨h6,h7⟩,h8⟩,hch⟩:=h1
 have h6:acc.length<=ops.size:=by simpa using h6
 have hma:m<=acc.length:=by have:=hpa.length_le; simpa using this
 obtain⟨hmask,hback⟩:=wiP h7
 have hback:∀ i j,wgU ops i j->i < j:=by simpa using hback
 have hmask:∀ j i,j < ops.size->((wdG ops.toList []).getD j 0).testBit i=true->Prec ops i j:=fun j i hj hb=>by
  simpa using hmask j i (by rw[wes]; simpa using hj) hb
 have hord:Ordered acc.length (fun i=>es.getD i []) (fun i k=>match acc[i]? with | some f=>f.rd k | none=>True) (Prec ops):=by
  refine⟨fun i j h=>h.lt hback,fun i j hij hja=>?_⟩
  have hj:j < ops.size:=by omega
  rcases wkT h8 j hja i (by simpa using hij)with h | h
  ·exact .inl (hmask j i hj h)
  ·obtain⟨r,wr,r',wr',h9,h10,h11,h12⟩:=wnM h
   have hi:i < acc.length:=by omega
   rw[show ([]++acc)[i]'(by simpa using hi)=acc[i]from rfl]at h9
   obtain⟨hc1,_,_⟩:=h4 i (by omega) hi
   obtain⟨hc2,_,_⟩:=h4 j hj hja
   rw[h9]at hc1; rw[h10]at hc2
   refine .inr ⟨fun k hk=>⟨?_,fun hk'=>(h11 k (hc1 k hk)).2 (hc2 k hk')⟩,fun k hk=>?_⟩
   ·simp only[List.getElem?_eq_getElem hja,h10,Foot.rd]
    exact(h11 k (hc1 k hk)).1
   ·simp only[List.getElem?_eq_getElem hi,h9,Foot.rd]
    exact h12 k (hc2 k hk)
 have hlis:∀ i,i < m->listed.getD i true=true:=fun i hi=>(hex i (by omega)).2 hi
 have hcnt:(List.range ops.size).countP (fun i=>listed.getD i true)=m:=by
  rw[<-woa ops.size m hmo]
  exact List.countP_congr (fun i hi=>by rw[hex i (by simpa using hi)]; simp)
 refine wrD (P:=P) (G:=G) (ro:=ro) (N:=N) (s0:=σ.look) (z:=σ.rest) (B:=B) (b:=m) (m:=acc.length) (E:=fun i=>es.getD i []) h6 hord hback (fun i hi hbi him=>?_) (fun j hj1 hj2 i hij=>?_) (hr.exIni hxs) (fun i him=>(h4 i (by omega) him).2.1) hro (fun fuel' listed' hs' hex' hf' a' w' hR=>?_) fuel listed hs (fun i j hij hj hjs=>?_) (fun j hj hjs=>?_) hlis (by rw[hcnt]; exact hf) _ _ ?_
 ·obtain⟨_,_,h10⟩:=h4 i hi him
  simp only[List.getElem?_eq_getElem him]
  exact h10 hbi
 ·have:=wjL hch j (by rw[wes]; simpa using hj2) (by omega) i hij
  exact hmask j i hj2 this
 ·obtain⟨σ',φ',hd',hl',hr'⟩:=hR
  exact h2 rfl B hro a' w' φ' (hr'.same (by rw[hl',h5]) (hd'.trans h3.symm)) Q' hq fuel' listed' hs' hex' hf'
 ·have h1:=(hex j hjs).1 hj
  have:=hij.lt hback
  exact hlis i (by omega)
 ·cases hlj:listed.getD j true with
  | false=>rfl
  | true=>have:=(hex j hjs).1 hlj; omega
 ·refine⟨σ,φ,rfl,?_,hr⟩
  have:∀ n,n<=ops.size->wba σ.look (fun i=>es.getD i []) (fun i=>listed.getD i true) n=σ.look:=by
   intro n
   induction n with
   | zero=>intro _; rfl
   | succ n ih =>
    intro hn
    simp only[wba]
    split
    ·rename_i hln
     have hnm:=(hex n (by omega)).1 hln
     have e:es.getD n []=[]:=by
      obtain⟨t,ht⟩:=hpe
      rw[<-ht,List.getD_eq_getElem?_getD,List.getElem?_append_left (by simpa using hnm),List.getElem?_replicate]; simp[hnm]
     rw[e,ih (by omega)]; funext k; rfl
    ·exact ih (by omega)
  exact(this acc.length h6).symm
theorem AWp.drawX {id:Nat} {l:List Oper} {Q:Post} (hm:P.follows .mixedOrders=true) (xs:Exc) (hxs:exIni σ xs) (h:DOps P G ro N xs l.toArray (Q .normal) l [] σ):AWp P G ro N (.region id l.toArray true) σ Q:=by
 intro B hro a w φ hr Q' hq
 refine wpIn_region_any hm ?_
 exact BOps.draw xs hxs (Nat.zero_le _) h (by simp) B hro a _ φ (hr.drawn _) Q' (fun τ a'' w'' φ'' hQ hr''=>hq .normal τ a'' w'' φ'' hQ hr'') _ _ (by simp) (fun i hi=>by
  have:i < l.length:=by simpa using hi
  simp[Array.getD,this]) (by omega)
theorem wph:∀ {xs:Exc},wmR σ xs->exIni σ xs
 | [],_=>trivial
 | (_,_)::_,h=>⟨.inl h.1,wph h.2⟩
theorem AWp.draw {id:Nat} {l:List Oper} {Q:Post} (hm:P.follows .mixedOrders=true) (xs:Exc) (hxs:wmR σ xs) (h:DOps P G ro N xs l.toArray (Q .normal) l [] σ):AWp P G ro N (.region id l.toArray true) σ Q :=
 AWp.drawX hm xs (wph hxs) h
end
end Go.Pv

namespace Go.Pv
def Foot.plus (g:List Key):Foot->Foot
 | some (r,w)=>some (g++r,w)
 | none=>none
def wfe (ds:List (Option Tmp)):Option (Nat×Bool)->List Key
 | some (j,_)=>match ds[j]? with
  | some (some d)=>[.t d]
  | _=>[]
 | none=>[]
section
variable {P:Program} {G:List (Nat×PD)} {ro:Option Nat} {N:Nat} {xs:Exc} {ops:Array Oper} {σ:St} {o:Oper}
def wua (P:Program) (G:List (Nat×PD)) (ro:Option Nat) (N:Nat) (xs:Exc) (o:Oper) (rd:Key->Prop) (e:Eff) (σ:St):Prop :=
 ∀ σ':St,σ'.rest=σ.rest->(∀ k,rd k->σ'.look k=σ.look k)->(∀ k,exOk xs k (σ'.look k))->OpT P G ro N o σ' (fun τ=>τ.rest=σ.rest/\τ.look=σ'.look.app e)
def OpD (P:Program) (G:List (Nat×PD)) (ro:Option Nat) (N:Nat) (xs:Exc) (o:Oper) (σ:St) (f:Foot) (σ1:St):Prop :=
 ∃ e,f.covers e/\exE xs e/\wua P G ro N xs o f.rd e σ/\σ1.look=σ.look.app e/\σ1.rest=σ.rest
def OpX (P:Program) (G:List (Nat×PD)) (ro:Option Nat) (N:Nat) (xs:Exc) (o:Oper) (σ:St) (K:Foot->St->Prop):Prop:=∃ f σ1,OpD P G ro N xs o σ f σ1/\K f σ1
theorem Foot.rd_plus {g:List Key} {f:Foot} {k:Key} (h:f.rd k):(f.plus g).rd k:=by
 cases f with
 | none=>trivial
 | some p=>obtain⟨r,w⟩:=p; exact List.mem_append_right _ h
theorem Foot.covers_plus {g:List Key} {f:Foot} {e:Eff} (h:f.covers e):(f.plus g).covers e:=by
 cases f with
 | none=>trivial
 | some p=>obtain⟨r,w⟩:=p; exact h
theorem DStep.plain {f:Foot} {σ1:St} (hg:o.guard=none) (h:OpD P G ro N xs o σ f σ1):DStep P G ro N xs ops o σ f σ1:=by
 obtain⟨e,h1,hx,h2,h3,h4⟩:=h
 refine⟨e,h1,hx,fun s' hs hex B hro a w hR next Q hn=>?_,h3,h4⟩
 obtain⟨σ',φ,hd,hl,hr⟩:=hR
 simp only[Region.wanted,hg,if_true]
 refine h2 σ' hd (fun k hk=>by rw[hl]; exact hs k hk) (fun k=>by rw[hl]; exact hex k) B hro a w φ hr next Q fun τ a' w' φ' ht hr'=>hn a' w' ⟨τ,φ',ht.1,by rw[ht.2,hl],hr'⟩
theorem wiw {σ':St} {ds:List (Option Tmp)} {j:Nat} {want:Bool} (h:∀ k∈wfe ds (some (j,want)),σ'.look k=σ.look k):wer σ' ds j=wer σ ds j:=by
 unfold wer
 simp only[wfe]at h
 cases hd:ds[j]? with
 | none=>rfl
 | some od =>
  cases od with
  | none=>rfl
  | some d =>
   have:=h (.t d) (by rw[hd]; simp)
   simp only[St.look,Cont.v.injEq]at this
   simp only[this]
theorem DStep.yes {f:Foot} {σ1:St} {j:Nat} {want:Bool} (hg:o.guard=some (j,want)) (hb:wer σ (wbq ops) j=some want) (h:OpD P G ro N xs o σ f σ1):DStep P G ro N xs ops o σ (f.plus (wfe (wbq ops) o.guard)) σ1:=by
 obtain⟨e,h1,hx,h2,h3,h4⟩:=h
 refine⟨e,Foot.covers_plus h1,hx,fun s' hs hex B hro a w hR next Q hn=>?_,h3,h4⟩
 obtain⟨σ',φ,hd,hl,hr⟩:=hR
 have hgv:wer σ' (wbq ops) j=some want:=by
  cases f with
  | none=>rw[wiw (σ:=σ) (want:=want) fun k hk=>by rw[hl]; exact hs k trivial]; exact hb
  | some p=>obtain⟨r,wr⟩:=p; rw[wiw (σ:=σ) (want:=want) fun k hk=>by rw[hl]; exact hs k (List.mem_append_left _ (by rw[hg]; exact hk))]; exact hb
 have hy:=wi9 hr hgv
 simp only[Region.wanted,hg,hy,beq_self_eq_true,if_true]
 refine h2 σ' hd (fun k hk=>by rw[hl]; exact hs k (Foot.rd_plus hk)) (fun k=>by rw[hl]; exact hex k) B hro a w φ hr next Q fun τ a' w' φ' ht hr'=>hn a' w' ⟨τ,φ',ht.1,by rw[ht.2,hl],hr'⟩
theorem wsr (xs:Exc) (k:Key):exOk xs k (.v .any):=by
 induction xs with
 | nil=>trivial
 | cons x l ih=>obtain⟨r,S⟩:=x; exact⟨.inr (by simp[Cont.rows,rowsOf]),ih⟩
theorem wtm (dst:Option Tmp):exE xs (waS dst .any):=by
 cases dst with
 | none=>trivial
 | some d=>exact⟨wsr _ _,trivial⟩
theorem DStep.no {j:Nat} {want b:Bool} (hg:o.guard=some (j,want)) (hb:wer σ (wbq ops) j=some b) (hne:b≠want) (hd:wao N o.dst) :
  DStep P G ro N xs ops o σ (some (wfe (wbq ops) o.guard,wa5 o.dst)) (σ.put o.dst .any):=by
 refine⟨waS o.dst .any,fun k hk=>by rw[wcF]at hk; exact hk,wtm _,fun s' hs _ B hro a w hR next Q hn=>?_,wbC _ _ _,St.put_rest _ _ _⟩
 obtain⟨σ',φ,hd',hl,hr⟩:=hR
 have hgv:wer σ' (wbq ops) j=some b:=by
  rw[wiw (σ:=σ) (want:=want) fun k hk=>by rw[hl]; exact hs k (by rw[hg]; exact hk)]; exact hb
 have hy:=wi9 hr hgv
 have:(some b == some want)=false:=by simp[hne]
 simp only[Region.wanted,hg,hy,this,Bool.false_eq_true,if_false]
 exact⟨fun _ _=>trivial,hn _ _ ⟨σ'.put o.dst .any,φ,by rw[St.put_rest]; exact hd',by rw[wbC,hl],hr.put_undef hd⟩⟩
def St.keys (σ:St):List Key:=σ.env.map (fun x=>.t x.1)++σ.heap.map (fun x=>.h x.1)
theorem wrG {l:List (Nat×PV)} {t:Nat} (h:t ∉ l.map (·.1)):wam l t=.any:=by
 induction l with
 | nil=>rfl
 | cons x l ih =>
  obtain⟨s,v⟩:=x
  simp only[List.map_cons,List.mem_cons,not_or]at h
  simp only[wam]; rw[if_neg (Ne.symm h.1)]; exact ih h.2
theorem wrH {l:wac} {t:Nat} (h:t ∉ l.map (·.1)):waa l t=none:=by
 induction l with
 | nil=>rfl
 | cons x l ih =>
  obtain⟨s,v⟩:=x
  simp only[List.map_cons,List.mem_cons,not_or]at h
  simp only[waa]; rw[if_neg (Ne.symm h.1)]; exact ih h.2
theorem woc {k:Key} (h:k ∉ σ.keys):σ.look k=match k with | .t _=>.v .any | .h _=>.r none:=by
 simp only[St.keys,List.mem_append,List.mem_map,not_or,not_exists,not_and]at h
 cases k with
 | t n=>simp only[St.look]; rw[wrG (by simp only[List.mem_map,not_exists,not_and]; exact fun x hx he=>h.1 x hx (by rw[he]))]
 | h n=>simp only[St.look]; rw[wrH (by simp only[List.mem_map,not_exists,not_and]; exact fun x hx he=>h.2 x hx (by rw[he]))]
def wpi (σ τ:St):Eff:=(σ.keys++τ.keys).map fun k=>(k,τ.look k)
theorem wrI {f:Key->Cont} {l:List Key} {k:Key}:wdl (l.map fun k=>(k,f k)) k=if k∈l then some (f k)else none:=by
 induction l with
 | nil=>rfl
 | cons x l ih =>
  simp only[List.map_cons,wdl,ih,List.mem_cons]
  by_cases h:x=k
  ·subst h; simp
  ·rw[if_neg h]; simp[Ne.symm h]
theorem wqz (σ τ:St):σ.look.app (wpi σ τ)=τ.look:=by
 funext k
 simp only[SF.app,wpi,wrI]
 by_cases h:k∈σ.keys++τ.keys
 ·rw[if_pos h]; rfl
 ·rw[if_neg h]
  simp only[List.mem_append,not_or]at h
  rw[Option.getD_none,woc h.1,woc h.2]
  cases k <;> rfl
theorem OpD.solo {σ1:St} (hxs:xs=[]) (hd1:σ1.rest=σ.rest) (h:OpT P G ro N o σ (fun τ=>τ=σ1)):OpD P G ro N xs o σ none σ1:=by
 refine⟨wpi σ σ1,trivial,by rw[hxs,wlz]; trivial,fun σ' hd hs _=>?_,(wqz _ _).symm,hd1⟩
 have hl:σ'.look=σ.look:=funext fun k=>hs k trivial
 intro B hro a w φ hr next Q hn
 exact h B hro a w φ (hr.same hl hd) next Q fun τ a' w' φ' ht hr'=>by
  subst ht
  exact hn τ a' w' φ' ⟨hd1,by rw[hl,wqz]⟩ hr'
theorem OpD.pure {v:PV} (h:wcl P G σ o.op=some v) (hd:wao N o.dst) (hx:exE xs (waS o.dst v)) :
  OpD P G ro N xs o σ (some (waM (wav o.op)++wkS σ o.op,wa5 o.dst)) (σ.put o.dst v):=by
 refine⟨waS o.dst v,fun k hk=>by rw[wcF]at hk; exact hk,hx,fun σ' hd' hs _=>?_,wbC _ _ _,St.put_rest _ _ _⟩
 have h1:=wcN (σ:=σ) (σ':=σ') (l:=wav o.op) fun k hk=>hs k (List.mem_append_left _ hk)
 exact OpT.pure (by rw[woL h1 fun k hk=>hs k (List.mem_append_right _ hk)]; exact h) hd ⟨by rw[St.put_rest]; exact hd',wbC _ _ _⟩
theorem OpD.new {r:Nat} {xp:Row×PV} (h:whe P σ r o.op=some xp) (hd:wao N o.dst) (hr0:waa σ.heap r=none) (hp0:1000<=r) (hx:exE xs (waS o.dst xp.2++[(.h r,.r (some xp.1))])) :
  OpD P G ro N xs o σ (some (.h r::waM (wav o.op),wa5 o.dst++[.h r])) (({ σ with heap:=wal σ.heap r xp.1 }:St).put o.dst xp.2):=by
 refine⟨waS o.dst xp.2++[(.h r,.r (some xp.1))],fun k hk=>?_,hx,fun σ' hd' hs _=>?_,wgV _ _ _ _ _,St.put_rest _ _ _⟩
 ·have:=wcF o.dst xp.2
  simp only[wct,List.map_append,List.map_cons,List.map_nil]at hk this
  rw[this]at hk; exact hk
 ·have h1:=wcN (σ:=σ) (σ':=σ') (l:=wav o.op) fun k hk=>hs k (List.mem_cons_of_mem _ hk)
  have h2:waa σ'.heap r=none:=by
   have:=hs (.h r) (List.mem_cons_self ..)
   simp only[St.look,Cont.r.injEq]at this
   rw[this,hr0]
  exact OpT.new (x:=xp.1) (p:=xp.2) (by rw[wqg h1]; exact h) hd h2 hp0 ⟨by rw[St.put_rest]; exact hd',wgV _ _ _ _ _⟩
theorem OpD.store {rx:Nat×Row} (h:wgc P σ o.op=some rx) (hd:wao N o.dst) (hx:exE xs (waS o.dst .any++[(.h rx.1,.r (some rx.2))])) :
  OpD P G ro N xs o σ (some (.h rx.1::waM (wav o.op),wa5 o.dst++[.h rx.1])) (({ σ with heap:=wal σ.heap rx.1 rx.2 }:St).put o.dst .any):=by
 refine⟨waS o.dst .any++[(.h rx.1,.r (some rx.2))],fun k hk=>?_,hx,fun σ' hd' hs _=>?_,wgV _ _ _ _ _,St.put_rest _ _ _⟩
 ·have:=wcF o.dst .any
  simp only[wct,List.map_append,List.map_cons,List.map_nil]at hk this
  rw[this]at hk; exact hk
 ·have h1:=wcN (σ:=σ) (σ':=σ') (l:=wav o.op) fun k hk=>hs k (List.mem_cons_of_mem _ hk)
  have h2:waa σ'.heap rx.1=waa σ.heap rx.1:=by
   have:=hs (.h rx.1) (List.mem_cons_self ..)
   simpa only[St.look,Cont.r.injEq]using this
  exact OpT.store1 (r:=rx.1) (x:=rx.2) (woM h1 h h2) hd ⟨by rw[St.put_rest]; exact hd',wgV _ _ _ _ _⟩
theorem wkV {σ:St}:∀ {l:List Operand} {p:PV},p∈wau σ l->∃ x∈l,σ.eval x=p
 | x::l,p,h=>by
  simp only[wau,List.mem_cons]at h
  rcases h with rfl | h
  ·exact⟨x,by simp,rfl⟩
  ·obtain⟨y,h1,h2⟩:=wkV h
   exact⟨y,by simp[h1],h2⟩
 | [],_,h=>by simp[wau]at h
theorem OpX.call {K:Foot->St->Prop} {c:Call} {f:FuncId} {args:List PV} {res:PV} (ho:o.op=.call c) (hc:c.callee=.value (.func f)) (hcal:wbd P f=true)
  (hf:PureFn P G f args res) (ha:wdD σ.heap (wau σ c.args.toList) args) (hd:wao N o.dst) (hres:dOnly res) (hx:exE xs (waS o.dst res))
  (hK:K (some (waM (wav o.op)++wcT σ (wav o.op),wa5 o.dst)) (σ.put o.dst res)):OpX P G ro N xs o σ K:=by
 refine⟨some (waM (wav o.op)++wcT σ (wav o.op),wa5 o.dst),σ.put o.dst res,⟨waS o.dst res,fun k hk=>by rw[wcF]at hk; exact hk,hx,fun σ' hd' hs _=>?_,wbC _ _ _,St.put_rest _ _ _⟩,hK⟩
 have h1:=wcN (σ:=σ) (σ':=σ') (l:=wav o.op) fun k hk=>hs k (List.mem_append_left _ hk)
 have h2:=whV (σ:=σ) (σ':=σ') (l:=wav o.op) fun k hk=>hs k (List.mem_append_right _ hk)
 rw[ho]at h1 h2
 refine OpT.call ho hc hcal hf ?_ hd ⟨by rw[St.put_rest]; exact hd',wbC _ _ _⟩ hres
 rw[wcd (l:=c.args.toList) h1]
 refine wh9 (fun p hp r hr=>?_) ha
 obtain⟨x,h3,rfl⟩:=wkV hp
 exact h2 x h3 r hr
theorem OpX.solo {K:Foot->St->Prop} {σ1:St} (hxs:xs=[]) (hd1:σ1.rest=σ.rest) (h:OpT P G ro N o σ (fun τ=>τ=σ1)) (hK:K none σ1):OpX P G ro N xs o σ K:=⟨none,σ1,OpD.solo hxs hd1 h,hK⟩
def wib (P:Program) (G:List (Nat×PD)) (ro:Option Nat) (N:Nat) (xs:Exc) (o:Oper) (σ:St) (K:Foot->St->Prop):Prop :=
 wao N o.dst/\match wcl P G σ o.op with
 | some v=>exE xs (waS o.dst v)/\K (some (waM (wav o.op)++wkS σ o.op,wa5 o.dst)) (σ.put o.dst v)
 | none=>match whe P σ (fresh σ.heap) o.op with
  | some xp=>exE xs (waS o.dst xp.2++[(.h (fresh σ.heap),.r (some xp.1))])/\K (some (.h (fresh σ.heap)::waM (wav o.op),wa5 o.dst++[.h (fresh σ.heap)])) (({ σ with heap:=wal σ.heap (fresh σ.heap) xp.1 }:St).put o.dst xp.2)
  | none=>match wgc P σ o.op with
   | some rx=>exE xs (waS o.dst .any++[(.h rx.1,.r (some rx.2))])/\K (some (.h rx.1::waM (wav o.op),wa5 o.dst++[.h rx.1])) (({ σ with heap:=wal σ.heap rx.1 rx.2 }:St).put o.dst .any)
   | none=>match xs,wmO P σ o.dst o.op with
    | [],some σ'=>σ'.rest=σ.rest/\K none σ'
    | _,_=>OpX P G ro N xs o σ K
theorem OpX.vc {K:Foot->St->Prop} (h:wib P G ro N xs o σ K):OpX P G ro N xs o σ K:=by
 obtain⟨hd,h⟩:=h
 split at h
 ·rename_i v hv; exact⟨_,_,OpD.pure hv hd h.1,h.2⟩
 ·split at h
  ·rename_i xp hx; exact⟨_,_,OpD.new hx hd (weR _) (wgT _) h.1,h.2⟩
  ·split at h
   ·rename_i rx hx; exact⟨_,_,OpD.store hx hd h.1,h.2⟩
   ·split at h
    ·rename_i σ' hs; exact⟨_,_,OpD.solo rfl h.1 (OpT.mem hs hd rfl),h.2⟩
    ·exact h
def wss (P:Program) (G:List (Nat×PD)) (ro:Option Nat) (N:Nat) (xs:Exc) (ds:List (Option Tmp)) (o:Oper) (σ:St) (K:Foot->St->Prop):Prop :=
 match o.guard with
 | none=>wib P G ro N xs o σ K
 | some (j,want)=>match wer σ ds j with
  | some b=>(b=want->wib P G ro N xs o σ (fun f σ1=>K (f.plus (wfe ds o.guard)) σ1))/\(b≠want->wao N o.dst/\K (some (wfe ds o.guard,wa5 o.dst)) (σ.put o.dst .any))
  | none=>False
theorem DOps.cons {rest:List Oper} {acc:List Foot} {Q:St->Prop} (h:∀ K:Foot->St->Prop,(∀ f σ1,DOps P G ro N xs ops Q rest (acc++[f]) σ1->K f σ1)->wss P G ro N xs (wbq ops) o σ K) :
  DOps P G ro N xs ops Q (o::rest) acc σ:=by
 have h:=h (fun f σ1=>DOps P G ro N xs ops Q rest (acc++[f]) σ1) (fun _ _ h=>h)
 unfold wss at h
 split at h
 ·rename_i hg
  obtain⟨f,σ1,h1,h2⟩:=OpX.vc h
  exact .step (DStep.plain hg h1) h2
 ·rename_i j want hg
  split at h
  ·rename_i b hb
   by_cases hbw:b=want
   ·subst hbw
    obtain⟨f,σ1,h1,h2⟩:=OpX.vc (h.1 rfl)
    exact .step (DStep.yes hg hb h1) h2
   ·obtain⟨h1,h2⟩:=h.2 hbw
    exact .step (DStep.no hg hb hbw h1) h2
  ·exact h.elim
theorem DOps.nil {acc:List Foot} {Q:St->Prop} (h:wpg ops.toList acc=true) (hq:Q σ):DOps P G ro N xs ops Q [] acc σ:=.stop h (AOps.nil hq)
end
end Go.Pv

namespace Go.Pv
attribute [go_sem] valRows valRowsL wjK wav waM wcT wkS whe wgc wa5 wfe Foot.plus wss wib exE exOk wlz wmR waS Cont.rows rowsOf rowsOfL Key.among List.contains_cons List.contains_nil
end Go.Pv

namespace Go.Pv
mutual
def PV.ren (g:Nat->Nat):PV->PV
 | .ptr r i off=>.ptr (g r) i off
 | .slc r lo n=>.slc (g r) lo n
 | .mp r=>.mp (g r)
 | .func fn l=>.func fn (renL g l)
 | .agg l=>.agg (renL g l)
 | .tuple l=>.tuple (renL g l)
 | .any=>.any
 | .d x=>.d x
 | .b x=>.b x
 | .dptr k els i off=>.dptr k els i off
 | .bptr k els i off=>.bptr k els i off
 | .glob n=>.glob n
 | .val v=>.val v
def renL (g:Nat->Nat):List PV->List PV
 | []=>[]
 | p::l=>p.ren g::renL g l
end
theorem wan (g:Nat->Nat):∀ l:List PV,(renL g l).length=l.length
 | []=>rfl
 | p::l=>by simp only[renL,List.length_cons,wan g l]
theorem wcx (g:Nat->Nat):∀ (l:List PV) (i:Nat) (hi:i < l.length) (hi':i < (renL g l).length),(renL g l)[i]=(l[i]).ren g
 | p::l,0,_,_=>by simp[renL]
 | p::l,i+1,hi,hi'=>by simpa [renL]using wcx g l i (by simpa using hi) (by simpa [renL]using hi')
 | [],i,hi,_=>by simp at hi
def Row.ren (g:Nat->Nat) (x:Row):Row:={ x with els:=renL g x.els }
theorem wet (g:Nat->Nat):∀ l:List PV,renL g l=l.map (PV.ren g)
 | []=>by simp[renL]
 | p::l=>by simp[renL,wet g l]
theorem wmo (g:Nat->Nat) {p:PV} (h:isByte p=true):p.ren g=p:=by
 cases p <;> simp[isByte]at h
 simp[PV.ren]
theorem wqh {g:Nat->Nat} {p:PV} (h:isByte (p.ren g)=true):isByte p=true:=by
 cases p <;> simp[PV.ren,isByte]at h ⊢
 exact h
theorem headOk.of_ren {g:Nat->Nat} {z:Nat} {l:List PV} (h:headOk z (renL g l)):headOk z l:=fun i hi=>by
 obtain⟨p,h1,h2⟩:=h i hi
 rw[wet,List.getElem?_map,Option.map_eq_some_iff]at h1
 obtain⟨q,h3,rfl⟩:=h1
 exact⟨q,h3,wqh h2⟩
mutual
def clean:PV->Prop
 | .b _=>False
 | .bptr _ _ _ _=>False
 | .func _ l=>cleanL l
 | .agg l=>cleanL l
 | .tuple l=>cleanL l
 | .any=>True
 | .d _=>True
 | .dptr _ _ _ _=>True
 | .ptr _ _ _=>True
 | .slc _ _ _=>True
 | .mp _=>True
 | .glob _=>True
 | .val _=>True
def cleanL:List PV->Prop
 | []=>True
 | p::l=>clean p/\cleanL l
end
theorem wcA:∀ {l:List PV},cleanL l->∀ i (hi:i < l.length),clean l[i]
 | [],_,i,hi=>by simp at hi
 | p::l,h,0,_=>h.1
 | p::l,h,i+1,hi=>by simpa using wcA h.2 i (by simpa using hi)
structure Hand (σ:St) (H:wac) (g:Nat->Nat):Prop where
 pin:∀ r x,waa H r=some x->r < 1000
 row:∀ r x,waa H r=some x->waa σ.heap (g r)=some (x.ren g)
 inj:∀ r s x y,waa H r=some x->waa H s=some y->g r=g s->r=s
 refs:∀ r x,waa H r=some x->refsInL H x.els
structure Hand0 (σ:St) (H:wac) (g:Nat->Nat):Prop where
 row:∀ r x,waa H r=some x->waa σ.heap (g r)=some (x.ren g)
 inj:∀ r s x y,waa H r=some x->waa H s=some y->g r=g s->r=s
 refs:∀ r x,waa H r=some x->refsInL H x.els
theorem Hand.h0 {σ:St} {H:wac} {g:Nat->Nat} (h:Hand σ H g):Hand0 σ H g:=⟨h.row,h.inj,h.refs⟩
structure Back (σ:St) (H H':wac) (g ρ:Nat->Nat):Prop where
 old:∀ r x',waa H' r=some x'->r < 1000->∃ x,waa H r=some x/\ρ r=g r/\x'.k=x.k/\(1<=x.k->x'.els.length=x.els.length)
 all:∀ r x,waa H r=some x->∃ x',waa H' r=some x'
 new:∀ r x',waa H' r=some x'->1000<=r->waa σ.heap (ρ r)=none/\1000<=ρ r
 inj:∀ r s x y,waa H' r=some x->waa H' s=some y->ρ r=ρ s->r=s
 refs:∀ r x,waa H' r=some x->refsInL H' x.els/\cleanL x.els
def wbT (φ:Nm) (H:wac) (g:Nat->Nat) (gc:Gh):Nm:=⟨fun r=>if (waa H r).isSome=true then φ (g r)else none,fun b=>gc.isSome=true/\φ.T b⟩
theorem wdb {φ:Nm} {H:wac} {g:Nat->Nat} {gc:Gh} {r:Nat} {x:Row} (h:waa H r=some x):(wbT φ H g gc) r=φ (g r):=by
 show (if (waa H r).isSome=true then φ (g r)else none)=_
 rw[h]; rfl
def Base.hand {P:Program} (B:Base P) (w:World) (φ:Nm) (H0 H:wac) (g:Nat->Nat) (gc:Gh) (hk:B.w0.heap.size<=w.heap.size) (hlt:∀ b,own φ H0 b->b < w.heap.size):Base P :=
  { w0:=w,X:=fun b kk=>B.X b kk\/(own φ H0 b/\¬ own (wbT φ H g gc) H b),hX:=fun b kk h=>h.elim (fun h=>Nat.lt_of_lt_of_le (B.hX b _ h) hk) (fun h=>hlt b h.1),o0:=own (wbT φ H g gc) H,φ0:=(wbT φ H g gc).f,z0:=csz w,ro:=none,held:=[],hheld:=fun _=>rfl,
    J:=B.J,stab:=B.stab,fr:=B.fr,y:=B.y,yok:=B.yok }
section
variable {P:Program} {G:List (Nat×PD)} {B:Base P} {N:Nat} {σ:St} {a:Act} {w:World} {φ:Nm} {H H' H2:wac} {g ρ:Nat->Nat} {gc:Gh}
theorem wd4 (hh:Hand0 σ H g) {b:Nat} (h:waD (wbT φ H g gc) H b):waD φ σ.heap b:=by
 obtain⟨r,x,h1,h2⟩:=h
 rw[wdb h1]at h2
 exact⟨g r,x.ren g,hh.row r x h1,h2⟩
theorem wdc (hh:Hand0 σ H g) {b:Nat} (h:own (wbT φ H g gc) H b):own φ σ.heap b:=h.elim (fun h=>.inl (wd4 hh h)) (fun h=>.inr h.2)
abbrev Rep.bc (hr:Rep G B N σ a w φ) (H:wac) (g:Nat->Nat) (gc:Gh):Base P:=B.hand w φ σ.heap H g gc hr.keeps.size (fun _=>hr.heap.own_lt)
theorem wpj (hr:Rep G B N σ a w φ) (hh:Hand0 σ H g) {b kk:Nat} (h:okd w B.X φ σ.heap b kk):okd w (hr.bc H g gc).X (wbT φ H g gc) H b kk :=
 ⟨h.1,fun hx=>hx.elim h.2.1 (fun hx=>h.2.2 hx.1),fun ho=>h.2.2 (wdc hh ho)⟩
theorem RepV.hand (hr:Rep G B N σ a w φ) (hh:Hand0 σ H g) {v:Value} {q:PV} (hv:RepV w B.X φ σ.heap v q):∀ {p:PV},q=p.ren g->refsIn H p->RepV w (hr.bc H g gc).X (wbT φ H g gc) H v p:=by
 have hd:∀ {v:Value} {x:PD},RepD w (okd w B.X φ σ.heap) v x->RepD w (okd w (hr.bc H g gc).X (wbT φ H g gc) H) v x:=fun h=>h.mono (fun b kk hb=>wpj hr hh hb) (fun _ _ _=>rfl)
 have hb:∀ {v:Value} {x:PD},RepD w (okb w φ σ.heap) v x->RepD w (okb w (wbT φ H g gc) H) v x:=fun h=>h.mono (fun b kk hb=>⟨hb.1,fun ho=>hb.2 (wdc hh ho)⟩) (fun _ _ _=>rfl)
 have hrow:∀ {r:Nat} {x:Row},waa σ.heap (g r)=some x->(waa H r).isSome=true->∃ x0,waa H r=some x0/\x=x0.ren g:=fun {r x} h1 h2=>by
  obtain⟨x0,h3⟩:=Option.isSome_iff_exists.1 h2
  refine⟨x0,h3,?_⟩
  have:=hh.row _ _ h3
  rw[h1]at this; simpa using this
 induction hv with
 | any v=>intro p hp _; cases p <;> simp only[PV.ren,reduceCtorEq]at hp; exact .any v
 | d h=>intro p hp _; cases p <;> simp only[PV.ren,reduceCtorEq,PV.d.injEq]at hp; subst hp; exact .d (hd h)
 | b h=>intro p hp _; cases p <;> simp only[PV.ren,reduceCtorEq,PV.b.injEq]at hp; subst hp; exact .b (hb h)
 | mp hx hφ hk =>
  intro p hp hrf
  cases p <;> simp only[PV.ren,reduceCtorEq,PV.mp.injEq]at hp
  subst hp
  simp only[refsIn]at hrf
  obtain⟨x0,h1,rfl⟩:=hrow hx hrf
  exact RepV.mp (x:=x0) h1 ((wdb h1).trans hφ) hk
 | ptr hx hφ hk =>
  intro p hp hrf
  cases p <;> simp only[PV.ren,reduceCtorEq,PV.ptr.injEq]at hp
  obtain⟨rfl,rfl,rfl⟩:=hp
  simp only[refsIn]at hrf
  obtain⟨x0,h1,rfl⟩:=hrow hx hrf
  exact RepV.ptr (x:=x0) h1 ((wdb h1).trans hφ) hk
 | dptr h hi=>intro p hp _; cases p <;> simp only[PV.ren,reduceCtorEq,PV.dptr.injEq]at hp; obtain⟨rfl,rfl,rfl,rfl⟩:=hp; exact .dptr (hd h) hi
 | bptr h hi=>intro p hp _; cases p <;> simp only[PV.ren,reduceCtorEq,PV.bptr.injEq]at hp; obtain⟨rfl,rfl,rfl,rfl⟩:=hp; exact .bptr (hb h) hi
 | glob n=>intro p hp _; cases p <;> simp only[PV.ren,reduceCtorEq,PV.glob.injEq]at hp; subst hp; exact .glob n
 | val hf=>intro p hp _; cases p <;> simp only[PV.ren,reduceCtorEq,PV.val.injEq]at hp; subst hp; exact .val hf
 | slc hx hφ hk hn hc hl hz =>
  intro p hp hrf
  cases p <;> simp only[PV.ren,reduceCtorEq,PV.slc.injEq]at hp
  obtain⟨rfl,rfl,rfl⟩:=hp
  simp only[refsIn]at hrf
  obtain⟨x0,h1,rfl⟩:=hrow hx hrf
  simp only[Row.ren,wan]at hn hl
  exact RepV.slc (x:=x0) h1 ((wdb h1).trans hφ) hk hn hc hl hz
 | slc0 hx hφ hk hp0 =>
  intro p hp hrf
  cases p <;> simp only[PV.ren,reduceCtorEq,PV.slc.injEq]at hp
  obtain⟨rfl,rfl,rfl⟩:=hp
  simp only[refsIn]at hrf
  obtain⟨x0,h1,rfl⟩:=hrow hx hrf
  exact RepV.slc0 (x:=x0) h1 ((wdb h1).trans hφ) hk hp0
 | func hs _ ih =>
  intro p hp hrf
  cases p <;> simp only[PV.ren,reduceCtorEq,PV.func.injEq]at hp
  obtain⟨rfl,rfl⟩:=hp
  simp only[refsIn]at hrf
  rw[wan]at hs
  exact .func hs fun i hi=>ih i (by rw[wan]; exact hi) (wcx _ _ _ _ _) (wbp hrf i hi)
 | agg hs _ hf ih =>
  intro p hp hrf
  cases p <;> simp only[PV.ren,reduceCtorEq,PV.agg.injEq]at hp
  subst hp
  simp only[refsIn]at hrf
  rw[wan]at hs
  exact .agg hs (fun i hi=>ih i (by rw[wan]; exact hi) (wcx _ _ _ _ _) (wbp hrf i hi)) (fun i hi=>hf i (by rw[wan]; exact hi))
 | tuple hs _ ih =>
  intro p hp hrf
  cases p <;> simp only[PV.ren,reduceCtorEq,PV.tuple.injEq]at hp
  subst hp
  simp only[refsIn]at hrf
  rw[wan]at hs
  exact .tuple hs fun i hi=>ih i (by rw[wan]; exact hi) (wcx _ _ _ _ _) (wbp hrf i hi)
theorem Rep.hand (hr:Rep G B N σ a w φ) (hh:Hand0 σ H g) (hg:gc=none\/gc=σ.gh):Sit G (hr.bc H g gc) w (wbT φ H g gc) H gc:=by
 refine⟨⟨fun r x b hx hb=>?_,fun r x hx hb=>?_,fun r s x y b hx hy hb hb'=>?_,fun b hT=>?_⟩,.refl _ _,fun r x b hx hb=>.inl (.inl ⟨r,x,hx,hb⟩),fun _ _ _ _=>rfl,fun _ _ _ _ _ _=>rfl,fun n x hm=>?_,fun b hT=>.inl (.inr hT),?_⟩
 ·have hb':=hb
  rw[wdb hx]at hb'
  refine(hr.heap.rows _ _ b (hh.row r x hx) hb').turn rfl rfl (by simp[Row.ren,wan]) (fun _ _ h=>h) (fun kk hX=>hX.elim ((hr.heap.rows _ _ b (hh.row r x hx) hb').free kk) (fun h=>h.2 (.inl ⟨r,x,hx,hb⟩))) (fun i hi hi' v hv=>?_) (fun z hz=>headOk.of_ren hz)
  exact hv.hand hr hh (by simp only[Row.ren]; exact wcx _ _ _ hi' _) (wbp (hh.refs r x hx) i hi')
 ·rw[wdb hx]at hb
  have:=hr.heap.void _ _ (hh.row r x hx) hb
  have hl:=wan g x.els
  simp only[Row.ren]at this
  rw[this]at hl
  exact List.eq_nil_of_length_eq_zero hl.symm
 ·rw[wdb hx]at hb
  rw[wdb hy]at hb'
  exact hh.inj r s x y hx hy (hr.heap.inj _ _ _ _ b (hh.row r x hx) (hh.row s y hy) hb hb')
 ·obtain⟨h1,h2,h3⟩:=hr.heap.far b hT.2
  exact⟨h1,fun kk hX=>hX.elim (h2 kk) (fun h=>h.2 (.inr hT)),fun h=>h3 (wd4 hh h)⟩
 ·obtain⟨c,e,f,v,h1,h2,h3,h4,h5⟩:=hr.glob n x hm
  exact⟨c,e,f,v,h1,fun ho=>h2 (wdc hh ho),h3.mono (fun b kk hb=>wpj hr hh hb) (fun _ _ _=>rfl),h4,h5.1,fun hX=>hX.elim h5.2 (fun h=>h2 h.1)⟩
 ·cases gc with
  | none=>exact fun b h=>by simp[wbT]at h
  | some p =>
   have hs:σ.gh=some p:=(hg.resolve_left (by simp)).symm
   have hinv:=hr.inv
   rw[hs]at hinv
   obtain⟨l,all,xs,c⟩:=p
   have hT:(wbT φ H g (some (l,all,xs,c))).T=φ.T:=by funext b; simp[wbT]
   rw[hT]
   have hM:∀ b kk,(hr.bc H g (some (l,all,xs,c))).mine (wbT φ H g (some (l,all,xs,c))) H b kk->B.mine φ σ.heap b kk:=fun b kk hb=>by
    rcases hb with (hb | ⟨hb,hn⟩) | hb
    ·exact .inl hb
    ·rcases hb with hb | hb
     ·exact .inr hb
     ·exact absurd (.inr ⟨rfl,hb⟩) hn
    ·exact .inr (wd4 hh hb)
   rcases hinv with hinv | ⟨hf,ha,m,ys,hx,hj⟩
   ·exact .inl ⟨hinv.1,hinv.2.1,B.stab _ _ _ _ _ _ hinv.2.2 rfl rfl rfl (Nat.le_refl _) (fun _ _ _ _=>rfl) (fun b kk hb=>.inl (hM b kk hb))⟩
   ·exact .inr ⟨hf,ha,m,ys,hx,hj.stab (Nat.le_refl _) (fun _ _ _ _=>rfl) (fun b kk hb=>.inl (hM b kk hb))⟩
open Classical in
noncomputable def wbe (φ φ':Nm) (H':wac) (ρ:Nat->Nat) (gc:Gh):Nm :=
 ⟨fun s=>if h:∃ r,(waa H' r).isSome=true/\ρ r=s then φ' (Classical.choose h)else φ s,fun b=>if gc.isSome=true then φ'.T b else φ.T b⟩
open Classical in
theorem wcG {φ':Nm} (hb:Back σ H H' g ρ) {r:Nat} {x:Row} (h:waa H' r=some x):(wbe φ φ' H' ρ gc) (ρ r)=φ' r:=by
 have hex:∃ r',(waa H' r').isSome=true/\ρ r'=ρ r:=⟨r,by rw[h]; rfl,rfl⟩
 show (if h:∃ r',(waa H' r').isSome=true/\ρ r'=ρ r then φ' (Classical.choose h)else φ (ρ r))=φ' r
 rw[dif_pos hex]
 obtain⟨h1,h2⟩:=Classical.choose_spec hex
 obtain⟨y,hy⟩:=Option.isSome_iff_exists.1 h1
 rw[hb.inj _ _ _ _ hy h h2]
open Classical in
theorem wbn {φ':Nm} {s:Nat} (h:∀ r x,waa H' r=some x->ρ r≠s):(wbe φ φ' H' ρ gc) s=φ s:=by
 show (if h:∃ r',(waa H' r').isSome=true/\ρ r'=s then φ' (Classical.choose h)else φ s)=φ s
 rw[dif_neg]
 rintro⟨r,h1,h2⟩
 obtain⟨y,hy⟩:=Option.isSome_iff_exists.1 h1
 exact h r y hy h2
structure Merged (σ:St) (H':wac) (ρ:Nat->Nat) (H2:wac):Prop where
 inn:∀ r x,waa H' r=some x->waa H2 (ρ r)=some (x.ren ρ)
 out:∀ s,(∀ r x,waa H' r=some x->ρ r≠s)->waa H2 s=waa σ.heap s
def wbP (ρ:Nat->Nat):wac->wac->wac
 | [],H0=>H0
 | (r,x)::l,H0=>wal (wbP ρ l H0) (ρ r) (x.ren ρ)
theorem whv:∀ {l H0:wac},(∀ r s,(waa l r).isSome=true->(waa l s).isSome=true->ρ r=ρ s->r=s) →
  (∀ r x,waa l r=some x->waa (wbP ρ l H0) (ρ r)=some (x.ren ρ))/\∀ s,(∀ r x,waa l r=some x->ρ r≠s)->waa (wbP ρ l H0) s=waa H0 s
 | [],H0,_=>⟨fun r x h=>by simp[waa]at h,fun s _=>rfl⟩
 | (r0,x0)::l,H0,hi=>by
  have hsub:∀ r,(waa l r).isSome=true->(waa ((r0,x0)::l) r).isSome=true:=fun r h=>by simp only[waa]; split <;> simp_all
  obtain⟨h1,h2⟩:=whv (l:=l) (H0:=H0) (fun r s hr hs=>hi r s (hsub r hr) (hsub s hs))
  refine⟨fun r x h=>?_,fun s h=>?_⟩
  ·simp only[wbP,wai]
   by_cases hr:r0=r
   ·subst hr; simp only[waa,if_true,Option.some.injEq]at h; subst h; simp
   ·have h':=h
    simp only[waa,if_neg hr]at h'
    rw[if_neg (fun e=>hr (hi r0 r (by simp[waa]) (by rw[h]; rfl) e))]
    exact h1 r x h'
  ·simp only[wbP,wai]
   rw[if_neg (h r0 x0 (by simp[waa]))]
   by_cases hex:∃ x,waa l r0=some x
   ·refine h2 s fun r x hx=>?_
    by_cases hr:r0=r
    ·subst hr; exact h r0 x0 (by simp[waa])
    ·exact h r x (by simp only[waa,if_neg hr]; exact hx)
   ·refine h2 s fun r x hx=>?_
    have hr:r0≠r:=fun e=>hex ⟨x,e▸hx⟩
    exact h r x (by simp only[waa,if_neg hr]; exact hx)
theorem Back.merged (hb:Back σ H H' g ρ):Merged σ H' ρ (wbP ρ H' σ.heap):=by
 obtain⟨h1,h2⟩:=whv (ρ:=ρ) (l:=H') (H0:=σ.heap) (fun r s hr hs he=>by
  obtain⟨x,hx⟩:=Option.isSome_iff_exists.1 hr
  obtain⟨y,hy⟩:=Option.isSome_iff_exists.1 hs
  exact hb.inj r s x y hx hy he)
 exact⟨h1,h2⟩
end
end Go.Pv

namespace Go.Pv
section
variable {P:Program} {G:List (Nat×PD)} {B:Base P} {N:Nat} {σ:St} {a:Act} {w w':World} {φ φ':Nm} {H H' H2:wac} {g ρ:Nat->Nat} {gc g':Gh}
structure Came (hr:Rep G B N σ a w φ) (H H' H2:wac) (g ρ:Nat->Nat) (gc g':Gh) (w':World) (φ':Nm):Prop where
 hh:Hand σ H g
 hg:gc=none\/gc=σ.gh
 hb:Back σ H H' g ρ
 hm:Merged σ H' ρ H2
 hs:Sit G (hr.bc H g gc) w' φ' H' g'
variable {hr:Rep G B N σ a w φ} (c:Came hr H H' H2 g ρ gc g' w' φ')
include c
theorem Came.old {b:Nat} (hlt:b < w.heap.size) (h:¬ own (wbT φ H g gc) H b):w'.heap[b]? = w.heap[b]?:=c.hs.keeps.block b hlt h
theorem Came.out_own {s b:Nat} {y:Row} (hn:∀ r x,waa H' r=some x->ρ r≠s) (hy:waa σ.heap s=some y) (hφ:φ s=some b):¬ own (wbT φ H g gc) H b:=by
 rintro(⟨r,x,hx,hrb⟩ | hT)
 ·rw[wdb hx]at hrb
  have e:=hr.heap.inj _ _ _ _ b (c.hh.row r x hx) hy hrb hφ
  obtain⟨x',hx'⟩:=c.hb.all r x hx
  obtain⟨_,_,h2,_⟩:=c.hb.old r x' hx' (c.hh.pin r x hx)
  exact hn r x' hx' (h2.trans e)
 ·exact(hr.heap.far b hT.2).2.2 ⟨s,y,hy,hφ⟩
theorem Came.handed {r:Nat} {x':Row} (hx':waa H' r=some x') (hp:r < 1000):∃ x,waa H r=some x/\ρ r=g r/\x'.k=x.k/\(1<=x.k->x'.els.length=x.els.length)/\φ' r=φ (g r):=by
 obtain⟨x,h1,h2,h3,h4⟩:=c.hb.old r x' hx' hp
 refine⟨x,h1,h2,h3,h4,?_⟩
 have:=c.hs.pins r x' hx' (by simp[pinned,hp])
 exact this.trans (wdb (φ:=φ) (g:=g) (gc:=gc) h1)
theorem Came.row_of {b:Nat} (h:waD (wbe φ φ' H' ρ gc) H2 b):waD φ' H' b\/∃ s y,(∀ r x,waa H' r=some x->ρ r≠s)/\waa σ.heap s=some y/\φ s=some b:=by
 obtain⟨s,y,h1,h2⟩:=h
 by_cases hex:∃ r x,waa H' r=some x/\ρ r=s
 ·obtain⟨r,x,hx,rfl⟩:=hex
  rw[wcG c.hb hx]at h2
  exact .inl ⟨r,x,hx,h2⟩
 ·have hn:∀ r x,waa H' r=some x->ρ r≠s:=fun r x hx e=>hex ⟨r,x,hx,e⟩
  rw[wbn hn]at h2
  rw[c.hm.out s hn]at h1
  exact .inr ⟨s,y,hn,h1,h2⟩
theorem Came.own_old {b:Nat} (hlt:b < w.heap.size) (h:own (wbe φ φ' H' ρ gc) H2 b):own φ σ.heap b:=by
 rcases h with h | h
 ·rcases c.row_of h with ⟨r,x,hx,hφ⟩ | ⟨s,y,_,hy,hφ⟩
  ·rcases c.hs.new r x b hx hφ with h | h
   ·exact wdc c.hh.h0 h
   ·exact absurd hlt (Nat.not_lt.2 h)
  ·exact .inl ⟨s,y,hy,hφ⟩
 ·simp only[wbe]at h
  split at h
  ·rcases c.hs.tnew b h with h | h
   ·exact wdc c.hh.h0 h
   ·exact absurd hlt (Nat.not_lt.2 h)
  ·exact .inr h
theorem Came.own_new {b kk:Nat} (hX:¬ (hr.bc H g gc).X b kk) (ho:¬ own φ' H' b):¬ own (wbe φ φ' H' ρ gc) H2 b:=by
 rintro(h | h)
 ·rcases c.row_of h with h | ⟨s,y,hn,hy,hφ⟩
  ·exact ho (.inl h)
  ·exact hX (.inr ⟨.inl ⟨s,y,hy,hφ⟩,c.out_own hn hy hφ⟩)
 ·simp only[wbe]at h
  split at h
  ·exact ho (.inr h)
  ·rename_i hgc
   refine hX (.inr ⟨.inr h,?_⟩)
   rintro(h2 | h2)
   ·exact(hr.heap.far b h).2.2 (wd4 c.hh.h0 h2)
   ·exact hgc h2.1
theorem Came.ext:Ext w B.X φ σ.heap w' (wbe φ φ' H' ρ gc) H2:=by
 have hsz:=c.hs.keeps.size
 refine⟨fun r x hx=>?_,fun b kk h=>⟨Nat.lt_of_lt_of_le h.1 hsz,h.2.1,fun ho=>h.2.2 (c.own_old h.1 ho)⟩,fun b kk h=>⟨Nat.lt_of_lt_of_le h.1 hsz,fun ho=>h.2 (c.own_old h.1 ho)⟩,
  fun b kk h=>c.old h.1 (fun ho=>h.2 (wdc c.hh.h0 ho)),fun r x b hx hφ cs e f hcs=>?_⟩
 ·by_cases hex:∃ r0 x0,waa H' r0=some x0/\ρ r0=r
  ·obtain⟨r0,x0',hx0,rfl⟩:=hex
   have hp:r0 < 1000:=by
    rcases Nat.lt_or_ge r0 1000 with h | h
    ·exact h
    ·have:=(c.hb.new r0 x0' hx0 h).1
     rw[hx]at this; cases this
   obtain⟨x0,h1,h2,h3,h4,h5⟩:=c.handed hx0 hp
   have h6:=c.hh.row r0 x0 h1
   rw[<-h2,hx]at h6
   simp only[Option.some.injEq]at h6; subst h6
   refine⟨x0'.ren ρ,c.hm.inn r0 x0' hx0,h3,fun hk=>by simp only[Row.ren,wan]; exact h4 hk,?_⟩
   rw[wcG c.hb hx0,h5,h2]
  ·have hn:∀ r0 x0,waa H' r0=some x0->ρ r0≠r:=fun r0 x0 h e=>hex ⟨r0,x0,h,e⟩
   exact⟨x,(c.hm.out r hn).trans hx,rfl,fun _=>rfl,wbn hn⟩
 ·have hw':csz w' b=cs.size:=by unfold csz; rw[hcs]
  have hcsz:csz w b=csz w' b->∃ c0 e0 f0,w.heap[b]? = some (.cells c0 e0 f0)/\c0.size=cs.size:=fun hcz=>by
   obtain⟨o,h1,h2⟩:=(hr.heap.rows r x b hx hφ).some
   cases o with
   | cells c0 e0 f0=>exact⟨c0,e0,f0,h1,by rw[<-hw',<-hcz]; unfold csz; rw[h1]⟩
   | map es cl =>
    exfalso
    have hk0:x.k=0:=Nat.eq_zero_of_not_pos fun hk=>by
     obtain⟨_,_,_,h3,_⟩:=(hr.heap.rows r x b hx hφ).here hk
     rw[h1]at h3; cases h3
    by_cases hex:∃ r0 x0,waa H' r0=some x0/\ρ r0=r
    ·obtain⟨r0,x0',hx0,rfl⟩:=hex
     have hp:r0 < 1000:=by
      rcases Nat.lt_or_ge r0 1000 with h | h
      ·exact h
      ·have:=(c.hb.new r0 x0' hx0 h).1
       rw[hx]at this; cases this
     obtain⟨x0,h4,h5,h6,_,h7⟩:=c.handed hx0 hp
     have h8:=c.hh.row r0 x0 h4
     rw[<-h5,hx]at h8
     simp only[Option.some.injEq]at h8
     have h9:x0'.k=0:=by rw[h6,<-hk0,h8]; rfl
     obtain⟨_,_,h10,_⟩:=(c.hs.heap.rows r0 x0' b hx0 (by rw[h7,<-h5]; exact hφ)).map h9
     rw[hcs]at h10; cases h10
    ·have hn:∀ r0 x0,waa H' r0=some x0->ρ r0≠r:=fun r0 x0 h e=>hex ⟨r0,x0,h,e⟩
     have:=c.old (hr.heap.lt hx hφ) (c.out_own hn hx hφ)
     rw[hcs,h1]at this; cases this
   | _=>cases h2
  refine hcsz ?_
  by_cases hex:∃ r0 x0,waa H' r0=some x0/\ρ r0=r
  ·obtain⟨r0,x0',hx0,rfl⟩:=hex
   have hp:r0 < 1000:=by
    rcases Nat.lt_or_ge r0 1000 with h | h
    ·exact h
    ·have:=(c.hb.new r0 x0' hx0 h).1
     rw[hx]at this; cases this
   obtain⟨x0,h1,h2,h3,h4,h5⟩:=c.handed hx0 hp
   exact(c.hs.psz r0 x0' b hx0 (by simp[pinned,hp]) (by rw[h5,<-h2]; exact hφ)).symm
  ·have hn:∀ r0 x0,waa H' r0=some x0->ρ r0≠r:=fun r0 x0 h e=>hex ⟨r0,x0,h,e⟩
   exact(wel (c.old (hr.heap.lt hx hφ) (c.out_own hn hx hφ))).symm
theorem Came.okd {b kk:Nat} (h:okd w' (hr.bc H g gc).X φ' H' b kk):okd w' B.X (wbe φ φ' H' ρ gc) H2 b kk:=⟨h.1,fun hX=>h.2.1 (.inl hX),c.own_new h.2.1 h.2.2⟩
theorem Came.val {v:Value} {p:PV} (hv:RepV w' (hr.bc H g gc).X φ' H' v p):clean p->refsIn H' p->RepV w' B.X (wbe φ φ' H' ρ gc) H2 v (p.ren ρ):=by
 have hd:∀ {v:Value} {x:PD},RepD w' (Pv.okd w' (hr.bc H g gc).X φ' H') v x->RepD w' (Pv.okd w' B.X (wbe φ φ' H' ρ gc) H2) v x:=fun h=>h.mono (fun b k hb=>c.okd hb) (fun _ _ _=>rfl)
 induction hv with
 | any v=>intro _ _; simp only[PV.ren]; exact .any v
 | d h=>intro _ _; simp only[PV.ren]; exact .d (hd h)
 | b h=>intro h0 _; simp[clean]at h0
 | @ptr r i off b x hx hφ hk=>intro _ _; simp only[PV.ren]; exact RepV.ptr (x:=x.ren ρ) (c.hm.inn _ _ hx) ((wcG c.hb hx).trans hφ) hk
 | @mp r b x hx hφ hk=>intro _ _; simp only[PV.ren]; exact RepV.mp (x:=x.ren ρ) (c.hm.inn _ _ hx) ((wcG c.hb hx).trans hφ) hk
 | dptr h hi=>intro _ _; simp only[PV.ren]; exact .dptr (hd h) hi
 | bptr h hi=>intro h0 _; simp[clean]at h0
 | glob n=>intro _ _; simp only[PV.ren]; exact .glob n
 | val hf=>intro _ _; simp only[PV.ren]; exact .val hf
 | @slc r lo n cap b x hx hφ hk hn hc hl hz=>intro _ _; simp only[PV.ren]; exact RepV.slc (x:=x.ren ρ) (c.hm.inn _ _ hx) ((wcG c.hb hx).trans hφ) hk (by simpa [Row.ren,wan]using hn) hc (by simpa [Row.ren,wan]using hl) hz
 | @slc0 r x p hx hφ hk hp=>intro _ _; simp only[PV.ren]; exact RepV.slc0 (x:=x.ren ρ) (c.hm.inn _ _ hx) ((wcG c.hb hx).trans hφ) hk hp
 | func hs _ ih =>
  intro h0 h1
  simp only[clean]at h0; simp only[refsIn]at h1
  simp only[PV.ren]
  refine .func (by rw[wan]; exact hs) (fun i hi=>?_)
  rw[wan]at hi
  rw[wcx _ _ i hi]
  exact ih i hi (wcA h0 i hi) (wbp h1 i hi)
 | agg hs _ hf ih =>
  intro h0 h1
  simp only[clean]at h0; simp only[refsIn]at h1
  simp only[PV.ren]
  refine .agg (by rw[wan]; exact hs) (fun i hi=>?_) (fun i hi=>hf i (by rw[wan]at hi; exact hi))
  rw[wan]at hi
  rw[wcx _ _ i hi]
  exact ih i hi (wcA h0 i hi) (wbp h1 i hi)
 | tuple hs _ ih =>
  intro h0 h1
  simp only[clean]at h0; simp only[refsIn]at h1
  simp only[PV.ren]
  refine .tuple (by rw[wan]; exact hs) (fun i hi=>?_)
  rw[wan]at hi
  rw[wcx _ _ i hi]
  exact ih i hi (wcA h0 i hi) (wbp h1 i hi)
omit c in
theorem Dfr.wide {m m':Nat->Prop} {X:Nat->Nat->Prop} {H:wac} {ds:List Deferred} {ps:List PV} (hm:∀ D,m D->m' D) (h:Dfr m w X φ H ds ps):Dfr m' w X φ H ds ps:=by
 induction h with
 | nil=>exact .nil
 | fn h1 h2 h3 _ ih=>exact .fn h1 h2 h3 ih
 | mark h0 h1 h2 h3 _ ih=>exact .mark (hm _ h0) h1 h2 h3 ih
def whw (σ:St) (gc g':Gh):Gh:=match gc with | none=>σ.gh | some _=>g'
theorem Came.rep:Rep G B N { σ with heap:=H2,gh:=whw σ gc g' } a w' (wbe φ φ' H' ρ gc):=by
 have he:=c.ext
 have hsz:=c.hs.keeps.size
 have hnewB:∀ b,own φ σ.heap b->B.o0 b\/B.w0.heap.size<=b:=fun b h=>h.elim (fun ⟨r,x,h1,h2⟩=>hr.new r x b h1 h2) (fun h=>hr.tnew b h)
 have hlt:∀ {s y b},waa σ.heap s=some y->φ s=some b->b < w.heap.size:=fun h1 h2=>hr.heap.lt h1 h2
 refine⟨hr.size,fun t=>(hr.env t).ext he,⟨fun s y b hs hb=>?_,fun s y hs hb=>?_,fun s t y z b hs ht hb hb'=>?_,fun b hT=>?_⟩,⟨c.hs.keeps.os.trans hr.keeps.os,c.hs.keeps.tape.trans hr.keeps.tape,c.hs.keeps.output.trans hr.keeps.output,Nat.le_trans hr.keeps.size hsz,fun b hb ho=>?_⟩,
  fun s y b hs hb=>?_,fun s y hs hp=>?_,fun s y b hs hp hb=>?_,hr.glob.ext he (fun n x hm=>?_),fun b hT=>?_,?_,?_⟩
 -- rows
 ·by_cases hex:∃ r x,waa H' r=some x/\ρ r=s
  ·obtain⟨r,x,hx,rfl⟩:=hex
   rw[wcG c.hb hx]at hb
   have hs':=c.hm.inn r x hx
   rw[hs]at hs'; simp only[Option.some.injEq]at hs'; subst hs'
   refine(c.hs.heap.rows r x b hx hb).turn rfl rfl (by simp[Row.ren,wan]) (fun _ _ h=>h) (fun kk hX=>(c.hs.heap.rows r x b hx hb).free kk (.inl hX)) (fun i hi' _ v h4=>?_) fun z hz=>by simp only[Row.ren,wet]; exact hz.map fun p hp=>wmo ρ hp
   have:=c.val h4 (wcA (c.hb.refs r x hx).2 i hi') (wbp (c.hb.refs r x hx).1 i hi')
   simp only[Row.ren]
   rw[wcx _ _ i hi']
   exact this
  ·have hn:∀ r x,waa H' r=some x->ρ r≠s:=fun r x h e=>hex ⟨r,x,h,e⟩
   rw[c.hm.out s hn]at hs
   rw[wbn hn]at hb
   exact(hr.heap.rows s y b hs hb).ext he (c.old (hlt hs hb) (c.out_own hn hs hb))
 ·by_cases hex:∃ r x,waa H' r=some x/\ρ r=s
  ·obtain⟨r,x,hx,rfl⟩:=hex
   rw[wcG c.hb hx]at hb
   have hs':=c.hm.inn r x hx
   rw[hs]at hs'; simp only[Option.some.injEq]at hs'; subst hs'
   simp only[Row.ren,c.hs.heap.void r x hx hb,renL]
  ·have hn:∀ r x,waa H' r=some x->ρ r≠s:=fun r x h e=>hex ⟨r,x,h,e⟩
   rw[c.hm.out s hn]at hs
   rw[wbn hn]at hb
   exact hr.heap.void s y hs hb
 -- no two rows in one block
 ·have key:∀ {s t:Nat} {y z:Row},(∃ r x,waa H' r=some x/\ρ r=s)->(∀ r x,waa H' r=some x->ρ r≠t)->waa H2 t=some z->(wbe φ φ' H' ρ gc) s=some b->(wbe φ φ' H' ρ gc) t=some b->False:=by
   rintro s t y z ⟨r,x,hx,rfl⟩ hn ht h1 h2
   rw[wcG c.hb hx]at h1
   rw[wbn hn]at h2
   rw[c.hm.out t hn]at ht
   rcases c.hs.new r x b hx h1 with h | h
   ·exact c.out_own hn ht h2 h
   ·exact absurd (hlt ht h2) (Nat.not_lt.2 h)
  by_cases h1:∃ r x,waa H' r=some x/\ρ r=s <;> by_cases h2:∃ r x,waa H' r=some x/\ρ r=t
  ·obtain⟨r,x,hx,rfl⟩:=h1
   obtain⟨r',x',hx',rfl⟩:=h2
   rw[wcG c.hb hx]at hb
   rw[wcG c.hb hx']at hb'
   rw[c.hs.heap.inj r r' x x' b hx hx' hb hb']
  ·exact(key (y:=y) h1 (fun r x h e=>h2 ⟨r,x,h,e⟩) ht hb hb').elim
  ·exact(key (y:=z) h2 (fun r x h e=>h1 ⟨r,x,h,e⟩) hs hb' hb).elim
  ·have hn1:∀ r x,waa H' r=some x->ρ r≠s:=fun r x h e=>h1 ⟨r,x,h,e⟩
   have hn2:∀ r x,waa H' r=some x->ρ r≠t:=fun r x h e=>h2 ⟨r,x,h,e⟩
   rw[c.hm.out s hn1]at hs
   rw[c.hm.out t hn2]at ht
   rw[wbn hn1]at hb
   rw[wbn hn2]at hb'
   exact hr.heap.inj s t y z b hs ht hb hb'
 -- what is somebody else's
 ·simp only[wbe]at hT
  split at hT
  ·obtain⟨h1,h2,h3⟩:=c.hs.heap.far b hT
   refine⟨h1,fun kk hX=>h2 kk (.inl hX),fun h=>?_⟩
   rcases c.row_of h with h | ⟨s,y,hn,hy,hφ⟩
   ·exact h3 h
   ·exact h2 0 (.inr ⟨.inl ⟨s,y,hy,hφ⟩,c.out_own hn hy hφ⟩)
  ·rename_i hgc
   obtain⟨h1,h2,h3⟩:=hr.heap.far b hT
   refine⟨Nat.lt_of_lt_of_le h1 hsz,h2,fun h=>?_⟩
   rcases c.row_of h with ⟨r,x,hx,hφ⟩ | ⟨s,y,hn,hy,hφ⟩
   ·rcases c.hs.new r x b hx hφ with h | h
    ·rcases h with h | h
     ·exact h3 (wd4 c.hh.h0 h)
     ·exact hgc h.1
    ·exact absurd h1 (Nat.not_lt.2 h)
   ·exact h3 ⟨s,y,hy,hφ⟩
 ·refine(c.old (Nat.lt_of_lt_of_le hb hr.keeps.size) (fun h=>?_)).trans (hr.keeps.block b hb ho)
  rcases hnewB b (wdc c.hh.h0 h)with h | h
  ·exact ho h
  ·omega
 -- new
 ·by_cases hex:∃ r x,waa H' r=some x/\ρ r=s
  ·obtain⟨r,x,hx,rfl⟩:=hex
   rw[wcG c.hb hx]at hb
   rcases c.hs.new r x b hx hb with h | h
   ·exact hnewB b (wdc c.hh.h0 h)
   ·exact .inr (Nat.le_trans hr.keeps.size h)
  ·have hn:∀ r x,waa H' r=some x->ρ r≠s:=fun r x h e=>hex ⟨r,x,h,e⟩
   rw[c.hm.out s hn]at hs
   rw[wbn hn]at hb
   exact hr.new s y b hs hb
 ·by_cases hex:∃ r x,waa H' r=some x/\ρ r=s
  ·obtain⟨r,x,hx,rfl⟩:=hex
   rw[wcG c.hb hx]
   rcases Nat.lt_or_ge r 1000 with h | h
   ·obtain⟨x0,h1,h2,_,_,h5⟩:=c.handed hx h
    rw[h5,h2]
    exact hr.pins _ _ (c.hh.row r x0 h1) (h2▸hp)
   ·have:=(c.hb.new r x hx h).2
    simp only[pinned,decide_eq_true_eq]at hp; omega
  ·have hn:∀ r x,waa H' r=some x->ρ r≠s:=fun r x h e=>hex ⟨r,x,h,e⟩
   rw[c.hm.out s hn]at hs
   rw[wbn hn]
   exact hr.pins s y hs hp
 ·by_cases hex:∃ r x,waa H' r=some x/\ρ r=s
  ·obtain⟨r,x,hx,rfl⟩:=hex
   rw[wcG c.hb hx]at hb
   rcases Nat.lt_or_ge r 1000 with h | h
   ·obtain⟨x0,h1,h2,_,_,h5⟩:=c.handed hx h
    exact(c.hs.psz r x b hx (by simp[pinned,h]) hb).trans (hr.psz _ _ b (c.hh.row r x0 h1) (h2▸hp) (by rw[<-h5]; exact hb))
   ·have:=(c.hb.new r x hx h).2
    simp only[pinned,decide_eq_true_eq]at hp; omega
  ·have hn:∀ r x,waa H' r=some x->ρ r≠s:=fun r x h e=>hex ⟨r,x,h,e⟩
   rw[c.hm.out s hn]at hs
   rw[wbn hn]at hb
   exact(wel (c.old (hlt hs hb) (c.out_own hn hs hb))).trans (hr.psz s y b hs hp hb)
 ·obtain⟨cs,e,f,v,h1,h2,_⟩:=hr.glob n x hm
  exact fun ho=>h2 (c.own_old (Array.getElem?_eq_some_iff.1 h1).1 ho)
 ·simp only[wbe]at hT
  split at hT
  ·rcases c.hs.tnew b hT with h | h
   ·exact hnewB b (wdc c.hh.h0 h)
   ·exact .inr (Nat.le_trans hr.keeps.size h)
  ·exact hr.tnew b hT
 -- the loop's body
 ·cases hgc:gc with
  | none =>
   subst hgc
   have hT:(wbe φ φ' H' ρ none).T=φ.T:=by funext b; simp[wbe]
   simp only[whw]
   refine wdT (w:=w) (φ:=φ) (H:=σ.heap) hr.inv hT c.hs.keeps.os c.hs.keeps.tape c.hs.keeps.output hsz (fun b hlt hn=>c.old hlt fun ho=>?_) (fun b h=>?_)
   ·rcases ho with h | h
    ·exact hn (wd4 c.hh.h0 h)
    ·exact absurd h.1 (by simp)
   ·rcases c.row_of h with ⟨r,x,hx,hφ⟩ | ⟨s,y,hn,hy,hφ⟩
    ·rcases c.hs.new r x b hx hφ with h | h
     ·rcases h with h | h
      ·exact .inl (wd4 c.hh.h0 h)
      ·exact absurd h.1 (by simp)
     ·exact .inr h
    ·exact .inl ⟨s,y,hy,hφ⟩
  | some p =>
   subst hgc
   have hT:(wbe φ φ' H' ρ (some p)).T=φ'.T:=by funext b; simp[wbe]
   rw[hT]
   simp only[whw]
   have hinv:=c.hs.inv
   match g',hinv with
   | none,hinv=>exact hinv
   | some (l,all,xs,d),hinv =>
    have hM:∀ b kk,B.mine (wbe φ φ' H' ρ (some p)) H2 b kk->(hr.bc H g (some p)).mine φ' H' b kk:=fun b kk hb=>by
     rcases hb with hb | hb
     ·exact .inl (.inl hb)
     ·rcases c.row_of hb with h | ⟨s,y,hn,hy,hφ⟩
      ·exact .inr h
      ·exact .inl (.inr ⟨.inl ⟨s,y,hy,hφ⟩,c.out_own hn hy hφ⟩)
    rcases hinv with hinv | ⟨hf,ha,m,ys,hx,hj⟩
    ·exact .inl ⟨hinv.1,hinv.2.1,B.stab _ _ _ _ _ _ hinv.2.2 rfl rfl rfl (Nat.le_refl _) (fun _ _ _ _=>rfl) (fun b kk hb=>.inl (hM b kk hb))⟩
    ·exact .inr ⟨hf,ha,m,ys,hx,hj.stab (Nat.le_refl _) (fun _ _ _ _=>rfl) (fun b kk hb=>.inl (hM b kk hb))⟩
 ·refine(hr.dfr.ext he).wide fun D hD=>⟨?_,hD.2⟩
  simp only[whw]
  rcases c.hg with h | h
  ·subst h; exact hD.1
  ·subst h; rw[hD.1]
end
end Go.Pv

namespace Go.Pv
def wix (g:Nat->Nat) (H:wac):List Nat->Prop
 | []=>True
 | r::l=>(∀ x∈H,g x.1≠r)/\wix g H l
theorem wkk {g:Nat->Nat} {H:wac}:∀ {l:List Nat},wix g H l->∀ r∈l,∀ s x,waa H s=some x->g s≠r
 | r0::l,h,r,hr,s,x,hx=>by
  rcases List.mem_cons.1 hr with rfl | hr
  ·have:∃ y,(s,y)∈H:=by
    clear h
    induction H with
    | nil=>simp[waa]at hx
    | cons z H ih =>
     obtain⟨k,y⟩:=z
     simp only[waa]at hx
     split at hx
     ·rename_i e; subst e; exact⟨y,by simp⟩
     ·obtain⟨y',hy⟩:=ih hx; exact⟨y',by simp[hy]⟩
   obtain⟨y,hy⟩:=this
   exact h.1 _ hy
  ·exact wkk h.2 r hr s x hx
def wmT (H0 H:wac) (g:Nat->Nat) (p:PV):PV->Prop
 | .any=>True
 | .b x=>p=.b x\/(frz H0 p=some x/\wix g H (rowsOf p))
 | .d x=>p=.d x
 | .bptr k els i off=>p=.bptr k els i off
 | .dptr k els i off=>p=.dptr k els i off
 | .glob n=>p=.glob n
 | .val v=>p=.val v
 | .ptr r i off=>p=.ptr (g r) i off/\(waa H r).isSome=true
 | .slc r lo n=>p=.slc (g r) lo n/\(waa H r).isSome=true
 | .mp r=>p=.mp (g r)/\(waa H r).isSome=true
 | .func fn l=>p=(PV.func fn l).ren g/\refsInL H l
 | .agg l=>p=(PV.agg l).ren g/\refsInL H l
 | .tuple l=>p=(PV.tuple l).ren g/\refsInL H l
def wdq (H0 H:wac) (g:Nat->Nat):List PV->List PV->Prop
 | [],[]=>True
 | p::l,q::m=>wmT H0 H g p q/\wdq H0 H g l m
 | _,_=>False
theorem whf {H0 H:wac} {g:Nat->Nat}:∀ {l m:List PV},wdq H0 H g l m->l.length=m.length/\∀ i (hi:i < l.length) (hi':i < m.length),wmT H0 H g l[i] m[i]
 | [],[],_=>⟨rfl,fun i hi=>by simp at hi⟩
 | p::l,q::m,h=>by
  obtain⟨h1,h2⟩:=whf h.2
  refine⟨by simp[h1],fun i hi hi'=>?_⟩
  cases i with
  | zero=>exact h.1
  | succ i=>simpa using h2 i (by simpa using hi) (by simpa using hi')
 | [],_::_,h=>h.elim
 | _::_,[],h=>h.elim
def wcB:PV->Option (FuncId×List PV)
 | .d (.fn (.func f))=>some (f,[])
 | .func (.func f) l=>some (f,l)
 | _=>none
section
variable {P:Program} {G:List (Nat×PD)} {ro:Option Nat} {B:Base P} {N:Nat} {σ τ:St} {a:Act} {w w':World} {φ φ':Nm} {H H' H2:wac} {g ρ:Nat->Nat} {gc g':Gh} {o:Oper} {K:St->Prop}
theorem wjM {X:Nat->Nat->Prop} {v:Value} {p:PV} {f:FuncId} {caps:List PV} (h:wcB p=some (f,caps)) (hv:RepV w X φ H v p) :
  ∃ vs:Array Value,v=.func (.func f) #[] vs/\vs.size=caps.length/\∀ i (hi:i < caps.length),RepV w X φ H (vs.getD i undef) caps[i]:=by
 unfold wcB at h
 split at h <;> simp only[Option.some.injEq,Prod.mk.injEq,reduceCtorEq]at h
 ·obtain⟨rfl,rfl⟩:=h
  have:=waR hv
  cases this
  exact⟨#[],rfl,rfl,fun i hi=>by simp at hi⟩
 ·obtain⟨rfl,rfl⟩:=h
  cases hv with
  | func hs h=>exact⟨_,rfl,hs,h⟩
theorem wkW {X:Nat->Nat->Prop} {H:wac} {ok:Nat->Nat->Prop} (hh:HeapOk w X φ H) (hok:∀ b kk,okd w X φ H b kk->ok b kk) {v:Value} {p:PV} (hv:RepV w X φ H v p) :
  (∀ r∈rowsOf p,∀ x b kk,waa H r=some x->φ r=some b->ok b kk)->∀ {x:PD},frz H p=some x->RepD w ok v x:=by
 induction hv with
 | d h=>intro _ x hx; simp only[frz,Option.some.injEq]at hx; subst hx; exact h.mono hok (fun _ _ _=>rfl)
 | @slc r lo n cap b x0 h1 h2 h7 h3 h4 h5 h6 =>
  intro hb x hx
  simp only[frz,h1,Option.map_eq_some_iff]at hx
  obtain⟨l,hl,rfl⟩:=hx
  exact we6 hh h1 hl (.slc h1 h2 h7 h3 h4 h5 h6) hok (fun b kk hb'=>hb r (by simp[rowsOf]) x0 b kk h1 hb')
 | @slc0 r x0 p h1 h2 h7 h3 =>
  intro hb x hx
  simp only[frz,h1,Option.map_eq_some_iff]at hx
  obtain⟨l,hl,rfl⟩:=hx
  exact we6 hh h1 hl (.slc0 h1 h2 h7 h3) hok (fun b kk hb'=>hb r (by simp[rowsOf]) x0 b kk h1 hb')
 | @agg vs ps hs _ hf ih =>
  intro hb x hx
  simp only[frz,Option.map_eq_some_iff]at hx
  obtain⟨l,hl,rfl⟩:=hx
  obtain⟨h1,h2⟩:=wmm hl
  simp only[rowsOf]at hb
  exact .agg (by rw[hs,h1]) (fun i hi=>ih i (h1▸hi) (fun r hr=>hb r (wdx (h1▸hi) hr)) (h2 i (h1▸hi) hi)) (fun i hi=>hf i (h1▸hi))
 | _=>intro _ x hx; simp[frz]at hx
theorem wkX (hr:Rep G B N σ a w φ) (hh:Hand0 σ H g) {v:Value} {p q:PV} (hv:RepV w B.X φ σ.heap v p) (h:wmT σ.heap H g p q):RepV w (hr.bc H g gc).X (wbT φ H g gc) H v q:=by
 cases q with
 | any=>exact .any v
 | b x =>
  rcases h with rfl | ⟨h1,h2⟩
  ·exact hv.hand hr hh (by simp[PV.ren]) (by simp[refsIn])
  ·refine .b (wkW hr.heap (fun b kk hb=>⟨hb.1,fun ho=>hb.2.2 (wdc hh ho)⟩) hv (fun r hr' x b kk hx hb=>⟨hr.heap.lt hx hb,fun ho=>?_⟩) h1)
   rcases ho with ⟨s,y,hy,hφ⟩ | hT
   ·rw[wdb hy]at hφ
    have e:=hr.heap.inj _ _ _ _ b (hh.row s y hy) hx hφ hb
    exact wkk h2 r hr' s y hy e
   ·exact(hr.heap.far b hT.2).2.2 ⟨r,x,hx,hb⟩
 | d x=>have:p=.d x:=h; subst this; exact hv.hand hr hh (by simp[PV.ren]) (by simp[refsIn])
 | bptr k els i off=>have:p=.bptr k els i off:=h; subst this; exact hv.hand hr hh (by simp[PV.ren]) (by simp[refsIn])
 | dptr k els i off=>have:p=.dptr k els i off:=h; subst this; exact hv.hand hr hh (by simp[PV.ren]) (by simp[refsIn])
 | glob n=>have:p=.glob n:=h; subst this; exact hv.hand hr hh (by simp[PV.ren]) (by simp[refsIn])
 | val v=>have:p=.val v:=h; subst this; exact hv.hand hr hh (by simp[PV.ren]) (by simp[refsIn])
 | ptr r i off=>exact hv.hand hr hh (by rw[h.1]; simp[PV.ren]) (by simpa [refsIn]using h.2)
 | slc r lo n=>exact hv.hand hr hh (by rw[h.1]; simp[PV.ren]) (by simpa [refsIn]using h.2)
 | mp r=>exact hv.hand hr hh (by rw[h.1]; simp[PV.ren]) (by simpa [refsIn]using h.2)
 | func fn l=>exact hv.hand hr hh h.1 (by simpa [refsIn]using h.2)
 | agg l=>exact hv.hand hr hh h.1 (by simpa [refsIn]using h.2)
 | tuple l=>exact hv.hand hr hh h.1 (by simpa [refsIn]using h.2)
theorem wkY (hr:Rep G B N σ a w φ) {ops:List Operand} {vs:Array Value} {caps:List PV} (h1:vs.size=caps.length) (h2:∀ i (hi:i < caps.length),RepV w B.X φ σ.heap (vs.getD i undef) caps[i]) :
  (ops.map a.eval++vs.toList).length=(wau σ ops++caps).length/\∀ i (hi:i < (wau σ ops++caps).length),RepV w B.X φ σ.heap ((ops.map a.eval++vs.toList).getD i undef) (wau σ ops++caps)[i]:=by
 obtain⟨h3,h4⟩:=weQ hr ops
 refine⟨by simp[h3,h1],fun i hi=>?_⟩
 by_cases hin:i < (wau σ ops).length
 ·rw[List.getElem_append_left hin]
  have:=h4 i hin
  have e:(ops.map a.eval++vs.toList).getD i undef=(ops.map a.eval).getD i undef:=by
   simp only[List.getD,List.getElem?_append,h3,hin,if_true]
  rw[e]; exact this
 ·have hc:i - (wau σ ops).length < caps.length:=by simp at hi; omega
  rw[List.getElem_append_right (by omega)]
  have e:(ops.map a.eval++vs.toList).getD i undef=vs.getD (i - (wau σ ops).length) undef:=by
   simp only[List.getD,List.getElem?_append,h3,hin,if_false,Array.getD_eq_getD_getElem?]
   simp
  rw[e]; exact h2 _ hc
theorem OpT.callG {c:Call} {f:FuncId} {xo:Operand} {caps args:List PV} {Post:PV->wac->Gh->Prop} (ho:o.op=.call c) (hc:c.callee=.value xo) (hx:wcB (σ.eval xo)=some (f,caps)) (hcal:wbd P f=true)
  (hf:FnG P G f args H gc Post) (hh:Hand σ H g) (hg:gc=none\/gc=σ.gh) (ha:wdq σ.heap H g (wau σ c.args.toList++caps) args) (hd:wao N o.dst)
  (hK:∀ p H' g',Post p H' g'->∃ ρ,Back σ H H' g ρ/\clean p/\refsIn H' p/\K (({ σ with heap:=wbP ρ H' σ.heap,gh:=whw σ gc g' }:St).put o.dst (p.ren ρ))):OpT P G ro N o σ K:=by
 intro B hro a w φ hr next Q hn
 obtain⟨vs,hv1,hv2,hv3⟩:=wjM hx (hr.eval xo)
 obtain⟨h1,h2⟩:=whf ha
 obtain⟨h3,h4⟩:=wkY hr (ops:=c.args.toList) hv2 hv3
 have hcall:=hf (hr.bc H g gc) (wbT φ H g gc) (c.args.toList.map a.eval++vs.toList) rfl (h3.trans h1) (fun i hi=>wkX hr hh.h0 (h4 i (h1▸hi)) (h2 i (h1▸hi) hi)) (hr.hand hh.h0 hg)
 have hrun:(o.semAt ro a.eval).run P w=.ok (.enter f (c.args.toList.map a.eval++vs.toList).toArray) w:=by
  rw[Oper.semAt_eq _ _ _ (fun c hc=>by rw[ho]at hc; cases hc)]
  have e1:(c.args.toList.map a.eval++vs.toList).toArray=c.args.map a.eval++vs:=by
   apply Array.toList_inj.1; simp
  have e2:(#[]++c.args.map a.eval++vs:Array Value)=c.args.map a.eval++vs:=by simp
  simp only[execOp,ho,resolve,hc,hv1,Deferred.ofValue,Sem.run_bind,Sem.run_pure,Result.andThen_ok,invoke,e1,e2]
  exact weD hcal _ w
 refine⟨fun _ _=>trivial,?_⟩
 show o.uponIn (Fw ro) 0 P a next Q ((o.semAt ro a.eval).run P w)
 rw[hrun]
 refine⟨fun h=>(by cases h),?_⟩
 refine CallsIn.mono (R:=fun e w'=>∃ v p H' g' φ',e=.returned v/\Post p H' g'/\RepV w' (hr.bc H g gc).X φ' H' v p/\Sit G (hr.bc H g gc) w' φ' H' g') hcall ?_
 rintro e w' ⟨v,p,H',g',φ',rfl,hP,h5,h6⟩
 obtain⟨ρ,hb,hcl,href,hKp⟩:=hK p H' g' hP
 have cm:Came hr H H' (wbP ρ H' σ.heap) g ρ gc g' w' φ':=⟨hh,hg,hb,hb.merged,h6⟩
 exact hn _ _ _ _ hKp (cm.rep.put hd (cm.val h5 hcl href))
theorem Rep.yielded {l:Nat} {all xs ys:List PD} {d e:Bool} {T':Nat->Prop} (hr:Rep G B N σ a w φ) (hne:all≠[]) (hg:σ.gh=some (l,all,xs,d)) (hJ:B.J (ys,e) (B.mine φ σ.heap) T' w') (hT:∀ c,T' c->φ.T c\/w.heap.size<=c) (hT2:∀ c,T' c->c < w'.heap.size)
  (hos:w'.os=w.os) (htape:w'.tape=w.tape) (hout:w'.output=w.output) (hsz:w.heap.size<=w'.heap.size) (hk:∀ c,c < w.heap.size->¬ φ.T c->w'.heap[c]? = w.heap[c]?) :
  Rep G B N { σ with gh:=some (l,all,ys,e) } a w' { φ with T:=T' }:=by
 have hrow:∀ b,waD ({ φ with T:=T' }:Nm) σ.heap b ↔ waD φ σ.heap b:=fun b=>Iff.rfl
 have hlt:∀ b,waD φ σ.heap b->b < w.heap.size:=fun b ⟨r,x,h1,h2⟩=>hr.heap.lt h1 h2
 have hown:∀ b,b < w.heap.size->own ({ φ with T:=T' }:Nm) σ.heap b->own φ σ.heap b:=fun b hb h=>h.elim .inl (fun h=>(hT b h).elim .inr (fun h=>by omega))
 have hrb:∀ r x b,waa σ.heap r=some x->φ r=some b->w'.heap[b]? = w.heap[b]?:=fun r x b h1 h2=>hk b (hr.heap.lt h1 h2) (fun hT=>(hr.heap.far b hT).2.2 ⟨r,x,h1,h2⟩)
 have hext:Ext w B.X φ σ.heap w' { φ with T:=T' } σ.heap:=⟨fun r x h=>⟨x,h,rfl,fun _=>rfl,rfl⟩,fun b kk h=>⟨Nat.lt_of_lt_of_le h.1 hsz,h.2.1,fun ho=>h.2.2 (hown b h.1 ho)⟩,fun b kk h=>⟨Nat.lt_of_lt_of_le h.1 hsz,fun ho=>h.2 (hown b h.1 ho)⟩,
  fun b kk h=>hk b h.1 (fun hT=>h.2 (.inr hT)),fun r x b h1 h2 c e f hh=>⟨c,e,f,(hrb r x b h1 h2)▸hh,rfl⟩⟩
 have hinv:=hr.inv
 rw[hg]at hinv
 refine⟨hr.size,fun t=>(hr.env t).ext hext,⟨fun r x b h1 h2=>(hr.heap.rows r x b h1 h2).ext hext (hrb r x b h1 h2),hr.heap.void,hr.heap.inj,fun b hb=>⟨hT2 b hb,fun kk hX=>?_,fun h=>?_⟩⟩,
  ⟨hos.trans hr.keeps.os,htape.trans hr.keeps.tape,hout.trans hr.keeps.output,Nat.le_trans hr.keeps.size hsz,fun b hb ho=>?_⟩,hr.new,hr.pins,fun r x b h1 h2 h3=>(wel (hrb r x b h1 h3)).trans (hr.psz r x b h1 h2 h3),hr.glob.ext hext (fun n x hm=>?_),fun b hb=>?_,.inl ⟨(hinv.resolve_right (fun h=>hne h.2.1)).1,fun h=>absurd h hne,hJ⟩,?_⟩
 ·rcases hT b hb with h | h
  ·exact(hr.heap.far b h).2.1 kk hX
  ·exact absurd (B.hX b _ hX) (by have:=hr.keeps.size; omega)
 ·rcases hT b hb with h2 | h2
  ·exact(hr.heap.far b h2).2.2 h
  ·have:=hlt b h; omega
 ·refine(hk b (Nat.lt_of_lt_of_le hb hr.keeps.size) (fun hT=>?_)).trans (hr.keeps.block b hb ho)
  rcases hr.tnew b hT with h | h
  ·exact ho h
  ·omega
 ·obtain⟨c,e,f,v,h1,h2,_⟩:=hr.glob n x hm
  exact fun ho=>h2 (hown n (Array.getElem?_eq_some_iff.1 h1).1 ho)
 ·rcases hT b hb with h | h
  ·exact hr.tnew b h
  ·exact .inr (Nat.le_trans hr.keeps.size h)
 ·exact(hr.dfr.ext hext).wide fun D hD=>absurd hD.1 (by rw[hg]; simp)
theorem OpT.yield {c:Call} {xo ao:Operand} {l:Nat} {all xs:List PD} {x:PD} (ho:o.op=.call c) (hc:c.callee=.value xo) (hx:σ.eval xo=.d (.fn (.yield l))) (hargs:c.args=#[ao]) (ha:σ.eval ao=.d x) (hg:σ.gh=some (l,all,xs,true)) (hall:(xs++[x]) <+: all) (hd:wao N o.dst)
    (hK:∀ b,K (({ σ with gh:=some (l,all,xs++[x],b) }:St).put o.dst (.d (.bool b)))):OpT P G ro N o σ K:=by
  intro B hro a w φ hr next Q hn
  have hinv:=hr.inv
  rw[hg]at hinv
  have hne:all≠[]:=fun e=>by subst e; simp at hall
  obtain⟨hy,_,hJ⟩:=hinv.resolve_right (fun h=>hne h.2.1)
  have hxv:=hr.eval xo
  rw[hx]at hxv
  have hxv:a.eval xo=.func (.yield l) #[] #[]:=by
    have h0:=waR hxv
    generalize a.eval xo=v at h0 ⊢
    cases h0; rfl
  have hav:=hr.eval ao
  rw[ha]at hav
  have hav:=waR hav
  obtain⟨f,tmps,assign,body,hinvk,hround⟩:=B.yok l all hy xs (B.mine φ σ.heap) φ.T w (a.eval ao) x hall hJ (fun b kk hb=>hb.elim (fun h=>Nat.lt_of_lt_of_le (B.hX b _ h) hr.keeps.size) (fun ⟨r,x,h1,h2⟩=>hr.heap.lt h1 h2))
    (fun b hb=>⟨(hr.heap.far b hb).1,fun kk hm=>hm.elim ((hr.heap.far b hb).2.1 kk) (hr.heap.far b hb).2.2⟩)
    (hav.mono (fun b kk hb=>⟨hb.1,fun hm=>hm.elim hb.2.1 (fun h=>hb.2.2 (.inl h)),fun h=>hb.2.2 (.inr h)⟩) (fun _ _ _=>rfl))
  have hrun:(o.semAt ro a.eval).run P w=.ok (.round l f tmps assign body) w:=by
    rw[Oper.semAt_eq _ _ _ (fun c hc=>by rw[ho]at hc; cases hc)]
    have e2:(#[]++#[a.eval ao]:Array Value)=#[a.eval ao]:=by simp
    simp only[execOp,ho,resolve,hc,hxv,Deferred.ofValue,Sem.run_bind,Sem.run_pure,Result.andThen_ok,hargs,List.map_toArray,List.map_cons,List.map_nil,e2]
    exact hinvk
  refine⟨fun _ _=>trivial,?_⟩
  show o.uponIn (Fw ro) 0 P a next Q ((o.semAt ro a.eval).run P w)
  rw[hrun]
  refine⟨fun h=>(by cases h),?_⟩
  refine RoundIn.mono (R := fun e w' => ∃ b T', e = .returned (.bool b) ∧ B.J (xs ++ [x], b) (B.mine φ σ.heap) T' w' ∧ (∀ c, T' c → φ.T c ∨ w.heap.size ≤ c) ∧ (∀ c, T' c → c < w'.heap.size) ∧
        w'.os=w.os/\w'.tape=w.tape/\w'.output=w.output/\w.heap.size<=w'.heap.size/\∀ c,c < w.heap.size->¬ φ.T c->w'.heap[c]? = w.heap[c]?) hround ?_
  rintro e w' ⟨b,T',rfl,h1,h2,h3,h4,h5,h6,h7,h8⟩
  exact hn _ _ _ _ (hK b) ((hr.yielded hne hg h1 h2 h3 h4 h5 h6 h7 h8).put hd (.d (.bool b)))
end
end Go.Pv

namespace Go.Pv
def FnD (P:Program) (G:List (Nat×PD)) (f:FuncId) (args:List PV) (H:wac) (g:Gh) (Post:PV->wac->Gh->Prop):Prop :=
 ∀ (B:Base P) (φ:Nm) (vs:List Value),B.ro=none->vs.length=args.length->(∀ i (hi:i < args.length),RepV B.w0 B.X φ H (vs.getD i undef) args[i])->Sit G B B.w0 φ H g →
  CallsDIn (Fw none) 0 P f vs.toArray .returning B.w0 fun e u' w'=>u'=.returning/\∃ v p H' g' φ',e=.returned v/\Post p H' g'/\RepV w' B.X φ' H' v p/\Sit G B w' φ' H' g'
section
variable {P:Program} {G:List (Nat×PD)} {ro:Option Nat} {B:Base P} {N:Nat} {σ τ:St} {a:Act} {w w':World} {φ φ':Nm} {H H' H2:wac} {g ρ:Nat->Nat} {gc g':Gh} {o:Oper} {K:St->Prop}
theorem Dfr.none_left {m:Nat->Prop} {X:Nat->Nat->Prop} {H:wac} {ds:List Deferred} (hm:∀ D,¬ m D) (h:Dfr m w X φ H ds []):ds=[]:=by
 cases h with
 | nil=>rfl
 | mark h0=>exact absurd h0 (hm _)
theorem Dfr.one_left {m:Nat->Prop} {X:Nat->Nat->Prop} {H:wac} {ds:List Deferred} {p:PV} (hm:∀ D,¬ m D) (h:Dfr m w X φ H ds [p]):∃ d fn caps,ds=[d]/\d.target=.fn fn caps/\d.args=#[]/\RepV w X φ H (.func fn #[] caps) p:=by
 cases h with
 | fn h1 h2 h3 h=>exact⟨_,_,_,by rw[h.none_left hm],h1,h2,h3⟩
 | mark h0=>exact absurd h0 (hm _)
def wub (P:Program) (G:List (Nat×PD)) (fn:Func) (R:PV->wac->Gh->Prop):Post
 | .normal,σ | .ret,σ=>∃ p,wiN P G fn.results.toList σ=some p/\σ.dfr=[]/\σ.gh.isSome=true/\R p σ.heap σ.gh
 | _,_=>False
theorem FnD.intro {f:FuncId} {fn:Func} {c:Code} {args:List PV} {H:wac} {g:Gh} {R:PV->wac->Gh->Prop} (hf:P.funcs[f]? = some fn) (hb:fn.body=some c) (hN:args.length<=fn.ntmps)
  (h:AWp P G none fn.ntmps c ⟨wcm 0 args,H,[],g⟩ (wub P G fn R)):FnD P G f args H g R:=by
 intro B φ vs h0 h1 h2 h3
 refine callsDIn_of_wp (R:=fun e w'=>∃ v p H' g' φ',e=.returned v/\R p H' g'/\RepV w' B.X φ' H' v p/\Sit G B w' φ' H' g') hf hb trivial ?_ rfl
 refine h B h0 _ _ φ (wn9 hN h0 h1 h2 h3) _ fun e σ' a' w' φ' hF hr=>?_
 have fin:(∃ p,wiN P G fn.results.toList σ'=some p/\σ'.dfr=[]/\σ'.gh.isSome=true/\R p σ'.heap σ'.gh)->a'.defers=[]/\∃ v,(results fn a'.tmps).run P w'=.ok v w'/\∃ v' p H' g' φ',Ending.returned v=.returned v'/\R p H' g'/\RepV w' B.X φ' H' v' p/\Sit G B w' φ' H' g':=by
  rintro⟨p,h4,h5,h6,h7⟩
  obtain⟨v,h8,h9⟩:=wqw (P:=P) hr h4
  have hd:=hr.dfr
  rw[h5,B.hheld h0,List.append_nil]at hd
  exact⟨hd.none_left (fun D hD=>by rw[hD.1]at h6; simp at h6),v,h8,v,p,_,_,φ',rfl,h7,h9,hr.sit⟩
 cases e with
 | normal=>exact fin hF
 | ret=>exact fin hF
 | _=>exact hF.elim
def wmU (H H':wac) (e:List (Nat×PV)):List (Nat×PV)->Prop
 | []=>True
 | (t,v)::l=>((wam e t=v/\refsIn H' v)\/(frzT H (wam e t)=some v/\∀ r∈rowsOf (wam e t),waa H' r=none))/\wmU H H' e l
theorem wmV {H H':wac} {e:List (Nat×PV)}:∀ {l:List (Nat×PV)},wmU H H' e l->∀ t,wam l t=.any\/(wam e t=wam l t/\refsIn H' (wam l t))\/(frzT H (wam e t)=some (wam l t)/\∀ r∈rowsOf (wam e t),waa H' r=none)
 | [],_,_=>.inl rfl
 | (s,v)::l,h,t=>by
  simp only[wam]
  split
  ·rename_i hs; subst hs; exact .inr h.1
  ·exact wmV h.2 t
theorem wnN {X:Nat->Nat->Prop} (hh:HeapOk w X φ H) (hle:∀ r x,waa H' r=some x->waa H r=some x) {v:Value} {p:PV} (hv:RepV w X φ H v p):(∀ r∈rowsOf p,waa H' r=none)->∀ {q:PV},frzT H p=some q->RepV w X φ H' v q:=by
 have hown:∀ b,own φ H' b->own φ H b:=fun b h=>h.imp (fun ⟨r,x,h1,h2⟩=>⟨r,x,hle r x h1,h2⟩) id
 have hok:∀ b kk,okd w X φ H b kk->okd w X φ H' b kk:=fun b kk h=>⟨h.1,h.2.1,fun ho=>h.2.2 (hown b ho)⟩
 have hrow:∀ r,waa H' r=none->∀ x b kk,waa H r=some x->φ r=some b->okd w X φ H' b kk:=fun r hn x b kk hx hb=>⟨hh.lt hx hb,(hh.rows r x b hx hb).free kk,fun ho=>by
  rcases ho with ⟨s,y,hy,hs⟩ | hT
  ·have e:=hh.inj s r y x b (hle s y hy) hx hs hb
   subst e; rw[hn]at hy; cases hy
  ·exact(hh.far b hT).2.2 ⟨r,x,hx,hb⟩⟩
 induction hv with
 | any v=>intro _ q h; simp only[frzT,Option.some.injEq]at h; subst h; exact .any v
 | d hd=>intro _ q h; simp only[frzT,Option.some.injEq]at h; subst h; exact .d (hd.mono hok (fun _ _ _=>rfl))
 | b hd=>intro _ q h; simp[frzT]at h
 | mp _ _ _=>intro _ q h; simp[frzT]at h
 | @ptr r i off b x hx hφ hk1 =>
  intro hn q h
  simp only[frzT,hx]at h
  split at h <;> try (simp at h; done)
  rename_i l hl
  split at h <;> simp only[Option.some.injEq,reduceCtorEq]at h
  rename_i hi; subst h
  obtain⟨c,C,_,h1,h2,h3,_⟩:=(hh.rows r x b hx hφ).here hk1
  have hlen:x.els.length=l.length:=by rw[whr _ _ hl]; simp
  have hsl:RepV w X φ H (.slice (some ⟨b,0*x.k,none⟩) x.els.length C) (.slc r 0 x.els.length):=.slc hx hφ hk1 (by omega) h2.2.1 (by omega) (fun c' e f hh'=>by
   rw[h1]at hh'; simp only[Option.some.injEq,Obj.cells.injEq]at hh'; rw[<-hh'.1,Nat.zero_add]; exact h2.1)
  have hd:=we6 hh hx hl hsl hok (fun b' kk hb'=>hrow r (hn r (by simp[rowsOf])) x b' kk hx hb')
  rw[hlen,List.drop_zero,List.take_length]at hd
  have:=RepV.dptr (off:=off) (φ:=φ) (H:=H') hd hi
  simpa using this
 | dptr hd hi=>intro _ q h; simp only[frzT,Option.some.injEq]at h; subst h; exact .dptr (hd.mono hok (fun _ _ _=>rfl)) hi
 | bptr hd hi=>intro _ q h; simp[frzT]at h
 | glob g=>intro _ q h; simp only[frzT,Option.some.injEq]at h; subst h; exact .glob g
 | val hf=>intro _ q h; simp only[frzT,Option.some.injEq]at h; subst h; exact .val hf
 | slc h1 h2 h7 h3 h4 h5 h6 =>
  intro hn q h
  simp only[frzT,Option.map_eq_some_iff]at h
  obtain⟨x,hx,rfl⟩:=h
  exact .d (wkW hh hok (.slc h1 h2 h7 h3 h4 h5 h6) (fun r hr x b=>hrow r (hn r hr) x b) hx)
 | slc0 h1 h2 h7 h3 =>
  intro hn q h
  simp only[frzT,Option.map_eq_some_iff]at h
  obtain⟨x,hx,rfl⟩:=h
  exact .d (wkW hh hok (.slc0 h1 h2 h7 h3) (fun r hr x b=>hrow r (hn r hr) x b) hx)
 | func hs _ ih =>
  intro hn q h
  simp only[frzT,Option.map_eq_some_iff]at h
  obtain⟨m,hm,rfl⟩:=h
  obtain⟨h1,h2⟩:=whs hm
  simp only[rowsOf]at hn
  exact .func (by rw[hs,h1]) (fun i hi=>ih i (h1▸hi) (fun r hr=>hn r (wdx (h1▸hi) hr)) (h2 i (h1▸hi) hi))
 | agg hs h' hf ih =>
  intro hn q h
  simp only[frzT,Option.map_eq_some_iff]at h
  obtain⟨x,hx,rfl⟩:=h
  exact .d (wkW hh hok (.agg hs h' hf) (fun r hr x b=>hrow r (hn r hr) x b) hx)
 | tuple hs _ ih =>
  intro hn q h
  simp only[frzT,Option.map_eq_some_iff]at h
  obtain⟨m,hm,rfl⟩:=h
  obtain⟨h1,h2⟩:=whs hm
  simp only[rowsOf]at hn
  exact .tuple (by rw[hs,h1]) (fun i hi=>ih i (h1▸hi) (fun r hr=>hn r (wdx (h1▸hi) hr)) (h2 i (h1▸hi) hi))
theorem Sub.frz (h2:wc9 τ.heap σ.heap) (h1:wmU σ.heap τ.heap σ.env τ.env) (h4:wcw τ.heap τ.heap) (h5:σ.dfr=τ.dfr/\refsInL τ.heap τ.dfr/\σ.gh=τ.gh):Sub G N σ τ:=by
 intro P B a w φ hr
 refine⟨φ,Rep.of_sit (h5.2.2▸hr.sit.less (wbV h2) (weC h4)) hr.size (fun t=>?_) (h5.2.2▸((h5.1▸hr.dfr).less (wbV h2) h5.2.1))⟩
 rcases wmV h1 t with h | ⟨h,h'⟩ | ⟨h,h'⟩
 ·rw[h]; exact .any _
 ·have:=hr.env t
  rw[h]at this
  exact this.less (wbV h2) h'
 ·exact wnN hr.heap (wbV h2) (hr.env t) h' h
end
end Go.Pv

namespace Go.Pv
def wic:List (Nat×PV)->Prop
 | []=>True
 | (_,v)::l=>clean v/\wic l
def wgd:wac->Prop
 | []=>True
 | (_,x)::l=>cleanL x.els/\wgd l
theorem wkZ:∀ {l:List (Nat×PV)},wic l->∀ t,clean (wam l t)
 | [],_,_=>by simp[wam,clean]
 | (s,v)::l,h,t=>by
  simp only[wam]
  split
  ·exact h.1
  ·exact wkZ h.2 t
theorem wkl:∀ {l:wac},wgd l->∀ r x,waa l r=some x->cleanL x.els
 | (s,y)::l,h,r,x,hx=>by
  simp only[waa]at hx
  split at hx
  ·simp only[Option.some.injEq]at hx; subst hx; exact h.1
  ·exact wkl h.2 r x hx
def wcU (e:List (Nat×PV)):List (Nat×PV)->List PV
 | []=>[]
 | (t,_)::l=>wam e t::wcU e l
def whF (e:List (Nat×PV)):List PV:=wcU e e
def we3 (tmps:Array Value):List (Nat×PV)->List Value
 | []=>[]
 | (t,_)::l=>tmps.getD t undef::we3 tmps l
theorem wmW {w:World} {X:Nat->Nat->Prop} {φ:Nm} {H:wac} {tmps:Array Value} {e:List (Nat×PV)} (h:∀ t,RepV w X φ H (tmps.getD t undef) (wam e t)) :
  ∀ l:List (Nat×PV),(we3 tmps l).length=(wcU e l).length/\∀ i (hi:i < (wcU e l).length),RepV w X φ H ((we3 tmps l).getD i undef) (wcU e l)[i]
 | []=>⟨rfl,fun i hi=>by simp[wcU]at hi⟩
 | (t,v)::l=>by
  obtain⟨h1,h2⟩:=wmW h l
  refine⟨by simp[we3,wcU,h1],fun i hi=>?_⟩
  cases i with
  | zero=>simpa [we3,wcU]using h t
  | succ i=>simpa [we3,wcU]using h2 i (by simpa [wcU]using hi)
theorem wl6 {w:World} {X:Nat->Nat->Prop} {φ:Nm} {H:wac} {tmps:Array Value} {e:List (Nat×PV)}:∀ {l:List (Nat×PV)},(∀ i (hi:i < (wcU e l).length),RepV w X φ H ((we3 tmps l).getD i undef) (wcU e l)[i]) →
  ∀ t v,(t,v)∈l->RepV w X φ H (tmps.getD t undef) (wam e t)
 | (s,u)::l,h,t,v,hm=>by
  rcases List.mem_cons.1 hm with hm | hm
  ·cases hm
   simpa [we3,wcU]using h 0 (by simp[wcU])
  ·exact wl6 (l:=l) (fun i hi=>by simpa [we3,wcU]using h (i+1) (by simpa [wcU]using hi)) t v hm
theorem wst {l:List (Nat×PV)} {t:Nat}:wam l t=.any\/∃ v,(t,v)∈l:=by
 induction l with
 | nil=>exact .inl rfl
 | cons x l ih =>
  obtain⟨s,v⟩:=x
  simp only[wam]
  by_cases h:s=t
  ·subst h; exact .inr ⟨v,by simp⟩
  ·rw[if_neg h]
   rcases ih with h | ⟨u,h⟩
   ·exact .inl h
   ·exact .inr ⟨u,by simp[h]⟩
def wmX (e:List (Nat×PV)) (a:Act):Deferred:={ target:=.fn (.func 0) (we3 a.tmps e).toArray,args:=#[] }
section
variable {P:Program} {G:List (Nat×PD)} {B:Base P} {N:Nat} {σ:St} {a:Act} {w w':World} {φ φ':Nm} {H:wac} {X X':Nat->Nat->Prop}
theorem RepV.move (hd:∀ b kk,okd w X φ H b kk->okd w' X' φ H b kk) (hk:∀ b kk c e f,okd w X φ H b kk->w.heap[b]? = some (.cells c e f)->w'.heap[b]? = some (.cells c e f))
  (hrow:∀ r x b,waa H r=some x->φ r=some b->w'.heap[b]? = w.heap[b]?) {v:Value} {p:PV} (hv:RepV w X φ H v p):clean p->RepV w' X' φ H v p:=by
 have hdd:∀ {v:Value} {x:PD},RepD w (okd w X φ H) v x->RepD w' (okd w' X' φ H) v x:=fun h=>h.mono' hd hk
 induction hv with
 | any v=>intro _; exact .any v
 | d h=>intro _; exact .d (hdd h)
 | b h=>intro h0; simp[clean]at h0
 | ptr hx hφ h1=>intro _; exact .ptr hx hφ h1
 | mp hx hφ h1=>intro _; exact .mp hx hφ h1
 | dptr h hi=>intro _; exact .dptr (hdd h) hi
 | bptr h hi=>intro h0; simp[clean]at h0
 | glob g=>intro _; exact .glob g
 | val hf=>intro _; exact .val hf
 | slc hx hφ h1 hn hc hl hz=>intro _; exact .slc hx hφ h1 hn hc hl (fun c e f h=>hz c e f (by rw[<-hrow _ _ _ hx hφ]; exact h))
 | slc0 hx hφ h1 hp=>intro _; exact .slc0 hx hφ h1 hp
 | func hs _ ih=>intro h0; simp only[clean]at h0; exact .func hs fun i hi=>ih i hi (wcA h0 i hi)
 | agg hs _ hf ih=>intro h0; simp only[clean]at h0; exact .agg hs (fun i hi=>ih i hi (wcA h0 i hi)) hf
 | tuple hs _ ih=>intro h0; simp only[clean]at h0; exact .tuple hs fun i hi=>ih i hi (wcA h0 i hi)
theorem HeapOk.move (h:HeapOk w X φ H) (hT:∀ b,¬ φ.T b) (hc:wgd H) (hd:∀ b kk,okd w X φ H b kk->okd w' X' φ H b kk) (hk:∀ b kk c e f,okd w X φ H b kk->w.heap[b]? = some (.cells c e f)->w'.heap[b]? = some (.cells c e f))
  (hrow:∀ r x b,waa H r=some x->φ r=some b->w'.heap[b]? = w.heap[b]?) (hfree:∀ b,waD φ H b->∀ kk,¬ X' b kk):HeapOk w' X' φ H:=by
 refine⟨fun r x b hx hb=>?_,h.void,h.inj,fun b hb=>absurd hb (hT b)⟩
 exact(h.rows r x b hx hb).turn rfl rfl rfl (fun _ _ h'=>(hrow r x b hx hb).trans h') (hfree b ⟨r,x,hx,hb⟩) (fun i hi _ v hv=>hv.move hd hk hrow (wcA (wkl hc r x hx) i hi)) fun _ h=>h
theorem GlobOk.move (h:GlobOk G w X φ H) (hd:∀ b kk,okd w X φ H b kk->okd w' X' φ H b kk) (hk:∀ b kk c e f,okd w X φ H b kk->w.heap[b]? = some (.cells c e f)->w'.heap[b]? = some (.cells c e f)):GlobOk G w' X' φ H:=by
 intro g x hm
 obtain⟨c,e,f,v,h1,h2,h3,h4,h5,h6⟩:=h g x hm
 have ho:okd w X φ H g 0:=⟨(Array.getElem?_eq_some_iff.1 h1).1,h6,h2⟩
 exact⟨c,e,f,v,hk g 0 c e f ho h1,h2,h3.mono' hd hk,h4,h5,(hd g 0 ho).2.1⟩
theorem GlobOk.cells (h:GlobOk G w X φ H) (hs:w'.heap.size=w.heap.size) (hw:∀ (b:Nat) (o:Obj),o.dat=true->(w'.heap[b]? = some o ↔ w.heap[b]? = some o)):GlobOk G w' X φ H :=
 h.move (fun b kk hb=>⟨hs.symm▸hb.1,hb.2⟩) (fun b kk c e f _ h=>(hw b _ rfl).2 h)
theorem HeapOk.cells (h:HeapOk w X φ H) (hs:w'.heap.size=w.heap.size) (hw:∀ (b:Nat) (o:Obj),o.dat=true->(w'.heap[b]? = some o ↔ w.heap[b]? = some o)):HeapOk w' X φ H:=by
 refine⟨fun r x b hx hb=>?_,h.void,h.inj,fun b hT=>⟨hs.symm▸(h.far b hT).1,(h.far b hT).2⟩⟩
 exact(h.rows r x b hx hb).turn rfl rfl rfl (fun o ho h'=>(hw _ o ho).2 h') (h.rows r x b hx hb).free (fun i hi _ v hv=>hv.cells hs hw) fun _ h=>h
theorem wod (hw:∀ (b:Nat) (o:Obj),o.dat=true->(w'.heap[b]? = some o ↔ w.heap[b]? = some o)) {b:Nat} {o:Obj} (ho:o.dat=true) (h:w.heap[b]? = some o):csz w' b=csz w b:=by
 unfold csz; rw[(hw _ o ho).2 h,h]
theorem wpk {l:Nat} {r:Loop} {r':Loop} (h:w.heap[l]? = some (.loop r)) (b:Nat) (o:Obj) (ho:o.dat=true):(w.putObj l (.loop r')).heap[b]? = some o ↔ w.heap[b]? = some o:=by
 by_cases hb:b=l
 ·subst hb
  rw[World.putObj_heap_same (Array.getElem?_eq_some_iff.1 h).1,h]; cases o <;> simp_all [Obj.dat]
 ·rw[World.putObj_heap_other hb]
theorem wlC {b:Nat} (h:HeapOk w X φ H) (hb:∀ o,o.dat=true->w.heap[b]?≠some o):¬ waD φ H b:=by
 rintro⟨r,x,hx,hφ⟩
 obtain⟨o,h1,h2⟩:=(h.rows r x b hx hφ).some
 exact hb _ h2 h1
structure Bet (G:List (Nat×PD)) (B:Base P) (a:Act) (e:List (Nat×PV)) (H:wac) (M:Nat->Nat->Prop) (T:Nat->Prop) (l D:Nat) (rec:Loop) (w:World) (φ:Nm):Prop where
 heap:HeapOk w M φ H
 noT:∀ b,¬ φ.T b
 env:∀ t,RepV w M φ H (a.tmps.getD t undef) (wam e t)
 glob:GlobOk G w M φ H
 ts:∀ b,T b ↔ waD φ H b\/b=l\/b=D
 loop:w.heap[l]? = some (.loop rec)
 mark:w.heap[D]? = some (.deferred (some []))
 new:∀ r x b,waa H r=some x->φ r=some b->B.o0 b\/B.w0.heap.size<=b
 pins:∀ r x,waa H r=some x->pinned r=true->φ r=B.φ0 r
 psz:∀ r x b,waa H r=some x->pinned r=true->φ r=some b->csz w b=B.z0 b
 size:B.w0.heap.size<=w.heap.size
 mfar:(∀ kk,¬ M l kk)/\∀ kk,¬ M D kk
variable {e:List (Nat×PV)} {M M':Nat->Nat->Prop} {T T':Nat->Prop} {l D:Nat} {rec rec':Loop}
theorem Bet.ne (h:Bet G B a e H M T l D rec w φ):D≠l:=fun e=>by
 have h1:=h.loop
 have h2:=h.mark
 rw[e,h1]at h2; simp at h2
theorem Bet.stab (h:Bet G B a e H M T l D rec w φ) (hce:wic e) (hch:wgd H) (hsz:w.heap.size<=w'.heap.size) (hk:∀ b kk,b < w.heap.size->¬ M b kk->w'.heap[b]? = w.heap[b]?) (hM:∀ b kk,M' b kk->M b kk\/w.heap.size<=b):Bet G B a e H M' T l D rec w' φ:=by
 have hl:=(Array.getElem?_eq_some_iff.1 h.loop).1
 have hD:=(Array.getElem?_eq_some_iff.1 h.mark).1
 have hMn:∀ b kk,b < w.heap.size->¬ M b kk->¬ M' b kk:=fun b kk hb hm hm'=>(hM b kk hm').elim hm (by omega)
 have hd:∀ b kk,okd w M φ H b kk->okd w' M' φ H b kk:=fun b kk hb=>⟨Nat.lt_of_lt_of_le hb.1 hsz,hMn b kk hb.1 hb.2.1,hb.2.2⟩
 have hkc:∀ b kk c e f,okd w M φ H b kk->w.heap[b]? = some (.cells c e f)->w'.heap[b]? = some (.cells c e f):=fun b kk c e f hb hc=>(hk b kk hb.1 hb.2.1).trans hc
 have hrow:∀ r x b,waa H r=some x->φ r=some b->w'.heap[b]? = w.heap[b]?:=fun r x b hx hb=>hk b 0 (h.heap.lt hx hb) ((h.heap.rows r x b hx hb).free 0)
 exact⟨h.heap.move h.noT hch hd hkc hrow (fun b ⟨r,x,hx,hb⟩ kk=>hMn b kk (h.heap.lt hx hb) ((h.heap.rows r x b hx hb).free kk)),h.noT,fun t=>(h.env t).move hd hkc hrow (wkZ hce t),h.glob.move hd hkc,h.ts,
  (hk l 0 hl (h.mfar.1 0)).trans h.loop,(hk D 0 hD (h.mfar.2 0)).trans h.mark,h.new,h.pins,fun r x b h1 h2 h3=>(wel (hrow r x b h1 h3)).trans (h.psz r x b h1 h2 h3),Nat.le_trans h.size hsz,fun kk=>hMn l kk hl (h.mfar.1 kk),fun kk=>hMn D kk hD (h.mfar.2 kk)⟩
def QB (G:List (Nat×PD)) (N:Nat) (e:List (Nat×PV)) (p:List PD->Prop) (I:List PD->wac) (ok:Nat->List PD->Prop) (Hx:Nat->List PD->wac) (xs:List PD):Post
 | .normal,τ=>p xs/\Sub G N τ ⟨[],I xs,[.func (.func 0) (whF e)],none⟩
 | .exit id,τ=>ok id xs/\Sub G N τ ⟨[],Hx id xs,[.func (.func 0) (whF e)],none⟩
 | _,_=>False
def Base.round (B:Base P) (a:Act) (e:List (Nat×PV)) (M:Nat->Nat->Prop) (l:Nat) (w:World) (hM:∀ b kk,M b kk->b < w.heap.size) (o:Nat->Prop):Base P :=
  { w0:=w,X:=M,hX:=hM,o0:=o,φ0:=B.φ0,z0:=B.z0,ro:=some l,held:=[wmX e a],hheld:=fun h=>(by cases h),J:=fun _ _ _ _=>True,stab:=fun _ _ _ _ _ _ _ _ _ _ _ _ _=>trivial,y:=none,yok:=fun _ _ h=>by cases h }
theorem Rep.no_gh {Br:Base P} (hy:Br.y=none) (hf:Br.fr=false) (hr:Rep G Br N σ a w φ):σ.gh=none/\∀ b,¬ φ.T b:=by
 have h:=hr.inv
 cases hg:σ.gh with
 | none=>rw[hg]at h; exact⟨rfl,h⟩
 | some g=>
  obtain⟨l,all,xs,c⟩:=g
  rw[hg]at h
  rcases h with h | h
  ·have:=h.1
   rw[hy]at this; cases this
  ·rw[hf]at h; cases h.1
theorem Dfr.cells {m m':Nat->Prop} {ds:List Deferred} {ps:List PV} (hm:∀ D,¬ m D) (hs:w'.heap.size=w.heap.size) (hw:∀ (b:Nat) (o:Obj),o.dat=true->(w'.heap[b]? = some o ↔ w.heap[b]? = some o))
  (h:Dfr m w X φ H ds ps):Dfr m' w' X φ H ds ps:=by
 induction h with
 | nil=>exact .nil
 | fn h1 h2 h3 _ ih=>exact .fn h1 h2 (h3.cells hs hw) ih
 | mark h0=>exact absurd h0 (hm _)
theorem wrJ {a2:Act} {τ:St} {w2:World} {φ2:Nm} {Br:Base P} (hro:Br.ro=some l) (hh:Br.held=[wmX e a]) (hr:Rep G Br N τ a2 w2 φ2) (hd:τ.dfr=[.func (.func 0) (whF e)]):∀ t,RepV w2 Br.X φ2 τ.heap (a.tmps.getD t undef) (wam e t):=by
 have h:=hr.dfr
 rw[hd,hh]at h
 have hm:∀ D,¬ (τ.gh=none/\Br.ro=none/\Br.w0.heap.size<=D):=fun D hD=>by rw[hro]at hD; cases hD.2.1
 obtain⟨d,fn,caps,h1,h2,h3,h4⟩:=h.one_left hm
 have hnil:a2.defers=[]:=by
  have:=congrArg List.length h1
  simp at this; exact this
 rw[hnil]at h1
 simp only[List.nil_append,List.cons.injEq,and_true]at h1
 subst h1
 simp only[wmX,Target.fn.injEq]at h2
 obtain⟨rfl,rfl⟩:=h2
 cases h4 with | func hs h5 =>
 intro t
 rcases wst (l:=e) (t:=t)with h | ⟨v,h⟩
 ·rw[h]; exact .any _
 ·exact wl6 (l:=e) (fun i hi=>by
   have:=h5 i hi
   simpa [List.getD,Array.getD_eq_getD_getElem?,whF]using this) t v h
end
end Go.Pv

namespace Go.Pv
def wt2 {P:Program} (G:List (Nat×PD)) (B:Base P) (a:Act) (e:List (Nat×PV)) (p:List PD->Prop) (I:List PD->wac) (ok:Nat->List PD->Prop) (Hx:Nat->List PD->wac) (l D:Nat) (rec:LoopState->Option Code->Loop) :
  List PD×Bool->(Nat->Nat->Prop)->(Nat->Prop)->World->Prop
 | (xs,true),M,T,w=>p xs/\∃ φ,Bet G B a e (I xs) M T l D (rec .ready none) w φ
 | (xs,false),M,T,w=>∃ id,ok id xs/\∃ φ,Bet G B a e (Hx id xs) M T l D (rec .done (some (.exit id))) w φ
section
variable {P:Program} {G:List (Nat×PD)} {B:Base P} {N:Nat} {σ:St} {a:Act} {w w':World} {φ φ':Nm} {e:List (Nat×PV)} {M:Nat->Nat->Prop} {T:Nat->Prop} {l D:Nat}
  {p:List PD->Prop} {I:List PD->wac} {ok:Nat->List PD->Prop} {Hx:Nat->List PD->wac} {t:Tmp} {assign body:Code} {xs:List PD} {x:PD} {v:Value} {fid:FuncId}
theorem Bet.round (rec:LoopState->Option Code->Loop) (hrec:∀ st pe,rec st pe={ state:=st,pending:=pe,fn:=fid,tmps:=a.tmps,params:=#[t],assign,body,defers:=D })
  (hb:Bet G B a e (I xs) M T l D (rec .ready none) w φ) (hN:a.tmps.size=N) (ht:t < N) (hMlt:∀ b kk,M b kk->b < w.heap.size) (hv:RepD w (fun b kk=>b < w.heap.size/\¬ M b kk/\¬ T b) v x)
  (hbody:AWp P G (some l) N assign ⟨wdC e t (.d x),I xs,[.func (.func 0) (whF e)],none⟩ (Post.then (fun τ1=>AWp P G (some l) N body τ1 (QB G N e p I ok Hx (xs++[x]))) (fun _ _=>False))) :
  ∃ f tmps asg bdy,(invoke (.fn (.yield l) #[]) #[v]).run P w=.ok (.round l f tmps asg bdy) w/\RoundIn Fence.wide 0 P l f tmps asg bdy w fun e' w'=>∃ b T',e'=.returned (.bool b)/\wt2 G B a e p I ok Hx l D rec (xs++[x],b) M T' w' ∧
   (∀ c,T' c->T c\/w.heap.size<=c)/\(∀ c,T' c->c < w'.heap.size)/\w'.os=w.os/\w'.tape=w.tape/\w'.output=w.output/\w.heap.size<=w'.heap.size/\∀ c,c < w.heap.size->¬ T c->w'.heap[c]? = w.heap[c]?:=by
 have hl:=(Array.getElem?_eq_some_iff.1 hb.loop).1
 have hD:=(Array.getElem?_eq_some_iff.1 hb.mark).1
 have hne:=hb.ne
 have hy:=run_yield (P:=P) (args:=#[v]) hb.loop (by rw[hrec]; rfl)
 rw[hrec]at hy
 refine⟨_,_,_,_,hy,roundIn_of_wpIn trivial ?_⟩
 -- the round's frame,when it begins
 obtain⟨Br,hBr⟩:∃ Br,Br=B.round a e M l w hMlt (waD φ (I xs)):=⟨_,rfl⟩
 have htmps:((#[t]:Array Tmp).zip #[v]).foldl (fun tmps (t,a)=>tmps.setIfInBounds t a) a.tmps=a.tmps.setIfInBounds t v:=by simp
 have hxd:RepD w (okd w M φ (I xs)) v x:=hv.mono (fun b kk h=>⟨h.1,h.2.1,fun ho=>h.2.2 ((hb.ts b).2 (ho.elim .inl (fun h=>absurd h (hb.noT b))))⟩) (fun _ _ _=>rfl)
 have hrep0:Rep G Br N ⟨wdC e t (.d x),I xs,[.func (.func 0) (whF e)],none⟩ { tmps:=a.tmps.setIfInBounds t v,defers:=[] } w φ:=by
  subst hBr
  refine⟨by simpa using hN,fun s=>?_,hb.heap,.refl _ _,fun r y b h1 h2=>.inl ⟨r,y,h1,h2⟩,hb.pins,hb.psz,hb.glob,fun b h=>absurd h (hb.noT b),hb.noT,?_⟩
  ·show RepV w M φ (I xs) ((a.tmps.setIfInBounds t v).getD s undef) (wam (wdC e t (.d x)) s)
   simp only[wfk]
   split
   ·rename_i h; subst h
    have hlt:t < a.tmps.size:=hN▸ht
    simpa [Array.getD,hlt]using RepV.d (φ:=φ) (X:=M) (H:=I xs) hxd
   ·rename_i h
    have:=hb.env s
    simpa [Array.getD_eq_getD_getElem?,Array.getElem?_setIfInBounds,h]using this
  ·obtain⟨h1,h2⟩:=wmW hb.env e
   refine .fn (d:=wmX e a) rfl rfl (.func (by simpa [whF]using h1) (fun i hi=>?_)) .nil
   show RepV w M φ (I xs) _ _
   rw[show (we3 a.tmps e).toArray.getD i undef=(we3 a.tmps e).getD i undef by simp[List.getD,Array.getD_eq_getD_getElem?]]
   exact h2 i hi
 rw[htmps]
 refine hbody Br (by subst hBr; rfl) _ w φ hrep0 _ fun e1 τ1 a1 w1 φ1 he1 hr1=>?_
 cases e1 with
 | normal =>
  change AWp P G (some l) N body τ1 (QB G N e p I ok Hx (xs++[x]))at he1
  have hk1:Keeps (waD φ (I xs)) w w1:=by have:=hr1.keeps; subst hBr; exact this
  have hnl:¬ waD φ (I xs) l:=wlC hb.heap (fun o ho h=>by rw[hb.loop]at h; cases h; cases ho)
  have hnD:¬ waD φ (I xs) D:=wlC hb.heap (fun o ho h=>by rw[hb.mark]at h; cases h; cases ho)
  have hl1:w1.heap[l]? = some (.loop (rec .ready none)):=(hk1.block l hl hnl).trans hb.loop
  have hm1:w1.heap[D]? = some (.deferred (some [])):=(hk1.block D hD hnD).trans hb.mark
  obtain⟨busy,hbusy⟩:∃ r,r={ rec .ready none with state:=.busy }:=⟨_,rfl⟩
  refine⟨_,run_beginRound hl1 (by rw[hrec]),?_⟩
  rw[<-hbusy]
  obtain⟨wb,hwb⟩:∃ wb,wb=w1.putObj l (.loop busy):=⟨_,rfl⟩
  rw[<-hwb]
  have hsb:wb.heap.size=w1.heap.size:=by rw[hwb]; simp
  have hcb:∀ (b:Nat) (o:Obj),o.dat=true->(wb.heap[b]? = some o ↔ w1.heap[b]? = some o):=by rw[hwb]; exact wpk hl1
  have hlb:wb.heap[l]? = some (.loop busy):=by rw[hwb]; exact World.putObj_heap_same (Array.getElem?_eq_some_iff.1 hl1).1
  have hmb:wb.heap[D]? = some (.deferred (some [])):=by rw[hwb,World.putObj_heap_other hne]; exact hm1
  obtain⟨hg1,hT1⟩:=hr1.no_gh (by subst hBr; rfl) (by subst hBr; rfl)
  obtain⟨Bs,hBs⟩:∃ Bs,Bs=B.round a e M l wb (fun b kk h=>by rw[hsb]; exact Nat.lt_of_lt_of_le (hMlt b kk h) hk1.size) (waD φ1 τ1.heap):=⟨_,rfl⟩
  have hX1:Br.X=M:=by subst hBr; rfl
  have hrep1:Rep G Bs N τ1 a1 wb φ1:=by
   have h1:=hr1.env
   have h2:=hr1.heap
   have h3:=hr1.glob
   have h4:=hr1.dfr
   have h5:=hr1.pins
   have h6:=hr1.psz
   rw[hX1]at h1 h2 h3 h4
   subst hBs
   refine⟨hr1.size,fun s=>(h1 s).cells hsb hcb,h2.cells hsb hcb,.refl _ _,fun r y b h1 h2=>.inl ⟨r,y,h1,h2⟩,?_,fun r y b h7 h8 h9=>?_,h3.cells hsb hcb,fun b h=>absurd h (hT1 b),by rw[hg1]; exact hT1,?_⟩
   ·subst hBr; exact h5
   ·obtain⟨o,h10,ho⟩:=(h2.rows r y b h7 h9).some
    have:=h6 r y b h7 h8 h9
    subst hBr
    exact(wod hcb ho h10).trans this
   ·subst hBr
    exact h4.cells (fun D hD=>by cases hD.2.1) hsb hcb
  refine he1 Bs (by subst hBs; rfl) a1 wb φ1 hrep1 _ fun e2 τ2 a2 w2 φ2 he2 hr2=>?_
  have hk2:Keeps (waD φ1 τ1.heap) wb w2:=by have:=hr2.keeps; subst hBs; exact this
  -- blocks that no row of the round has
  have hrow1:∀ b,waD φ1 τ1.heap b->waD φ (I xs) b\/w.heap.size<=b:=fun b ⟨r,y,h1,h2⟩=>by
   have:=hr1.new r y b h1 h2
   subst hBr; exact this
  have hnl1:¬ waD φ1 τ1.heap l:=wlC hr1.heap (fun o ho h=>by rw[hl1]at h; cases h; cases ho)
  have hnD1:¬ waD φ1 τ1.heap D:=wlC hr1.heap (fun o ho h=>by rw[hm1]at h; cases h; cases ho)
  have hl2:w2.heap[l]? = some (.loop busy):=(hk2.block l (by rw[hsb]; exact Nat.lt_of_lt_of_le hl hk1.size) hnl1).trans hlb
  have hm2:w2.heap[D]? = some (.deferred (some [])):=(hk2.block D (by rw[hsb]; exact Nat.lt_of_lt_of_le hD hk1.size) hnD1).trans hmb
  have hchain:∀ c,c < w.heap.size->¬ T c->w2.heap[c]? = w.heap[c]?:=fun c hc hT=>by
   have h1:¬ waD φ (I xs) c:=fun h=>hT ((hb.ts c).2 (.inl h))
   have h2:c≠l:=fun h=>hT ((hb.ts c).2 (.inr (.inl h)))
   have h3:¬ waD φ1 τ1.heap c:=fun h=>(hrow1 c h).elim h1 (by omega)
   rw[hk2.block c (by rw[hsb]; exact Nat.lt_of_lt_of_le hc hk1.size) h3,hwb,World.putObj_heap_other h2,hk1.block c hc h1]
  -- the end of the round
  have fin:∀ (H3:wac) (jump:Option Code),Sub G N τ2 ⟨[],H3,[.func (.func 0) (whF e)],none⟩->∃ φ3,(Instr.endRound l jump).run P w2=.ok (.bool jump.isNone) (w2.putObj l (.loop (rec (if jump.isNone then .ready else .done) jump))) ∧
    Bet G B a e H3 M (fun b=>waD φ3 H3 b\/b=l\/b=D) l D (rec (if jump.isNone then .ready else .done) jump) (w2.putObj l (.loop (rec (if jump.isNone then .ready else .done) jump))) φ3 ∧
    (∀ c,(waD φ3 H3 c\/c=l\/c=D)->T c\/w.heap.size<=c)/\(∀ c,(waD φ3 H3 c\/c=l\/c=D)->c < (w2.putObj l (.loop (rec (if jump.isNone then .ready else .done) jump))).heap.size):=fun H3 jump hsub=>by
   obtain⟨φ3,hr3⟩:=hsub P Bs a2 w2 φ2 hr2
   obtain⟨hg3,hT3⟩:=hr3.no_gh (by subst hBs; rfl) (by subst hBs; rfl)
   have hend:=run_endRound (P:=P) jump hl2
   have hr':({ busy with state:=if jump.isNone then .ready else .done,pending:=jump }:Loop)=rec (if jump.isNone then .ready else .done) jump:=by rw[hbusy]; simp only[hrec]
   rw[hr']at hend
   have hs3:(w2.putObj l (.loop (rec (if jump.isNone then .ready else .done) jump))).heap.size=w2.heap.size:=by simp
   have hc3:=wpk (r':=rec (if jump.isNone then .ready else .done) jump) hl2
   have hX3:Bs.X=M:=by subst hBs; rfl
   have hnew3:∀ b,waD φ3 H3 b->waD φ (I xs) b\/w.heap.size<=b:=fun b ⟨r,y,h1,h2⟩=>by
    have:=hr3.new r y b h1 h2
    subst hBs
    rcases this with h | h
    ·exact hrow1 b h
    ·exact .inr (Nat.le_trans hk1.size (by have h:wb.heap.size<=b:=h; omega))
   have henv:=wrJ (Br:=Bs) (a:=a) (e:=e) (by subst hBs; rfl) (by subst hBs; rfl) hr3 rfl
   have hheap:=hr3.heap
   have hglob:=hr3.glob
   rw[hX3]at henv hheap hglob
   refine⟨φ3,hend,⟨hheap.cells hs3 hc3,hT3,fun s=>(henv s).cells hs3 hc3,hglob.cells hs3 hc3,fun b=>Iff.rfl,World.putObj_heap_same (Array.getElem?_eq_some_iff.1 hl2).1,(World.putObj_heap_other hne).trans hm2,fun r y b h1 h2=>?_,?_,fun r y b h1 h2 h3=>?_,?_,hb.mfar⟩,fun c hc=>?_,fun c hc=>?_⟩
   ·rcases hnew3 b ⟨r,y,h1,h2⟩with ⟨r',y',h3,h4⟩ | h
    ·exact hb.new r' y' b h3 h4
    ·exact .inr (Nat.le_trans hb.size h)
   ·have:=hr3.pins
    subst hBs; exact this
   ·obtain⟨o,h10,ho⟩:=(hheap.rows r y b h1 h3).some
    have:=hr3.psz r y b h1 h2 h3
    subst hBs
    exact(wod hc3 ho h10).trans this
   ·rw[hs3]; exact Nat.le_trans hb.size (Nat.le_trans hk1.size (hsb▸hk2.size))
   ·rcases hc with h | h
    ·rcases hnew3 c h with h | h
     ·exact .inl ((hb.ts c).2 (.inl h))
     ·exact .inr h
    ·exact .inl ((hb.ts c).2 (.inr h))
   ·rw[hs3]
    rcases hc with ⟨r,y,h1,h2⟩ | rfl | rfl
    ·exact hr3.heap.lt h1 h2
    ·exact(Array.getElem?_eq_some_iff.1 hl2).1
    ·exact(Array.getElem?_eq_some_iff.1 hm2).1
  have hos:w2.os=w.os:=by rw[hk2.os,hwb]; exact hk1.os
  have htp:w2.tape=w.tape:=by rw[hk2.tape,hwb]; exact hk1.tape
  have hou:w2.output=w.output:=by rw[hk2.output,hwb]; exact hk1.output
  have hsz:w.heap.size<=w2.heap.size:=Nat.le_trans hk1.size (hsb▸hk2.size)
  have last:∀ o,(∀ c,c < w.heap.size->¬ T c->(w2.putObj l o).heap[c]? = w.heap[c]?):=fun o c hc hT=>by
   have h2:c≠l:=fun h=>hT ((hb.ts c).2 (.inr (.inl h)))
   rw[World.putObj_heap_other h2]; exact hchain c hc hT
  cases e2 with
  | normal =>
   obtain⟨hp,hsub⟩:=he2
   obtain⟨φ3,h1,h2,h3,h4⟩:=fin _ none hsub
   exact⟨_,_,h1,true,_,rfl,⟨hp,φ3,h2⟩,h3,h4,hos,htp,hou,by simpa using hsz,last _⟩
  | exit id =>
   obtain⟨hp,hsub⟩:=he2
   obtain⟨φ3,h1,h2,h3,h4⟩:=fin _ (some (.exit id)) hsub
   exact⟨_,_,h1,false,_,rfl,⟨id,hp,φ3,h2⟩,h3,h4,hos,htp,hou,by simpa using hsz,last _⟩
  | _=>exact he2.elim
 | _=>exact he1.elim
end
end Go.Pv

namespace Go.Pv
section
variable {P:Program} {G:List (Nat×PD)} {B:Base P} {N:Nat} {σ:St} {a:Act} {w w':World} {φ φ':Nm} {Q:Post}
theorem RepV.free {X X':Nat->Nat->Prop} {φ φ':Nm} {H H':wac} (hd:∀ b kk,okd w X φ H b kk->okd w' X' φ' H' b kk) (hk:∀ b kk,okd w X φ H b kk->w'.heap[b]? = w.heap[b]?) {v:Value} {p:PV} (hv:RepV w X φ H v p):dOnly p->RepV w' X' φ' H' v p:=by
 induction hv with
 | any v=>intro _; exact .any v
 | d h=>intro _; exact .d (h.mono hd hk)
 | b h=>intro h0; simp[dOnly]at h0
 | ptr h1=>intro h0; simp[dOnly]at h0
 | mp h1=>intro h0; simp[dOnly]at h0
 | dptr h hi=>intro _; exact .dptr (h.mono hd hk) hi
 | bptr h hi=>intro h0; simp[dOnly]at h0
 | glob g=>intro _; exact .glob g
 | val hf=>intro _; exact .val hf
 | slc h1=>intro h0; simp[dOnly]at h0
 | slc0 h1=>intro h0; simp[dOnly]at h0
 | func hs _ ih=>intro h0; simp only[dOnly]at h0; exact .func hs fun i hi=>ih i hi (wdw h0 i hi)
 | agg hs _ hf ih=>intro h0; simp only[dOnly]at h0; exact .agg hs (fun i hi=>ih i hi (wdw h0 i hi)) hf
 | tuple hs _ ih=>intro h0; simp only[dOnly]at h0; exact .tuple hs fun i hi=>ih i hi (wdw h0 i hi)
theorem Dfr.marks {m m':Nat->Prop} {X X':Nat->Nat->Prop} {φ φ':Nm} {H H':wac} {ds:List Deferred} (h:Dfr m w X φ H ds []) (hm:∀ D,m D->m' D) (hd:∀ D,okd w X φ H D 0->w.heap[D]? = some (.deferred (some []))->okd w' X' φ' H' D 0/\w'.heap[D]? = w.heap[D]?):Dfr m' w' X' φ' H' ds []:=by
 generalize hp:([]:List PV)=ps at h ⊢
 induction h with
 | nil=>exact .nil
 | fn=>cases hp
 | mark h0 h1 h2 h3 _ ih=>exact .mark (hm _ h0) (hd _ h1 h2).1 ((hd _ h1 h2).2.trans h2) h3 (ih hp)
end
end Go.Pv

namespace Go.Pv
def RowFn (P:Program) (G:List (Nat×PD)) (f:FuncId) (args:List PV) (e k:Nat) (l:List PD):Prop :=
 Fn P G f args [] fun p H'=>p=.slc 1000 0 l.length/\H'=[(1000,{ e,k,els:=dl l })]
@[go_sem] theorem dl_ren (ρ:Nat->Nat) (l:List PD):renL ρ (dl l)=dl l:=by
 induction l with
 | nil=>rfl
 | cons x l ih=>rw[wly]; simp only[renL,PV.ren,ih]
@[go_sem] theorem dl_clean (l:List PD):cleanL (dl l)=True:=by
 induction l with
 | nil=>simp[dl,cleanL]
 | cons x l ih=>rw[wly]; simp only[cleanL,clean,ih,and_self]
@[go_sem] theorem dl_rows (l:List PD):rowsOfL (dl l)=[]:=by
 induction l with
 | nil=>simp[dl,rowsOfL]
 | cons x l ih=>rw[wly]; simp only[rowsOfL,rowsOf,ih,List.append_nil]
mutual
theorem kill_id {r:Nat}:∀ (p:PV),r ∉ rowsOf p->p.kill r=p
 | .ptr s i off,h=>by simp only[rowsOf,List.mem_singleton]at h; simp only[PV.kill]; rw[if_neg (Ne.symm h)]
 | .slc s lo n,h=>by simp only[rowsOf,List.mem_singleton]at h; simp only[PV.kill]; rw[if_neg (Ne.symm h)]
 | .mp s,h=>by simp only[rowsOf,List.mem_singleton]at h; simp only[PV.kill]; rw[if_neg (Ne.symm h)]
 | .func fn l,h=>by simp only[rowsOf]at h; simp only[PV.kill,killL_id l h]
 | .agg l,h=>by simp only[rowsOf]at h; simp only[PV.kill,killL_id l h]
 | .tuple l,h=>by simp only[rowsOf]at h; simp only[PV.kill,killL_id l h]
 | .any,_=>by simp only[PV.kill]
 | .d _,_=>by simp only[PV.kill]
 | .b _,_=>by simp only[PV.kill]
 | .dptr _ _ _ _,_=>by simp only[PV.kill]
 | .bptr _ _ _ _,_=>by simp only[PV.kill]
 | .glob _,_=>by simp only[PV.kill]
 | .val _,_=>by simp only[PV.kill]
theorem killL_id {r:Nat}:∀ (l:List PV),r ∉ rowsOfL l->killL r l=l
 | [],_=>by simp only[killL]
 | p::l,h=>by
  simp only[rowsOfL,List.mem_append,not_or]at h
  simp only[killL,kill_id p h.1,killL_id l h.2]
end
section
variable {P:Program} {G:List (Nat×PD)} {ro:Option Nat} {N:Nat} {xs:Exc} {σ:St} {o:Oper} {K:St->Prop}
theorem wmp (σ:St):Hand σ [] id:=⟨fun r x h=>by simp[waa]at h,fun r x h=>by simp[waa]at h,fun r s x y h=>by simp[waa]at h,fun r x h=>by simp[waa]at h⟩
theorem wgv {H:wac}:∀ {l m:List PV},wdD H l m->wdq H [] id l m
 | [],[],_=>trivial
 | p::l,q::m,h=>by
  refine⟨?_,wgv h.2⟩
  have h1:=h.1
  cases q with
  | any=>trivial
  | d x=>exact h1
  | b x =>
   rcases h1 with h1 | h1
   ·exact .inl h1
   ·refine .inr ⟨h1,?_⟩
    generalize rowsOf p=rs
    induction rs with
    | nil=>trivial
    | cons r rs ih=>exact⟨fun x hx=>(by cases hx),ih⟩
  | _=>exact h1.elim
 | [],_::_,h=>h.elim
 | _::_,[],h=>h.elim
def wmY (r:Nat) (s:Nat):Nat:=if s=1000 then r else s
theorem wsu {r:Nat} {x:Row} (hr0:waa σ.heap r=none) (hp0:1000<=r) (h1:refsInL [(1000,x)] x.els) (h2:cleanL x.els):Back σ [] [(1000,x)] id (wmY r):=by
 have key:∀ s y,waa [(1000,x)] s=some y->s=1000/\y=x:=fun s y h=>by
  simp only[waa]at h
  split at h
  ·rename_i e; simp only[Option.some.injEq]at h; exact⟨e.symm,h.symm⟩
  ·cases h
 refine⟨fun s y h hlt=>?_,fun s y h=>by simp[waa]at h,fun s y h _=>?_,fun s t y z h h' _=>by rw[(key s y h).1,(key t z h').1],fun s y h=>?_⟩
 ·have:=(key s y h).1; omega
 ·rw[(key s y h).1]; exact⟨hr0,hp0⟩
 ·rw[(key s y h).2]; exact⟨h1,h2⟩
theorem OpT.callRow {c:Call} {f:FuncId} {xo:Operand} {args:List PV} {e k:Nat} {l:List PD} {r:Nat} (ho:o.op=.call c) (hc:c.callee=.value xo) (hx:wcB (σ.eval xo)=some (f,[])) (hcal:wbd P f=true)
  (hf:RowFn P G f args e k l) (ha:wdD σ.heap (wau σ c.args.toList) args) (hd:wao N o.dst) (hr0:waa σ.heap r=none) (hp0:1000<=r)
  (hK:K (({ σ with heap:=wal σ.heap r { e,k,els:=dl l } }:St).put o.dst (.slc r 0 l.length))):OpT P G ro N o σ K:=by
 refine OpT.callG (H:=[]) (g:=id) (gc:=none) ho hc hx hcal hf (wmp σ) (.inl rfl) (by rw[List.append_nil]; exact wgv ha) hd ?_
 rintro p H' g' ⟨rfl,rfl⟩
 refine⟨wmY r,wsu hr0 hp0 (by simp only[dl_refs]) (by simp only[dl_clean]),by simp only[clean],by simp[refsIn,waa],?_⟩
 simp only[wbP,Row.ren,dl_ren,PV.ren,wmY,if_true,whw]
 exact hK
theorem OpX.callRow {K:Foot->St->Prop} {c:Call} {f:FuncId} {args:List PV} {e k:Nat} {l:List PD} (r:Nat) (ho:o.op=.call c) (hc:c.callee=.value (.func f)) (hcal:wbd P f=true)
  (hf:RowFn P G f args e k l) (ha:wdD σ.heap (wau σ c.args.toList) args) (hd:wao N o.dst) (hr0:waa σ.heap r=none) (hp0:1000<=r) (hx:exE xs (waS o.dst (.slc r 0 l.length)++[(.h r,.r (some { e,k,els:=dl l }))]))
  (hK:K (some (.h r::(waM (wav o.op)++wcT σ (wav o.op)),wa5 o.dst++[.h r])) (({ σ with heap:=wal σ.heap r { e,k,els:=dl l } }:St).put o.dst (.slc r 0 l.length))):OpX P G ro N xs o σ K:=by
 refine⟨_,_,?_,hK⟩
 refine⟨waS o.dst (.slc r 0 l.length)++[(.h r,.r (some { e,k,els:=dl l }))],fun k hk=>?_,hx,fun σ' hd' hs _=>?_,wgV _ _ _ _ _,St.put_rest _ _ _⟩
 ·have:=wcF o.dst (.slc r 0 l.length)
  simp only[wct,List.map_append,List.map_cons,List.map_nil]at hk this
  rw[this]at hk; exact hk
 ·have h1:=wcN (σ:=σ) (σ':=σ') (l:=wav o.op) fun k hk=>hs k (List.mem_cons_of_mem _ (List.mem_append_left _ hk))
  have h2:=whV (σ:=σ) (σ':=σ') (l:=wav o.op) fun k hk=>hs k (List.mem_cons_of_mem _ (List.mem_append_right _ hk))
  have h3:waa σ'.heap r=none:=by
   have:=hs (.h r) (List.mem_cons_self ..)
   simp only[St.look,Cont.r.injEq]at this
   rw[this,hr0]
  rw[ho]at h1 h2
  refine OpT.callRow (r:=r) ho hc rfl hcal hf ?_ hd h3 hp0 ⟨by rw[St.put_rest]; exact hd',wgV _ _ _ _ _⟩
  rw[wcd (l:=c.args.toList) h1]
  refine wh9 (fun p hp r hr=>?_) ha
  obtain⟨x,h3,rfl⟩:=wkV hp
  exact h2 x h3 r hr
theorem wrb {k:Nat} {H H':wac} {p:PV} (h:∀ r∈valRows p,waa H' r=waa H r):whE k H' p=whE k H p:=by
 cases p with
 | slc r lo n=>simp only[whE]; rw[h r (by simp[valRows])]
 | d x=>cases x <;> rfl
 | b x=>cases x <;> rfl
 | _=>rfl
def wgY:Exc->Nat->List Nat->Prop
 | [],_,_=>False
 | (r,S)::l,s,T=>(r=s/\S=T)\/wgY l s T
theorem woe {xs:Exc} {r:Nat} {S:List Nat} {k:Key} {c:Cont} (h:wgY xs r S) (hx:exOk xs k c):k.among S=true\/c.rows.contains r=false:=by
 induction xs with
 | nil=>exact h.elim
 | cons x l ih =>
  obtain⟨r',S'⟩:=x
  rcases h with ⟨rfl,rfl⟩ | h
  ·exact hx.1
  ·exact ih h hx.2
def wgZ (e:List (Nat×PV)) (r ts:Nat):List Nat->Prop
 | []=>True
 | t::l=>(t=ts\/(rowsOf (wam e t)).contains r=false)/\wgZ e r ts l
theorem wk0 {e:List (Nat×PV)} {r ts:Nat}:∀ {l:List Nat},wgZ e r ts l->∀ t∈l,t=ts\/r ∉ rowsOf (wam e t)
 | t0::l,h,t,ht=>by
  rcases List.mem_cons.1 ht with rfl | ht
  ·exact h.1.imp id (fun h=>by simpa using h)
  ·exact wk0 h.2 t ht
def wgw (r:Nat):wac->wac->wac
 | [],H=>H
 | (s,x)::l,H=>wal (wgw r l H) s { x with els:=killL r x.els }
def wd1 (r:Nat):wac->Eff
 | []=>[]
 | (s,x)::l=>(.h s,.r (some { x with els:=killL r x.els }))::wd1 r l
def wcP:wac->List Key
 | []=>[]
 | (s,_)::l=>.h s::wcP l
def wid (H:wac) (r:Nat):wac->Prop
 | []=>True
 | (s,x)::l=>(waa H s=some x/\s≠r)/\wid H r l
def wg0 (Sh:wac):List Nat->Prop
 | []=>True
 | c::l=>(c < 1000000\/(waa Sh (c - 1000000)).isSome=true)/\wg0 Sh l
theorem wl7 {Sh:wac}:∀ {l:List Nat},wg0 Sh l->∀ m,m+1000000∈l->(waa Sh m).isSome=true
 | c::l,h,m,hm=>by
  rcases List.mem_cons.1 hm with e | hm
  ·rcases h.1 with h1 | h1
   ·omega
   ·rw[<-e]at h1; simpa using h1
  ·exact wl7 h.2 m hm
theorem wk1 {H:wac} {r:Nat}:∀ {l:wac},wid H r l->∀ s x,waa l s=some x->waa H s=some x/\s≠r
 | [],_,s,x,h=>by simp[waa]at h
 | (t,y)::l,h,s,x,hx=>by
  simp only[waa]at hx
  split at hx
  ·rename_i e; subst e; cases hx; exact h.1
  ·exact wk1 h.2 s x hx
theorem wiQ (r:Nat):∀ (l H:wac) (s:Nat),waa (wgw r l H) s=match waa l s with | some x=>some { x with els:=killL r x.els } | none=>waa H s
 | [],H,s=>rfl
 | (t,x)::l,H,s=>by
  simp only[wgw,wai,waa]
  split
  ·rfl
  ·exact wiQ r l H s
theorem wkm (r:Nat):∀ (l:wac) (s:Nat),wdl (wd1 r l) (.h s)=(waa l s).map fun x=>Cont.r (some { x with els:=killL r x.els })
 | [],s=>rfl
 | (t,x)::l,s=>by
  simp only[wd1,wdl,Key.h.injEq,waa]
  split
  ·rfl
  ·exact wkm r l s
theorem wiy (r:Nat):∀ (l:wac) (t:Nat),wdl (wd1 r l) (.t t)=none
 | [],s=>rfl
 | (t,x)::l,s=>by simp only[wd1,wdl,reduceCtorEq,if_false]; exact wiy r l s
theorem wkn (r:Nat):∀ l:wac,wct (wd1 r l)=wcP l
 | []=>rfl
 | (s,x)::l=>by have:=wkn r l; simp only[wct]at this; simp[wd1,wct,wcP,this]
theorem wk2:∀ {l:wac} {s:Nat} {x:Row},waa l s=some x->Key.h s∈wcP l
 | [],s,x,h=>by simp[waa]at h
 | (t,y)::l,s,x,h=>by
  simp only[waa]at h
  split at h
  ·rename_i e; subst e; simp[wcP]
  ·simp[wcP,wk2 h]
theorem weN {r:Nat} {l:List Nat} (h:l=[]):r ∉ l:=by rw[h]; simp
theorem OpX.appH {K:Foot->St->Prop} {c:Call} {t e ts d r n:Nat} {xo:Operand} {z:Ty} {row:Row} {L:List PV} {S:List Nat} (Sh:wac) (ho:o.op=.call c) (hcb:c.callee=.builtin .append) (hct:c.argTypes=#[t,t]) (hca:c.args=#[.tmp ts,xo]) (hdst:o.dst=some d) (hd:d < N)
  (hel:wbO P t=some (e,z)) (hz:waf z=true) (hs:wam σ.env ts=.slc r 0 n) (hx:waa σ.heap r=some row) (hL:whE z.size σ.heap (σ.eval xo)=some L) (hn:row.els.length=n) (hre:row.e=e) (hrk:row.k=z.size) (hp:1000<=r)
  (h63:n+L.length<=9223372036854775807) (hbytes:(n+L.length)*z.bytes<=140737488355328) (hS:wgY xs r S) (hSs:S.contains ts=true) (hSd:S.contains d=true) (hne:d≠ts) (hlead:wgZ σ.env r ts S) (hcod:wg0 Sh S) (hcel:wid σ.heap r Sh) (hrm:r ∉ rowsOfL row.els) (hLm:r ∉ rowsOfL L) (hdm:(rowsOfL σ.dfr).contains r=false)
  (hxe:exE xs ((.t d,.v (.slc r 0 (n+L.length)))::(.h r,.r (some { row with els:=row.els++L }))::(.t ts,.v .any)::wd1 r Sh))
  (hK:K (some (.h r::(waM (wav o.op)++wcT σ (wav o.op)++(S.map .t++wcP Sh)),.t d::.h r::.t ts::wcP Sh)) ({ σ with env:=wdC (wdC σ.env ts .any) d (.slc r 0 (n+L.length)),heap:=wal (wgw r Sh σ.heap) r { row with els:=row.els++L } }:St)):OpX P G ro N xs o σ K:=by
 have hlook:∀ σ':St,({ σ' with env:=wdC (wdC σ'.env ts .any) d (.slc r 0 (n+L.length)),heap:=wal (wgw r Sh σ'.heap) r { row with els:=row.els++L } }:St).look =
   σ'.look.app ((.t d,.v (.slc r 0 (n+L.length)))::(.h r,.r (some { row with els:=row.els++L }))::(.t ts,.v .any)::wd1 r Sh):=by
  intro σ'
  funext k
  cases k with
  | t m =>
   simp only[St.look,SF.app,wdl,Key.t.injEq,wfk,reduceCtorEq,if_false,wiy]
   by_cases h1:d=m
   ·simp[h1]
   ·by_cases h2:ts=m
    ·simp[h1,h2]
    ·simp[h1,h2,St.look]
  | h m =>
   simp only[St.look,SF.app,wdl,Key.h.injEq,wai,reduceCtorEq,if_false,wkm,wiQ]
   by_cases h1:r=m
   ·simp[h1]
   ·simp only[h1,if_false]
    cases waa Sh m <;> simp[St.look]
 refine⟨_,_,?_,hK⟩
 refine⟨(.t d,.v (.slc r 0 (n+L.length)))::(.h r,.r (some { row with els:=row.els++L }))::(.t ts,.v .any)::wd1 r Sh,fun k hk=>?_,hxe,fun σ' hd' hs' hex=>?_,hlook σ,rfl⟩
 ·have:=wkn r Sh
  simp only[wct]at hk this
  simp only[List.map_cons,this]at hk
  exact hk
 have hop:wav o.op=[.tmp ts,xo]:=by rw[ho]; simp[wav,hca]
 have h1:=wcN (σ:=σ) (σ':=σ') (l:=wav o.op) fun k hk=>hs' k (List.mem_cons_of_mem _ (List.mem_append_left _ (List.mem_append_left _ hk)))
 have h2:=whV (σ:=σ) (σ':=σ') (l:=wav o.op) fun k hk=>hs' k (List.mem_cons_of_mem _ (List.mem_append_left _ (List.mem_append_right _ hk)))
 rw[hop]at h1 h2
 have e1:σ'.eval (.tmp ts)=.slc r 0 n:=(h1 _ (by simp)).trans hs
 have hrow':∀ m,Key.h m∈(.h r::wcP Sh)->waa σ'.heap m=waa σ.heap m:=fun m hm=>by
  have:=hs' (.h m) (by
   rcases List.mem_cons.1 hm with h | h
   ·rw[h]; exact List.mem_cons_self ..
   ·exact List.mem_cons_of_mem _ (List.mem_append_right _ (List.mem_append_right _ h)))
  simpa only[St.look,Cont.r.injEq]using this
 have e2:waa σ'.heap r=some row:=(hrow' r (by simp)).trans hx
 have e3:whE z.size σ'.heap (σ'.eval xo)=some L:=by
  rw[h1 xo (by simp),wrb (h2 xo (by simp))]; exact hL
 obtain⟨y,hy,hde,he⟩:=wda hel
 obtain⟨zv,h11,h12,h13⟩:=wfH hz
 have hcall:o.op=.call { callee:=.builtin .append,args:=#[.tmp ts,xo],argTypes:=#[t,t] }:=by
  rw[ho]; cases c; simp only at hcb hct hca; subst hcb; subst hct; subst hca; rfl
 refine OpT.append hcall hy hde he h11 h12 h13 e1 e2 hn hre hrk hp e3 h63 hbytes (by rw[hdst]; exact hd) ?_
 have hdfr:σ'.dfr=σ.dfr:=by have:=hd'; simp only[St.rest,Prod.mk.injEq]at this; exact this.1
 have hmem:∀ m,S.contains m=true->m∈S:=fun m h=>by simpa using h
 refine⟨?_,?_⟩
 ·rw[St.put_rest]
  have:(σ'.grown r row L).rest=σ'.rest:=by
   simp only[St.rest,St.grown]
   rw[killL_id σ'.dfr (by rw[hdfr]; simpa using hdm)]
  rw[this]; exact hd'
 ·rw[<-hlook σ',hdst]
  funext k
  cases k with
  | t m =>
   simp only[St.put,St.look,St.grown,Cont.v.injEq,wfk,wjB]
   by_cases h3:d=m
   ·simp[h3]
   ·simp only[h3,if_false]
    by_cases h4:ts=m
    ·subst h4
     simp only[if_true]
     have:wam σ'.env ts=.slc r 0 n:=e1
     rw[this]; simp only[PV.kill,if_true]
    ·simp only[h4,if_false]
     refine kill_id _ ?_
     rcases woe hS (hex (.t m))with h5 | h5
     ·have h6:=hmem m (by simpa [Key.among]using h5)
      have h7:wam σ'.env m=wam σ.env m:=by
       have:=hs' (.t m) (List.mem_cons_of_mem _ (List.mem_append_right _ (List.mem_append_left _ (List.mem_map.2 ⟨m,h6,rfl⟩))))
       simpa only[St.look,Cont.v.injEq]using this
      rw[h7]
      exact(wk0 hlead m h6).resolve_left (Ne.symm h4)
     ·simpa [St.look,Cont.rows]using h5
  | h m =>
   simp only[St.put,St.look,St.grown,Cont.r.injEq,wai,wfx,wiQ]
   by_cases h3:r=m
   ·simp only[h3,if_true,Option.some.injEq,Row.mk.injEq,true_and]
    rw[killL_id row.els (h3▸hrm),killL_id L (h3▸hLm)]
   ·simp only[h3,if_false,if_neg (Ne.symm h3)]
    cases hh:waa Sh m with
    | some x =>
     obtain⟨h5,_⟩:=wk1 hcel m x hh
     have h6:=(hrow' m (List.mem_cons_of_mem _ (wk2 hh))).trans h5
     rw[h6]; rfl
    | none =>
     simp only
     cases hh2:waa σ'.heap m with
     | none=>simp
     | some x =>
      have h5:=woe hS (hex (.h m))
      rcases h5 with h5 | h5
      ·have:=wl7 hcod m (hmem _ (by simpa [Key.among]using h5))
       rw[hh]at this; cases this
      ·simp only[St.look,hh2,Cont.rows]at h5
       have h6:r ∉ rowsOfL x.els:=by simpa using h5
       simp[killL_id _ h6]
theorem OpX.app {K:Foot->St->Prop} {c:Call} {t e ts d r n:Nat} {xo:Operand} {z:Ty} {row:Row} {L:List PV} {S:List Nat} (ho:o.op=.call c) (hcb:c.callee=.builtin .append) (hct:c.argTypes=#[t,t]) (hca:c.args=#[.tmp ts,xo]) (hdst:o.dst=some d) (hd:d < N)
  (hel:wbO P t=some (e,z)) (hz:waf z=true) (hs:wam σ.env ts=.slc r 0 n) (hx:waa σ.heap r=some row) (hL:whE z.size σ.heap (σ.eval xo)=some L) (hn:row.els.length=n) (hre:row.e=e) (hrk:row.k=z.size) (hp:1000<=r)
  (h63:n+L.length<=9223372036854775807) (hbytes:(n+L.length)*z.bytes<=140737488355328) (hS:wgY xs r S) (hSs:S.contains ts=true) (hSd:S.contains d=true) (hne:d≠ts) (hlead:wgZ σ.env r ts S) (hrm:rowsOfL row.els=[]) (hLm:rowsOfL L=[]) (hdm:(rowsOfL σ.dfr).contains r=false)
  (hxe:exE xs [(.t d,.v (.slc r 0 (n+L.length))),(.h r,.r (some { row with els:=row.els++L })),(.t ts,.v .any)])
  (hK:K (some (.h r::(waM (wav o.op)++wcT σ (wav o.op)++S.map .t),[.t d,.h r,.t ts])) ({ σ with env:=wdC (wdC σ.env ts .any) d (.slc r 0 (n+L.length)),heap:=wal σ.heap r { row with els:=row.els++L } }:St))
  (hcod:wg0 [] S:=by(simp only[wg0]; decide)):OpX P G ro N xs o σ K :=
 OpX.appH [] ho hcb hct hca hdst hd hel hz hs hx hL hn hre hrk hp h63 hbytes hS hSs hSd hne hlead hcod trivial (weN hrm) (weN hLm) hdm hxe (by simpa [wcP,wgw]using hK)
end
end Go.Pv

namespace Go.Pv
attribute [go_sem] PV.ren renL Row.ren clean cleanL wbP whw wmT wdq wix wcB wic wgd whF wcU wmU wgZ wgY wmY frzT frzTL St.rest
end Go.Pv

namespace Go.Pv
def woY (Hc:wac) (g:Nat->Nat) (H0:wac):wac->Prop
 | []=>True
 | (r,x)::l=>(r < 1000/\waa Hc (g r)=some (x.ren g)/\refsInL H0 x.els)/\woY Hc g H0 l
def wfp (g:Nat->Nat) (r:Nat):wac->Prop
 | []=>True
 | (s,_)::l=>(g r=g s->r=s)/\wfp g r l
def wd5 (g:Nat->Nat):wac->Prop
 | []=>True
 | (r,_)::l=>wfp g r l/\wd5 g l
def woZ (Hc H:wac) (g ρ:Nat->Nat) (H0:wac):wac->Prop
 | []=>True
 | (r,x)::l=>((if r < 1000 then match waa H r with
   | some y=>ρ r=g r/\x.k=y.k/\(x.k=0\/x.els.length=y.els.length)
   | none=>False
  else waa Hc (ρ r)=none/\1000<=ρ r)/\refsInL H0 x.els/\cleanL x.els)/\woZ Hc H g ρ H0 l
def whg (H':wac):wac->Prop
 | []=>True
 | (r,_)::l=>(waa H' r).isSome=true/\whg H' l
def war:List (Nat×Nat)->Nat->Nat
 | [],s=>s
 | (a,b)::l,s=>if a=s then b else war l s
theorem waK:∀ {H:wac} {r:Nat} {x:Row},waa H r=some x->(r,x)∈H
 | (s,y)::l,r,x,h=>by
  simp only[waa]at h
  split at h
  ·rename_i e; subst e; simp only[Option.some.injEq]at h; subst h; simp
  ·exact List.mem_cons_of_mem _ (waK h)
theorem wiz {Hc:wac} {g:Nat->Nat} {H0:wac}:∀ {l:wac},woY Hc g H0 l->∀ r x,(r,x)∈l->r < 1000/\waa Hc (g r)=some (x.ren g)/\refsInL H0 x.els
 | (s,y)::l,h,r,x,hm=>by
  rcases List.mem_cons.1 hm with hm | hm
  ·cases hm; exact h.1
  ·exact wiz h.2 r x hm
theorem wjN {g:Nat->Nat} {r:Nat}:∀ {l:wac},wfp g r l->∀ s x,(s,x)∈l->g r=g s->r=s
 | (t,y)::l,h,s,x,hm=>by
  rcases List.mem_cons.1 hm with hm | hm
  ·cases hm; exact h.1
  ·exact wjN h.2 s x hm
theorem wd6 {g:Nat->Nat}:∀ {l:wac},wd5 g l->∀ r s x y,(r,x)∈l->(s,y)∈l->g r=g s->r=s
 | (t,z)::l,h,r,s,x,y,hr,hs,he=>by
  rcases List.mem_cons.1 hr with hr | hr <;> rcases List.mem_cons.1 hs with hs | hs
  ·cases hr; cases hs; rfl
  ·cases hr; exact wjN h.1 s y hs he
  ·cases hs; exact(wjN h.1 r x hr he.symm).symm
  ·exact wd6 h.2 r s x y hr hs he
theorem Hand.of {σ:St} {H:wac} {g:Nat->Nat} (h:woY σ.heap g H H) (hi:wd5 g H):Hand σ H g :=
 ⟨fun r x hx=>(wiz h r x (waK hx)).1,fun r x hx=>(wiz h r x (waK hx)).2.1,fun r s x y hx hy=>wd6 hi r s x y (waK hx) (waK hy),fun r x hx=>(wiz h r x (waK hx)).2.2⟩
theorem wiA {Hc H : wac} {g ρ : Nat → Nat} {H0 : wac} : ∀ {l : wac}, woZ Hc H g ρ H0 l → ∀ r x, (r, x) ∈ l → (if r < 1000 then match waa H r with
      | some y=>ρ r=g r/\x.k=y.k/\(x.k=0\/x.els.length=y.els.length)
      | none=>False
    else waa Hc (ρ r)=none/\1000<=ρ r)/\refsInL H0 x.els/\cleanL x.els
  | (s,y)::l,h,r,x,hm=>by
    rcases List.mem_cons.1 hm with hm | hm
    · cases hm; exact h.1
    · exact wiA h.2 r x hm
theorem wge {H':wac}:∀ {l:wac},whg H' l->∀ r x,(r,x)∈l->(waa H' r).isSome=true
 | (s,y)::l,h,r,x,hm=>by
  rcases List.mem_cons.1 hm with hm | hm
  ·cases hm; exact h.1
  ·exact wge h.2 r x hm
theorem Back.of {σ:St} {H H':wac} {g ρ:Nat->Nat} (h:woZ σ.heap H g ρ H' H') (ha:whg H' H) (hi:wd5 ρ H'):Back σ H H' g ρ:=by
 refine⟨fun r x hx hlt=>?_,fun r x hx=>Option.isSome_iff_exists.1 (wge ha r x (waK hx)),fun r x hx hge=>?_,fun r s x y hx hy=>wd6 hi r s x y (waK hx) (waK hy),fun r x hx=>(wiA h r x (waK hx)).2⟩
 ·have:=(wiA h r x (waK hx)).1
  rw[if_pos hlt]at this
  split at this
  ·rename_i y hy; exact⟨y,hy,this.1,this.2.1,fun hk=>this.2.2.resolve_left (by have:=this.2.1; omega)⟩
  ·exact this.elim
 ·have:=(wiA h r x (waK hx)).1
  rw[if_neg (by omega)]at this
  exact this
attribute [go_sem] woY wfp wd5 woZ whg war
end Go.Pv

namespace Go.Pv
theorem bind_some {α β:Type} {x:Option α} {f:α->Option β} {r:β} (h:x.bind f=some r):∃ y,x=some y/\f y=some r:=by
 cases x with
 | none=>cases h
 | some y=>exact⟨y,rfl,h⟩
def idx {α:Type} (l:List α) (i:Int):Option α:=if 0<=i then l[i.toNat]? else none
theorem wsv {α:Type} {l:List α} {i:Int} {x:α} (h:idx l i=some x):0<=i/\i < l.length/\l[i.toNat]? = some x/\i.toNat < l.length:=by
 unfold idx at h
 split at h
 ·rename_i hi
  obtain⟨h1,_⟩:=List.getElem?_eq_some_iff.1 h
  exact⟨hi,by omega,h,h1⟩
 ·cases h
def wff {S X:Type} (f:S->Option (S ⊕ X)):Nat->S->Option X
 | 0,_=>none
 | n+1,s=>(f s).bind fun o=>match o with
  | .inl s'=>wff f n s'
  | .inr x=>some x
theorem weT {S X:Type} (f:S->Option (S ⊕ X)) (n:Nat) (s:S):wff f (n+1) s=(f s).bind fun o=>match o with
  | .inl s'=>wff f n s'
  | .inr x=>some x:=rfl
theorem wjO {S X:Type} {f:S->Option (S ⊕ X)}:∀ {n m:Nat} {s:S} {x:X},n<=m->wff f n s=some x->wff f m s=some x
 | 0,_,_,_,_,h=>by cases h
 | n+1,0,_,_,h,_=>by omega
 | n+1,m+1,s,x,h,h'=>by
  rw[weT]at h' ⊢
  obtain⟨o,h1,h2⟩:=bind_some h'
  rw[h1]
  cases o with
  | inl s'=>exact wjO (n:=n) (m:=m) (by omega) h2
  | inr y=>exact h2
open Classical in
noncomputable def iter {S X:Type} (f:S->Option (S ⊕ X)) (s:S):Option X :=
 if h:∃ x n,wff f n s=some x then some (Classical.choose h)else none
theorem wiB {S X:Type} {f:S->Option (S ⊕ X)} {s:S} {x:X} (h:iter f s=some x):∃ n,wff f n s=some x:=by
 unfold iter at h
 split at h
 ·rename_i hx
  obtain⟨n,hn⟩:=Classical.choose_spec hx
  cases h
  exact⟨n,hn⟩
 ·cases h
theorem wlD {S X:Type} {f:S->Option (S ⊕ X)} {s:S} {x:X} {n:Nat} (h:wff f n s=some x):iter f s=some x:=by
 have hx:∃ x n,wff f n s=some x:=⟨x,n,h⟩
 unfold iter
 rw[dif_pos hx]
 obtain⟨m,hm⟩:=Classical.choose_spec hx
 have h1:=wjO (Nat.le_max_left n m) h
 have h2:=wjO (Nat.le_max_right n m) hm
 rw[h1]at h2
 exact h2.symm
theorem waF {S X:Type} {f:S->Option (S ⊕ X)} {s s':S} {x:X} (h:f s=some (.inl s')) (h':iter f s'=some x):iter f s=some x:=by
 obtain⟨n,hn⟩:=wiB h'
 exact wlD (n:=n+1) (by rw[weT,h]; exact hn)
theorem waC {S X:Type} {f:S->Option (S ⊕ X)} {s:S} {x:X} (h:f s=some (.inr x)):iter f s=some x :=
 wlD (n:=1) (by rw[weT,h]; rfl)
def wab {α:Type} (f:α->PD) (l:List α):List PD:=l.map f
@[go_sem] theorem lenc_length {α:Type} (f:α->PD) (l:List α):(wab f l).length=l.length:=by simp[wab]
@[go_sem] theorem lenc_get {α:Type} (f:α->PD) (l:List α) (i:Nat):(wab f l)[i]? = (l[i]?).map f:=by simp[wab]
@[go_sem] theorem lenc_drop {α:Type} (f:α->PD) (l:List α) (n:Nat):(wab f l).drop n=wab f (l.drop n):=by simp[wab,List.map_drop]
@[go_sem] theorem lenc_take {α:Type} (f:α->PD) (l:List α) (n:Nat):(wab f l).take n=wab f (l.take n):=by simp[wab,List.map_take]
@[go_sem] theorem lenc_app {α:Type} (f:α->PD) (l m:List α):dl (wab f l)++dl (wab f m)=dl (wab f (l++m)):=by simp[dl,wab]
theorem wof {α:Type} {f:α->PD} {L:List α} {i:Nat} {x:PD} {y:α} (h:x=f y):dl ((wab f L).set i x)=dl (wab f (L.set i y)):=by subst h; simp only[wab,List.map_set]
theorem wdj {α:Type} (f:α->PD) (l:List α) (x:α):dl (wab f l)++[PV.d (f x)]=dl (wab f (l++[x])):=by simp[dl,wab]
theorem wdM {α:Type} (f:α->PD) (l:List α) (i:Nat) (x:α):(wab f l).set i (f x)=wab f (l.set i x):=by simp[wab,List.map_set]
theorem weu {α:Type} (f:α->PD) (n:Nat) (x:α):List.replicate n (f x)=wab f (List.replicate n x):=by simp[wab]
theorem wd7 {α:Type} (f:α->PD):wab f []=[]:=rfl
theorem wog {α:Type} (f:α->PD) (x:α) (l:List α):wab f (x::l)=f x::wab f l:=rfl
@[go_sem] theorem lenc_snoc_int (k:IntKind) (l:List Int) (x:Int):dl (wab (PD.int k) l)++[PV.d (.int k x)]=dl (wab (PD.int k) (l++[x])):=wdj _ l x
@[go_sem] theorem lenc_set_int (k:IntKind) (l:List Int) (i:Nat) (x:Int):(wab (PD.int k) l).set i (.int k x)=wab (PD.int k) (l.set i x):=wdM _ l i x
@[go_sem] theorem lenc_snoc2_int (k:IntKind) (l:List Int) (x y:Int):dl (wab (PD.int k) l)++[PV.d (.int k x),PV.d (.int k y)]=dl (wab (PD.int k) (l++[x,y])):=by simp[dl,wab]
@[go_sem] theorem lenc_snoc_bool (l:List Bool) (x:Bool):dl (wab PD.bool l)++[PV.d (.bool x)]=dl (wab PD.bool (l++[x])):=wdj _ l x
@[go_sem] theorem lenc_set_bool (l:List Bool) (i:Nat) (x:Bool):(wab PD.bool l).set i (.bool x)=wab PD.bool (l.set i x):=wdM _ l i x
@[go_sem] theorem lenc_rep_bool (n:Nat) (x:Bool):List.replicate n (PD.bool x)=wab PD.bool (List.replicate n x):=weu _ n x
@[go_sem] theorem lenc_snoc_str (l:List ByteArray) (x:ByteArray):dl (wab PD.str l)++[PV.d (.str x)]=dl (wab PD.str (l++[x])):=wdj _ l x
@[go_sem] theorem lenc_set_str (l:List ByteArray) (i:Nat) (x:ByteArray):(wab PD.str l).set i (.str x)=wab PD.str (l.set i x):=wdM _ l i x
@[go_sem] theorem lenc_rep_str (n:Nat) (x:ByteArray):List.replicate n (PD.str x)=wab PD.str (List.replicate n x):=weu _ n x
theorem wrK (l:List Int):ints l=wab (PD.int .i64) l:=rfl
def wbb {α:Type} (k:Nat) (f:α->PD) (l:List α):PD:=.imm k (wab f l)
@[go_sem] theorem slenc_eq {α:Type} (k:Nat) (f:α->PD) (l:List α):wbb k f l=.imm k (wab f l):=rfl
@[go_sem] theorem lenc_snoc_slc {α:Type} (k:Nat) (f:α->PD) (l:List (List α)) (x:List α):dl (wab (wbb k f) l)++[PV.d (.imm k (wab f x))]=dl (wab (wbb k f) (l++[x])):=wdj _ l x
@[go_sem] theorem lenc_set_slc {α:Type} (k:Nat) (f:α->PD) (l:List (List α)) (i:Nat) (x:List α):(wab (wbb k f) l).set i (.imm k (wab f x))=wab (wbb k f) (l.set i x):=wdM _ l i x
mutual
def leD:PD->PD->Prop
 | .nilslice,.imm _ []=>True
 | .imm k l,.imm k' m=>k=k'/\leDL l m
 | .agg l,.agg m=>leDL l m
 | x,y=>x=y
def leDL:List PD->List PD->Prop
 | [],[]=>True
 | x::l,y::m=>leD x y/\leDL l m
 | _,_=>False
end
mutual
theorem leD_refl:∀ x:PD,leD x x
 | .imm k l=>by simp only[leD]; exact⟨trivial,leDL_refl l⟩
 | .agg l=>by simp only[leD]; exact leDL_refl l
 | .bool _=>by simp only[leD]
 | .int _ _=>by simp only[leD]
 | .str _=>by simp only[leD]
 | .nilptr=>by simp only[leD]
 | .nilslice=>by simp only[leD]
 | .nilmap=>by simp only[leD]
 | .nilfunc=>by simp only[leD]
 | .niliface=>by simp only[leD]
 | .fn _=>by simp only[leD]
 | .iface _ _=>by simp only[leD]
theorem leDL_refl:∀ l:List PD,leDL l l
 | []=>by simp only[leDL]
 | x::l=>by simp only[leDL]; exact⟨leD_refl x,leDL_refl l⟩
end
theorem wjP:∀ {l m:List PD},leDL l m->l.length=m.length/\∀ i (hi:i < l.length) (hi':i < m.length),leD l[i] m[i]
 | [],[],_=>⟨rfl,fun i hi=>by simp at hi⟩
 | x::l,y::m,h=>by
  simp only[leDL]at h
  obtain⟨h1,h2⟩:=wjP h.2
  refine⟨by simp[h1],fun i hi hi'=>?_⟩
  cases i with
  | zero=>exact h.1
  | succ i=>simpa using h2 i (by simpa using hi) (by simpa using hi')
 | [],_::_,h=>by simp[leDL]at h
 | _::_,[],h=>by simp[leDL]at h
theorem RepD.le {w:World} {ok:Nat->Nat->Prop} {v:Value} {x:PD} (h:RepD w ok v x):∀ {y:PD},leD x y->RepD w ok v y:=by
 induction h with
 | bool b=>intro y h; cases y <;> simp only[leD,reduceCtorEq,PD.bool.injEq]at h; subst h; exact .bool _
 | int k n=>intro y h; cases y <;> simp only[leD,reduceCtorEq,PD.int.injEq]at h; obtain⟨rfl,rfl⟩:=h; exact .int _ _
 | str s=>intro y h; cases y <;> simp only[leD,reduceCtorEq,PD.str.injEq]at h; subst h; exact .str _
 | nilptr=>intro y h; cases y <;> simp only[leD,reduceCtorEq]at h; exact .nilptr
 | nilslice =>
  intro y h
  cases y with
  | nilslice=>exact .nilslice
  | imm k l=>cases l with
   | nil=>exact .imm0 k
   | cons=>simp[leD]at h
  | _=>simp[leD]at h
 | nilmap=>intro y h; cases y <;> simp only[leD,reduceCtorEq]at h; exact .nilmap
 | nilfunc=>intro y h; cases y <;> simp only[leD,reduceCtorEq]at h; exact .nilfunc
 | niliface=>intro y h; cases y <;> simp only[leD,reduceCtorEq]at h; exact .niliface
 | fn f=>intro y h; cases y <;> simp only[leD,reduceCtorEq,PD.fn.injEq]at h; subst h; exact .fn _
 | iface t hv ih=>intro y h; cases y <;> simp only[leD,reduceCtorEq,PD.iface.injEq]at h; obtain⟨rfl,rfl⟩:=h; exact .iface _ hv
 | agg hs _ hf ih =>
  intro y h
  cases y with
  | agg m =>
   simp only[leD]at h
   obtain⟨h1,h2⟩:=wjP h
   exact .agg (by rw[hs,h1]) (fun i hi=>ih i (h1▸hi) (h2 i (h1▸hi) hi)) (fun i hi=>hf i (h1▸hi))
  | _=>simp[leD]at h
 | imm0 k =>
  intro y h
  cases y with
  | imm k' m =>
   simp only[leD]at h
   obtain⟨rfl,h⟩:=h
   obtain⟨h1,_⟩:=wjP h
   have:m=[]:=by simpa using h1.symm
   subst this; exact .imm0 _
  | _=>simp[leD]at h
 | @imm a n cap k els F ha hb hn hcap _ hk hf hc hz ih =>
  intro y h
  cases y with
  | imm k' m =>
   simp only[leD]at h
   obtain⟨rfl,h⟩:=h
   obtain⟨h1,h2⟩:=wjP h
   exact .imm F (fun hne=>ha (fun e=>hne (by subst e; simpa using h1.symm))) (fun hne=>hb (fun e=>hne (by subst e; simpa using h1.symm))) (by rw[hn,h1]) hcap (fun i hi=>ih i (h1▸hi) (h2 i (h1▸hi) hi)) (fun i hi=>hk i (h1▸hi)) (fun i hi=>hf i (h1▸hi)) (fun i hi=>hc i (h1▸hi)) (fun i hi=>hz i (h1▸hi))
  | _=>simp[leD]at h
mutual
def leV:PV->PV->Prop
 | _,.any=>True
 | .d x,.d y=>leD x y
 | .b x,.b y=>leD x y
 | .d x,.b y=>leD x y
 | .tuple l,.tuple m=>leVL l m
 | x,y=>x=y
def leVL:List PV->List PV->Prop
 | [],[]=>True
 | x::l,y::m=>leV x y/\leVL l m
 | _,_=>False
end
theorem wjQ:∀ {l m:List PV},leVL l m->l.length=m.length/\∀ i (hi:i < l.length) (hi':i < m.length),leV l[i] m[i]
 | [],[],_=>⟨rfl,fun i hi=>by simp at hi⟩
 | x::l,y::m,h=>by
  simp only[leVL]at h
  obtain⟨h1,h2⟩:=wjQ h.2
  refine⟨by simp[h1],fun i hi hi'=>?_⟩
  cases i with
  | zero=>exact h.1
  | succ i=>simpa using h2 i (by simpa using hi) (by simpa using hi')
 | [],_::_,h=>by simp[leVL]at h
 | _::_,[],h=>by simp[leVL]at h
section
variable {P:Program} {G:List (Nat×PD)} {ro:Option Nat} {N:Nat} {σ τ:St} {w:World} {X:Nat->Nat->Prop} {φ:Nm} {H H':wac}
theorem RepV.le {v:Value} {p:PV} (h:RepV w X φ H v p):∀ {q:PV},leV p q->RepV w X φ H v q:=by
 induction h with
 | any v=>intro q h; cases q <;> simp only[leV,reduceCtorEq]at h; exact .any _
 | d hd=>intro q h; cases q <;> simp only[leV,reduceCtorEq]at h <;> first | exact .any _ | exact .d (hd.le h) | exact(RepV.d (hd.le h)).toB
 | b hd=>intro q h; cases q <;> simp only[leV,reduceCtorEq]at h <;> first | exact .any _ | exact .b (hd.le h)
 | mp h1 h2 h3=>intro q h; cases q <;> simp only[leV,reduceCtorEq,PV.mp.injEq]at h <;> first | exact .any _ | (subst h; exact .mp h1 h2 h3)
 | ptr h1 h2 h3=>intro q h; cases q <;> simp only[leV,reduceCtorEq,PV.ptr.injEq]at h <;> first | exact .any _ | (obtain⟨rfl,rfl,rfl⟩:=h; exact .ptr h1 h2 h3)
 | dptr hd hi=>intro q h; cases q <;> simp only[leV,reduceCtorEq,PV.dptr.injEq]at h <;> first | exact .any _ | (obtain⟨rfl,rfl,rfl,rfl⟩:=h; exact .dptr hd hi)
 | bptr hd hi=>intro q h; cases q <;> simp only[leV,reduceCtorEq,PV.bptr.injEq]at h <;> first | exact .any _ | (obtain⟨rfl,rfl,rfl,rfl⟩:=h; exact .bptr hd hi)
 | glob g=>intro q h; cases q <;> simp only[leV,reduceCtorEq,PV.glob.injEq]at h <;> first | exact .any _ | (subst h; exact .glob _)
 | val hf=>intro q h; cases q <;> simp only[leV,reduceCtorEq,PV.val.injEq]at h <;> first | exact .any _ | (subst h; exact .val hf)
 | slc h1 h2 h7 h3 h4 h5 h6=>intro q h; cases q <;> simp only[leV,reduceCtorEq,PV.slc.injEq]at h <;> first | exact .any _ | (obtain⟨rfl,rfl,rfl⟩:=h; exact .slc h1 h2 h7 h3 h4 h5 h6)
 | slc0 h1 h2 h7 h3=>intro q h; cases q <;> simp only[leV,reduceCtorEq,PV.slc.injEq]at h <;> first | exact .any _ | (obtain⟨rfl,rfl,rfl⟩:=h; exact .slc0 h1 h2 h7 h3)
 | func hs hv ih=>intro q h; cases q <;> simp only[leV,reduceCtorEq,PV.func.injEq]at h <;> first | exact .any _ | (obtain⟨rfl,rfl⟩:=h; exact .func hs hv)
 | agg hs hv hf ih=>intro q h; cases q <;> simp only[leV,reduceCtorEq,PV.agg.injEq]at h <;> first | exact .any _ | (subst h; exact .agg hs hv hf)
 | tuple hs hv ih =>
  intro q h
  cases q <;> simp only[leV,reduceCtorEq]at h
  ·exact .any _
  ·obtain⟨h1,h2⟩:=wjQ h
   exact .tuple (by rw[hs,h1]) (fun i hi=>ih i (h1▸hi) (h2 i (h1▸hi) hi))
def wmZ (H H':wac) (e:List (Nat×PV)):List (Nat×PV)->Prop
 | []=>True
 | (t,v)::l=>((leV (wam e t) v/\refsIn H' v)\/(∃ u,frzT H (wam e t)=some u/\leV u v/\∀ r∈rowsOf (wam e t),waa H' r=none))/\wmZ H H' e l
theorem woh {H H':wac} {e:List (Nat×PV)}:∀ {l:List (Nat×PV)},wmZ H H' e l->∀ t,wam l t=.any\/(leV (wam e t) (wam l t)/\refsIn H' (wam l t))\/(∃ u,frzT H (wam e t)=some u/\leV u (wam l t)/\∀ r∈rowsOf (wam e t),waa H' r=none)
 | [],_,_=>.inl rfl
 | (s,v)::l,h,t=>by
  simp only[wam]
  split
  ·rename_i hs; subst hs; exact .inr h.1
  ·exact woh h.2 t
theorem Sub.cv (h2:wc9 τ.heap σ.heap) (h1:wmZ σ.heap τ.heap σ.env τ.env) (h4:wcw τ.heap τ.heap) (h5:σ.dfr=τ.dfr/\refsInL τ.heap τ.dfr/\σ.gh=τ.gh):Sub G N σ τ:=by
 intro P B a w φ hr
 refine⟨φ,Rep.of_sit (h5.2.2▸hr.sit.less (wbV h2) (weC h4)) hr.size (fun t=>?_) (h5.2.2▸((h5.1▸hr.dfr).less (wbV h2) h5.2.1))⟩
 rcases woh h1 t with h | ⟨h,h'⟩ | ⟨u,h,hu,h'⟩
 ·rw[h]; exact .any _
 ·exact((hr.env t).le h).less (wbV h2) h'
 ·exact(wnN hr.heap (wbV h2) (hr.env t) h' h).le hu
theorem PureFn.intro2 {f:FuncId} {fn:Func} {c:Code} {args:List PV} {res:PV} (hf:P.funcs[f]? = some fn) (hb:fn.body=some c) (hN:args.length<=fn.ntmps)
  (h:AWp P G none fn.ntmps c ⟨wcm 0 args,[],[],none⟩ (Fin P G fn fun p H=>∃ u,frzT H p=some u/\leV u res)):PureFn P G f args res:=by
 intro B φ vs h0 h1 h2 h3
 refine(Fn.intro hf hb hN h B φ vs h0 h1 h2 h3).mono ?_
 rintro e w' ⟨v,p,H',g',φ',he,⟨u,hu,hle⟩,hv,hs⟩
 exact⟨v,res,[],g',φ',he,⟨rfl,rfl⟩,(wlx hs.heap hv hu).le hle,hs.drop⟩
def wfg (σ:St) (ds:List (Option Tmp)) (j:Nat):Bool :=
 match ds[j]? with
 | some (some d)=>match wam σ.env d with
  | .tuple []=>true
  | _=>false
 | _=>false
def wjR (P:Program) (G:List (Nat×PD)) (ro:Option Nat) (N:Nat) (ds:List (Option Tmp)) (o:Oper) (σ:St) (K:St->Prop):Prop :=
 match o.guard with
 | none=>wjc P G ro N o σ K
 | some (j,want)=>match wer σ ds j with
  | some b=>(b=want->wjc P G ro N o σ K)/\(b≠want->wao N o.dst/\K (σ.put o.dst (.tuple [])))
  | none=>wfg σ ds j=true/\wao N o.dst/\K (σ.put o.dst (.tuple []))
variable {o:Oper} {K:St->Prop} {ops:Array Oper}
theorem whW:RepV w X φ H undef (.tuple []):=.tuple rfl (fun i hi=>by simp at hi)
theorem wqi {v:Value} (h:RepV w X φ H v (.tuple [])):v=undef:=by
 cases h with
 | tuple hs =>
  have:=Array.eq_empty_of_size_eq_zero (by simpa using hs)
  rw[this]; rfl
theorem Oper.wpIn_off {F:Fence} {n:Nat} {P:Program} {o:Oper} {a:Act} {w:World} {K K':Act->World->Prop} {Q Q':Exit->Act->World->Prop} (h:∀ a w,K a w->K' a w) (hq:∀ e a w,e≠.normal->Q e a w->Q' e a w)
  (hh:o.wpIn F n P a w K Q):o.wpIn F n P a w K' Q':=by
 refine⟨hh.1,?_⟩
 have hh:=hh.2
 generalize (o.semAt F.round a.eval).run P w=r at *
 cases r with
 | ok x w' =>
  cases x <;> simp only[Oper.uponIn]at hh ⊢ <;>
   first
    | exact h _ _ hh
    | exact⟨hh.1,CallsIn.mono hh.2 (fun e w'' he=>by cases e <;> first | exact h _ _ he | exact hq _ _ _ (by simp) he | (obtain⟨a,w,he⟩:=he; exact⟨a,w,hq _ _ _ (by simp) he⟩))⟩
    | exact⟨hh.1,RowsIn.mono hh.2 (fun _ _ he=>h _ _ he)⟩
    | exact⟨hh.1,RoundIn.mono hh.2 (fun e w'' he=>by cases e <;> first | exact h _ _ he | exact hq _ _ _ (by simp) he | (obtain⟨a,w,he⟩:=he; exact⟨a,w,hq _ _ _ (by simp) he⟩))⟩
 | halt x w'=>cases x <;> simp only[Oper.uponIn]at hh ⊢ <;> first | exact hh | exact hq _ _ _ (by simp) hh
theorem wpl {B:Base P} {a:Act} (hr:Rep G B N σ a w φ) {j:Nat} (h:wfg σ (wbq ops) j=true) (want:Bool):(yielded ops a.tmps j == some want)=false:=by
 unfold wfg at h
 split at h <;> try (simp at h; done)
 rename_i d hds
 have hod:∃ o,ops[j]? = some o/\o.dst=some d:=by
  simp only[wbq,List.getElem?_map,Option.map_eq_some_iff]at hds
  obtain⟨o,h1,h2⟩:=hds
  exact⟨o,by simpa using h1,h2⟩
 obtain⟨o,ho,hd⟩:=hod
 split at h <;> try (simp at h; done)
 rename_i hb
 have hv:=hr.env d
 rw[hb]at hv
 have hv:=wqi hv
 have hy:yielded ops a.tmps j=none:=by
  unfold yielded
  rw[ho]
  simp only[Option.bind_some,hd]
  rcases Nat.lt_or_ge d a.tmps.size with h | h
  ·rw[Array.getElem?_eq_getElem h]
   have:a.tmps[d]=undef:=by simpa [Array.getD,h]using hv
   rw[this]; rfl
  ·rw[Array.getElem?_eq_none h]
 rw[hy]; rfl
theorem AOps.skip {rest:List Oper} {Q:St->Prop} {j:Nat} {want:Bool} (hg:o.guard=some (j,want)) (hn:wfg σ (wbq ops) j=true) (hd:wao N o.dst) (h:AOps P G ro N ops rest (σ.put o.dst (.tuple [])) Q) :
  AOps P G ro N ops (o::rest) σ Q:=by
 intro B hro a w φ hr Q' hq
 have hy:=wpl hr hn want
 simp only[wpL,Region.wanted,hg,hy,Bool.false_eq_true,if_false]
 exact⟨fun _ _=>trivial,h B hro _ w φ (hr.put hd whW) Q' hq⟩
theorem AOps.guardedU {o:Oper} {rest:List Oper} {Q:St->Prop} {j:Nat} {want b:Bool} (hg:o.guard=some (j,want)) (hb:wer σ (wbq ops) j=some b)
  (h1:b=want->OpT P G ro N o σ (fun σ'=>AOps P G ro N ops rest σ' Q)) (hd:wao N o.dst) (h2:b≠want->AOps P G ro N ops rest (σ.put o.dst (.tuple [])) Q):AOps P G ro N ops (o::rest) σ Q:=by
 intro B hro a w φ hr Q' hq
 have hy:=wi9 hr hb
 by_cases h:b=want
 ·simp only[wpL,Region.wanted,hg,hy,h,beq_self_eq_true,if_true]
  exact h1 h B hro a w φ hr _ _ fun σ' a' w' φ' h1 h2=>h1 B hro a' w' φ' h2 Q' hq
 ·have:(some b == some want)=false:=by simp[h]
  simp only[wpL,Region.wanted,hg,hy,this,Bool.false_eq_true,if_false]
  exact⟨fun _ _=>trivial,h2 h B hro _ w φ (hr.put hd whW) Q' hq⟩
theorem AOps.consU {rest:List Oper} {Q:St->Prop} (h:∀ K:St->Prop,(∀ σ,AOps P G ro N ops rest σ Q->K σ)->wjR P G ro N (wbq ops) o σ K):AOps P G ro N ops (o::rest) σ Q:=by
 have h:=h _ (fun _ h=>h)
 unfold wjR at h
 split at h
 ·rename_i hg; exact AOps.step hg (OpT.vc h)
 ·rename_i j want hg
  split at h
  ·rename_i b hb
   by_cases hbw:b=want
   ·exact AOps.guardedU hg hb (fun hb=>OpT.vc (h.1 hb)) (h.1 hbw).1 (fun hb=>(h.2 hb).2)
   ·exact AOps.guardedU hg hb (fun hb=>OpT.vc (h.1 hb)) (h.2 hbw).1 (fun hb=>(h.2 hb).2)
  ·exact AOps.skip hg h.1 h.2.1 h.2.2
theorem AOps.cut {l:List Oper} {Q:St->Prop} (n:Nat) (τ:St) (h1:AOps P G ro N ops (l.take n) σ (fun σ'=>Sub G N σ' τ)) (h2:AOps P G ro N ops (l.drop n) τ Q):AOps P G ro N ops l σ Q:=by
 have key:∀ (l m:List Oper) (Q':Exit->Act->World->Prop) (a:Act) (w:World),wpL (Fw ro) 0 P ops (fun e a w=>match e with | .normal=>wpL (Fw ro) 0 P ops Q' m a w | e=>Q' e a w) l a w->wpL (Fw ro) 0 P ops Q' (l++m) a w:=by
  intro l
  induction l with
  | nil=>intro m Q' a w h; exact h
  | cons o l ih =>
   intro m Q' a w h
   simp only[List.cons_append,wpL]at h ⊢
   split at h
   ·rename_i hw
    rw[if_pos hw]
    exact Oper.wpIn_off (fun a w h=>ih m Q' a w h) (fun e a w hne h=>by
     cases e <;> first | exact absurd rfl hne | exact h) h
   ·rename_i hw
    rw[if_neg hw]
    exact⟨h.1,ih m Q' _ w h.2⟩
 intro B hro a w φ hr Q' hq
 rw[<-List.take_append_drop n l]
 refine key _ _ _ _ _ (h1 B hro a w φ hr _ fun σ' a' w' φ' hs hr'=>?_)
 obtain⟨φ'',hr''⟩:=hs P B a' w' φ' hr'
 exact h2 B hro a' w' φ'' hr'' Q' hq
mutual
theorem leV_refl:∀ p:PV,leV p p
 | .any=>by simp only[leV]
 | .d x=>by simp only[leV]; exact leD_refl x
 | .b x=>by simp only[leV]; exact leD_refl x
 | .ptr ..=>by simp only[leV]
 | .dptr ..=>by simp only[leV]
 | .bptr ..=>by simp only[leV]
 | .glob _=>by simp only[leV]
 | .val _=>by simp only[leV]
 | .slc ..=>by simp only[leV]
 | .mp _=>by simp only[leV]
 | .func ..=>by simp only[leV]
 | .agg _=>by simp only[leV]
 | .tuple l=>by
  simp only[leV]; exact leVL_refl l
theorem leVL_refl:∀ l:List PV,leVL l l
 | []=>by simp only[leVL]
 | p::l=>by simp only[leVL]; exact⟨leV_refl p,leVL_refl l⟩
end
end
attribute [go_sem] wjR wfg wrK cond_true cond_false decide_true decide_false Bool.not_true Bool.not_false Bool.or_true Bool.or_false Bool.true_or Bool.false_or Bool.and_true Bool.and_false Bool.true_and Bool.false_and Nat.zero_add Nat.add_zero Nat.zero_le true_and and_true and_self ne_eq not_false_eq_true not_true_eq_false Bool.false_eq_true false_implies true_implies forall_const
 List.length_cons List.length_nil List.toList_toArray List.getElem?_cons_zero List.getElem?_cons_succ List.set_cons_zero List.set_cons_succ List.map_cons List.map_nil List.drop_zero List.drop_succ_cons List.take_succ_cons List.take_zero List.lookup_cons List.append_nil List.nil_append List.cons_append Option.map_some Option.map_none Option.getD_some Option.getD_none Option.bind_some Option.some.injEq Option.isSome_some Option.isSome_none
end Go.Pv

namespace Go.Pv
section
variable {P:Program} {G:List (Nat×PD)} {ro:Option Nat} {N:Nat} {σ τ:St} {w w':World} {X:Nat->Nat->Prop} {φ φ':Nm} {H H':wac} {o:Oper} {K:St->Prop} {ops:Array Oper} {B:Base P} {a a':Act}
mutual
theorem refsIn_of:∀ {p:PV},(∀ r∈rowsOf p,(waa H r).isSome=true)->refsIn H p
 | .ptr r _ _,h=>by simp only[refsIn]; exact h r (by simp[rowsOf])
 | .slc r _ _,h=>by simp only[refsIn]; exact h r (by simp[rowsOf])
 | .mp r,h=>by simp only[refsIn]; exact h r (by simp[rowsOf])
 | .func _ l,h=>by simp only[refsIn]; exact refsInL_of (fun r hr=>h r (by simpa [rowsOf]using hr))
 | .agg l,h=>by simp only[refsIn]; exact refsInL_of (fun r hr=>h r (by simpa [rowsOf]using hr))
 | .tuple l,h=>by simp only[refsIn]; exact refsInL_of (fun r hr=>h r (by simpa [rowsOf]using hr))
 | .any,_=>by simp only[refsIn]
 | .d _,_=>by simp only[refsIn]
 | .b _,_=>by simp only[refsIn]
 | .dptr ..,_=>by simp only[refsIn]
 | .bptr ..,_=>by simp only[refsIn]
 | .glob _,_=>by simp only[refsIn]
 | .val _,_=>by simp only[refsIn]
theorem refsInL_of:∀ {l:List PV},(∀ r∈rowsOfL l,(waa H r).isSome=true)->refsInL H l
 | [],_=>by simp only[refsInL]
 | p::l,h=>by
  simp only[refsInL]
  exact⟨refsIn_of (fun r hr=>h r (by simp[rowsOfL,hr])),refsInL_of (fun r hr=>h r (by simp[rowsOfL,hr]))⟩
end
theorem wqj:∀ {ps:List PV},(∀ i (hi:i < ps.length),∀ r∈rowsOf ps[i],(waa H r).isSome=true)->∀ r∈rowsOfL ps,(waa H r).isSome=true:=by
 intro ps
 induction ps with
 | nil=>intro _ r hr; simp[rowsOfL]at hr
 | cons p l ih =>
  intro h r hr
  simp only[rowsOfL,List.mem_append]at hr
  rcases hr with hr | hr
  ·exact h 0 (by simp) r hr
  ·exact ih (fun i hi=>h (i+1) (by simpa using hi)) r hr
theorem Rep.refs (hr:Rep G B N σ a w φ):∀ s y,waa σ.heap s=some y->refsInL σ.heap y.els:=by
 intro s y hy
 refine refsInL_of fun r hrr=>?_
 cases hφ:φ s with
 | none=>rw[hr.heap.void s y hy hφ]at hrr; simp[rowsOfL]at hrr
 | some b =>
  exact wqj (fun i hi=>by obtain⟨v,h4⟩:=(hr.heap.rows s y b hy hφ).el i hi; exact h4.rows) r hrr
theorem Dfr.refs {m:Nat->Prop} {ds:List Deferred} {ps:List PV} (h:Dfr m w X φ H ds ps):refsInL H ps:=by
 induction h with
 | nil=>simp only[refsInL]
 | fn h1 h2 h3 _ ih=>simp only[refsInL]; exact⟨refsIn_of h3.rows,ih⟩
 | mark _ _ _ _ _ ih=>exact ih
theorem Rep.forget (hr0:Rep G B N σ a w φ) {r n:Nat} {row:Row} {dst:Option Tmp} {v:PV} (hr:Rep G B N (({ σ with heap:=wal σ.heap r row }:St).put dst (.slc r 0 n)) a' w' φ') (hn:waa σ.heap r=none)
  (hd:wao N dst) (hf:frzT (wal σ.heap r row) (.slc r 0 n)=some v):Rep G B N (σ.put dst v) a' w' φ':=by
 have hle:∀ s y,waa σ.heap s=some y->waa (wal σ.heap r row) s=some y:=fun s y h=>by
  rw[wai,if_neg (fun e=>by subst e; rw[hn]at h; cases h)]; exact h
 have hheap:((({ σ with heap:=wal σ.heap r row }:St).put dst (.slc r 0 n))).heap=wal σ.heap r row:=by cases dst <;> rfl
 have hgh:((({ σ with heap:=wal σ.heap r row }:St).put dst (.slc r 0 n))).gh=σ.gh:=by cases dst <;> rfl
 have hdfr:((({ σ with heap:=wal σ.heap r row }:St).put dst (.slc r 0 n))).dfr=σ.dfr:=by cases dst <;> rfl
 have hsit:=hr.sit
 rw[hheap,hgh]at hsit
 have hs:=hsit.less hle hr0.refs
 have hd':=hr.dfr
 rw[hheap,hgh,hdfr]at hd'
 refine Rep.of_sit (by cases dst <;> exact hs) hr.size (fun t=>?_) (by cases dst <;> exact hd'.less hle hr0.dfr.refs)
 have he:=hr.env t
 rw[hheap]at he
 have hh2:(σ.put dst v).heap=σ.heap:=by cases dst <;> rfl
 rw[hh2]
 cases dst with
 | none=>exact he.less hle (refsIn_of (hr0.env t).rows)
 | some d =>
  simp only[St.put,wfk]at he ⊢
  split at he
  ·rename_i h; rw[if_pos h]
   exact wnN hsit.heap hle he (fun s hs=>by simp only[rowsOf,List.mem_singleton]at hs; subst hs; exact hn) hf
  ·rename_i h; rw[if_neg h]
   exact he.less hle (refsIn_of (hr0.env t).rows)
def wjS (P:Program) (σ:St) (op:Op):Option PV :=
 match op with
 | .buildSlice t len parts=>match wbO P t with
  | some (_,z)=>if waf z=true/\weB 0 parts.toList=true/\parts.toList.length=len/\wgb z.size (wau σ (parts.toList.map (·.2)))=true/\len*z.size<=16777216 then
    (wfm (wau σ (parts.toList.map (·.2)))).map fun l=>.d (.imm z.size l)else none
  | none=>none
 | _=>none
theorem woi (σ:St):∀ l:List Operand,(wau σ l).length=l.length
 | []=>rfl
 | x::l=>by simp[wau,woi σ l]
theorem OpT.litD {v:PV} (h:wjS P σ o.op=some v) (hd:wao N o.dst) (hK:K (σ.put o.dst v)):OpT P G ro N o σ K:=by
 unfold wjS at h
 split at h <;> try (simp at h; done)
 rename_i t len parts ho
 split at h <;> try (simp at h; done)
 rename_i e z hse
 split at h <;> try (simp at h; done)
 rename_i hc
 obtain⟨h1,h2,h3,h4,h5⟩:=hc
 simp only[Option.map_eq_some_iff]at h
 obtain⟨l,hl,rfl⟩:=h
 obtain⟨y,hy,hde,he⟩:=wda hse
 obtain⟨zv,h6,h7,h8⟩:=wfH h1
 intro B hro a w φ hr next Q hn
 refine OpT.buildSlice (K:=fun τ=>τ=(({ σ with heap:=wal σ.heap (fresh σ.heap) { e,k:=z.size,els:=wau σ (parts.toList.map (·.2)) } }:St).put o.dst (.slc (fresh σ.heap) 0 len))) ho hy hde he h6 h7 h8 h2 h3 h4 h5 hd (weR _) (wgT _) rfl B hro a w φ hr next Q ?_
 rintro τ a' w' φ' rfl hr'
 refine hn _ _ _ φ' hK (hr.forget hr' (weR _) hd ?_)
 have hlen:l.length=len:=by
  have:=congrArg List.length (whr _ _ hl)
  simp only[List.length_map,woi]at this
  rw[<-h3]; simpa using this.symm
 simp only[frzT,frz,wai,if_true,hl,Option.map_some,List.drop_zero]
 rw[List.take_of_length_le (by omega)]
def wlE (P:Program) (N:Nat) (o:Oper) (σ:St) (K:St->Prop):Prop :=
 wao N o.dst/\match wjS P σ o.op with
  | some v=>K (σ.put o.dst v)
  | none=>False
def wo0 (P:Program) (N:Nat) (ds:List (Option Tmp)) (o:Oper) (σ:St) (K:St->Prop):Prop :=
 match o.guard with
 | none=>wlE P N o σ K
 | some (j,want)=>match wer σ ds j with
  | some b=>(b=want->wlE P N o σ K)/\(b≠want->wao N o.dst/\K (σ.put o.dst (.tuple [])))
  | none=>wfg σ ds j=true/\wao N o.dst/\K (σ.put o.dst (.tuple []))
theorem OpT.vcL (h:wlE P N o σ K):OpT P G ro N o σ K:=by
 obtain⟨hd,h⟩:=h
 split at h
 ·rename_i v hv; exact OpT.litD hv hd h
 ·exact h.elim
theorem AOps.consL {rest:List Oper} {Q:St->Prop} (h:∀ K:St->Prop,(∀ σ,AOps P G ro N ops rest σ Q->K σ)->wo0 P N (wbq ops) o σ K):AOps P G ro N ops (o::rest) σ Q:=by
 have h:=h _ (fun _ h=>h)
 unfold wo0 at h
 split at h
 ·rename_i hg; exact AOps.step hg (OpT.vcL h)
 ·rename_i j want hg
  split at h
  ·rename_i b hb
   by_cases hbw:b=want
   ·exact AOps.guardedU hg hb (fun hb=>OpT.vcL (h.1 hb)) (h.1 hbw).1 (fun hb=>(h.2 hb).2)
   ·exact AOps.guardedU hg hb (fun hb=>OpT.vcL (h.1 hb)) (h.2 hbw).1 (fun hb=>(h.2 hb).2)
  ·exact AOps.skip hg h.1 h.2.1 h.2.2
theorem wrc {σ':St} {op:Op} (h:∀ x∈wav op,σ'.eval x=σ.eval x):wjS P σ' op=wjS P σ op:=by
 cases op <;> try rfl
 case buildSlice t len parts =>
  simp only[wjS]
  rw[wcd (σ:=σ) (σ':=σ') (l:=parts.toList.map (·.2)) (by simpa [wav]using h)]
theorem OpD.lit {xs:Exc} {v:PV} (h:wjS P σ o.op=some v) (hd:wao N o.dst) (hx:exE xs (waS o.dst v)) :
  OpD P G ro N xs o σ (some (waM (wav o.op),wa5 o.dst)) (σ.put o.dst v):=by
 refine⟨waS o.dst v,fun k hk=>by rw[wcF]at hk; exact hk,hx,fun σ' hd' hs _=>?_,wbC _ _ _,St.put_rest _ _ _⟩
 have h1:=wcN (σ:=σ) (σ':=σ') (l:=wav o.op) fun k hk=>hs k hk
 exact OpT.litD (by rw[wrc h1]; exact h) hd ⟨by rw[St.put_rest]; exact hd',wbC _ _ _⟩
def wje (P:Program) (N:Nat) (xs:Exc) (o:Oper) (σ:St) (K:Foot->St->Prop):Prop :=
 wao N o.dst/\match wjS P σ o.op with
 | some v=>exE xs (waS o.dst v)/\K (some (waM (wav o.op),wa5 o.dst)) (σ.put o.dst v)
 | none=>False
theorem DOps.consL {xs:Exc} {rest:List Oper} {acc:List Foot} {Q:St->Prop} (hg:o.guard=none) (h:∀ K:Foot->St->Prop,(∀ f σ1,DOps P G ro N xs ops Q rest (acc++[f]) σ1->K f σ1)->wje P N xs o σ K) :
  DOps P G ro N xs ops Q (o::rest) acc σ:=by
 have h:=h (fun f σ1=>DOps P G ro N xs ops Q rest (acc++[f]) σ1) (fun _ _ h=>h)
 obtain⟨hd,h⟩:=h
 split at h
 ·rename_i v hv
  exact .step (DStep.plain hg (OpD.lit hv hd h.1)) h.2
 ·exact h.elim
def wpm:wac->wac->Prop
 | [],_=>True
 | (r,x)::l,h=>(∃ y,waa h r=some y/\y.e=x.e/\y.k=x.k/\leVL y.els x.els/\(y.els=x.els\/y.els.all (fun p=>!isByte p)=true))/\wpm l h
theorem wm0 {g:wac}:∀ {l:wac},wpm l g->∀ r x,waa l r=some x->∃ y,waa g r=some y/\y.e=x.e/\y.k=x.k/\leVL y.els x.els/\(y.els=x.els\/y.els.all (fun p=>!isByte p)=true)
 | [],_,_,_,h=>by simp[waa]at h
 | (s,y)::l,h,r,x,hx=>by
  simp only[waa]at hx
  split at hx
  ·rename_i e; subst e; simp only[Option.some.injEq]at hx; subst hx; exact h.1
  ·exact wm0 h.2 r x hx
def whX (l:wac):wac->wac
 | []=>[]
 | (r,y)::g=>(r,match waa l r with | some x=>{ y with els:=x.els } | none=>y)::whX l g
theorem wjT (l:wac):∀ (g:wac) (r:Nat),waa (whX l g) r=(waa g r).map fun y=>match waa l r with | some x=>{ y with els:=x.els } | none=>y
 | [],r=>rfl
 | (s,y)::g,r=>by
  simp only[whX,waa]
  split
  ·rename_i e; subst e; rfl
  ·exact wjT l g r
theorem Sub.rows (L:wac) (h:wpm L σ.heap):Sub G N σ { σ with heap:=whX L σ.heap }:=by
 intro P B a w φ hr
 have hgt:∀ r y,waa σ.heap r=some y->∃ x,waa (whX L σ.heap) r=some x/\x.e=y.e/\x.k=y.k/\x.els.length=y.els.length/\leVL y.els x.els/\(y.els=x.els\/y.els.all (fun p=>!isByte p)=true):=fun r y hy=>by
  rw[wjT,hy,Option.map_some]
  cases h2:waa L r with
  | none=>exact⟨y,rfl,rfl,rfl,rfl,leVL_refl _,.inl rfl⟩
  | some x =>
   obtain⟨y',h3,h4,h5,h6⟩:=wm0 h r x h2
   rw[hy]at h3; cases h3
   exact⟨_,rfl,rfl,rfl,(wjQ h6.1).1.symm,h6⟩
 have hget':∀ r x,waa (whX L σ.heap) r=some x->∃ y,waa σ.heap r=some y/\y.e=x.e/\y.k=x.k/\x.els.length=y.els.length/\leVL y.els x.els/\(y.els=x.els\/y.els.all (fun p=>!isByte p)=true):=fun r x hx=>by
  have hx':=hx
  rw[wjT,Option.map_eq_some_iff]at hx'
  obtain⟨y,hy,_⟩:=hx'
  obtain⟨x',h1,h2,h3,h4,h5⟩:=hgt r y hy
  rw[hx]at h1; cases h1
  exact⟨y,hy,h2.symm,h3.symm,h4,h5⟩
 have hrow:∀ b,waD φ (whX L σ.heap) b ↔ waD φ σ.heap b:=fun b =>
  ⟨fun ⟨r,x,h1,h2⟩=>by obtain⟨y,h3,_⟩:=hget' r x h1; exact⟨r,y,h3,h2⟩,fun ⟨r,y,h1,h2⟩=>by obtain⟨x,h3,_⟩:=hgt r y h1; exact⟨r,x,h3,h2⟩⟩
 have hown:∀ b,own φ (whX L σ.heap) b ↔ own φ σ.heap b:=fun b=>or_congr (hrow b) Iff.rfl
 have hext:Ext w B.X φ σ.heap w φ (whX L σ.heap) :=
  ⟨fun r y hy=>by obtain⟨x,h1,h2,h3,h4,_⟩:=hgt r y hy; exact⟨x,h1,h3,fun _=>h4,rfl⟩,fun b kk hb=>⟨hb.1,hb.2.1,fun ho=>hb.2.2 ((hown b).1 ho)⟩,fun b kk hb=>⟨hb.1,fun ho=>hb.2 ((hown b).1 ho)⟩,fun _ kk _=>rfl,fun r x b _ _ c e f hh=>⟨c,e,f,hh,rfl⟩⟩
 refine⟨φ,Rep.of_sit ⟨⟨fun r x b hx hb=>?_,fun r x hx hφ=>?_,fun r s x y b hx hy hb hb'=>?_,fun b hT=>⟨(hr.heap.far b hT).1,(hr.heap.far b hT).2.1,fun ho=>(hr.heap.far b hT).2.2 ((hrow b).1 ho)⟩⟩,hr.keeps,fun r x b hx hb=>?_,fun r x hx hp=>?_,fun r x b hx hp hb=>?_,?_,hr.tnew,?_⟩ hr.size (fun t=>(hr.env t).ext hext) ?_⟩
 ·obtain⟨y,h1,h2,h3,h4,h5⟩:=hget' r x hx
  have hro:=(hr.heap.rows r y b h1 hb).ext hext rfl
  exact hro.turn h3.symm h2.symm h4 (fun _ _ h=>h) hro.free (fun i hi hi' v hv=>hv.le ((wjQ h5.1).2 i hi hi')) fun z hz=>by
   rcases h5.2 with h6 | h6
   ·rw[h6]at hz; exact hz
   ·have:=hz.zero_of fun p hp=>by simpa using List.all_eq_true.1 h6 p hp
    subst this; exact .zero _
 ·obtain⟨y,h1,h2,h3,h4,h5⟩:=hget' r x hx
  have:=hr.heap.void r y h1 hφ
  rw[this]at h4
  simpa using h4
 ·obtain⟨x',h1,_⟩:=hget' r x hx
  obtain⟨y',h2,_⟩:=hget' s y hy
  exact hr.heap.inj r s x' y' b h1 h2 hb hb'
 ·obtain⟨y,h1,_⟩:=hget' r x hx
  exact hr.new r y b h1 hb
 ·obtain⟨y,h1,_⟩:=hget' r x hx
  exact hr.pins r y h1 hp
 ·obtain⟨y,h1,_⟩:=hget' r x hx
  exact hr.psz r y b h1 hp hb
 ·exact hr.glob.ext hext (fun g y hm=>by obtain⟨_,_,_,_,_,h2,_⟩:=hr.glob g y hm; exact fun ho=>h2 ((hown g).1 ho))
 ·exact wdT (w:=w) (φ:=φ) (H:=σ.heap) hr.inv rfl rfl rfl rfl (Nat.le_refl _) (fun _ _ _=>rfl) (fun b hb=>.inl ((hrow b).1 hb))
 ·exact hr.dfr.ext hext
theorem wfq (H:wac) (l:List PD):refsInL H (dl l):=by rw[dl_refs]; trivial
theorem wqA {α:Type} {r e k n:Nat} {f:α->PD} {L:List α} (h:waa H r=some ⟨e,k,dl (wab f L)⟩) (hn:n=L.length):frzT H (.slc r 0 n)=some (.d (.imm k (wab f L))):=by
 subst hn
 simp only[frzT,frz,h,dl_allD,Option.map_some,List.drop_zero,lenc_take,List.take_length]
theorem wmq {r i off:Nat} (h:waa H' r=none):∀ s∈rowsOf (.ptr r i off),waa H' s=none:=by
 intro s hs
 simp only[rowsOf,List.mem_singleton]at hs
 subst hs; exact h
theorem wmr {r lo n:Nat} (h:waa H' r=none):∀ s∈rowsOf (.slc r lo n),waa H' s=none:=by
 intro s hs
 simp only[rowsOf,List.mem_singleton]at hs
 subst hs; exact h
theorem wpn {α:Type} (k:Nat) (f:α->PD):leV (.d .nilslice) (.d (.imm k (wab f []))):=by simp only[leV,leD,wd7]
theorem wsw {r n m:Nat} (h:n=m):PV.slc r 0 n=.slc r 0 m:=by rw[h]
theorem wta {r n m:Nat} (h:n=m):leV (PV.slc r 0 n) (.slc r 0 m):=by rw[h]; exact leV_refl _
def wfE (k:Nat) (l:List PD):PD:=match l with
 | []=>.nilslice
 | x::l=>.imm k (x::l)
theorem wjf (k:Nat) (l:List PD):leD (wfE k l) (.imm k l):=by
 cases l with
 | nil=>simp only[wfE,leD]
 | cons x l=>exact leD_refl _
end
attribute [go_sem] wo0 wlE wjS wje wly wtI
end Go.Pv

namespace Go.Pv
def wjU (P:Program) (t:TypeId) (xs:List PD) (off:Nat):Option PD :=
 match waz P t (.d (.agg xs)) off with
 | some (.d x)=>some x
 | _=>none
def wk3 (P:Program) (E:TypeId->PD->PD->Option Bool) (xs ys:List PD):List Field->Option Bool
 | []=>some true
 | f::fs =>
  if (f.name == "_") = true then wk3 P E xs ys fs
  else match wjU P f.type xs f.offset,wjU P f.type ys f.offset with
   | some a,some b=>match E f.type a b,wk3 P E xs ys fs with
    | some r,some q=>some (r&&q)
    | _,_=>none
   | _,_=>none
def wms (P:Program) (E:TypeId->PD->PD->Option Bool) (e:TypeId) (c:Nat) (xs ys:List PD):List Nat->Option Bool
 | []=>some true
 | i::is=>match wjU P e xs (i*c),wjU P e ys (i*c)with
  | some a,some b=>match E e a b,wms P E e c xs ys is with
   | some r,some q=>some (r&&q)
   | _,_=>none
  | _,_=>none
def eqD (P:Program):Nat->TypeId->PD->PD->Option Bool
 | 0,_,_,_=>none
 | d+1,t,x,y=>match wad P t with
  | none=>none
  | some z=>match z.desc with
   | .int _=>match x,y with
    | .int k a,.int k' b=>if k=k' then some (a == b)else none
    | _,_=>none
   | .bool=>match x,y with
    | .bool a,.bool b=>some (a == b)
    | _,_=>none
   | .string=>match x,y with
    | .str a,.str b=>some (a == b)
    | _,_=>none
   | .struct fs=>match x,y with
    | .agg xs,.agg ys=>if P.stoodInHeld t=false then wk3 P (eqD P d) xs ys fs.toList else none
    | _,_=>none
   | .array n e=>match x,y with
    | .agg xs,.agg ys=>match wad P e with
     | some q=>wms P (eqD P d) e q.size xs ys (List.range n)
     | none=>none
    | _,_=>none
   | _=>none
theorem wt3 (P:Program) (d:Nat) (t:TypeId) (x y:PD):eqD P (d+1) t x y=match wad P t with
  | none=>none
  | some z=>match z.desc with
   | .int _=>match x,y with
    | .int k a,.int k' b=>if k=k' then some (a == b)else none
    | _,_=>none
   | .bool=>match x,y with
    | .bool a,.bool b=>some (a == b)
    | _,_=>none
   | .string=>match x,y with
    | .str a,.str b=>some (a == b)
    | _,_=>none
   | .struct fs=>match x,y with
    | .agg xs,.agg ys=>if P.stoodInHeld t=false then wk3 P (eqD P d) xs ys fs.toList else none
    | _,_=>none
   | .array n e=>match x,y with
    | .agg xs,.agg ys=>match wad P e with
     | some q=>wms P (eqD P d) e q.size xs ys (List.range n)
     | none=>none
    | _,_=>none
   | _=>none:=rfl
def eqV (P:Program) (t:TypeId) (p q:PV):Option Bool :=
 match p,q with
 | .d (.agg a),.d (.agg b)=>if P.eqGuardType P.depth t=false then eqD P 8 t (.agg a) (.agg b)else none
 | _,_=>none
def wpo (lo:Bool):List PV->Option PV
 | [.d (.int k a),.d (.int k' b)]=>if k=k' then some (.d (.int k (if lo then min a b else max a b)))else none
 | _=>none
def xOp (P:Program) (σ:St) (op:Op):Option PV :=
 match op with
 | .binOp .eql t x y _=>(eqV P t (σ.eval x) (σ.eval y)).map fun b=>.d (.bool b)
 | .binOp .neq t x y _=>(eqV P t (σ.eval x) (σ.eval y)).map fun b=>.d (.bool (!b))
 | .call c=>match c.callee with
  | .builtin .max=>wpo false (wau σ c.args.toList)
  | .builtin .min=>wpo true (wau σ c.args.toList)
  | _=>none
 | _=>none
section
variable {P:Program} {G:List (Nat×PD)} {ro:Option Nat} {N:Nat} {σ τ:St} {w w':World} {X:Nat->Nat->Prop} {φ φ':Nm} {H H':wac} {o:Oper} {K:St->Prop} {ops:Array Oper} {B:Base P} {a a':Act}
theorem wjV {t:TypeId} {xs:List PD} {off:Nat} {x:PD} {vs:Array Value} (h:wjU P t xs off=some x) (hv:RepV w X φ H (.agg vs) (.d (.agg xs))) :
  ∃ z,(part t vs off).run P w=.ok z w/\RepV w X φ H z (.d x):=by
 unfold wjU at h
 split at h <;> simp only[Option.some.injEq,reduceCtorEq]at h
 rename_i y hy; subst h
 obtain⟨vs',z,h1,h2,h3⟩:=wkg (P:=P) rfl hy hv
 cases h1
 exact⟨z,h2,h3⟩
theorem wtn {E:TypeId->PD->PD->Option Bool} {n:Nat} (hE:∀ t x y r,E t x y=some r->∀ u v,RepV w X φ H u (.d x)->RepV w X φ H v (.d y)->(Op.equalIn n t u v).run P w=.ok r w) {xs ys:List PD} {us vs:Array Value} (hu:RepV w X φ H (.agg us) (.d (.agg xs))) (hv:RepV w X φ H (.agg vs) (.d (.agg ys))) :
  ∀ {fs:List Field} {r:Bool},wk3 P E xs ys fs=some r->(Op.eqFields n us vs fs).run P w=.ok r w:=by
 intro fs
 induction fs with
 | nil =>
  intro r h
  simp only[wk3,Option.some.injEq]at h
  subst h; rfl
 | cons f fs ih =>
  intro r h
  simp only[wk3]at h
  split at h
  ·rename_i hn
   have hn : f.name = "_" := by simpa using hn
   simp only[Op.eqFields,hn,ne_eq,not_true_eq_false,if_false]
   exact ih h
  ·rename_i hn
   have hn : f.name ≠ "_" := by simpa using hn
   split at h <;> try (simp at h; done)
   rename_i p q hp hq
   split at h <;> simp only[Option.some.injEq,reduceCtorEq]at h
   rename_i r1 r2 h1 h2; subst h
   obtain⟨u,e1,e2⟩:=wjV (P:=P) hp hu
   obtain⟨v,e3,e4⟩:=wjV (P:=P) hq hv
   have e5:=hE _ _ _ _ h1 _ _ e2 e4
   simp only[Op.eqFields,hn,ne_eq,not_false_eq_true,if_true,Sem.run_bind,e1,e3,e5,Result.andThen_ok]
   cases r1
   ·simp
   ·simp only[Bool.not_true,Bool.false_eq_true,if_false,Bool.true_and]
    exact ih h2
theorem wto {E:TypeId->PD->PD->Option Bool} {n:Nat} (hE:∀ t x y r,E t x y=some r->∀ u v,RepV w X φ H u (.d x)->RepV w X φ H v (.d y)->(Op.equalIn n t u v).run P w=.ok r w) {e:TypeId} {c:Nat} {xs ys:List PD} {us vs:Array Value} (hu:RepV w X φ H (.agg us) (.d (.agg xs))) (hv:RepV w X φ H (.agg vs) (.d (.agg ys))) :
  ∀ {is:List Nat} {r:Bool},wms P E e c xs ys is=some r->(Op.eqItems n e c us vs is).run P w=.ok r w:=by
 intro is
 induction is with
 | nil =>
  intro r h
  simp only[wms,Option.some.injEq]at h
  subst h; simp[Op.eqItems]
 | cons i is ih =>
  intro r h
  simp only[wms]at h
  split at h <;> try (simp at h; done)
  rename_i p q hp hq
  split at h <;> simp only[Option.some.injEq,reduceCtorEq]at h
  rename_i r1 r2 h1 h2; subst h
  obtain⟨u,e1,e2⟩:=wjV (P:=P) hp hu
  obtain⟨v,e3,e4⟩:=wjV (P:=P) hq hv
  have e5:=hE _ _ _ _ h1 _ _ e2 e4
  simp only[Op.eqItems,Sem.run_bind,e1,e3,e5,Result.andThen_ok]
  cases r1
  ·simp
  ·simp only[Bool.not_true,Bool.false_eq_true,if_false,Bool.true_and]
   exact ih h2
theorem wtJ (m:Nat):∀ (d:Nat) (t:TypeId) (x y:PD) (r:Bool),eqD P d t x y=some r->∀ u v,RepV w X φ H u (.d x)->RepV w X φ H v (.d y)->(Op.equalIn (m+d) t u v).run P w=.ok r w:=by
 intro d
 induction d with
 | zero=>intro t x y r h; simp[eqD]at h
 | succ d ih =>
  intro t x y r h u v hu hv
  unfold eqD at h
  split at h <;> try (simp at h; done)
  rename_i z hz
  have hun:=(wbm hz).1
  rw[show m+(d+1)=(m+d)+1 from rfl]
  split at h <;> try (simp at h; done)
  ·rename_i k hd
   split at h <;> try (simp at h; done)
   split at h <;> simp only[Option.some.injEq,reduceCtorEq]at h
   rename_i hk; subst hk; subst h
   rw[wcv hu,wcv hv]
   exact run_equalIn_int w (m+d) t _ k _ _ (by rw[hun,hd])
  ·rename_i hd
   split at h <;> simp only[Option.some.injEq,reduceCtorEq]at h
   subst h
   rw[wem hu,wem hv]
   exact run_equalIn_bool w (m+d) t _ _ (by rw[hun,hd])
  ·rename_i hd
   split at h <;> simp only[Option.some.injEq,reduceCtorEq]at h
   subst h
   rw[wgS hu,wgS hv,beq_toListBytes]
   exact run_equalIn_string w (m+d) t _ _ (by rw[hun,hd])
  ·rename_i fs hd
   split at h <;> try (simp at h; done)
   rename_i xs ys
   split at h <;> try (simp at h; done)
   rename_i hst
   obtain⟨us,rfl,_⟩:=wbg (waR hu)
   obtain⟨vs,rfl,_⟩:=wbg (waR hv)
   have hf:P.fieldsOf t=fs:=by simp only[Program.fieldsOf,hun,hd]
   rw[run_equalIn_struct w (m+d) t us vs (by rw[hf,hun,hd]) hst,hf]
   exact wtn ih hu hv h
  ·rename_i n e hd
   split at h <;> try (simp at h; done)
   rename_i xs ys
   split at h <;> try (simp at h; done)
   rename_i q hq
   obtain⟨us,rfl,_⟩:=wbg (waR hu)
   obtain⟨vs,rfl,_⟩:=wbg (waR hv)
   obtain⟨i,hi,hs⟩:∃ i,P.info? e=some i/\i.size=q.size:=by obtain⟨_,i,h1,h2,_⟩:=wbm hq; exact⟨i,h1,h2⟩
   rw[run_equalIn_array w (m+d) us vs (by rw[hun,hd]) hi,show P.cellsOf e=q.size by simp[Program.cellsOf,hi,hs]]
   exact wto ih hu hv h
theorem wrL {t:TypeId} {p q:PV} {r:Bool} (h:eqV P t p q=some r) {u v:Value} (hu:RepV w X φ H u p) (hv:RepV w X φ H v q) :
  ∃ us vs,u=.agg us/\v=.agg vs/\P.eqGuardType P.depth t=false/\(Op.equalIn 10000 t u v).run P w=.ok r w:=by
 unfold eqV at h
 split at h <;> try (simp at h; done)
 split at h <;> try (simp at h; done)
 rename_i hg
 have:=wtJ 9992 8 _ _ _ _ h _ _ hu hv
 obtain⟨us,rfl,_⟩:=wbg (waR hu)
 obtain⟨vs,rfl,_⟩:=wbg (waR hv)
 exact⟨us,vs,rfl,rfl,hg,this⟩
theorem wrd (hr:Rep G B N σ a w φ) {c:Call} {p q:PV} (h:wau σ c.args.toList=[p,q]):∃ x y,c.args=#[x,y]/\σ.eval x=p/\σ.eval y=q:=by
 rcases hc:c.args with ⟨l⟩
 rw[hc]at h
 match l,h with
 | [x,y],h=>simp[wau]at h; exact⟨x,y,rfl,h.1,h.2⟩
 | [],h=>simp[wau]at h
 | [_],h=>simp[wau]at h
 | _::_::_::_,h=>simp[wau]at h
theorem wtK (hr:Rep G B N σ a w φ) {o:Oper} {v:PV} (h:xOp P σ o.op=some v) (ro:Option Nat):∃ u,(o.semAt ro a.eval).run P w=.ok (.value u) w/\RepV w B.X φ σ.heap u v:=by
 rw[Oper.semAt_eq _ _ _ (fun c hc=>by rw[hc]at h; simp[xOp]at h)]
 unfold execOp
 unfold xOp at h
 split at h <;> (try (simp at h; done)) <;> rename_i ho <;> simp only[ho]
 ·rename_i t x y t2
  simp only[Option.map_eq_some_iff]at h
  obtain⟨b,hb,rfl⟩:=h
  obtain⟨us,vs,hu,hv,hg,he⟩:=wrL (P:=P) hb (hr.eval x) (hr.eval y)
  refine⟨.bool b,wb2 ?_,.d (.bool _)⟩
  rw[Sem.run_bind,hu,hv,run_eqGuard_agg w .eql t x y us vs hg]
  rw[hu,hv]at he
  show (binOp .eql t (.agg us) (.agg vs)).run P w=_
  rw[run_eql_struct,he]; rfl
 ·rename_i t x y t2
  simp only[Option.map_eq_some_iff]at h
  obtain⟨b,hb,rfl⟩:=h
  obtain⟨us,vs,hu,hv,hg,he⟩:=wrL (P:=P) hb (hr.eval x) (hr.eval y)
  refine⟨.bool (!b),wb2 ?_,.d (.bool _)⟩
  rw[Sem.run_bind,hu,hv,run_eqGuard_agg w .neq t x y us vs hg]
  rw[hu,hv]at he
  show (binOp .neq t (.agg us) (.agg vs)).run P w=_
  rw[run_neq_struct,he]; rfl
 ·rename_i c
  have key:∀ {lo:Bool} {v:PV},wpo lo (wau σ c.args.toList)=some v->∃ k n m,v=.d (.int k (if lo then min n m else max n m))/\∃ x y,c.args=#[x,y]/\a.eval x=.int k n/\a.eval y=.int k m:=by
   intro lo v h
   unfold wpo at h
   split at h <;> try (simp at h; done)
   rename_i k n k' m he
   split at h <;> simp only[Option.some.injEq,reduceCtorEq]at h
   rename_i hk; subst hk; subst h
   obtain⟨x,y,h1,h2,h3⟩:=wrd hr he
   have hx:=hr.eval x; have hy:=hr.eval y
   rw[h2]at hx; rw[h3]at hy
   exact⟨k,n,m,rfl,x,y,h1,wcv hx,wcv hy⟩
  split at h <;> try (simp at h; done)
  ·rename_i hc
   obtain⟨k,n,m,rfl,x,y,h1,h2,h3⟩:=key h
   refine⟨.int k (max n m),?_,.d (.int _ _)⟩
   simp only[resolve,hc,h1,Sem.run_bind,Sem.run_pure,Result.andThen,invoke,builtin,List.map_toArray,List.map_cons,List.map_nil,h2,h3,Go.Lib.run_max_ints]
  ·rename_i hc
   obtain⟨k,n,m,rfl,x,y,h1,h2,h3⟩:=key h
   refine⟨.int k (min n m),?_,.d (.int _ _)⟩
   simp only[resolve,hc,h1,Sem.run_bind,Sem.run_pure,Result.andThen,invoke,builtin,List.map_toArray,List.map_cons,List.map_nil,h2,h3,Go.Lib.run_min_ints]
theorem OpT.x {v:PV} (h:xOp P σ o.op=some v) (hd:wao N o.dst) (hK:K (σ.put o.dst v)):OpT P G ro N o σ K:=by
 intro B hro a w φ hr next Q hn
 obtain⟨u,h1,h2⟩:=wtK hr h ro
 exact wa7 h1 (hn _ _ _ φ hK (hr.put hd h2))
theorem wrM {σ':St} {op:Op} (h:∀ x∈wav op,σ'.eval x=σ.eval x):xOp P σ' op=xOp P σ op:=by
 cases op <;> try rfl
 case binOp bop t x y z =>
  simp only[wav,List.mem_cons,List.not_mem_nil,or_false,forall_eq_or_imp,forall_eq]at h
  cases bop <;> try rfl
  all_goals simp only[xOp,h.1,h.2]
 case call c =>
  simp only[xOp]
  have:wau σ' c.args.toList=wau σ c.args.toList:=wcd fun x hx=>h x (by
   simp only[wav]
   cases c.callee <;> simp_all)
  rw[this]
theorem OpD.x {xs:Exc} {v:PV} (h:xOp P σ o.op=some v) (hd:wao N o.dst) (hx:exE xs (waS o.dst v)) :
  OpD P G ro N xs o σ (some (waM (wav o.op),wa5 o.dst)) (σ.put o.dst v):=by
 refine⟨waS o.dst v,fun k hk=>by rw[wcF]at hk; exact hk,hx,fun σ' hd' hs _=>?_,wbC _ _ _,St.put_rest _ _ _⟩
 have h1:=wcN (σ:=σ) (σ':=σ') (l:=wav o.op) fun k hk=>hs k hk
 exact OpT.x (by rw[wrM h1]; exact h) hd ⟨by rw[St.put_rest]; exact hd',wbC _ _ _⟩
def wlF (P:Program) (N:Nat) (o:Oper) (σ:St) (K:St->Prop):Prop :=
 wao N o.dst/\match xOp P σ o.op with
  | some v=>K (σ.put o.dst v)
  | none=>False
def wre (P:Program) (N:Nat) (ds:List (Option Tmp)) (o:Oper) (σ:St) (K:St->Prop):Prop :=
 match o.guard with
 | none=>wlF P N o σ K
 | some (j,want)=>match wer σ ds j with
  | some b=>(b=want->wlF P N o σ K)/\(b≠want->wao N o.dst/\K (σ.put o.dst (.tuple [])))
  | none=>wfg σ ds j=true/\wao N o.dst/\K (σ.put o.dst (.tuple []))
theorem OpT.vcX (h:wlF P N o σ K):OpT P G ro N o σ K:=by
 obtain⟨hd,h⟩:=h
 split at h
 ·rename_i v hv; exact OpT.x hv hd h
 ·exact h.elim
theorem AOps.consX {rest:List Oper} {Q:St->Prop} (h:∀ K:St->Prop,(∀ σ,AOps P G ro N ops rest σ Q->K σ)->wre P N (wbq ops) o σ K):AOps P G ro N ops (o::rest) σ Q:=by
 have h:=h _ (fun _ h=>h)
 unfold wre at h
 split at h
 ·rename_i hg; exact AOps.step hg (OpT.vcX h)
 ·rename_i j want hg
  split at h
  ·rename_i b hb
   by_cases hbw:b=want
   ·exact AOps.guardedU hg hb (fun hb=>OpT.vcX (h.1 hb)) (h.1 hbw).1 (fun hb=>(h.2 hb).2)
   ·exact AOps.guardedU hg hb (fun hb=>OpT.vcX (h.1 hb)) (h.2 hbw).1 (fun hb=>(h.2 hb).2)
  ·exact AOps.skip hg h.1 h.2.1 h.2.2
variable {xs:Exc}
theorem wm1 (dst:Option Tmp):exE xs (waS dst (.tuple [])):=by
 cases dst with
 | none=>trivial
 | some d =>
  refine⟨?_,trivial⟩
  induction xs with
  | nil=>trivial
  | cons x l ih=>obtain⟨r,S⟩:=x; exact⟨.inr (by simp[Cont.rows,rowsOf,rowsOfL]),ih⟩
theorem DStep.noU {j:Nat} {want b:Bool} (hg:o.guard=some (j,want)) (hb:wer σ (wbq ops) j=some b) (hne:b≠want) (hd:wao N o.dst) :
  DStep P G ro N xs ops o σ (some (wfe (wbq ops) o.guard,wa5 o.dst)) (σ.put o.dst (.tuple [])):=by
 refine⟨waS o.dst (.tuple []),fun k hk=>by rw[wcF]at hk; exact hk,wm1 _,fun s' hs _ B hro a w hR next Q hn=>?_,wbC _ _ _,St.put_rest _ _ _⟩
 obtain⟨σ',φ,hd',hl,hr⟩:=hR
 have hgv:wer σ' (wbq ops) j=some b:=by
  rw[wiw (σ:=σ) (want:=want) fun k hk=>by rw[hl]; exact hs k (by rw[hg]; exact hk)]; exact hb
 have hy:=wi9 hr hgv
 have:(some b == some want)=false:=by simp[hne]
 simp only[Region.wanted,hg,hy,this,Bool.false_eq_true,if_false]
 exact⟨fun _ _=>trivial,hn _ _ ⟨σ'.put o.dst (.tuple []),φ,by rw[St.put_rest]; exact hd',by rw[wbC,hl],hr.put hd whW⟩⟩
theorem wrf {σ':St} {ds:List (Option Tmp)} {j:Nat} {want:Bool} (h:∀ k∈wfe ds (some (j,want)),σ'.look k=σ.look k):wfg σ' ds j=wfg σ ds j:=by
 unfold wfg
 simp only[wfe]at h
 cases hds:ds[j]? with
 | none=>rfl
 | some od =>
  cases od with
  | none=>rfl
  | some d =>
   rw[hds]at h
   have:=h (.t d) (by simp)
   simp only[St.look,Cont.v.injEq]at this
   simp only[this]
theorem DStep.skipU {j:Nat} {want:Bool} (hg:o.guard=some (j,want)) (hb:wfg σ (wbq ops) j=true) (hd:wao N o.dst) :
  DStep P G ro N xs ops o σ (some (wfe (wbq ops) o.guard,wa5 o.dst)) (σ.put o.dst (.tuple [])):=by
 refine⟨waS o.dst (.tuple []),fun k hk=>by rw[wcF]at hk; exact hk,wm1 _,fun s' hs _ B hro a w hR next Q hn=>?_,wbC _ _ _,St.put_rest _ _ _⟩
 obtain⟨σ',φ,hd',hl,hr⟩:=hR
 have hgv:wfg σ' (wbq ops) j=true:=by
  rw[wrf (σ:=σ) (want:=want) fun k hk=>by rw[hl]; exact hs k (by rw[hg]; exact hk)]; exact hb
 have hy:=wpl hr hgv want
 simp only[Region.wanted,hg,hy,Bool.false_eq_true,if_false]
 exact⟨fun _ _=>trivial,hn _ _ ⟨σ'.put o.dst (.tuple []),φ,by rw[St.put_rest]; exact hd',by rw[wbC,hl],hr.put hd whW⟩⟩
def wfr (N:Nat) (ds:List (Option Tmp)) (o:Oper) (σ:St) (S:(Foot->St->Prop)->Prop) (K:Foot->St->Prop):Prop :=
 match o.guard with
 | none=>S K
 | some (j,want)=>match wer σ ds j with
  | some b=>(b=want->S (fun f σ1=>K (f.plus (wfe ds o.guard)) σ1))/\(b≠want->wao N o.dst/\K (some (wfe ds o.guard,wa5 o.dst)) (σ.put o.dst (.tuple [])))
  | none=>wfg σ ds j=true/\wao N o.dst/\K (some (wfe ds o.guard,wa5 o.dst)) (σ.put o.dst (.tuple []))
theorem DOps.guard {rest:List Oper} {acc:List Foot} {Q:St->Prop} {S:(Foot->St->Prop)->Prop} (hS:∀ K,S K->OpX P G ro N xs o σ K)
  (h:∀ K:Foot->St->Prop,(∀ f σ1,DOps P G ro N xs ops Q rest (acc++[f]) σ1->K f σ1)->wfr N (wbq ops) o σ S K) :
  DOps P G ro N xs ops Q (o::rest) acc σ:=by
 have h:=h (fun f σ1=>DOps P G ro N xs ops Q rest (acc++[f]) σ1) (fun _ _ h=>h)
 unfold wfr at h
 split at h
 ·rename_i hg
  obtain⟨f,σ1,h1,h2⟩:=hS _ h
  exact .step (DStep.plain hg h1) h2
 ·rename_i j want hg
  split at h
  ·rename_i b hb
   by_cases hbw:b=want
   ·subst hbw
    obtain⟨f,σ1,h1,h2⟩:=hS _ (h.1 rfl)
    exact .step (DStep.yes hg hb h1) h2
   ·obtain⟨h1,h2⟩:=h.2 hbw
    exact .step (DStep.noU hg hb hbw h1) h2
  ·exact .step (DStep.skipU hg h.1 h.2.1) h.2.2
theorem DOps.consU {rest:List Oper} {acc:List Foot} {Q:St->Prop} (h:∀ K:Foot->St->Prop,(∀ f σ1,DOps P G ro N xs ops Q rest (acc++[f]) σ1->K f σ1)->wfr N (wbq ops) o σ (wib P G ro N xs o σ) K) :
  DOps P G ro N xs ops Q (o::rest) acc σ:=DOps.guard (fun _=>OpX.vc) h
theorem OpX.vcL {K:Foot->St->Prop} (h:wje P N xs o σ K):OpX P G ro N xs o σ K:=by
 obtain⟨hd,h⟩:=h
 split at h
 ·rename_i v hv; exact⟨_,_,OpD.lit hv hd h.1,h.2⟩
 ·exact h.elim
def wlG (P:Program) (N:Nat) (xs:Exc) (o:Oper) (σ:St) (K:Foot->St->Prop):Prop :=
 wao N o.dst/\match xOp P σ o.op with
 | some v=>exE xs (waS o.dst v)/\K (some (waM (wav o.op),wa5 o.dst)) (σ.put o.dst v)
 | none=>False
theorem OpX.vcX {K:Foot->St->Prop} (h:wlG P N xs o σ K):OpX P G ro N xs o σ K:=by
 obtain⟨hd,h⟩:=h
 split at h
 ·rename_i v hv; exact⟨_,_,OpD.x hv hd h.1,h.2⟩
 ·exact h.elim
theorem DOps.consLU {rest:List Oper} {acc:List Foot} {Q:St->Prop} (h:∀ K:Foot->St->Prop,(∀ f σ1,DOps P G ro N xs ops Q rest (acc++[f]) σ1->K f σ1)->wfr N (wbq ops) o σ (wje P N xs o σ) K) :
  DOps P G ro N xs ops Q (o::rest) acc σ:=DOps.guard (fun _=>OpX.vcL) h
theorem DOps.consX {rest:List Oper} {acc:List Foot} {Q:St->Prop} (h:∀ K:Foot->St->Prop,(∀ f σ1,DOps P G ro N xs ops Q rest (acc++[f]) σ1->K f σ1)->wfr N (wbq ops) o σ (wlG P N xs o σ) K) :
  DOps P G ro N xs ops Q (o::rest) acc σ:=DOps.guard (fun _=>OpX.vcX) h
theorem DOps.consC {rest:List Oper} {acc:List Foot} {Q:St->Prop} (h:∀ K:Foot->St->Prop,(∀ f σ1,DOps P G ro N xs ops Q rest (acc++[f]) σ1->K f σ1)->wfr N (wbq ops) o σ (OpX P G ro N xs o σ) K) :
  DOps P G ro N xs ops Q (o::rest) acc σ:=DOps.guard (fun _ h=>h) h
def wfh (P:Program) (G:List (Nat×PD)) (ro:Option Nat) (N:Nat) (ds:List (Option Tmp)) (o:Oper) (σ:St) (K:St->Prop):Prop :=
 match o.guard with
 | none=>OpT P G ro N o σ K
 | some (j,want)=>match wer σ ds j with
  | some b=>(b=want->OpT P G ro N o σ K)/\(b≠want->wao N o.dst/\K (σ.put o.dst (.tuple [])))
  | none=>wfg σ ds j=true/\wao N o.dst/\K (σ.put o.dst (.tuple []))
theorem AOps.consC {rest:List Oper} {Q:St->Prop} (hd:wao N o.dst) (h:∀ K:St->Prop,(∀ σ,AOps P G ro N ops rest σ Q->K σ)->wfh P G ro N (wbq ops) o σ K):AOps P G ro N ops (o::rest) σ Q:=by
 have h:=h _ (fun _ h=>h)
 unfold wfh at h
 split at h
 ·rename_i hg; exact AOps.step hg h
 ·rename_i j want hg
  split at h
  ·rename_i b hb
   exact AOps.guardedU hg hb h.1 hd (fun hb=>(h.2 hb).2)
  ·exact AOps.skip hg h.1 h.2.1 h.2.2
theorem OpT.callV {c:Call} {xo:Operand} {f:FuncId} {args:List PV} {res:PV} {K:St->Prop} (ho:o.op=.call c) (hc:c.callee=.value xo) (hx:wcB (σ.eval xo)=some (f,[])) (hcal:wbd P f=true)
  (hf:PureFn P G f args res) (ha:wdD σ.heap (wau σ c.args.toList) args) (hd:wao N o.dst) (hK:K (σ.put o.dst res)) (hres:dOnly res) (hcl:clean res) (hrf:refsIn [] res) (hren:res.ren id=res):OpT P G ro N o σ K:=by
 refine OpT.callG (g:=id) (gc:=none) ho hc hx hcal hf (wmp σ) (.inl rfl) (wgv (by simpa using ha)) hd ?_
 rintro p H' g' ⟨rfl,rfl⟩
 refine⟨id,⟨fun r x' h=>by simp[waa]at h,fun r x h=>by simp[waa]at h,fun r x' h=>by simp[waa]at h,fun r s x y h=>by simp[waa]at h,fun r x h=>by simp[waa]at h⟩,hcl,hrf,?_⟩
 rw[hren]
 exact hK
end
attribute [go_sem] xOp eqV wt3 wk3 wms wjU wpo wlF wre wfr wlG wfh wib wcB
end Go.Pv

namespace Go.Pv
section
variable {P:Program} {G:List (Nat×PD)} {N:Nat} {σ:St}
end
attribute [go_sem] wic wgd
@[go_sem high] theorem lenV_lst {α:Type} (e:TypeId) (k:Nat) (f:α->PD) (l:List α):wiM (.slice e) (.d (wfE k (wab f l)))=some (l.length:Int):=by
 cases l with
 | nil=>rfl
 | cons x l=>simp[wfE,wab,wiM]
@[go_sem high] theorem nilEq_lst {α:Type} (e:TypeId) (k:Nat) (f:α->PD) (l:List α):waE (.slice e) (.d (wfE k (wab f l))) (.d .nilslice)=some l.isEmpty:=by
 cases l with
 | nil=>rfl
 | cons x l=>simp[wfE,wab,waE,wah]
@[go_sem high] theorem binV_lst {α:Type} (P:Program) (t:TypeId) (k:Nat) (f:α->PD) (l:List α):wbX P .eql t (.d (wfE k (wab f l))) (.d .nilslice)=(wad P t).bind fun z=>(waE z.desc (.d (wfE k (wab f l))) (.d .nilslice)).map fun r=>.d (.bool r):=by
 cases l <;> rfl
@[go_sem high] theorem binV_lst' {α:Type} (P:Program) (t:TypeId) (k:Nat) (f:α->PD) (l:List α):wbX P .neq t (.d (wfE k (wab f l))) (.d .nilslice)=(wad P t).bind fun z=>(waE z.desc (.d (wfE k (wab f l))) (.d .nilslice)).map fun r=>.d (.bool (!r)):=by
 cases l <;> rfl
@[go_sem] theorem isByte_lst (k:Nat) (l:List PD):isByte.match_1 (motive:=fun _=>Bool) (.d (wfE k l)) (fun _=>true) (fun _=>false)=false:=by cases l <;> rfl
@[go_sem high] theorem pvCells_lst {α:Type} (k:Nat) (f:α->PD) (l:List α):way (.d (wfE k (wab f l)))=some [.d (wfE k (wab f l))]:=by
 cases l <;> rfl
@[go_sem high] theorem elemLoad_lst {α:Type} (P:Program) (t:TypeId) (k:Nat) (f:α->PD) (l:List α) (off:Nat):waz P t (.d (wfE k (wab f l))) off=match wad P t with
  | none=>none
  | some y=>if wa1 y.desc=true then none else if off=0 then some (.d (wfE k (wab f l)))else none:=by
 unfold waz
 cases wad P t with
 | none=>rfl
 | some y=>cases l <;> rfl
theorem FnG.less {P:Program} {G:List (Nat×PD)} {f:FuncId} {args:List PV} {H:wac} {g:Gh} {R R2:PV->wac->Gh->Prop} (h:FnG P G f args H g R)
  (hl:∀ p H' g',R p H' g'->∃ H2,wc9 H2 H'/\wcw H2 H2/\refsIn H2 p/\R2 p H2 g'):FnG P G f args H g R2:=by
 intro B φ vs h0 h1 h2 h3
 refine(h B φ vs h0 h1 h2 h3).mono ?_
 rintro e w' ⟨v,p,H',g',φ',he,hR,hv,hs⟩
 obtain⟨H2,h4,h5,h6,h7⟩:=hl p H' g' hR
 exact⟨v,p,H2,g',φ',he,h7,hv.less (wbV h4) h6,hs.less (wbV h4) (weC h5)⟩
end Go.Pv

namespace Go.Pv
def sn (c i:Nat):Nat:=1000000+16*i+c
def wcb (c:Nat):Nat->List (Option Row)->wac
 | _,[]=>[]
 | i,none::M=>wcb c (i+1) M
 | i,some y::M=>(sn c i,y)::wcb c (i+1) M
def waA (c:Nat) (M:List (Option Row)) (l:wac):wac:=wcb c 0 M++l
def wcK:wac->Prop
 | []=>True
 | (r,_)::l=>r < 1000000/\wcK l
theorem wcg:∀ {l:wac},wcK l->∀ r,1000000<=r->waa l r=none
 | [],_,r,_=>rfl
 | (s,x)::l,h,r,hr=>by
  simp only[waa]
  rw[if_neg (by have:=h.1; omega)]
  exact wcg h.2 r hr
theorem wd0 (D l:wac) (r:Nat):waa (D++l) r=match waa D r with | some x=>some x | none=>waa l r:=by
 induction D with
 | nil=>rfl
 | cons x D ih =>
  obtain⟨s,y⟩:=x
  simp only[List.cons_append,waa]
  split
  ·rfl
  ·exact ih
theorem wfy {c:Nat} {r:Nat} (hr:r < 1000000):∀ (M:List (Option Row)) (i:Nat),waa (wcb c i M) r=none
 | [],_=>rfl
 | none::M,i=>wfy hr M (i+1)
 | some y::M,i=>by
  simp only[wcb,waa]
  rw[if_neg (by unfold sn; omega)]
  exact wfy hr M (i+1)
theorem wfz {c:Nat}:∀ (M:List (Option Row)) (i j:Nat),waa (wcb c i M) (sn c j)=if i<=j then (M[j - i]?).join else none
 | [],i,j=>by simp[wcb,waa]
 | none::M,i,j=>by
  simp only[wcb]
  rw[wfz M (i+1) j]
  by_cases h:i<=j
  ·rw[if_pos h]
   by_cases h2:i=j
   ·subst h2; rw[if_neg (by omega)]; simp
   ·rw[if_pos (by omega),show j - i=(j - (i+1))+1 by omega,List.getElem?_cons_succ]
  ·rw[if_neg h,if_neg (by omega)]
 | some y::M,i,j=>by
  simp only[wcb,waa]
  by_cases h2:i=j
  ·subst h2; simp
  ·rw[if_neg (by unfold sn; omega),wfz M (i+1) j]
   by_cases h:i<=j
   ·rw[if_pos h,if_pos (by omega),show j - i=(j - (i+1))+1 by omega,List.getElem?_cons_succ]
   ·rw[if_neg h,if_neg (by omega)]
theorem wdH {c:Nat} {r:Nat} {y:Row}:∀ (M:List (Option Row)) (i:Nat),waa (wcb c i M) r=some y->∃ j,r=sn c j/\(M[j - i]?).join=some y/\i<=j
 | [],i,h=>by simp[wcb,waa]at h
 | none::M,i,h=>by
  obtain⟨j,h1,h2,h3⟩:=wdH M (i+1) h
  refine⟨j,h1,?_,by omega⟩
  rw[show j - i=(j - (i+1))+1 by omega,List.getElem?_cons_succ]; exact h2
 | some y'::M,i,h=>by
  simp only[wcb,waa]at h
  split at h
  ·rename_i e; exact⟨i,e.symm,by simpa using h,Nat.le_refl _⟩
  ·obtain⟨j,h1,h2,h3⟩:=wdH M (i+1) h
   refine⟨j,h1,?_,by omega⟩
   rw[show j - i=(j - (i+1))+1 by omega,List.getElem?_cons_succ]; exact h2
theorem wbr {c:Nat} {M:List (Option Row)} {l:wac} {r:Nat} (hr:r < 1000000):waa (waA c M l) r=waa l r:=by
 simp only[waA,wd0,wfy hr]
theorem wdy {c:Nat} {M:List (Option Row)} {l:wac} (j:Nat) (hl:wcK l):waa (waA c M l) (sn c j)=(M[j]?).join:=by
 simp only[waA,wd0,wfz,Nat.zero_le,if_true,Nat.sub_zero]
 cases (M[j]?).join with
 | some x=>rfl
 | none=>exact wcg hl _ (by unfold sn; omega)
theorem wej {c:Nat} {M:List (Option Row)} {l:wac} {r:Nat} {y:Row} (h:waa (waA c M l) r=some y):(∃ j,r=sn c j/\(M[j]?).join=some y)\/waa l r=some y:=by
 simp only[waA,wd0]at h
 cases hg:waa (wcb c 0 M) r with
 | some x =>
  rw[hg]at h; cases h
  obtain⟨j,h1,h2,_⟩:=wdH M 0 hg
  exact .inl ⟨j,h1,h2⟩
 | none=>rw[hg]at h; exact .inr h
theorem dyR {c:Nat} {M:List (Option Row)} {l:wac} {r:Nat} {x:Option Row} (h:waa l r=x) (hr:r < 1000000:=by decide):waa (waA c M l) r=x:=(wbr hr).trans h
theorem dyS {c:Nat} {M:List (Option Row)} {l:wac} {r:Nat} (h:(waa l r).isSome=true) (hr:r < 1000000:=by decide):(waa (waA c M l) r).isSome=true:=by rw[wbr hr]; exact h
theorem wqk {D l:wac} {r:Nat} {x:Row} (h:waa D r=none):wal (D++l) r x=D++wal l r x:=by
 induction D with
 | nil=>rfl
 | cons y D ih =>
  obtain⟨s,z⟩:=y
  simp only[waa]at h
  split at h
  ·cases h
  ·rename_i hs
   simp only[List.cons_append,wal]
   rw[if_neg hs,ih h]
theorem wsx {c:Nat} {M:List (Option Row)} {l:wac} {r:Nat} {x:Row} (hr:r < 1000000):wal (waA c M l) r x=waA c M (wal l r x):=wqk (wfy hr M 0)
class DataM (M:List (Option Row)):Prop where
 data:∀ y:Row,some y∈M->1<=y.k/\∃ l:List PD,y.els=l.map PV.d
def whx {α:Type} (f:Nat->α->PV):Nat->List α->List PV
 | _,[]=>[]
 | i,x::l=>f i x::whx f (i+1) l
def wnO {α:Type} (f:Nat->α->PV) (l:List α):List PV:=whx f 0 l
theorem wko {α:Type} (f:Nat->α->PV):∀ (l:List α) (i:Nat),(whx f i l).length=l.length
 | [],_=>rfl
 | x::l,i=>by simp[whx,wko f l]
theorem wm2 {α:Type} (f:Nat->α->PV):∀ (l:List α) (i j:Nat),(whx f i l)[j]? = (l[j]?).map (f (i+j))
 | [],i,j=>by simp[whx]
 | x::l,i,0=>by simp[whx]
 | x::l,i,j+1=>by
  simp only[whx,List.getElem?_cons_succ]
  rw[wm2 f l (i+1) j,show i+1+j=i+(j+1) by omega]
theorem whh {α:Type} (f:Nat->α->PV) (l:List α):(wnO f l).length=l.length:=wko f l 0
theorem wie {α:Type} (f:Nat->α->PV) (l:List α) (j:Nat):(wnO f l)[j]? = (l[j]?).map (f j):=by
 unfold wnO; rw[wm2,Nat.zero_add]
theorem wrN {α:Type} (f:Nat->α->PV) (l:List α) (x:α):wnO f l++[f l.length x]=wnO f (l++[x]):=by
 apply List.ext_getElem?
 intro i
 rw[wie,List.getElem?_append,List.getElem?_append,whh,wie]
 by_cases h:i < l.length
 ·simp[h]
 ·rw[if_neg h,if_neg h]
  by_cases h2:i=l.length
  ·subst h2; simp
  ·rw[List.getElem?_eq_none (by simp; omega),List.getElem?_eq_none (by simp; omega)]; rfl
end Go.Pv

namespace Go.Pv
class NestF {α:Type} (F:Nat->α->PV):Prop where
 ren:∀ ρ r x,(F r x).ren ρ=F (ρ r) x
 rows:∀ r x s,s∈rowsOf (F r x)->s=r
 refs:∀ H r x,(waa H r).isSome=true->refsIn H (F r x)
 kill:∀ q r x,r≠q->(F r x).kill q=F r x
 clean:∀ r x,clean (F r x)
 byte:∀ r x,isByte (F r x)=false
class NestG {α:Type} (g:α->Row):Prop where
 data:∀ x,1<=(g x).k/\∃ l:List PD,(g x).els=l.map PV.d
def wbH {α:Type} (c:Nat) (F:Nat->α->PV) (L:List α):List PV:=wnO (fun i x=>F (sn c i) x) L
def waN {α:Type} (g:α->Row) (L:List α):List (Option Row):=L.map fun x=>some (g x)
instance {α:Type} (g:α->Row) [NestG g] (L:List α):DataM (waN g L):=⟨fun y hy=>by
 simp only[waN,List.mem_map,Option.some.injEq]at hy
 obtain⟨x,_,rfl⟩:=hy
 exact NestG.data x⟩
instance {α:Type} (g:α->Row) [NestG g] (L:List α) (i:Nat):DataM ((waN g L).set i none):=⟨fun y hy=>by
 rcases List.mem_or_eq_of_mem_set hy with h | h
 ·exact(inferInstance:DataM (waN g L)).data y h
 ·cases h⟩
theorem wcD {α:Type} (g:α->Row) (L:List α) (j:Nat):((waN g L)[j]?).join=(L[j]?).map g:=by
 simp only[waN,List.getElem?_map]
 cases L[j]? <;> rfl
theorem wiC {α:Type} (g:α->Row) (L:List α) (i j:Nat):(((waN g L).set i none)[j]?).join=if i=j then none else (L[j]?).map g:=by
 rw[List.getElem?_set]
 split
 ·split <;> rfl
 ·exact wcD g L j
theorem wlH {c i r:Nat} (h:r < 1000000):r≠sn c i:=by unfold sn; omega
@[go_sem] theorem sn_eq1 {c i r:Nat} (h:r < 1000000):(r=sn c i)=False:=by simp[wlH h]
@[go_sem] theorem sn_eq2 {c i r:Nat} (h:r < 1000000):(sn c i=r)=False:=by simp[Ne.symm (wlH (c:=c) (i:=i) h)]
attribute [go_sem] wbr wsx
theorem wjW {D l:wac} (h:∀ x∈D,1000000<=x.1):wcO (D++l)=wcO l:=by
 induction D with
 | nil=>rfl
 | cons x D ih =>
  obtain⟨s,y⟩:=x
  simp only[List.cons_append,wcO]
  rw[if_pos (h (s,y) (List.mem_cons_self ..)),ih fun x hx=>h x (List.mem_cons_of_mem _ hx)]
@[go_sem] theorem freshLow_dyn {c:Nat} {M:List (Option Row)} {l:wac}:wcO (waA c M l)=wcO l:=wjW (by
 have:∀ (M:List (Option Row)) (i:Nat),∀ x∈wcb c i M,1000000<=x.1:=fun M=>by
  induction M with
  | nil=>intro i x hx; simp[wcb]at hx
  | cons o M ih =>
   intro i x hx
   cases o with
   | none=>exact ih (i+1) x hx
   | some y =>
    rcases List.mem_cons.1 hx with rfl | hx
    ·show 1000000<=sn c i; unfold sn; omega
    ·exact ih (i+1) x hx
 exact this M 0)
theorem wpp (r:Nat) (D l:wac):wez r (D++l)=wez r D++wez r l:=by
 induction D with
 | nil=>rfl
 | cons x D ih =>
  obtain⟨s,y⟩:=x
  simp only[List.cons_append,wez]
  split
  ·exact ih
  ·rw[ih]; rfl
theorem wiR {c r:Nat} (hr:r < 1000000):∀ (M:List (Option Row)) (i:Nat),(∀ y:Row,some y∈M->1<=y.k/\∃ l:List PD,y.els=l.map PV.d)->wez r (wcb c i M)=wcb c i M
 | [],i,_=>rfl
 | none::M,i,h=>wiR hr M (i+1) fun y hy=>h y (List.mem_cons_of_mem _ hy)
 | some y::M,i,h=>by
  simp only[wcb,wez]
  rw[if_neg (Ne.symm (wlH hr)),wiR hr M (i+1) fun y hy=>h y (List.mem_cons_of_mem _ hy)]
  obtain⟨_,l,hl⟩:=h y (List.mem_cons_self ..)
  have:killL r y.els=y.els:=by rw[hl]; exact dl_kill r l
  rw[this]
@[go_sem] theorem hkill_dyn {c r:Nat} {M:List (Option Row)} [hM:DataM M] {l:wac} (hr:r < 1000000):wez r (waA c M l)=waA c M (wez r l):=by
 simp only[waA,wpp,wiR hr M 0 hM.data]
theorem woN {D l h:wac} (h1:wc9 D h) (h2:wc9 l h):wc9 (D++l) h:=by
 induction D with
 | nil=>exact h2
 | cons x D ih=>obtain⟨s,y⟩:=x; exact⟨h1.1,ih h1.2⟩
theorem wa8 {c:Nat} {M M':List (Option Row)} {l l2:wac} (e:M=M') (h:wc9 l (waA c M' l2)):wc9 (waA c M l) (waA c M' l2):=by
 subst e
 refine woN ?_ h
 have:∀ (N:List (Option Row)) (i:Nat),(∀ j,i<=j->(N[j - i]?).join=(M[j]?).join)->wc9 (wcb c i N) (waA c M l2):=fun N=>by
  induction N with
  | nil=>exact fun i _=>trivial
  | cons o N ih =>
   intro i hN
   have ih':=ih (i+1) fun j hj=>by
    have:=hN j (by omega)
    rw[show j - i=(j - (i+1))+1 by omega,List.getElem?_cons_succ]at this; exact this
   cases o with
   | none=>exact ih'
   | some y =>
    refine⟨?_,ih'⟩
    have h1:=hN i (Nat.le_refl _)
    simp at h1
    simp only[waA,wd0,wfz,Nat.zero_le,if_true,Nat.sub_zero,<-h1]
 exact this M 0 fun j _=>rfl
theorem wm3 {H0 D l:wac} (h1:wcw H0 D) (h2:wcw H0 l):wcw H0 (D++l):=by
 induction D with
 | nil=>exact h2
 | cons x D ih=>obtain⟨s,y⟩:=x; exact⟨h1.1,ih h1.2⟩
theorem waJ {c:Nat} {M:List (Option Row)} [hM:DataM M] {H0 l:wac} (h:wcw H0 l):wcw H0 (waA c M l):=by
 refine wm3 ?_ h
 have:∀ (N:List (Option Row)) (i:Nat),(∀ y:Row,some y∈N->1<=y.k/\∃ l:List PD,y.els=l.map PV.d)->wcw H0 (wcb c i N):=fun N=>by
  induction N with
  | nil=>exact fun i _=>trivial
  | cons o N ih =>
   intro i hN
   have ih':=ih (i+1) fun y hy=>hN y (List.mem_cons_of_mem _ hy)
   cases o with
   | none=>exact ih'
   | some y =>
    refine⟨?_,ih'⟩
    obtain⟨_,l,hl⟩:=hN y (List.mem_cons_self ..)
    show refsInL H0 y.els
    rw[hl,wiu]; trivial
 exact this M 0 hM.data
theorem wk4 {H:wac}:∀ {l:List PV},(∀ (i:Nat) (p:PV),l[i]? = some p->refsIn H p)->refsInL H l
 | [],_=>trivial
 | p::l,h=>⟨h 0 p rfl,wk4 fun i q hq=>h (i+1) q (by simpa using hq)⟩
@[go_sem] theorem nelF_length {α:Type} (c:Nat) (F:Nat->α->PV) (L:List α):(wbH c F L).length=L.length:=whh _ L
theorem weU {α:Type} (c:Nat) (F:Nat->α->PV) (L:List α) (i:Nat):(wbH c F L)[i]? = (L[i]?).map (F (sn c i)):=wie _ L i
attribute [go_sem] weU
theorem wrO {α:Type} {c:Nat} {F:Nat->α->PV} {L:List α} {i:Nat} {x:α} (h:L[i]? = some x) (p:PV):((wbH c F L).set i p)[i]? = some p:=by
 have:=(List.getElem?_eq_some_iff.1 h).1
 rw[List.getElem?_set]; simp[nelF_length,this]
theorem wbc {α:Type} {c:Nat} {F:Nat->α->PV} {g:α->Row} [NestF F] {L:List α} {l:wac} (hl:wcK l):refsInL (waA c (waN g L) l) (wbH c F L):=wk4 fun i p hp=>by
 rw[weU,Option.map_eq_some_iff]at hp
 obtain⟨x,h1,rfl⟩:=hp
 exact NestF.refs _ _ _ (by rw[wdy i hl,wcD,h1]; rfl)
theorem wsy {r:Nat} {l:List PV} (h:∀ (i:Nat) (p:PV),l[i]? = some p->p.kill r=p):killL r l=l:=by
 rw[wb3]
 apply List.ext_getElem?
 intro i
 rw[List.getElem?_map]
 cases hi:l[i]? with
 | none=>rfl
 | some p=>rw[Option.map_some,h i p hi]
@[go_sem] theorem nelF_kill {α:Type} {c r:Nat} {F:Nat->α->PV} [NestF F] {L:List α} (hr:r < 1000000):killL r (wbH c F L)=wbH c F L:=wsy fun i p hp=>by
 rw[weU,Option.map_eq_some_iff]at hp
 obtain⟨x,_,rfl⟩:=hp
 exact NestF.kill _ _ _ (Ne.symm (wlH hr))
@[go_sem] theorem nelF_kill_hole {α:Type} {c r i:Nat} {F:Nat->α->PV} [NestF F] {L:List α} {p:PV} (hr:r < 1000000):killL r ((wbH c F L).set i p)=(wbH c F L).set i (p.kill r):=by
 rw[wb3,List.map_set,<-wb3,nelF_kill hr]
theorem wjX {r:Nat}:∀ {l:List PV},(∀ (i:Nat) (p:PV),l[i]? = some p->r ∉ rowsOf p)->r ∉ rowsOfL l
 | [],_=>by simp[rowsOfL]
 | p::l,h=>by
  simp only[rowsOfL,List.mem_append,not_or]
  exact⟨h 0 p rfl,wjX fun i q hq=>h (i+1) q (by simpa using hq)⟩
theorem wjY {α:Type} {c r:Nat} {F:Nat->α->PV} [NestF F] {L:List α} (hr:r < 1000000):r ∉ rowsOfL (wbH c F L):=wjX fun i p hp hm=>by
 rw[weU,Option.map_eq_some_iff]at hp
 obtain⟨x,_,rfl⟩:=hp
 exact wlH hr (NestF.rows _ _ _ hm)
theorem wiD {α:Type} {c r i:Nat} {F:Nat->α->PV} [NestF F] {L:List α} {p:PV} (hr:r < 1000000) (hp:(rowsOf p).contains r=false):r ∉ rowsOfL ((wbH c F L).set i p):=wjX fun j q hq hm=>by
 rw[List.getElem?_set]at hq
 split at hq
 ·split at hq
  ·cases hq; simp at hp; exact hp hm
  ·cases hq
 ·rw[weU,Option.map_eq_some_iff]at hq
  obtain⟨x,_,rfl⟩:=hq
  exact wlH hr (NestF.rows _ _ _ hm)
theorem woj {α:Type} {c r:Nat} {F:Nat->α->PV} [NestF F] {L:List α} (hr:r < 1000000):(rowsOfL (wbH c F L)).contains r=false:=by simpa using wjY hr
theorem wnP (a b:List PV):rowsOfL (a++b)=rowsOfL a++rowsOfL b:=by
 induction a with
 | nil=>rfl
 | cons x a ih=>simp only[List.cons_append,rowsOfL,ih,List.append_assoc]
@[go_sem] theorem nelF_app_free {α:Type} {c r:Nat} {F:Nat->α->PV} [NestF F] {L:List α} {b:List PV} (hr:r < 1000000):(rowsOfL (wbH c F L++b)).contains r=(rowsOfL b).contains r:=by
 rw[wnP,List.contains_eq_mem,List.contains_eq_mem]
 have h:=wjY (c:=c) (F:=F) (L:=L) hr
 simp[h]
theorem wjg {α:Type} {c r i:Nat} {F:Nat->α->PV} [NestF F] {L:List α} {p:PV} (hr:r < 1000000) (hp:(rowsOf p).contains r=false):(rowsOfL ((wbH c F L).set i p)).contains r=false:=by simpa using wiD hr hp
theorem wm4 {α:Type} (g:α->Row) [NestG g] (x:α) (r:Nat):(rowsOfL (g x).els).contains r=false:=by
 obtain⟨_,l,h⟩:=NestG.data (g:=g) x
 rw[h]
 have e:rowsOfL (l.map PV.d)=[]:=dl_rows l
 rw[e]; rfl
theorem woO {r:Nat} {S:List Nat} {D l:wac} (h1:wgu r S D) (h2:wgu r S l):wgu r S (D++l):=by
 induction D with
 | nil=>exact h2
 | cons x D ih=>obtain⟨s,y⟩:=x; exact⟨h1.1,ih h1.2⟩
theorem wm5 {c r:Nat} {S:List Nat} {M:List (Option Row)} [hM:DataM M] {l:wac} (h:wgu r S l):wgu r S (waA c M l):=by
 refine woO ?_ h
 have:∀ (N:List (Option Row)) (i:Nat),(∀ y:Row,some y∈N->1<=y.k/\∃ l:List PD,y.els=l.map PV.d)->wgu r S (wcb c i N):=fun N=>by
  induction N with
  | nil=>exact fun i _=>trivial
  | cons o N ih =>
   intro i hN
   have ih':=ih (i+1) fun y hy=>hN y (List.mem_cons_of_mem _ hy)
   cases o with
   | none=>exact ih'
   | some y =>
    refine⟨.inr ?_,ih'⟩
    obtain⟨_,l,hl⟩:=hN y (List.mem_cons_self ..)
    have e:rowsOfL y.els=[]:=by rw[hl]; exact dl_rows l
    rw[e]; rfl
 exact this M 0 hM.data
end Go.Pv

