/- TariffDiagrams answers true for every input, as its tied card says: under the conditions of the card (Rows, Cards, Tie), no more. Part 5 of 7: by one AI agent and its programs; no person has read it. -/
import Derived.Test.YtnfnkllhjaemnaaDoorTariffDiagramsA
import Derived.Test.YtnfnkllhjaemnaaDoorTariffDiagramsB
import Derived.Test.YtnfnkllhjaemnaaDoorTariffDiagramsC
import Derived.Test.YtnfnkllhjaemnaaDoorTariffDiagramsD
import Derived.Lib.ItoaLen
import Derived.Shelf.Sort.Plain
import Derived.Shelf.Slices.CompactI
import Derived.Shelf.Slices.In.SortNone
import Derived.Test.YtnfnkllhjaemnaaDoorProg
import Derived.Shelf.Strconv.Itoa0
import Derived.Shelf.Strconv.Itoa1
import Derived.Shelf.LaysM
import Derived.Shelf.Strconv.Itoa2
import Derived.Shelf.Strconv.Itoa3
set_option linter.unusedSimpArgs false
set_option linter.unusedVariables false
set_option linter.all false

namespace Go.Pv
def wjp (r:Rule):Nat->List Int->Bool
 | _,[]=>true
 | mark,y::ys=>inB mark y r&&wjp r (mark+1) ys
theorem wpG {t:List Rule}:∀ (ys:List Int) (mark a:Nat),a < 2 ^ t.length->∀ i,(wf7 t mark a ys).testBit i=(a.testBit i&&((t[i]?).map fun r=>wjp r mark ys).getD false)
 | [],mark,a,ha,i=>by
  simp only[wf7,wjp]
  cases hi:t[i]? with
  | some r=>simp
  | none =>
   rw[List.getElem?_eq_none_iff]at hi
   have:a < 2 ^ i:=Nat.lt_of_lt_of_le ha (Nat.pow_le_pow_right (by omega) hi)
   rw[Nat.testBit_lt_two_pow this]; rfl
 | y::ys,mark,a,ha,i=>by
  rw[wf7,wpG ys (mark+1) _ (Nat.lt_of_le_of_lt Nat.and_le_left ha) i,Nat.testBit_and]
  unfold wdX
  rw[wiH]
  cases hi:t[i]? with
  | none=>simp
  | some r=>simp[hi,wjp,Bool.and_assoc]
theorem wsM {r:Rule} {mark:Nat} (h:mark < r.Bands.length) (x:Int):inB mark x r=wpv r.Bands[mark] x:=by
 have e:wat r mark=r.Bands[mark]:=by
  have h1:=wj5 h
  have h2:idx r.Bands (mark:Int)=some r.Bands[mark]:=by unfold idx; simp[h]
  rw[h2]at h1; simpa using h1.symm
 unfold inB wpv
 rw[e]
 have e1:decide (r.Bands[mark].Lo<=x)=!(decide (x < r.Bands[mark].Lo)):=by
  by_cases h:r.Bands[mark].Lo<=x
  ·rw[decide_eq_true h,decide_eq_false (by omega)]; rfl
  ·rw[decide_eq_false h,decide_eq_true (by omega)]; rfl
 have e2:decide (x < r.Bands[mark].Hi)=!(decide (r.Bands[mark].Hi<=x)):=by
  by_cases h:x < r.Bands[mark].Hi
  ·rw[decide_eq_true h,decide_eq_false (by omega)]; rfl
  ·rw[decide_eq_false h,decide_eq_true (by omega)]; rfl
 rw[e1,e2]
theorem wor (r:Rule):∀ (ys:List Int) (mark:Nat),mark+ys.length=r.Bands.length->wjp r mark ys=whZ (r.Bands.drop mark) ys
 | [],mark,h=>by
  cases r.Bands.drop mark <;> rfl
 | y::ys,mark,h=>by
  simp only[List.length_cons]at h
  rw[List.drop_eq_getElem_cons (by omega)]
  simp only[wjp,whZ]
  rw[wsM (by omega) y,wor r ys (mark+1) (by omega)]
theorem wg9 {p:Rule->Bool} {A:Nat}:∀ (n i:Nat) (l:List Rule),(∀ j,A.testBit (i+j)=((l[j]?).map p).getD false)->l.length<=n->wb5 A i n=(l.findIdx? p).map (i+·)
 | 0,i,l,_,hl=>by
  have:l=[]:=List.length_eq_zero_iff.1 (by omega)
  subst this; rfl
 | n+1,i,[],h,_=>by
  have h0:=h 0
  simp only[Nat.add_zero,List.getElem?_nil,Option.map_none,Option.getD_none]at h0
  simp only[wb5,h0,cond_false]
  rw[wg9 (p:=p) n (i+1) [] (fun j=>by have:=h (j+1); rw[show i+(j+1)=i+1+j by omega]at this; rw[this]; simp) (by simp)]
  rfl
 | n+1,i,x::l,h,hl=>by
  have h0:=h 0
  simp only[Nat.add_zero,List.getElem?_cons_zero,Option.map_some,Option.getD_some]at h0
  simp only[wb5,h0,List.findIdx?_cons]
  cases p x with
  | true=>rfl
  | false =>
   rw[cond_false,wg9 (p:=p) n (i+1) l (fun j=>by have:=h (j+1); rw[show i+(j+1)=i+1+j by omega]at this; rw[this,List.getElem?_cons_succ]) (by simp only[List.length_cons]at hl; omega)]
   cases l.findIdx? p with
   | none=>rfl
   | some j=>simp; omega
theorem wpH (t:List Rule) (i:Nat):(web t).testBit i=decide (i < t.length):=by
 unfold web; rw[Nat.testBit_two_pow_sub_one]
theorem wpI {k:Nat} {t:List Rule} (ht:t.length<=24/\∀ r∈t,wb9 (k:Int) r=true) {xs:List Int} (hx:xs.length=k):wb6 (wf7 t 0 (web t) xs)=wnR t xs:=by
 have h:∀ j,(wf7 t 0 (web t) xs).testBit (0+j)=((t[j]?).map fun r=>whZ r.Bands xs).getD false:=fun j=>by
  rw[Nat.zero_add,wpG xs 0 (web t) (wjm t) j,wpH]
  cases hj:t[j]? with
  | none=>simp
  | some r =>
   obtain⟨hlt,e⟩:=List.getElem?_eq_some_iff.1 hj
   have hm:r∈t:=by rw[<-e]; exact List.getElem_mem hlt
   have hl:=wmx (ht.2 r hm)
   simp only[Option.map_some,Option.getD_some,decide_eq_true hlt,Bool.true_and]
   rw[wor r xs 0 (by omega),List.drop_zero]
 unfold wb6 wnR
 rw[wg9 24 0 t h ht.1]
 cases t.findIdx? (fun r=>whZ r.Bands xs)with
 | none=>rfl
 | some j=>simp
end Go.Pv

namespace Go.Pv
end Go.Pv

namespace Go.Pv
def wlN (t:List Rule) (xs:List Int):Int:=match t.find? (fun r=>whZ r.Bands xs)with | some r=>r.Code | none=>-1
def wt8 (k:Nat) (s t:List Rule):Prop:=∀ xs,Pts k xs->wlN s xs=wlN t xs
theorem wpJ {p:Rule->Bool}:∀ (t:List Rule),(match t.findIdx? p with | some j=>t[j]? | none=>none)=t.find? p
 | []=>rfl
 | x::t=>by
  rw[List.findIdx?_cons,List.find?_cons]
  cases p x with
  | true=>rfl
  | false =>
   have ih:=wpJ (p:=p) t
   cases h:t.findIdx? p with
   | none=>rw[h]at ih; simpa using ih
   | some j=>rw[h]at ih; simpa using ih
theorem wqH {k:Nat} {t:List Rule} (ht:t.length<=24/\∀ r∈t,wb9 (k:Int) r=true) {xs:List Int} (hx:xs.length=k):wgG t (wf7 t 0 (web t) xs)=wlN t xs:=by
 have h:=wpJ (p:=fun r=>whZ r.Bands xs) t
 unfold wgG wlN
 rw[wpI ht hx]
 unfold wnR
 cases hf:t.findIdx? (fun r=>whZ r.Bands xs)with
 | none=>rw[hf]at h; simp only at h; rw[<-h]; rfl
 | some j =>
  rw[hf]at h
  simp only at h
  obtain⟨hj,_⟩:=List.findIdx?_eq_some_iff_getElem.1 hf
  rw[<-h,List.getElem?_eq_getElem hj]
  have:¬ ((j:Int) < 0):=by omega
  simp only[if_neg this,Int.toNat_natCast]
  rw[List.getD,List.getElem?_eq_getElem hj]; rfl
theorem wrX {k:Int} {r:Rule} (h:wb9 k r=true):0<=r.Code:=by
 unfold wb9 at h
 simp only[Bool.and_eq_true,decide_eq_true_eq]at h
 exact h.1.1.2
end Go.Pv

namespace Go.Pv
def sel:List Int->List Int->Int->Int
 | c::cs,t::ts,x=>if x < c then t else sel cs ts x
 | _,_,_=>-1
def wbW (nd:Node) (xs:List Int):Int:=sel nd.Cuts nd.To (xs.getD nd.Mark.toNat 0)
def evF (N:List Node):Nat->Int->List Int->Int
 | 0,n,_=>n
 | f+1,n,xs=>if n < 0 then n else evF N f (wbW (N.getD n.toNat default) xs) xs
def ev (N:List Node) (n:Int) (xs:List Int):Int:=evF N 5 n xs
def wbK:Int->List Int->List Int->Prop
 | u,c::cs,t::ts=>u < c/\((cs=[]/\ts=[]/\c=1000)\/(ts.head?≠some t/\wbK c cs ts))
 | _,_,_=>False
theorem wfB:∀ {cs ts:List Int} {u:Int},wbK u cs ts->u < 1000
 | [],_,_,h=>by simp[wbK]at h
 | _::_,[],_,h=>by simp[wbK]at h
 | c::cs,t::ts,u,h=>by
  obtain⟨h1,h2⟩:=h
  rcases h2 with ⟨_,_,h3⟩ | ⟨_,h3⟩
  ·omega
  ·have:=wfB h3; omega
theorem weZ:∀ {cs ts:List Int} {u x:Int},wbK u cs ts->x < 1000->sel cs ts x∈ts
 | [],_,_,_,h,_=>by simp[wbK]at h
 | _::_,[],_,_,h,_=>by simp[wbK]at h
 | c::cs,t::ts,u,x,h,hx=>by
  obtain⟨h1,h2⟩:=h
  unfold sel
  by_cases hc:x < c
  ·rw[if_pos hc]; exact List.mem_cons_self ..
  ·rw[if_neg hc]
   rcases h2 with ⟨_,_,h3⟩ | ⟨_,h3⟩
   ·omega
   ·exact List.mem_cons_of_mem _ (weZ h3 hx)
theorem wec:∀ {cs ts:List Int} {u:Int},wbK u cs ts->cs.length=ts.length
 | [],_,_,h=>by simp[wbK]at h
 | _::_,[],_,h=>by simp[wbK]at h
 | c::cs,t::ts,u,h=>by
  obtain⟨h1,h2⟩:=h
  rcases h2 with ⟨h3,h4,_⟩ | ⟨_,h3⟩
  ·subst h3 h4; rfl
  ·simp[wec h3]
theorem wsN {c t:Int} {cs ts:List Int} {u:Int} (h:wbK u (c::cs) (t::ts)) (h2:2<=(t::ts).length):∃ c2 cs2 t2 ts2,cs=c2::cs2/\ts=t2::ts2/\t≠t2/\c < c2/\c < 1000:=by
 obtain⟨h1,h3⟩:=h
 rcases h3 with ⟨_,h4,_⟩ | ⟨h4,h5⟩
 ·subst h4; simp at h2
 ·have hc:=wfB h5
  match cs,ts,h4,h5 with
  | c2::cs2,t2::ts2,h4,h5=>exact⟨c2,cs2,t2,ts2,rfl,rfl,fun e=>h4 (by rw[e]; rfl),h5.1,hc⟩
theorem wos {R:Int->Int->Prop} {T T':List Int} (hl:∀ a b c,a∈T->b∈T->R a c->R b c->a=b) (hr:∀ a c d,c∈T'->d∈T'->R a c->R a d->c=d):∀ (cs ts cs' ts':List Int) (u:Int),wbK u cs ts->wbK u cs' ts'->(∀ t∈ts,t∈T)->(∀ t∈ts',t∈T')->(∀ x,u<=x->x < 1000->R (sel cs ts x) (sel cs' ts' x))->cs=cs'/\ts.length=ts'.length/\∀ (i:Nat) a b,ts[i]? = some a->ts'[i]? = some b->R a b
 | [],_,_,_,_,h,_,_,_,_=>by simp[wbK]at h
 | _::_,[],_,_,_,h,_,_,_,_=>by simp[wbK]at h
 | _::_,_::_,[],_,_,_,h,_,_,_=>by simp[wbK]at h
 | _::_,_::_,_::_,[],_,_,h,_,_,_=>by simp[wbK]at h
 | c::cs,t::ts,c'::cs',t'::ts',u,h,h',hT,hT',hR=>by
  have h0:=h
  have h0':=h'
  obtain⟨h1,h2⟩:=h
  obtain⟨h1',h2'⟩:=h'
  have hu:=wfB h0
  have hRu:R t t':=by
   have:=hR u (Int.le_refl _) hu
   simpa only[sel,if_pos h1,if_pos h1']using this
  have hcc:c=c':=by
   rcases Int.lt_trichotomy c c' with hlt | heq | hgt
   ·exfalso
    have hc1:c'<=1000:=by
     rcases h2' with ⟨_,_,h3⟩ | ⟨_,h3⟩
     ·omega
     ·have:=wfB h3; omega
    rcases h2 with ⟨_,_,h3⟩ | ⟨h3,h4⟩
    ·omega
    ·match cs,ts,h3,h4 with
     | c2::cs2,t2::ts2,h3,h4 =>
      have hx:=hR c (by omega) (by omega)
      have hlt2:=h4.1
      simp only[sel,if_pos hlt2,if_pos hlt,if_neg (Int.lt_irrefl c)]at hx
      have:=hl t t2 t' (hT t (by simp)) (hT t2 (by simp)) hRu hx
      exact h3 (by rw[this]; rfl)
   ·exact heq
   ·exfalso
    have hc1:c<=1000:=by
     rcases h2 with ⟨_,_,h3⟩ | ⟨_,h3⟩
     ·omega
     ·have:=wfB h3; omega
    rcases h2' with ⟨_,_,h3⟩ | ⟨h3,h4⟩
    ·omega
    ·match cs',ts',h3,h4 with
     | c2::cs2,t2::ts2,h3,h4 =>
      have hx:=hR c' (by omega) (by omega)
      have hlt2:=h4.1
      simp only[sel,if_pos hlt2,if_pos hgt,if_neg (Int.lt_irrefl c')]at hx
      have:=hr t t' t2 (hT' t' (by simp)) (hT' t2 (by simp)) hRu hx
      exact h3 (by rw[this]; rfl)
  subst hcc
  rcases h2 with ⟨h3,h4,h5⟩ | ⟨h3,h4⟩
  ·rcases h2' with ⟨h3',h4',_⟩ | ⟨_,h4'⟩
   ·subst h3 h4 h3' h4'
    refine⟨rfl,rfl,fun i a b ha hb=>?_⟩
    cases i with
    | zero=>simp at ha hb; subst ha hb; exact hRu
    | succ i=>simp at ha
   ·have:=wfB h4'; omega
  ·rcases h2' with ⟨_,_,h5'⟩ | ⟨_,h4'⟩
   ·have:=wfB h4; omega
   ·obtain⟨e1,e2,e3⟩:=wos hl hr cs ts cs' ts' c h4 h4' (fun x hx=>hT x (List.mem_cons_of_mem _ hx)) (fun x hx=>hT' x (List.mem_cons_of_mem _ hx)) (fun x hx hx2=>by
     have:=hR x (by omega) hx2
     simpa only[sel,if_neg (show ¬ x < c by omega)]using this)
    refine⟨by rw[e1],by simp[e2],fun i a b ha hb=>?_⟩
    cases i with
    | zero=>simp at ha hb; subst ha hb; exact hRu
    | succ i=>exact e3 i a b (by simpa using ha) (by simpa using hb)
def Valid (N:List Node) (m:Nat) (n:Int):Prop:=(n < 0/\-101<=n)\/∃ x,0<=n/\N[n.toNat]? = some x/\(m:Int)<=x.Mark
theorem Valid.mono {N:List Node} {m m':Nat} {n:Int} (h:Valid N m n) (hm:m'<=m):Valid N m' n:=by
 rcases h with h | ⟨x,h1,h2,h3⟩
 ·exact .inl h
 ·exact .inr ⟨x,h1,h2,by omega⟩
structure GoodN (k:Nat) (N:List Node):Prop where
 mark:∀ (i:Nat) x,N[i]? = some x->0<=x.Mark/\x.Mark < (k:Int)
 runs:∀ (i:Nat) x,N[i]? = some x->wbK 0 x.Cuts x.To
 two:∀ (i:Nat) x,N[i]? = some x->2<=x.To.length
 kids:∀ (i:Nat) x,N[i]? = some x->∀ t∈x.To,Valid N (x.Mark.toNat+1) t
 uniq:∀ (i j:Nat) x,N[i]? = some x->N[j]? = some x->i=j
structure OkN (k:Nat) (N:List Node):Prop where
 mark:∀ (i:Nat) x,N[i]? = some x->0<=x.Mark/\x.Mark < (k:Int)
 runs:∀ (i:Nat) x,N[i]? = some x->wbK 0 x.Cuts x.To
 kids:∀ (i:Nat) x,N[i]? = some x->∀ t∈x.To,Valid N (x.Mark.toNat+1) t
theorem GoodN.ok {k:Nat} {N:List Node} (h:GoodN k N):OkN k N:=⟨h.mark,h.runs,h.kids⟩
theorem wcs {N:List Node} {i:Nat} {x:Node} (h:N[i]? = some x):N.getD i default=x:=by
 rw[List.getD,h]; rfl
theorem wdS {k:Nat} {xs:List Int} (h:Pts k xs) (i:Nat):0<=xs.getD i 0/\xs.getD i 0 < 1000:=by
 rw[List.getD]
 cases hi:xs[i]? with
 | none=>simp
 | some y=>exact h.2 y (List.mem_of_getElem? hi)
theorem wnp {k:Nat} {N:List Node} (hN:OkN k N) {xs:List Int} (hx:Pts k xs):∀ (d:Nat) (n:Int) (f f':Nat),Valid N (k - d) n->d < f->d < f'->evF N f n xs=evF N f' n xs
 | d,n,0,_,_,h,_=>by omega
 | d,n,_+1,0,_,_,h=>by omega
 | d,n,f+1,f'+1,hv,h,h'=>by
  unfold evF
  rcases hv with ⟨h1,_⟩ | ⟨x,h1,h2,h3⟩
  ·rw[if_pos h1,if_pos h1]
  ·rw[if_neg (by omega),if_neg (by omega),wcs h2]
   have hm:=hN.mark _ x h2
   have hk:wbW x xs∈x.To:=weZ (hN.runs _ x h2) (wdS hx _).2
   have hv2:=hN.kids _ x h2 _ hk
   cases d with
   | zero=>omega
   | succ d=>exact wnp hN hx d _ f f' (hv2.mono (by omega)) (by omega) (by omega)
theorem wgf {N:List Node} {n:Int} {xs:List Int} (h:n < 0):ev N n xs=n:=by
 unfold ev evF; rw[if_pos h]
theorem wfC {k:Nat} (hk:k<=4) {N:List Node} (hN:OkN k N) {xs:List Int} (hx:Pts k xs) {n:Int} {x:Node} (h0:0<=n) (h:N[n.toNat]? = some x):ev N n xs=ev N (wbW x xs) xs:=by
 have hm:=hN.mark _ x h
 have hkid:wbW x xs∈x.To:=weZ (hN.runs _ x h) (wdS hx _).2
 have hv:=hN.kids _ x h _ hkid
 have e:ev N n xs=evF N 4 (wbW x xs) xs:=by
  unfold ev
  rw[evF,if_neg (by omega),wcs h]
 rw[e]
 exact wnp hN hx (k - (x.Mark.toNat+1)) _ 4 5 (hv.mono (by omega)) (by omega) (by omega)
theorem wlO {k:Nat} {xs:List Int} (h:Pts k xs) (p:Nat) {y:Int} (h0:0<=y) (h1:y < 1000):Pts k (xs.set p y):=by
 refine⟨by rw[List.length_set]; exact h.1,fun x hx=>?_⟩
 rcases List.mem_or_eq_of_mem_set hx with h2 | h2
 ·exact h.2 x h2
 ·omega
theorem wf8 {k:Nat} (hk:k<=4) {N:List Node} (hN:OkN k N) {xs:List Int} (hx:Pts k xs) {p:Nat} {y:Int} (h0:0<=y) (h1:y < 1000):∀ (d:Nat) (n:Int),Valid N (p+1) n->Valid N (k - d) n->ev N n (xs.set p y)=ev N n xs
 | d,n,hv,hd=>by
  rcases hv with ⟨g1,_⟩ | ⟨x,g1,g2,g3⟩
  ·rw[wgf g1,wgf g1]
  ·have hm:=hN.mark _ x g2
   rw[wfC hk hN (wlO hx p h0 h1) g1 g2,wfC hk hN hx g1 g2]
   have e:wbW x (xs.set p y)=wbW x xs:=by
    unfold wbW
    congr 1
    rw[List.getD,List.getD,List.getElem?_set_ne (by omega)]
   rw[e]
   have hkid:wbW x xs∈x.To:=weZ (hN.runs _ x g2) (wdS hx _).2
   have hv2:=hN.kids _ x g2 _ hkid
   rcases hd with ⟨q1,_⟩ | ⟨x',q1,q2,q3⟩
   ·omega
   ·rw[g2]at q2
    cases q2
    cases d with
    | zero=>omega
    | succ d=>exact wf8 hk hN hx h0 h1 d _ (hv2.mono (by omega)) (hv2.mono (by omega))
def wdK (k:Nat) (N N':List Node) (n m:Int):Prop:=∀ xs,Pts k xs->ev N n xs=ev N' m xs
def wrm (k:Nat) (N N':List Node) (n m:Int):Prop:=(n < 0/\n=m)\/∃ x x',0<=n/\0<=m/\N[n.toNat]? = some x/\N'[m.toNat]? = some x'/\x.Mark=x'.Mark/\x.Cuts=x'.Cuts/\x.To.length=x'.To.length/\∀ (i:Nat) a b,x.To[i]? = some a->x'.To[i]? = some b->wdK k N N' a b
theorem wsO (k:Nat):Pts k (List.replicate k 0):=⟨by simp,fun x hx=>by have:=(List.mem_replicate.1 hx).2; omega⟩
theorem wme {k:Nat} (hk:k<=4) {N:List Node} (hN:GoodN k N) {n:Int} {x:Node} (h0:0<=n) (h:N[n.toNat]? = some x) (hinj:∀ a b,Valid N (x.Mark.toNat+1) a->Valid N (x.Mark.toNat+1) b->wdK k N N a b->a=b) {N':List Node} (hN':OkN k N') {m:Int} (hm:Valid N' (x.Mark.toNat+1) m) (hs:wdK k N N' n m):False:=by
 have hmk:=hN.mark _ x h
 have hr:=hN.runs _ x h
 have h2:=hN.two _ x h
 have hkids:=hN.kids _ x h
 obtain⟨hc1,hc2⟩:∃ c cs,x.Cuts=c::cs:=by
  cases hcs:x.Cuts with
  | nil=>rw[hcs]at hr; simp[wbK]at hr
  | cons c cs=>exact⟨c,cs,rfl⟩
 obtain⟨cs,hc2⟩:=hc2
 obtain⟨t,ts,ht⟩:∃ t ts,x.To=t::ts:=by
  cases hts:x.To with
  | nil=>rw[hts]at h2; simp at h2
  | cons t ts=>exact⟨t,ts,rfl⟩
 rw[hc2,ht]at hr
 rw[ht]at h2 hkids
 obtain⟨c2,cs2,t2,ts2,e1,e2,e3,e4,e5⟩:=wsN hr h2
 subst e1 e2
 have hne:¬ wdK k N N t t2:=fun hsm=>e3 (hinj t t2 (hkids t (by simp)) (hkids t2 (by simp)) hsm)
 refine hne fun xs hx=>?_
 have hp0:=wlO hx x.Mark.toNat (y:=0) (by omega) (by omega)
 have hp1:=wlO hx x.Mark.toNat (y:=hc1) (by have:=hr.1; omega) e5
 have hlen:x.Mark.toNat < xs.length:=by have:=hx.1; omega
 have k0:wbW x (xs.set x.Mark.toNat 0)=t:=by
  unfold wbW
  rw[List.getD,List.getElem?_set_self hlen,hc2,ht]
  simp only[Option.getD_some,sel]
  rw[if_pos hr.1]
 have k1:wbW x (xs.set x.Mark.toNat hc1)=t2:=by
  unfold wbW
  rw[List.getD,List.getElem?_set_self hlen,hc2,ht]
  simp only[Option.getD_some,sel]
  rw[if_neg (by omega),if_pos e4]
 have hv:∀ a,Valid N (x.Mark.toNat+1) a->Valid N (k - k) a:=fun a ha=>ha.mono (by omega)
 have hv':∀ a,Valid N' (x.Mark.toNat+1) a->Valid N' (k - k) a:=fun a ha=>ha.mono (by omega)
 have a0:=hs _ hp0
 have a1:=hs _ hp1
 have hrr:=hr.1
 rw[wfC hk hN.ok hp0 h0 h,k0,wf8 hk hN.ok hx (by omega) (by omega) k t (hkids t (by simp)) (hv t (hkids t (by simp))),wf8 hk hN' hx (by omega) (by omega) k m hm (hv' m hm)]at a0
 rw[wfC hk hN.ok hp1 h0 h,k1,wf8 hk hN.ok hx (by omega) e5 k t2 (hkids t2 (by simp)) (hv t2 (hkids t2 (by simp))),wf8 hk hN' hx (by omega) e5 k m hm (hv' m hm)]at a1
 rw[a0,a1]
theorem wrn {k:Nat} (hk:k<=4):∀ (d:Nat),(∀ N N',GoodN k N->GoodN k N'->∀ n m,Valid N (k - d) n->Valid N' (k - d) m->wdK k N N' n m->wrm k N N' n m)/\(∀ N,GoodN k N->∀ n m,Valid N (k - d) n->Valid N (k - d) m->wdK k N N n m->n=m)
 | 0=>by
  have lf:∀ N,GoodN k N->∀ n,Valid N (k - 0) n->n < 0:=fun N hN n hv=>by
   rcases hv with ⟨h,_⟩ | ⟨x,h1,h2,h3⟩
   ·exact h
   ·have:=hN.mark _ x h2; omega
  have eq:∀ N N',GoodN k N->GoodN k N'->∀ n m,Valid N (k - 0) n->Valid N' (k - 0) m->wdK k N N' n m->n < 0/\n=m:=fun N N' hN hN' n m hn hm hs=>by
   have h1:=lf N hN n hn
   have h2:=lf N' hN' m hm
   have h3:=hs _ (wsO k)
   rw[wgf h1,wgf h2]at h3
   exact⟨h1,h3⟩
  exact⟨fun N N' hN hN' n m hn hm hs=>.inl (eq N N' hN hN' n m hn hm hs),fun N hN n m hn hm hs=>(eq N N hN hN n m hn hm hs).2⟩
 | d+1=>by
  obtain⟨ihC,ihI⟩:=wrn hk d
  have C:∀ N N',GoodN k N->GoodN k N'->∀ n m,Valid N (k - (d+1)) n->Valid N' (k - (d+1)) m->wdK k N N' n m->wrm k N N' n m:=fun N N' hN hN' n m hn hm hs=>by
   by_cases hdk:d < k
   ·-- marks
    have up:∀ N,GoodN k N->∀ n,Valid N (k - (d+1)) n->Valid N (k - d) n\/∃ x,0<=n/\N[n.toNat]? = some x/\x.Mark=((k - (d+1):Nat):Int):=fun N hN n hv=>by
     rcases hv with h | ⟨x,h1,h2,h3⟩
     ·exact .inl (.inl h)
     ·by_cases he:x.Mark=((k - (d+1):Nat):Int)
      ·exact .inr ⟨x,h1,h2,he⟩
      ·exact .inl (.inr ⟨x,h1,h2,by omega⟩)
    rcases up N hN n hn with hn2 | ⟨x,n0,nx,nm⟩
    ·rcases up N' hN' m hm with hm2 | ⟨x',m0,mx,mm⟩
     ·exact ihC N N' hN hN' n m hn2 hm2 hs
     ·exfalso
      have e:x'.Mark.toNat+1=k - d:=by omega
      exact wme hk hN' m0 mx (fun a b ha hb=>ihI N' hN' a b (by rw[<-e]; exact ha) (by rw[<-e]; exact hb)) hN.ok (m:=n) (by rw[e]; exact hn2) (fun xs hx=>(hs xs hx).symm)
    ·have e:x.Mark.toNat+1=k - d:=by omega
     rcases up N' hN' m hm with hm2 | ⟨x',m0,mx,mm⟩
     ·exfalso
      exact wme hk hN n0 nx (fun a b ha hb=>ihI N hN a b (by rw[<-e]; exact ha) (by rw[<-e]; exact hb)) hN'.ok (m:=m) (by rw[e]; exact hm2) hs
     ·have e':x'.Mark.toNat+1=k - d:=by omega
      have key:∀ y,0<=y->y < 1000->wdK k N N' (sel x.Cuts x.To y) (sel x'.Cuts x'.To y):=fun y y0 y1 xs hx=>by
       have hp:=wlO hx x.Mark.toNat y0 y1
       have hlen:x.Mark.toNat < xs.length:=by have:=hx.1; omega
       have h3:=hs _ hp
       have kk:wbW x (xs.set x.Mark.toNat y)=sel x.Cuts x.To y:=by
        unfold wbW; rw[List.getD,List.getElem?_set_self hlen]; rfl
       have kk':wbW x' (xs.set x.Mark.toNat y)=sel x'.Cuts x'.To y:=by
        unfold wbW; rw[show x'.Mark.toNat=x.Mark.toNat by omega,List.getD,List.getElem?_set_self hlen]; rfl
       have v1:=hN.kids _ x nx _ (weZ (hN.runs _ x nx) y1)
       have v2:=hN'.kids _ x' mx _ (weZ (hN'.runs _ x' mx) y1)
       rw[wfC hk hN.ok hp n0 nx,wfC hk hN'.ok hp m0 mx,kk,kk',wf8 hk hN.ok hx y0 y1 k _ v1 (v1.mono (by omega)),wf8 hk hN'.ok hx y0 y1 k _ (by rw[show x.Mark.toNat=x'.Mark.toNat by omega]; exact v2) (v2.mono (by omega))]at h3
       exact h3
      obtain⟨u1,u2,u3⟩:=wos (R:=wdK k N N') (T:=x.To) (T':=x'.To) (fun a b c ha hb h1 h2=>ihI N hN a b (by rw[<-e]; exact hN.kids _ x nx a ha) (by rw[<-e]; exact hN.kids _ x nx b hb) (fun xs hx=>(h1 xs hx).trans (h2 xs hx).symm))
       (fun a c c' hc hd h1 h2=>ihI N' hN' c c' (by rw[<-e']; exact hN'.kids _ x' mx c hc) (by rw[<-e']; exact hN'.kids _ x' mx c' hd) (fun xs hx=>(h1 xs hx).symm.trans (h2 xs hx))) x.Cuts x.To x'.Cuts x'.To 0 (hN.runs _ x nx) (hN'.runs _ x' mx) (fun _ h=>h) (fun _ h=>h) (fun y y0 y1=>key y y0 y1)
      exact .inr ⟨x,x',n0,m0,nx,mx,by omega,u1,u2,u3⟩
   ·have e:k - (d+1)=k - d:=by omega
    rw[e]at hn hm
    exact ihC N N' hN hN' n m hn hm hs
  refine⟨C,fun N hN n m hn hm hs=>?_⟩
  by_cases hdk:d < k
  ·rcases C N N hN hN n m hn hm hs with ⟨_,h⟩ | ⟨x,x',n0,m0,nx,mx,e1,e2,e3,e4⟩
   ·exact h
   ·have vn:∀ a∈x.To,Valid N (k - d) a:=fun a ha=>by
     have hv:=hN.kids _ x nx a ha
     rcases hn with ⟨h,_⟩ | ⟨y,y1,y2,y3⟩
     ·omega
     ·rw[nx]at y2; cases y2
      exact hv.mono (by omega)
    have vm:∀ a∈x'.To,Valid N (k - d) a:=fun a ha=>by
     have hv:=hN.kids _ x' mx a ha
     rcases hm with ⟨h,_⟩ | ⟨y,y1,y2,y3⟩
     ·omega
     ·rw[mx]at y2; cases y2
      exact hv.mono (by omega)
    have et:x.To=x'.To:=by
     apply List.ext_getElem?
     intro i
     cases ha:x.To[i]? with
     | none =>
      rw[List.getElem?_eq_none_iff]at ha
      rw[List.getElem?_eq_none (by omega)]
     | some a =>
      have hi:=(List.getElem?_eq_some_iff.1 ha).1
      have hb:x'.To[i]? = some (x'.To[i]'(by omega)):=List.getElem?_eq_getElem (by omega)
      rw[hb]
      congr 1
      exact ihI N hN a _ (vn a (List.mem_of_getElem? ha)) (vm _ (List.getElem_mem _)) (e4 i a _ ha hb)
    have ex:x=x':=by
     cases x; cases x'
     simp only at e1 e2 et
     rw[e1,e2,et]
    rw[<-ex]at mx
    have:=hN.uniq _ _ x nx mx
    omega
  ·have e:k - (d+1)=k - d:=by omega
   rw[e]at hn hm
   exact ihI N hN n m hn hm hs
theorem wiJ {k:Nat} (hk:k<=4) {N N':List Node} (hN:GoodN k N) (hN':GoodN k N') {n m:Int} (hn:Valid N 0 n) (hm:Valid N' 0 m) (hs:wdK k N N' n m):wrm k N N' n m :=
 (wrn hk k).1 N N' hN hN' n m (by rw[Nat.sub_self]; exact hn) (by rw[Nat.sub_self]; exact hm) hs
theorem wqI {k:Nat} (hk:k<=4) {N:List Node} (hN:GoodN k N) {n m:Int} (hn:Valid N 0 n) (hm:Valid N 0 m) (hs:wdK k N N n m):n=m :=
 (wrn hk k).2 N hN n m (by rw[Nat.sub_self]; exact hn) (by rw[Nat.sub_self]; exact hm) hs
end Go.Pv

namespace Go.Pv
open Go.Lib
theorem whm {u:Nat} (h:u < 10):(UInt8.ofNat (48+u)).toNat=48+u:=by
 rw[UInt8.toNat_ofNat']; omega
theorem whN (u:Nat):∀ b∈decDigits u,48<=b.toNat/\b.toNat<=57:=by
 induction u using Nat.strongRecOn with
 | ind u ih =>
  intro b hb
  rw[decDigits]at hb
  split at hb
  ·rename_i h
   simp only[List.mem_singleton]at hb
   subst hb
   rw[whm h]; omega
  ·rename_i h
   rcases List.mem_append.1 hb with hb | hb
   ·exact ih (u / 10) (by omega) b hb
   ·simp only[List.mem_singleton]at hb
    subst hb
    rw[whm (by omega)]; omega
theorem wpK (u:Nat):decDigits u≠[]:=by
 rw[decDigits]; split <;> simp
def wsP (l:List UInt8):Nat:=l.foldl (fun a b=>a*10+(b.toNat - 48)) 0
theorem wku (u:Nat):wsP (decDigits u)=u:=by
 induction u using Nat.strongRecOn with
 | ind u ih =>
  rw[decDigits]
  split
  ·rename_i h
   unfold wsP
   simp only[List.foldl_cons,List.foldl_nil]
   rw[whm h]; omega
  ·rename_i h
   have:=ih (u / 10) (by omega)
   unfold wsP at this ⊢
   rw[List.foldl_append,this]
   simp only[List.foldl_cons,List.foldl_nil]
   rw[whm (by omega)]; omega
theorem wkv {u v:Nat} (h:decDigits u=decDigits v):u=v:=by
 rw[<-wku u,<-wku v,h]
theorem wmA (n:Int):∀ b∈itoa n,b.toNat≠32/\b.toNat≠124:=by
 intro b hb
 unfold itoa at hb
 split at hb
 ·rcases List.mem_cons.1 hb with rfl | hb
  ·decide
  ·have:=whN _ b hb; omega
 ·have:=whN _ b hb; omega
theorem wqJ (n:Int):itoa n≠[]:=by
 unfold itoa
 split
 ·simp
 ·exact wpK _
theorem wsQ {n m:Int} (h:itoa n=itoa m):n=m:=by
 have key:∀ u v:Nat,decDigits u≠45::decDigits v:=fun u v he=>by
  have:=whN u 45 (by rw[he]; simp)
  have e:(45:UInt8).toNat=45:=by decide
  omega
 unfold itoa at h
 by_cases hn:n < 0
 ·by_cases hm:m < 0
  ·rw[if_pos hn,if_pos hm]at h
   have:=wkv (List.cons.inj h).2
   omega
  ·rw[if_pos hn,if_neg hm]at h
   exact absurd h.symm (key _ _)
 ·by_cases hm:m < 0
  ·rw[if_neg hn,if_pos hm]at h
   exact absurd h (key _ _)
  ·rw[if_neg hn,if_neg hm]at h
   have:=wkv h
   omega
theorem wpM {s:UInt8}:∀ {a b x y:List UInt8},s ∉ a->s ∉ b->a++s::x=b++s::y->a=b/\x=y
 | [],[],_,_,_,_,h=>⟨rfl,(List.cons.inj h).2⟩
 | [],c::b,_,_,_,hb,h=>absurd (List.cons.inj h).1 (fun e=>hb (by rw[<-e]; simp))
 | c::a,[],_,_,ha,_,h=>absurd (List.cons.inj h).1 (fun e=>ha (by rw[e]; simp))
 | c::a,d::b,_,_,ha,hb,h=>by
  obtain⟨h1,h2⟩:=List.cons.inj h
  obtain⟨h3,h4⟩:=wpM (fun h=>ha (List.mem_cons_of_mem _ h)) (fun h=>hb (List.mem_cons_of_mem _ h)) h2
  exact⟨by rw[h1,h3],h4⟩
def wdY (l:List Int):List UInt8:=l.flatMap fun n=>itoa n++[32]
theorem wj9:∀ {l m:List Int} {r s:List UInt8},wdY l++124::r=wdY m++124::s->l=m/\r=s
 | [],[],_,_,h=>⟨rfl,(List.cons.inj h).2⟩
 | [],n::m,r,s,h=>by
  exfalso
  simp only[wdY,List.flatMap_nil,List.nil_append,List.flatMap_cons,List.append_assoc]at h
  cases hi:itoa n with
  | nil=>exact wqJ n hi
  | cons b t =>
   rw[hi]at h
   have h1:=(List.cons.inj h).1
   have:=(wmA n b (by rw[hi]; simp)).2
   rw[<-h1]at this
   exact this (by decide)
 | n::l,[],r,s,h=>by
  exfalso
  simp only[wdY,List.flatMap_nil,List.nil_append,List.flatMap_cons,List.append_assoc]at h
  cases hi:itoa n with
  | nil=>exact wqJ n hi
  | cons b t =>
   rw[hi]at h
   have h1:=(List.cons.inj h).1
   have:=(wmA n b (by rw[hi]; simp)).2
   rw[h1]at this
   exact this (by decide)
 | n::l,m::ms,r,s,h=>by
  have hno:∀ n,(32:UInt8) ∉ itoa n:=fun n hm=>(wmA n 32 hm).1 (by decide)
  simp only[wdY,List.flatMap_cons,List.append_assoc,List.cons_append,List.nil_append]at h
  obtain⟨h1,h2⟩:=wpM (hno n) (hno m) h
  obtain⟨h3,h4⟩:=wj9 (l:=l) (m:=ms) h2
  exact⟨by rw[wsQ h1,h3],h4⟩
def whO (x:Node):List UInt8:=wdY [x.Mark]++124::(wdY x.Cuts++124::(wdY x.To++[124]))
def whP (x:Node):ByteArray:=⟨(whO x).toArray⟩
theorem wsR {x y:Node} (h:whO x=whO y):x=y:=by
 unfold whO at h
 obtain⟨h1,h2⟩:=wj9 h
 obtain⟨h3,h4⟩:=wj9 h2
 obtain⟨h5,_⟩:=wj9 (r:=[]) (s:=[]) h4
 cases x; cases y
 simp only at h1 h3 h5
 have h1:=(List.cons.inj h1).1
 rw[h1,h3,h5]
theorem wpN {x y:Node} (h:whP x=whP y):x=y:=by
 unfold whP at h
 simp only[ByteArray.mk.injEq]at h
 have:whO x=whO y:=by simpa using h
 exact wsR this
theorem wka {l:List Int} (h:∀ n∈l,-9223372036854775808<=n/\n<=9223372036854775807):(wdY l).length<=22*l.length:=by
 induction l with
 | nil=>simp[wdY]
 | cons n l ih =>
  have h1:=h n (by simp)
  have h2:=itoa_length_le n h1.1 h1.2
  have h3:=ih fun m hm=>h m (List.mem_cons_of_mem _ hm)
  unfold wdY at h3 ⊢
  simp only[List.flatMap_cons,List.length_append,List.length_cons,List.length_nil]
  omega
def asI (l:List UInt8):List Int:=l.map fun b=>(b.toNat:Int)
theorem wh2 (a b:List UInt8):asI (a++b)=asI a++asI b:=by simp[asI]
theorem wln (l:List UInt8):wbf ⟨l.toArray⟩=asI l:=by simp[wbf,asI]
theorem wtv (l:List UInt8):ofI (asI l)=⟨l.toArray⟩:=by
 have:=wri (⟨l.toArray⟩:ByteArray)
 rw[wln]at this
 exact this
theorem wro (l:List UInt8):wjh (asI l)=true:=by
 have:=woR (⟨l.toArray⟩:ByteArray)
 rw[wln]at this
 exact this
theorem wot {e1:List Int} (hr:∀ n∈e1,-9223372036854775808<=n/\n<=9223372036854775807) (hl:e1.length<=1000):∀ (n v:Nat) (c:Bool) (L:List Int),n=e1.length - v->L.length+22*n<=1000000->∃ c',iter (wa2 e1) ((v:Int),c,L)=some (c',L++asI (wdY (e1.drop v)))
 | 0,v,c,L,hn,hL=>by
  refine⟨c,waC ?_⟩
  unfold wa2
  dsimp only
  rw[decide_eq_false (by omega),wbE e1 (by omega)]
  simp[wdY,asI]
 | n+1,v,c,L,hn,hL=>by
  have hv:v < e1.length:=by omega
  have h2:idx e1 (v:Int)=some e1[v]:=by unfold idx; simp[hv]
  have hrv:=hr e1[v] (List.getElem_mem hv)
  have hlen:=itoa_length_le e1[v] hrv.1 hrv.2
  have hb:wbf ((⟨(itoa e1[v]).toArray⟩:ByteArray)++(⟨#[32]⟩:ByteArray))=asI (itoa e1[v]++[32]):=by
   rw[woQ,wln,wh2]; rfl
  have hsz:((⟨(itoa e1[v]).toArray⟩:ByteArray)++(⟨#[32]⟩:ByteArray)).size=(itoa e1[v]).length+1:=by
   have:=wdN ((⟨(itoa e1[v]).toArray⟩:ByteArray)++(⟨#[32]⟩:ByteArray))
   rw[hb]at this
   rw[<-this]; simp[asI]
  have hs1:bsz (⟨(itoa e1[v]).toArray⟩:ByteArray)+bsz (⟨#[32]⟩:ByteArray)<=4294967296:=by
   have e1:bsz (⟨(itoa e1[v]).toArray⟩:ByteArray)=(itoa e1[v]).length:=by simp[bsz,ByteArray.size]
   have e2:bsz (⟨#[32]⟩:ByteArray)=1:=rfl
   omega
  obtain⟨c',ih⟩:=wot hr hl n (v+1) true (L++asI (itoa e1[v]++[32])) (by omega) (by simp[asI]; omega)
  refine⟨c',?_⟩
  have e:L++asI (wdY (e1.drop v))=L++asI (itoa e1[v]++[32])++asI (wdY (e1.drop (v+1))):=by
   rw[List.drop_eq_getElem_cons hv]
   simp only[wdY,List.flatMap_cons,wh2,List.append_assoc]
  rw[e]
  refine waF ?_ ih
  unfold wa2
  dsimp only
  rw[decide_eq_true (by omega),cond_true,h2]
  unfold wlK wla wah
  simp only[Option.bind_some]
  rw[if_pos hrv,Option.bind_some,if_pos hs1,if_pos (by rw[hsz]; omega),Option.bind_some,hb,wak (by omega)]; rfl
theorem wtw {x:Node} (hm:0<=x.Mark/\x.Mark<=1000) (hc:∀ n∈x.Cuts,-9223372036854775808<=n/\n<=9223372036854775807) (ht:∀ n∈x.To,-9223372036854775808<=n/\n<=9223372036854775807) (lc:x.Cuts.length<=1000) (lt:x.To.length<=1000):∃ c,iter (waP x) (0,false,[])=some (c,asI (whO x)):=by
 have one:∀ (e:List Int) (i:Nat) (c:Bool) (L:List Int),[[x.Mark],x.Cuts,x.To][i]? = some e->(∀ n∈e,-9223372036854775808<=n/\n<=9223372036854775807)->e.length<=1000->L.length<=100000->waP x ((i:Int),c,L)=some (.inl (((i+1:Nat):Int),true,L++asI (wdY e++[124]))):=fun e i c L hi hr hl hL=>by
  have hlt:i < 3:=by have:=(List.getElem?_eq_some_iff.1 hi).1; simpa using this
  have h2:idx [[x.Mark],x.Cuts,x.To] (i:Int)=some e:=by unfold idx; rw[if_pos (Int.natCast_nonneg _),Int.toNat_natCast]; exact hi
  obtain⟨c',h3⟩:=wot hr hl e.length 0 c L (by omega) (by omega)
  have h3:iter (wa2 e) (0,c,L)=some (c',L++asI (wdY (e.drop 0))):=h3
  rw[List.drop_zero]at h3
  have hsl:=wka hr
  unfold waP
  dsimp only
  have hd:decide ((i:Int) < (([[x.Mark],x.Cuts,x.To].length:Nat):Int))=true:=decide_eq_true (by simp; omega)
  rw[hd,cond_true,h2]
  simp only[Option.bind_some,h3]
  unfold wgA wah
  rw[if_pos (by simp[asI]; omega)]
  simp only[Option.bind_some]
  rw[wak (by omega),wh2,List.append_assoc]; rfl
 have s1:=wka (l:=[x.Mark]) (fun n hn=>by simp only[List.mem_singleton]at hn; subst hn; omega)
 have s2:=wka hc
 have s3:=wka ht
 have f0:=one [x.Mark] 0 false [] rfl (fun n hn=>by simp only[List.mem_singleton]at hn; subst hn; omega) (by simp) (by simp)
 have f1:=one x.Cuts 1 true ([]++asI (wdY [x.Mark]++[124])) rfl hc lc (by simp only[List.length_cons,List.length_nil]at s1; simp[asI]; omega)
 have f2:=one x.To 2 true ([]++asI (wdY [x.Mark]++[124])++asI (wdY x.Cuts++[124])) rfl ht lt (by simp only[List.length_cons,List.length_nil]at s1; simp[asI]; omega)
 have f3:∀ L,waP x (((3:Nat):Int),true,L)=some (.inr (true,L)):=fun L=>by
  unfold waP
  dsimp only
  rw[decide_eq_false (by simp)]; rfl
 refine⟨true,?_⟩
 have e:asI (whO x)=[]++asI (wdY [x.Mark]++[124])++asI (wdY x.Cuts++[124])++asI (wdY x.To++[124]):=by
  unfold whO
  simp only[wh2,List.nil_append,List.append_assoc]
  simp[asI]
 rw[e]
 exact waF f0 (waF f1 (waF f2 (waC (f3 _))))
end Go.Pv

namespace Go.Pv
def wgH (t:List Rule) (a:Nat):Int:=if wb6 a < 0 then -1 else -2 - wgG t a
def Val (k:Nat) (t:List Rule) (N:List Node) (n:Int) (mark a:Nat):Prop:=Valid N mark n/\∀ xs,Pts k xs->ev N n xs=wgH t (wf7 t mark a (xs.drop mark))
structure BOk (k:Nat) (t:List Rule) (o:Builder):Prop where
 ek:o.k=(k:Int)
 et:o.rules=t
 good:GoodN k o.nodes
 same1:∀ (i:Nat) x,o.nodes[i]? = some x->waQ (whP x) o.same=some (i:Int)
 same2:∀ s v,waQ s o.same=some v->∃ (i:Nat) (x:Node),v=(i:Int)/\o.nodes[i]? = some x/\whP x=s
 known:∀ (mark a:Nat) (n:Int),mark < k->waQ (⟨(mark:Int),(a:Int),0⟩:Arr3_Int) o.known=some n->Val k t o.nodes n mark a
theorem wnY {N l:List Node} {i:Nat} {x:Node} (h:N[i]? = some x):(N++l)[i]? = some x:=by
 rw[List.getElem?_append_left (List.getElem?_eq_some_iff.1 h).1]; exact h
theorem Valid.ext {N:List Node} {m:Nat} {n:Int} (h:Valid N m n) (l:List Node):Valid (N++l) m n:=by
 rcases h with h | ⟨x,h1,h2,h3⟩
 ·exact .inl h
 ·exact .inr ⟨x,h1,wnY h2,h3⟩
theorem wqK {k:Nat} {N:List Node} (hN:OkN k N) {xs:List Int} (hx:Pts k xs) (l:List Node):∀ (f:Nat) (n:Int),Valid N 0 n->evF (N++l) f n xs=evF N f n xs
 | 0,n,_=>rfl
 | f+1,n,hv=>by
  unfold evF
  rcases hv with ⟨h1,_⟩ | ⟨x,h1,h2,h3⟩
  ·rw[if_pos h1,if_pos h1]
  ·rw[if_neg (by omega),if_neg (by omega),wcs h2,wcs (wnY h2)]
   have hk:wbW x xs∈x.To:=weZ (hN.runs _ x h2) (wdS hx _).2
   exact wqK hN hx l f _ ((hN.kids _ x h2 _ hk).mono (Nat.zero_le _))
theorem wtU {k:Nat} {N:List Node} (hN:OkN k N) {xs:List Int} (hx:Pts k xs) (l:List Node) {n:Int} (h:Valid N 0 n):ev (N++l) n xs=ev N n xs:=wqK hN hx l 5 n h
theorem Val.ext {k:Nat} {t:List Rule} {N:List Node} (hN:OkN k N) {n:Int} {mark a:Nat} (h:Val k t N n mark a) (l:List Node):Val k t (N++l) n mark a :=
 ⟨h.1.ext l,fun xs hx=>by rw[wtU hN hx l (h.1.mono (Nat.zero_le _))]; exact h.2 xs hx⟩
theorem wpO:∀ {cs ts:List Int} {u:Int},wbK u cs ts->∀ c∈cs,u < c/\c<=1000
 | [],_,_,h,_,_=>by simp[wbK]at h
 | _::_,[],_,h,_,_=>by simp[wbK]at h
 | c::cs,t::ts,u,h,d,hd=>by
  obtain⟨h1,h2⟩:=h
  rcases h2 with ⟨h3,_,h4⟩ | ⟨_,h3⟩
  ·subst h3
   simp only[List.mem_singleton]at hd
   omega
  ·have hc:=wfB h3
   rcases List.mem_cons.1 hd with rfl | hd
   ·omega
   ·have:=wpO h3 d hd; omega
theorem weq:∀ {cs ts:List Int} {u:Int},wbK u cs ts->(cs.length:Int)<=1000 - u
 | [],_,_,h=>by simp[wbK]at h
 | _::_,[],_,h=>by simp[wbK]at h
 | c::cs,t::ts,u,h=>by
  obtain⟨h1,h2⟩:=h
  rcases h2 with ⟨h3,_,h4⟩ | ⟨_,h3⟩
  ·subst h3; simp; omega
  ·have:=weq h3
   simp only[List.length_cons]; omega
theorem wtx {k:Nat} (hk:k<=4) {t:List Rule} {o:Builder} (ho:BOk k t o) {x:Node} (hm:0<=x.Mark/\x.Mark < (k:Int)) (hr:wbK 0 x.Cuts x.To) (h2:2<=x.To.length) (hkids:∀ y∈x.To,Valid o.nodes (x.Mark.toNat+1) y) (hsz:o.nodes.length<=2000000) :
  ∃ (i:Nat) (o':Builder),wa9 o x=some ((i:Int),o')/\BOk k t o'/\o'.known=o.known/\(∃ l,o'.nodes=o.nodes++l/\l.length<=1)/\o'.nodes[i]? = some x:=by
 have hcut:=wpO hr
 have hcnt:=weq hr
 have hlen:=wec hr
 obtain⟨c,hc⟩:=wtw (x:=x) (by omega) (fun n hn=>by have:=hcut n hn; omega) (fun n hn=>by
  rcases hkids n hn with h | ⟨y,h1,h3,_⟩
  ·omega
  ·have:=(List.getElem?_eq_some_iff.1 h3).1; omega) (by omega) (by omega)
 have hne:whO x≠[]:=by unfold whO; simp
 have hstr:wfA (⟨c,asI (whO x)⟩:StringsBuilder)=some (whP x):=by
  unfold wfA wah
  dsimp only
  rw[if_pos ⟨wro _,fun h=>hne (by simpa [asI]using h)⟩,wtv]; rfl
 have key:wa9 o x=cond (!((waQ (whP x) o.same).isSome)) (wah (o.nodes.length+[x].length<=4294967296) (some ((o.nodes.length:Int),(⟨o.k,o.rules,o.known,wc5 (whP x) (o.nodes.length:Int) o.same,o.nodes++[x]⟩:Builder)))) (some ((waQ (whP x) o.same).getD 0,o)):=by
  unfold wa9
  rw[hc]
  simp only[Option.bind_some]
  rw[hstr]
  simp only[Option.bind_some]
  cases (waQ (whP x) o.same).isSome with
  | true=>rfl
  | false =>
   simp only[Bool.not_false,cond_true]
   unfold wah
   split <;> rfl
 rw[key]
 cases hg:waQ (whP x) o.same with
 | some v =>
  obtain⟨i,y,e1,e2,e3⟩:=ho.same2 _ _ hg
  have:=wpN e3
  subst this
  refine⟨i,o,by rw[<-e1]; rfl,ho,rfl,⟨[],by simp,by simp⟩,e2⟩
 | none =>
  have hnew:∀ i:Nat,o.nodes[i]?≠some x:=fun i hi=>by rw[ho.same1 i x hi]at hg; cases hg
  refine⟨o.nodes.length,(⟨o.k,o.rules,o.known,wc5 (whP x) (o.nodes.length:Int) o.same,o.nodes++[x]⟩:Builder),by rw[Option.isSome_none,Bool.not_false,cond_true,waV (by simp; omega)],⟨ho.ek,ho.et,⟨?_,?_,?_,?_,?_⟩,?_,?_,?_⟩,rfl,⟨[x],rfl,by simp⟩,by simp⟩
  all_goals dsimp only
  ·intro i y hy
   rcases Nat.lt_or_ge i o.nodes.length with h | h
   ·rw[List.getElem?_append_left h]at hy; exact ho.good.mark i y hy
   ·rw[List.getElem?_append_right h]at hy
    have:y=x:=by simpa using List.mem_of_getElem? hy
    subst this; exact hm
  ·intro i y hy
   rcases Nat.lt_or_ge i o.nodes.length with h | h
   ·rw[List.getElem?_append_left h]at hy; exact ho.good.runs i y hy
   ·rw[List.getElem?_append_right h]at hy
    have:y=x:=by simpa using List.mem_of_getElem? hy
    subst this; exact hr
  ·intro i y hy
   rcases Nat.lt_or_ge i o.nodes.length with h | h
   ·rw[List.getElem?_append_left h]at hy; exact ho.good.two i y hy
   ·rw[List.getElem?_append_right h]at hy
    have:y=x:=by simpa using List.mem_of_getElem? hy
    subst this; exact h2
  ·intro i y hy z hz
   rcases Nat.lt_or_ge i o.nodes.length with h | h
   ·rw[List.getElem?_append_left h]at hy; exact(ho.good.kids i y hy z hz).ext _
   ·rw[List.getElem?_append_right h]at hy
    have:y=x:=by simpa using List.mem_of_getElem? hy
    subst this; exact(hkids z hz).ext _
  ·intro i j y hy hz
   rcases Nat.lt_or_ge i o.nodes.length with h | h
   ·rw[List.getElem?_append_left h]at hy
    rcases Nat.lt_or_ge j o.nodes.length with h' | h'
    ·rw[List.getElem?_append_left h']at hz; exact ho.good.uniq i j y hy hz
    ·rw[List.getElem?_append_right h']at hz
     have:y=x:=by simpa using List.mem_of_getElem? hz
     subst this; exact absurd hy (hnew i)
   ·rw[List.getElem?_append_right h]at hy
    have e:y=x:=by simpa using List.mem_of_getElem? hy
    subst e
    have hi:=(List.getElem?_eq_some_iff.1 hy).1
    rcases Nat.lt_or_ge j o.nodes.length with h' | h'
    ·rw[List.getElem?_append_left h']at hz; exact absurd hz (hnew j)
    ·rw[List.getElem?_append_right h']at hz
     have hj:=(List.getElem?_eq_some_iff.1 hz).1
     simp only[List.length_cons,List.length_nil]at hi hj
     omega
  ·intro i y hy
   rw[why]
   rcases Nat.lt_or_ge i o.nodes.length with h | h
   ·rw[List.getElem?_append_left h]at hy
    rw[if_neg (fun e=>hnew i (by rw[<-wpN e]; exact hy))]
    exact ho.same1 i y hy
   ·rw[List.getElem?_append_right h]at hy
    have e:y=x:=by simpa using List.mem_of_getElem? hy
    have hi:=(List.getElem?_eq_some_iff.1 hy).1
    simp only[List.length_cons,List.length_nil]at hi
    subst e
    rw[if_pos rfl,show i=o.nodes.length by omega]
  ·intro s v hv
   rw[why]at hv
   split at hv
   ·rename_i e
    cases hv
    exact⟨o.nodes.length,x,rfl,by simp,e.symm⟩
   ·obtain⟨i,y,e1,e2,e3⟩:=ho.same2 s v hv
    exact⟨i,y,e1,wnY e2,e3⟩
  ·intro mark a n hmk hn
   exact(ho.known mark a n hmk hn).ext ho.good.ok _
def wc4 (e:Int):Int->List Int->List Int->Prop
 | u,c::cs,t::ts=>u < c/\((cs=[]/\ts=[]/\c=e)\/(ts.head?≠some t/\wc4 e c cs ts))
 | _,_,_=>False
theorem wlo:∀ {cs ts:List Int} {u:Int},wc4 1000 u cs ts->wbK u cs ts
 | [],_,_,h=>by simp[wc4]at h
 | _::_,[],_,h=>by simp[wc4]at h
 | c::cs,t::ts,u,h=>by
  obtain⟨h1,h2⟩:=h
  refine⟨h1,?_⟩
  rcases h2 with h2 | ⟨h3,h4⟩
  ·exact .inl h2
  ·exact .inr ⟨h3,wlo h4⟩
theorem whC {e:Int}:∀ {cs ts:List Int} {u:Int},wc4 e u cs ts->cs.length=ts.length/\0 < ts.length
 | [],_,_,h=>by simp[wc4]at h
 | _::_,[],_,h=>by simp[wc4]at h
 | c::cs,t::ts,u,h=>by
  obtain⟨h1,h2⟩:=h
  rcases h2 with ⟨h3,h4,_⟩ | ⟨_,h4⟩
  ·subst h3 h4; simp
  ·have:=whC h4; simp; omega
theorem wmB {e:Int}:∀ {cs ts:List Int} {u:Int},wc4 e u cs ts->u < e
 | [],_,_,h=>by simp[wc4]at h
 | _::_,[],_,h=>by simp[wc4]at h
 | c::cs,t::ts,u,h=>by
  obtain⟨h1,h2⟩:=h
  rcases h2 with ⟨_,_,h3⟩ | ⟨_,h4⟩
  ·omega
  ·have:=wmB h4; omega
theorem wkb {e e' x:Int} (he:e < e'):∀ {C T:List Int} {u:Int},wc4 e u C T->T.getLast?≠some x->wc4 e' u (C++[e']) (T++[x])/\(∀ y,y < e->sel (C++[e']) (T++[x]) y=sel C T y)/\∀ y,e<=y->y < e'->sel (C++[e']) (T++[x]) y=x
 | [],_,_,h,_=>by simp[wc4]at h
 | _::_,[],_,h,_=>by simp[wc4]at h
 | c::C,t::T,u,h,hx=>by
  obtain⟨h1,h2⟩:=h
  rcases h2 with ⟨h3,h4,h5⟩ | ⟨h3,h4⟩
  ·subst h3 h4 h5
   refine⟨⟨h1,.inr ⟨fun hh=>hx (by simpa using hh.symm),⟨he,.inl ⟨rfl,rfl,rfl⟩⟩⟩⟩,fun y hy=>?_,fun y hy hy2=>?_⟩
   ·simp only[List.cons_append,List.nil_append,sel,if_pos hy]
   ·simp only[List.cons_append,List.nil_append,sel,if_neg (show ¬ y < c by omega),if_pos hy2]
  ·have hlt:=wmB h4
   have hlen:=whC h4
   obtain⟨i1,i2,i3⟩:=wkb he h4 (by
    cases T with
    | nil=>simp at hlen
    | cons t2 T=>rw[List.getLast?_cons_cons]at hx; exact hx)
   refine⟨⟨h1,.inr ⟨?_,i1⟩⟩,fun y hy=>?_,fun y hy hy2=>?_⟩
   ·cases T with
    | nil=>simp at hlen
    | cons t2 T=>exact h3
   ·simp only[List.cons_append,sel]
    by_cases hyc:y < c
    ·rw[if_pos hyc,if_pos hyc]
    ·rw[if_neg hyc,if_neg hyc]; exact i2 y hy
   ·simp only[List.cons_append,sel]
    rw[if_neg (by omega)]; exact i3 y hy hy2
theorem wkc {e e' x:Int} (he:e < e'):∀ {C T:List Int} {u:Int},wc4 e u C T->T.getLast? = some x->wc4 e' u (C.set (C.length - 1) e') T/\(∀ y,y < e->sel (C.set (C.length - 1) e') T y=sel C T y)/\∀ y,e<=y->y < e'->sel (C.set (C.length - 1) e') T y=x
 | [],_,_,h,_=>by simp[wc4]at h
 | _::_,[],_,h,_=>by simp[wc4]at h
 | c::C,t::T,u,h,hx=>by
  obtain⟨h1,h2⟩:=h
  rcases h2 with ⟨h3,h4,h5⟩ | ⟨h3,h4⟩
  ·subst h3 h4 h5
   simp only[List.getLast?_singleton,Option.some.injEq]at hx
   subst hx
   refine⟨⟨Int.lt_trans h1 he,.inl ⟨rfl,rfl,rfl⟩⟩,fun y hy=>?_,fun y hy hy2=>?_⟩
   ·simp only[List.length_cons,List.length_nil,Nat.zero_add,Nat.sub_self,List.set_cons_zero,sel,if_pos hy,if_pos (show y < e' by omega)]
   ·simp only[List.length_cons,List.length_nil,Nat.zero_add,Nat.sub_self,List.set_cons_zero,sel,if_pos hy2]
  ·have hlt:=wmB h4
   have hlen:=whC h4
   obtain⟨i1,i2,i3⟩:=wkc he h4 (by
    cases T with
    | nil=>simp at hlen
    | cons t2 T=>rw[List.getLast?_cons_cons]at hx; exact hx)
   have hs:(c::C).set ((c::C).length - 1) e'=c::C.set (C.length - 1) e':=by
    have:(c::C).length - 1=(C.length - 1)+1:=by simp only[List.length_cons]; omega
    rw[this,List.set_cons_succ]
   rw[hs]
   refine⟨⟨h1,.inr ⟨h3,i1⟩⟩,fun y hy=>?_,fun y hy hy2=>?_⟩
   ·simp only[sel]
    by_cases hyc:y < c
    ·rw[if_pos hyc,if_pos hyc]
    ·rw[if_neg hyc,if_neg hyc]; exact i2 y hy
   ·simp only[sel]
    rw[if_neg (by omega)]; exact i3 y hy hy2
theorem wpP:∀ {cs ts:List Int} {v:Nat} {y:Int},cs.Pairwise (· < ·)->cs.length=ts.length->(hv:v < ts.length)->(∀ (j:Nat) (hj:j < cs.length),j < v->cs[j]<=y)->(∀ (hj:v < cs.length),y < cs[v])->sel cs ts y=ts[v]
 | [],[],v,y,_,_,hv,_,_=>by simp at hv
 | [],_::_,_,_,_,h,_,_,_=>by simp at h
 | _::_,[],_,_,_,h,_,_,_=>by simp at h
 | c::cs,t::ts,0,y,_,_,_,_,h=>by
  have:=h (by simp)
  simp only[List.getElem_cons_zero]at this ⊢
  simp only[sel,if_pos this]
 | c::cs,t::ts,v+1,y,hp,hl,hv,h1,h2=>by
  have hc:=h1 0 (by simp) (by omega)
  simp only[List.getElem_cons_zero]at hc
  simp only[sel,if_neg (show ¬ y < c by omega),List.getElem_cons_succ]
  exact wpP (List.pairwise_cons.1 hp).2 (by simpa using hl) (by simpa using hv) (fun j hj hjv=>by
   exact h1 (j+1) (by simpa using hj) (by omega)) (fun hj=>by
   exact h2 (by simpa using hj))
theorem wi0 {ends to:List Int} (hp:ends.Pairwise (· < ·)) (hl:ends.length=to.length) (h97:to.length<=1000):∀ (n v:Nat) (C T:List Int),n=to.length - v->(hv:v < to.length+1)->(hv0:0 < v)->wc4 (ends[v - 1]'(by omega)) 0 C T->C.length<=v->(∀ y,0<=y->y < (ends[v - 1]'(by omega))->sel C T y=sel ends to y)->∃ C' T',iter (wbw ends to) ((v:Int),C,T)=some (C',T')/\wc4 (ends[to.length - 1]'(by omega)) 0 C' T'/\∀ y,0<=y->y < (ends[to.length - 1]'(by omega))->sel C' T' y=sel ends to y
 | 0,v,C,T,hn,hv,hv0,hr,hC,hs=>by
  have e:v=to.length:=by omega
  subst e
  refine⟨C,T,waC ?_,hr,hs⟩
  unfold wbw
  dsimp only
  rw[decide_eq_false (by omega)]; rfl
 | n+1,v,C,T,hn,hv,hv0,hr,hC,hs=>by
  have hvt:v < to.length:=by omega
  have hve:v < ends.length:=by omega
  have e1:idx to (v:Int)=some to[v]:=by unfold idx; simp[hvt]
  have e2:idx ends (v:Int)=some ends[v]:=by unfold idx; simp[hve]
  have hlen:=whC hr
  have hw:IntKind.i64.wrap ((v:Int)+1)=((v+1:Nat):Int):=by rw[wak (by omega)]; rfl
  have hw2:IntKind.i64.wrap ((T.length:Int) - 1)=((T.length - 1:Nat):Int):=by rw[wak (by omega)]; omega
  have hlt:ends[v - 1]'(by omega) < ends[v]:=List.pairwise_iff_getElem.1 hp (v - 1) v (by omega) hve (by omega)
  have e3:idx T ((T.length - 1:Nat):Int)=some (T[T.length - 1]'(by omega)):=by unfold idx; simp[hlen.2]
  have e4:idx C ((T.length - 1:Nat):Int)=some (C[T.length - 1]'(by omega)):=by
   unfold idx
   rw[if_pos (Int.natCast_nonneg _),Int.toNat_natCast,List.getElem?_eq_getElem (by omega)]
  have hlast:T.getLast? = some (T[T.length - 1]'(by omega)):=by
   rw[List.getLast?_eq_getElem?,List.getElem?_eq_getElem (by omega)]
  have hsel:∀ y,ends[v - 1]'(by omega)<=y->y < ends[v]->sel ends to y=to[v]:=fun y h1 h2 =>
   wpP hp hl hvt (fun j hj hjv=>by
    rcases Nat.lt_or_ge j (v - 1)with h | h
    ·have:=List.pairwise_iff_getElem.1 hp j (v - 1) hj (by omega) h; omega
    ·have:j=v - 1:=by omega
     subst this; exact h1) (fun _=>h2)
  have e6:ends[v+1 - 1]'(by omega)=ends[v]:=rfl
  by_cases hb:T[T.length - 1]'(by omega)=to[v]
  ·obtain⟨m1,m2,m3⟩:=wkc hlt hr (x:=to[v]) (by rw[hlast,hb])
   have hCl:C.length=T.length:=hlen.1
   obtain⟨C',T',g1,g2,g3⟩:=wi0 hp hl h97 n (v+1) (C.set (C.length - 1) ends[v]) T (by omega) (by omega) (by omega) m1 (by simp; omega) (fun y h1 h2=>by
    rcases Int.lt_or_le y (ends[v - 1]'(by omega))with h | h
    ·rw[m2 y h]; exact hs y h1 h
    ·rw[m3 y h h2,hsel y h h2])
   refine⟨C',T',waF ?_ g1,g2,g3⟩
   unfold wbw
   dsimp only
   rw[decide_eq_true (by omega),cond_true,e1]
   simp only[Option.bind_some]
   rw[decide_eq_true (by omega),cond_true,hw2,e3]
   simp only[Option.bind_some]
   rw[decide_eq_true hb,cond_true,e2]
   simp only[Option.bind_some]
   rw[e4]
   simp only[Option.bind_some]
   rw[hw,Int.toNat_natCast,hCl]
  ·obtain⟨m1,m2,m3⟩:=wkb hlt hr (x:=to[v]) (by rw[hlast]; intro h; exact hb (by simpa using h))
   obtain⟨C',T',g1,g2,g3⟩:=wi0 hp hl h97 n (v+1) (C++[ends[v]]) (T++[to[v]]) (by omega) (by omega) (by omega) m1 (by simp; omega) (fun y h1 h2=>by
    rcases Int.lt_or_le y (ends[v - 1]'(by omega))with h | h
    ·rw[m2 y h]; exact hs y h1 h
    ·rw[m3 y h h2,hsel y h h2])
   refine⟨C',T',waF ?_ g1,g2,g3⟩
   unfold wbw
   dsimp only
   rw[decide_eq_true (by omega),cond_true,e1]
   simp only[Option.bind_some]
   rw[decide_eq_true (by omega),cond_true,hw2,e3]
   simp only[Option.bind_some]
   rw[decide_eq_false hb,cond_false,e2]
   simp only[Option.bind_some]
   unfold wah
   rw[if_pos (by simp; omega),if_pos (by simp; omega),hw]; rfl
theorem wrY {ends to:List Int} (hp:ends.Pairwise (· < ·)) (hl:ends.length=to.length) (h97:to.length<=1000) (hpos:∀ c∈ends,0 < c/\c<=1000) (hlast:(1000:Int)∈ends):∃ C T,wdd ends to=some (C,T)/\wbK 0 C T/\∀ y,0<=y->y < 1000->sel C T y=sel ends to y:=by
 have hne:0 < ends.length:=List.length_pos_of_mem hlast
 have hend:ends[to.length - 1]'(by omega)=1000:=by
  obtain⟨j,hj,e⟩:=List.getElem_of_mem hlast
  rcases Nat.lt_or_ge j (to.length - 1)with h | h
  ·have h1:=List.pairwise_iff_getElem.1 hp j (to.length - 1) hj (by omega) h
   have h2:=hpos _ (List.getElem_mem (show to.length - 1 < ends.length by omega))
   omega
  ·have:j=to.length - 1:=by omega
   subst this; exact e
 have e1:idx to 0=some (to[0]'(by omega)):=by unfold idx; simp[show 0 < to.length by omega]
 have e2:idx ends 0=some ends[0]:=by unfold idx; simp[hne]
 have hp0:=hpos _ (List.getElem_mem hne)
 obtain⟨C,T,g1,g2,g3⟩:=wi0 hp hl h97 (to.length - 1) 1 [ends[0]] [to[0]'(by omega)] (by omega) (by omega) (by omega) ⟨hp0.1,.inl ⟨rfl,rfl,rfl⟩⟩ (by simp) (fun y h1 h2=>by
  have:y < ends[0]:=h2
  rw[wpP (v:=0) hp hl (by omega) (fun j _ hj=>by omega) (fun _=>this)]
  simp only[sel,if_pos this])
 rw[hend]at g2
 refine⟨C,T,?_,wlo g2,fun y h1 h2=>g3 y h1 (by omega)⟩
 have hf:wbw ends to (0,[],[])=some (.inl (((1:Nat):Int),[ends[0]],[to[0]'(by omega)])):=by
  unfold wbw
  dsimp only
  rw[decide_eq_true (by omega),cond_true,e1,e2]
  simp only[Option.bind_some]
  unfold wah
  rw[if_pos (by simp),if_pos (by simp)]
  rfl
 unfold wdd
 rw[waF hf g1]; rfl
end Go.Pv

namespace Go.Pv
def wdm (k:Nat) (l:List Rule):Prop:=l.length<=24/\∀ r∈l,wb9 (k:Int) r=true
end Go.Pv

namespace Go.Pv
theorem wlp:∀ {cs ts:List Int} {u y:Int},wbK u cs ts->y∈ts->∃ x,u<=x/\x < 1000/\sel cs ts x=y
 | [],_,_,_,h,_=>by simp[wbK]at h
 | _::_,[],_,_,h,_=>by simp[wbK]at h
 | c::cs,t::ts,u,y,h,hy=>by
  have hu:=wfB h
  obtain⟨h1,h2⟩:=h
  rcases List.mem_cons.1 hy with rfl | hy
  ·exact⟨u,Int.le_refl _,hu,by simp only[sel,if_pos h1]⟩
  ·rcases h2 with ⟨_,h3,_⟩ | ⟨_,h3⟩
   ·subst h3; cases hy
   ·obtain⟨x,x1,x2,x3⟩:=wlp h3 hy
    exact⟨x,by omega,x2,by simp only[sel,if_neg (show ¬ x < c by omega)]; exact x3⟩
theorem whn {k:Nat} {t:List Rule} (ht:wdm k t) {a:Nat} (ha:a < 2 ^ t.length):-101<=wgH t a/\wgH t a < 0:=by
 unfold wgH
 by_cases h:wb6 a < 0
 ·rw[if_pos h]; omega
 ·rw[if_neg h]
  unfold wgG
  rw[if_neg h]
  have hlt:=wiI ha h
  have hm:t.getD (wb6 a).toNat default∈t:=by
   rw[List.getD,List.getElem?_eq_getElem hlt]; exact List.getElem_mem hlt
  have:=ht.2 _ hm
  unfold wb9 at this
  simp only[Bool.and_eq_true,decide_eq_true_eq]at this
  omega
theorem wty {k:Nat} {t:List Rule} (ht:wdm k t) {o:Builder} (ho:BOk k t o) {a:Nat} (ha:a < 2 ^ t.length):wbI o (a:Int)=some (wgH t a,o):=by
 have ha2:a < 2 ^ 24:=Nat.lt_of_lt_of_le ha (Nat.pow_le_pow_right (by omega) ht.1)
 have hr:=whn ht ha
 unfold wbI
 rw[wqo a (by omega),Option.bind_some,ho.et]
 unfold wgH at hr ⊢
 by_cases h:wb6 a < 0
 ·rw[decide_eq_true h,cond_true,if_pos h]
 ·rw[if_neg h]at hr ⊢
  have hlt:=wiI ha h
  unfold wgG at hr ⊢
  rw[if_neg h]at hr ⊢
  have e:idx t (wb6 a)=some (t.getD (wb6 a).toNat default):=by
   unfold idx
   rw[if_pos (by omega),List.getD,List.getElem?_eq_getElem hlt]; rfl
  rw[decide_eq_false h,cond_false,e,Option.bind_some,wak (by omega)]
noncomputable def nB (t:List Rule):Nat->Nat->Nat
 | 0,_=>0
 | d+1,mark=>1+(cs1 t mark).length*nB t d (mark+1)
theorem wqL {k:Nat} (hk:k<=4) {t:List Rule} (ht:wdm k t) {mark a D:Nat} (hm:mark < k) (ha:a < 2 ^ t.length) {self:Builder->Int->Int->Option (Int×Builder)}
  (hself:∀ o (b:Nat),b < 2 ^ t.length->BOk k t o->o.nodes.length+D<=2000000->∃ v o',self o ((mark+1:Nat):Int) (b:Int)=some (v,o')/\BOk k t o'/\(∃ l,o'.nodes=o.nodes++l/\l.length<=D)/\Val k t o'.nodes v (mark+1) b) :
  ∀ (n v:Nat) (u:Int) (o:Builder) (L:List Int),n=(cs1 t mark).length - v->v<=(cs1 t mark).length->BOk k t o->o.nodes.length+n*D<=2000000->0<=u->u<=1000->(u::(cs1 t mark).drop v).Pairwise (· < ·)->(∀ c∈cs1 t mark,u < c->c∈(cs1 t mark).drop v)->L.length=v →
   ∃ (o':Builder) (ts:List Int),iter (wbk (mark:Int) (a:Int) self (cs1 t mark)) (u,(v:Int),o.k,o.rules,o.known,o.same,o.nodes,L)=some (o'.k,o'.rules,o'.known,o'.same,o'.nodes,L++ts)/\BOk k t o'/\(∃ l,o'.nodes=o.nodes++l/\l.length<=n*D)/\ts.length=n/\∀ x,u<=x->x < 1000->Val k t o'.nodes (sel ((cs1 t mark).drop v) ts x) (mark+1) (a &&& wdX t mark x)
 | 0,v,u,o,L,hn,hv,ho,hsz,h0,hu,hup,hall,hL=>by
  have hvl:v=(cs1 t mark).length:=by omega
  subst hvl
  obtain⟨_,hc,_⟩:=wjo ht hm
  have hu2:u=1000:=by
   by_cases h:u < 1000
   ·have:=hall 1000 hc.last h
    rw[wbE _ (Nat.le_refl _)]at this; cases this
   ·omega
  refine⟨o,[],waC ?_,ho,⟨[],by simp,by simp⟩,rfl,fun x h1 h2=>by omega⟩
  unfold wbk
  dsimp only
  rw[decide_eq_false (by omega),List.append_nil]; rfl
 | n+1,v,u,o,L,hn,hv,ho,hsz,h0,hu,hup,hall,hL=>by
  obtain⟨_,hc,h97⟩:=wjo ht hm
  have hv2:v < (cs1 t mark).length:=by omega
  have hcv:=hc.pos _ (List.getElem_mem hv2)
  have e1:idx (cs1 t mark) (v:Int)=some (cs1 t mark)[v]:=by unfold idx; simp[hv2]
  rw[List.drop_eq_getElem_cons hv2]at hup hall ⊢
  rw[List.pairwise_cons]at hup
  have huc:u < (cs1 t mark)[v]:=hup.1 _ (List.mem_cons_self ..)
  have hup2:=List.pairwise_cons.1 hup.2
  have hin:wlm mark t a (cs1 t mark):=wrV hc (by simp)
  have hlt:(a &&& wdX t mark u) < 2 ^ t.length:=Nat.lt_of_le_of_lt Nat.and_le_left ha
  have hft:=wsJ ht.1 mark u
  have ha2:a < 2 ^ 24:=Nat.lt_of_lt_of_le ha (Nat.pow_le_pow_right (by omega) ht.1)
  rw[Nat.succ_mul]at hsz
  obtain⟨w,o1,s1,s2,⟨l1,s3,s4⟩,s5⟩:=hself o _ hlt ho (by omega)
  have hsz1:o1.nodes.length=o.nodes.length+l1.length:=by rw[s3,List.length_append]
  obtain⟨o',ts,g1,g2,⟨l2,g3,g4⟩,g5,g6⟩:=wqL hk ht hm ha hself n (v+1) (cs1 t mark)[v] o1 (L++[w]) (by omega) (by omega) s2 (by omega) (by omega) (by omega) hup.2 (fun c hcm h=>by
   rcases List.mem_cons.1 (hall c hcm (by omega))with h2 | h2
   ·omega
   ·exact h2) (by simp; omega)
  refine⟨o',w::ts,?_,g2,⟨l1++l2,by rw[g3,s3,List.append_assoc],by rw[List.length_append,Nat.succ_mul]; omega⟩,by simp[g5],fun x h1 h2=>?_⟩
  ·rw[List.append_assoc]at g1
   refine waF ?_ g1
   unfold wbk
   dsimp only
   have s1:self (⟨o.k,o.rules,o.known,o.same,o.nodes⟩:Builder) ((mark+1:Nat):Int) ((a &&& wdX t mark u:Nat):Int)=some (w,o1):=s1
   have hw:IntKind.i64.wrap ((v:Int)+1)=((v+1:Nat):Int):=by rw[wak (by omega)]; rfl
   have hw2:IntKind.i64.wrap ((mark:Int)+1)=((mark+1:Nat):Int):=by rw[wak (by omega)]; rfl
   have hfe:wca o.rules (mark:Int) u=some (wdX t mark u:Int):=by
    rw[ho.et]; exact wts t mark u ht.1 (fun r hr=>(weO (ht.2 r hr) hm).1)
   rw[decide_eq_true (by omega),cond_true,e1]
   simp only[Option.bind_some]
   rw[hfe]
   simp only[Option.bind_some]
   rw[wqC (by omega) (by omega),hw,hw2,s1]
   simp only[Option.bind_some]
   unfold wah
   rw[if_pos (by simp; omega)]
  ·simp only[sel]
   by_cases hx:x < (cs1 t mark)[v]
   ·rw[if_pos hx,wnn hin h0 h1 (fun c hcm ⟨q1,q2⟩=>by
     rcases List.mem_cons.1 (hall c hcm q1)with h | h
     ·omega
     ·have:=hup2.1 c h; omega),g3]
    exact s5.ext s2.good.ok _
   ·rw[if_neg hx]
    exact g6 x (by omega) h2
theorem wiK {k:Nat} {xs:List Int} (hx:Pts k xs) {mark:Nat} (hm:mark < k):xs.drop mark=xs.getD mark 0::xs.drop (mark+1):=by
 have hl:mark < xs.length:=by have:=hx.1; omega
 rw[List.drop_eq_getElem_cons hl,List.getD,List.getElem?_eq_getElem hl]; rfl
theorem wt9 {k:Nat} (hk:k<=4) {t:List Rule} (ht:wdm k t) (n:Nat):∀ (d:Nat) (o:Builder) (mark a:Nat),k - mark=d->mark<=k->d < n->a < 2 ^ t.length->BOk k t o->o.nodes.length+nB t d mark<=2000000 →
  ∃ v o',wa6 n o (mark:Int) (a:Int)=some (v,o')/\BOk k t o'/\(∃ l,o'.nodes=o.nodes++l/\l.length<=nB t d mark)/\Val k t o'.nodes v mark a:=by
 induction n with
 | zero=>intro d o mark a _ _ hn; omega
 | succ n ih =>
  intro d o mark a hd hm hn ha ho hsz
  have ha2:a < 2 ^ 24:=Nat.lt_of_lt_of_le ha (Nat.pow_le_pow_right (by omega) ht.1)
  show ∃ v o',wbJ (wa6 n) o (mark:Int) (a:Int)=some (v,o')/\_
  unfold wbJ
  cases d with
  | zero =>
   have hmk:mark=k:=by omega
   subst hmk
   have hr:=whn ht ha
   rw[decide_eq_true (by rw[ho.ek]),cond_true,wty ht ho ha]
   refine⟨_,o,rfl,ho,⟨[],by simp,by simp⟩,.inl ⟨hr.2,hr.1⟩,fun xs hx=>?_⟩
   rw[wgf hr.2,List.drop_eq_nil_of_le (by have:=hx.1; omega)]; rfl
  | succ d =>
   have hmk:mark < k:=by omega
   obtain⟨c1,c2,c3⟩:=wjo ht hmk
   rw[decide_eq_false (by rw[ho.ek]; omega),cond_false,wak (x:=(a:Int)) (by omega)]
   have hnB:nB t (d+1) mark=1+(cs1 t mark).length*nB t d (mark+1):=rfl
   cases hg:waQ (⟨(mark:Int),(a:Int),0⟩:Arr3_Int) o.known with
   | some v =>
    simp only[Option.isSome_some,cond_true,Option.getD_some]
    exact⟨v,o,rfl,ho,⟨[],by simp,by simp⟩,ho.known mark a v hmk hg⟩
   | none =>
    simp only[Option.isSome_none,cond_false]
    rw[hnB]at hsz ⊢
    obtain⟨o1,ts,g1,g2,⟨l1,g3,g4⟩,g5,g6⟩:=wqL hk ht (D:=nB t d (mark+1)) hmk ha (self:=wa6 n) (fun o b hb ho hsz=>ih d o (mark+1) b (by omega) (by omega) (by omega) hb ho hsz) (cs1 t mark).length 0 0 o [] (by omega) (by omega) ho (by omega) (by omega) (by omega) (List.pairwise_cons.2 ⟨fun c h=>(c2.pos c (by simpa using h)).1,by simpa using c2.up⟩) (fun c h _=>by simpa using h) rfl
    have g1:iter (wbk (mark:Int) (a:Int) (wa6 n) (cs1 t mark)) (0,0,o.k,o.rules,o.known,o.same,o.nodes,[])=some (o1.k,o1.rules,o1.known,o1.same,o1.nodes,[]++ts):=g1
    rw[List.nil_append]at g1
    rw[List.drop_zero]at g6
    obtain⟨C,T,m1,m2,m3⟩:=wrY (ends:=cs1 t mark) (to:=ts) c2.up (by omega) (by omega) c2.pos c2.last
    have hsz1:o1.nodes.length=o.nodes.length+l1.length:=by rw[g3,List.length_append]
    have hval:∀ x,0<=x->x < 1000->Val k t o1.nodes (sel C T x) (mark+1) (a &&& wdX t mark x):=fun x x0 x1=>by rw[m3 x x0 x1]; exact g6 x x0 x1
    have hTlen:=wec m2
    have hkids:∀ y∈T,Valid o1.nodes (mark+1) y:=fun y hy=>by
     obtain⟨x,x0,x1,x2⟩:=wlp m2 hy
     have:=(hval x x0 x1).1
     rw[x2]at this; exact this
    have c1':wbL (mark:Int) [o.rules]=some (cs1 t mark):=by rw[ho.et]; exact c1
    rw[c1',Option.bind_some,g1]
    simp only[Option.bind_some]
    rw[m1]
    simp only[Option.bind_some]
    obtain⟨t0,T',hT⟩:∃ t0 T',T=t0::T':=by
     cases T with
     | nil=>cases C <;> simp[wbK]at m2
     | cons t0 T'=>exact⟨t0,T',rfl⟩
    have e0:idx T 0=some t0:=by rw[hT]; rfl
    rw[e0,Option.bind_some]
    -- what is kept
    have keep:∀ (o2:Builder) (v:Int) (l2:List Node),BOk k t o2->o2.nodes=o1.nodes++l2->l2.length<=1->Val k t o2.nodes v mark a →
      BOk k t (⟨o2.k,o2.rules,wc5 (⟨(mark:Int),(a:Int),0⟩:Arr3_Int) v o2.known,o2.same,o2.nodes⟩:Builder)/\(∃ l,o2.nodes=o.nodes++l/\l.length<=1+(cs1 t mark).length*nB t d (mark+1)):=fun o2 v l2 b1 b2 b3 b4=>by
     refine⟨⟨b1.ek,b1.et,b1.good,b1.same1,b1.same2,fun mark' a' n' hm' hg'=>?_⟩,⟨l1++l2,by rw[b2,g3,List.append_assoc],by rw[List.length_append]; omega⟩⟩
     dsimp only at hg' ⊢
     rw[why]at hg'
     split at hg'
     ·rename_i heq
      simp only[Arr3_Int.mk.injEq]at heq
      obtain⟨q1,q2,_⟩:=heq
      have q1:mark'=mark:=by omega
      have q2:a'=a:=by omega
      subst q1 q2
      simp only[Option.some.injEq]at hg'
      rw[<-hg']; exact b4
     ·exact b1.known mark' a' n' hm' hg'
    by_cases h1:1 < (T.length:Int)
    ·obtain⟨i,o2,n1,n2,n3,⟨l2,n4,n5⟩,n6⟩:=wtx hk g2 (x:=(⟨(mark:Int),C,T⟩:Node)) ⟨by simp,by simp; omega⟩ m2 (by simp only; omega) (by simpa using hkids) (by omega)
     have hv:Val k t o2.nodes (i:Int) mark a:=by
      refine⟨.inr ⟨_,Int.natCast_nonneg _,by rw[Int.toNat_natCast]; exact n6,Int.le_refl _⟩,fun xs hx=>?_⟩
      have hp:=wdS hx mark
      rw[wfC hk n2.good.ok hx (Int.natCast_nonneg _) (by rw[Int.toNat_natCast]; exact n6)]
      have ek:wbW (⟨(mark:Int),C,T⟩:Node) xs=sel C T (xs.getD mark 0):=by unfold wbW; simp
      have hvk:=((hval _ hp.1 hp.2).ext g2.good.ok l2)
      rw[ek,wiK hx hmk,n4,hvk.2 xs hx]; rfl
     obtain⟨k1,k2⟩:=keep o2 (i:Int) l2 n2 n4 n5 hv
     refine⟨(i:Int),_,?_,k1,k2,hv⟩
     have n1:wa9 (⟨o1.k,o1.rules,o1.known,o1.same,o1.nodes⟩:Builder) (⟨(mark:Int),C,T⟩:Node)=some ((i:Int),o2):=n1
     rw[decide_eq_true h1,cond_true,n1]; rfl
    ·have hT1:T'=[]:=by
      cases T' with
      | nil=>rfl
      | cons b T'=>rw[hT]at h1; simp only[List.length_cons]at h1; omega
     subst hT1
     have hC:C=[1000]:=by
      rw[hT]at hTlen m2
      match C,hTlen,m2 with
      | [c],_,m2 =>
       rcases m2.2 with ⟨_,_,h⟩ | ⟨_,h⟩
       ·rw[h]
       ·simp[wbK]at h
     have hv:Val k t o1.nodes t0 mark a:=by
      refine⟨(hkids t0 (by rw[hT]; simp)).mono (by omega),fun xs hx=>?_⟩
      have hp:=wdS hx mark
      have hvk:=hval _ hp.1 hp.2
      rw[hC,hT]at hvk
      simp only[sel,if_pos hp.2]at hvk
      rw[wiK hx hmk,hvk.2 xs hx]; rfl
     obtain⟨k1,k2⟩:=keep o1 t0 [] g2 (by simp) (by simp) hv
     refine⟨t0,_,?_,k1,k2,hv⟩
     rw[decide_eq_false h1,cond_false]; rfl
end Go.Pv

namespace Go.Pv
def wcu:List Nat->Nat->Option Nat
 | [],_=>none
 | s::S,n=>if s=n then some 0 else (wcu S n).map (·+1)
theorem wkd:∀ (S:List Nat) (n m:Nat),wcu (S++[n]) m=match wcu S m with | some i=>some i | none=>if n=m then some S.length else none
 | [],n,m=>by simp only[List.nil_append,wcu,List.length_nil]; split <;> rfl
 | s::S,n,m=>by
  simp only[List.cons_append,wcu,wkd S n m]
  by_cases h:s=m
  ·rw[if_pos h,if_pos h]
  ·rw[if_neg h,if_neg h]
   cases wcu S m with
   | some i=>rfl
   | none=>simp only[Option.map_none]; split <;> simp
theorem wfD:∀ {S:List Nat} {n i:Nat},wcu S n=some i->S[i]? = some n
 | [],_,_,h=>by simp[wcu]at h
 | s::S,n,i,h=>by
  simp only[wcu]at h
  by_cases hs:s=n
  ·rw[if_pos hs]at h; cases h; simp[hs]
  ·rw[if_neg hs]at h
   cases hp:wcu S n with
   | none=>rw[hp]at h; cases h
   | some j =>
    rw[hp]at h
    simp only[Option.map_some,Option.some.injEq]at h
    subst h
    rw[List.getElem?_cons_succ]; exact wfD hp
theorem posOf_mem {S:List Nat} {n:Nat}:n∈S ↔ ∃ i,wcu S n=some i:=by
 constructor
 ·intro h
  induction S with
  | nil=>cases h
  | cons s S ih =>
   by_cases hs:s=n
   ·exact⟨0,by simp[wcu,hs]⟩
   ·rcases List.mem_cons.1 h with h2 | h2
    ·exact absurd h2.symm hs
    ·obtain⟨i,hi⟩:=ih h2
     exact⟨i+1,by simp[wcu,hs,hi]⟩
 ·rintro⟨i,hi⟩; exact List.mem_of_getElem? (wfD hi)
theorem wou {S:List Nat} {n:Nat} (T:List Nat) (h:n∈S):wcu (S++T) n=wcu S n:=by
 obtain⟨i,hi⟩:=posOf_mem.1 h
 clear h
 induction S generalizing i with
 | nil=>cases hi
 | cons s S ih =>
  simp only[List.cons_append,wcu]at hi ⊢
  by_cases hs:s=n
  ·rw[if_pos hs,if_pos hs]
  ·rw[if_neg hs]at hi ⊢
   rw[if_neg hs]
   cases hp:wcu S n with
   | none=>rw[hp]at hi; cases hi
   | some j=>rw[ih j hp,hp]
def num (S:List Nat) (n:Int):Int:=if n < 0 then n else (((wcu S n.toNat).getD 0:Nat):Int)
def In (S:List Nat) (n:Int):Prop:=n < 0\/n.toNat∈S
theorem wqM {S:List Nat} {n:Int} (T:List Nat) (h:In S n):num (S++T) n=num S n:=by
 unfold num
 rcases h with h | h
 ·rw[if_pos h,if_pos h]
 ·rw[wou T h]
theorem In.app {S:List Nat} {n:Int} (h:In S n) (T:List Nat):In (S++T) n:=h.imp id fun h=>List.mem_append_left _ h
def vis (N:List Node):Nat->List Nat->Int->List Nat
 | 0,S,_=>S
 | f+1,S,n=>if n < 0 then S else if n.toNat∈S then S else (N.getD n.toNat default).To.foldl (fun S t=>vis N f S t) (S++[n.toNat])
theorem wjq (N:List Node):∀ (f:Nat) (S:List Nat) (n:Int),∃ T,vis N f S n=S++T
 | 0,S,_=>⟨[],by simp[vis]⟩
 | f+1,S,n=>by
  have wba:∀ (l:List Int) (S:List Nat),∃ T,l.foldl (fun S t=>vis N f S t) S=S++T:=by
   intro l
   induction l with
   | nil=>intro S; exact⟨[],by simp⟩
   | cons t l ih =>
    intro S
    obtain⟨T,hT⟩:=wjq N f S t
    obtain⟨U,hU⟩:=ih (S++T)
    exact⟨T++U,by rw[List.foldl_cons,hT,hU,List.append_assoc]⟩
  simp only[vis]
  split
  ·exact⟨[],by simp⟩
  ·split
   ·exact⟨[],by simp⟩
   ·obtain⟨T,hT⟩:=wba (N.getD n.toNat default).To (S++[n.toNat])
    exact⟨[n.toNat]++T,by rw[hT,List.append_assoc]⟩
theorem wim:∀ (n:Nat) (S:List Nat),S.Nodup->(∀ s∈S,s < n)->S.length<=n
 | 0,S,_,h=>by
  cases S with
  | nil=>simp
  | cons s S=>have:=h s (by simp); omega
 | n+1,S,hd,h=>by
  by_cases hm:n∈S
  ·have h1:=wim n (S.erase n) (hd.erase n) (fun s hs=>by
    have h2:=(hd.mem_erase_iff).1 hs
    have:=h s h2.2
    have:=h2.1
    omega)
   rw[List.length_erase_of_mem hm]at h1
   omega
  ·have:=wim n S hd (fun s hs=>by
    have h1:=h s hs
    have:s≠n:=fun e=>hm (e▸hs)
    omega)
   omega
def wco (N:List Node) (S:List Nat) (n:Nat):Node:=⟨(N.getD n default).Mark,(N.getD n default).Cuts,(N.getD n default).To.map (num S)⟩
structure Com (N:List Node) (M:List (Int×Int)) (L:List Node) (S:List Nat):Prop where
 map:∀ n:Nat,waQ (n:Int) M=(wcu S n).map fun i=>(i:Int)
 len:L.length=S.length
 nodup:S.Nodup
 lt:∀ s∈S,s < N.length
def wpQ (N:List Node) (L:List Node) (S:List Nat) (p:Nat):Prop:=∀ (i n:Nat),p<=i->S[i]? = some n->L[i]? = some (wco N S n)/\∀ t∈(N.getD n default).To,In S t
theorem wrZ {N:List Node} {S:List Nat} {n:Nat} (h:∀ t∈(N.getD n default).To,In S t) (T:List Nat):wco N (S++T) n=wco N S n:=by
 unfold wco
 congr 1
 exact List.map_congr_left fun t ht=>wqM T (h t ht)
theorem wov {k:Nat} {o:Builder} (hN:GoodN k o.nodes) (hsz:o.nodes.length<=2000000) {f:Nat} {self:List (Int×Int)->List Node->Builder->Int->Option (Int×List (Int×Int)×List Node)} {p n0:Nat} {x:Node} (hx:o.nodes[n0]? = some x) {l1:List Node} (hp:l1.length=p)
  (hself:∀ M L S t,t∈x.To->Com o.nodes M L S->∃ M' L',self M L o t=some (num (vis o.nodes f S t) t,M',L')/\Com o.nodes M' L' (vis o.nodes f S t)/\(∀ i,i < L.length->L'[i]? = L[i]?)/\wpQ o.nodes L' (vis o.nodes f S t) L.length/\In (vis o.nodes f S t) t) :
  ∀ (n v:Nat) (M:List (Int×Int)) (L:List Node) (S:List Nat),n=x.To.length - v->v<=x.To.length->Com o.nodes M L S->p < L.length->L[p]? = some (⟨x.Mark,x.Cuts,(x.To.take v).map (num S)⟩:Node)->(∀ t∈x.To.take v,In S t)->wpQ o.nodes L S (p+1) →
   ∃ M' L',iter (waI l1 o self x) ((v:Int),M,L)=some (M',L')/\Com o.nodes M' L' ((x.To.drop v).foldl (fun S t=>vis o.nodes f S t) S)/\(∀ i,i < p->L'[i]? = L[i]?)/\L'[p]? = some (⟨x.Mark,x.Cuts,x.To.map (num ((x.To.drop v).foldl (fun S t=>vis o.nodes f S t) S))⟩:Node)/\(∀ t∈x.To,In ((x.To.drop v).foldl (fun S t=>vis o.nodes f S t) S) t)/\wpQ o.nodes L' ((x.To.drop v).foldl (fun S t=>vis o.nodes f S t) S) (p+1)
 | 0,v,M,L,S,hn,hv,hC,hpl,hLp,hin,hfu=>by
  have e:v=x.To.length:=by omega
  subst e
  rw[List.take_length]at hLp hin
  rw[wbE x.To (Nat.le_refl _)]
  refine⟨M,L,waC ?_,hC,fun _ _=>rfl,hLp,hin,hfu⟩
  unfold waI
  dsimp only
  rw[decide_eq_false (by omega)]; rfl
 | n+1,v,M,L,S,hn,hv,hC,hpl,hLp,hin,hfu=>by
  have hvt:v < x.To.length:=by omega
  have e1:idx x.To (v:Int)=some x.To[v]:=by unfold idx; simp[hvt]
  have hcnt:=weq (hN.runs _ x hx)
  have hlen:=wec (hN.runs _ x hx)
  obtain⟨M1,L1,s1,s2,s3,s4,s5⟩:=hself M L S x.To[v] (List.getElem_mem hvt) hC
  obtain⟨T,hT⟩:=wjq o.nodes f S x.To[v]
  have hS1:(vis o.nodes f S x.To[v]).length=S.length+T.length:=by rw[hT,List.length_append]
  have hL1:L1[p]? = some (⟨x.Mark,x.Cuts,(x.To.take v).map (num S)⟩:Node):=by rw[s3 p hpl]; exact hLp
  have hp1:p < L1.length:=(List.getElem?_eq_some_iff.1 hL1).1
  have e2:idx L1 (l1.length:Int)=some (⟨x.Mark,x.Cuts,(x.To.take v).map (num S)⟩:Node):=by
   unfold idx
   rw[if_pos (Int.natCast_nonneg _),Int.toNat_natCast,hp]; exact hL1
  have hw:IntKind.i64.wrap ((v:Int)+1)=((v+1:Nat):Int):=by rw[wak (by omega)]; rfl
  have htk:(x.To.take v).map (num S)++[num (vis o.nodes f S x.To[v]) x.To[v]]=(x.To.take (v+1)).map (num (vis o.nodes f S x.To[v])):=by
   rw[List.take_succ_eq_append_getElem hvt,List.map_append]
   congr 1
   exact List.map_congr_left fun t ht=>by rw[hT]; exact(wqM T (hin t ht)).symm
  generalize hS':vis o.nodes f S x.To[v]=S' at s1 s2 s4 s5 hT hS1 htk
  obtain⟨M',L',g1,g2,g3,g4,g5,g6⟩:=wov hN hsz hx hp hself n (v+1) M1 (L1.set p (⟨x.Mark,x.Cuts,(x.To.take (v+1)).map (num S')⟩:Node)) S' (by omega) (by omega)
   ⟨s2.map,by rw[List.length_set]; exact s2.len,s2.nodup,s2.lt⟩ (by rw[List.length_set]; exact hp1) (by rw[List.getElem?_set_self hp1]) (fun t ht=>by
    rw[List.take_succ_eq_append_getElem hvt]at ht
    rcases List.mem_append.1 ht with h | h
    ·rw[hT]; exact(hin t h).app T
    ·simp only[List.mem_singleton]at h
     subst h; exact s5) (fun i m hi hm=>by
    rw[List.getElem?_set_ne (by omega)]
    rcases Nat.lt_or_ge i L.length with h | h
    ·have hmS:S[i]? = some m:=by
      rw[hT,List.getElem?_append_left (by rw[<-hC.len]; exact h)]at hm; exact hm
     obtain⟨q1,q2⟩:=hfu i m hi hmS
     rw[s3 i h,hT,wrZ q2 T]
     exact⟨q1,fun t ht=>(q2 t ht).app T⟩
    ·exact s4 i m h hm)
  rw[List.drop_eq_getElem_cons hvt,List.foldl_cons,hS']
  refine⟨M',L',waF ?_ g1,g2,fun i hi=>?_,g4,g5,g6⟩
  ·unfold waI
   dsimp only
   rw[decide_eq_true (by omega),cond_true,e1]
   simp only[Option.bind_some]
   rw[s1]
   simp only[Option.bind_some]
   rw[e2]
   simp only[Option.bind_some]
   unfold wah
   rw[if_pos (by simp; omega),hw,Int.toNat_natCast,hp,htk]
  ·rw[g3 i hi,List.getElem?_set_ne (by omega)]
   exact s3 i (by omega)
theorem wqN {k:Nat} (hk:k<=4) {o:Builder} (hN:GoodN k o.nodes) (hsz:o.nodes.length<=2000000):∀ (f d:Nat) (M:List (Int×Int)) (L:List Node) (S:List Nat) (n:Int),d < f->Valid o.nodes (k - d) n->Com o.nodes M L S →
  ∃ M' L',waH f M L o n=some (num (vis o.nodes f S n) n,M',L')/\Com o.nodes M' L' (vis o.nodes f S n)/\(∀ i,i < L.length->L'[i]? = L[i]?)/\wpQ o.nodes L' (vis o.nodes f S n) L.length/\In (vis o.nodes f S n) n
 | 0,d,_,_,_,_,h,_,_=>by omega
 | f+1,d,M,L,S,n,hd,hv,hC=>by
  show ∃ M' L',waZ (waH f) M L o n=_/\_
  unfold waZ
  have fullNone:wpQ o.nodes L S L.length:=fun i m hi hm=>by
   have:=(List.getElem?_eq_some_iff.1 hm).1
   have:=hC.len
   omega
  simp only[vis]
  rcases hv with ⟨h1,_⟩ | ⟨x,h1,h2,h3⟩
  ·rw[decide_eq_true h1,cond_true,if_pos h1]
   exact⟨M,L,by simp only[num,if_pos h1],hC,fun _ _=>rfl,fullNone,.inl h1⟩
  ·obtain⟨m,rfl⟩:∃ m:Nat,n=m:=⟨n.toNat,by omega⟩
   rw[Int.toNat_natCast]at h2
   have hneg:¬ (m:Int) < 0:=by omega
   rw[decide_eq_false hneg,cond_false,if_neg hneg,Int.toNat_natCast]
   have hmap:=hC.map m
   by_cases hmem:m∈S
   ·obtain⟨i,hi⟩:=posOf_mem.1 hmem
    rw[hi]at hmap
    have hmap:waQ (m:Int) M=some (i:Int):=hmap
    rw[if_pos hmem,hmap]
    simp only[Option.isSome_some,cond_true,Option.getD_some]
    exact⟨M,L,by simp only[num,if_neg hneg,Int.toNat_natCast,hi,Option.getD_some],hC,fun _ _=>rfl,fullNone,.inr hmem⟩
   ·have hnone:wcu S m=none:=by
     cases hp:wcu S m with
     | none=>rfl
     | some i=>exact absurd (posOf_mem.2 ⟨i,hp⟩) hmem
    rw[hnone]at hmap
    have hmap:waQ (m:Int) M=none:=hmap
    rw[if_neg hmem,hmap]
    simp only[Option.isSome_none,cond_false]
    have hmk:=hN.mark _ x h2
    have hlt:m < o.nodes.length:=(List.getElem?_eq_some_iff.1 h2).1
    have hSl:=wim o.nodes.length S hC.nodup hC.lt
    have hcnt:=weq (hN.runs _ x h2)
    have hlen:=wec (hN.runs _ x h2)
    have e1:idx o.nodes (m:Int)=some x:=by
     unfold idx
     rw[if_pos (Int.natCast_nonneg _),Int.toNat_natCast]; exact h2
    have hd0:0 < d:=by
     refine Nat.pos_of_ne_zero fun h=>?_
     subst h; omega
    have hcl:=hC.len
    have hC1:Com o.nodes (wc5 (m:Int) (L.length:Int) M) (L++[(⟨x.Mark,x.Cuts,[]⟩:Node)]) (S++[m]):=by
     refine⟨fun q=>?_,by simp[hcl],?_,fun s hs=>?_⟩
     ·rw[why,wkd]
      by_cases hq:(q:Int)=(m:Int)
      ·have:q=m:=by omega
       subst this
       rw[if_pos rfl,hnone]
       simp[hcl]
      ·rw[if_neg hq,hC.map q]
       cases wcu S q with
       | some i=>rfl
       | none =>
        have:¬ m=q:=fun e=>hq (by rw[e])
        simp[this]
     ·rw[List.nodup_append]
      refine⟨hC.nodup,by simp,fun a ha b hb=>?_⟩
      simp only[List.mem_singleton]at hb
      subst hb
      exact fun e=>hmem (e▸ha)
     ·rcases List.mem_append.1 hs with h | h
      ·exact hC.lt s h
      ·simp only[List.mem_singleton]at h
       subst h; exact hlt
    have hx:=wcs h2
    obtain⟨M',L',g1,g2,g3,g4,g5,g6⟩:=wov hN hsz (f:=f) (self:=waH f) (n0:=m) h2 (l1:=L) (p:=L.length) rfl (fun M L S t ht hC=>wqN hk hN hsz f (d - 1) M L S t (by omega) ((hN.kids _ x h2 t ht).mono (by omega)) hC)
     x.To.length 0 (wc5 (m:Int) (L.length:Int) M) (L++[(⟨x.Mark,x.Cuts,[]⟩:Node)]) (S++[m]) (by omega) (by omega) hC1 (by simp) (by simp) (fun t ht=>by simp at ht) (fun i q hi hq=>by
      have:=(List.getElem?_eq_some_iff.1 hq).1
      simp at this; omega)
    rw[List.drop_zero]at g2 g4 g5 g6
    have g1:iter (waI L o (waH f) x) (0,wc5 (m:Int) (L.length:Int) M,L++[(⟨x.Mark,x.Cuts,[]⟩:Node)])=some (M',L'):=g1
    rw[hx]
    obtain⟨T,hT⟩:∃ T,x.To.foldl (fun S t=>vis o.nodes f S t) (S++[m])=S++[m]++T:=by
     have:=wjq o.nodes (f+1) S (m:Int)
     have wba:∀ (l:List Int) (S:List Nat),∃ T,l.foldl (fun S t=>vis o.nodes f S t) S=S++T:=by
      intro l
      induction l with
      | nil=>intro S; exact⟨[],by simp⟩
      | cons t l ih =>
       intro S
       obtain⟨T,hT⟩:=wjq o.nodes f S t
       obtain⟨U,hU⟩:=ih (S++T)
       exact⟨T++U,by rw[List.foldl_cons,hT,hU,List.append_assoc]⟩
     exact wba x.To (S++[m])
    generalize hF:x.To.foldl (fun S t=>vis o.nodes f S t) (S++[m])=F at g2 g4 g5 g6 hT
    have hpos:wcu F m=some S.length:=by
     rw[hT,wou T (by simp),wkd,hnone]; simp
    refine⟨M',L',?_,g2,fun i hi=>?_,fun i q hi hq=>?_,.inr ?_⟩
    ·rw[e1]
     have hclo:whz x.Cuts=some x.Cuts:=by unfold whz; rw[if_pos (by omega)]
     simp only[Option.bind_some,hclo]
     unfold wah
     rw[if_pos (by omega),g1]
     simp only[Option.bind_some]
     simp only[num,if_neg hneg,Int.toNat_natCast,hpos,Option.getD_some,hcl]
    ·rw[g3 i hi,List.getElem?_append_left hi]
    ·rcases Nat.lt_or_ge i (L.length+1)with h | h
     ·have:i=L.length:=by omega
      subst this
      have:q=m:=by
       rw[hT,hcl,List.append_assoc,List.getElem?_append_right (Nat.le_refl _)]at hq
       simpa using hq.symm
      subst this
      unfold wco
      rw[hx]
      exact⟨g4,g5⟩
     ·exact g6 i q h hq
    ·exact posOf_mem.2 ⟨_,hpos⟩
theorem wnq {k:Nat} (hk:k<=4) {o:Builder} (hN:GoodN k o.nodes) (hsz:o.nodes.length<=2000000) {top:Int} (hv:Valid o.nodes 0 top):wa3 o top=some ((vis o.nodes 100 [] top).map (wco o.nodes (vis o.nodes 100 [] top)),o)/\(vis o.nodes 100 [] top).length<=o.nodes.length/\In (vis o.nodes 100 [] top) top/\∀ s∈vis o.nodes 100 [] top,s < o.nodes.length/\∀ t∈(o.nodes.getD s default).To,In (vis o.nodes 100 [] top) t:=by
 obtain⟨M',L',g1,g2,g3,g4,g5⟩:=wqN hk hN hsz 100 k [] [] [] top (by omega) (by rw[Nat.sub_self]; exact hv) ⟨fun n=>rfl,rfl,List.nodup_nil,fun s hs=>by cases hs⟩
 generalize vis o.nodes 100 [] top=S at g1 g2 g4 g5
 have hL:L'=S.map (wco o.nodes S):=by
  apply List.ext_getElem?
  intro i
  rw[List.getElem?_map]
  cases hs:S[i]? with
  | none =>
   rw[List.getElem?_eq_none_iff]at hs
   rw[List.getElem?_eq_none (by rw[g2.len]; exact hs)]; rfl
  | some n=>rw[(g4 i n (by simp) hs).1]; rfl
 refine⟨?_,wim _ S g2.nodup g2.lt,g5,fun s hs=>⟨g2.lt s hs,?_⟩⟩
 ·unfold wa3
  rw[g1,Option.bind_some,hL]
 ·obtain⟨i,hi,rfl⟩:=List.getElem_of_mem hs
  exact(g4 i _ (by simp) (List.getElem?_eq_getElem hi)).2
end Go.Pv

namespace Go.Pv
structure Pair (k:Nat) (N N':List Node) (S S':List Nat):Prop where
 len:S.length=S'.length
 lt:∀ s∈S,s < N.length
 lt':∀ s∈S',s < N'.length
 rel:∀ (i a b:Nat),S[i]? = some a->S'[i]? = some b->wdK k N N' (a:Int) (b:Int)
theorem wgg {k:Nat} {N:List Node} (hN:GoodN k N) {a:Nat} (h:a < N.length):Valid N 0 (a:Int) :=
 .inr ⟨N[a],Int.natCast_nonneg _,by rw[Int.toNat_natCast]; exact List.getElem?_eq_getElem h,(hN.mark a _ (List.getElem?_eq_getElem h)).1⟩
theorem wmC {k:Nat} (hk:k<=4) {N N':List Node} (hN:GoodN k N) (hN':GoodN k N') {a b:Nat} (ha:a < N.length) (hb:b < N'.length) (hab:wdK k N N' (a:Int) (b:Int)):∀ {S S':List Nat},Pair k N N' S S'->wcu S a=wcu S' b
 | [],[],_=>rfl
 | [],_::_,h=>by have:=h.len; simp at this
 | _::_,[],h=>by have:=h.len; simp at this
 | s::S,s'::S',h=>by
  have hr:=h.rel 0 s s' rfl rfl
  have hs:=h.lt s (by simp)
  have hs':=h.lt' s' (by simp)
  have ih:=wmC hk hN hN' ha hb hab (S:=S) (S':=S') ⟨by have:=h.len; simpa using this,fun x hx=>h.lt x (List.mem_cons_of_mem _ hx),fun x hx=>h.lt' x (List.mem_cons_of_mem _ hx),fun i x y hx hy=>h.rel (i+1) x y (by simpa using hx) (by simpa using hy)⟩
  simp only[wcu,ih]
  by_cases e:s=a
  ·have:s'=b:=by
    subst e
    have:=wqI hk hN' (wgg hN' hs') (wgg hN' hb) (fun xs hx=>(hr xs hx).symm.trans (hab xs hx))
    omega
   rw[if_pos e,if_pos this]
  ·have:¬ s'=b:=by
    intro e'
    subst e'
    have:=wqI hk hN (wgg hN hs) (wgg hN ha) (fun xs hx=>(hr xs hx).trans (hab xs hx).symm)
    exact e (by omega)
   rw[if_neg e,if_neg this]
theorem wr0 {k:Nat} {N N':List Node} {S S':List Nat} (h:Pair k N N' S S') {a b:Nat} (ha:a < N.length) (hb:b < N'.length) (hab:wdK k N N' (a:Int) (b:Int)):Pair k N N' (S++[a]) (S'++[b]):=by
 refine⟨by simp[h.len],fun s hs=>?_,fun s hs=>?_,fun i x y hx hy=>?_⟩
 ·rcases List.mem_append.1 hs with h1 | h1
  ·exact h.lt s h1
  ·simp only[List.mem_singleton]at h1; subst h1; exact ha
 ·rcases List.mem_append.1 hs with h1 | h1
  ·exact h.lt' s h1
  ·simp only[List.mem_singleton]at h1; subst h1; exact hb
 ·have hl:=h.len
  rcases Nat.lt_or_ge i S.length with h1 | h1
  ·rw[List.getElem?_append_left h1]at hx
   rw[List.getElem?_append_left (by omega)]at hy
   exact h.rel i x y hx hy
  ·rw[List.getElem?_append_right h1]at hx
   rw[List.getElem?_append_right (by omega)]at hy
   have e1:x=a:=by simpa using List.mem_of_getElem? hx
   have e2:y=b:=by simpa using List.mem_of_getElem? hy
   subst e1 e2; exact hab
theorem wpR {k:Nat} (hk:k<=4) {N N':List Node} (hN:GoodN k N) (hN':GoodN k N'):∀ (f:Nat) (S S':List Nat) (n m:Int),Pair k N N' S S'->Valid N 0 n->Valid N' 0 m->wdK k N N' n m->Pair k N N' (vis N f S n) (vis N' f S' m)
 | 0,S,S',_,_,h,_,_,_=>h
 | f+1,S,S',n,m,h,hn,hm,hs=>by
  have wba:∀ (l l':List Int) (S S':List Nat),l.length=l'.length->(∀ t∈l,Valid N 0 t)->(∀ t∈l',Valid N' 0 t)->(∀ (i:Nat) a b,l[i]? = some a->l'[i]? = some b->wdK k N N' a b)->Pair k N N' S S'->Pair k N N' (l.foldl (fun S t=>vis N f S t) S) (l'.foldl (fun S t=>vis N' f S t) S'):=by
   intro l
   induction l with
   | nil =>
    intro l' S S' hl _ _ _ hP
    cases l' with
    | nil=>exact hP
    | cons _ _=>simp at hl
   | cons t l ih =>
    intro l' S S' hl h1 h2 h3 hP
    cases l' with
    | nil=>simp at hl
    | cons t' l' =>
     simp only[List.foldl_cons]
     exact ih l' _ _ (by simpa using hl) (fun x hx=>h1 x (List.mem_cons_of_mem _ hx)) (fun x hx=>h2 x (List.mem_cons_of_mem _ hx)) (fun i a b ha hb=>h3 (i+1) a b (by simpa using ha) (by simpa using hb))
      (wpR hk hN hN' f S S' t t' hP (h1 t (by simp)) (h2 t' (by simp)) (h3 0 t t' rfl rfl))
  simp only[vis]
  rcases wiJ hk hN hN' hn hm hs with ⟨h1,h2⟩ | ⟨x,x',n0,m0,nx,mx,e1,e2,e3,e4⟩
  ·subst h2
   rw[if_pos h1,if_pos h1]; exact h
  ·have hn1:¬ n < 0:=by omega
   have hm1:¬ m < 0:=by omega
   rw[if_neg hn1,if_neg hm1]
   obtain⟨a,rfl⟩:∃ a:Nat,n=a:=⟨n.toNat,by omega⟩
   obtain⟨b,rfl⟩:∃ b:Nat,m=b:=⟨m.toNat,by omega⟩
   rw[Int.toNat_natCast]at nx mx
   simp only[Int.toNat_natCast]
   have ha:=(List.getElem?_eq_some_iff.1 nx).1
   have hb:=(List.getElem?_eq_some_iff.1 mx).1
   have hpos:=wmC hk hN hN' ha hb hs h
   by_cases hmem:a∈S
   ·obtain⟨i,hi⟩:=posOf_mem.1 hmem
    rw[if_pos hmem,if_pos (posOf_mem.2 ⟨i,by rw[<-hpos]; exact hi⟩)]
    exact h
   ·have:¬ b∈S':=fun hb'=>by
     obtain⟨i,hi⟩:=posOf_mem.1 hb'
     exact hmem (posOf_mem.2 ⟨i,by rw[hpos]; exact hi⟩)
    rw[if_neg hmem,if_neg this,wcs nx,wcs mx]
    exact wba x.To x'.To _ _ e3 (fun t ht=>(hN.kids _ x nx t ht).mono (Nat.zero_le _)) (fun t ht=>(hN'.kids _ x' mx t ht).mono (Nat.zero_le _)) e4 (wr0 h ha hb hs)
theorem wsS {k:Nat} (hk:k<=4) {N N':List Node} (hN:GoodN k N) (hN':GoodN k N') {S S':List Nat} (h:Pair k N N' S S') {n m:Int} (hn:Valid N 0 n) (hm:Valid N' 0 m) (hs:wdK k N N' n m):num S n=num S' m:=by
 rcases wiJ hk hN hN' hn hm hs with ⟨h1,h2⟩ | ⟨x,x',n0,m0,nx,mx,_⟩
 ·subst h2
  unfold num
  rw[if_pos h1,if_pos h1]
 ·have ha:=(List.getElem?_eq_some_iff.1 nx).1
  have hb:=(List.getElem?_eq_some_iff.1 mx).1
  unfold num
  rw[if_neg (by omega),if_neg (by omega),wmC hk hN hN' ha hb (by rw[show ((n.toNat:Nat):Int)=n by omega,show ((m.toNat:Nat):Int)=m by omega]; exact hs) h]
theorem wsT (k:Nat) (N N':List Node):Pair k N N' [] []:=⟨rfl,(fun s hs=>by cases hs),(fun s hs=>by cases hs),(fun i a b ha _=>by simp at ha)⟩
def dia (f:Nat) (N:List Node) (top:Int):List Node:=if top < 0 then [(⟨0,[1000],[top]⟩:Node)]else (vis N f [] top).map (wco N (vis N f [] top))
theorem wsU (f:Nat) {k:Nat} (hk:k<=4) {N N':List Node} (hN:GoodN k N) (hN':GoodN k N') {n m:Int} (hn:Valid N 0 n) (hm:Valid N' 0 m) (hs:wdK k N N' n m):dia f N n=dia f N' m:=by
 unfold dia
 rcases wiJ hk hN hN' hn hm hs with ⟨h1,h2⟩ | ⟨x,x',n0,m0,nx,mx,_⟩
 ·subst h2
  rw[if_pos h1,if_pos h1]
 ·rw[if_neg (by omega),if_neg (by omega)]
  have hP:Pair k N N' (vis N f [] n) (vis N' f [] m):=wpR hk hN hN' f [] [] n m (wsT k N N') hn hm hs
  generalize vis N f [] n=S at hP
  generalize vis N' f [] m=S' at hP
  apply List.ext_getElem?
  intro i
  rw[List.getElem?_map,List.getElem?_map]
  cases ha:S[i]? with
  | none =>
   rw[List.getElem?_eq_none_iff]at ha
   rw[List.getElem?_eq_none (by have:=hP.len; omega)]; rfl
  | some a =>
   have hi:=(List.getElem?_eq_some_iff.1 ha).1
   have hb:S'[i]? = some (S'[i]'(by have:=hP.len; omega)):=List.getElem?_eq_getElem (by have:=hP.len; omega)
   generalize hb0:S'[i]'(by have:=hP.len; omega)=b at hb
   rw[hb,Option.map_some,Option.map_some]
   congr 1
   have hab:=hP.rel i a b ha hb
   have hal:=hP.lt a (List.mem_of_getElem? ha)
   have hbl:=hP.lt' b (List.mem_of_getElem? hb)
   rcases wiJ hk hN hN' (wgg hN hal) (wgg hN' hbl) hab with ⟨h1,_⟩ | ⟨y,y',_,_,ny,my,e1,e2,e3,e4⟩
   ·omega
   ·rw[Int.toNat_natCast]at ny my
    unfold wco
    rw[wcs ny,wcs my,e1,e2]
    congr 1
    apply List.ext_getElem?
    intro j
    rw[List.getElem?_map,List.getElem?_map]
    cases hx:y.To[j]? with
    | none =>
     rw[List.getElem?_eq_none_iff]at hx
     rw[List.getElem?_eq_none (by omega)]; rfl
    | some c =>
     have hj:=(List.getElem?_eq_some_iff.1 hx).1
     have hy:y'.To[j]? = some (y'.To[j]'(by omega)):=List.getElem?_eq_getElem (by omega)
     rw[hy,Option.map_some,Option.map_some]
     congr 1
     exact wsS hk hN hN' hP ((hN.kids _ y ny c (List.mem_of_getElem? hx)).mono (Nat.zero_le _)) ((hN'.kids _ y' my _ (List.getElem_mem _)).mono (Nat.zero_le _)) (e4 j c _ hx hy)
theorem wpS {g:Int->Int}:∀ {cs ts:List Int} {u:Int},wbK u cs ts->(∀ a b,a∈ts->b∈ts->g a=g b->a=b)->wbK u cs (ts.map g)
 | [],_,_,h,_=>by simp[wbK]at h
 | _::_,[],_,h,_=>by simp[wbK]at h
 | c::cs,t::ts,u,h,hg=>by
  obtain⟨h1,h2⟩:=h
  refine⟨h1,?_⟩
  rcases h2 with ⟨h3,h4,h5⟩ | ⟨h3,h4⟩
  ·exact .inl ⟨h3,by rw[h4]; rfl,h5⟩
  ·refine .inr ⟨fun e=>?_,wpS h4 (fun a b ha hb=>hg a b (List.mem_cons_of_mem _ ha) (List.mem_cons_of_mem _ hb))⟩
   cases ts with
   | nil=>simp at e
   | cons t2 ts =>
    simp only[List.map_cons,List.head?_cons,Option.some.injEq]at e
    have:=hg t2 t (by simp) (by simp) e
    exact h3 (by rw[this]; rfl)
theorem wqO {g:Int->Int}:∀ {cs ts:List Int} {u x:Int},wbK u cs ts->x < 1000->sel cs (ts.map g) x=g (sel cs ts x)
 | [],_,_,_,h,_=>by simp[wbK]at h
 | _::_,[],_,_,h,_=>by simp[wbK]at h
 | c::cs,t::ts,u,x,h,hx=>by
  obtain⟨h1,h2⟩:=h
  simp only[List.map_cons,sel]
  by_cases hc:x < c
  ·rw[if_pos hc,if_pos hc]
  ·rw[if_neg hc,if_neg hc]
   rcases h2 with ⟨_,_,h5⟩ | ⟨_,h4⟩
   ·omega
   ·exact wqO h4 hx
theorem wtz {S:List Nat} {a b:Int} (ha:In S a) (hb:In S b) (h:num S a=num S b):a=b:=by
 unfold num at h
 by_cases h1:a < 0
 ·by_cases h2:b < 0
  ·rw[if_pos h1,if_pos h2]at h; exact h
  ·rw[if_pos h1,if_neg h2]at h; omega
 ·by_cases h2:b < 0
  ·rw[if_neg h1,if_pos h2]at h; omega
  ·rw[if_neg h1,if_neg h2]at h
   rcases ha with ha | ha
   ·omega
   rcases hb with hb | hb
   ·omega
   obtain⟨i,hi⟩:=posOf_mem.1 ha
   obtain⟨j,hj⟩:=posOf_mem.1 hb
   rw[hi,hj]at h
   simp only[Option.getD_some]at h
   have e:i=j:=by omega
   subst e
   have:=(wfD hi).symm.trans (wfD hj)
   simp only[Option.some.injEq]at this
   omega
theorem wpT {N:List Node} {S:List Nat} {n:Int} (h0:0<=n) (h:In S n):∃ i,wcu S n.toNat=some i/\(S.map (wco N S))[i]? = some (wco N S n.toNat)/\num S n=(i:Int):=by
 rcases h with h | h
 ·omega
 ·obtain⟨i,hi⟩:=posOf_mem.1 h
  refine⟨i,hi,by rw[List.getElem?_map,wfD hi]; rfl,?_⟩
  unfold num
  rw[if_neg (by omega),hi]; rfl
theorem wtA {k:Nat} {N:List Node} (hN:GoodN k N) {S:List Nat} (hS:∀ s∈S,s < N.length/\∀ t∈(N.getD s default).To,In S t):OkN k (S.map (wco N S)):=by
 have key:∀ (i:Nat) y,(S.map (wco N S))[i]? = some y->∃ s x,s∈S/\N[s]? = some x/\y=(⟨x.Mark,x.Cuts,x.To.map (num S)⟩:Node)/\∀ t∈x.To,In S t:=fun i y hy=>by
  rw[List.getElem?_map,Option.map_eq_some_iff]at hy
  obtain⟨s,hs,rfl⟩:=hy
  have hm:=List.mem_of_getElem? hs
  obtain⟨h1,h2⟩:=hS s hm
  have hx:=List.getElem?_eq_getElem h1
  rw[wcs hx]at h2
  exact⟨s,N[s],hm,hx,by unfold wco; rw[wcs hx],h2⟩
 refine⟨fun i y hy=>?_,fun i y hy=>?_,fun i y hy t ht=>?_⟩
 ·obtain⟨s,x,_,hx,rfl,_⟩:=key i y hy
  exact hN.mark s x hx
 ·obtain⟨s,x,_,hx,rfl,hin⟩:=key i y hy
  exact wpS (hN.runs s x hx) (fun a b ha hb=>wtz (hin a ha) (hin b hb))
 ·obtain⟨s,x,_,hx,rfl,hin⟩:=key i y hy
  simp only at ht ⊢
  obtain⟨a,ha,rfl⟩:=List.mem_map.1 ht
  have hv:=hN.kids s x hx a ha
  rcases hv with ⟨h1,h2⟩ | ⟨z,h1,h2,h3⟩
  ·exact .inl (by unfold num; rw[if_pos h1]; exact⟨h1,h2⟩)
  ·obtain⟨j,_,hj,hn⟩:=wpT (N:=N) h1 (hin a ha)
   refine .inr ⟨_,by rw[hn]; exact Int.natCast_nonneg _,by rw[hn,Int.toNat_natCast]; exact hj,?_⟩
   unfold wco
   rw[wcs h2]
   exact h3
theorem wqP {k:Nat} {N:List Node} (hN:GoodN k N) {S:List Nat} (hS:∀ s∈S,s < N.length/\∀ t∈(N.getD s default).To,In S t) {xs:List Int} (hx:Pts k xs):∀ (f:Nat) (n:Int),Valid N 0 n->In S n->(f=0->n < 0)->evF (S.map (wco N S)) f (num S n) xs=evF N f n xs\/∃ m,0<=m/\evF N f n xs=m
 | 0,n,_,_,hf=>by
  left
  have:=hf rfl
  unfold evF num
  rw[if_pos this]
 | f+1,n,hv,hin,_=>by
  by_cases h0:n < 0
  ·left
   unfold evF num
   rw[if_pos h0,if_pos h0,if_pos h0]
  ·rcases hv with ⟨h1,_⟩ | ⟨x,h1,h2,h3⟩
   ·omega
   ·obtain⟨j,_,hj,hn⟩:=wpT (N:=N) h1 hin
    have hsS:=hS n.toNat (hin.elim (fun h=>by omega) id)
    rw[wcs h2]at hsS
    have hkid:wbW x xs∈x.To:=weZ (hN.runs _ x h2) (wdS hx _).2
    have hkv:=(hN.kids _ x h2 _ hkid).mono (Nat.zero_le _)
    have ek:wbW (wco N S n.toNat) xs=num S (wbW x xs):=by
     unfold wbW wco
     rw[wcs h2]
     exact wqO (hN.runs _ x h2) (wdS hx _).2
    have e1:evF (S.map (wco N S)) (f+1) (num S n) xs=evF (S.map (wco N S)) f (num S (wbW x xs)) xs:=by
     rw[evF,hn,if_neg (by omega),Int.toNat_natCast,wcs hj,ek]
    have e2:evF N (f+1) n xs=evF N f (wbW x xs) xs:=by
     rw[evF,if_neg h0,wcs h2]
    rw[e1,e2]
    by_cases hf:f=0/\0<=wbW x xs
    ·right
     refine⟨wbW x xs,hf.2,?_⟩
     rw[hf.1]; rfl
    ·exact wqP hN hS hx f _ hkv (hsS.2 _ hkid) (fun h=>by omega)
end Go.Pv

namespace Go.Pv
end Go.Pv

namespace Go.Pv
theorem wow (t:List Rule):∀ (n i:Nat),n=41 - i->i<=40->(iter (waG t) (i:Int)=some (.inr false))\/(iter (waG t) (i:Int)=some (.inl ())/\t.length<=40/\∀ r∈t.drop i,r.Bands.length<=20)
 | 0,i,hn,hi=>by omega
 | n+1,i,hn,hi=>by
  rw[wce]
  by_cases hlt:i < t.length
  ·have h1:decide ((i:Int) < (t.length:Int))=true:=by simp; omega
   have h2:idx t (i:Int)=some t[i]:=by unfold idx; simp[hlt]
   by_cases h40:i=40
   ·have h3:decide (40<=(i:Int))=true:=by simp; omega
    refine .inl ?_
    unfold waG
    simp only[h1,h3,cond_true,Option.bind_some]
   ·have h3:decide (40<=(i:Int))=false:=by simp; omega
    have ih:=wow t n (i+1) (by omega) (by omega)
    generalize hf0:waG t=f at ih ⊢
    have hf:f (i:Int)=cond (decide (20 < (t[i].Bands.length:Int))) (some (.inr (.inr false))) (some (.inl (IntKind.i64.wrap ((i:Int)+1)))):=by
     rw[<-hf0]; unfold waG
     simp only[h1,h3,cond_true,cond_false,Option.bind_some,h2]
    rw[hf]
    by_cases hb:20 < (t[i].Bands.length:Int)
    ·rw[decide_eq_true hb]; exact .inl rfl
    ·rw[decide_eq_false hb]
     simp only[cond_false,Option.bind_some]
     rw[wak (by omega),show ((i:Int)+1)=((i+1:Nat):Int) by omega]
     rcases ih with ih | ⟨g1,g2,g3⟩
     ·exact .inl ih
     ·refine .inr ⟨g1,g2,fun r hr=>?_⟩
      rw[List.drop_eq_getElem_cons hlt]at hr
      rcases List.mem_cons.1 hr with rfl | hr
      ·omega
      ·exact g3 r hr
  ·have h1:decide ((i:Int) < (t.length:Int))=false:=by simp; omega
   refine .inr ⟨?_,by omega,fun r hr=>?_⟩
   ·unfold waG
    simp only[h1,cond_false,Option.bind_some]
   ·rw[wbE t (by omega)]at hr; cases hr
end Go.Pv

namespace Go.Pv
end Go.Pv

namespace Go.Pv
open Go.Lib
theorem wr1 {k:Nat} {t:List Rule} (ht:wdm k t) {mark:Nat} (hm:mark < k):∀ x∈cs1 t mark,x=1000\/∃ r∈t,x=(wat r mark).Lo\/x=(wat r mark).Hi:=by
 have h:=(wjo ht hm).1
 generalize cs1 t mark=cs at h
 unfold wbL at h
 have h1:=wj7 mark [t] (by simp) (fun u hu=>by
  simp only[List.mem_cons,List.not_mem_nil,or_false]at hu
  subst hu
  exact⟨ht.1,fun r hr=>(weO (ht.2 r hr) hm).1⟩) [t].length 0 [1000] (by omega) (by simp)
 rw[show ((0:Nat):Int)=0 from rfl,List.drop_zero]at h1
 rw[h1]at h
 simp only[Option.bind_some]at h
 generalize hL:[1000]++[t].flatMap (wfv mark)=L at h
 have hmem:∀ x,x∈L->x=1000\/∃ r∈t,x=(wat r mark).Lo\/x=(wat r mark).Hi:=fun x hx=>by
  rw[<-hL]at hx
  simpa [wfv]using hx
 obtain⟨_,h⟩:=wae h
 obtain⟨_,h⟩:=wae h
 rw[wpF]at h
 obtain⟨_,hcm⟩:=wjn (wll L)
 have hcm2:∀ x,x∈compactI (sortI L)->x∈L:=fun x hx=>(wnk L).mem_iff.1 ((hcm x).1 hx)
 generalize compactI (sortI L)=C at h hcm2
 obtain⟨o,ha,h2⟩:=bind_some h
 simp only[Option.some.injEq]at h2
 obtain⟨e,_,h⟩:=bind_some ha
 rw[h2]at h
 intro x hx
 refine hmem x (hcm2 x ?_)
 cases hd:decide (e=0)with
 | true =>
  rw[hd,cond_true]at h
  obtain⟨_,h⟩:=wae h
  simp only[Option.some.injEq]at h
  rw[<-h]at hx
  exact List.mem_of_mem_drop (List.mem_of_mem_take hx)
 | false =>
  rw[hd,cond_false]at h
  simp only[Option.some.injEq]at h
  rw[h]; exact hx
theorem wox:∀ (l m:List Int),l.Nodup->(∀ x∈l,x∈m)->l.length<=m.length
 | [],m,_,_=>by simp
 | x::l,m,hd,h=>by
  rw[List.nodup_cons]at hd
  have h1:=wox l (m.erase x) hd.2 (fun y hy=>by
   have hne:y≠x:=fun e=>hd.1 (e▸hy)
   exact(List.mem_erase_of_ne hne).2 (h y (List.mem_cons_of_mem _ hy)))
  rw[List.length_erase_of_mem (h x (by simp))]at h1
  have:=List.length_pos_of_mem (h x (by simp))
  simp only[List.length_cons]; omega
theorem wr2 {t:List Rule} (ht:t.length<=24):wlk t=(web t:Int):=by
 have h1:=wqF t ht
 rw[wiG]at h1
 simpa using h1
def pcs (t:List Rule) (m:Nat):Nat:=(wc3 m (wlk t) 0 t [1000]).length
theorem wtg {k:Nat} {t:List Rule} (ht:wdm k t) {mark:Nat} (hm:mark < k):(cs1 t mark).length<=pcs t mark/\1<=pcs t mark:=by
 obtain⟨_,hc,_⟩:=wjo ht hm
 unfold pcs
 rw[wr2 ht.1]
 obtain⟨g1,g2,g3,g4,g5⟩:=wil mark (web t) t 0 [1000] (by have:=ht.1; omega) (List.pairwise_singleton ..)
 refine⟨wox _ _ (hc.up.imp (fun h=>by omega)) (fun x hx=>?_),List.length_pos_of_mem (g2 1000 (by simp))⟩
 have hp:=hc.pos x hx
 rcases wr1 ht hm x hx with h | ⟨r,hr,h⟩
 ·exact g2 x (by simp[h])
 ·obtain⟨j,hj,rfl⟩:=List.getElem_of_mem hr
  obtain⟨q1,q2⟩:=g4 j t[j] (List.getElem?_eq_getElem hj) (by rw[Nat.zero_add,wpH]; exact decide_eq_true hj)
  rcases h with h | h
  ·rw[h]; exact q1 (by omega)
  ·rw[h]; exact q2
def wfV (t:List Rule):Nat->Nat->Nat
 | 0,_=>1
 | d+1,m=>pcs t m*wfV t d (m+1)
theorem woy {k:Nat} {t:List Rule} (ht:wdm k t):∀ (d m:Nat),m+d<=k->1<=wfV t d m
 | 0,_,_=>Nat.le_refl _
 | d+1,m,h=>by
  have h1:=(wtg ht (show m < k by omega)).2
  have h2:=woy ht d (m+1) (by omega)
  exact Nat.mul_le_mul h1 h2
theorem wth {k:Nat} {t:List Rule} (ht:wdm k t):∀ (d m:Nat),m+d<=k->nB t d m<=d*wfV t d m
 | 0,_,_=>by simp[nB]
 | d+1,m,h=>by
  obtain⟨h1,h1'⟩:=wtg ht (show m < k by omega)
  have h2:=wth ht d (m+1) (by omega)
  have h3:=woy ht d (m+1) (by omega)
  have h4:(cs1 t m).length*nB t d (m+1)<=pcs t m*(d*wfV t d (m+1)):=Nat.mul_le_mul h1 h2
  have h5:pcs t m*(d*wfV t d (m+1))=d*(pcs t m*wfV t d (m+1)):=by rw[Nat.mul_left_comm]
  have h6:1<=pcs t m*wfV t d (m+1):=Nat.mul_le_mul h1' h3
  simp only[nB,wfV]
  rw[Nat.succ_mul]
  omega
theorem wsV {k:Nat} (hk:k<=4) {t:List Rule} (ht:wdm k t):nB t k 0<=1000000:=by
 have key:∀ (d m:Nat),m+d<=k->nB t d m<=bnd d:=by
  intro d
  induction d with
  | zero=>intro m _; simp[nB]
  | succ d ih =>
   intro m h
   obtain⟨_,_,h97⟩:=wjo ht (show m < k by omega)
   have h1:=ih (m+1) (by omega)
   have h2:(cs1 t m).length*nB t d (m+1)<=98*bnd d:=Nat.mul_le_mul (by omega) h1
   have h3:bnd (d+1)=1+98*bnd d:=rfl
   simp only[nB]; omega
 exact Nat.le_trans (key k 0 (by omega)) (wrW hk)
theorem wnr {k:Nat} (hk:k<=4) {t:List Rule} (ht:wdm k t):∀ (d m out:Nat) (v:Int),m+d=k->iter (waw (k:Int) t 30000) ((out:Int),(m:Int))=some v->v < 30000->out*wfV t d m < 30000
 | 0,m,out,v,hd,h,hv=>by
  have hf:waw (k:Int) t 30000 ((out:Int),(m:Int))=some (.inr (out:Int)):=by
   unfold waw
   dsimp only
   have h3:decide ((m:Int) < (k:Int))=false:=decide_eq_false (by omega)
   rw[h3,Bool.false_and]; rfl
  rw[waC hf]at h
  simp only[Option.some.injEq]at h
  simp only[wfV,Nat.mul_one]; omega
 | d+1,m,out,v,hd,h,hv=>by
  have h3:decide ((m:Int) < (k:Int))=true:=decide_eq_true (by omega)
  by_cases ho:(out:Int) < 30000
  ·have h49:pcs t m<=49:=by
    unfold pcs
    rw[wr2 ht.1]
    have h5:=(wil m (web t) t 0 [1000] (by have:=ht.1; omega) (List.pairwise_singleton ..)).2.2.2.2
    have h6:=ht.1
    simp only[List.length_cons,List.length_nil]at h5
    omega
   have hm49:out*pcs t m<=30000*49:=Nat.mul_le_mul (by omega) h49
   have hf:waw (k:Int) t 30000 ((out:Int),(m:Int))=some (.inl (((out*pcs t m:Nat):Int),((m+1:Nat):Int))):=by
    unfold waw
    dsimp only
    rw[h3,decide_eq_true ho]
    simp only[Bool.and_self,cond_true,wiG,Option.bind_some,wj4 t m (wlk t) (by have:=ht.1; omega) (fun r hr=>(weO (ht.2 r hr) (show m < k by omega)).1)]
    rw[wak (x:=(m:Int)+1) (by omega)]
    have e:(out:Int)*(((wc3 m (wlk t) 0 t [1000]).length:Nat):Int)=((out*pcs t m:Nat):Int):=by unfold pcs; rw[Int.natCast_mul]
    rw[e,wak (by omega)]; rfl
   rw[wce,hf]at h
   have:=wnr hk ht d (m+1) (out*pcs t m) v (by omega) h hv
   simp only[wfV]
   rw[<-Nat.mul_assoc]; exact this
  ·exfalso
   have hf:waw (k:Int) t 30000 ((out:Int),(m:Int))=some (.inr (out:Int)):=by
    unfold waw
    dsimp only
    rw[h3,decide_eq_false ho]; rfl
   rw[waC hf]at h
   simp only[Option.some.injEq]at h
   omega
theorem wr3 {k:Nat} {t:List Rule} (hf:wcf (k:Int) t=some true) (hc:chk (k:Int) [t]=0):nB t k 0<=200000:=by
 obtain⟨k1,k2,t1,t2⟩:=wg3 hc
 have ht:wdm k t:=⟨t1,t2⟩
 have hk:k<=4:=by omega
 have h2:=wow t 41 0 (by omega) (by omega)
 rw[show ((0:Nat):Int)=0 from rfl,List.drop_zero]at h2
 unfold wcf at hf
 rcases h2 with h2 | ⟨h2,_⟩
 ·rw[h2]at hf; simp at hf
 ·rw[h2]at hf
  simp only[Option.bind_some]at hf
  obtain⟨v,hv,hf⟩:=bind_some hf
  have hlt:v < 30000:=by simpa using hf
  unfold wcC at hv
  rw[wlM (k:Int) t,Option.bind_some,hc]at hv
  simp only[decide_not,decide_true,Bool.not_true,cond_false]at hv
  obtain⟨w,hwa,hv⟩:=bind_some hv
  obtain⟨w2,hw3,hw2⟩:=bind_some hwa
  simp only[Option.some.injEq]at hv hw2
  rw[hv]at hw2
  rw[hw2]at hw3
  have hw:iter (waw (k:Int) t 30000) (((1:Nat):Int),((0:Nat):Int))=some v:=hw3
  have h3:=wnr hk ht k 0 1 v (by omega) hw hlt
  rw[Nat.one_mul]at h3
  have h4:=wth ht k 0 (by omega)
  have h5:k*wfV t k 0<=4*30000:=Nat.mul_le_mul hk (by omega)
  omega
end Go.Pv

namespace Go.Pv
theorem wqQ {k:Nat} {N:List Node} (hN:OkN k N) {xs:List Int} (hx:Pts k xs):∀ (d:Nat) (n:Int) (f:Nat),Valid N (k - d) n->d < f->evF N f n xs < 0/\-101<=evF N f n xs
 | d,n,0,_,h=>by omega
 | d,n,f+1,hv,h=>by
  unfold evF
  rcases hv with ⟨h1,h2⟩ | ⟨x,h1,h2,h3⟩
  ·rw[if_pos h1]; exact⟨h1,h2⟩
  ·rw[if_neg (by omega),wcs h2]
   have hm:=hN.mark _ x h2
   have hk:wbW x xs∈x.To:=weZ (hN.runs _ x h2) (wdS hx _).2
   have hv2:=hN.kids _ x h2 _ hk
   cases d with
   | zero=>omega
   | succ d=>exact wqQ hN hx d _ f (hv2.mono (by omega)) (by omega)
theorem wtV {k:Nat} (hk:k<=4) {N:List Node} (hN:OkN k N) {xs:List Int} (hx:Pts k xs) {n:Int} (hv:Valid N 0 n):ev N n xs < 0/\-101<=ev N n xs :=
 wqQ hN hx k n 5 (by rw[Nat.sub_self]; exact hv) (by omega)
theorem wsW (N:List Node) (f:Nat) {top:Int} (h:0<=top):∃ T,vis N (f+1) [] top=top.toNat::T:=by
 have wba:∀ (l:List Int) (S:List Nat),∃ T,l.foldl (fun S t=>vis N f S t) S=S++T:=by
  intro l
  induction l with
  | nil=>intro S; exact⟨[],by simp⟩
  | cons t l ih =>
   intro S
   obtain⟨T,hT⟩:=wjq N f S t
   obtain⟨U,hU⟩:=ih (S++T)
   exact⟨T++U,by rw[List.foldl_cons,hT,hU,List.append_assoc]⟩
 obtain⟨T,hT⟩:=wba (N.getD top.toNat default).To ([]++[top.toNat])
 refine⟨T,?_⟩
 have h1:¬ top < 0:=by omega
 have h2:¬ top.toNat∈([]:List Nat):=by simp
 rw[vis,if_neg h1,if_neg h2,hT]; rfl
theorem wtW {k:Nat} (hk:k<=4) (hk1:1<=k) {N:List Node} (hN:GoodN k N) {top:Int} (hv:Valid N 0 top) (f:Nat)
  (hS:0<=top->(vis N (f+1) [] top).length<=N.length/\∀ s∈vis N (f+1) [] top,s < N.length/\∀ t∈(N.getD s default).To,In (vis N (f+1) [] top) t) :
  OkN k (dia (f+1) N top)/\1<=(dia (f+1) N top).length/\(dia (f+1) N top).length<=max 1 N.length/\Valid (dia (f+1) N top) 0 0/\∀ xs,Pts k xs->ev (dia (f+1) N top) 0 xs=ev N top xs:=by
 unfold dia
 by_cases h0:top < 0
 ·rw[if_pos h0]
  have hok:OkN k [(⟨0,[1000],[top]⟩:Node)]:=by
   have key:∀ (i:Nat) (x:Node),[(⟨0,[1000],[top]⟩:Node)][i]? = some x->x=(⟨0,[1000],[top]⟩:Node):=fun i x hx=>by
    simpa using List.mem_of_getElem? hx
   refine⟨fun i x hx=>?_,fun i x hx=>?_,fun i x hx t ht=>?_⟩
   ·rw[key i x hx]; exact⟨Int.le_refl _,by simp only; omega⟩
   ·rw[key i x hx]; exact⟨by simp,.inl ⟨rfl,rfl,rfl⟩⟩
   ·rw[key i x hx]at ht
    simp only[List.mem_singleton]at ht
    subst ht
    rcases hv with h | ⟨_,h,_⟩
    ·exact .inl h
    ·omega
  refine⟨hok,by simp,by simp only[List.length_cons,List.length_nil]; omega,.inr ⟨_,Int.le_refl _,rfl,Int.le_refl _⟩,fun xs hx=>?_⟩
  rw[wfC hk hok hx (Int.le_refl 0) (x:=(⟨0,[1000],[top]⟩:Node)) rfl]
  have hp:=wdS hx 0
  have ek:wbW (⟨0,[1000],[top]⟩:Node) xs=top:=by
   unfold wbW
   simp only[Int.toNat_zero,sel]
   rw[if_pos hp.2]
  rw[ek,wgf h0,wgf h0]
 ·rw[if_neg h0]
  obtain⟨hlen,hS⟩:=hS (by omega)
  obtain⟨T,hT⟩:=wsW N f (top:=top) (by omega)
  generalize vis N (f+1) [] top=S at hS hT hlen
  have hin:In S top:=.inr (by rw[hT]; simp)
  have hnum:num S top=0:=by
   unfold num
   rw[if_neg h0,hT]; simp[wcu]
  have hok:=wtA hN hS
  have hv0:Valid (S.map (wco N S)) 0 0:=by
   have h1:(S.map (wco N S))[0]? = some (wco N S top.toNat):=by rw[hT]; rfl
   exact .inr ⟨_,Int.le_refl _,h1,(hok.mark 0 _ h1).1⟩
  refine⟨hok,by rw[hT]; simp,by rw[List.length_map]; omega,hv0,fun xs hx=>?_⟩
  rcases wqP hN hS hx 5 top hv hin (by omega)with h | ⟨m,m0,h⟩
  ·rw[hnum]at h; exact h
  ·have:=(wtV hk hN.ok hx hv).1
   unfold ev at this
   omega
theorem wqq {k:Nat} {t:List Rule} (h:chk (k:Int) [t]=0):∃ (N:List Node) (top:Int),GoodN k N/\N.length<=nB t k 0/\Val k t N top 0 (web t)/\wbD (k:Int) t=some (dia 100 N top,0) ∧
  (0<=top->(vis N 100 [] top).length<=N.length/\∀ s∈vis N 100 [] top,s < N.length/\∀ t∈(N.getD s default).To,In (vis N 100 [] top) t):=by
 obtain⟨k1,k2,t1,t2⟩:=wg3 h
 have hk:k<=4:=by omega
 have ht:wdm k t:=⟨t1,t2⟩
 have hsm:=wsV hk ht
 have hb0:BOk k t (⟨(k:Int),t,[],[],[]⟩:Builder):=by
  refine⟨rfl,rfl,⟨fun i x hx=>by simp at hx,fun i x hx=>by simp at hx,fun i x hx=>by simp at hx,fun i x hx=>by simp at hx,fun i j x hx=>by simp at hx⟩,fun i x hx=>by simp at hx,(fun s v hv=>by cases hv),(fun mark a n _ hg=>by cases hg)⟩
 obtain⟨v,o',g1,g2,⟨l,g3,g4⟩,g5⟩:=wt9 hk ht 100 k (⟨(k:Int),t,[],[],[]⟩:Builder) 0 (web t) (by omega) (by omega) (by omega) (wjm t) hb0 (by simp; omega)
 have g1:wa6 100 (⟨(k:Int),t,[],[],[]⟩:Builder) 0 (web t:Int)=some (v,o'):=g1
 have hl:o'.nodes.length<=nB t k 0:=by rw[g3]; simpa using g4
 have hord:0<=v->wa3 o' v=some ((vis o'.nodes 100 [] v).map (wco o'.nodes (vis o'.nodes 100 [] v)),o')/\(vis o'.nodes 100 [] v).length<=o'.nodes.length/\In (vis o'.nodes 100 [] v) v/\∀ s∈vis o'.nodes 100 [] v,s < o'.nodes.length/\∀ t∈(o'.nodes.getD s default).To,In (vis o'.nodes 100 [] v) t:=fun _=>wnq hk g2.good (by omega) g5.1
 refine⟨o'.nodes,v,g2.good,hl,g5,?_,fun h0=>⟨(hord h0).2.1,(hord h0).2.2.2⟩⟩
 unfold wbD
 rw[wne (k:Int) [t] (by simp),h]
 simp only[Option.bind_some,decide_not,decide_true,Bool.not_true,cond_false]
 rw[wsI t t1,Option.bind_some,g1,Option.bind_some]
 unfold dia
 by_cases h0:v < 0
 ·rw[if_pos h0]
  simp only[decide_eq_true h0,cond_true]
 ·rw[if_neg h0]
  simp only[decide_eq_false h0,cond_false,(hord (by omega)).1,Option.bind_some]
theorem wqr {k:Int} {t:List Rule} (h:chk k [t]≠0):wbD k t=some ([],chk k [t]):=by
 unfold wbD
 rw[wne k [t] (by simp),Option.bind_some]
 have hz:decide (¬ chk k [t]=0)=true:=decide_eq_true h
 rw[hz]; rfl
theorem wkw (a b:List Int) (hl:a.length=b.length) (h:a.length<=1000000):∀ (n i:Nat),n=a.length - i->(iter (waU a b) (i:Int)=some (.inl ())/\a.drop i=b.drop i)\/(iter (waU a b) (i:Int)=some (.inr false)/\a.drop i≠b.drop i)
 | 0,i,hn=>by
  refine .inl ⟨waC ?_,by rw[wbE _ (by omega),wbE _ (by omega)]⟩
  unfold waU
  rw[decide_eq_false (by omega)]; rfl
 | n+1,i,hn=>by
  have hi:i < a.length:=by omega
  have hib:i < b.length:=by omega
  have e1:idx a (i:Int)=some a[i]:=by unfold idx; simp[hi]
  have e2:idx b (i:Int)=some b[i]:=by unfold idx; simp[hib]
  have hf:waU a b (i:Int)=cond (decide (¬ a[i]=b[i])) (some (.inr (.inr false))) (some (.inl ((i+1:Nat):Int))):=by
   unfold waU
   rw[decide_eq_true (by omega),cond_true,e1,e2]
   simp only[Option.bind_some]
   rw[wak (by omega)]; rfl
  rw[List.drop_eq_getElem_cons hi,List.drop_eq_getElem_cons hib]
  by_cases he:a[i]=b[i]
  ·have hz:decide (¬ a[i]=b[i])=false:=decide_eq_false (by simp[he])
   rw[hz,cond_false]at hf
   rcases wkw a b hl h n (i+1) (by omega)with ⟨g1,g2⟩ | ⟨g1,g2⟩
   ·exact .inl ⟨waF hf g1,by rw[he,g2]⟩
   ·exact .inr ⟨waF hf g1,fun hh=>g2 (List.cons.inj hh).2⟩
  ·have hz:decide (¬ a[i]=b[i])=true:=decide_eq_true he
   rw[hz,cond_true]at hf
   exact .inr ⟨waC hf,fun hh=>he (List.cons.inj hh).1⟩
theorem wpU (a b:List Int) (h:a.length<=1000000):∃ r,wbl a b=some r/\(r=true ↔ a=b):=by
 unfold wbl
 by_cases hl:a.length=b.length
 ·have hz:decide (¬ (a.length:Int)=(b.length:Int))=false:=decide_eq_false (by omega)
  rw[hz,cond_false]
  rcases wkw a b hl h a.length 0 (by omega)with ⟨g1,g2⟩ | ⟨g1,g2⟩
  ·have g1:iter (waU a b) 0=some (.inl ()):=g1
   rw[g1]
   exact⟨true,rfl,fun _=>by simpa using g2,fun _=>rfl⟩
  ·have g1:iter (waU a b) 0=some (.inr false):=g1
   rw[g1]
   exact⟨false,rfl,(fun h=>by cases h),fun h=>absurd (by rw[h]) g2⟩
 ·have hz:decide (¬ (a.length:Int)=(b.length:Int))=true:=decide_eq_true (by omega)
  rw[hz]
  exact⟨false,rfl,(fun h=>by cases h),fun h=>absurd (by rw[h]) hl⟩
theorem wjr (a b:List Node) (hl:a.length=b.length) (h:a.length<=1000000) (hs:∀ x∈a,x.Cuts.length<=1000000/\x.To.length<=1000000):∀ (n i:Nat),n=a.length - i->(iter (waX a b) (i:Int)=some (.inl ())/\a.drop i=b.drop i)\/(iter (waX a b) (i:Int)=some (.inr false)/\a.drop i≠b.drop i)
 | 0,i,hn=>by
  refine .inl ⟨waC ?_,by rw[wbE _ (by omega),wbE _ (by omega)]⟩
  unfold waX
  rw[decide_eq_false (by omega)]; rfl
 | n+1,i,hn=>by
  have hi:i < a.length:=by omega
  have hib:i < b.length:=by omega
  have e1:idx a (i:Int)=some a[i]:=by unfold idx; simp[hi]
  have e2:idx b (i:Int)=some b[i]:=by unfold idx; simp[hib]
  obtain⟨s1,s2⟩:=hs _ (List.getElem_mem hi)
  obtain⟨r1,q1,q2⟩:=wpU a[i].Cuts b[i].Cuts s1
  obtain⟨r2,p1,p2⟩:=wpU a[i].To b[i].To s2
  have hf:waX a b (i:Int)=cond (decide (¬ a[i].Mark=b[i].Mark)) (some (.inr (.inr false))) (cond (!r1) (some (.inr (.inr false))) (cond (!r2) (some (.inr (.inr false))) (some (.inl ((i+1:Nat):Int))))):=by
   unfold waX
   rw[decide_eq_true (by omega),cond_true,e1,e2]
   simp only[Option.bind_some,q1,p1]
   rw[wak (by omega)]; rfl
  rw[List.drop_eq_getElem_cons hi,List.drop_eq_getElem_cons hib]
  by_cases he:a[i]=b[i]
  ·have hz:decide (¬ a[i].Mark=b[i].Mark)=false:=decide_eq_false (by simp[he])
   rw[hz,q2.2 (by rw[he]),p2.2 (by rw[he])]at hf
   simp only[Bool.not_true,cond_false]at hf
   rcases wjr a b hl h hs n (i+1) (by omega)with ⟨g1,g2⟩ | ⟨g1,g2⟩
   ·exact .inl ⟨waF hf g1,by rw[he,g2]⟩
   ·exact .inr ⟨waF hf g1,fun hh=>g2 (List.cons.inj hh).2⟩
  ·have hbad:waX a b (i:Int)=some (.inr (.inr false)):=by
    rw[hf]
    by_cases m1:a[i].Mark=b[i].Mark
    ·have hz:decide (¬ a[i].Mark=b[i].Mark)=false:=decide_eq_false (by simp[m1])
     rw[hz,cond_false]
     cases hr1:r1 with
     | false=>rfl
     | true =>
      cases hr2:r2 with
      | false=>rfl
      | true =>
       have c1:=q2.1 hr1
       have c2:=p2.1 hr2
       refine absurd ?_ he
       generalize a[i]=x at m1 c1 c2
       generalize b[i]=y at m1 c1 c2
       cases x; cases y
       simp only at m1 c1 c2
       rw[m1,c1,c2]
    ·have hz:decide (¬ a[i].Mark=b[i].Mark)=true:=decide_eq_true m1
     rw[hz]; rfl
   exact .inr ⟨waC hbad,fun hh=>he (List.cons.inj hh).1⟩
theorem woz (a b:List Node) (h:a.length<=1000000) (hs:∀ x∈a,x.Cuts.length<=1000000/\x.To.length<=1000000):∃ r,wcj a b=some r/\(r=true ↔ a=b):=by
 unfold wcj
 by_cases hl:a.length=b.length
 ·have hz:decide (¬ (a.length:Int)=(b.length:Int))=false:=decide_eq_false (by omega)
  rw[hz,cond_false]
  rcases wjr a b hl h hs a.length 0 (by omega)with ⟨g1,g2⟩ | ⟨g1,g2⟩
  ·have g1:iter (waX a b) 0=some (.inl ()):=g1
   rw[g1]
   exact⟨true,rfl,fun _=>by simpa using g2,fun _=>rfl⟩
  ·have g1:iter (waX a b) 0=some (.inr false):=g1
   rw[g1]
   exact⟨false,rfl,(fun h=>by cases h),fun h=>absurd (by rw[h]) g2⟩
 ·have hz:decide (¬ (a.length:Int)=(b.length:Int))=true:=decide_eq_true (by omega)
  rw[hz]
  exact⟨false,rfl,(fun h=>by cases h),fun h=>absurd (by rw[h]) hl⟩
theorem wi1 {k:Nat} {t:List Rule} (ht:wdm k t) {a:Nat} (ha:a < 2 ^ t.length):(wb6 a < 0/\wgG t a=-1)\/(¬ wb6 a < 0/\0<=wgG t a):=by
 unfold wgG
 by_cases h:wb6 a < 0
 ·exact .inl ⟨h,if_pos h⟩
 ·refine .inr ⟨h,?_⟩
  rw[if_neg h]
  have hlt:=wiI ha h
  have hm:t.getD (wb6 a).toNat default∈t:=by
   rw[List.getD,List.getElem?_eq_getElem hlt]; exact List.getElem_mem hlt
  exact wrX (ht.2 _ hm)
theorem wr4 {k:Nat} {s t:List Rule} (hs:wdm k s) (ht:wdm k t) {a b:Nat} (ha:a < 2 ^ s.length) (hb:b < 2 ^ t.length):wgH s a=wgH t b ↔ wgG s a=wgG t b:=by
 unfold wgH
 rcases wi1 hs ha with ⟨h1,h2⟩ | ⟨h1,h2⟩
 ·rcases wi1 ht hb with ⟨h3,h4⟩ | ⟨h3,h4⟩
  ·rw[if_pos h1,if_pos h3,h2,h4]
  ·rw[if_pos h1,if_neg h3]; omega
 ·rcases wi1 ht hb with ⟨h3,h4⟩ | ⟨h3,h4⟩
  ·rw[if_neg h1,if_pos h3]; omega
  ·rw[if_neg h1,if_neg h3]; omega
theorem wsX {k:Nat} {s t:List Rule} (hs:wdm k s) (ht:wdm k t) {N N':List Node} {n m:Int} (h:Val k s N n 0 (web s)) (h':Val k t N' m 0 (web t)):wdK k N N' n m ↔ wt8 k s t:=by
 have key:∀ xs,Pts k xs->(ev N n xs=ev N' m xs ↔ wlN s xs=wlN t xs):=fun xs hx=>by
  rw[h.2 xs hx,h'.2 xs hx,List.drop_zero,wr4 hs ht (wnX xs 0 _ (wjm s)) (wnX xs 0 _ (wjm t)),wqH hs hx.1,wqH ht hx.1]
 exact⟨fun hh xs hx=>(key xs hx).1 (hh xs hx),fun hh xs hx=>(key xs hx).2 (hh xs hx)⟩
theorem woA {k:Nat} {d:List Node} (hd:OkN k d):∀ x∈d,x.Cuts.length<=1000000/\x.To.length<=1000000:=fun x hx=>by
 obtain⟨i,hi,rfl⟩:=List.getElem_of_mem hx
 have hr:=hd.runs i _ (List.getElem?_eq_getElem hi)
 have h1:=weq hr
 have h2:=wec hr
 omega
end Go.Pv

namespace Go.Pv
theorem wns (a b:List Int) (hl:a.length=b.length) (h:a.length<=1000000):∀ (n i:Nat),n=a.length - i->(iter (wbi a b) (i:Int)=some (.inl ())/\a.drop i=b.drop i)\/(iter (wbi a b) (i:Int)=some (.inr false)/\a.drop i≠b.drop i)
 | 0,i,hn=>by
  refine .inl ⟨waC ?_,by rw[wbE _ (by omega),wbE _ (by omega)]⟩
  unfold wbi
  rw[decide_eq_false (by omega)]; rfl
 | n+1,i,hn=>by
  have hi:i < a.length:=by omega
  have hib:i < b.length:=by omega
  have e1:idx a (i:Int)=some a[i]:=by unfold idx; simp[hi]
  have e2:idx b (i:Int)=some b[i]:=by unfold idx; simp[hib]
  have hf:wbi a b (i:Int)=cond (decide (¬ a[i]=b[i])) (some (.inr (.inr false))) (some (.inl ((i+1:Nat):Int))):=by
   unfold wbi
   rw[decide_eq_true (by omega),cond_true,e1,e2]
   simp only[Option.bind_some]
   rw[wak (by omega)]; rfl
  rw[List.drop_eq_getElem_cons hi,List.drop_eq_getElem_cons hib]
  by_cases he:a[i]=b[i]
  ·have hz:decide (¬ a[i]=b[i])=false:=decide_eq_false (by simp[he])
   rw[hz,cond_false]at hf
   rcases wns a b hl h n (i+1) (by omega)with ⟨g1,g2⟩ | ⟨g1,g2⟩
   ·exact .inl ⟨waF hf g1,by rw[he,g2]⟩
   ·exact .inr ⟨waF hf g1,fun hh=>g2 (List.cons.inj hh).2⟩
  ·have hz:decide (¬ a[i]=b[i])=true:=decide_eq_true he
   rw[hz,cond_true]at hf
   exact .inr ⟨waC hf,fun hh=>he (List.cons.inj hh).1⟩
theorem wpV (a b:List Int) (h:a.length<=1000000):wcI a b=some (decide (a=b)):=by
 unfold wcI
 by_cases hl:a.length=b.length
 ·have hz:decide (¬ (a.length:Int)=(b.length:Int))=false:=decide_eq_false (by omega)
  rw[hz,cond_false]
  rcases wns a b hl h a.length 0 (by omega)with ⟨g1,g2⟩ | ⟨g1,g2⟩
  ·have g1:iter (wbi a b) 0=some (.inl ()):=g1
   have e:a=b:=by simpa using g2
   rw[g1,decide_eq_true e]; rfl
  ·have g1:iter (wbi a b) 0=some (.inr false):=g1
   have e:a≠b:=by simpa using g2
   rw[g1,decide_eq_false e]; rfl
 ·have hz:decide (¬ (a.length:Int)=(b.length:Int))=true:=decide_eq_true (by omega)
  rw[hz,cond_true,decide_eq_false (fun e=>hl (by rw[e]))]
theorem wnt {o:Search} {n1:Node} (hs:∀ x∈o.nodes,x.Cuts.length<=1000000/\x.To.length<=1000000) (hl:o.nodes.length<=2000000):∀ (n i:Nat),n=o.nodes.length - i->(iter (waB n1 o) (i:Int)=some (.inl ())/\∀ x∈o.nodes.drop i,x≠n1)\/∃ j:Nat,iter (waB n1 o) (i:Int)=some (.inr ((j:Int),o))/\o.nodes[j]? = some n1
 | 0,i,hn=>by
  refine .inl ⟨waC ?_,by rw[wbE _ (by omega)]; intro x hx; cases hx⟩
  unfold waB
  rw[decide_eq_false (by omega)]; rfl
 | n+1,i,hn=>by
  have hi:i < o.nodes.length:=by omega
  have e1:idx o.nodes (i:Int)=some o.nodes[i]:=by unfold idx; simp[hi]
  have hsz:=hs _ (List.getElem_mem hi)
  have hw:IntKind.i64.wrap ((i:Int)+1)=((i+1:Nat):Int):=by rw[wak (by omega)]; rfl
  have hf:waB n1 o (i:Int)=if o.nodes[i]=n1 then some (.inr (.inr ((i:Int),o)))else some (.inl ((i+1:Nat):Int)):=by
   unfold waB
   rw[decide_eq_true (by omega),cond_true,e1]
   simp only[Option.bind_some]
   rw[wpV _ _ hsz.1,wpV _ _ hsz.2,hw]
   simp only[Option.bind_some]
   generalize o.nodes[i]=q
   by_cases h1:q.Mark=n1.Mark
   ·by_cases h2:q.Cuts=n1.Cuts
    ·by_cases h3:q.To=n1.To
     ·have:q=n1:=by cases q; cases n1; simp_all
      rw[if_pos this,decide_eq_true h1,decide_eq_true h2,decide_eq_true h3]; rfl
     ·rw[if_neg (fun e=>h3 (by rw[e])),decide_eq_true h1,decide_eq_true h2,decide_eq_false h3]; rfl
    ·rw[if_neg (fun e=>h2 (by rw[e])),decide_eq_true h1,decide_eq_false h2]; rfl
   ·rw[if_neg (fun e=>h1 (by rw[e])),decide_eq_false h1]; rfl
  by_cases he:o.nodes[i]=n1
  ·rw[if_pos he]at hf
   exact .inr ⟨i,waC hf,by rw[List.getElem?_eq_getElem hi,he]⟩
  ·rw[if_neg he]at hf
   rcases wnt hs hl n (i+1) (by omega)with ⟨g1,g2⟩ | ⟨j,g1,g2⟩
   ·refine .inl ⟨waF hf g1,fun x hx=>?_⟩
    rw[List.drop_eq_getElem_cons hi]at hx
    rcases List.mem_cons.1 hx with rfl | hx
    ·exact he
    ·exact g2 x hx
   ·exact .inr ⟨j,waF hf g1,g2⟩
theorem wr5 {k:Nat} {N:List Node} (hN:GoodN k N) {x:Node} (hm:0<=x.Mark/\x.Mark < (k:Int)) (hr:wbK 0 x.Cuts x.To) (h2:2<=x.To.length) (hkids:∀ y∈x.To,Valid N (x.Mark.toNat+1) y) (hnew:∀ y∈N,y≠x):GoodN k (N++[x]):=by
 have hnew:∀ i:Nat,N[i]?≠some x:=fun i hi=>hnew x (List.mem_of_getElem? hi) rfl
 refine⟨?_,?_,?_,?_,?_⟩
 ·intro i y hy
  rcases Nat.lt_or_ge i N.length with h | h
  ·rw[List.getElem?_append_left h]at hy; exact hN.mark i y hy
  ·rw[List.getElem?_append_right h]at hy
   have:y=x:=by simpa using List.mem_of_getElem? hy
   subst this; exact hm
 ·intro i y hy
  rcases Nat.lt_or_ge i N.length with h | h
  ·rw[List.getElem?_append_left h]at hy; exact hN.runs i y hy
  ·rw[List.getElem?_append_right h]at hy
   have:y=x:=by simpa using List.mem_of_getElem? hy
   subst this; exact hr
 ·intro i y hy
  rcases Nat.lt_or_ge i N.length with h | h
  ·rw[List.getElem?_append_left h]at hy; exact hN.two i y hy
  ·rw[List.getElem?_append_right h]at hy
   have:y=x:=by simpa using List.mem_of_getElem? hy
   subst this; exact h2
 ·intro i y hy z hz
  rcases Nat.lt_or_ge i N.length with h | h
  ·rw[List.getElem?_append_left h]at hy; exact(hN.kids i y hy z hz).ext _
  ·rw[List.getElem?_append_right h]at hy
   have:y=x:=by simpa using List.mem_of_getElem? hy
   subst this; exact(hkids z hz).ext _
 ·intro i j y hy hz
  rcases Nat.lt_or_ge i N.length with h | h
  ·rw[List.getElem?_append_left h]at hy
   rcases Nat.lt_or_ge j N.length with h' | h'
   ·rw[List.getElem?_append_left h']at hz; exact hN.uniq i j y hy hz
   ·rw[List.getElem?_append_right h']at hz
    have:y=x:=by simpa using List.mem_of_getElem? hz
    subst this; exact absurd hy (hnew i)
  ·rw[List.getElem?_append_right h]at hy
   have e:y=x:=by simpa using List.mem_of_getElem? hy
   subst e
   have hi:=(List.getElem?_eq_some_iff.1 hy).1
   rcases Nat.lt_or_ge j N.length with h' | h'
   ·rw[List.getElem?_append_left h']at hz; exact absurd hz (hnew j)
   ·rw[List.getElem?_append_right h']at hz
    have hj:=(List.getElem?_eq_some_iff.1 hz).1
    simp only[List.length_cons,List.length_nil]at hi hj
    omega
theorem wsY {k:Nat} {o:Search} (hN:GoodN k o.nodes) (hl:o.nodes.length<=2000000) {x:Node} (hm:0<=x.Mark/\x.Mark < (k:Int)) (hr:wbK 0 x.Cuts x.To) (h2:2<=x.To.length) (hkids:∀ y∈x.To,Valid o.nodes (x.Mark.toNat+1) y) :
  ∃ (i:Nat) (l:List Node),wbz o x=some ((i:Int),(⟨o.k,o.t,o.seen,o.many,o.at_,o.nodes++l⟩:Search))/\l.length<=1/\GoodN k (o.nodes++l)/\(o.nodes++l)[i]? = some x:=by
 have hs:∀ x∈o.nodes,x.Cuts.length<=1000000/\x.To.length<=1000000:=fun y hy=>by
  obtain⟨i,hi,rfl⟩:=List.getElem_of_mem hy
  have hr:=hN.runs i _ (List.getElem?_eq_getElem hi)
  have h1:=weq hr
  have h2:=wec hr
  omega
 unfold wbz
 rcases wnt (n1:=x) hs hl o.nodes.length 0 (by omega)with ⟨g1,g2⟩ | ⟨j,g1,g2⟩
 ·have g1:iter (waB x o) 0=some (.inl ()):=g1
  rw[g1]
  simp only[Option.bind_some]
  rw[waV (by simp; omega)]
  refine⟨o.nodes.length,[x],?_,by simp,wr5 hN hm hr h2 hkids (by simpa using g2),by simp⟩
  rw[wak (by simp; omega)]
  simp
 ·have g1:iter (waB x o) 0=some (.inr ((j:Int),o)):=g1
  rw[g1]
  refine⟨j,[],?_,by simp,by simpa using hN,by simpa using g2⟩
  simp
end Go.Pv

namespace Go.Pv
structure NdOk (k:Nat) (t:List Rule) (o:Search):Prop where
 ek:o.k=(k:Int)
 et:o.t=t
 tab:TabOk o.seen
 at_:o.at_.length=o.seen.keys.length
 good:GoodN k o.nodes
 few:o.nodes.length<=o.seen.keys.length
 memo:∀ (i mark a:Nat) (v:Int),o.seen.keys[i]? = some (⟨(mark:Int),(a:Int),0⟩:Arr3_Int)->o.at_[i]? = some v->mark < k->Val k t o.nodes v mark a
def wf9 (C T:List Int) (c w:Int):List Int×List Int:=if T.getLast? = some w then (C.set (C.length - 1) c,T)else (C++[c],T++[w])
theorem wtB {C T:List Int} {u c w:Int} (huc:u < c) (h:(u=0/\C=[]/\T=[])\/wc4 u 0 C T):wc4 c 0 (wf9 C T c w).1 (wf9 C T c w).2/\(∀ y,0<=y->y < u->sel (wf9 C T c w).1 (wf9 C T c w).2 y=sel C T y)/\(∀ y,u<=y->y < c->sel (wf9 C T c w).1 (wf9 C T c w).2 y=w)/\(wf9 C T c w).1.length<=C.length+1:=by
 unfold wf9
 rcases h with ⟨h1,h2,h3⟩ | h
 ·subst h1 h2 h3
  simp only[List.getLast?_nil,reduceCtorEq,↓reduceIte,List.nil_append]
  refine⟨⟨huc,.inl ⟨rfl,rfl,rfl⟩⟩,fun y h1 h2=>by omega,fun y h1 h2=>?_,by simp⟩
  simp only[sel,if_pos h2]
 ·by_cases hl:T.getLast? = some w
  ·rw[if_pos hl]
   obtain⟨h1,h2,h3⟩:=wkc huc h hl
   exact⟨h1,fun y _ hy=>h2 y hy,h3,by simp⟩
  ·rw[if_neg hl]
   obtain⟨h1,h2,h3⟩:=wkb huc h hl
   exact⟨h1,fun y _ hy=>h2 y hy,h3,by simp⟩
theorem wsZ {α:Type} {cs C T:List Int} {v:Nat} {c w:Int} {g:List Int->List Int->α} (e1:idx cs (v:Int)=some c) (hlen:C.length=T.length) (hsz:C.length<=1000) :
  (((cond (decide (0 < (T.length:Int))) ((idx T (IntKind.i64.wrap ((T.length:Int) - 1))).bind fun e4=>some (decide (e4=w))) (some false)):Option Bool).bind fun b1 =>
   cond b1 ((idx cs (v:Int)).bind fun e5=>(idx C (IntKind.i64.wrap ((C.length:Int) - 1))).bind fun _=>some (g (C.set ((IntKind.i64.wrap ((C.length:Int) - 1))).toNat e5) T))
    ((idx cs (v:Int)).bind fun e7=>wah (C.length+[e7].length<=4294967296)<|wah (T.length+[w].length<=4294967296)<|some (g (C++[e7]) (T++[w]))))=some (g (wf9 C T c w).1 (wf9 C T c w).2):=by
 have hw:∀ l:List Int,l.length<=1000->IntKind.i64.wrap ((l.length:Int) - 1)=(l.length:Int) - 1:=fun l hl=>wak (by omega)
 rw[hw T (by omega),hw C hsz,e1]
 simp only[Option.bind_some]
 rw[waV (by simp; omega),waV (by simp; omega)]
 unfold wf9
 by_cases hT:T=[]
 ·subst hT
  have hC:C=[]:=by cases C <;> simp_all
  subst hC
  simp
 ·have hpos:0 < T.length:=by cases T <;> simp_all
  have hix:∀ (l:List Int) (hl:0 < l.length),idx l ((l.length:Int) - 1)=some (l[l.length - 1]'(by omega)):=fun l hl=>by
   unfold idx
   rw[if_pos (by omega),show ((l.length:Int) - 1).toNat=l.length - 1 by omega,List.getElem?_eq_getElem]
  rw[decide_eq_true (by omega),cond_true,hix T hpos,hix C (by omega)]
  simp only[Option.bind_some]
  have hg:T.getLast? = some (T[T.length - 1]'(by omega)):=by
   rw[List.getLast?_eq_getElem?,List.getElem?_eq_getElem]
  rw[hg,show ((C.length:Int) - 1).toNat=C.length - 1 by omega]
  by_cases he:T[T.length - 1]'(by omega)=w
  ·rw[decide_eq_true he,cond_true,if_pos (by rw[he])]
  ·rw[decide_eq_false he,cond_false,if_neg (by simpa using he)]
theorem wqR {k:Nat} (hk:k<=4) {t:List Rule} (ht:wdm k t) {mark a B Z:Nat} (hm:mark < k) (ha:a < 2 ^ t.length) {cs:List Int} (hcs:wlm mark t a cs) (hpos:∀ c∈cs,0 < c/\c<=1000) (hlast:(1000:Int)∈cs) (hlen:cs.length<=49)
    {self:Search->Int->Int->Option (Int×Search)}
    (hself:∀ o (b:Nat),b < 2 ^ t.length->NdOk k t o->o.seen.keys.length+B<=Z->∃ v o',self o ((mark+1:Nat):Int) (b:Int)=some (v,o')/\NdOk k t o'/\(∃ l,o'.nodes=o.nodes++l)/\o'.seen.keys.length<=o.seen.keys.length+B/\Val k t o'.nodes v (mark+1) b) :
    ∀ (n v:Nat) (u:Int) (o:Search) (C T:List Int),n=cs.length - v->v<=cs.length->NdOk k t o->o.seen.keys.length+n*B<=Z->0<=u->u<=1000->(u::cs.drop v).Pairwise (· < ·)->(∀ c∈cs,u < c->c∈cs.drop v)->((u=0/\C=[]/\T=[])\/wc4 u 0 C T)->C.length<=v->(∀ x,0<=x->x < u->Val k t o.nodes (sel C T x) (mark+1) (a &&& wdX t mark x)) →
      ∃ (o':Search) (C' T':List Int),iter (wa0 (mark:Int) (a:Int) self cs) (u,(v:Int),o.k,o.t,o.seen.heads,o.seen.next,o.seen.keys,o.many,o.at_,o.nodes,C,T)=some (o'.k,o'.t,o'.seen.heads,o'.seen.next,o'.seen.keys,o'.many,o'.at_,o'.nodes,C',T')/\NdOk k t o'/\(∃ l,o'.nodes=o.nodes++l)/\o'.seen.keys.length<=o.seen.keys.length+n*B/\wc4 1000 0 C' T'/\∀ x,0<=x->x < 1000->Val k t o'.nodes (sel C' T' x) (mark+1) (a &&& wdX t mark x)
  | 0,v,u,o,C,T,hn,hv,ho,hsz,h0,hu,hup,hall,hrun,hCv,hval=>by
    have hvl:v=cs.length:=by omega
    subst hvl
    have hu2:u=1000:=by
      by_cases h:u < 1000
      · have:=hall 1000 hlast h
        rw[wbE _ (Nat.le_refl _)]at this; cases this
      · omega
    subst hu2
    refine⟨o,C,T,waC ?_,ho,⟨[],by simp⟩,by omega,hrun.resolve_left (fun h=>by omega),hval⟩
    unfold wa0
    dsimp only
    rw[decide_eq_false (by omega)]; rfl
  | n+1,v,u,o,C,T,hn,hv,ho,hsz,h0,hu,hup,hall,hrun,hCv,hval=>by
    have hv2:v < cs.length:=by omega
    have hcv:=hpos _ (List.getElem_mem hv2)
    have e1:idx cs (v:Int)=some cs[v]:=by unfold idx; simp[hv2]
    rw[List.drop_eq_getElem_cons hv2]at hup hall
    rw[List.pairwise_cons]at hup
    have huc:u < cs[v]:=hup.1 _ (List.mem_cons_self ..)
    have hup2:=List.pairwise_cons.1 hup.2
    have hnB:(n+1)*B=n*B+B:=Nat.succ_mul n B
    rw[hnB]at hsz
    have hlt:(a &&& wdX t mark u) < 2 ^ t.length:=Nat.lt_of_le_of_lt Nat.and_le_left ha
    have hleft:=wtt t mark a u ht.1 (fun r hr=>(weO (ht.2 r hr) hm).1)
    have hw:IntKind.i64.wrap ((v:Int)+1)=((v+1:Nat):Int):=by rw[wak (by omega)]; rfl
    have hw2:IntKind.i64.wrap ((mark:Int)+1)=((mark+1:Nat):Int):=by rw[wak (by omega)]; rfl
    obtain⟨w,o1,g1,g2,⟨l1,g3⟩,g4,g5⟩:=hself o _ hlt ho (by omega)
    have hCT:C.length=T.length:=by
      rcases hrun with ⟨_,h2,h3⟩ | h
      · rw[h2,h3]
      · exact(whC h).1
    obtain⟨p1,p2,p3,p4⟩:=wtB (w:=w) huc hrun
    have wal:=wsZ (α:=(Int×Int×Int×(List Rule)×(List Int)×(List Int)×(List Arr3_Int)×(List (List Int))×(List Int)×(List Node)×(List Int)×(List Int)) ⊕ (Int×(List Rule)×(List Int)×(List Int)×(List Arr3_Int)×(List (List Int))×(List Int)×(List Node)×(List Int)×(List Int)))
      (w:=w) (g:=fun C T=>.inl (cs[v],((v+1:Nat):Int),o1.k,o1.t,o1.seen.heads,o1.seen.next,o1.seen.keys,o1.many,o1.at_,o1.nodes,C,T)) e1 hCT (by omega)
    have hstep:wa0 (mark:Int) (a:Int) self cs (u,(v:Int),o.k,o.t,o.seen.heads,o.seen.next,o.seen.keys,o.many,o.at_,o.nodes,C,T)=some (.inl (cs[v],((v+1:Nat):Int),o1.k,o1.t,o1.seen.heads,o1.seen.next,o1.seen.keys,o1.many,o1.at_,o1.nodes,(wf9 C T cs[v] w).1,(wf9 C T cs[v] w).2)):=by
      rw[<-wal]
      unfold wa0
      dsimp only
      have hleft':wc0 o.t (mark:Int) (a:Int) u=some ((a &&& wdX t mark u:Nat):Int):=by rw[ho.et]; exact hleft
      rw[decide_eq_true (by omega),cond_true,hleft',Option.bind_some,hw,hw2]
      have g1':self (⟨o.k,o.t,(⟨o.seen.heads,o.seen.next,o.seen.keys⟩:Table),o.many,o.at_,o.nodes⟩:Search) ((mark+1:Nat):Int) ((a &&& wdX t mark u:Nat):Int)=some (w,o1):=g1
      rw[g1',Option.bind_some,e1,Option.bind_some]
      dsimp only
      generalize ((cond (decide (0 < (T.length:Int))) ((idx T (IntKind.i64.wrap ((T.length:Int) - 1))).bind fun e4=>some (decide (e4=w))) (some false)):Option Bool)=Z1
      cases Z1 with
      | none=>rfl
      | some b =>
        simp only[Option.bind_some]
        cases b with
        | true =>
          simp only[cond_true]
          cases idx C (IntKind.i64.wrap ((C.length:Int) - 1)) <;> rfl
        | false =>
          simp only[cond_false]
          unfold wah
          split
          · split <;> rfl
          · rfl
    obtain⟨o2,C2,T2,q1,q2,⟨l2,q3⟩,q4,q5,q6⟩:=wqR hk ht hm ha hcs hpos hlast hlen hself n (v+1) cs[v] o1 (wf9 C T cs[v] w).1 (wf9 C T cs[v] w).2 (by omega) (by omega) g2 (by omega) (by omega) (by omega) hup.2 (fun c hcm h=>by
      rcases List.mem_cons.1 (hall c hcm (by omega))with h2 | h2
      · omega
      · exact h2) (.inr p1) (by omega) (fun x x0 x1=>by
        by_cases hx:x < u
        · rw[p2 x x0 hx,g3]
          exact(hval x x0 hx).ext ho.good.ok _
        · rw[p3 x (by omega) x1,wnn hcs h0 (show u<=x by omega) (fun c hcm ⟨r1,r2⟩=>by
            rcases List.mem_cons.1 (hall c hcm r1)with h | h
            · omega
            · have:=hup2.1 c h; omega)]
          exact g5)
    exact⟨o2,C2,T2,waF hstep q1,q2,⟨l1++l2,by rw[q3,g3,List.append_assoc]⟩,by rw[hnB]; omega,q5,q6⟩
end Go.Pv

namespace Go.Pv
theorem wrp {k:Nat} {t:List Rule} (ht:wdm k t) {o:Search} (ho:NdOk k t o) {a:Nat} (ha:a < 2 ^ t.length) :
  ((wcH (a:Int)).bind fun r1=>cond (decide (r1 < 0)) (some ((-1:Int),o)) ((idx o.t r1).bind fun e1=>some ((IntKind.i64.wrap ((-2) - e1.Code)),o)))=some (wgH t a,o):=by
 have ha2:a < 2 ^ 24:=Nat.lt_of_lt_of_le ha (Nat.pow_le_pow_right (by omega) ht.1)
 have hr:=whn ht ha
 rw[wqp a ha2,Option.bind_some,ho.et]
 unfold wgH at hr ⊢
 by_cases h:wb6 a < 0
 ·rw[decide_eq_true h,cond_true,if_pos h]
 ·rw[if_neg h]at hr ⊢
  have hlt:=wiI ha h
  unfold wgG at hr ⊢
  rw[if_neg h]at hr ⊢
  have e:idx t (wb6 a)=some (t.getD (wb6 a).toNat default):=by
   unfold idx
   rw[if_pos (by omega),List.getD,List.getElem?_eq_getElem hlt]; rfl
  rw[decide_eq_false h,cond_false,e,Option.bind_some,wak (by omega)]
theorem wtC {k:Nat} (hk:k<=4) {t:List Rule} (ht:wdm k t) {d mark a:Nat} (hd:k - mark=d+1) (ha:a < 2 ^ t.length) {self:Search->Int->Int->Option (Int×Search)} {o:Search} (ho:NdOk k t o) (hsz:o.seen.keys.length+bnd (d+1)<=2000000)
  (hself:∀ o (b:Nat),b < 2 ^ t.length->NdOk k t o->o.seen.keys.length+bnd d<=2000000->∃ v o',self o ((mark+1:Nat):Int) (b:Int)=some (v,o')/\NdOk k t o'/\(∃ l,o'.nodes=o.nodes++l)/\o'.seen.keys.length<=o.seen.keys.length+bnd d/\Val k t o'.nodes v (mark+1) b) :
  ∃ v o',wa4 self o (mark:Int) (a:Int)=some (v,o')/\NdOk k t o'/\(∃ l,o'.nodes=o.nodes++l)/\o'.seen.keys.length<=o.seen.keys.length+bnd (d+1)/\Val k t o'.nodes v mark a:=by
 have hbnd:bnd (d+1)=1+98*bnd d:=rfl
 rw[hbnd]at hsz ⊢
 have hB:49*bnd d<=98*bnd d:=Nat.mul_le_mul_right _ (by omega)
 have hmk:mark < k:=by omega
 obtain⟨j,f1,f2⟩:=wsL (a:=a) (b:=0) ho.tab (show mark<=4 by omega)
 have f1:wbM o (⟨(mark:Int),(a:Int),0⟩:Arr3_Int)=some (j,o):=f1
 replace f2:j < 0\/∃ m:Nat,j=m/\o.seen.keys[m]? = some (⟨(mark:Int),(a:Int),0⟩:Arr3_Int):=f2
 have f3:0<=j->∃ m:Nat,j=m/\o.seen.keys[m]? = some (⟨(mark:Int),(a:Int),0⟩:Arr3_Int):=fun h=>f2.resolve_left (Int.not_lt.2 h)
 clear f2
 unfold wa4
 rw[decide_eq_false (by rw[ho.ek]; omega),cond_false,f1,Option.bind_some]
 by_cases hj:0<=j
 ·obtain⟨m,rfl,hm⟩:∃ m:Nat,j=m/\o.seen.keys[m]? = some (⟨(mark:Int),(a:Int),0⟩:Arr3_Int):=f3 hj
  clear f3
  have hml:m < o.at_.length:=by rw[ho.at_]; exact(List.getElem?_eq_some_iff.1 hm).1
  have e1:idx o.at_ (m:Int)=some o.at_[m]:=by unfold idx; simp[hml]
  have hv:=ho.memo m mark a o.at_[m] hm (List.getElem?_eq_getElem hml) hmk
  dsimp only
  rw[decide_eq_true hj,cond_true,e1,Option.bind_some]
  exact⟨_,o,rfl,ho,⟨[],by simp⟩,by omega,hv⟩
 ·clear f3
  obtain⟨p1,p2,p3,p4,p5,p6⟩:=wrl (k:=k) ht hmk a
  have p1':wb4 o.t (mark:Int) (a:Int)=some (wc3 mark (a:Int) 0 t [1000]):=by rw[ho.et]; exact p1
  generalize wc3 mark (a:Int) 0 t [1000]=cs at p1' p2 p3 p4 p5 p6
  have hcB:cs.length*bnd d<=49*bnd d:=Nat.mul_le_mul_right _ p6
  obtain⟨o1,C,T,h1,h2,⟨l1,h3⟩,h4,h5,hval⟩:=wqR hk ht (B:=bnd d) (Z:=2000000) hmk ha p5 p4 p3 p6 hself cs.length 0 0 o [] [] (by omega) (by omega) ho (by omega) (by omega) (by omega) (List.pairwise_cons.2 ⟨fun c h=>(p4 c (by simpa using h)).1,by simpa using p2⟩) (fun c h _=>by simpa using h) (.inl ⟨rfl,rfl,rfl⟩) (by simp) (fun x x0 x1=>by omega)
  have m2:=wlo h5
  have hTlen:=wec m2
  have hkids:∀ y∈T,Valid o1.nodes (mark+1) y:=fun y hy=>by
   obtain⟨x,x0,x1,x2⟩:=wlp m2 hy
   have:=(hval x x0 x1).1
   rw[x2]at this; exact this
  obtain⟨t0,T',hT⟩:∃ t0 T',T=t0::T':=by
   cases T with
   | nil=>cases C <;> simp[wbK]at m2
   | cons t0 T'=>exact⟨t0,T',rfl⟩
  have e0:idx T 0=some t0:=by rw[hT]; rfl
  dsimp only
  rw[decide_eq_false hj,cond_false,p1',Option.bind_some]
  have h1:iter (wa0 (mark:Int) (a:Int) self cs) (0,0,o.k,o.t,o.seen.heads,o.seen.next,o.seen.keys,o.many,o.at_,o.nodes,[],[])=some (o1.k,o1.t,o1.seen.heads,o1.seen.next,o1.seen.keys,o1.many,o1.at_,o1.nodes,C,T):=h1
  rw[h1,Option.bind_some,Option.bind_some,e0,Option.bind_some]
  dsimp only
  -- what is kept,whatever the place
  have keep:∀ (v:Int) (l2:List Node),GoodN k (o1.nodes++l2)->l2.length<=1->Val k t (o1.nodes++l2) v mark a →
    ∃ o',((wbu (⟨o1.k,o1.t,(⟨o1.seen.heads,o1.seen.next,o1.seen.keys⟩:Table),o1.many,o1.at_,o1.nodes++l2⟩:Search) (⟨(mark:Int),(a:Int),0⟩:Arr3_Int)).bind fun r7=>wah (r7.at_.length+[v].length<=4294967296)<|some (v,(⟨r7.k,r7.t,r7.seen,r7.many,(r7.at_++[v]),r7.nodes⟩:Search)))=some (v,o')/\NdOk k t o'/\(∃ l,o'.nodes=o.nodes++l)/\o'.seen.keys.length<=o.seen.keys.length+(1+98*bnd d)/\Val k t o'.nodes v mark a:=fun v l2 b1 b2 b3=>by
   have htab:TabOk (⟨o1.k,o1.t,(⟨o1.seen.heads,o1.seen.next,o1.seen.keys⟩:Table),o1.many,o1.at_,o1.nodes++l2⟩:Search).seen:=h2.tab
   obtain⟨o2,a1,a2,a3,a4,a5,a6,a7,a8⟩:=wtu (a:=a) (b:=0) htab (by dsimp only; omega) (show mark<=4 by omega)
   have a1:wbu (⟨o1.k,o1.t,(⟨o1.seen.heads,o1.seen.next,o1.seen.keys⟩:Table),o1.many,o1.at_,o1.nodes++l2⟩:Search) (⟨(mark:Int),(a:Int),0⟩:Arr3_Int)=some o2:=a1
   have a5:o2.at_=o1.at_:=a5
   have a6:o2.nodes=o1.nodes++l2:=a6
   have a8:o2.seen.keys=o1.seen.keys++[(⟨(mark:Int),(a:Int),0⟩:Arr3_Int)]:=a8
   have hm1:=h2.at_
   have hf1:=h2.few
   rw[a1,Option.bind_some,waV (by rw[a5]; simp; omega)]
   refine⟨_,rfl,⟨a2.trans h2.ek,a3.trans h2.et,a7,by simp[a5,a8,hm1],by dsimp only; rw[a6]; exact b1,by dsimp only; rw[a6,a8]; simp; omega,fun i mark' a' V hi hV hm'=>?_⟩,⟨l1++l2,by dsimp only; rw[a6,h3,List.append_assoc]⟩,by simp only[a8,List.length_append,List.length_cons,List.length_nil]; omega,by dsimp only; rw[a6]; exact b3⟩
   have hi:(o1.seen.keys++[(⟨(mark:Int),(a:Int),0⟩:Arr3_Int)])[i]? = some (⟨(mark':Int),(a':Int),0⟩:Arr3_Int):=by rw[<-a8]; exact hi
   have hV:(o1.at_++[v])[i]? = some V:=by rw[<-a5]; exact hV
   dsimp only
   rw[a6]
   by_cases hil:i < o1.seen.keys.length
   ·rw[List.getElem?_append_left hil]at hi
    rw[List.getElem?_append_left (by omega)]at hV
    exact(h2.memo i mark' a' V hi hV hm').ext h2.good.ok _
   ·rw[List.getElem?_append_right (by omega)]at hi
    rw[List.getElem?_append_right (by omega),hm1]at hV
    cases hz:i - o1.seen.keys.length with
    | zero =>
     rw[hz]at hi hV
     simp only[List.getElem?_cons_zero,Option.some.injEq,Arr3_Int.mk.injEq]at hi hV
     obtain⟨e1,e2,_⟩:=hi
     have e1:mark'=mark:=by omega
     have e2:a'=a:=by omega
     subst e1 e2
     rw[<-hV]; exact b3
    | succ q=>rw[hz]at hi; simp at hi
  have hf1:=h2.few
  by_cases hl2:1 < (T.length:Int)
  ·obtain⟨i,l2,n1,n2,n3,n4⟩:=wsY (o:=o1) h2.good (by omega) (x:=(⟨(mark:Int),C,T⟩:Node)) ⟨by simp,by simp; omega⟩ m2 (by simp only; omega) (by simpa using hkids)
   have hv:Val k t (o1.nodes++l2) (i:Int) mark a:=by
    refine⟨.inr ⟨_,Int.natCast_nonneg _,by rw[Int.toNat_natCast]; exact n4,Int.le_refl _⟩,fun xs hx=>?_⟩
    have hp:=wdS hx mark
    rw[wfC hk n3.ok hx (Int.natCast_nonneg _) (by rw[Int.toNat_natCast]; exact n4)]
    have ek:wbW (⟨(mark:Int),C,T⟩:Node) xs=sel C T (xs.getD mark 0):=by unfold wbW; simp
    have hvk:=((hval _ hp.1 hp.2).ext h2.good.ok l2)
    rw[ek,wiK hx hmk,hvk.2 xs hx]; rfl
   obtain⟨o',k1,k2⟩:=keep (i:Int) l2 n3 n2 hv
   refine⟨(i:Int),o',?_,k2⟩
   have n1:wbz (⟨o1.k,o1.t,(⟨o1.seen.heads,o1.seen.next,o1.seen.keys⟩:Table),o1.many,o1.at_,o1.nodes⟩:Search) (⟨(mark:Int),C,T⟩:Node)=some ((i:Int),(⟨o1.k,o1.t,o1.seen,o1.many,o1.at_,o1.nodes++l2⟩:Search)):=n1
   rw[decide_eq_true hl2,cond_true,n1,Option.bind_some,Option.bind_some]
   exact k1
  ·have hT1:T'=[]:=by
    cases T' with
    | nil=>rfl
    | cons b T'=>rw[hT]at hl2; simp only[List.length_cons]at hl2; omega
   subst hT1
   have hC:C=[1000]:=by
    rw[hT]at hTlen m2
    match C,hTlen,m2 with
    | [c],_,m2 =>
     rcases m2.2 with ⟨_,_,h⟩ | ⟨_,h⟩
     ·rw[h]
     ·simp[wbK]at h
   have hv:Val k t (o1.nodes++[]) t0 mark a:=by
    rw[List.append_nil]
    refine⟨(hkids t0 (by rw[hT]; simp)).mono (by omega),fun xs hx=>?_⟩
    have hp:=wdS hx mark
    have hvk:=hval _ hp.1 hp.2
    rw[hC,hT]at hvk
    simp only[sel,if_pos hp.2]at hvk
    rw[wiK hx hmk,hvk.2 xs hx]; rfl
   obtain⟨o',k1,k2⟩:=keep t0 [] (by rw[List.append_nil]; exact h2.good) (by simp) hv
   rw[List.append_nil]at k1
   refine⟨t0,o',?_,k2⟩
   rw[decide_eq_false hl2,cond_false,Option.bind_some]
   exact k1
theorem wtD {k:Nat} (hk:k<=4) {t:List Rule} (ht:wdm k t) (n:Nat):∀ (d:Nat) (o:Search) (mark a:Nat),k - mark=d->mark<=k->d < n->a < 2 ^ t.length->NdOk k t o->o.seen.keys.length+bnd d<=2000000 →
  ∃ v o',waW n o (mark:Int) (a:Int)=some (v,o')/\NdOk k t o'/\(∃ l,o'.nodes=o.nodes++l)/\o'.seen.keys.length<=o.seen.keys.length+bnd d/\Val k t o'.nodes v mark a:=by
 induction n with
 | zero=>intro d o mark a hd hm hn; omega
 | succ n ih =>
  intro d o mark a hd hm hn ha ho hsz
  have e:waW (n+1)=wa4 (waW n):=rfl
  rw[e]
  cases d with
  | succ d=>exact wtC hk ht hd ha ho hsz (fun o b hb ho hsz=>ih d o (mark+1) b (by omega) (by omega) (by omega) hb ho hsz)
  | zero =>
   have hmk:mark=k:=by omega
   subst hmk
   have hr:=whn ht ha
   unfold wa4
   rw[decide_eq_true (by rw[ho.ek]),cond_true,wrp ht ho ha]
   refine⟨_,o,rfl,ho,⟨[],by simp⟩,by omega,.inl ⟨hr.2,hr.1⟩,fun xs hx=>?_⟩
   rw[wgf hr.2,List.drop_eq_nil_of_le (by have:=hx.1; omega)]; rfl
end Go.Pv

namespace Go.Pv
def ofN (s:Nat):Int:=(s:Int)
theorem wnZ {S:List Nat} {i:Nat} (h:i < S.length):idx (S.map ofN) (i:Int)=some (S[i]:Int):=by
 unfold idx
 rw[if_pos (Int.natCast_nonneg _),Int.toNat_natCast,List.getElem?_map,List.getElem?_eq_getElem h]; rfl
theorem who {α:Type} {l:List α} {i:Nat} (h:i < l.length):idx l (i:Int)=some l[i]:=by
 unfold idx; simp[h]
theorem woB (n:Nat) (S:List Nat) (hS:S.length<=2000000):∀ (c i:Nat),c=S.length - i->iter (wiF (n:Int) (S.map ofN)) (i:Int)=some (if n∈S.drop i then .inr (S.map ofN)else .inl ())
 | 0,i,hc=>by
  refine waC ?_
  unfold wiF
  rw[wbE _ (by omega),decide_eq_false (by simp; omega)]; rfl
 | c+1,i,hc=>by
  have hi:i < S.length:=by omega
  have hw:IntKind.i64.wrap ((i:Int)+1)=((i+1:Nat):Int):=by rw[wak (by omega)]; rfl
  have hf:wiF (n:Int) (S.map ofN) (i:Int)=if S[i]=n then some (.inr (.inr (S.map ofN)))else some (.inl ((i+1:Nat):Int)):=by
   unfold wiF
   rw[decide_eq_true (by simp; omega),cond_true,wnZ hi,hw]
   simp only[Option.bind_some]
   by_cases h:S[i]=n
   ·rw[if_pos h,decide_eq_true (by omega)]; rfl
   ·rw[if_neg h,decide_eq_false (by omega)]; rfl
  rw[List.drop_eq_getElem_cons hi]
  by_cases h:S[i]=n
  ·rw[if_pos h]at hf
   rw[if_pos (by rw[h]; exact List.mem_cons_self ..)]
   exact waC hf
  ·rw[if_neg h]at hf
   have ih:=woB n S hS c (i+1) (by omega)
   have e:(n∈S[i]::S.drop (i+1)) ↔ n∈S.drop (i+1):=by
    rw[List.mem_cons]
    exact⟨fun hh=>hh.resolve_left (fun e=>h e.symm),.inr⟩
   simp only[e]
   exact waF hf ih
theorem woC {o:Search} {a:Nat} {x:Node} (hx:o.nodes[a]? = some x) (hto:x.To.length<=1000000) {self:Int->List Int->Option (List Int)} (g:List Nat->Int->List Nat) (J:List Nat->Prop)
  (hself:∀ S,J S->∀ t∈x.To,self t (S.map ofN)=some ((g S t).map ofN)/\J (g S t)) :
  ∀ (n i:Nat) (S:List Nat),n=x.To.length - i->J S->iter (wj2 self o (a:Int)) ((i:Int),S.map ofN)=some (((x.To.drop i).foldl g S).map ofN)/\J ((x.To.drop i).foldl g S)
 | 0,i,S,hn,hJ=>by
  have e1:idx o.nodes (a:Int)=some x:=by unfold idx; rw[if_pos (Int.natCast_nonneg _),Int.toNat_natCast]; exact hx
  rw[wbE _ (by omega)]
  refine⟨waC ?_,hJ⟩
  unfold wj2
  dsimp only
  rw[e1,Option.bind_some,decide_eq_false (by omega)]; rfl
 | n+1,i,S,hn,hJ=>by
  have e1:idx o.nodes (a:Int)=some x:=by unfold idx; rw[if_pos (Int.natCast_nonneg _),Int.toNat_natCast]; exact hx
  have hi:i < x.To.length:=by omega
  have hw:IntKind.i64.wrap ((i:Int)+1)=((i+1:Nat):Int):=by rw[wak (by omega)]; rfl
  obtain⟨h1,h2⟩:=hself S hJ x.To[i] (List.getElem_mem hi)
  obtain⟨h3,h4⟩:=woC hx hto g J hself n (i+1) (g S x.To[i]) (by omega) h2
  rw[List.drop_eq_getElem_cons hi,List.foldl_cons]
  refine⟨waF ?_ h3,h4⟩
  unfold wj2
  dsimp only
  rw[e1,Option.bind_some,decide_eq_true (by omega),cond_true,who hi,Option.bind_some,h1,Option.bind_some,hw]
theorem wr6 {k:Nat} {o:Search} (hN:GoodN k o.nodes) (hsz:o.nodes.length<=2000000):∀ (f d:Nat) (S:List Nat) (n:Int),d < f->Valid o.nodes (k - d) n->S.Nodup->(∀ s∈S,s < o.nodes.length) →
  whH o f n (S.map ofN)=some ((vis o.nodes f S n).map ofN)/\(vis o.nodes f S n).Nodup/\∀ s∈vis o.nodes f S n,s < o.nodes.length
 | 0,d,_,_,h,_,_,_=>by omega
 | f+1,d,S,n,hd,hv,hS,hlt=>by
  show wmw (whH o f) o n (S.map ofN)=_/\_
  unfold wmw
  simp only[vis]
  rcases hv with ⟨h1,_⟩ | ⟨x,h1,h2,h3⟩
  ·rw[decide_eq_true h1,cond_true,if_pos h1]
   exact⟨rfl,hS,hlt⟩
  ·obtain⟨a,rfl⟩:∃ a:Nat,n=a:=⟨n.toNat,by omega⟩
   rw[Int.toNat_natCast]at h2 ⊢
   have hlen:=wim _ S hS hlt
   have ha:=(List.getElem?_eq_some_iff.1 h2).1
   have hm:=hN.mark _ x h2
   have hr:=hN.runs _ x h2
   have hc1:=weq hr
   have hc2:=wec hr
   have hml:=woB a S (by omega) S.length 0 (by omega)
   rw[List.drop_zero]at hml
   have hml:iter (wiF (a:Int) (S.map ofN)) 0=some (if a∈S then .inr (S.map ofN)else .inl ()):=hml
   have hn0:¬ (a:Int) < 0:=by omega
   rw[decide_eq_false hn0,cond_false,hml,if_neg hn0]
   by_cases hin:a∈S
   ·rw[if_pos hin,if_pos hin]
    exact⟨rfl,hS,hlt⟩
   ·rw[if_neg hin,if_neg hin]
    simp only[Option.bind_some]
    rw[waV (by simp; omega),wcs h2]
    have hS1:(S++[a]).Nodup:=by
     rw[List.nodup_append]
     refine⟨hS,by simp,fun p hp q hq=>?_⟩
     have:q=a:=by simpa using hq
     subst this
     exact fun e=>hin (e▸hp)
    have hlt1:∀ s∈S++[a],s < o.nodes.length:=fun s hs=>by
     rcases List.mem_append.1 hs with h | h
     ·exact hlt s h
     ·have:s=a:=by simpa using h
      subst this; exact ha
    cases d with
    | zero=>omega
    | succ d =>
     have hk:=woC h2 (by omega) (self:=whH o f) (fun S t=>vis o.nodes f S t) (fun S=>S.Nodup/\∀ s∈S,s < o.nodes.length)
      (fun S hJ t ht=>wr6 hN hsz f d S t (by omega) ((hN.kids _ x h2 t ht).mono (by omega)) hJ.1 hJ.2) x.To.length 0 (S++[a]) (by omega) ⟨hS1,hlt1⟩
     rw[List.drop_zero]at hk
     obtain⟨k1,k2⟩:=hk
     have k1:iter (wj2 (whH o f) o (a:Int)) (0,S.map ofN++[(a:Int)])=some (((x.To.foldl (fun S t=>vis o.nodes f S t) (S++[a]))).map ofN):=by
      have e:(S++[a]).map ofN=S.map ofN++[(a:Int)]:=by simp[ofN]
      rw[<-e]; exact k1
     rw[k1]
     exact⟨rfl,k2⟩
theorem ws0 {S:List Nat} (h:S.Nodup) {i j:Nat} (hi:i < S.length) (hj:j < S.length) (e:S[i]=S[j]):i=j:=by
 have hp:=List.pairwise_iff_getElem.1 h
 rcases Nat.lt_trichotomy i j with h1 | h1 | h1
 ·exact absurd e (hp i j hi hj h1)
 ·exact h1
 ·exact absurd e.symm (hp j i hj hi h1)
theorem wnu {S:List Nat} {o:Search} {e2:Node} {j n p:Nat} (hS:S.Nodup) (hlen:S.length<=2000000) (hj:idx e2.To (j:Int)=some (n:Int)) (hp:S[p]? = some n) :
  ∀ (c m:Nat) (to:Int),c=S.length - m->(p < m->to=(p:Int))->iter (waO (S.map ofN,o) e2 (j:Int)) (to,(m:Int))=some (p:Int)
 | 0,m,to,hc,ht=>by
  have hpl:=(List.getElem?_eq_some_iff.1 hp).1
  refine waC ?_
  unfold waO
  dsimp only
  rw[decide_eq_false (by simp; omega),ht (by omega)]; rfl
 | c+1,m,to,hc,ht=>by
  obtain⟨hpl,hpe⟩:=List.getElem?_eq_some_iff.1 hp
  have hm:m < S.length:=by omega
  have hw:IntKind.i64.wrap ((m:Int)+1)=((m+1:Nat):Int):=by rw[wak (by omega)]; rfl
  have key:∀ to2:Int,(p < m+1->to2=(p:Int))->waO (S.map ofN,o) e2 (j:Int) (to,(m:Int))=some (.inl (to2,((m+1:Nat):Int)))->iter (waO (S.map ofN,o) e2 (j:Int)) (to,(m:Int))=some (p:Int):=fun to2 h1 h2 =>
   waF h2 (wnu hS hlen hj hp c (m+1) to2 (by omega) h1)
  have hf:waO (S.map ofN,o) e2 (j:Int) (to,(m:Int))=some (.inl ((if S[m]=n then (m:Int)else to),((m+1:Nat):Int))):=by
   unfold waO
   dsimp only
   rw[decide_eq_true (by simp; omega),cond_true,hj,Option.bind_some,Option.bind_some,decide_eq_true (Int.natCast_nonneg n),cond_true,wnZ hm,Option.bind_some,Option.bind_some,hw]
   by_cases h:S[m]=n
   ·rw[if_pos h,decide_eq_true (by omega)]; rfl
   ·rw[if_neg h,decide_eq_false (by omega)]; rfl
  refine key _ (fun hpm=>?_) hf
  by_cases h:S[m]=n
  ·rw[if_pos h]
   have:m=p:=ws0 hS hm hpl (h.trans hpe.symm)
   omega
  ·rw[if_neg h]
   rcases Nat.lt_or_ge p m with h1 | h1
   ·exact ht h1
   ·have:p=m:=by omega
    subst this
    exact absurd hpe h
theorem ws1 {S:List Nat} {o:Search} {e2:Node} {j:Nat} {t:Int} (hS:S.Nodup) (hlen:S.length<=2000000) (hj:idx e2.To (j:Int)=some t) (hin:In S t):iter (waO (S.map ofN,o) e2 (j:Int)) (t,0)=some (num S t):=by
 unfold num
 by_cases h0:t < 0
 ·rw[if_pos h0]
  refine waC ?_
  unfold waO
  dsimp only
  rw[hj,Option.bind_some,decide_eq_false (p:=0<=t) (by omega)]
  cases decide (0 < ((S.map ofN).length:Int)) <;> rfl
 ·rw[if_neg h0]
  obtain⟨n,rfl⟩:∃ n:Nat,t=n:=⟨t.toNat,by omega⟩
  rw[Int.toNat_natCast]
  obtain⟨p,hp⟩:=posOf_mem.1 (hin.resolve_left h0)
  rw[Int.toNat_natCast]at hp
  rw[hp]
  exact wnu hS hlen hj (wfD hp) S.length 0 (n:Int) (by omega) (fun h=>by omega)
theorem wqS {S:List Nat} {o:Search} {e2:Node} (hS:S.Nodup) (hlen:S.length<=2000000) (hto:e2.To.length<=1000000) (hin:∀ t∈e2.To,In S t):∀ (c j:Nat) (L:List Int),c=e2.To.length - j->L.length<=j->iter (wb0 (S.map ofN,o) e2) ((j:Int),L)=some (L++(e2.To.drop j).map (num S))
 | 0,j,L,hc,hL=>by
  rw[wbE _ (by omega)]
  refine waC ?_
  unfold wb0
  dsimp only
  rw[decide_eq_false (by omega),List.map_nil,List.append_nil]; rfl
 | c+1,j,L,hc,hL=>by
  have hj:j < e2.To.length:=by omega
  have hw:IntKind.i64.wrap ((j:Int)+1)=((j+1:Nat):Int):=by rw[wak (by omega)]; rfl
  have ih:=wqS (o:=o) hS hlen hto hin c (j+1) (L++[num S e2.To[j]]) (by omega) (by simp; omega)
  rw[List.drop_eq_getElem_cons hj,List.map_cons]
  rw[List.append_assoc]at ih
  refine waF ?_ ih
  unfold wb0
  dsimp only
  rw[decide_eq_true (by omega),cond_true,who hj,Option.bind_some,ws1 hS hlen (who hj) (hin _ (List.getElem_mem hj)),Option.bind_some,Option.bind_some,waV (by simp; omega),Option.bind_some,hw]
theorem wpW {k:Nat} {o:Search} (hN:GoodN k o.nodes) {S:List Nat} (hS:S.Nodup) (hlen:S.length<=2000000) (hlt:∀ s∈S,s < o.nodes.length/\∀ t∈(o.nodes.getD s default).To,In S t):∀ (c i:Nat) (L:List Node),c=S.length - i->L.length<=i->iter (wb1 (S.map ofN,o)) ((i:Int),L)=some (L++(S.drop i).map (wco o.nodes S))
 | 0,i,L,hc,hL=>by
  rw[wbE _ (by omega)]
  refine waC ?_
  unfold wb1
  dsimp only
  rw[decide_eq_false (by simp; omega),List.map_nil,List.append_nil]; rfl
 | c+1,i,L,hc,hL=>by
  have hi:i < S.length:=by omega
  have hw:IntKind.i64.wrap ((i:Int)+1)=((i+1:Nat):Int):=by rw[wak (by omega)]; rfl
  obtain⟨h1,h2⟩:=hlt _ (List.getElem_mem hi)
  have hx:=List.getElem?_eq_getElem h1
  have hr:=hN.runs _ _ hx
  have hc1:=weq hr
  have hc2:=wec hr
  have hfull:wco o.nodes S S[i]=(⟨(o.nodes[S[i]]).Mark,(o.nodes[S[i]]).Cuts,(o.nodes[S[i]]).To.map (num S)⟩:Node):=by unfold wco; rw[wcs hx]
  rw[wcs hx]at h2
  have ih:=wpW hN hS hlen hlt c (i+1) (L++[wco o.nodes S S[i]]) (by omega) (by simp; omega)
  rw[List.drop_eq_getElem_cons hi,List.map_cons]
  rw[List.append_assoc]at ih
  refine waF ?_ ih
  rw[hfull]
  have hto:=wqS (o:=o) (e2:=o.nodes[S[i]]) hS hlen (by omega) h2 (o.nodes[S[i]]).To.length 0 [] (by omega) (by simp)
  have hto:iter (wb0 (S.map ofN,o) o.nodes[S[i]]) (0,[])=some ((o.nodes[S[i]]).To.map (num S)):=by simpa using hto
  unfold wb1
  dsimp only
  rw[decide_eq_true (by simp; omega),cond_true,wnZ hi,Option.bind_some,who h1,Option.bind_some,waV (by omega),hto,Option.bind_some,Option.bind_some,waV (by simp; omega),Option.bind_some,hw]
theorem wn0 {k:Nat} {t:List Rule} (h:chk (k:Int) [t]=0):∃ (N:List Node) (top:Int),GoodN k N/\Val k t N top 0 (web t)/\wbG (k:Int) t=some (dia 100 N top,0):=by
 obtain⟨k1,k2,t1,t2⟩:=wg3 h
 have hk:k<=4:=by omega
 have ht:wdm k t:=⟨t1,t2⟩
 have hb:=wrW hk
 obtain⟨v,o',g1,g2,_,g4,g5⟩:=wtD hk ht 100 k (⟨(k:Int),t,(⟨[],[],[]⟩:Table),[],[],[]⟩:Search) 0 (web t) (by omega) (by omega) (by omega) (wjm t)
  ⟨rfl,rfl,⟨.inl rfl,rfl,(fun x hx=>by cases hx),(fun i x hx=>by simp at hx),(by simp)⟩,rfl,⟨fun i x hx=>by simp at hx,fun i x hx=>by simp at hx,fun i x hx=>by simp at hx,fun i x hx=>by simp at hx,fun i j x hx=>by simp at hx⟩,by simp,(fun i mark a v hi=>by simp at hi)⟩ (by simp; omega)
 have g1:waW 100 (⟨(k:Int),t,(⟨[],[],[]⟩:Table),[],[],[]⟩:Search) 0 (web t:Int)=some (v,o'):=g1
 have hsz:o'.nodes.length<=2000000:=by
  have:=g2.few
  have h4:o'.seen.keys.length<=0+bnd k:=g4
  omega
 refine⟨o'.nodes,v,g2.good,g5,?_⟩
 unfold wbG
 rw[wlM,h]
 simp only[Option.bind_some,decide_not,decide_true,Bool.not_true,cond_false]
 rw[wqF t t1,Option.bind_some,g1,Option.bind_some]
 unfold dia
 by_cases h0:v < 0
 ·rw[if_pos h0]
  simp only[decide_eq_true h0,cond_true]
 ·rw[if_neg h0]
  obtain⟨q1,q2,q3⟩:=wr6 g2.good hsz 100 k [] v (by omega) (by rw[Nat.sub_self]; exact g5.1) List.nodup_nil (fun s hs=>by cases hs)
  obtain⟨_,r2,r3,r4⟩:=wnq hk (o:=(⟨(k:Int),t,[],[],o'.nodes⟩:Builder)) g2.good hsz g5.1
  dsimp only at r2 r3 r4
  generalize vis o'.nodes 100 [] v=S at q1 q2 q3 r2 r3 r4
  have hord:wbx o' v []=some (S.map ofN,o'):=by
   unfold wbx
   have q1:whH o' 100 v []=some (S.map ofN):=q1
   rw[if_pos rfl,q1]; rfl
  have hout:=wpW g2.good q2 (by omega) r4 S.length 0 [] (by omega) (by simp)
  have hout:iter (wb1 (S.map ofN,o')) (0,[])=some (S.map (wco o'.nodes S)):=by simpa using hout
  simp only[decide_eq_false h0,cond_false]
  rw[hord,Option.bind_some,hout,Option.bind_some,Option.bind_some]
theorem wn1 {k:Int} {t:List Rule} (h:chk k [t]≠0):wbG k t=some ([],chk k [t]):=by
 unfold wbG
 rw[wlM,Option.bind_some]
 have hz:decide (¬ chk k [t]=0)=true:=decide_eq_true h
 rw[hz]; rfl
end Go.Pv

namespace Go.Pv.Tryd
open Go.Proofs Go.Pv
set_option maxHeartbeats 4000000 in
theorem wgh (k1:Int) (t1:(List Rule)) (r:Int) (h:wcW k1 t1=some r):PureFn Tryd.prog G 40 [.d (.int .i64 k1),.d (.imm 2 (wab Rule.pd t1))] (.d (.int .i64 r)):=by
 unfold wcW at h
 refine pf Tryd.func40 Tryd.ntmps40 ?_
 refine sg fun K k=>?_
 refine oo ?_
 refine AOps.nil (k _ ?_)
 refine AWp.seq fun _ K_1=>?_
 refine sg fun K k=>?_
 iterate 3 refine oo ?_
 refine ct 3 [0,1] [] (fun  t=>(13,.d (.bool ((decide (k1 < 1))||(decide (4 < k1)))))::t) ?_ ?_
 ·rcases bt (decide (k1 < 1))with hg_3 | hg_3
  ·rw[hg_3]
   iterate 3 refine oo ?_
   refine AOps.nil ?_
   exact sb
  ·rw[hg_3]
   iterate 3 refine oo ?_
   refine AOps.nil ?_
   exact sb
 refine AOps.nil (k _ ?_)
 refine cd h (fun h=>?_) (fun h=>?_)
 ·refine sg fun K k=>?_
  refine oo ?_
  refine AOps.nil (k _ ?_)
  refine AWp.ret ?_
  cases h; exact rt
 ·refine AWp.skip ?_
  refine K_1 _ ?_
  refine AWp.seq fun _ K_5=>?_
  refine sg fun K k=>?_
  iterate 3 refine oo ?_
  refine AOps.nil (k _ ?_)
  refine cd h (fun h=>?_) (fun h=>?_)
  ·refine sg fun K k=>?_
   refine oo ?_
   refine AOps.nil (k _ ?_)
   refine AWp.ret ?_
   cases h; exact rt
  ·refine AWp.skip ?_
   refine K_5 _ ?_
   refine jm (ι:=Unit) [] [] (fun i t=>t) (fun i t=>t) .inl h ?_ ?_
   ·intro _ hj_8 h
    refine sg fun K k=>?_
    refine oo ?_
    refine AOps.nil (k _ ?_)
    refine AWp.block ?_
    obtain⟨x_13,hl_10,h2_11⟩:=bind_some hj_8
    refine lp (S:=Int) [0,1] [] (fun i t=>(5,.d (.int .i64 i))::t) (fun i t=>t) hl_10 ?_ ?_; exact sb; clear hl_10
    rintro i1 _ hb_12; unfold wcq at hb_12; try dsimp only at hb_12
    try dsimp only
    refine AWp.seq fun _ K_15=>?_
    refine sg fun K k=>?_
    iterate 4 refine oo ?_
    refine AOps.nil (k _ ?_)
    refine cd hb_12 (fun hb_12=>?_) (fun hb_12=>?_)
    ·refine AWp.skip ?_
     refine K_15 _ ?_
     refine jm (ι:=Unit) [0,1,5] [] (fun i t=>t) (fun i t=>t) .inl hb_12 ?_ ?_
     ·intro _ hj_18 hb_12
      refine AWp.block ?_
      refine sg fun K k=>?_
      obtain⟨e1,⟨f_19,f_20,f_21,f_22⟩,hj_18⟩:=waj hj_18
      iterate 3 refine oo ?_
      refine oo ?_ (by intro K k; simp(disch:=omega) only[go_sem,f_21,↓reduceIte]; exact k)
      iterate 2 refine oo ?_
      refine AOps.nil (k _ ?_)
      refine AWp.seq fun _ K_23=>?_
      refine sg fun K k=>?_
      iterate 6 refine oo ?_
      refine ct 4 [0,1,5,6] [1000] (fun  t=>(36,.d (.bool ((decide (¬(e1.Bands.length:Int)=k1))||(decide (e1.Code < 0)))))::t) ?_ ?_
      ·rcases bt (decide (¬(e1.Bands.length:Int)=k1))with hg_25 | hg_25
       ·rw[hg_25]
        iterate 4 refine oo ?_
        refine AOps.nil ?_
        exact sb
       ·rw[hg_25]
        iterate 4 refine oo ?_
        refine AOps.nil ?_
        exact sb
      refine oo ?_
      refine ct 4 [0,1,5,6] [1000] (fun  t=>(41,.d (.bool (((decide (¬(e1.Bands.length:Int)=k1))||(decide (e1.Code < 0)))||(decide (99 < e1.Code)))))::t) ?_ ?_
      ·rcases bt ((decide (¬(e1.Bands.length:Int)=k1))||(decide (e1.Code < 0)))with hg_27 | hg_27
       ·rw[hg_27]
        iterate 4 refine oo ?_
        refine AOps.nil ?_
        exact sb
       ·rw[hg_27]
        iterate 4 refine oo ?_
        refine AOps.nil ?_
        exact sb
      refine AOps.nil (k _ ?_)
      refine cd hj_18 (fun hj_18=>?_) (fun hj_18=>?_)
      ·refine sg fun K k=>?_
       refine oo ?_
       refine AOps.nil (k _ ?_)
       refine AWp.ret ?_
       cases hj_18; try dsimp only at hb_12
       refine lx hb_12 fun hx=>?_; cases hx; try dsimp only at h2_11
       cases h2_11; try dsimp only at h
       cases h; exact rt
      ·refine AWp.skip ?_
       refine K_23 _ ?_
       refine sg fun K k=>?_
       refine oo ?_
       refine AOps.nil (k _ ?_)
       refine AWp.block ?_
       obtain⟨x_33,hl_30,h2_31⟩:=bind_some hj_18
       refine lp (S:=Int) [0,1,5,6] [1000] (fun i t=>(7,.d (.int .i64 i))::t) (fun i t=>t) hl_30 ?_ ?_; exact sb; clear hl_30
       rintro m1 _ hb_32; unfold wcp at hb_32; try dsimp only at hb_32
       try dsimp only
       refine AWp.seq fun _ K_35=>?_
       refine sg fun K k=>?_
       iterate 3 refine oo ?_
       refine AOps.nil (k _ ?_)
       refine cd hb_32 (fun hb_32=>?_) (fun hb_32=>?_)
       ·refine AWp.skip ?_
        refine K_35 _ ?_
        refine AWp.seq fun _ K_37=>?_
        refine AWp.block ?_
        refine sd mo fun K k=>?_
        obtain⟨e2,⟨f_38,f_39,f_40,f_41⟩,hb_32⟩:=waj hb_32
        iterate 5 refine dd ?_
        refine dd ?_ (by intro K k; simp(disch:=omega) only[go_sem,f_40,↓reduceIte]; exact k)
        iterate 2 refine dd ?_
        rcases bt (decide (e2.Lo < 0))with hg_42 | hg_42
        ·rw[hg_42]
         rw[hg_42,cond_true]at hb_32
         iterate 23 refine dd ?_
         refine DOps.nil (by kernel_rfl) (k _ ?_)
         refine cdt ?_
         refine sg fun K k=>?_
         refine oo ?_
         refine AOps.nil (k _ ?_)
         refine AWp.ret ?_
         refine lx hb_32 fun hx=>?_; cases hx; try dsimp only at h2_31
         cases h2_31; try dsimp only at hb_12
         refine lx hb_12 fun hx=>?_; cases hx; try dsimp only at h2_11
         cases h2_11; try dsimp only at h
         cases h; exact rt
        ·rw[hg_42]
         rw[hg_42,cond_false]at hb_32
         iterate 5 refine dd ?_
         refine dd ?_ (by intro K k; simp(disch:=omega) only[go_sem,f_40,↓reduceIte]; exact k)
         iterate 5 refine dd ?_
         refine dd ?_ (by intro K k; simp(disch:=omega) only[go_sem,f_40,↓reduceIte]; exact k)
         iterate 3 refine dd ?_
         rcases bt (decide (e2.Hi<=e2.Lo))with hg_44 | hg_44
         ·rw[hg_44]
          rw[hg_44,cond_true]at hb_32
          iterate 8 refine dd ?_
          refine DOps.nil (by kernel_rfl) (k _ ?_)
          refine cdt ?_
          refine sg fun K k=>?_
          refine oo ?_
          refine AOps.nil (k _ ?_)
          refine AWp.ret ?_
          refine lx hb_32 fun hx=>?_; cases hx; try dsimp only at h2_31
          cases h2_31; try dsimp only at hb_12
          refine lx hb_12 fun hx=>?_; cases hx; try dsimp only at h2_11
          cases h2_11; try dsimp only at h
          cases h; exact rt
         ·rw[hg_44]
          rw[hg_44,cond_false]at hb_32
          iterate 5 refine dd ?_
          refine dd ?_ (by intro K k; simp(disch:=omega) only[go_sem,f_40,↓reduceIte]; exact k)
          iterate 2 refine dd ?_
          refine DOps.nil (by kernel_rfl) (k _ ?_)
          refine cd hb_32 (fun hb_32=>?_) (fun hb_32=>?_)
          ·refine sg fun K k=>?_
           refine oo ?_
           refine AOps.nil (k _ ?_)
           refine AWp.ret ?_
           refine lx hb_32 fun hx=>?_; cases hx; try dsimp only at h2_31
           cases h2_31; try dsimp only at hb_12
           refine lx hb_12 fun hx=>?_; cases hx; try dsimp only at h2_11
           cases h2_11; try dsimp only at h
           cases h; exact rt
          ·refine AWp.skip ?_
           refine K_37 _ ?_
           refine AWp.reg ?_
           iterate 3 refine oo ?_
           refine AOps.nil ?_
           exact ln hb_32 sb
       ·refine AWp.exit ?_
        refine lx hb_32 fun hx=>?_; cases hx; try dsimp only at h2_31
        exact ln h2_31 sb
     ·rintro _ hb_12; dsimp only at hb_12 ⊢
      refine AWp.reg ?_
      iterate 3 refine oo ?_
      refine AOps.nil ?_
      exact ln hb_12 sb
    ·refine AWp.exit ?_
     refine lx hb_12 fun hx=>?_; cases hx; try dsimp only at h2_11
     exact ln h2_11 sb
   ·rintro _ h; dsimp only at h ⊢
    refine sg fun K k=>?_
    refine oo ?_
    refine AOps.nil (k _ ?_)
    refine AWp.ret ?_
    cases h; exact rt
end Go.Pv.Tryd

namespace Go.Pv.Tryd
open Go.Proofs Go.Pv
theorem wgI (t1:(List Rule)) (r:Int) (h:wcE t1=some r):PureFn Tryd.prog G 51 [.d (.imm 2 (wab Rule.pd t1))] (.d (.int .i64 r)):=by
 unfold wcE at h
 refine pf Tryd.func51 Tryd.ntmps51 ?_
 refine sg fun K k=>?_
 refine oo ?_
 refine AOps.nil (k _ ?_)
 refine sg fun K k=>?_
 obtain⟨hg_1,h⟩:=wae h
 iterate 5 refine oo ?_
 refine AOps.nil (k _ ?_)
 refine AWp.ret ?_
 cases h; exact rt
end Go.Pv.Tryd

namespace Go.Pv.Tryd
open Go.Proofs Go.Pv
theorem wgJ (l1:(List Int)) (n1:Int) (r:(List Int)) (h:wdi l1 n1=some r):PureFn Tryd.prog G 86 [.d (.imm 1 (wab (PD.int .i64) l1)),.d (.int .i64 n1)] (.d (.imm 1 (wab (PD.int .i64) r))):=by
 unfold wdi at h
 refine pf Tryd.func86 Tryd.ntmps86 ?_
 refine sg fun K k=>?_
 refine oo ?_
 refine AOps.nil (k _ ?_)
 refine sg fun K k=>?_
 refine oo ?_
 refine AOps.nil (k _ ?_)
 refine AWp.sub (Sub.void 5 3 1 1000 (by rfl) (by rfl) (by decide) (by decide)) ?_
 simp only[wdC,wal,reduceCtorEq,↓reduceIte,Nat.reduceAdd,Nat.reduceMul,Nat.reduceLT,Nat.reduceLeDiff,Nat.reduceEqDiff,Nat.reduceBEq,Int.reduceToNat]
 refine sg fun K k=>?_
 refine oo ?_
 refine AOps.nil (k _ ?_)
 refine jn (α:=(Bool×(List Int))) [1] [] (fun i t=>(5,.slc 1000 0 i.2.length)::(6,.d (.bool i.1))::t) (fun i t=>(1000,⟨3,1,dl (wab (PD.int .i64) i.2)⟩)::t) h ?_ ?_
 ·intro _ hj_2
  refine sg fun K k=>?_
  refine oo ?_
  refine AOps.nil (k _ ?_)
  refine AWp.block ?_
  obtain⟨x_7,hl_4,h2_5⟩:=bind_some hj_2
  refine lp (S:=(Bool×Int×(List Int))) [0,1] [] (fun i t=>(5,.slc 1000 0 i.2.2.length)::(6,.d (.bool i.1))::(7,.d (.int .i64 i.2.1))::t) (fun i t=>(1000,⟨3,1,dl (wab (PD.int .i64) i.2.2)⟩)::t) hl_4 ?_ ?_; exact sb; clear hl_4
  rintro⟨done2,i1,L2⟩ _ hb_6; unfold wbh at hb_6; try dsimp only at hb_6
  try dsimp only
  refine AWp.seq fun _ K_9=>?_
  refine sg fun K k=>?_
  iterate 4 refine oo ?_
  refine AOps.nil (k _ ?_)
  refine cd hb_6 (fun hb_6=>?_) (fun hb_6=>?_)
  ·refine AWp.skip ?_
   refine K_9 _ ?_
   refine AWp.seq fun _ K_11=>?_
   refine AWp.block ?_
   refine jn (α:=(Bool×(List Int))) [0,1,7] [] (fun i t=>(5,.slc 1000 0 i.2.length)::(6,.d (.bool i.1))::t) (fun i t=>(1000,⟨3,1,dl (wab (PD.int .i64) i.2)⟩)::t) hb_6 ?_ ?_
   ·intro _ hj_13
    refine sg fun K k=>?_
    iterate 3 refine oo ?_
    obtain⟨b1,hc_14,hj_13⟩:=bind_some hj_13
    refine ct 7 [0,1,5,6,7] [1000] (fun  t=>(23,.d (.bool b1))::t) ?_ ?_
    ·rcases bt (!done2)with hg_19 | hg_19
     ·rw[hg_19]
      rw[hg_19,cond_true]at hc_14
      obtain⟨e1,⟨f_15,f_16,f_17,f_18⟩,hc_14⟩:=waj hc_14
      iterate 4 refine oo ?_
      refine oo ?_ (by intro K k; simp(disch:=omega) only[go_sem,f_17,↓reduceIte]; exact k)
      iterate 2 refine oo ?_
      refine AOps.nil ?_
      cases hc_14
      exact sb
     ·rw[hg_19]
      rw[hg_19,cond_false]at hc_14
      iterate 7 refine oo ?_
      refine AOps.nil ?_
      cases hc_14
      exact sb
    refine AOps.nil (k _ ?_)
    refine cd hj_13 (fun hj_13=>?_) (fun hj_13=>?_)
    ·refine sg fun K k=>?_
     refine oo ?_
     refine AOps.nil (k _ ?_)
     refine sg fun K k=>?_
     obtain⟨e2,⟨f_21,f_22,f_23,f_24⟩,hj_13⟩:=waj hj_13
     iterate 4 refine oo ?_
     refine oo ?_ (by intro K k; simp(disch:=omega) only[go_sem,f_23,↓reduceIte]; exact k)
     refine oo ?_
     refine AOps.nil (k _ ?_)
     refine cd hj_13 (fun hj_13=>?_) (fun hj_13=>?_)
     ·refine AWp.reg ?_
      iterate 2 refine oo ?_
      refine ol ?_
      obtain⟨hg_26,hj_13⟩:=wae hj_13
      iterate 2 refine oo ?_
      refine AOps.nil ?_
      cases hj_13; exact sb
     ·refine AWp.skip ?_
      cases hj_13; exact sb
    ·refine AWp.skip ?_
     cases hj_13; exact sb
   ·rintro⟨done3,L3⟩ hb_6; dsimp only at hb_6 ⊢
    refine AWp.reg ?_
    obtain⟨e3,⟨f_27,f_28,f_29,f_30⟩,hb_6⟩:=waj hb_6
    iterate 4 refine oo ?_
    refine oo ?_ (by intro K k; simp(disch:=omega) only[go_sem,f_29,↓reduceIte]; exact k)
    refine ol ?_
    obtain⟨hg_31,hb_6⟩:=wae hb_6
    iterate 2 refine oo ?_
    refine AOps.nil ?_
    refine K_11 _ ?_
    refine AWp.reg ?_
    iterate 3 refine oo ?_
    refine AOps.nil ?_
    exact ln hb_6 sb
  ·refine AWp.exit ?_
   refine lx hb_6 fun hx=>?_; cases hx; try dsimp only at h2_5
   cases h2_5; exact sb
 ·rintro⟨done1,L1⟩ h; dsimp only at h ⊢
  refine jn (α:=(List Int)) [] [] (fun i t=>(5,.slc 1000 0 i.length)::t) (fun i t=>(1000,⟨3,1,dl (wab (PD.int .i64) i)⟩)::t) h ?_ ?_
  ·intro _ hj_33
   refine sg fun K k=>?_
   iterate 2 refine oo ?_
   refine AOps.nil (k _ ?_)
   refine cd hj_33 (fun hj_33=>?_) (fun hj_33=>?_)
   ·refine AWp.reg ?_
    iterate 2 refine oo ?_
    refine ol ?_
    obtain⟨hg_35,hj_33⟩:=wae hj_33
    iterate 2 refine oo ?_
    refine AOps.nil ?_
    cases hj_33; exact sb
   ·refine AWp.skip ?_
    cases hj_33; exact sb
  ·rintro L4 h; dsimp only at h ⊢
   refine sg fun K k=>?_
   iterate 2 refine oo ?_
   refine AOps.nil (k _ ?_)
   refine AWp.ret ?_
   cases h; exact rt
end Go.Pv.Tryd

namespace Go.Pv.Tryd
open Go.Proofs Go.Pv
theorem wgi (t1:(List Rule)) (mark1:Int) (set1:Int) (r:(List Int)) (h:wb4 t1 mark1 set1=some r):PureFn Tryd.prog G 53 [.d (.imm 2 (wab Rule.pd t1)),.d (.int .i64 mark1),.d (.int .i64 set1)] (.d (.imm 1 (wab (PD.int .i64) r))):=by
 unfold wb4 at h
 refine pf Tryd.func53 Tryd.ntmps53 ?_
 refine sg fun K k=>?_
 refine oo ?_
 refine AOps.nil (k _ ?_)
 refine sg fun K k=>?_
 refine ol ?_
 refine oo ?_
 refine AOps.nil (k _ ?_)
 refine jn (α:=(List Int)) [] [] (fun i t=>(7,.d (.imm 1 (wab (PD.int .i64) i)))::t) (fun i t=>t) h ?_ ?_
 ·intro _ hj_2
  refine sg fun K k=>?_
  refine oo ?_
  refine AOps.nil (k _ ?_)
  refine AWp.block ?_
  obtain⟨x_7,hl_4,h2_5⟩:=bind_some hj_2
  refine lp (S:=((List Int)×Int)) [0,1,2] [] (fun i t=>(7,.d (.imm 1 (wab (PD.int .i64) i.1)))::(8,.d (.int .i64 i.2))::t) (fun i t=>t) hl_4 ?_ ?_; exact sb; clear hl_4
  rintro⟨out2,i1⟩ _ hb_6; unfold wcr at hb_6; try dsimp only at hb_6
  try dsimp only
  refine AWp.seq fun _ K_9=>?_
  refine sg fun K k=>?_
  iterate 4 refine oo ?_
  refine AOps.nil (k _ ?_)
  refine cd hb_6 (fun hb_6=>?_) (fun hb_6=>?_)
  ·refine AWp.skip ?_
   refine K_9 _ ?_
   refine jn (α:=(List Int)) [0,1,2,8] [] (fun i t=>(7,.d (.imm 1 (wab (PD.int .i64) i)))::t) (fun i t=>t) hb_6 ?_ ?_
   ·intro _ hj_12
    refine AWp.block ?_
    refine sg fun K k=>?_
    obtain⟨hg_13,hj_12⟩:=wae hj_12
    iterate 5 refine oo ?_
    refine AOps.nil (k _ ?_)
    refine cd hj_12 (fun hj_12=>?_) (fun hj_12=>?_)
    ·refine jn (α:=(List Int)) [0,1,2,8] [] (fun i t=>(7,.d (.imm 1 (wab (PD.int .i64) i)))::t) (fun i t=>t) hj_12 ?_ ?_
     ·intro _ hj_16
      refine sg fun K k=>?_
      obtain⟨e1,⟨f_17,f_18,f_19,f_20⟩,hj_16⟩:=waj hj_16
      iterate 4 refine oo ?_
      refine oo ?_ (by intro K k; simp(disch:=omega) only[go_sem,f_19,↓reduceIte]; exact k)
      obtain⟨e2,⟨f_21,f_22,f_23,f_24⟩,hj_16⟩:=waj hj_16
      iterate 3 refine oo ?_
      refine oo ?_ (by intro K k; simp(disch:=omega) only[go_sem,f_23,↓reduceIte]; exact k)
      refine oo ?_
      refine AOps.nil (k _ ?_)
      refine cd hj_16 (fun hj_16=>?_) (fun hj_16=>?_)
      ·refine AWp.reg ?_
       obtain⟨e3,⟨f_26,f_27,f_28,f_29⟩,hj_16⟩:=waj hj_16
       iterate 5 refine oo ?_
       refine oo ?_ (by intro K k; simp(disch:=omega) only[go_sem,f_28,↓reduceIte]; exact k)
       obtain⟨e4,⟨f_30,f_31,f_32,f_33⟩,hj_16⟩:=waj hj_16
       iterate 3 refine oo ?_
       refine oo ?_ (by intro K k; simp(disch:=omega) only[go_sem,f_32,↓reduceIte]; exact k)
       obtain⟨r1,hx_34,hj_16⟩:=bind_some hj_16
       refine cl (wgJ out2 e4.Lo _ hx_34) ?_
       refine oo ?_
       refine AOps.nil ?_
       cases hj_16; exact sb
      ·refine AWp.skip ?_
       cases hj_16; exact sb
     ·rintro out4 hj_12; dsimp only at hj_12 ⊢
      refine AWp.reg ?_
      obtain⟨e5,⟨f_35,f_36,f_37,f_38⟩,hj_12⟩:=waj hj_12
      iterate 5 refine oo ?_
      refine oo ?_ (by intro K k; simp(disch:=omega) only[go_sem,f_37,↓reduceIte]; exact k)
      obtain⟨e6,⟨f_39,f_40,f_41,f_42⟩,hj_12⟩:=waj hj_12
      iterate 3 refine oo ?_
      refine oo ?_ (by intro K k; simp(disch:=omega) only[go_sem,f_41,↓reduceIte]; exact k)
      obtain⟨r2,hx_43,hj_12⟩:=bind_some hj_12
      refine cl (wgJ out4 e6.Hi _ hx_43) ?_
      refine oo ?_
      refine AOps.nil ?_
      cases hj_12; exact sb
    ·refine AWp.skip ?_
     cases hj_12; exact sb
   ·rintro out3 hb_6; dsimp only at hb_6 ⊢
    refine AWp.reg ?_
    iterate 3 refine oo ?_
    refine AOps.nil ?_
    exact ln hb_6 sb
  ·refine AWp.exit ?_
   refine lx hb_6 fun hx=>?_; cases hx; try dsimp only at h2_5
   cases h2_5; exact sb
 ·rintro out1 h; dsimp only at h ⊢
  refine sg fun K k=>?_
  iterate 2 refine oo ?_
  refine AOps.nil (k _ ?_)
  refine AWp.ret ?_
  cases h; exact rt
end Go.Pv.Tryd

namespace Go.Pv.Tryd
open Go.Proofs Go.Pv
theorem wir (k1:Int) (t1:(List Rule)) (most1:Int) (r:Int) (h:wcC k1 t1 most1=some r):PureFn Tryd.prog G 45 [.d (.int .i64 k1),.d (.imm 2 (wab Rule.pd t1)),.d (.int .i64 most1)] (.d (.int .i64 r)):=by
 unfold wcC at h
 refine pf Tryd.func45 Tryd.ntmps45 ?_
 refine sg fun K k=>?_
 refine oo ?_
 refine AOps.nil (k _ ?_)
 refine AWp.seq fun _ K_1=>?_
 refine sg fun K k=>?_
 iterate 2 refine oo ?_
 obtain⟨r1,hx_2,h⟩:=bind_some h
 refine cl (wgh k1 t1 _ hx_2) ?_
 refine oo ?_
 refine AOps.nil (k _ ?_)
 refine cd h (fun h=>?_) (fun h=>?_)
 ·refine sg fun K k=>?_
  refine oo ?_
  refine AOps.nil (k _ ?_)
  refine AWp.ret ?_
  cases h; exact rt
 ·refine AWp.skip ?_
  refine K_1 _ ?_
  refine sg fun K k=>?_
  refine oo ?_
  refine AOps.nil (k _ ?_)
  refine jn (α:=Int) [] [] (fun i t=>(7,.d (.int .i64 i))::t) (fun i t=>t) h ?_ ?_
  ·intro _ hj_5
   refine sg fun K k=>?_
   refine oo ?_
   refine AOps.nil (k _ ?_)
   refine AWp.block ?_
   obtain⟨x_10,hl_7,h2_8⟩:=bind_some hj_5
   refine lp (S:=(Int×Int)) [0,1,2] [] (fun i t=>(7,.d (.int .i64 i.1))::(8,.d (.int .i64 i.2))::t) (fun i t=>t) hl_7 ?_ ?_; exact sb; clear hl_7
   rintro⟨out2,m1⟩ _ hb_9; unfold waw at hb_9; try dsimp only at hb_9
   try dsimp only
   refine AWp.seq fun _ K_12=>?_
   refine sg fun K k=>?_
   iterate 4 refine oo ?_
   refine ct 4 [0,1,2,7,8] [] (fun  t=>(20,.d (.bool ((decide (m1 < k1))&&(decide (out2 < most1)))))::t) ?_ ?_
   ·rcases bt (decide (m1 < k1))with hg_14 | hg_14
    ·rw[hg_14]
     iterate 4 refine oo ?_
     refine AOps.nil ?_
     exact sb
    ·rw[hg_14]
     iterate 4 refine oo ?_
     refine AOps.nil ?_
     exact sb
   refine AOps.nil (k _ ?_)
   refine cd hb_9 (fun hb_9=>?_) (fun hb_9=>?_)
   ·refine AWp.skip ?_
    refine K_12 _ ?_
    refine AWp.seq fun _ K_16=>?_
    refine AWp.block ?_
    refine AWp.reg ?_
    iterate 4 refine oo ?_
    obtain⟨r2,hx_17,hb_9⟩:=bind_some hb_9
    refine cl (wgI t1 _ hx_17) ?_
    obtain⟨r3,hx_18,hb_9⟩:=bind_some hb_9
    refine cl (wgi t1 m1 r2 _ hx_18) ?_
    iterate 3 refine oo ?_
    refine AOps.nil ?_
    refine K_16 _ ?_
    refine AWp.reg ?_
    iterate 3 refine oo ?_
    refine AOps.nil ?_
    exact ln hb_9 sb
   ·refine AWp.exit ?_
    refine lx hb_9 fun hx=>?_; cases hx; try dsimp only at h2_8
    cases h2_8; exact sb
  ·rintro out1 h; dsimp only at h ⊢
   refine sg fun K k=>?_
   iterate 2 refine oo ?_
   refine AOps.nil (k _ ?_)
   refine AWp.ret ?_
   cases h; exact rt
end Go.Pv.Tryd

namespace Go.Pv.Tryd
open Go.Proofs Go.Pv
theorem wke (k1:Int) (t1:(List Rule)) (r:Bool) (h:wcf k1 t1=some r):PureFn Tryd.prog G 18 [.d (.int .i64 k1),.d (.imm 2 (wab Rule.pd t1))] (.d (.bool r)):=by
 unfold wcf at h
 refine pf Tryd.func18 Tryd.ntmps18 ?_
 refine sg fun K k=>?_
 refine oo ?_
 refine AOps.nil (k _ ?_)
 refine jm (ι:=Unit) [0,1] [] (fun i t=>t) (fun i t=>t) .inl h ?_ ?_
 ·intro _ hj_2 h
  refine sg fun K k=>?_
  refine oo ?_
  refine AOps.nil (k _ ?_)
  refine AWp.block ?_
  obtain⟨x_7,hl_4,h2_5⟩:=bind_some hj_2
  refine lp (S:=Int) [0,1] [] (fun i t=>(5,.d (.int .i64 i))::t) (fun i t=>t) hl_4 ?_ ?_; exact sb; clear hl_4
  rintro i1 _ hb_6; unfold waG at hb_6; try dsimp only at hb_6
  try dsimp only
  refine AWp.seq fun _ K_9=>?_
  refine sg fun K k=>?_
  iterate 4 refine oo ?_
  refine AOps.nil (k _ ?_)
  refine cd hb_6 (fun hb_6=>?_) (fun hb_6=>?_)
  ·refine AWp.skip ?_
   refine K_9 _ ?_
   refine AWp.seq fun _ K_11=>?_
   refine AWp.block ?_
   refine sg fun K k=>?_
   iterate 3 refine oo ?_
   obtain⟨b1,hc_12,hb_6⟩:=bind_some hb_6
   refine ct 8 [0,1,5] [] (fun  t=>(22,.d (.bool b1))::t) ?_ ?_
   ·rcases bt (decide (40<=i1))with hg_17 | hg_17
    ·rw[hg_17]
     rw[hg_17,cond_true]at hc_12
     iterate 8 refine oo ?_
     refine AOps.nil ?_
     cases hc_12
     exact sb
    ·rw[hg_17]
     rw[hg_17,cond_false]at hc_12
     obtain⟨e1,⟨f_13,f_14,f_15,f_16⟩,hc_12⟩:=waj hc_12
     iterate 4 refine oo ?_
     refine oo ?_ (by intro K k; simp(disch:=omega) only[go_sem,f_15,↓reduceIte]; exact k)
     iterate 3 refine oo ?_
     refine AOps.nil ?_
     cases hc_12
     exact sb
   refine AOps.nil (k _ ?_)
   refine cd hb_6 (fun hb_6=>?_) (fun hb_6=>?_)
   ·refine sg fun K k=>?_
    refine oo ?_
    refine AOps.nil (k _ ?_)
    refine AWp.ret ?_
    refine lx hb_6 fun hx=>?_; cases hx; try dsimp only at h2_5
    cases h2_5; try dsimp only at h
    cases h; exact rt
   ·refine AWp.skip ?_
    refine K_11 _ ?_
    refine AWp.reg ?_
    iterate 3 refine oo ?_
    refine AOps.nil ?_
    exact ln hb_6 sb
  ·refine AWp.exit ?_
   refine lx hb_6 fun hx=>?_; cases hx; try dsimp only at h2_5
   exact ln h2_5 sb
 ·rintro _ h; dsimp only at h ⊢
  refine sg fun K k=>?_
  iterate 2 refine oo ?_
  obtain⟨r1,hx_19,h⟩:=bind_some h
  refine cl (wir k1 t1 30000 _ hx_19) ?_
  iterate 2 refine oo ?_
  refine AOps.nil (k _ ?_)
  refine AWp.ret ?_
  cases h; exact rt
end Go.Pv.Tryd

namespace Go.Pv.Tryd
open Go.Proofs Go.Pv
theorem wey (r:(List Rule)) (h:wch=some r):PureFn Tryd.prog G 46 [] (.d (.imm 2 (wab Rule.pd r))):=by
 unfold wch at h
 refine pf Tryd.func46 Tryd.ntmps46 ?_
 refine sg fun K k=>?_
 refine oo ?_
 refine AOps.nil (k _ ?_)
 refine sg fun K k=>?_
 refine oo ?_
 refine ol ?_
 iterate 2 refine oo ?_
 refine ol ?_
 iterate 2 refine oo ?_
 refine ol ?_
 refine oo ?_
 refine ol ?_
 refine oo ?_
 refine AOps.nil (k _ ?_)
 refine AWp.ret ?_
 cases h; exact rt
end Go.Pv.Tryd

namespace Go.Pv.Tryd
open Go.Proofs Go.Pv
theorem wlV (k1:Int) (r:Bool) (h:wd2 k1=some r):PureFn Tryd.prog G 66 [.d (.int .i64 k1)] (.d (.bool r)):=by
 unfold wd2 at h
 refine pf Tryd.func66 Tryd.ntmps66 ?_
 refine sg fun K k=>?_
 refine oo ?_
 refine AOps.nil (k _ ?_)
 refine sg fun K k=>?_
 iterate 3 refine oo ?_
 refine ct 3 [] [] (fun  t=>(8,.d (.bool ((decide (1<=k1))&&(decide (k1<=4)))))::t) ?_ ?_
 ·rcases bt (decide (1<=k1))with hg_2 | hg_2
  ·rw[hg_2]
   iterate 3 refine oo ?_
   refine AOps.nil ?_
   exact sb
  ·rw[hg_2]
   iterate 3 refine oo ?_
   refine AOps.nil ?_
   exact sb
 refine oo ?_
 refine AOps.nil (k _ ?_)
 refine AWp.ret ?_
 cases h; exact rt
end Go.Pv.Tryd

namespace Go.Pv.Tryd
open Go.Proofs Go.Pv
theorem wlq (b1:Band) (r:Bool) (h:wdJ b1=some r):PureFn Tryd.prog G 103 [.d (.agg [(.int .i64 b1.Lo),(.int .i64 b1.Hi)])] (.d (.bool r)):=by
 unfold wdJ at h
 refine pf Tryd.func103 Tryd.ntmps103 ?_
 refine sg fun K k=>?_
 iterate 2 refine oo ?_
 refine AOps.nil (k _ ?_)
 refine sg fun K k=>?_
 iterate 4 refine oo ?_
 refine ct 6 [1] [1000] (fun  t=>(12,.d (.bool ((decide (b1.Lo < 0))||(decide (b1.Hi<=b1.Lo)))))::t) ?_ ?_
 ·rcases bt (decide (b1.Lo < 0))with hg_2 | hg_2
  ·rw[hg_2]
   iterate 6 refine oo ?_
   refine AOps.nil ?_
   exact sb
  ·rw[hg_2]
   iterate 6 refine oo ?_
   refine AOps.nil ?_
   exact sb
 refine oo ?_
 refine ct 4 [] [] (fun  t=>(17,.d (.bool (((decide (b1.Lo < 0))||(decide (b1.Hi<=b1.Lo)))||(decide (1000 < b1.Hi)))))::t) ?_ ?_
 ·rcases bt ((decide (b1.Lo < 0))||(decide (b1.Hi<=b1.Lo)))with hg_4 | hg_4
  ·rw[hg_4]
   iterate 4 refine oo ?_
   refine AOps.nil ?_
   exact sb
  ·rw[hg_4]
   iterate 4 refine oo ?_
   refine AOps.nil ?_
   exact sb
 refine oo ?_
 refine AOps.nil (k _ ?_)
 refine AWp.ret ?_
 cases h; exact rt
end Go.Pv.Tryd

namespace Go.Pv.Tryd
open Go.Proofs Go.Pv
theorem wgK (s1:(List Band)) (r:Int) (h:wbj s1=some r):PureFn Tryd.prog G 113 [.d (.imm 2 (wab Band.pd s1)),.d (.fn (.func 103))] (.d (.int .i64 r)):=by
 unfold wbj at h
 refine pf Tryd.func113 Tryd.ntmps113 ?_
 refine sg fun K k=>?_
 refine oo ?_
 refine AOps.nil (k _ ?_)
 refine jm (ι:=Unit) [] [] (fun i t=>t) (fun i t=>t) .inl h ?_ ?_
 ·intro _ hj_2 h
  refine sg fun K k=>?_
  iterate 3 refine oo ?_
  refine AOps.nil (k _ ?_)
  refine AWp.block ?_
  obtain⟨x_7,hl_4,h2_5⟩:=bind_some hj_2
  refine lp (S:=Int) [0,1,7] [] (fun i t=>(8,.d (.int .i64 i))::t) (fun i t=>t) hl_4 ?_ ?_; exact sb; clear hl_4
  rintro v1 _ hb_6; unfold wbQ at hb_6; try dsimp only at hb_6
  try dsimp only
  refine sg fun K k=>?_
  refine oo ?_
  refine AOps.nil (k _ ?_)
  refine AWp.seq fun _ K_9=>?_
  refine cd hb_6 (fun hb_6=>?_) (fun hb_6=>?_)
  ·refine AWp.skip ?_
   refine K_9 _ ?_
   refine AWp.seq fun _ K_11=>?_
   refine AWp.block ?_
   refine sg fun K k=>?_
   iterate 2 refine oo ?_
   refine AOps.nil (k _ ?_)
   refine sg fun K k=>?_
   obtain⟨e1,⟨f_12,f_13,f_14,f_15⟩,hb_6⟩:=waj hb_6
   iterate 4 refine oo ?_
   refine oo ?_ (by intro K k; simp(disch:=omega) only[go_sem,f_14,↓reduceIte]; exact k)
   obtain⟨r1,hx_16,hb_6⟩:=bind_some hb_6
   refine clV (wlq e1 _ hx_16) ?_
   refine AOps.nil (k _ ?_)
   refine cd hb_6 (fun hb_6=>?_) (fun hb_6=>?_)
   ·refine sg fun K k=>?_
    iterate 2 refine oo ?_
    refine AOps.nil (k _ ?_)
    refine AWp.ret ?_
    refine lx hb_6 fun hx=>?_; cases hx; try dsimp only at h2_5
    cases h2_5; try dsimp only at h
    cases h; exact rt
   ·refine AWp.skip ?_
    refine K_11 _ ?_
    refine AWp.reg ?_
    iterate 2 refine oo ?_
    refine AOps.nil ?_
    exact ln hb_6 sb
  ·refine AWp.exit ?_
   refine lx hb_6 fun hx=>?_; cases hx; try dsimp only at h2_5
   exact ln h2_5 sb
 ·rintro _ h; dsimp only at h ⊢
  refine sg fun K k=>?_
  refine oo ?_
  refine AOps.nil (k _ ?_)
  refine AWp.ret ?_
  cases h; exact rt
end Go.Pv.Tryd

namespace Go.Pv.Tryd
open Go.Proofs Go.Pv
theorem wfO (s1:(List Band)) (r:Bool) (h:waY s1=some r):PureFn Tryd.prog G 104 [.d (.imm 2 (wab Band.pd s1)),.d (.fn (.func 103))] (.d (.bool r)):=by
 unfold waY at h
 refine pf Tryd.func104 Tryd.ntmps104 ?_
 refine sg fun K k=>?_
 refine oo ?_
 refine AOps.nil (k _ ?_)
 refine sg fun K k=>?_
 iterate 2 refine oo ?_
 obtain⟨r1,hx_1,h⟩:=bind_some h
 refine clC (wgK s1 _ hx_1) ?_
 iterate 2 refine oo ?_
 refine AOps.nil (k _ ?_)
 refine AWp.ret ?_
 cases h; exact rt
end Go.Pv.Tryd

namespace Go.Pv.Tryd
open Go.Proofs Go.Pv
theorem wmD (k1:Int) (r1:Rule) (r:Bool) (h:wdO k1 r1=some r):PureFn Tryd.prog G 78 [.d (.int .i64 k1),.d (.agg [(.imm 2 (wab Band.pd r1.Bands)),(.int .i64 r1.Code)])] (.d (.bool r)):=by
 unfold wdO at h
 refine pf Tryd.func78 Tryd.ntmps78 ?_
 refine sg fun K k=>?_
 iterate 2 refine oo ?_
 refine AOps.nil (k _ ?_)
 refine sg fun K k=>?_
 refine oo ?_
 refine AOps.nil (k _ ?_)
 refine sg fun K k=>?_
 iterate 6 refine oo ?_
 refine ct 4 [3,5] [1000] (fun  t=>(15,.d (.bool ((decide ((r1.Bands.length:Int)=k1))&&(decide (0<=r1.Code)))))::t) ?_ ?_
 ·rcases bt (decide ((r1.Bands.length:Int)=k1))with hg_2 | hg_2
  ·rw[hg_2]
   iterate 4 refine oo ?_
   refine AOps.nil ?_
   exact sb
  ·rw[hg_2]
   iterate 4 refine oo ?_
   refine AOps.nil ?_
   exact sb
 refine oo ?_
 refine ct 4 [3,5] [1000] (fun  t=>(20,.d (.bool (((decide ((r1.Bands.length:Int)=k1))&&(decide (0<=r1.Code)))&&(decide (r1.Code<=99)))))::t) ?_ ?_
 ·rcases bt ((decide ((r1.Bands.length:Int)=k1))&&(decide (0<=r1.Code)))with hg_4 | hg_4
  ·rw[hg_4]
   iterate 4 refine oo ?_
   refine AOps.nil ?_
   exact sb
  ·rw[hg_4]
   iterate 4 refine oo ?_
   refine AOps.nil ?_
   exact sb
 refine oo ?_
 obtain⟨b1,hc_5,h⟩:=bind_some h
 refine ct 6 [] [] (fun  t=>(27,.d (.bool b1))::t) ?_ ?_
 ·rcases bt (((decide ((r1.Bands.length:Int)=k1))&&(decide (0<=r1.Code)))&&(decide (r1.Code<=99)))with hg_7 | hg_7
  ·rw[hg_7]
   rw[hg_7,cond_true]at hc_5
   iterate 3 refine oo ?_
   obtain⟨r2,hx_6,hc_5⟩:=bind_some hc_5
   refine clC (wfO r1.Bands _ hx_6) ?_
   iterate 2 refine oo ?_
   refine AOps.nil ?_
   cases hc_5
   exact sb
  ·rw[hg_7]
   rw[hg_7,cond_false]at hc_5
   iterate 6 refine oo ?_
   refine AOps.nil ?_
   cases hc_5
   exact sb
 refine oo ?_
 refine AOps.nil (k _ ?_)
 refine AWp.ret ?_
 cases h; exact rt
end Go.Pv.Tryd

namespace Go.Pv.Tryd
open Go.Proofs Go.Pv
theorem wis (r1:Rule) (k1:Int) (r:Bool) (h:wb7 r1 k1=some r):PureFn Tryd.prog G 77 [.d (.agg [(.imm 2 (wab Band.pd r1.Bands)),(.int .i64 r1.Code)]),.dptr 1 [(.int .i64 k1)] 0 0] (.d (.bool r)):=by
 unfold wb7 at h
 refine pf Tryd.func77 Tryd.ntmps77 ?_
 refine sg fun K k=>?_
 iterate 2 refine oo ?_
 refine AOps.nil (k _ ?_)
 refine sg fun K k=>?_
 iterate 2 refine oo ?_
 obtain⟨r2,hx_1,h⟩:=bind_some h
 refine cl (wmD k1 r1 _ hx_1) ?_
 iterate 2 refine oo ?_
 refine AOps.nil (k _ ?_)
 refine AWp.ret ?_
 cases h; exact rt
end Go.Pv.Tryd

namespace Go.Pv.Tryd
open Go.Proofs Go.Pv
theorem wha (s1:(List Rule)) (f1:Int) (r:Int) (h:wbt s1 f1=some r):PureFn Tryd.prog G 99 [.d (.imm 2 (wab Rule.pd s1)),.func (.func 77) [.dptr 1 [(.int .i64 f1)] 0 0]] (.d (.int .i64 r)):=by
 unfold wbt at h
 refine pf Tryd.func99 Tryd.ntmps99 ?_
 refine sg fun K k=>?_
 refine oo ?_
 refine AOps.nil (k _ ?_)
 refine jm (ι:=Unit) [] [] (fun i t=>t) (fun i t=>t) .inl h ?_ ?_
 ·intro _ hj_2 h
  refine sg fun K k=>?_
  iterate 3 refine oo ?_
  refine AOps.nil (k _ ?_)
  refine AWp.block ?_
  obtain⟨x_7,hl_4,h2_5⟩:=bind_some hj_2
  refine lp (S:=Int) [0,1,7] [] (fun i t=>(8,.d (.int .i64 i))::t) (fun i t=>t) hl_4 ?_ ?_; exact sb; clear hl_4
  rintro v1 _ hb_6; unfold wbY at hb_6; try dsimp only at hb_6
  try dsimp only
  refine sg fun K k=>?_
  refine oo ?_
  refine AOps.nil (k _ ?_)
  refine AWp.seq fun _ K_9=>?_
  refine cd hb_6 (fun hb_6=>?_) (fun hb_6=>?_)
  ·refine AWp.skip ?_
   refine K_9 _ ?_
   refine AWp.seq fun _ K_11=>?_
   refine AWp.block ?_
   refine sg fun K k=>?_
   iterate 2 refine oo ?_
   refine AOps.nil (k _ ?_)
   refine sg fun K k=>?_
   obtain⟨e1,⟨f_12,f_13,f_14,f_15⟩,hb_6⟩:=waj hb_6
   iterate 4 refine oo ?_
   refine oo ?_ (by intro K k; simp(disch:=omega) only[go_sem,f_14,↓reduceIte]; exact k)
   obtain⟨r1,hx_16,hb_6⟩:=bind_some hb_6
   refine clC (wis e1 f1 _ hx_16) ?_
   refine AOps.nil (k _ ?_)
   refine cd hb_6 (fun hb_6=>?_) (fun hb_6=>?_)
   ·refine sg fun K k=>?_
    iterate 2 refine oo ?_
    refine AOps.nil (k _ ?_)
    refine AWp.ret ?_
    refine lx hb_6 fun hx=>?_; cases hx; try dsimp only at h2_5
    cases h2_5; try dsimp only at h
    cases h; exact rt
   ·refine AWp.skip ?_
    refine K_11 _ ?_
    refine AWp.reg ?_
    iterate 2 refine oo ?_
    refine AOps.nil ?_
    exact ln hb_6 sb
  ·refine AWp.exit ?_
   refine lx hb_6 fun hx=>?_; cases hx; try dsimp only at h2_5
   exact ln h2_5 sb
 ·rintro _ h; dsimp only at h ⊢
  refine sg fun K k=>?_
  refine oo ?_
  refine AOps.nil (k _ ?_)
  refine AWp.ret ?_
  cases h; exact rt
end Go.Pv.Tryd

namespace Go.Pv.Tryd
open Go.Proofs Go.Pv
theorem wgo (s1:(List Rule)) (f1:Int) (r:Bool) (h:waT s1 f1=some r):PureFn Tryd.prog G 76 [.d (.imm 2 (wab Rule.pd s1)),.func (.func 77) [.dptr 1 [(.int .i64 f1)] 0 0]] (.d (.bool r)):=by
 unfold waT at h
 refine pf Tryd.func76 Tryd.ntmps76 ?_
 refine sg fun K k=>?_
 refine oo ?_
 refine AOps.nil (k _ ?_)
 refine sg fun K k=>?_
 iterate 2 refine oo ?_
 obtain⟨r1,hx_1,h⟩:=bind_some h
 refine clC (wha s1 f1 _ hx_1) ?_
 iterate 2 refine oo ?_
 refine AOps.nil (k _ ?_)
 refine AWp.ret ?_
 cases h; exact rt
end Go.Pv.Tryd

namespace Go.Pv.Tryd
open Go.Proofs Go.Pv
theorem wfd (k1:Int) (ts1:(List (List Rule))) (r:Int) (h:wb8 k1 ts1=some r):PureFn Tryd.prog G 47 [.d (.int .i64 k1),.d (.imm 1 (wab (wbb 2 Rule.pd) ts1))] (.d (.int .i64 r)):=by
 unfold wb8 at h
 refine pf Tryd.func47 Tryd.ntmps47 ?_
 refine sg fun K k=>?_
 iterate 2 refine oo ?_
 refine AOps.nil (k _ ?_)
 refine AWp.seq fun _ K_1=>?_
 refine sg fun K k=>?_
 refine oo ?_
 obtain⟨r1,hx_2,h⟩:=bind_some h
 refine cl (wlV k1 _ hx_2) ?_
 refine oo ?_
 refine AOps.nil (k _ ?_)
 refine cd h (fun h=>?_) (fun h=>?_)
 ·refine sg fun K k=>?_
  refine oo ?_
  refine AOps.nil (k _ ?_)
  refine AWp.ret ?_
  cases h; exact rt
 ·refine AWp.skip ?_
  refine K_1 _ ?_
  refine jm (ι:=Unit) [] [] (fun i t=>t) (fun i t=>t) .inl h ?_ ?_
  ·intro _ hj_5 h
   refine sg fun K k=>?_
   iterate 3 refine oo ?_
   refine AOps.nil (k _ ?_)
   refine AWp.block ?_
   obtain⟨x_10,hl_7,h2_8⟩:=bind_some hj_5
   refine lp (S:=Int) [10,11] [] (fun i t=>(2,.dptr 1 [(.int .i64 k1)] 0 0)::(12,.d (.int .i64 i))::t) (fun i t=>t) hl_7 ?_ ?_; exact sc; clear hl_7
   rintro v1 _ hb_9; unfold wbU at hb_9; try dsimp only at hb_9
   try dsimp only
   refine sg fun K k=>?_
   refine oo ?_
   refine AOps.nil (k _ ?_)
   refine AWp.seq fun _ K_12=>?_
   refine cd hb_9 (fun hb_9=>?_) (fun hb_9=>?_)
   ·refine AWp.skip ?_
    refine K_12 _ ?_
    refine AWp.seq fun _ K_14=>?_
    refine AWp.block ?_
    refine sg fun K k=>?_
    obtain⟨e1,⟨f_15,f_16,f_17,f_18⟩,hb_9⟩:=waj hb_9
    refine oo ?_
    refine oo ?_ (by intro K k; simp(disch:=omega) only[go_sem,f_17,↓reduceIte]; exact k)
    refine oo ?_
    refine AOps.nil (k _ ?_)
    refine AWp.seq fun _ K_19=>?_
    refine sg fun K k=>?_
    iterate 3 refine oo ?_
    refine AOps.nil (k _ ?_)
    refine cd hb_9 (fun hb_9=>?_) (fun hb_9=>?_)
    ·refine sg fun K k=>?_
     refine oo ?_
     refine AOps.nil (k _ ?_)
     refine AWp.ret ?_
     refine lx hb_9 fun hx=>?_; cases hx; try dsimp only at h2_8
     cases h2_8; try dsimp only at h
     cases h; exact rt
    ·refine AWp.skip ?_
     refine K_19 _ ?_
     refine sg fun K k=>?_
     iterate 2 refine oo ?_
     obtain⟨r2,hx_21,hb_9⟩:=bind_some hb_9
     refine clC (wgo e1 k1 _ hx_21) ?_
     refine AOps.nil (k _ ?_)
     refine cd hb_9 (fun hb_9=>?_) (fun hb_9=>?_)
     ·refine sg fun K k=>?_
      refine oo ?_
      refine AOps.nil (k _ ?_)
      refine AWp.ret ?_
      refine lx hb_9 fun hx=>?_; cases hx; try dsimp only at h2_8
      cases h2_8; try dsimp only at h
      cases h; exact rt
     ·refine AWp.skip ?_
      refine K_14 _ ?_
      refine AWp.reg ?_
      iterate 2 refine oo ?_
      refine AOps.nil ?_
      exact ln hb_9 sb
   ·refine AWp.exit ?_
    refine lx hb_9 fun hx=>?_; cases hx; try dsimp only at h2_8
    exact ln h2_8 sb
  ·rintro _ h; dsimp only at h ⊢
   refine sg fun K k=>?_
   refine oo ?_
   refine AOps.nil (k _ ?_)
   refine AWp.ret ?_
   cases h; exact rt
end Go.Pv.Tryd

namespace Go.Pv.Tryd
open Go.Proofs Go.Pv
theorem wfi (t1:(List Rule)) (r:Int) (h:wcL t1=some r):PureFn Tryd.prog G 58 [.d (.imm 2 (wab Rule.pd t1))] (.d (.int .u32 r)):=by
 unfold wcL at h
 refine pf Tryd.func58 Tryd.ntmps58 ?_
 refine sg fun K k=>?_
 refine oo ?_
 refine AOps.nil (k _ ?_)
 refine sg fun K k=>?_
 obtain⟨hg_1,h⟩:=wae h
 iterate 5 refine oo ?_
 refine AOps.nil (k _ ?_)
 refine AWp.ret ?_
 cases h; exact rt
end Go.Pv.Tryd

namespace Go.Proofs
open Go.Shelf
def Tryd.lays189_ren:Go.Shelf.Ren:=⟨fun | 189=>105 | 125=>115 | 257=>114 | 128=>127 | 129=>128 | 294=>118 | 295=>119 | 296=>120 | 297=>121 | 298=>122 | 299=>123 | 216=>124 | 300=>125 | 301=>126 | 328=>131 | 329=>132 | 330=>133 | 331=>134 | 332=>135 | 215=>136 | 343=>141 | n=>n,fun | 28=>26 | 3=>3 | 46=>159 | 0=>0 | 51=>94 | 53=>170 | 4=>4 | 183=>163 | 182=>162 | 131=>130 | 5=>5 | 9=>9 | 218=>174 | 222=>178 | 228=>184 | 229=>185 | n=>n,fun | n=>n⟩
theorem Tryd.lays189:Go.Proofs.Lays.n189 Tryd.prog Tryd.lays189_ren:={
 mixed:=by kernel_rfl
 f125:=Tryd.func115.trans (congrArg some (by kernel_rfl))
 f128:=Tryd.func127.trans (congrArg some (by kernel_rfl))
 f129:=Tryd.func128.trans (congrArg some (by kernel_rfl))
 f189:=Tryd.func105.trans (congrArg some (by kernel_rfl))
 f215:=Tryd.func136.trans (congrArg some (by kernel_rfl))
 f216:=Tryd.func124.trans (congrArg some (by kernel_rfl))
 f257:=Tryd.func114.trans (congrArg some (by kernel_rfl))
 f294:=Tryd.func118.trans (congrArg some (by kernel_rfl))
 f295:=Tryd.func119.trans (congrArg some (by kernel_rfl))
 f296:=Tryd.func120.trans (congrArg some (by kernel_rfl))
 f297:=Tryd.func121.trans (congrArg some (by kernel_rfl))
 f298:=Tryd.func122.trans (congrArg some (by kernel_rfl))
 f299:=Tryd.func123.trans (congrArg some (by kernel_rfl))
 f300:=Tryd.func125.trans (congrArg some (by kernel_rfl))
 f301:=Tryd.func126.trans (congrArg some (by kernel_rfl))
 f328:=Tryd.func131.trans (congrArg some (by kernel_rfl))
 f329:=Tryd.func132.trans (congrArg some (by kernel_rfl))
 f330:=Tryd.func133.trans (congrArg some (by kernel_rfl))
 f331:=Tryd.func134.trans (congrArg some (by kernel_rfl))
 f332:=Tryd.func135.trans (congrArg some (by kernel_rfl))
 f343:=Tryd.func141.trans (congrArg some (by kernel_rfl))
 t0:=Tryd.underlying0
 a0:=Tryd.isAgg0
 z0:=Tryd.sizeOf0
 v0:=Tryd.zeroValue0
 t3:=Tryd.underlying3
 a3:=Tryd.isAgg3
 z3:=Tryd.sizeOf3
 v3:=Tryd.zeroValue3
 t4:=Tryd.underlying4
 a4:=Tryd.isAgg4
 z4:=Tryd.sizeOf4
 v4:=Tryd.zeroValue4
 t5:=Tryd.underlying5
 a5:=Tryd.isAgg5
 z5:=Tryd.sizeOf5
 v5:=Tryd.zeroValue5
 t9:=Tryd.underlying9
 a9:=Tryd.isAgg9
 z9:=Tryd.sizeOf9
 v9:=Tryd.zeroValue9
 t28:=Tryd.underlying26
 a28:=Tryd.isAgg26
 z28:=Tryd.sizeOf26
 v28:=Tryd.zeroValue26
 t46:=Tryd.underlying159
 a46:=Tryd.isAgg159
 z46:=Tryd.sizeOf159
 v46:=Tryd.zeroValue159
 t51:=Tryd.underlying94
 a51:=Tryd.isAgg94
 z51:=Tryd.sizeOf94
 v51:=Tryd.zeroValue94
 t53:=Tryd.underlying170
 a53:=Tryd.isAgg170
 z53:=Tryd.sizeOf170
 v53:=Tryd.zeroValue170
 t131:=Tryd.underlying130
 a131:=Tryd.isAgg130
 z131:=Tryd.sizeOf130
 v131:=Tryd.zeroValue130
 t182:=Tryd.underlying162
 a182:=Tryd.isAgg162
 z182:=Tryd.sizeOf162
 v182:=Tryd.zeroValue162
 t183:=Tryd.underlying163
 a183:=Tryd.isAgg163
 z183:=Tryd.sizeOf163
 v183:=Tryd.zeroValue163
 t218:=Tryd.underlying174
 a218:=Tryd.isAgg174
 z218:=Tryd.sizeOf174
 v218:=Tryd.zeroValue174
 t222:=Tryd.underlying178
 a222:=Tryd.isAgg178
 z222:=Tryd.sizeOf178
 v222:=Tryd.zeroValue178
 t228:=Tryd.underlying184
 a228:=Tryd.isAgg184
 z228:=Tryd.sizeOf184
 v228:=Tryd.zeroValue184
 t229:=Tryd.underlying185
 a229:=Tryd.isAgg185
 z229:=Tryd.sizeOf185
 v229:=Tryd.zeroValue185 }
open Go.Sort Go.RowKit in
theorem Tryd.slices_Sort_int (blk off cap:Nat) (zs:List Int) (w:World) (hH:Holds (Value.int .i64) w blk off zs.toArray) (hblk:blk < w.heap.size) (hsz:zs.length < 4611686018427387904) :
  Calls Tryd.prog 105 #[.slice (some ⟨blk,off,none⟩) zs.length cap] w fun e w' =>
   e=.returned (.tuple #[])/\∃ n os,w'=grow (putRow (Value.int .i64) (Sort.ahead w n) blk off (zs.mergeSort fun x y=>decide (x<=y)).toArray) os:=Any.slices_Sort_int Tryd.lays189 blk off cap zs w hH hblk hsz
def Tryd.laysNm220_ren:Go.Shelf.Ren:=⟨fun | 20=>106 | n=>n,fun | 22=>26 | 3=>3 | 4=>4 | 0=>0 | n=>n,fun | n=>n⟩
theorem Tryd.laysNm220:Go.Proofs.Lays2.n20 Tryd.prog Tryd.laysNm220_ren:={
 mixed:=by kernel_rfl
 f20:=Tryd.func106.trans (congrArg some (by kernel_rfl))
 t0:=Tryd.underlying0
 a0:=Tryd.isAgg0
 z0:=Tryd.sizeOf0
 v0:=Tryd.zeroValue0
 t3:=Tryd.underlying3
 a3:=Tryd.isAgg3
 z3:=Tryd.sizeOf3
 v3:=Tryd.zeroValue3
 t4:=Tryd.underlying4
 a4:=Tryd.isAgg4
 z4:=Tryd.sizeOf4
 v4:=Tryd.zeroValue4
 t22:=Tryd.underlying26
 a22:=Tryd.isAgg26
 z22:=Tryd.sizeOf26
 v22:=Tryd.zeroValue26
 i3:=by kernel_rfl }
open Go.RowKit Go.Lib Go.Sort in
theorem Tryd.slices_Compact_int (blk off cap:Nat) (zs:List Int) (w:World) (hH:Holds (Value.int .i64) w blk off zs.toArray) (hsz:zs.length<=9223372036854775807) (hcap:zs.length<=cap) :
  Calls Tryd.prog 106 #[.slice (some ⟨blk,off,none⟩) zs.length cap] w fun e w'=>e=.returned (.slice (some ⟨blk,off,none⟩) (Lib.compact zs).length cap)/\∃ q,w'=putRow (Value.int .i64) (Sort.ahead w q) blk off (Lib.compact zs++List.replicate (zs.length - (Lib.compact zs).length) 0).toArray:=Any.slices_Compact_int Tryd.laysNm220 blk off cap zs w hH hsz hcap
open Go.RowKit Go.Lib Go.Sort in
theorem Tryd.slices_Compact_int_empty (a:Option Addr) (cap:Nat) (w:World) :
  Calls Tryd.prog 106 #[.slice a 0 cap] w fun e w'=>e=.returned (.slice a 0 cap)/\w'=w:=Any.slices_Compact_int_empty Tryd.laysNm220 a cap w
open Go.RowKit Go.Sort in
theorem Tryd.slices_Sort_int_none (p:Option Addr) (cap:Nat) (w:World) :
  Calls Tryd.prog 105 #[.slice p 0 cap] w fun e w'=>e=.returned (.tuple #[])/\w'=w:=Any.slices_Sort_int_none Tryd.lays189 p cap w
end Go.Proofs

namespace Go.Pv
open Go.Lib Go.Sort
theorem wjs (d:Array Int):∀ m:Nat,(compactUpTo d m).length<=m
 | 0=>by simp[compactUpTo]
 | m+1=>by
  rw[compactUpTo_succ,List.length_append]
  have:=wjs d m
  split <;> simp <;> omega
theorem wi2 (l:List Int):(compactI l).length<=l.length:=by unfold compactI compact; exact wjs _ _
theorem wfj (l:List Int):(waL l).length=l.length:=by
 have:=wi2 l
 unfold waL; simp; omega
theorem wqT (w:World) (ok:Nat->Nat->Prop) (x:Int):RepD w ok (.int .i64 x) (.int .i64 x):=.int .i64 x
theorem wr7 (w:World) (X:Nat->Nat->Prop) (φ:Nm) (H:wac) (v:Value) (x:Int) (h:RepV w X φ H v (.d (.int .i64 x))):v=.int .i64 x:=by cases h with | d h=>cases h; rfl
namespace Tryd
open Go.Proofs
theorem wqU {vs:List Value} {p:PV} (h:vs.length=[p].length):∃ v,vs=[v]:=by
 match vs,h with
 | [v],_=>exact⟨v,rfl⟩
theorem wr8 (L:List Int) (hL:L.length<=4294967296):HandFn Tryd.prog G 105 [.slc 0 0 L.length] 0 3 1 (wab (PD.int .i64) L) (.tuple []) (wab (PD.int .i64) (sortI L)):=by
 intro B φ vs h0 h1 h2 h3
 obtain⟨v,rfl⟩:=wqU h1
 have hv:RepV B.w0 B.X φ [(0,⟨3,1,dl (wab (PD.int .i64) L)⟩)] v (.slc 0 0 L.length):=h2 0 (by simp)
 have hlen:(wab (PD.int .i64) (sortI L)).length=(wab (PD.int .i64) L).length:=by simp[wab,sortI_length]
 generalize hn:L.length=n at hv
 cases hv with
 | slc hx hb hk1 h4 h5 h6 h7 =>
  rename_i cap b x
  obtain⟨_,rfl⟩:=weV hx
  obtain⟨hH,hlt⟩:=h3.holds (enc:=Value.int .i64) (pd:=PD.int .i64) wr7 (fun _=>rfl) hb
  have hc:=Tryd.slices_Sort_int b 0 cap L B.w0 hH hlt (by omega)
  rw[hn]at hc
  have e0:(0:Nat)*(⟨3,1,dl (wab (PD.int .i64) L)⟩:Row).k=0:=Nat.zero_mul _
  rw[e0]
  refine(callsIn_wide.2 hc).mono ?_
  rintro e w' ⟨rfl,m,os,rfl⟩
  refine⟨_,.tuple [],[(0,⟨3,1,dl (wab (PD.int .i64) (sortI L))⟩)],none,φ,rfl,⟨rfl,rfl,hlen⟩,.tuple rfl (fun i hi=>by simp at hi),?_⟩
  have:=h3.putRow (enc:=Value.int .i64) (pd:=PD.int .i64) (L':=sortI L) wqT (fun _=>rfl) h0 (sortI_length L) hb m os
  unfold sortI at this ⊢
  exact this
 | slc0 hx hb hk1 hp =>
  rename_i x p
  have hL0:L=[]:=List.length_eq_zero_iff.1 hn
  subst hL0
  refine(callsIn_wide.2 (Tryd.slices_Sort_int_none p 0 B.w0)).mono ?_
  rintro e w' ⟨rfl,rfl⟩
  have e1:sortI []=[]:=List.length_eq_zero_iff.1 (by rw[sortI_length]; rfl)
  refine⟨_,.tuple [],[(0,⟨3,1,dl (wab (PD.int .i64) (sortI []))⟩)],none,φ,rfl,⟨rfl,rfl,hlen⟩,.tuple rfl (fun i hi=>by simp at hi),?_⟩
  rw[e1]; exact h3
theorem wpX (L:List Int) (hL:L.length<=4294967296):HandFn Tryd.prog G 106 [.slc 0 0 L.length] 0 3 1 (wab (PD.int .i64) L) (.slc 0 0 (compactI L).length) (wab (PD.int .i64) (waL L)):=by
 intro B φ vs h0 h1 h2 h3
 obtain⟨v,rfl⟩:=wqU h1
 have hv:RepV B.w0 B.X φ [(0,⟨3,1,dl (wab (PD.int .i64) L)⟩)] v (.slc 0 0 L.length):=h2 0 (by simp)
 have hlen:(wab (PD.int .i64) (waL L)).length=(wab (PD.int .i64) L).length:=by simp[wab,wfj]
 have hle:=wi2 L
 generalize hn:L.length=n at hv
 cases hv with
 | slc hx hb hk1 h4 h5 h6 h7 =>
  rename_i cap b x
  obtain⟨_,rfl⟩:=weV hx
  obtain⟨hH,hlt⟩:=h3.holds (enc:=Value.int .i64) (pd:=PD.int .i64) wr7 (fun _=>rfl) hb
  have hc:=Tryd.slices_Compact_int b 0 cap L B.w0 hH (by omega) (by omega)
  rw[hn]at hc
  have e0:(0:Nat)*(⟨3,1,dl (wab (PD.int .i64) L)⟩:Row).k=0:=Nat.zero_mul _
  rw[e0]
  refine(callsIn_wide.2 hc).mono ?_
  rintro e w' ⟨rfl,m,rfl⟩
  have hs:=h3.putRow (enc:=Value.int .i64) (pd:=PD.int .i64) (L':=waL L) wqT (fun _=>rfl) h0 (wfj L) hb m #[]
  have eg:∀ w:World,grow w #[]=w:=fun w=>by simp[grow]
  rw[eg]at hs
  have hx':waa ([(0,⟨3,1,dl (wab (PD.int .i64) (waL L))⟩)]:wac) 0=some ⟨3,1,dl (wab (PD.int .i64) (waL L))⟩:=rfl
  have hll:(dl (wab (PD.int .i64) (waL L))).length=L.length:=by simp[dl,wab,wfj]
  have hll0:(dl (wab (PD.int .i64) L)).length=L.length:=by simp[dl,wab]
  dsimp only at h4 h6 h7
  rw[hll0]at h4 h6
  refine⟨_,.slc 0 0 (compactI L).length,[(0,⟨3,1,dl (wab (PD.int .i64) (waL L))⟩)],none,φ,rfl,⟨rfl,rfl,hlen⟩,?_,?_⟩
  ·have hr:RepV (Sort.putRow (Value.int .i64) (Sort.ahead B.w0 m) b 0 (waL L).toArray) B.X φ [(0,⟨3,1,dl (wab (PD.int .i64) (waL L))⟩)] (.slice (some ⟨b,0*(⟨3,1,dl (wab (PD.int .i64) (waL L))⟩:Row).k,none⟩) (compactI L).length cap) (.slc 0 0 (compactI L).length) :=
    .slc hx' hb (Nat.le_refl 1) (by dsimp only; rw[hll]; omega) (by omega) (by dsimp only; rw[hll]; omega) (fun c e f hh=>by
     rw[wiS,if_pos rfl]at hh
     obtain⟨ob,ho1,ho2⟩:=Option.map_eq_some_iff.1 hh
     cases ob with
     | cells c0 e0 f0 =>
      simp only[onCells,Obj.cells.injEq]at ho2
      have:=h7 c0 e0 f0 ho1
      rw[<-ho2.1]
      simpa [putCells]using this
     | _=>simp[onCells]at ho2)
   rw[Nat.zero_mul]at hr
   unfold waL compactI at hr ⊢
   rw[hn]at hr ⊢
   exact hr
  ·unfold waL compactI at hs ⊢
   rw[hn]at hs ⊢
   exact hs
 | slc0 hx hb hk1 hp =>
  rename_i x p
  have hL0:L=[]:=List.length_eq_zero_iff.1 hn
  subst hL0
  refine(callsIn_wide.2 (Tryd.slices_Compact_int_empty p 0 B.w0)).mono ?_
  rintro e w' ⟨rfl,rfl⟩
  have e1:waL []=[]:=List.length_eq_zero_iff.1 (by rw[wfj]; rfl)
  have e2:(compactI []).length=0:=by have:=wi2 []; simp at this; simp[this]
  refine⟨_,.slc 0 0 (compactI []).length,[(0,⟨3,1,dl (wab (PD.int .i64) (waL []))⟩)],none,φ,rfl,⟨rfl,rfl,hlen⟩,?_,?_⟩
  ·rw[e1,e2]; exact .slc0 hx hb hk1 hp
  ·rw[e1]; exact h3
end Tryd
end Go.Pv

namespace Go.Pv.Tryd
open Go.Proofs Go.Pv
theorem wga (mark1:Int) (ts1:(List (List Rule))) (r:(List Int)) (h:wbL mark1 ts1=some r):PureFn Tryd.prog G 81 [.d (.int .i64 mark1),.d (.imm 1 (wab (wbb 2 Rule.pd) ts1))] (.d (.imm 1 (wab (PD.int .i64) r))):=by
 unfold wbL at h
 refine pf Tryd.func81 Tryd.ntmps81 ?_
 refine sg fun K k=>?_
 refine oo ?_
 refine AOps.nil (k _ ?_)
 refine sg fun K k=>?_
 iterate 2 refine oo ?_
 refine AOps.nil (k _ ?_)
 refine jn (α:=(List Int)) [] [] (fun i t=>(5,.slc 1000 0 i.length)::t) (fun i t=>(1000,⟨3,1,dl (wab (PD.int .i64) i)⟩)::t) h ?_ ?_
 ·intro _ hj_2
  refine sg fun K k=>?_
  iterate 3 refine oo ?_
  refine AOps.nil (k _ ?_)
  refine AWp.block ?_
  obtain⟨x_7,hl_4,h2_5⟩:=bind_some hj_2
  refine lp (S:=(Int×(List Int))) [0,11,12] [] (fun i t=>(5,.slc 1000 0 i.2.length)::(13,.d (.int .i64 i.1))::t) (fun i t=>(1000,⟨3,1,dl (wab (PD.int .i64) i.2)⟩)::t) hl_4 ?_ ?_; exact sb; clear hl_4
  rintro⟨v1,L2⟩ _ hb_6; unfold wcR at hb_6; try dsimp only at hb_6
  try dsimp only
  refine sg fun K k=>?_
  refine oo ?_
  refine AOps.nil (k _ ?_)
  refine AWp.seq fun _ K_9=>?_
  refine cd hb_6 (fun hb_6=>?_) (fun hb_6=>?_)
  ·refine AWp.skip ?_
   refine K_9 _ ?_
   refine jn (α:=(List Int)) [0,11,12,13] [] (fun i t=>(5,.slc 1000 0 i.length)::t) (fun i t=>(1000,⟨3,1,dl (wab (PD.int .i64) i)⟩)::t) hb_6 ?_ ?_
   ·intro _ hj_12
    refine AWp.block ?_
    refine sg fun K k=>?_
    obtain⟨e1,⟨f_13,f_14,f_15,f_16⟩,hj_12⟩:=waj hj_12
    refine oo ?_
    refine oo ?_ (by intro K k; simp(disch:=omega) only[go_sem,f_15,↓reduceIte]; exact k)
    refine oo ?_
    refine AOps.nil (k _ ?_)
    refine sg fun K k=>?_
    iterate 3 refine oo ?_
    refine AOps.nil (k _ ?_)
    refine AWp.block ?_
    obtain⟨x_21,hl_18,h2_19⟩:=bind_some hj_12
    refine lp (S:=(Int×(List Int))) [0,11,12,13,17,18] [] (fun i t=>(5,.slc 1000 0 i.2.length)::(19,.d (.int .i64 i.1))::t) (fun i t=>(1000,⟨3,1,dl (wab (PD.int .i64) i.2)⟩)::t) hl_18 ?_ ?_; exact sb; clear hl_18
    rintro⟨v2,L4⟩ _ hb_20; unfold wcQ at hb_20; try dsimp only at hb_20
    try dsimp only
    refine sg fun K k=>?_
    refine oo ?_
    refine AOps.nil (k _ ?_)
    refine AWp.seq fun _ K_23=>?_
    refine cd hb_20 (fun hb_20=>?_) (fun hb_20=>?_)
    ·refine AWp.skip ?_
     refine K_23 _ ?_
     refine AWp.seq fun _ K_25=>?_
     refine AWp.block ?_
     refine sg fun K k=>?_
     obtain⟨e2,⟨f_26,f_27,f_28,f_29⟩,hb_20⟩:=waj hb_20
     refine oo ?_
     refine oo ?_ (by intro K k; simp(disch:=omega) only[go_sem,f_28,↓reduceIte]; exact k)
     iterate 2 refine oo ?_
     refine AOps.nil (k _ ?_)
     refine AWp.draw mo [] trivial ?_
     obtain⟨e3,⟨f_30,f_31,f_32,f_33⟩,hb_20⟩:=waj hb_20
     iterate 6 refine dd ?_
     refine dd ?_ (by intro K k; simp(disch:=omega) only[go_sem,f_32,↓reduceIte]; exact k)
     iterate 5 refine dd ?_
     refine dd ?_ (by intro K k; simp(disch:=omega) only[go_sem,f_32,↓reduceIte]; exact k)
     refine ddl ?_
     refine DOps.stop (by kernel_rfl) ?_
     obtain⟨hg_34,hb_20⟩:=wae hb_20
     iterate 2 refine oo ?_
     refine AOps.nil ?_
     refine K_25 _ ?_
     refine AWp.reg ?_
     iterate 2 refine oo ?_
     refine AOps.nil ?_
     exact ln hb_20 sb
    ·refine AWp.exit ?_
     refine lx hb_20 fun hx=>?_; cases hx; try dsimp only at h2_19
     cases h2_19; exact sb
   ·rintro L3 hb_6; dsimp only at hb_6 ⊢
    refine AWp.reg ?_
    iterate 2 refine oo ?_
    refine AOps.nil ?_
    exact ln hb_6 sb
  ·refine AWp.exit ?_
   refine lx hb_6 fun hx=>?_; cases hx; try dsimp only at h2_5
   cases h2_5; exact sb
 ·rintro L1 h; dsimp only at h ⊢
  refine sg fun K k=>?_
  obtain⟨hg_35,h⟩:=wae h
  refine oo ?_
  refine clH 1000 (wr8 L1 hg_35) ?_
  refine AOps.nil (k _ ?_)
  refine sg fun K k=>?_
  obtain⟨hg_36,h⟩:=wae h
  refine oo ?_
  refine clH 1000 (wpX (sortI L1) hg_36) ?_
  refine AOps.sub (τ:=⟨[(43,.d (.imm 1 (wab (PD.int .i64) (List.take ((compactI (sortI L1)).length) (waL (sortI L1))))))],[],[],none⟩) sct ?_
  refine oo ?_
  refine AOps.nil (k _ ?_)
  refine jn (α:=(List Int)) [] [] (fun i t=>(5,.d (.imm 1 (wab (PD.int .i64) i)))::t) (fun i t=>t) h ?_ ?_
  ·intro _ hj_38
   refine sg fun K k=>?_
   obtain⟨e4,⟨f_39,f_40,f_41,f_42⟩,hj_38⟩:=waj hj_38
   try simp only[List.length_append,List.length_set,List.length_replicate,List.length_cons,List.length_nil]at f_40 f_42
   try simp only[Int.reduceToNat]at f_41 f_42
   iterate 2 refine oo ?_
   refine oo ?_ (by intro K k; simp(disch:=omega) only[go_sem,f_41,↓reduceIte]; exact k)
   refine oo ?_
   refine AOps.nil (k _ ?_)
   refine cd hj_38 (fun hj_38=>?_) (fun hj_38=>?_)
   ·refine AWp.reg ?_
    obtain⟨hg_44,hj_38⟩:=wae hj_38
    iterate 3 refine oo ?_
    refine AOps.nil ?_
    cases hj_38; exact sb
   ·refine AWp.skip ?_
    cases hj_38; exact sb
  ·rintro out1 h; dsimp only at h ⊢
   refine sg fun K k=>?_
   iterate 2 refine oo ?_
   refine AOps.nil (k _ ?_)
   refine AWp.ret ?_
   cases h; exact rt
end Go.Pv.Tryd

namespace Go.Pv.Tryd
open Go.Proofs Go.Pv
theorem we0 (t1:(List Rule)) (mark1:Int) (value1:Int) (r:Int) (h:wca t1 mark1 value1=some r):PureFn Tryd.prog G 82 [.d (.imm 2 (wab Rule.pd t1)),.d (.int .i64 mark1),.d (.int .i64 value1)] (.d (.int .u32 r)):=by
 unfold wca at h
 refine pf Tryd.func82 Tryd.ntmps82 ?_
 refine sg fun K k=>?_
 refine oo ?_
 refine AOps.nil (k _ ?_)
 refine sg fun K k=>?_
 refine oo ?_
 refine AOps.nil (k _ ?_)
 refine jn (α:=Int) [] [] (fun i t=>(7,.d (.int .u32 i))::t) (fun i t=>t) h ?_ ?_
 ·intro _ hj_2
  refine sg fun K k=>?_
  iterate 3 refine oo ?_
  refine AOps.nil (k _ ?_)
  refine AWp.block ?_
  obtain⟨x_7,hl_4,h2_5⟩:=bind_some hj_2
  refine lp (S:=(Int×Int)) [1,2,11,12] [] (fun i t=>(7,.d (.int .u32 i.1))::(13,.d (.int .i64 i.2))::t) (fun i t=>t) hl_4 ?_ ?_; exact sb; clear hl_4
  rintro⟨out2,v1⟩ _ hb_6; unfold wcS at hb_6; try dsimp only at hb_6
  try dsimp only
  refine sg fun K k=>?_
  refine oo ?_
  refine AOps.nil (k _ ?_)
  refine AWp.seq fun _ K_9=>?_
  refine cd hb_6 (fun hb_6=>?_) (fun hb_6=>?_)
  ·refine AWp.skip ?_
   refine K_9 _ ?_
   refine jn (α:=Int) [1,2,11,12,13] [] (fun i t=>(7,.d (.int .u32 i))::t) (fun i t=>t) hb_6 ?_ ?_
   ·intro _ hj_12
    refine AWp.block ?_
    refine sg fun K k=>?_
    obtain⟨e1,⟨f_13,f_14,f_15,f_16⟩,hj_12⟩:=waj hj_12
    iterate 2 refine oo ?_
    refine oo ?_ (by intro K k; simp(disch:=omega) only[go_sem,f_15,↓reduceIte]; exact k)
    iterate 3 refine oo ?_
    refine AOps.nil (k _ ?_)
    refine sg fun K k=>?_
    obtain⟨e2,⟨f_17,f_18,f_19,f_20⟩,hj_12⟩:=waj hj_12
    iterate 4 refine oo ?_
    refine oo ?_ (by intro K k; simp(disch:=omega) only[go_sem,f_19,↓reduceIte]; exact k)
    iterate 2 refine oo ?_
    refine AOps.nil (k _ ?_)
    refine sg fun K k=>?_
    iterate 5 refine oo ?_
    refine ct 5 [1,2,7,8,11,12,13] [] (fun  t=>(32,.d (.bool ((decide (e2.Lo<=value1))&&(decide (value1 < e2.Hi)))))::t) ?_ ?_
    ·rcases bt (decide (e2.Lo<=value1))with hg_22 | hg_22
     ·rw[hg_22]
      iterate 5 refine oo ?_
      refine AOps.nil ?_
      exact sb
     ·rw[hg_22]
      iterate 5 refine oo ?_
      refine AOps.nil ?_
      exact sb
    refine AOps.nil (k _ ?_)
    refine cd hj_12 (fun hj_12=>?_) (fun hj_12=>?_)
    ·refine AWp.reg ?_
     obtain⟨hg_24,hj_12⟩:=wae hj_12
     iterate 5 refine oo ?_
     refine AOps.nil ?_
     cases hj_12; exact sb
    ·refine AWp.skip ?_
     cases hj_12; exact sb
   ·rintro out3 hb_6; dsimp only at hb_6 ⊢
    refine AWp.reg ?_
    iterate 2 refine oo ?_
    refine AOps.nil ?_
    exact ln hb_6 sb
  ·refine AWp.exit ?_
   refine lx hb_6 fun hx=>?_; cases hx; try dsimp only at h2_5
   cases h2_5; exact sb
 ·rintro out1 h; dsimp only at h ⊢
  refine sg fun K k=>?_
  iterate 2 refine oo ?_
  refine AOps.nil (k _ ?_)
  refine AWp.ret ?_
  cases h; exact rt
end Go.Pv.Tryd

namespace Go.Pv.Tryd
open Go.Proofs Go.Pv
theorem wdL (s1:Int) (r:Int) (h:wbv s1=some r):PureFn Tryd.prog G 80 [.d (.int .u32 s1)] (.d (.int .i64 r)):=by
 unfold wbv at h
 refine pf Tryd.func80 Tryd.ntmps80 ?_
 refine sg fun K k=>?_
 refine oo ?_
 refine AOps.nil (k _ ?_)
 refine jm (ι:=Unit) [] [] (fun i t=>t) (fun i t=>t) .inl h ?_ ?_
 ·intro _ hj_2 h
  refine sg fun K k=>?_
  refine oo ?_
  refine AOps.nil (k _ ?_)
  refine AWp.block ?_
  obtain⟨x_7,hl_4,h2_5⟩:=bind_some hj_2
  refine lp (S:=Int) [0] [] (fun i t=>(4,.d (.int .i64 i))::t) (fun i t=>t) hl_4 ?_ ?_; exact sb; clear hl_4
  rintro v1 _ hb_6; unfold wbF at hb_6; try dsimp only at hb_6
  try dsimp only
  refine sg fun K k=>?_
  refine oo ?_
  refine AOps.nil (k _ ?_)
  refine AWp.seq fun _ K_9=>?_
  refine cd hb_6 (fun hb_6=>?_) (fun hb_6=>?_)
  ·refine AWp.skip ?_
   refine K_9 _ ?_
   refine AWp.seq fun _ K_11=>?_
   refine AWp.block ?_
   refine sg fun K k=>?_
   iterate 2 refine oo ?_
   refine AOps.nil (k _ ?_)
   refine sg fun K k=>?_
   obtain⟨hg_12,hb_6⟩:=wae hb_6
   iterate 5 refine oo ?_
   refine AOps.nil (k _ ?_)
   refine cd hb_6 (fun hb_6=>?_) (fun hb_6=>?_)
   ·refine sg fun K k=>?_
    iterate 2 refine oo ?_
    refine AOps.nil (k _ ?_)
    refine AWp.ret ?_
    refine lx hb_6 fun hx=>?_; cases hx; try dsimp only at h2_5
    cases h2_5; try dsimp only at h
    cases h; exact rt
   ·refine AWp.skip ?_
    refine K_11 _ ?_
    refine AWp.reg ?_
    iterate 2 refine oo ?_
    refine AOps.nil ?_
    exact ln hb_6 sb
  ·refine AWp.exit ?_
   refine lx hb_6 fun hx=>?_; cases hx; try dsimp only at h2_5
   exact ln h2_5 sb
 ·rintro _ h; dsimp only at h ⊢
  refine sg fun K k=>?_
  refine oo ?_
  refine AOps.nil (k _ ?_)
  refine AWp.ret ?_
  cases h; exact rt
end Go.Pv.Tryd

namespace Go.Pv.Tryd
open Go.Proofs Go.Pv
set_option maxHeartbeats 4000000 in
theorem wi3 (n:Nat):∀ (o1:(List Rule)) (o2:Int) (m1:(List (Arr3_Int×(List Int)))) (mark1:Int) (a1:Int) (r:((List Int)×(List (Arr3_Int×(List Int))))) (h:wdn n o1 o2 m1 mark1 a1=some r),ObjFn Tryd.prog G 93 [.d (.int .i64 mark1),.d (.int .u32 a1),.ptr 0 0 0,.ptr 1 0 0,.ptr 2 0 0,.ptr 3 0 0] [(0,⟨135,1,[.mp 4]⟩),(1,⟨22,1,[.d (.imm 2 (wab Rule.pd o1))]⟩),(2,⟨3,1,[.d (.int .i64 o2)]⟩),(3,⟨136,1,[.func (.func 93) [.ptr 0 0 0,.ptr 1 0 0,.ptr 2 0 0,.ptr 3 0 0]]⟩),(4,⟨135,0,waq Arr3_Int.pd (wbb 1 (PD.int .i64)) m1⟩)] (.d (.imm 1 (wab (PD.int .i64) r.1))) [(0,⟨135,1,[.mp 4]⟩),(1,⟨22,1,[.d (.imm 2 (wab Rule.pd o1))]⟩),(2,⟨3,1,[.d (.int .i64 o2)]⟩),(3,⟨136,1,[.func (.func 93) [.ptr 0 0 0,.ptr 1 0 0,.ptr 2 0 0,.ptr 3 0 0]]⟩),(4,⟨135,0,waq Arr3_Int.pd (wbb 1 (PD.int .i64)) r.2⟩)]:=by
 induction n with
 | zero=>intro o1 o2 m1 mark1 a1 r h; cases h
 | succ n ih =>
  intro o1 o2 m1 mark1 a1 r h
  replace h:wcX (wdn n) o1 o2 m1 mark1 a1=some r:=h
  unfold wcX at h
  refine ObjFn.pf Tryd.func93 Tryd.ntmps93 ?_
  refine sg fun K k=>?_
  refine oo ?_
  refine AOps.nil (k _ ?_)
  refine sg fun K k=>?_
  iterate 6 refine oo ?_
  refine AOps.nil (k _ ?_)
  refine AWp.seq fun _ K_1=>?_
  refine sg fun K k=>?_
  iterate 2 refine oo ?_
  refine oml (k:=(⟨mark1,(IntKind.i64.wrap a1),0⟩:Arr3_Int)) (L:=m1) (v0:=[]) (encV:=(wbb 1 (PD.int .i64))) wlL wtd ty26 wuc (fun _ _=>.imm0 _) ?_
  iterate 5 refine oo ?_
  refine AOps.nil (k _ ?_)
  refine sg fun K k=>?_
  refine oo ?_
  refine AOps.nil (k _ ?_)
  refine cd h (fun h=>?_) (fun h=>?_)
  ·refine sg fun K k=>?_
   iterate 2 refine oo ?_
   refine AOps.nil (k _ ?_)
   refine AWp.ret ?_
   cases h; exact rtO
  ·refine AWp.skip ?_
   refine K_1 _ ?_
   refine sg fun K k=>?_
   obtain⟨hg_3,h⟩:=wae h
   iterate 5 refine oo ?_
   refine AOps.nil (k _ ?_)
   refine sg fun K k=>?_
   refine oo ?_
   refine AOps.nil (k _ ?_)
   refine jn (α:=((List (Arr3_Int×(List Int)))×(List Int))) [2,9] [1,2,3,1000] (fun i t=>(12,.slc 1001 0 i.2.length)::t) (fun i t=>(0,⟨135,1,[.mp 4]⟩)::(4,⟨135,0,waq Arr3_Int.pd (wbb 1 (PD.int .i64)) i.1⟩)::(1001,⟨3,1,dl (wab (PD.int .i64) i.2)⟩)::t) h ?_ ?_
   ·intro _ hj_5
    refine sg fun K k=>?_
    iterate 2 refine oo ?_
    refine ol ?_
    obtain⟨r1,hx_6,hj_5⟩:=bind_some hj_5
    refine cl (wga mark1 [o1] _ hx_6) ?_
    iterate 2 refine oo ?_
    refine AOps.nil (k _ ?_)
    refine AWp.block ?_
    obtain⟨x_11,hl_8,h2_9⟩:=bind_some hj_5
    refine lp (S:=(Int×Int×(List (Arr3_Int×(List Int)))×(List Int))) [0,1,2,3,4,5,9,39,40] [1,2,3,1000] (fun i t=>(12,.slc 1001 0 i.2.2.2.length)::(13,.d (.int .i64 i.1))::(41,.d (.int .i64 i.2.1))::t) (fun i t=>(0,⟨135,1,[.mp 4]⟩)::(4,⟨135,0,waq Arr3_Int.pd (wbb 1 (PD.int .i64)) i.2.2.1⟩)::(1001,⟨3,1,dl (wab (PD.int .i64) i.2.2.2)⟩)::t) hl_8 ?_ ?_; exact sb; clear hl_8
    rintro⟨from1,v1,M2,L2⟩ _ hb_10; unfold wdB at hb_10; try dsimp only at hb_10
    try dsimp only
    refine sg fun K k=>?_
    refine oo ?_
    refine AOps.nil (k _ ?_)
    refine AWp.seq fun _ K_13=>?_
    refine cd hb_10 (fun hb_10=>?_) (fun hb_10=>?_)
    ·refine AWp.skip ?_
     refine K_13 _ ?_
     refine jn (α:=(Int×(List (Arr3_Int×(List Int)))×(List Int))) [0,1,2,3,4,5,9,39,40,41] [1,2,3,1000] (fun i t=>(12,.slc 1001 0 i.2.2.length)::(13,.d (.int .i64 i.1))::t) (fun i t=>(0,⟨135,1,[.mp 4]⟩)::(4,⟨135,0,waq Arr3_Int.pd (wbb 1 (PD.int .i64)) i.2.1⟩)::(1001,⟨3,1,dl (wab (PD.int .i64) i.2.2)⟩)::t) hb_10 ?_ ?_
     ·intro _ hj_16
      refine AWp.block ?_
      refine sg fun K k=>?_
      obtain⟨e1,⟨f_17,f_18,f_19,f_20⟩,hj_16⟩:=waj hj_16
      refine oo ?_
      refine oo ?_ (by intro K k; simp(disch:=omega) only[go_sem,f_19,↓reduceIte]; exact k)
      refine oo ?_
      refine AOps.nil (k _ ?_)
      refine sg fun K k=>?_
      iterate 4 refine oo ?_
      obtain⟨r2,hx_21,hj_16⟩:=bind_some hj_16
      refine cl (we0 o1 mark1 from1 _ hx_21) ?_
      iterate 2 refine oo ?_
      refine AOps.nil (k _ ?_)
      refine jn (α:=((List (Arr3_Int×(List Int)))×(List Int))) [0,1,2,3,4,5,9,15,39,40,41] [1,2,3,1000] (fun i t=>(12,.slc 1001 0 i.2.length)::t) (fun i t=>(0,⟨135,1,[.mp 4]⟩)::(4,⟨135,0,waq Arr3_Int.pd (wbb 1 (PD.int .i64)) i.1⟩)::(1001,⟨3,1,dl (wab (PD.int .i64) i.2)⟩)::t) hj_16 ?_ ?_
      ·intro _ hj_23
       refine sg fun K k=>?_
       iterate 4 refine oo ?_
       refine AOps.nil (k _ ?_)
       refine cd hj_23 (fun hj_23=>?_) (fun hj_23=>?_)
       ·refine sg fun K k=>?_
        iterate 4 refine oo ?_
        obtain⟨r3,hx_25,hj_23⟩:=bind_some hj_23
        refine clU [(0,0),(1,1),(2,2),(3,3),(4,4)] [] (ih o1 o2 M2 (IntKind.i64.wrap (mark1+1)) (IntKind.u32.wrap ↑(BitVec.ofInt IntKind.u32.bits a1 &&& BitVec.ofInt IntKind.u32.bits r2).toNat) _ hx_25) ?_
        iterate 2 refine oo ?_
        refine AOps.nil (k _ ?_)
        refine AWp.block ?_
        obtain⟨x_30,hl_27,h2_28⟩:=bind_some hj_23
        refine lp (S:=(Int×(List Int))) [0,1,2,3,4,5,9,13,15,39,40,41,59,60] [0,1,2,3,4,1000] (fun i t=>(12,.slc 1001 0 i.2.length)::(61,.d (.int .i64 i.1))::t) (fun i t=>(1001,⟨3,1,dl (wab (PD.int .i64) i.2)⟩)::t) hl_27 ?_ ?_; exact sb; clear hl_27
        rintro⟨v2,L5⟩ _ hb_29; unfold wdA at hb_29; try dsimp only at hb_29
        try dsimp only
        refine sg fun K k=>?_
        refine oo ?_
        refine AOps.nil (k _ ?_)
        refine AWp.seq fun _ K_32=>?_
        refine cd hb_29 (fun hb_29=>?_) (fun hb_29=>?_)
        ·refine AWp.skip ?_
         refine K_32 _ ?_
         refine AWp.seq fun _ K_34=>?_
         refine AWp.block ?_
         refine sg fun K k=>?_
         obtain⟨e2,⟨f_35,f_36,f_37,f_38⟩,hb_29⟩:=waj hb_29
         iterate 2 refine oo ?_
         refine oo ?_ (by intro K k; simp(disch:=omega) only[go_sem,f_37,↓reduceIte]; exact k)
         iterate 2 refine oo ?_
         refine AOps.nil (k _ ?_)
         refine AWp.reg ?_
         obtain⟨e3,⟨f_39,f_40,f_41,f_42⟩,hb_29⟩:=waj hb_29
         iterate 3 refine oo ?_
         refine oo ?_ (by intro K k; simp(disch:=omega) only[go_sem,f_41,↓reduceIte]; exact k)
         iterate 7 refine oo ?_
         refine oo ?_ (by intro K k; simp(disch:=omega) only[go_sem,f_41,↓reduceIte]; exact k)
         refine AOps.nil ?_
         refine K_34 _ ?_
         refine AWp.reg ?_
         iterate 2 refine oo ?_
         refine AOps.nil ?_
         exact ln hb_29 sb
        ·refine AWp.exit ?_
         refine lx hb_29 fun hx=>?_; cases hx; try dsimp only at h2_28
         cases h2_28; exact sb
       ·refine sg fun K k=>?_
        refine oo ?_
        obtain⟨r4,hx_43,hj_23⟩:=bind_some hj_23
        refine cl (wdL (IntKind.u32.wrap ↑(BitVec.ofInt IntKind.u32.bits a1 &&& BitVec.ofInt IntKind.u32.bits r2).toNat) _ hx_43) ?_
        refine oo ?_
        refine AOps.nil (k _ ?_)
        refine sg fun K k=>?_
        iterate 2 refine oo ?_
        refine AOps.nil (k _ ?_)
        refine cd hj_23 (fun hj_23=>?_) (fun hj_23=>?_)
        ·refine AWp.reg ?_
         obtain⟨e4,⟨f_45,f_46,f_47,f_48⟩,hj_23⟩:=waj hj_23
         try simp only[Int.toNat_natCast]at f_47 f_48
         iterate 4 refine oo ?_
         refine oo ?_ (by intro K k; simp(disch:=omega) only[go_sem,f_47,Int.toNat_natCast,↓reduceIte]; exact k)
         iterate 5 refine oo ?_
         refine oo ?_ (by intro K k; simp(disch:=omega) only[go_sem,f_47,Int.toNat_natCast,↓reduceIte]; exact k)
         refine AOps.nil ?_
         cases hj_23; exact sb
        ·refine AWp.reg ?_
         obtain⟨e5,⟨f_49,f_50,f_51,f_52⟩,hj_23⟩:=waj hj_23
         iterate 3 refine oo ?_
         refine oo ?_ (by intro K k; simp(disch:=omega) only[go_sem,f_51,↓reduceIte]; exact k)
         iterate 5 refine oo ?_
         refine oo ?_ (by intro K k; simp(disch:=omega) only[go_sem,f_51,↓reduceIte]; exact k)
         refine AOps.nil ?_
         cases hj_23; exact sb
      ·rintro⟨M4,L4⟩ hj_16; dsimp only at hj_16 ⊢
       refine AWp.reg ?_
       iterate 2 refine oo ?_
       refine AOps.nil ?_
       cases hj_16; exact sb
     ·rintro⟨from2,M3,L3⟩ hb_10; dsimp only at hb_10 ⊢
      refine AWp.reg ?_
      iterate 2 refine oo ?_
      refine AOps.nil ?_
      exact ln hb_10 sb
    ·refine AWp.exit ?_
     refine lx hb_10 fun hx=>?_; cases hx; try dsimp only at h2_9
     cases h2_9; exact sb
   ·rintro⟨M1,L1⟩ h; dsimp only at h ⊢
    refine sg fun K k=>?_
    iterate 3 refine oo ?_
    refine AOps.sub (τ:=⟨[(12,.d (.imm 1 (wab (PD.int .i64) L1))),(103,.mp 4),(104,.d (.agg [(.int .i64 mark1),(.int .i64 (IntKind.i64.wrap a1)),(.int .i64 0)])),(105,.d (.imm 1 (wab (PD.int .i64) L1)))],[(0,⟨135,1,[.mp 4]⟩),(1,⟨22,1,[.d (.imm 2 (wab Rule.pd o1))]⟩),(2,⟨3,1,[.d (.int .i64 o2)]⟩),(3,⟨136,1,[.func (.func 93) [.ptr 0 0 0,.ptr 1 0 0,.ptr 2 0 0,.ptr 3 0 0]]⟩),(4,⟨135,0,waq Arr3_Int.pd (wbb 1 (PD.int .i64)) M1⟩)],[],none⟩) sc ?_
    refine oms (k:=(⟨mark1,(IntKind.i64.wrap a1),0⟩:Arr3_Int)) (L:=M1) (v:=L1) (encV:=(wbb 1 (PD.int .i64))) wlL wtd ?_
    refine AOps.nil (k _ ?_)
    refine sg fun K k=>?_
    iterate 2 refine oo ?_
    refine AOps.nil (k _ ?_)
    refine AWp.ret ?_
    cases h; exact rtO
end Go.Pv.Tryd

namespace Go.Pv.Tryd
open Go.Proofs Go.Pv
theorem wqs {α:Type} {f:α->PD} {l:List α} (h:wab f l=[]):l=[]:=by simpa [wab]using h
theorem wpY (l r:List Int) (h:whz l=some r):RowFn Tryd.prog G 92 [.d (.imm 1 (wab (PD.int .i64) l))] 3 1 (wab (PD.int .i64) r):=by
 unfold whz at h
 split at h
 ·rename_i hlen
  cases h
  refine Fn.pf Tryd.func92 Tryd.ntmps92 ?_
  refine sg fun K k=>?_
  refine oo ?_
  refine AOps.nil (k _ ?_)
  refine AWp.seq fun _ K_1=>?_
  refine sg fun K k=>?_
  refine oo ?_
  refine nt ty26 T26_desc (fun he=>?_) ?_
  ·simp only[go_sem,↓reduceIte]
   refine AOps.nil (k _ ?_)
   refine cdt ?_
   cases wqs he
   refine sg fun K k=>?_
   refine oo ?_
   refine AOps.nil (k _ ?_)
   refine AWp.sub (Sub.void 2 3 1 1000 (by rfl) (by rfl) (by decide) (by decide)) ?_
   simp only[wdC,wal,↓reduceIte,Nat.reduceEqDiff]
   refine AWp.ret ?_
   exact wtb (hn:=by rfl)
  ·simp only[go_sem,↓reduceIte]
   refine AOps.nil (k _ ?_)
   refine cdf ?_
   refine AWp.skip ?_
   refine K_1 _ ?_
   refine sg fun K k=>?_
   iterate 4 refine oo ?_
   refine AOps.nil (k _ ?_)
   refine AWp.ret ?_
   exact wtb (hn:=by rw[lenc_length])
 ·cases h
end Go.Pv.Tryd

namespace Go.Pv.Tryd
open Go.Proofs Go.Pv
theorem wlr (k1:Int) (t1:(List Rule)) (r:(List Int)) (h:wep k1 t1=some r):PureFn Tryd.prog G 60 [.d (.int .i64 k1),.d (.imm 2 (wab Rule.pd t1))] (.d (.imm 1 (wab (PD.int .i64) r))):=by
 unfold wep at h
 refine pf Tryd.func60 Tryd.ntmps60 ?_
 refine sg fun K k=>?_
 iterate 3 refine oo ?_
 refine AOps.nil (k _ ?_)
 refine sg fun K k=>?_
 refine omk (α:=Arr3_Int) (β:=(List Int)) Arr3_Int.pd (wbb 1 (PD.int .i64)) 1002 ?_
 iterate 2 refine oo ?_
 refine AOps.nil (k _ ?_)
 refine sg fun K k=>?_
 refine oo ?_
 refine AOps.nil (k _ ?_)
 refine sg fun K k=>?_
 iterate 2 refine oo ?_
 refine AOps.nil (k _ ?_)
 refine sd mo fun K k=>?_
 iterate 2 refine dd ?_
 obtain⟨r1,hx_1,h⟩:=bind_some h
 refine dcl (wfi t1 _ hx_1) ?_
 refine DOps.stop (by kernel_rfl) ?_
 obtain⟨r2,hx_2,h⟩:=bind_some h
 refine clU [(0,1003),(1,1001),(2,1000),(3,1004),(4,1002)] [] (wi3 100 t1 k1 [] 0 r1 _ hx_2) ?_
 obtain⟨r3,hx_3,h⟩:=bind_some h
 refine wt4 1005 (wpY r2.1 _ hx_3) ?_
 refine oo ?_
 refine AOps.nil (k _ ?_)
 refine AWp.ret ?_
 cases h; exact rt
end Go.Pv.Tryd

namespace Go.Pv.Tryd
open Go.Proofs Go.Pv
theorem wmE (k1:Int) (t1:(List Rule)) (r:((List Int)×Int)) (h:we4 k1 t1=some r):PureFn Tryd.prog G 30 [.d (.int .i64 k1),.d (.imm 2 (wab Rule.pd t1))] (.tuple [.d (.imm 1 (wab (PD.int .i64) r.1)),.d (.int .i64 r.2)]):=by
 unfold we4 at h
 refine pf Tryd.func30 Tryd.ntmps30 ?_
 refine sg fun K k=>?_
 iterate 2 refine oo ?_
 refine AOps.nil (k _ ?_)
 refine AWp.seq fun _ K_1=>?_
 refine sg fun K k=>?_
 iterate 2 refine oo ?_
 refine ol ?_
 obtain⟨r1,hx_2,h⟩:=bind_some h
 refine cl (wfd k1 [t1] _ hx_2) ?_
 refine oo ?_
 refine AOps.nil (k _ ?_)
 refine sg fun K k=>?_
 iterate 2 refine oo ?_
 refine AOps.nil (k _ ?_)
 refine cd h (fun h=>?_) (fun h=>?_)
 ·refine sg fun K k=>?_
  iterate 3 refine oo ?_
  refine AOps.nil (k _ ?_)
  refine AWp.ret ?_
  cases h; exact rt
 ·refine AWp.skip ?_
  refine K_1 _ ?_
  refine sg fun K k=>?_
  refine oo ?_
  refine AOps.nil (k _ ?_)
  refine AWp.sub (Sub.void 7 3 1 1000 (by rfl) (by rfl) (by decide) (by decide)) ?_
  simp only[wdC,wal,reduceCtorEq,↓reduceIte,Nat.reduceAdd,Nat.reduceMul,Nat.reduceLT,Nat.reduceLeDiff,Nat.reduceEqDiff,Nat.reduceBEq,Int.reduceToNat]
  refine jn (α:=(List Int)) [] [] (fun i t=>(7,.slc 1000 0 i.length)::t) (fun i t=>(1000,⟨3,1,dl (wab (PD.int .i64) i)⟩)::t) h ?_ ?_
  ·intro _ hj_5
   refine sg fun K k=>?_
   iterate 2 refine oo ?_
   obtain⟨r2,hx_6,hj_5⟩:=bind_some hj_5
   refine cl (wlr k1 t1 _ hx_6) ?_
   obtain⟨hg_7,hj_5⟩:=wae hj_5
   iterate 5 refine oo ?_
   refine AOps.nil (k _ ?_)
   refine AWp.block ?_
   obtain⟨x_12,hl_9,h2_10⟩:=bind_some hj_5
   refine lp (S:=(Int×(List Int))) [22,23] [] (fun i t=>(7,.slc 1000 0 i.2.length)::(24,.d (.int .i64 i.1))::t) (fun i t=>(1000,⟨3,1,dl (wab (PD.int .i64) i.2)⟩)::t) hl_9 ?_ ?_; exact sb; clear hl_9
   rintro⟨v1,L2⟩ _ hb_11; unfold weX at hb_11; try dsimp only at hb_11
   try dsimp only
   refine sg fun K k=>?_
   refine oo ?_
   refine AOps.nil (k _ ?_)
   refine AWp.seq fun _ K_14=>?_
   refine cd hb_11 (fun hb_11=>?_) (fun hb_11=>?_)
   ·refine AWp.skip ?_
    refine K_14 _ ?_
    refine jn (α:=(List Int)) [22,23,24] [] (fun i t=>(7,.slc 1000 0 i.length)::t) (fun i t=>(1000,⟨3,1,dl (wab (PD.int .i64) i)⟩)::t) hb_11 ?_ ?_
    ·intro _ hj_17
     refine AWp.block ?_
     refine sg fun K k=>?_
     obtain⟨e1,⟨f_18,f_19,f_20,f_21⟩,hj_17⟩:=waj hj_17
     try simp only[List.length_append,List.length_set,List.length_replicate,List.length_cons,List.length_nil]at f_19 f_21
     iterate 2 refine oo ?_
     refine oo ?_ (by intro K k; simp(disch:=omega) only[go_sem,f_20,↓reduceIte]; exact k)
     iterate 2 refine oo ?_
     refine AOps.nil (k _ ?_)
     refine sg fun K k=>?_
     iterate 2 refine oo ?_
     refine AOps.nil (k _ ?_)
     refine cd hj_17 (fun hj_17=>?_) (fun hj_17=>?_)
     ·refine AWp.reg ?_
      iterate 2 refine oo ?_
      refine ol ?_
      obtain⟨hg_23,hj_17⟩:=wae hj_17
      iterate 2 refine oo ?_
      refine AOps.nil ?_
      cases hj_17; exact sb
     ·refine AWp.skip ?_
      cases hj_17; exact sb
    ·rintro L3 hb_11; dsimp only at hb_11 ⊢
     refine AWp.reg ?_
     iterate 2 refine oo ?_
     refine AOps.nil ?_
     exact ln hb_11 sb
   ·refine AWp.exit ?_
    refine lx hb_11 fun hx=>?_; cases hx; try dsimp only at h2_10
    cases h2_10; exact sb
  ·rintro L1 h; dsimp only at h ⊢
   refine sg fun K k=>?_
   iterate 3 refine oo ?_
   refine AOps.nil (k _ ?_)
   refine AWp.ret ?_
   cases h; exact rt
end Go.Pv.Tryd

namespace Go.Pv.Tryd
open Go.Proofs Go.Pv
theorem wlW (i1:Int) (v1:Int) (r:Bool) (h:weE i1 v1=some r):PureFn Tryd.prog G 50 [.d (.int .i64 i1),.d (.int .i64 v1)] (.d (.bool r)):=by
 unfold weE at h
 refine pf Tryd.func50 Tryd.ntmps50 ?_
 refine sg fun K k=>?_
 refine oo ?_
 refine AOps.nil (k _ ?_)
 refine sg fun K k=>?_
 iterate 3 refine oo ?_
 refine AOps.nil (k _ ?_)
 refine AWp.ret ?_
 cases h; exact rt
end Go.Pv.Tryd

namespace Go.Pv.Tryd
open Go.Proofs Go.Pv
set_option maxHeartbeats 4000000 in
theorem wgp (n:Nat):∀ (o1:Walker) (m1:(List (Arr3_Int×Bool))) (mark1:Int) (a1:Int) (b1:Int) (r:((List Int)×Bool×(List (Arr3_Int×Bool)))) (h:wbZ n o1 m1 mark1 a1 b1=some r),ObjFn Tryd.prog G 79 [.d (.int .i64 mark1),.d (.int .u32 a1),.d (.int .u32 b1),.ptr 0 0 0,.ptr 1 0 0,.ptr 2 0 0,.ptr 3 0 0] [(0,⟨72,3,[.d (.agg [(.int .i64 o1.k),(.imm 2 (wab Rule.pd o1.s)),(.imm 2 (wab Rule.pd o1.t))])]⟩),(1,⟨74,1,[.d (.fn (.func 50))]⟩),(2,⟨117,1,[.mp 4]⟩),(3,⟨118,1,[.func (.func 79) [.ptr 0 0 0,.ptr 1 0 0,.ptr 2 0 0,.ptr 3 0 0]]⟩),(4,⟨117,0,waq Arr3_Int.pd PD.bool m1⟩)] (.tuple [.d (.imm 1 (wab (PD.int .i64) r.1)),.d (.bool r.2.1)]) [(0,⟨72,3,[.d (.agg [(.int .i64 o1.k),(.imm 2 (wab Rule.pd o1.s)),(.imm 2 (wab Rule.pd o1.t))])]⟩),(1,⟨74,1,[.d (.fn (.func 50))]⟩),(2,⟨117,1,[.mp 4]⟩),(3,⟨118,1,[.func (.func 79) [.ptr 0 0 0,.ptr 1 0 0,.ptr 2 0 0,.ptr 3 0 0]]⟩),(4,⟨117,0,waq Arr3_Int.pd PD.bool r.2.2⟩)]:=by
 induction n with
 | zero=>intro o1 m1 mark1 a1 b1 r h; cases h
 | succ n ih =>
  intro o1 m1 mark1 a1 b1 r h
  replace h:wbR (wbZ n) o1 m1 mark1 a1 b1=some r:=h
  unfold wbR at h
  refine ObjFn.pf Tryd.func79 Tryd.ntmps79 ?_
  refine sg fun K k=>?_
  iterate 2 refine oo ?_
  refine AOps.nil (k _ ?_)
  refine AWp.seq fun _ K_1=>?_
  refine sg fun K k=>?_
  iterate 4 refine oo ?_
  refine AOps.nil (k _ ?_)
  refine cd h (fun h=>?_) (fun h=>?_)
  ·refine sd mo fun K k=>?_
   iterate 2 refine dd ?_
   obtain⟨r1,hx_3,h⟩:=bind_some h
   refine dcl (wdL a1 _ hx_3) ?_
   refine dd ?_
   obtain⟨r2,hx_4,h⟩:=bind_some h
   refine dcl (wdL b1 _ hx_4) ?_
   refine DOps.stop (by kernel_rfl) ?_
   obtain⟨r3,hx_5,h⟩:=bind_some h
   refine clV (wlW r1 r2 _ hx_5) ?_
   iterate 2 refine oo ?_
   refine AOps.nil (k _ ?_)
   refine AWp.sub (τ:=⟨[(10,.d (.imm 1 (wab (PD.int .i64) []))),(11,.d (.bool r3))],[(0,⟨72,3,[.d (.agg [(.int .i64 o1.k),(.imm 2 (wab Rule.pd o1.s)),(.imm 2 (wab Rule.pd o1.t))])]⟩),(1,⟨74,1,[.d (.fn (.func 50))]⟩),(2,⟨117,1,[.mp 4]⟩),(3,⟨118,1,[.func (.func 79) [.ptr 0 0 0,.ptr 1 0 0,.ptr 2 0 0,.ptr 3 0 0]]⟩),(4,⟨117,0,waq Arr3_Int.pd PD.bool m1⟩)],[],none⟩) sc ?_
   refine AWp.ret ?_
   cases h; exact rtO
  ·refine AWp.skip ?_
   refine K_1 _ ?_
   refine sg fun K k=>?_
   iterate 8 refine oo ?_
   refine AOps.nil (k _ ?_)
   refine AWp.seq fun _ K_6=>?_
   refine sg fun K k=>?_
   iterate 2 refine oo ?_
   refine oml (k:=(⟨mark1,(IntKind.i64.wrap a1),(IntKind.i64.wrap b1)⟩:Arr3_Int)) (L:=m1) (v0:=false) (encV:=PD.bool) wlL wte ty4 MZ4 (fun _ _=>.bool _) ?_
   refine AOps.nil (k _ ?_)
   refine cd h (fun h=>?_) (fun h=>?_)
   ·refine sg fun K k=>?_
    iterate 2 refine oo ?_
    refine AOps.nil (k _ ?_)
    refine AWp.sub (τ:=⟨[(10,.d (.imm 1 (wab (PD.int .i64) []))),(11,.d (.bool false))],[(0,⟨72,3,[.d (.agg [(.int .i64 o1.k),(.imm 2 (wab Rule.pd o1.s)),(.imm 2 (wab Rule.pd o1.t))])]⟩),(1,⟨74,1,[.d (.fn (.func 50))]⟩),(2,⟨117,1,[.mp 4]⟩),(3,⟨118,1,[.func (.func 79) [.ptr 0 0 0,.ptr 1 0 0,.ptr 2 0 0,.ptr 3 0 0]]⟩),(4,⟨117,0,waq Arr3_Int.pd PD.bool m1⟩)],[],none⟩) sc ?_
    refine AWp.ret ?_
    cases h; exact rtO
   ·refine AWp.skip ?_
    refine K_6 _ ?_
    refine sg fun K k=>?_
    refine oo ?_
    refine AOps.nil (k _ ?_)
    refine jm (ι:=(List (Arr3_Int×Bool))) [5,12] [0,1,3,1000] (fun i t=>t) (fun i t=>(2,⟨117,1,[.mp 4]⟩)::(4,⟨117,0,waq Arr3_Int.pd PD.bool i⟩)::t) .inl h ?_ ?_
    ·intro _ hj_9 h
     refine sg fun K k=>?_
     iterate 5 refine oo ?_
     refine ol ?_
     obtain⟨r4,hx_10,hj_9⟩:=bind_some hj_9
     refine cl (wga mark1 [o1.s,o1.t] _ hx_10) ?_
     iterate 2 refine oo ?_
     refine AOps.nil (k _ ?_)
     refine AWp.block ?_
     obtain⟨x_15,hl_12,h2_13⟩:=bind_some hj_9
     refine lp (S:=(Int×Int×(List (Arr3_Int×Bool)))) [0,1,2,3,5,6,12,43,44] [0,1,3,1000] (fun i t=>(13,.d (.int .i64 i.1))::(45,.d (.int .i64 i.2.1))::t) (fun i t=>(2,⟨117,1,[.mp 4]⟩)::(4,⟨117,0,waq Arr3_Int.pd PD.bool i.2.2⟩)::t) hl_12 ?_ ?_; exact sb; clear hl_12
     rintro⟨from1,v1,M2⟩ _ hb_14; unfold wcc at hb_14; try dsimp only at hb_14
     try dsimp only
     refine sg fun K k=>?_
     refine oo ?_
     refine AOps.nil (k _ ?_)
     refine AWp.seq fun _ K_17=>?_
     refine cd hb_14 (fun hb_14=>?_) (fun hb_14=>?_)
     ·refine AWp.skip ?_
      refine K_17 _ ?_
      refine AWp.seq fun _ K_19=>?_
      refine AWp.block ?_
      refine sg fun K k=>?_
      obtain⟨e1,⟨f_20,f_21,f_22,f_23⟩,hb_14⟩:=waj hb_14
      refine oo ?_
      refine oo ?_ (by intro K k; simp(disch:=omega) only[go_sem,f_22,↓reduceIte]; exact k)
      refine oo ?_
      refine AOps.nil (k _ ?_)
      refine AWp.seq fun _ K_24=>?_
      refine sd mo fun K k=>?_
      iterate 8 refine dd ?_
      obtain⟨r5,hx_25,hb_14⟩:=bind_some hb_14
      refine dcl (we0 o1.s mark1 from1 _ hx_25) ?_
      iterate 6 refine dd ?_
      obtain⟨r6,hx_26,hb_14⟩:=bind_some hb_14
      refine dcl (we0 o1.t mark1 from1 _ hx_26) ?_
      refine dd ?_
      refine DOps.bar (by kernel_rfl) ?_
      refine BOps.hard (by kernel_rfl) ?_
      obtain⟨r7,hx_27,hb_14⟩:=bind_some hb_14
      refine clU [(0,0),(1,1),(2,2),(3,3),(4,4)] [] (ih o1 M2 (IntKind.i64.wrap (mark1+1)) (IntKind.u32.wrap ↑(BitVec.ofInt IntKind.u32.bits a1 &&& BitVec.ofInt IntKind.u32.bits r5).toNat) (IntKind.u32.wrap ↑(BitVec.ofInt IntKind.u32.bits b1 &&& BitVec.ofInt IntKind.u32.bits r6).toNat) _ hx_27) ?_
      refine AOps.nil ?_
      refine BOps.draw [] trivial (Nat.le_of_ble_eq_true rfl) ?_
      iterate 5 refine dd ?_
      refine DOps.nil (by kernel_rfl) (k _ ?_)
      refine sg fun K k=>?_
      refine oo ?_
      refine AOps.nil (k _ ?_)
      refine cd hb_14 (fun hb_14=>?_) (fun hb_14=>?_)
      ·refine sg fun K k=>?_
       obtain⟨hg_29,hb_14⟩:=wae hb_14
       iterate 6 refine oo ?_
       refine AOps.nil (k _ ?_)
       refine AWp.sub (τ:=⟨[(10,.d (.imm 1 (wab (PD.int .i64) ([from1]++r7.1)))),(11,.d (.bool true))],[(0,⟨72,3,[.d (.agg [(.int .i64 o1.k),(.imm 2 (wab Rule.pd o1.s)),(.imm 2 (wab Rule.pd o1.t))])]⟩),(1,⟨74,1,[.d (.fn (.func 50))]⟩),(2,⟨117,1,[.mp 4]⟩),(3,⟨118,1,[.func (.func 79) [.ptr 0 0 0,.ptr 1 0 0,.ptr 2 0 0,.ptr 3 0 0]]⟩),(4,⟨117,0,waq Arr3_Int.pd PD.bool r7.2.2⟩)],[],none⟩) sc ?_
       refine AWp.ret ?_
       refine lx hb_14 fun hx=>?_; cases hx; try dsimp only at h2_13
       cases h2_13; try dsimp only at h
       cases h; exact rtO
      ·refine AWp.skip ?_
       refine K_24 _ ?_
       refine AWp.reg ?_
       iterate 2 refine oo ?_
       refine AOps.nil ?_
       refine K_19 _ ?_
       refine AWp.reg ?_
       iterate 2 refine oo ?_
       refine AOps.nil ?_
       exact ln hb_14 sb
     ·refine AWp.exit ?_
      refine lx hb_14 fun hx=>?_; cases hx; try dsimp only at h2_13
      exact ln h2_13 sb
    ·rintro M1 h; dsimp only at h ⊢
     refine sg fun K k=>?_
     iterate 2 refine oo ?_
     refine oms (k:=(⟨mark1,(IntKind.i64.wrap a1),(IntKind.i64.wrap b1)⟩:Arr3_Int)) (L:=M1) (v:=true) (encV:=PD.bool) wlL wte ?_
     refine AOps.nil (k _ ?_)
     refine sg fun K k=>?_
     iterate 2 refine oo ?_
     refine AOps.nil (k _ ?_)
     refine AWp.sub (τ:=⟨[(10,.d (.imm 1 (wab (PD.int .i64) []))),(11,.d (.bool false))],[(0,⟨72,3,[.d (.agg [(.int .i64 o1.k),(.imm 2 (wab Rule.pd o1.s)),(.imm 2 (wab Rule.pd o1.t))])]⟩),(1,⟨74,1,[.d (.fn (.func 50))]⟩),(2,⟨117,1,[.mp 4]⟩),(3,⟨118,1,[.func (.func 79) [.ptr 0 0 0,.ptr 1 0 0,.ptr 2 0 0,.ptr 3 0 0]]⟩),(4,⟨117,0,waq Arr3_Int.pd PD.bool (wc5 (⟨mark1,(IntKind.i64.wrap a1),(IntKind.i64.wrap b1)⟩:Arr3_Int) true M1)⟩)],[],none⟩) sc ?_
     refine AWp.ret ?_
     cases h; exact rtO
end Go.Pv.Tryd

namespace Go.Pv.Tryd
open Go.Proofs Go.Pv
theorem whD (w1:Walker) (r:((List Int)×Bool)) (h:wcy w1=some r):PureFn Tryd.prog G 49 [.d (.agg [(.int .i64 w1.k),(.imm 2 (wab Rule.pd w1.s)),(.imm 2 (wab Rule.pd w1.t))]),.d (.fn (.func 50))] (.tuple [.d (.imm 1 (wab (PD.int .i64) r.1)),.d (.bool r.2)]):=by
 unfold wcy at h
 refine pf Tryd.func49 Tryd.ntmps49 ?_
 refine sg fun K k=>?_
 iterate 4 refine oo ?_
 refine AOps.nil (k _ ?_)
 refine sg fun K k=>?_
 refine omk (α:=Arr3_Int) (β:=Bool) Arr3_Int.pd PD.bool 1002 ?_
 iterate 2 refine oo ?_
 refine AOps.nil (k _ ?_)
 refine sg fun K k=>?_
 refine oo ?_
 refine AOps.nil (k _ ?_)
 refine sg fun K k=>?_
 iterate 2 refine oo ?_
 refine AOps.nil (k _ ?_)
 refine sd mo fun K k=>?_
 iterate 3 refine dd ?_
 obtain⟨r1,hx_1,h⟩:=bind_some h
 refine dcl (wfi w1.s _ hx_1) ?_
 iterate 2 refine dd ?_
 obtain⟨r2,hx_2,h⟩:=bind_some h
 refine dcl (wfi w1.t _ hx_2) ?_
 refine DOps.bar (by kernel_rfl) ?_
 refine BOps.hard (by kernel_rfl) ?_
 obtain⟨r3,hx_3,h⟩:=bind_some h
 refine clU [(0,1000),(1,1001),(2,1003),(3,1004),(4,1002)] [] (wgp 100 w1 [] 0 r1 r2 _ hx_3) ?_
 refine AOps.nil ?_
 refine BOps.draw [] trivial (Nat.le_of_ble_eq_true rfl) ?_
 iterate 4 refine dd ?_
 refine DOps.nil (by kernel_rfl) (k _ ?_)
 refine AWp.ret ?_
 cases h; exact rt
end Go.Pv.Tryd

namespace Go.Pv.Tryd
open Go.Proofs Go.Pv
theorem wlX (l1:(List Int)) (ok1:Bool) (r:((List Int)×Int)) (h:weF l1 ok1=some r):PureFn Tryd.prog G 48 [.d (.imm 1 (wab (PD.int .i64) l1)),.d (.bool ok1)] (.tuple [.d (.imm 1 (wab (PD.int .i64) r.1)),.d (.int .i64 r.2)]):=by
 unfold weF at h
 refine pf Tryd.func48 Tryd.ntmps48 ?_
 refine sg fun K k=>?_
 iterate 2 refine oo ?_
 refine AOps.nil (k _ ?_)
 refine AWp.seq fun _ K_1=>?_
 refine sg fun K k=>?_
 iterate 2 refine oo ?_
 refine AOps.nil (k _ ?_)
 refine cd h (fun h=>?_) (fun h=>?_)
 ·refine sg fun K k=>?_
  iterate 2 refine oo ?_
  refine AOps.nil (k _ ?_)
  refine AWp.ret ?_
  cases h; exact rt
 ·refine AWp.skip ?_
  refine K_1 _ ?_
  refine sg fun K k=>?_
  iterate 3 refine oo ?_
  refine AOps.nil (k _ ?_)
  refine AWp.ret ?_
  cases h; exact rt
end Go.Pv.Tryd

namespace Go.Pv.Tryd
open Go.Proofs Go.Pv
theorem wnv (k1:Int) (t1:(List Rule)) (r:((List Int)×Int)) (h:wft k1 t1=some r):PureFn Tryd.prog G 21 [.d (.int .i64 k1),.d (.imm 2 (wab Rule.pd t1))] (.tuple [.d (.imm 1 (wab (PD.int .i64) r.1)),.d (.int .i64 r.2)]):=by
 unfold wft at h
 refine pf Tryd.func21 Tryd.ntmps21 ?_
 refine sg fun K k=>?_
 iterate 2 refine oo ?_
 refine AOps.nil (k _ ?_)
 refine AWp.seq fun _ K_1=>?_
 refine sg fun K k=>?_
 iterate 2 refine oo ?_
 refine ol ?_
 obtain⟨r1,hx_2,h⟩:=bind_some h
 refine cl (wfd k1 [t1] _ hx_2) ?_
 refine oo ?_
 refine AOps.nil (k _ ?_)
 refine sg fun K k=>?_
 iterate 2 refine oo ?_
 refine AOps.nil (k _ ?_)
 refine cd h (fun h=>?_) (fun h=>?_)
 ·refine sg fun K k=>?_
  iterate 3 refine oo ?_
  refine AOps.nil (k _ ?_)
  refine AWp.ret ?_
  cases h; exact rt
 ·refine AWp.skip ?_
  refine K_1 _ ?_
  refine sg fun K k=>?_
  iterate 3 refine oo ?_
  refine AOps.sub (τ:=⟨[(16,.d (.agg [(.int .i64 k1),(.imm 2 (wab Rule.pd t1)),(.imm 2 (wab Rule.pd []))]))],[],[],none⟩) sc ?_
  obtain⟨r2,hx_4,h⟩:=bind_some h
  refine clC (whD (⟨k1,t1,[]⟩:Walker) _ hx_4) ?_
  iterate 2 refine oo ?_
  obtain⟨r3,hx_5,h⟩:=bind_some h
  refine cl (wlX r2.1 r2.2 _ hx_5) ?_
  iterate 4 refine oo ?_
  refine AOps.nil (k _ ?_)
  refine AWp.ret ?_
  cases h; exact rt
end Go.Pv.Tryd

namespace Go.Pv.Tryd
open Go.Proofs Go.Pv
theorem whQ (o1:Builder) (a1:Int) (r:(Int×Builder)) (h:wbI o1 a1=some r):ObjFn Tryd.prog G 88 [.ptr 0 0 0,.d (.int .u32 a1)] [(0,⟨92,5,[.agg [.d (.int .i64 o1.k),.d (.imm 2 (wab Rule.pd o1.rules)),.mp 1,.mp 2,.slc 1003 0 o1.nodes.length]]⟩),(1,⟨89,0,waq Arr3_Int.pd (PD.int .i64) o1.known⟩),(2,⟨90,0,waq PD.str (PD.int .i64) o1.same⟩),(1003,⟨37,3,dl (wab Node.pd o1.nodes)⟩)] (.d (.int .i64 r.1)) [(0,⟨92,5,[.agg [.d (.int .i64 r.2.k),.d (.imm 2 (wab Rule.pd r.2.rules)),.mp 1,.mp 2,.slc 1003 0 r.2.nodes.length]]⟩),(1,⟨89,0,waq Arr3_Int.pd (PD.int .i64) r.2.known⟩),(2,⟨90,0,waq PD.str (PD.int .i64) r.2.same⟩),(1003,⟨37,3,dl (wab Node.pd r.2.nodes)⟩)]:=by
 unfold wbI at h
 refine ObjFn.pf Tryd.func88 Tryd.ntmps88 ?_
 refine sg fun K k=>?_
 refine oo ?_
 refine AOps.nil (k _ ?_)
 refine sg fun K k=>?_
 refine oo ?_
 obtain⟨r1,hx_1,h⟩:=bind_some h
 refine cl (wdL a1 _ hx_1) ?_
 refine oo ?_
 refine AOps.nil (k _ ?_)
 refine AWp.seq fun _ K_2=>?_
 refine sg fun K k=>?_
 iterate 2 refine oo ?_
 refine AOps.nil (k _ ?_)
 refine cd h (fun h=>?_) (fun h=>?_)
 ·refine sg fun K k=>?_
  refine oo ?_
  refine AOps.nil (k _ ?_)
  refine AWp.ret ?_
  cases h; exact rtO
 ·refine AWp.skip ?_
  refine K_2 _ ?_
  refine sg fun K k=>?_
  obtain⟨e1,⟨f_4,f_5,f_6,f_7⟩,h⟩:=waj h
  iterate 7 refine oo ?_
  refine oo ?_ (by intro K k; simp(disch:=omega) only[go_sem,f_6,↓reduceIte]; exact k)
  iterate 2 refine oo ?_
  refine AOps.nil (k _ ?_)
  refine AWp.ret ?_
  cases h; exact rtO
end Go.Pv.Tryd

namespace Go.Pv.Tryd
open Go.Proofs Go.Pv
theorem wls (ends1:(List Int)) (to1:(List Int)) (r:((List Int)×(List Int))) (h:wdd ends1 to1=some r):PureFn Tryd.prog G 89 [.d (.imm 1 (wab (PD.int .i64) ends1)),.d (.imm 1 (wab (PD.int .i64) to1))] (.tuple [.d (.imm 1 (wab (PD.int .i64) r.1)),.d (.imm 1 (wab (PD.int .i64) r.2))]):=by
 unfold wdd at h
 refine pf Tryd.func89 Tryd.ntmps89 ?_
 refine sg fun K k=>?_
 iterate 2 refine oo ?_
 refine AOps.nil (k _ ?_)
 refine sg fun K k=>?_
 iterate 2 refine oo ?_
 refine AOps.nil (k _ ?_)
 refine AWp.sub (Sub.void 6 3 1 1000 (by rfl) (by rfl) (by decide) (by decide)) ?_
 simp only[wdC,wal,reduceCtorEq,↓reduceIte,Nat.reduceAdd,Nat.reduceMul,Nat.reduceLT,Nat.reduceLeDiff,Nat.reduceEqDiff,Nat.reduceBEq,Int.reduceToNat]
 refine AWp.sub (Sub.void 7 3 1 1001 (by rfl) (by rfl) (by decide) (by decide)) ?_
 simp only[wdC,wal,reduceCtorEq,↓reduceIte,Nat.reduceAdd,Nat.reduceMul,Nat.reduceLT,Nat.reduceLeDiff,Nat.reduceEqDiff,Nat.reduceBEq,Int.reduceToNat]
 refine jn (α:=((List Int)×(List Int))) [] [] (fun i t=>(6,.slc 1000 0 i.1.length)::(7,.slc 1001 0 i.2.length)::t) (fun i t=>(1000,⟨3,1,dl (wab (PD.int .i64) i.1)⟩)::(1001,⟨3,1,dl (wab (PD.int .i64) i.2)⟩)::t) h ?_ ?_
 ·intro _ hj_2
  refine sg fun K k=>?_
  iterate 3 refine oo ?_
  refine AOps.nil (k _ ?_)
  refine AWp.block ?_
  obtain⟨x_7,hl_4,h2_5⟩:=bind_some hj_2
  refine lp (S:=(Int×(List Int)×(List Int))) [0,11,12] [] (fun i t=>(6,.slc 1000 0 i.2.1.length)::(7,.slc 1001 0 i.2.2.length)::(13,.d (.int .i64 i.1))::t) (fun i t=>(1000,⟨3,1,dl (wab (PD.int .i64) i.2.1)⟩)::(1001,⟨3,1,dl (wab (PD.int .i64) i.2.2)⟩)::t) hl_4 ?_ ?_; exact sb; clear hl_4
  rintro⟨v1,L3,L4⟩ _ hb_6; unfold wbw at hb_6; try dsimp only at hb_6
  try dsimp only
  refine sg fun K k=>?_
  refine oo ?_
  refine AOps.nil (k _ ?_)
  refine AWp.seq fun _ K_9=>?_
  refine cd hb_6 (fun hb_6=>?_) (fun hb_6=>?_)
  ·refine AWp.skip ?_
   refine K_9 _ ?_
   refine jn (α:=((List Int)×(List Int))) [0,11,12,13] [] (fun i t=>(6,.slc 1000 0 i.1.length)::(7,.slc 1001 0 i.2.length)::t) (fun i t=>(1000,⟨3,1,dl (wab (PD.int .i64) i.1)⟩)::(1001,⟨3,1,dl (wab (PD.int .i64) i.2)⟩)::t) hb_6 ?_ ?_
   ·intro _ hj_12
    refine AWp.block ?_
    refine sg fun K k=>?_
    obtain⟨e1,⟨f_13,f_14,f_15,f_16⟩,hj_12⟩:=waj hj_12
    iterate 2 refine oo ?_
    refine oo ?_ (by intro K k; simp(disch:=omega) only[go_sem,f_15,↓reduceIte]; exact k)
    iterate 2 refine oo ?_
    refine AOps.nil (k _ ?_)
    refine AWp.seq fun _ K_17=>?_
    refine sg fun K k=>?_
    iterate 3 refine oo ?_
    refine AOps.nil (k _ ?_)
    refine sg fun K k=>?_
    iterate 3 refine oo ?_
    obtain⟨b1,hc_18,hj_12⟩:=bind_some hj_12
    refine ct 8 [0,6,7,8,9,10,11,12,13] [1000,1001] (fun  t=>(30,.d (.bool b1))::t) ?_ ?_
    ·rcases bt (decide (0 < (L4.length:Int)))with hg_23 | hg_23
     ·rw[hg_23]
      rw[hg_23,cond_true]at hc_18
      obtain⟨e2,⟨f_19,f_20,f_21,f_22⟩,hc_18⟩:=waj hc_18
      try simp only[Int.toNat_natCast]at f_21 f_22
      iterate 4 refine oo ?_
      refine oo ?_ (by intro K k; simp(disch:=omega) only[go_sem,f_21,Int.toNat_natCast,↓reduceIte]; exact k)
      iterate 3 refine oo ?_
      refine AOps.nil ?_
      cases hc_18
      exact sb
     ·rw[hg_23]
      rw[hg_23,cond_false]at hc_18
      iterate 8 refine oo ?_
      refine AOps.nil ?_
      cases hc_18
      exact sb
    refine AOps.nil (k _ ?_)
    refine cd hj_12 (fun hj_12=>?_) (fun hj_12=>?_)
    ·refine sg fun K k=>?_
     obtain⟨e3,⟨f_25,f_26,f_27,f_28⟩,hj_12⟩:=waj hj_12
     iterate 6 refine oo ?_
     refine oo ?_ (by intro K k; simp(disch:=omega) only[go_sem,f_27,↓reduceIte]; exact k)
     obtain⟨e4,⟨f_29,f_30,f_31,f_32⟩,hj_12⟩:=waj hj_12
     try simp only[Int.toNat_natCast]at f_31 f_32
     refine oo ?_
     refine oo ?_ (by intro K k; simp(disch:=omega) only[go_sem,f_31,Int.toNat_natCast,↓reduceIte]; exact k)
     refine AOps.nil (k _ ?_)
     refine AWp.exit ?_
     cases hj_12; exact sb
    ·refine AWp.skip ?_
     refine K_17 _ ?_
     refine AWp.reg ?_
     obtain⟨e5,⟨f_33,f_34,f_35,f_36⟩,hj_12⟩:=waj hj_12
     iterate 4 refine oo ?_
     refine oo ?_ (by intro K k; simp(disch:=omega) only[go_sem,f_35,↓reduceIte]; exact k)
     refine ol ?_
     obtain⟨hg_37,hj_12⟩:=wae hj_12
     iterate 3 refine oo ?_
     refine ol ?_
     obtain⟨hg_38,hj_12⟩:=wae hj_12
     iterate 3 refine oo ?_
     refine AOps.nil ?_
     cases hj_12; exact sb
   ·rintro⟨L5,L6⟩ hb_6; dsimp only at hb_6 ⊢
    refine AWp.reg ?_
    iterate 2 refine oo ?_
    refine AOps.nil ?_
    exact ln hb_6 sb
  ·refine AWp.exit ?_
   refine lx hb_6 fun hx=>?_; cases hx; try dsimp only at h2_5
   cases h2_5; exact sb
 ·rintro⟨L1,L2⟩ h; dsimp only at h ⊢
  refine sg fun K k=>?_
  iterate 4 refine oo ?_
  refine AOps.nil (k _ ?_)
  refine AWp.ret ?_
  cases h; exact rt
end Go.Pv.Tryd

namespace Go.Proofs
open Go.Shelf
def Tryd.laysM171_ren:Go.Shelf.Ren:=⟨fun | 171=>110 | 243=>117 | 246=>130 | 283=>137 | 284=>138 | 285=>139 | 286=>140 | 129=>128 | 317=>142 | 318=>143 | 319=>144 | 320=>145 | 337=>146 | 338=>147 | n=>n,fun | 3=>3 | 9=>9 | 2=>2 | 4=>4 | 171=>180 | 0=>0 | 53=>170 | 37=>52 | 5=>5 | 173=>182 | 212=>188 | 51=>94 | 20=>20 | 213=>189 | 46=>159 | 232=>190 | 233=>191 | n=>n,fun | 17=>0 | 18=>1 | 19=>2 | n=>n⟩
theorem Tryd.laysM171:Go.Proofs.LaysM.n171 Tryd.prog Tryd.laysM171_ren:={
 mixed:=by kernel_rfl
 f129:=Tryd.func128.trans (congrArg some (by kernel_rfl))
 f171:=Tryd.func110.trans (congrArg some (by kernel_rfl))
 f243:=Tryd.func117.trans (congrArg some (by kernel_rfl))
 f246:=Tryd.func130.trans (congrArg some (by kernel_rfl))
 f283:=Tryd.func137.trans (congrArg some (by kernel_rfl))
 f284:=Tryd.func138.trans (congrArg some (by kernel_rfl))
 f285:=Tryd.func139.trans (congrArg some (by kernel_rfl))
 f286:=Tryd.func140.trans (congrArg some (by kernel_rfl))
 f317:=Tryd.func142.trans (congrArg some (by kernel_rfl))
 f318:=Tryd.func143.trans (congrArg some (by kernel_rfl))
 f319:=Tryd.func144.trans (congrArg some (by kernel_rfl))
 f320:=Tryd.func145.trans (congrArg some (by kernel_rfl))
 f337:=Tryd.func146.trans (congrArg some (by kernel_rfl))
 f338:=Tryd.func147.trans (congrArg some (by kernel_rfl))
 t0:=Tryd.underlying0
 a0:=Tryd.isAgg0
 z0:=Tryd.sizeOf0
 v0:=Tryd.zeroValue0
 t2:=Tryd.underlying2
 a2:=Tryd.isAgg2
 z2:=Tryd.sizeOf2
 v2:=Tryd.zeroValue2
 t3:=Tryd.underlying3
 a3:=Tryd.isAgg3
 z3:=Tryd.sizeOf3
 v3:=Tryd.zeroValue3
 t4:=Tryd.underlying4
 a4:=Tryd.isAgg4
 z4:=Tryd.sizeOf4
 v4:=Tryd.zeroValue4
 t5:=Tryd.underlying5
 a5:=Tryd.isAgg5
 z5:=Tryd.sizeOf5
 v5:=Tryd.zeroValue5
 t9:=Tryd.underlying9
 a9:=Tryd.isAgg9
 z9:=Tryd.sizeOf9
 v9:=Tryd.zeroValue9
 t20:=Tryd.underlying20
 a20:=Tryd.isAgg20
 z20:=Tryd.sizeOf20
 v20:=Tryd.zeroValue20
 t37:=Tryd.underlying52
 a37:=Tryd.isAgg52
 z37:=Tryd.sizeOf52
 v37:=Tryd.zeroValue52
 t46:=Tryd.underlying159
 a46:=Tryd.isAgg159
 z46:=Tryd.sizeOf159
 v46:=Tryd.zeroValue159
 t51:=Tryd.underlying94
 a51:=Tryd.isAgg94
 z51:=Tryd.sizeOf94
 v51:=Tryd.zeroValue94
 t53:=Tryd.underlying170
 a53:=Tryd.isAgg170
 z53:=Tryd.sizeOf170
 v53:=Tryd.zeroValue170
 t171:=Tryd.underlying180
 a171:=Tryd.isAgg180
 z171:=Tryd.sizeOf180
 v171:=Tryd.zeroValue180
 t173:=Tryd.underlying182
 a173:=Tryd.isAgg182
 z173:=Tryd.sizeOf182
 v173:=Tryd.zeroValue182
 t212:=Tryd.underlying188
 a212:=Tryd.isAgg188
 z212:=Tryd.sizeOf188
 v212:=Tryd.zeroValue188
 t213:=Tryd.underlying189
 a213:=Tryd.isAgg189
 z213:=Tryd.sizeOf189
 t232:=Tryd.underlying190
 a232:=Tryd.isAgg190
 z232:=Tryd.sizeOf190
 v232:=Tryd.zeroValue190
 t233:=Tryd.underlying191
 a233:=Tryd.isAgg191
 z233:=Tryd.sizeOf191
 v233:=Tryd.zeroValue191
 g17:=by kernel_rfl
 g18:=by kernel_rfl
 g19:=by kernel_rfl
 i0:=by kernel_rfl
 i2:=by kernel_rfl
 i3:=by kernel_rfl
 i4:=by kernel_rfl
 i5:=by kernel_rfl
 i9:=by kernel_rfl
 i20:=by kernel_rfl
 i37:=by kernel_rfl
 i46:=by kernel_rfl
 i51:=by kernel_rfl
 i53:=by kernel_rfl
 i171:=by kernel_rfl
 i173:=by kernel_rfl
 i212:=by kernel_rfl
 i232:=by kernel_rfl
 i233:=by kernel_rfl
 m17:=by kernel_rfl
 m18:=by kernel_rfl
 m19:=by kernel_rfl }
open Go.RowKit Go.Sort Go.Lib in
theorem Tryd.strconv_Itoa (n : Int) (h0 : -9223372036854775808 ≤ n) (h1 : n ≤ 9223372036854775807) (w : World) (htab : Lib.TabIs Tryd.prog w "internal/strconv.uint64pow10" .u64 Lib.pow10Tab) :
  Calls Tryd.prog 110 #[.int .i64 n] w fun e w'=>e=.returned (.string ⟨(Lib.itoa n).toArray⟩)/\∃ k os,w'=grow (w.drewN k) os:=Any.strconv_Itoa Tryd.laysM171 n h0 h1 w htab
end Go.Proofs

namespace Go.Pv.Tryd
open Go.Proofs Go.Pv
theorem wpZ (w:World) (v:Value):(callFunc 129 #[v]).run Tryd.prog w=.ok (.value v) w:=by
 rw[run_callFunc_extern Tryd.func129 (by kernel_rfl) (by kernel_rfl) (by kernel_rfl) (e:=Extern.AbiNoEscape.same) (by kernel_rfl)]
 rfl
theorem wqV:∃ j,Tryd.prog.info? 148=some j/\j.size=2:=by
 have h:(Tryd.prog.info? 148).map (·.size)=some 2:=by kernel_rfl
 simpa [Option.map_eq_some_iff]using h
theorem wrq (L:List Int):ObjFn Tryd.prog G 116 [.ptr 0 0 0] [(0,⟨148,2,[.agg [.d .nilptr,.slc 1 0 L.length]]⟩),(1,⟨5,1,dl (wab (PD.int .u8) L)⟩)] (.tuple []) [(0,⟨148,2,[.agg [.ptr 0 0 0,.slc 1 0 L.length]]⟩),(1,⟨5,1,dl (wab (PD.int .u8) L)⟩)]:=by
 obtain⟨j,hj,hjs⟩:=wqV
 refine ObjFn.pf Tryd.func116 Tryd.ntmps116 ?_
 refine AWp.seq fun _ K_1=>?_
 refine AWp.reg ?_
 iterate 5 refine oo ?_
 refine AOps.nil ?_
 refine K_1 _ ?_
 refine cdt ?_
 refine AWp.reg ?_
 iterate 2 refine oo ?_
 refine on (fun K' hK'=>OpT.toUnsafe (t:=148) (r:=0) rfl (by kernel_rfl) (by kernel_rfl) hj (by omega) (by rfl) (by rfl) (by exact Nat.one_pos) (by decide) (hK' _ ?_))
 refine on (fun K' hK'=>OpT.noEscape rfl rfl rfl wpZ (by decide) (hK' _ ?_))
 refine on (fun K' hK'=>OpT.fromUnsafe (u:=148) (r:=0) rfl (by kernel_rfl) (by kernel_rfl) hj (by rfl) (by rfl) (by exact Nat.one_pos) rfl (by kernel_rfl) (by decide) (hK' _ ?_))
 iterate 3 refine oo ?_
 refine AOps.nil ?_
 exact rtO
theorem wrr (L:List Int):ObjFn Tryd.prog G 116 [.ptr 0 0 0] [(0,⟨148,2,[.agg [.ptr 0 0 0,.slc 1 0 L.length]]⟩),(1,⟨5,1,dl (wab (PD.int .u8) L)⟩)] (.tuple []) [(0,⟨148,2,[.agg [.ptr 0 0 0,.slc 1 0 L.length]]⟩),(1,⟨5,1,dl (wab (PD.int .u8) L)⟩)]:=by
 obtain⟨j,hj,hjs⟩:=wqV
 refine ObjFn.pf Tryd.func116 Tryd.ntmps116 ?_
 refine AWp.seq fun _ K_1=>?_
 refine AWp.reg ?_
 iterate 5 refine oo ?_
 refine AOps.nil ?_
 refine K_1 _ ?_
 refine cdf ?_
 refine AWp.seq fun _ K_2=>?_
 refine AWp.reg ?_
 iterate 5 refine oo ?_
 refine on (fun K' hK'=>OpT.neqSame (te:=148) (r:=0) (i:=0) (off:=0) rfl (by kernel_rfl) hj (by rfl) (by rfl) (by decide) (hK' _ ?_))
 refine AOps.nil ?_
 refine K_2 _ ?_
 refine cdf ?_
 refine AWp.skip ?_
 exact rtO
theorem woD (b:Bool) (L:List Int):ObjFn Tryd.prog G 116 [.ptr 0 0 0] [(0,⟨148,2,[.agg [wdk b 0,.slc 1 0 L.length]]⟩),(1,⟨5,1,dl (wab (PD.int .u8) L)⟩)] (.tuple []) [(0,⟨148,2,[.agg [.ptr 0 0 0,.slc 1 0 L.length]]⟩),(1,⟨5,1,dl (wab (PD.int .u8) L)⟩)]:=by
 cases b
 ·exact wrq L
 ·exact wrr L
theorem wr9 (o:StringsBuilder) (s:ByteArray) (r:StringsBuilder) (h:wla o s=some r):ObjFn Tryd.prog G 109 [.ptr 0 0 0,.d (.str s)] [(0,⟨148,2,[.agg [wdk o.addr 0,.slc 1001 0 o.buf.length]]⟩),(1001,⟨5,1,dl (wab (PD.int .u8) o.buf)⟩)]
  (.tuple [.d (.int .i64 s.size),.d .niliface]) [(0,⟨148,2,[.agg [.ptr 0 0 0,.slc 1001 0 r.buf.length]]⟩),(1001,⟨5,1,dl (wab (PD.int .u8) r.buf)⟩)]:=by
 unfold wla at h
 obtain⟨hg,h⟩:=wae h
 refine ObjFn.pf Tryd.func109 Tryd.ntmps109 ?_
 refine sg fun K k=>?_
 iterate 2 refine oo ?_
 refine AOps.nil (k _ ?_)
 refine sg fun K k=>?_
 refine oo ?_
 refine clU [(0,0),(1,1001)] [] (woD o.addr o.buf) ?_
 refine AOps.nil (k _ ?_)
 refine sg fun K k=>?_
 iterate 6 refine oo ?_
 refine on (fun K' hK'=>OpT.appendStr (r:=1001) (str:=s) (row:=⟨5,1,dl (wab (PD.int .u8) o.buf)⟩) rfl ty52 T52_desc (by kernel_rfl) ty5 (by kernel_rfl) (by kernel_rfl) (by kernel_rfl) (by rfl) (by rfl) (by simp only[go_sem]) rfl rfl (by decide) (by rfl) (by omega) (by decide) (hK' _ ?_))
 simp only[go_sem,↓reduceIte]
 iterate 3 refine oo ?_
 refine AOps.nil (k _ ?_)
 refine sg fun K k=>?_
 iterate 4 refine oo ?_
 refine AOps.nil (k _ ?_)
 refine AWp.ret ?_
 cases h
 have e1:(o.buf++wbf s).length=o.buf.length+s.size:=by rw[List.length_append,wdN]
 dsimp only
 rw[e1]
 exact rtO
theorem woU (o:StringsBuilder) (c:Int) (r:StringsBuilder) (h:wgA o c=some r):ObjFn Tryd.prog G 111 [.ptr 0 0 0,.d (.int .u8 c)] [(0,⟨148,2,[.agg [wdk o.addr 0,.slc 1001 0 o.buf.length]]⟩),(1001,⟨5,1,dl (wab (PD.int .u8) o.buf)⟩)]
  (.d .niliface) [(0,⟨148,2,[.agg [.ptr 0 0 0,.slc 1001 0 r.buf.length]]⟩),(1001,⟨5,1,dl (wab (PD.int .u8) r.buf)⟩)]:=by
 unfold wgA at h
 obtain⟨hg,h⟩:=wae h
 refine ObjFn.pf Tryd.func111 Tryd.ntmps111 ?_
 refine sg fun K k=>?_
 iterate 1 refine oo ?_
 refine AOps.nil (k _ ?_)
 refine sg fun K k=>?_
 refine oo ?_
 refine clU [(0,0),(1,1001)] [] (woD o.addr o.buf) ?_
 refine AOps.nil (k _ ?_)
 refine sg fun K k=>?_
 iterate 6 refine oo ?_
 refine ol ?_
 iterate 4 refine oo ?_
 refine AOps.nil (k _ ?_)
 refine sg fun K k=>?_
 iterate 1 refine oo ?_
 refine AOps.nil (k _ ?_)
 refine AWp.ret ?_
 cases h
 exact rtO
theorem wrs (o:StringsBuilder) (r:ByteArray) (h:wfA o=some r) (q:PV) (hq:clean q) (hq2:refsIn [(0,(⟨148,2,[.agg [q,.slc 1 0 o.buf.length]]⟩:Row)),(1,(⟨5,1,dl (wab (PD.int .u8) o.buf)⟩:Row))] q):ObjFn Tryd.prog G 112 [.ptr 0 0 0] [(0,⟨148,2,[.agg [q,.slc 1 0 o.buf.length]]⟩),(1,⟨5,1,dl (wab (PD.int .u8) o.buf)⟩)]
  (.d (.str r)) [(0,⟨148,2,[.agg [q,.slc 1 0 o.buf.length]]⟩),(1,⟨5,1,dl (wab (PD.int .u8) o.buf)⟩)]:=by
 unfold wfA at h
 obtain⟨⟨hg,hg2⟩,h⟩:=wae h
 cases h
 have hl0:o.buf.length≠0:=by simpa using hg2
 refine ObjFn.pf Tryd.func112 Tryd.ntmps112 (hrh:=⟨⟨⟨hq2,⟨rfl,trivial⟩⟩,trivial⟩,wfq _ _,trivial⟩) ?_
 refine sg fun K k=>?_
 refine oo ?_
 refine AOps.nil (k _ ?_)
 refine sd mo fun K k=>?_
 iterate 4 refine dd ?_
 refine dap rfl (by intro K k; refine OpX.sliceData (r:=1) (n:=o.buf.length) rfl rfl rfl (by rfl) hl0 (by decide) (by rw[wlz]; trivial) ?_; exact k) ?_
 simp only[go_sem,↓reduceIte]
 iterate 5 refine dd ?_
 refine dap rfl (by intro K k; refine OpX.mkStr (r:=1) (s:=ofI o.buf) rfl rfl rfl rfl (by kernel_rfl) (by kernel_rfl) (by rfl) (by rw[wps]; rfl) (by rw[wrh hg]; rfl) (by rw[wps]; exact hl0) (by decide) (by rw[wlz]; trivial) ?_; exact k) ?_
 simp only[go_sem,↓reduceIte]
 refine dd ?_
 refine DOps.nil (by kernel_rfl) (k _ ?_)
 refine AWp.ret ?_
 exact rtO
theorem wmf (o:StringsBuilder) (r:ByteArray) (h:wfA o=some r):ObjFn Tryd.prog G 112 [.ptr 0 0 0] [(0,⟨148,2,[.agg [wdk o.addr 0,.slc 1 0 o.buf.length]]⟩),(1,⟨5,1,dl (wab (PD.int .u8) o.buf)⟩)]
  (.d (.str r)) [(0,⟨148,2,[.agg [wdk o.addr 0,.slc 1 0 o.buf.length]]⟩),(1,⟨5,1,dl (wab (PD.int .u8) o.buf)⟩)] :=
 wrs o r h _ (by rw[optP_clean]; trivial) (by rw[optP_refs rfl]; trivial)
theorem wtX {B : Base Tryd.prog} {w : World} {φ : Nm} {H : wac} {g : Gh} (hs : Sit G B w φ H g) : Lib.TabIs Tryd.prog w "internal/strconv.uint64pow10" .u64 Lib.pow10Tab := by
 obtain⟨c,e,f,v,h1,h2,h3,h4,h5,h6⟩:=hs.glob wpt (.agg (Lib.pow10Tab.map (PD.int .u64))) (by simp[G])
 have hg : Tryd.prog.globalNamed "internal/strconv.uint64pow10" = some wpt := by kernel_rfl
 unfold Lib.TabIs World.var?
 rw[hg,Option.bind_some,h1]
 simp only[Option.some.injEq]
 cases h3 with
 | @agg vs _ hsz h hf =>
  have hl:vs.size=Lib.pow10Tab.length:=by simpa using hsz
  have e0:(Value.agg vs).cells=vs:=rfl
  rw[e0]at h4 h5
  refine Array.ext (by simp; omega) fun j hj1 hj2=>?_
  have hj:j < Lib.pow10Tab.length:=by omega
  have hj':j < vs.size:=by omega
  have a1:=h j (by simpa using hj)
  simp only[List.getElem_map]at a1
  have a2:=wjy a1
  have a3:=(h5 j hj').1
  rw[a2,Array.getElem?_eq_getElem hj1]at a3
  simp only[Option.some.injEq]at a3
  rw[a3]; simp
theorem wtE (n:Int) (r:ByteArray) (h:wlK n=some r):PureFn Tryd.prog G 110 [.d (.int .i64 n)] (.d (.str r)):=by
 unfold wlK at h
 obtain⟨⟨hg1,hg2⟩,h⟩:=wae h
 cases h
 intro B φ vs h0 h1 h2 h3
 obtain⟨v,rfl⟩:∃ v,vs=[v]:=by
  match vs,h1 with
  | [v],_=>exact⟨v,rfl⟩
 have hv:RepV B.w0 B.X φ [] v (.d (.int .i64 n)):=h2 0 (by simp)
 obtain rfl:=wcv hv
 have hc:=Tryd.strconv_Itoa n hg1 hg2 B.w0 (wtX h3)
 refine(callsIn_wide.2 hc).mono ?_
 rintro e w' ⟨rfl,k,os,rfl⟩
 refine⟨_,_,[],none,φ,rfl,⟨rfl,rfl⟩,.d (.str _),?_⟩
 exact Sit.more h0 h3 (by simp[Sort.grow]) (fun b hb=>wok (B.w0.drewN k) os hb) rfl rfl rfl
end Go.Pv.Tryd

