/- Calls that change the caller's boxed variables and owned slices. -/
import Derived.Test.YteopobecmacgdaaGreatDoorMM4
import Derived.StillTail
import Derived.Laws.IdiomRangeMap
import Derived.Lib.SliceRun
import Derived.OrdersHeld
set_option linter.unusedSectionVars false
set_option linter.unusedVariables false
set_option linter.unusedSimpArgs false
namespace Go.Ev
open Go Go.RowKit
variable [bV]
variable {cx:bx} {m:Nat->Value} {st st':af} {T:Array Value} {w w':World} {E:Env} {Q:cB} {ops:Array Oper} {l:List Oper}
variable [ah cx]
def sf(ρ:List (Nat×Nat)):List Nat->Option (List Nat)
 |[]=>some []
 |b::bs=>match look ρ b,sf ρ bs with
  |some o,some q=>some (o::q)
  |_,_=>none
def jt(ρ:List (Nat×Nat)):List bQ->Option (List bQ)
 |[]=>some []
 |.v u::l=>match jt ρ l with
  |some o=>some (.v u::o)
  |none=>none
 |.r b::l=>match look ρ b,jt ρ l with
  |some q,some o=>some (.r q::o)
  |_,_=>none
 |.a::l=>match jt ρ l with
  |some o=>some (.a::o)
  |none=>none
def ao.bS(ρ:List (Nat×Nat)):ao->ao
 |.ptr b off=>match look ρ b with
  |some o=>.ptr o off
  |none=>.any
 |.eI b=>match look ρ b with
  |some o=>.eI o
  |none=>.any
 |.row b=>match look ρ b with
  |some o=>.row o
  |none=>.any
 |.dA b i off q=>match look ρ b with
  |some o=>.dA o i off q
  |none=>.any
 |.iter b=>match look ρ b with
  |some o=>.iter o
  |none=>.any
 |.osl b=>match look ρ b with
  |some o=>.osl o
  |none=>.any
 |.ff b i=>match look ρ b with
  |some o=>.ff o i
  |none=>.any
 |.sub b i=>match look ρ b with
  |some o=>.sub o i
  |none=>.any
 |.dy b i off q=>match look ρ b with
  |some o=>.dy o i off q
  |none=>.any
 |.eH b i j off q=>match look ρ b with
  |some o=>.eH o i j off q
  |none=>.any
 |.dm b p=>match look ρ b with
  |some o=>.dm o p
  |none=>.any
 |.clos f bs=>match sf ρ bs with
  |some O=>.clos f O
  |none=>.any
 |.bW f b=>match look ρ b with
  |some o=>.bW f o
  |none=>.any
 |.ep l=>match jt ρ l with
  |some L=>.ep L
  |none=>.any
 |.fr l=>match jt ρ l with
  |some L=>.fr L
  |none=>.any
 |s=>s
def dF(ρ:List (Nat×Nat))(ad:List (Nat×bM)):List (Nat×Nat)->List (Nat×bM)
 |[]=>[]
 |(i,j)::l=>match look ad i with
  |some c=>(j,c.map (ao.bS ρ))::dF ρ ad l
  |none=>dF ρ ad l
def dQ(rw:List (Nat×cp)):List (Nat×Nat)->List (Nat×cp)
 |[]=>[]
 |(i,j)::l=>match look rw i with
  |some c=>(j,c)::dQ rw l
  |none=>dQ rw l
theorem jw{ρ:List (Nat×Nat)}{ad:List (Nat×bM)}:∀{l:List (Nat×Nat)} {j:Nat} {c':bM},(j,c')∈dF ρ ad l->∃i c,(i,j)∈l/\(i,c)∈ad/\c'=c.map (ao.bS ρ)
 |[],_,_,h=>by simp[dF]at h
 |(i,R)::l,j,c',h=>by
  unfold dF at h
  split at h
  ·rename_i c O
   rcases List.mem_cons.1 h with h|h
   ·cases h;exact⟨i,c,List.mem_cons_self,aW O,rfl⟩
   ·obtain⟨o,c2,q,L⟩:=jw h;exact⟨o,c2,List.mem_cons_of_mem _ q,L⟩
  ·obtain⟨o,c2,q,L⟩:=jw h;exact⟨o,c2,List.mem_cons_of_mem _ q,L⟩
theorem jU{rw:List (Nat×cp)}:∀{l:List (Nat×Nat)} {j:Nat} {c:cp},(j,c)∈dQ rw l->∃i,(i,j)∈l/\(i,c)∈rw
 |[],_,_,h=>by simp[dQ]at h
 |(i,R)::l,j,c',h=>by
  unfold dQ at h
  split at h
  ·rename_i c O
   rcases List.mem_cons.1 h with h|h
   ·cases h;exact⟨i,List.mem_cons_self,aW O⟩
   ·obtain⟨o,q,L⟩:=jU h;exact⟨o,List.mem_cons_of_mem _ q,L⟩
  ·obtain⟨o,q,L⟩:=jU h;exact⟨o,List.mem_cons_of_mem _ q,L⟩
def inv(ρ:List (Nat×Nat))(j:Nat):Option Nat:=look (ρ.map fun p=>(p.2,p.1)) j
theorem qp{α:Type}:∀{l:List (Nat×α)} {n:Nat} {v:α},(l.map (·.1)).Nodup->(n,v)∈l->look l n=some v
 |[],_,_,_,h=>by simp at h
 |(k,u)::r,n,v,o,h=>by
  simp only[List.map_cons,List.nodup_cons]at o
  unfold look
  rcases List.mem_cons.1 h with h|h
  ·cases h;simp[Nat.beq_refl]
  ·cases q:Nat.beq k n with
   |true=>
    have e:=Nat.eq_of_beq_eq_true q
    subst e
    exact absurd (List.mem_map.2 ⟨_,h,rfl⟩) o.1
   |false=>exact qp o.2 h
theorem mQ{ρ:List (Nat×Nat)}{i j:Nat}(o:(ρ.map (·.2)).Nodup)(h:(i,j)∈ρ):inv ρ j=some i:=by
 refine qp ?_ (List.mem_map.2 ⟨_,h,rfl⟩)
 simpa[List.map_map,Function.comp_def]using o
theorem H8{ρ:List (Nat×Nat)}{i j:Nat}(h:inv ρ j=some i):(i,j)∈ρ:=by
 obtain⟨p,o,q⟩:=List.mem_map.1 (aW h)
 cases q
 exact o
theorem FP{ρ:List (Nat×Nat)}{m aA:Nat->Value}(q:∀i j,(i,j)∈ρ->aA j=m i):∀{bs o:List Nat},sf ρ bs=some o->o.map aA=bs.map m
 |[],_,h=>by cases h;rfl
 |b::bs,o,h=>by
  unfold sf at h
  split at h
  ·rename_i R U L O
   cases h
   rw[List.map_cons,List.map_cons,q _ _ (aW L),FP q O]
  ·cases h
theorem pL{ρ:List (Nat×Nat)}{M:Nat->Prop}{m aA:Nat->Value}(O:∀i j,(i,j)∈ρ->aA j=m i):∀{vs:List Value} {l q:List bQ},jt ρ l=some q->cM w M m vs l->cM w M aA vs q
 |vs,[],_,h,o=>by cases h;cases vs<;>exact o
 |[],.v _::_,_,_,o=>o.elim
 |[],.r _::_,_,_,o=>o.elim
 |[],.a::_,_,_,o=>o.elim
 |v::vs,.a::l,q,h,o=>by
  unfold jt at h
  split at h
  ·rename_i l2 L;cases h;exact pL (vs:=vs) (l:=l) O L o
  ·cases h
 |v::vs,.v u::l,q,h,o=>by
  unfold jt at h
  split at h
  ·rename_i l2 L;cases h;exact⟨o.1,pL O L o.2⟩
  ·cases h
 |v::vs,.r b::l,q,h,o=>by
  unfold jt at h
  split at h
  ·rename_i U l2 R L;cases h;exact⟨by rw[O _ _ (aW R)];exact o.1,pL O L o.2⟩
  ·cases h
theorem qH{ρ:List (Nat×Nat)}{M:Nat->Prop}{m aA:Nat->Value}(q:∀i j,(i,j)∈ρ->aA j=m i){v:Value}{s:ao}(h:aN w M m v s):aN w M aA v (s.bS ρ):=by
 cases s with
 |any=>trivial
 |undef=>exact h
 |val t x=>exact h
 |dq l=>exact h
 |vptr t x=>exact h
 |ptr b off=>
  simp only[ao.bS]
  split
  ·rename_i O o;obtain⟨g,L,R⟩:=h;exact⟨g,by rw[q _ _ (aW o)];exact L,R⟩
  ·trivial
 |eI b=>
  simp only[ao.bS]
  split
  ·rename_i O o;show _\/v=aA O;rw[q _ _ (aW o)];exact h
  ·trivial
 |row b=>
  simp only[ao.bS]
  split
  ·rename_i O o;show v=aA O;rw[q _ _ (aW o)];exact h
  ·trivial
 |dA b i off W=>
  simp only[ao.bS]
  split
  ·rename_i O o;obtain⟨g,n,cap,L,R⟩:=h;exact⟨g,n,cap,by rw[q _ _ (aW o)];exact L,R⟩
  ·trivial
 |iter b=>
  simp only[ao.bS]
  split
  ·rename_i O o;show v=aA O;rw[q _ _ (aW o)];exact h
  ·trivial
 |osl b=>
  simp only[ao.bS]
  split
  ·rename_i O o;obtain⟨us,L⟩:=h;exact⟨us,by rw[q _ _ (aW o)];exact L⟩
  ·trivial
 |ff b i=>
  simp only[ao.bS]
  split
  ·rename_i O o;obtain⟨g,n,cap,us,L,R⟩:=h;exact⟨g,n,cap,us,by rw[q _ _ (aW o)];exact L,R⟩
  ·trivial
 |sub b i=>
  simp only[ao.bS]
  split
  ·rename_i O o;obtain⟨Y,us,L,R⟩:=h;exact⟨Y,us,by rw[q _ _ (aW o)];exact L,R⟩
  ·trivial
 |dm b p=>
  simp only[ao.bS]
  split
  ·rename_i O o;obtain⟨g,L,R⟩:=h;exact⟨g,by rw[q _ _ (aW o)];exact L,R⟩
  ·trivial
 |clos f bs=>
  simp only[ao.bS]
  split
  ·rename_i la o;show v=_;rw[FP q o];exact h
  ·trivial
 |fr l=>
  simp only[ao.bS]
  split
  ·rename_i Z U;obtain⟨vs,e,V⟩:=h;exact⟨vs,e,pL q U V⟩
  ·trivial
 |ep l=>
  simp only[ao.bS]
  split
  ·rename_i Z U;obtain⟨vs,e,V⟩:=h;exact⟨vs,e,pL q U V⟩
  ·trivial
 |dy b i off W=>
  simp only[ao.bS]
  split
  ·rename_i O o;obtain⟨g,n,cap,us,L,R⟩:=h;exact⟨g,n,cap,us,by rw[q _ _ (aW o)];exact L,R⟩
  ·trivial
 |eH b i j off W=>
  simp only[ao.bS]
  split
  ·rename_i O o;obtain⟨r,us,g,n,cap,L,R⟩:=h;exact⟨r,us,g,n,cap,by rw[q _ _ (aW o)];exact L,R⟩
  ·trivial
 |aj n=>exact h
 |bW f b=>
  simp only[ao.bS]
  split
  ·rename_i O o;show v=_;rw[q _ _ (aW o)];exact h
  ·trivial
def jx:Nat->List ao->List (Nat×ao)
 |_,[]=>[]
 |k,u::us=>(k,u)::jx (k+1) us
theorem F7{M:Nat->Prop}{m:Nat->Value}:∀{vs:List Value} {q:List ao} (k:Nat) {T:Array Value},cg w M m vs q->(∀i v,vs[i]? =some v->T[k+i]? =some v)->
  ∀i aM,(i,aM)∈jx k q->∃v,T[i]? =some v/\aN w M m v aM
 |[],[],k,T,_,_,i,aM,o=>by simp[jx]at o
 |[],_::_,_,_,h,_,_,_,_=>h.elim
 |_::_,[],_,_,h,_,_,_,_=>h.elim
 |v::vs,a::q,k,T,⟨O,R⟩,L,i,aM,o=>by
  rcases List.mem_cons.1 o with o|o
  ·cases o
   exact⟨v,by have:=L 0 v rfl;simpa using this,O⟩
  ·exact F7 (k+1) R (fun j u U=>by have:=L (j+1) u (by simpa using U);rw[<-this];congr 1;omega) i aM o
def hU(st:af)(n:Nat)(ρ:List (Nat×Nat))(o:List ao):Option af:=
 match nodupB (ρ.map (·.1)),nodupB (ρ.map (·.2)),nodupB (af.ids ⟨[],dF ρ st.ad ρ,dQ st.rw ρ⟩),Nat.ble o.length n with
 |true,true,true,true=>some ⟨jx 0 (o.map (ao.bS ρ)),dF ρ st.ad ρ,dQ st.rw ρ⟩
 |_,_,_,_=>none
def sub(cx:bx)(m:Nat->Value)(st:af)(w:World)(n:Nat)(ρ:List (Nat×Nat)):bx:=
 {P:=cx.P,n:=n,w0:=w,X:=fun b=>∃i j,(i,j)∈ρ/\i∈st.ids/\own (m i) b,
  A:=fun b=>ar cx m st.ids b/\¬∃i j,(i,j)∈ρ/\i∈st.ids/\own (m i) b,m0:=fun j=>match inv ρ j with|some i=>m i|none=>undef}
theorem pe{ρ:List (Nat×Nat)}{ab:List (Nat×ao)}{j:Nat}(o:j∈af.ids ⟨ab,dF ρ st.ad ρ,dQ st.rw ρ⟩):∃i,(i,j)∈ρ/\i∈st.ids:=by
 rcases List.mem_append.1 o with o|o
 ·obtain⟨⟨R,c⟩,q,rfl⟩:=List.mem_map.1 o
  obtain⟨i,c',L,O,_⟩:=jw q
  exact⟨i,L,List.mem_append.2 (.inl (List.mem_map.2 ⟨_,O,rfl⟩))⟩
 ·obtain⟨⟨R,c⟩,q,rfl⟩:=List.mem_map.1 o
  obtain⟨i,L,O⟩:=jU q
  exact⟨i,L,List.mem_append.2 (.inr (List.mem_map.2 ⟨_,O,rfl⟩))⟩
theorem rq{α:Type}{l:List (Nat×α)}(o:(l.map (·.1)).Nodup){i:Nat}{a b:α}(L:(i,a)∈l)(O:(i,b)∈l):a=b:=by
 have R:=qp o L
 have q:=qp o O
 rw[R]at q
 exact Option.some.inj q
theorem zj(h:an cx m st T w){n:Nat}{ρ:List (Nat×Nat)}{O:List ao}{lh:af}(W:hU st n ρ O=some lh){vs:List Value}(li:cg w (ar cx m st.ids) m vs O):
  an (sub cx m st w n ρ) (sub cx m st w n ρ).m0 lh (vs.toArray++Array.replicate (n-vs.toArray.size) undef) w:=by
 unfold hU at W
 split at W
 case h_2=>cases W
 rename_i la lb lc lj
 cases W
 have la:=fP la
 have lb:=fP lb
 have lc:=fP lc
 have lj:=Nat.le_of_ble_eq_true lj
 have L:∀i j,(i,j)∈ρ->(sub cx m st w n ρ).m0 j=m i:=by
  intro i j o
  show(match inv ρ j with|some i=>m i|none=>undef)=m i
  rw[mQ lb o]
 have lv:=jW li
 have ld:∀b,b<w.heap.size->ar (sub cx m st w n ρ) (sub cx m st w n ρ).m0 (af.ids ⟨jx 0 (O.map (ao.bS ρ)),dF ρ st.ad ρ,dQ st.rw ρ⟩) b->ar cx m st.ids b:=by
  rintro b _ (lm|⟨j,R,U⟩)
  ·exact lm.1
  ·obtain⟨i,o,q⟩:=pe R
   rw[L i j o]at U
   exact .inr ⟨i,q,U⟩
 have le:∀b,b<w.heap.size->¬ar cx m st.ids b->w.heap[b]? =w.heap[b]? :=fun _ _ _=>rfl
 have lk:∀v s,aN w (ar cx m st.ids) m v s->aN w (ar (sub cx m st w n ρ) (sub cx m st w n ρ).m0 (af.ids ⟨jx 0 (O.map (ao.bS ρ)),dF ρ st.ad ρ,dQ st.rw ρ⟩)) (sub cx m st w n ρ).m0 v (s.bS ρ):=
  fun v s ln=>qH L (eN le ld ln)
 refine{size:=?_,frame:=Frame.refl _ _,outer:=fun b U=>⟨h.xE U.1,U.2⟩,cv:=?_,boxes:=?_,rows:=?_,apart:=?_,keys:=lc,fixed:=fun _ _ _ _ _=>rfl,kept:=fun _ _ _ _ _=>rfl}
 ·show(vs.toArray++Array.replicate (n-vs.toArray.size) undef).size=n
  simp only[Array.size_append,List.size_toArray,Array.size_replicate]
  omega
 ·have lo:cg w (ar (sub cx m st w n ρ) (sub cx m st w n ρ).m0 (af.ids ⟨jx 0 (O.map (ao.bS ρ)),dF ρ st.ad ρ,dQ st.rw ρ⟩)) (sub cx m st w n ρ).m0 vs (O.map (ao.bS ρ)):=pg lk li
  exact F7 0 lo (fun i v q=>by
   rw[Nat.zero_add,Array.getElem?_append_left (by have:=(List.getElem?_eq_some_iff.1 q).1;simpa using this)]
   simpa using q)
 ·intro j c' R
  obtain⟨i,c,o,q,rfl⟩:=jw R
  obtain⟨g,Y,lp,lf⟩:=h.boxes i c q
  have lg:i∈st.ids:=List.mem_append.2 (.inl (List.mem_map.2 ⟨_,q,rfl⟩))
  rw[L i j o]
  refine⟨g,iF.2 Y,fun lw Z=>.inr ⟨i,j,o,lg,Z⟩,ii le ld (gg Y) (fun _ _=>rfl) lk lf⟩
 ·intro j c R
  obtain⟨i,o,q⟩:=jU R
  obtain⟨cells,Y,lp,lf⟩:=h.rows i c q
  have lg:i∈st.ids:=List.mem_append.2 (.inr (List.mem_map.2 ⟨_,q,rfl⟩))
  refine⟨cells,by rw[L i j o];exact Y,fun g V=>.inr ⟨i,j,o,lg,by rw[L i j o]at V;exact V⟩,cP (fun _ _=>cq le ld c.t) lf⟩
 ·intro lx ly lq lr ls g V Z
  obtain⟨i1,ll,lt⟩:=pe lq
  obtain⟨i2,a2,lu⟩:=pe lr
  rw[L _ _ ll]at V
  rw[L _ _ a2]at Z
  refine h.apart i1 i2 lt lu ?_ g V Z
  rintro rfl
  exact ls (rq la ll a2)
def gW(i:Nat)(l:List Nat):Bool:=l.any (Nat.beq i)
theorem sA{i:Nat}{l:List Nat}:gW i l=true↔i∈l:=by
 unfold gW
 rw[List.any_eq_true]
 constructor
 ·rintro⟨x,o,q⟩;rw[Nat.eq_of_beq_eq_true q];exact o
 ·intro L;exact⟨i,L,Nat.beq_refl i⟩
def pt(n:Nat)(o:af)(ρ ρ':List (Nat×Nat))(i:Nat):Bool:=
 match look ρ i with
 |some j=>Nat.ble n j&&(Nat.ble dT j&&((look o.rw j).isSome&&(match look ρ' j with|some q=>Nat.beq q i|none=>false)))
 |none=>false
def gQ(st:af)(i:Nat):Option Bool:=match look st.ad i with
 |some c=>some c.one
 |none=>none
theorem JZ{st:af}{i:Nat}{c:bM}(o:st.ids.Nodup)(h:(i,c)∈st.ad):gQ st i=some c.one:=by
 have key:∀{l:List (Nat×bM)},(l.map (·.1)).Nodup->(i,c)∈l->look l i=some c:=by
  intro l
  induction l with
  |nil=>intro _ h;cases h
  |cons p l q=>
   obtain⟨j,d⟩:=p
   intro o h
   rw[List.map_cons,List.nodup_cons]at o
   unfold look
   rcases List.mem_cons.1 h with h|h
   ·cases h
    rw[Nat.beq_refl]
    rfl
   ·have L:Nat.beq j i=false:=by
     cases O:Nat.beq j i with
     |false=>rfl
     |true=>exact absurd (List.mem_map.2 ⟨_,h,(Nat.eq_of_beq_eq_true O).symm⟩) o.1
    rw[L]
    exact q o.2 h
 unfold gQ
 rw[key (List.nodup_append.1 o).1 h]
theorem Hc{st:af}{i:Nat}{b:Bool}(h:gQ st i=some b):∃c,look st.ad i=some c/\c.one=b:=by
 unfold gQ at h
 split at h
 ·rename_i c o;cases h;exact⟨c,o,rfl⟩
 ·cases h
def gone(n:Nat)(st o:af)(ρ ρ':List (Nat×Nat)):List Nat:=
 (ρ.map (·.1)).filter (fun i=>((look st.rw i).isSome&&!pt n o ρ ρ' i)||gQ st i==some false)++(ρ'.map (·.2)).filter (fun j=>!(gQ st j==some true&&gW j (ρ.map (·.1)))&&!pt n o ρ ρ' j)
def gC{α:Type}(o:List Nat)(l:List (Nat×α)):List (Nat×α):=l.filter fun p=>!(gW p.1 o)
def Gt(st o:af)(n q:Nat)(ρ:List (Nat×Nat))(p:Nat×Nat):Bool:=
 match look ρ p.2 with
 |some i=>Nat.beq i p.1&&(Nat.ble n p.1&&((gQ st p.2==gQ o p.1)&&(Nat.blt p.2 dT||(Nat.ble dT p.1&&(look st.rw p.2).isSome))))
 |none=>!(gW p.2 st.ids)&&!(gW p.2 (ρ.map (·.1)))&&(Nat.blt p.2 q||((look o.ad p.1).isNone&&Nat.blt p.2 dT))
def px(st o:af)(n q:Nat)(ρ ρ':List (Nat×Nat)):Option af:=
 match nodupB (ρ'.map (·.1)),nodupB (ρ'.map (·.2)),ρ'.all (Gt st o n q ρ),nodupB ((gC (ρ.map (·.1)) st.ad++dF ρ' o.ad ρ').map (·.1)++(gC (ρ.map (·.1)) st.rw++dQ o.rw ρ').map (·.1))with
 |true,true,true,true=>some
  {ab:=st.ab.map fun p=>(p.1,p.2.dx (gone n st o ρ ρ')),
   ad:=(gC (ρ.map (·.1)) st.ad).map (fun p=>(p.1,p.2.map (ao.dx (gone n st o ρ ρ'))))++dF ρ' o.ad ρ',
   rw:=gC (ρ.map (·.1)) st.rw++dQ o.rw ρ'}
 |_,_,_,_=>none
end Go.Ev
namespace Go.Ev
open Go Go.RowKit
variable [bV]
variable {cx:bx} {m:Nat->Value} {st st':af} {T:Array Value} {w w':World} {E:Env} {Q:cB} {ops:Array Oper} {l:List Oper}
variable [ah cx]
theorem DI{α:Type}{l:List (Nat×α)}{i:Nat}{c:α}(h:(i,c)∈l):(look l i).isSome=true:=by
 induction l with
 |nil=>simp at h
 |cons p r q=>
  obtain⟨k,u⟩:=p
  unfold look
  cases o:Nat.beq k i with
  |true=>rfl
  |false=>
   rcases List.mem_cons.1 h with h|h
   ·cases h;rw[Nat.beq_refl]at o;cases o
   ·exact q h
theorem qJ{α:Type}{o:List Nat}{l:List (Nat×α)}{p:Nat×α}(h:p∈gC o l):p∈l/\p.1∉o:=by
 obtain⟨L,q⟩:=List.mem_filter.1 h
 refine⟨L,fun O=>?_⟩
 rw[sA.2 O]at q
 cases q
theorem zB(h:an cx m st T w){n:Nat}{ρ ρ':List (Nat×Nat)}{R lj:af}{m1:Nat->Value}{ag:Array Value}{le:World}(ay:(ρ.map (·.1)).Nodup)(ah:(ρ.map (·.2)).Nodup)
  (W:an (sub cx m st w n ρ) m1 R ag le)(lC:px st R n cx.n ρ ρ'=some lj):
  ∃m2,an cx m2 lj T le/\∀v s,aN le (ar (sub cx m st w n ρ) m1 R.ids) m1 v s->aN le (ar cx m2 lj.ids) m2 v (s.bS ρ'):=by
 unfold px at lC
 split at lC
 case h_2=>cases lC
 rename_i lI c2 c3 lJ
 cases lC
 have lI:=fP lI
 have c2:=fP c2
 have lJ:=fP lJ
 have lD:∀i j,(i,j)∈ρ->(sub cx m st w n ρ).m0 j=m i:=by
  intro i j lk
  show(match inv ρ j with|some i=>m i|none=>undef)=m i
  rw[mQ ah lk]
 have lE:∀i j,(i,j)∈ρ'->(n<=i/\(j,i)∈ρ/\gQ st j=gQ R i/\(j<dT\/(dT<=i/\(look st.rw j).isSome=true)))\/(True/\j∉st.ids/\j∉ρ.map (·.1)/\(j<cx.n\/(look R.ad i=none/\j<dT))):=by
  intro i j lk
  have:=List.all_eq_true.1 c3 _ lk
  unfold Gt at this
  split at this
  ·rename_i lK lL
   simp only[Bool.and_eq_true,Bool.or_eq_true,beq_iff_eq]at this
   obtain⟨t1,t2,t3,t4⟩:=this
   have:=Nat.eq_of_beq_eq_true t1
   subst this
   exact .inl ⟨Nat.le_of_ble_eq_true t2,aW lL,t3,t4.imp cw fun t=>⟨Nat.le_of_ble_eq_true t.1,t.2⟩⟩
  ·simp only[Bool.and_eq_true,Bool.or_eq_true,Bool.not_eq_true']at this
   obtain⟨⟨t1,t2⟩,t3⟩:=this
   refine .inr ⟨trivial,(fun q=>?_),(fun q=>?_),?_⟩
   ·have t1:gW j st.ids=false:=t1
    rw[sA.2 q]at t1
    cases t1
   ·have t2:gW j (ρ.map (·.1))=false:=t2
    rw[sA.2 q]at t2
    cases t2
   ·rcases t3 with t3|t3
    ·exact .inl (cw t3)
    ·exact .inr ⟨by simpa using t3.1,cw t3.2⟩
 obtain⟨m2,lW⟩:∃m2:Nat->Value,m2=fun j=>match inv ρ' j with|some i=>m1 i|none=>m j:=⟨_,rfl⟩
 have lb:∀i j,(i,j)∈ρ'->m2 j=m1 i:=by
  intro i j lk
  rw[lW]
  simp only
  rw[mQ c2 lk]
 have lX:∀j,inv ρ' j=none->m2 j=m j:=by
  intro j Y
  rw[lW]
  simp only
  rw[Y]
 have lg:∀j,j∈st.ids->j∉ρ.map (·.1)->m2 j=m j:=by
  intro j Y ln
  refine lX j ?_
  cases ll:inv ρ' j with
  |none=>rfl
  |some i=>
   rcases lE i j (H8 ll)with ⟨_,q,_,_⟩|⟨_,q,_⟩
   ·exact absurd (List.mem_map.2 ⟨_,q,rfl⟩) ln
   ·exact absurd Y q
 have ai:∀b,b∉gone n st R ρ ρ'->m2 b=m b:=by
  intro b O
  cases ll:inv ρ' b with
  |none=>exact lX b ll
  |some i=>
   have lk:=H8 ll
   have lh:(gQ st b==some true&&gW b (ρ.map (·.1)))=true\/pt n R ρ ρ' b=true:=by
    cases lp:(gQ st b==some true&&gW b (ρ.map (·.1)))with
    |true=>exact .inl rfl
    |false=>
     cases aj:pt n R ρ ρ' b with
     |true=>exact .inr rfl
     |false=>
      refine absurd ?_ O
      refine List.mem_append.2 (.inr (List.mem_filter.2 ⟨List.mem_map.2 ⟨_,lk,rfl⟩,by rw[lp,aj];rfl⟩))
   rcases lh with lh|lh
   case inr=>
    unfold pt at lh
    split at lh
    case h_2=>cases lh
    rename_i j Y
    simp only[Bool.and_eq_true]at lh
    obtain⟨ak,al,am,lM⟩:=lh
    split at lM
    case h_2=>cases lM
    rename_i lK lL
    have lc:=Nat.eq_of_beq_eq_true lM
    subst lc
    have lf:=mQ c2 (aW lL)
    rw[ll]at lf
    cases lf
    obtain⟨ly,lz⟩:=Option.isSome_iff_exists.1 am
    rw[lb i lK lk,W.kept i ly (aW lz) (Nat.le_of_ble_eq_true ak) (Nat.le_of_ble_eq_true al),lD lK i (aW Y)]
   rw[Bool.and_eq_true]at lh
   rcases lE i b lk with ⟨ls,q,Z,_⟩|⟨_,_,q,_⟩
   ·rw[beq_iff_eq.1 lh.1]at Z
    obtain⟨c,ap,lF⟩:=Hc Z.symm
    rw[lb i b lk,W.fixed i c (aW ap) lF ls,lD b i q]
   ·exact absurd (sA.1 lh.2) q
 -- the ids of the new state
 have lA:∀j,j∈af.ids {ab:=st.ab.map fun p=>(p.1,p.2.dx (gone n st R ρ ρ')),ad:=(gC (ρ.map (·.1)) st.ad).map (fun p=>(p.1,p.2.map (ao.dx (gone n st R ρ ρ'))))++dF ρ' R.ad ρ',rw:=gC (ρ.map (·.1)) st.rw++dQ R.rw ρ'}->
   (j∈st.ids/\j∉ρ.map (·.1))\/∃i,(i,j)∈ρ'/\i∈R.ids:=by
  intro j Y
  rcases List.mem_append.1 Y with Y|Y
  ·obtain⟨⟨aq,c⟩,U,rfl⟩:=List.mem_map.1 Y
   rcases List.mem_append.1 U with U|U
   ·obtain⟨⟨lo,c'⟩,lN,Z⟩:=List.mem_map.1 U
    cases Z
    obtain⟨o,L⟩:=qJ lN
    exact .inl ⟨List.mem_append.2 (.inl (List.mem_map.2 ⟨_,o,rfl⟩)),L⟩
   ·obtain⟨i,c',o,L,_⟩:=jw U
    exact .inr ⟨i,o,List.mem_append.2 (.inl (List.mem_map.2 ⟨_,L,rfl⟩))⟩
  ·obtain⟨⟨aq,c⟩,U,rfl⟩:=List.mem_map.1 Y
   rcases List.mem_append.1 U with U|U
   ·obtain⟨o,L⟩:=qJ U
    exact .inl ⟨List.mem_append.2 (.inr (List.mem_map.2 ⟨_,o,rfl⟩)),L⟩
   ·obtain⟨i,o,L⟩:=jU U
    exact .inr ⟨i,o,List.mem_append.2 (.inr (List.mem_map.2 ⟨_,L,rfl⟩))⟩
 generalize lG:({ab:=st.ab.map fun p=>(p.1,p.2.dx (gone n st R ρ ρ')),ad:=(gC (ρ.map (·.1)) st.ad).map (fun p=>(p.1,p.2.map (ao.dx (gone n st R ρ ρ'))))++dF ρ' R.ad ρ',rw:=gC (ρ.map (·.1)) st.rw++dQ R.rw ρ'}:af)=lj at lA
 have lO:∀i,i∈R.ids->∀b,own (m1 i) b->w.heap.size<=b\/∃i0 lq,(i0,lq)∈ρ/\i0∈st.ids/\own (m i0) b:=fun i ll b O=>(W.lt ll O).2
 have lP:∀b,b<w.heap.size->ar cx m2 lj.ids b->ar cx m st.ids b:=by
  rintro b az (lH|⟨j,Y,O⟩)
  ·exact .inl lH
  ·rcases lA j Y with ⟨o,L⟩|⟨i,o,L⟩
   ·rw[lg j o L]at O
    exact .inr ⟨j,o,O⟩
   ·rw[lb i j o]at O
    rcases lO i L b O with q|⟨i0,_,_,ld,la⟩
    ·omega
    ·exact .inr ⟨i0,ld,la⟩
 have lQ:∀b,b<le.heap.size->ar cx m2 lj.ids b->ar (sub cx m st w n ρ) m1 R.ids b:=by
  rintro b _ (lH|⟨j,Y,O⟩)
  ·refine .inl ⟨.inl lH,?_⟩
   rintro⟨i0,lq,_,ld,la⟩
   have aa:=h.outer b lH
   rcases(h.lt ld la).2 with q|q
   ·omega
   ·exact aa.2 q
  ·rcases lA j Y with ⟨o,L⟩|⟨i,o,L⟩
   ·rw[lg j o L]at O
    refine .inl ⟨.inr ⟨j,o,O⟩,?_⟩
    rintro⟨i0,lq,lR,ld,la⟩
    refine h.apart i0 j ld o ?_ b la O
    rintro rfl
    exact L (List.mem_map.2 ⟨_,lR,rfl⟩)
   ·rw[lb i j o]at O
    exact .inr ⟨i,L,O⟩
 have lS:∀b,b<w.heap.size->¬ar cx m st.ids b->le.heap[b]? =w.heap[b]? :=fun b O ln=>W.frame.block b O fun⟨i0,_,_,ld,la⟩=>ln (.inr ⟨i0,ld,la⟩)
 have lT:∀b,b<le.heap.size->¬ar (sub cx m st w n ρ) m1 R.ids b->le.heap[b]? =le.heap[b]? :=fun _ _ _=>rfl
 have lY:∀v s,aN w (ar cx m st.ids) m v s->aN le (ar cx m2 lj.ids) m2 v (s.dx (gone n st R ρ ρ')):=fun v s lv=>kB ai (eN lS lP lv)
 have lZ:∀v s,aN le (ar (sub cx m st w n ρ) m1 R.ids) m1 v s->aN le (ar cx m2 lj.ids) m2 v (s.bS ρ'):=fun v s lv=>qH lb (eN lT lQ lv)
 have l0:∀b c',(b,c')∈lj.ad->(∃c,(b,c)∈st.ad/\b∉ρ.map (·.1)/\c'=c.map (ao.dx (gone n st R ρ ρ')))\/∃i c,(i,b)∈ρ'/\(i,c)∈R.ad/\c'=c.map (ao.bS ρ'):=by
  intro b c' O
  rw[<-lG]at O
  rcases List.mem_append.1 O with U|U
  ·obtain⟨⟨lo,c2⟩,lN,Z⟩:=List.mem_map.1 U
   cases Z
   obtain⟨o,L⟩:=qJ lN
   exact .inl ⟨c2,o,L,rfl⟩
  ·exact .inr (jw U)
 have l3:∀b c,(b,c)∈lj.rw->((b,c)∈st.rw/\b∉ρ.map (·.1))\/∃i,(i,b)∈ρ'/\(i,c)∈R.rw:=by
  intro b c O
  rw[<-lG]at O
  rcases List.mem_append.1 O with U|U
  ·exact .inl (qJ U)
  ·exact .inr (jU U)
 have lB:∀j,j∈st.ids->j∉ρ.map (·.1)->∀g,own (m j) g->g<w.heap.size/\¬∃i0 lq,(i0,lq)∈ρ/\i0∈st.ids/\own (m i0) g:=by
  intro j Y ln g V
  refine⟨(h.lt Y V).1,?_⟩
  rintro⟨i0,lq,lR,ld,la⟩
  refine h.apart i0 j ld Y ?_ g la V
  rintro rfl
  exact ln (List.mem_map.2 ⟨_,lR,rfl⟩)
 have l4:∀g,(w.heap.size<=g\/∃i0 lq,(i0,lq)∈ρ/\i0∈st.ids/\own (m i0) g)->cx.w0.heap.size<=g\/cx.X g:=by
  rintro g (V|⟨i0,_,_,ld,la⟩)
  ·exact .inl (Nat.le_trans h.frame.size V)
  ·exact(h.lt ld la).2
 refine⟨m2,{size:=h.size,frame:=?_,outer:=h.outer,cv:=?_,boxes:=?_,rows:=?_,apart:=?_,keys:=?_,fixed:=?_,kept:=?_},lZ⟩
 ·refine⟨W.frame.os.trans h.frame.os,W.frame.tape.trans h.frame.tape,W.frame.output.trans h.frame.output,Nat.le_trans h.frame.size W.frame.size,fun b O l5=>?_,fun d=>Nat.le_trans (h.frame.drawn d) (W.frame.drawn d)⟩
  rw[<-h.frame.block b O l5]
  refine W.frame.block b (Nat.lt_of_lt_of_le O h.frame.size) ?_
  rintro⟨i0,_,_,ld,la⟩
  rcases(h.lt ld la).2 with q|q
  ·omega
  ·exact l5 q
 ·intro i aA ll
  rw[<-lG]at ll
  obtain⟨⟨j,aM⟩,U,Z⟩:=List.mem_map.1 ll
  cases Z
  obtain⟨v,lc,lf⟩:=h.cv j aM U
  exact⟨v,lc,lY v aM lf⟩
 ·intro b c' O
  rcases l0 b c' O with ⟨c,o,L,rfl⟩|⟨i,c,o,L,rfl⟩
  ·have li:b∈st.ids:=List.mem_append.2 (.inl (List.mem_map.2 ⟨_,o,rfl⟩))
   obtain⟨g,lc,lf,lt⟩:=h.boxes b c o
   rw[lg b li L]
   exact⟨g,iF.2 lc,lf,ii lS lP (gg lc) (fun lU l6=>W.frame.block lU (lB b li L lU l6).1 (lB b li L lU l6).2) lY lt⟩
  ·obtain⟨g,lc,lf,lt⟩:=W.boxes i c L
   rw[lb i b o]
   exact⟨g,iF.2 lc,fun l7 lm=>l4 l7 (lf l7 lm),ii lT lQ (gg lc) (fun _ _=>rfl) lZ lt⟩
 ·intro b c O
  rcases l3 b c O with ⟨o,L⟩|⟨i,o,L⟩
  ·have li:b∈st.ids:=List.mem_append.2 (.inr (List.mem_map.2 ⟨_,o,rfl⟩))
   obtain⟨cells,lc,lf,lt⟩:=h.rows b c o
   refine⟨cells,?_,fun g V=>lf g (by rw[lg b li L]at V;exact V),cP (fun _ _=>cq lS lP c.t) lt⟩
   rw[lg b li L]
   refine⟨lc.1,?_⟩
   rcases lc.2 with q|⟨g,cap,cur,lv,la,q,rest⟩
   ·exact .inl q
   ·have lp:=lB b li L g (by rw[lv];exact fO rfl)
    exact .inr ⟨g,cap,cur,lv,la,by rw[W.frame.block g lp.1 lp.2];exact q,rest⟩
  ·obtain⟨cells,lc,lf,lt⟩:=W.rows i c L
   exact⟨cells,by rw[lb i b o];exact lc,fun g V=>l4 g (lf g (by rw[lb i b o]at V;exact V)),cP (fun _ _=>cq lT lQ c.t) lt⟩
 ·intro lu lo au av l8 g V lm
  rcases lA lu au with ⟨lr,lw⟩|⟨i1,lr,lw⟩<;>rcases lA lo av with ⟨a2,lx⟩|⟨i2,a2,lx⟩
  ·rw[lg lu lr lw]at V
   rw[lg lo a2 lx]at lm
   exact h.apart lu lo lr a2 l8 g V lm
  ·rw[lg lu lr lw]at V
   rw[lb i2 lo a2]at lm
   have lp:=lB lu lr lw g V
   rcases lO i2 lx g lm with q|q
   ·omega
   ·exact lp.2 q
  ·rw[lb i1 lu lr]at V
   rw[lg lo a2 lx]at lm
   have lp:=lB lo a2 lx g lm
   rcases lO i1 lw g V with q|q
   ·omega
   ·exact lp.2 q
  ·rw[lb i1 lu lr]at V
   rw[lb i2 lo a2]at lm
   refine W.apart i1 i2 lw lx ?_ g V lm
   rintro rfl
   exact l8 (rq lI lr a2)
 ·rw[<-lG]
  show(((gC (ρ.map (·.1)) st.ad).map (fun p=>(p.1,p.2.map (ao.dx (gone n st R ρ ρ'))))++dF ρ' R.ad ρ').map (·.1)++(gC (ρ.map (·.1)) st.rw++dQ R.rw ρ').map (·.1)).Nodup
  have e:((gC (ρ.map (·.1)) st.ad).map (fun p=>(p.1,p.2.map (ao.dx (gone n st R ρ ρ'))))++dF ρ' R.ad ρ').map (·.1)=(gC (ρ.map (·.1)) st.ad++dF ρ' R.ad ρ').map (·.1):=by
   simp[List.map_append,List.map_map,Function.comp_def]
  rw[e]
  exact lJ
 ·intro b c' O lF ls
  rcases l0 b c' O with ⟨c,o,L,lV⟩|⟨i,c,o,L,lV⟩
  ·have li:b∈st.ids:=List.mem_append.2 (.inl (List.mem_map.2 ⟨_,o,rfl⟩))
   rw[lg b li L]
   exact h.fixed b c o (jp.symm.trans (lV▸lF)) ls
  ·rcases lE i b o with ⟨ln,q,Z,_⟩|⟨_,_,_,q⟩
   ·have l9:c.one=true:=jp.symm.trans (lV▸lF)
    rw[JZ W.keys L,l9]at Z
    obtain⟨ly,lz,aw⟩:=Hc Z
    rw[lb i b o,W.fixed i c L l9 ln,lD b i q]
    exact h.fixed b ly (aW lz) aw ls
   ·rcases q with q|q
    ·omega
    ·have:=DI L
     rw[q.1]at this
     cases this
 ·intro b c O ls ae
  rcases l3 b c O with ⟨o,L⟩|⟨i,o,L⟩
  ·have li:b∈st.ids:=List.mem_append.2 (.inr (List.mem_map.2 ⟨_,o,rfl⟩))
   rw[lg b li L]
   exact h.kept b c o ls ae
  ·rcases lE i b o with ⟨ln,q,_,Z⟩|⟨_,_,_,q⟩
   ·rcases Z with Z|⟨Z,ax⟩
    ·omega
    ·obtain⟨ly,lz⟩:=Option.isSome_iff_exists.1 ax
     rw[lb i b o,W.kept i c L ln Z,lD b i q]
     exact h.kept b ly (aW lz) ls ae
   ·rcases q with q|q
    ·omega
    ·omega
end Go.Ev
namespace Go.Ev
open Go Go.RowKit
variable [bV]
variable {cx:bx} {m:Nat->Value} {st st':af} {T:Array Value} {w w':World} {E:Env} {Q:cB} {ops:Array Oper} {l:List Oper}
variable [ah cx]
structure bP(α o:Type) where
 n:Nat
 S:α->af
 bE:α->o->af
 ap:α->o->List ao
 rel:α->o->Prop
def po(w:World)(M:Nat->Prop)(m:Nat->Value)(v:Value):List ao->Prop
 |[]=>True
 |[s]=>aN w M m v s
 |l=>∃vs:List Value,v=.tuple vs.toArray/\cg w M m vs l
structure bZ{α o:Type}(P:Program)(G:World->Prop)(f:Nat)(F:bP α o):Prop where
 enters:∀args w,(callFunc f args).run P w=.ok (.enter f args) w
 calls:∀(cx:bx),cx.P=P->cx.n=F.n->(∀w,Frame cx.w0 w cx.X->G w)->∀x y,F.rel x y->∀(vs:List Value) (w:World),vs.length=(F.S x).ab.length->al cx (F.S x) (vs.toArray++Array.replicate (F.n-vs.toArray.size) undef) w->
  Calls P f vs.toArray w fun e w'=>∃v aA q,e=.returned v/\an cx aA (F.bE x y) q w'/\po w' (ar cx aA (F.bE x y).ids) aA v (F.ap x y)
def jv:List ao->Option (List bQ)
 |[]=>some []
 |.val t x::l=>match jv l with
  |some r=>some (.v ⟨t,x⟩::r)
  |none=>none
 |.row b::l=>match jv l with
  |some r=>some (.r b::r)
  |none=>none
 |.ptr b 0::l=>match jv l with
  |some r=>some (.r b::r)
  |none=>none
 |.dm b []::l=>match jv l with
  |some r=>some (.r b::r)
  |none=>none
 |.any::l=>match jv l with
  |some r=>some (.a::r)
  |none=>none
 |.iter b::l=>match jv l with
  |some r=>some (.r b::r)
  |none=>none
 |_=>none
def s9:List ao->Option ao
 |[]=>some .any
 |[s]=>some s
 |l=>match jv l with
  |some r=>some (.fr r)
  |none=>none
theorem mr{M:Nat->Prop}:∀{vs:List Value} {l:List ao} {r:List bQ},jv l=some r->cg w M m vs l->cM w M m vs r
 |[],[],_,h,_=>by cases h;trivial
 |_::_,[],_,_,U=>U.elim
 |[],_::_,_,_,U=>U.elim
 |v::vs,s::l,r,h,⟨L,q⟩=>by
  unfold jv at h
  split at h
  ·rename_i e;cases e
  ·rename_i t x O e
   cases e
   split at h
   ·rename_i R o;cases h;exact⟨L,mr o q⟩
   ·cases h
  ·rename_i b O e
   cases e
   split at h
   ·rename_i R o;cases h;exact⟨L,mr o q⟩
   ·cases h
  ·rename_i b O e
   cases e
   split at h
   ·rename_i R o;cases h;obtain⟨g,g1,g2⟩:=L;exact⟨by rw[g1];exact g2,mr o q⟩
   ·cases h
  ·rename_i b O e
   cases e
   split at h
   ·rename_i R o;cases h;obtain⟨g,g1,g2⟩:=L;exact⟨by rw[g1];exact g2,mr o q⟩
   ·cases h
  ·rename_i O e
   cases e
   split at h
   ·rename_i R o;cases h;exact mr (vs:=vs) o q
   ·cases h
  ·rename_i b O e
   cases e
   split at h
   ·rename_i R o;cases h;exact⟨L,mr o q⟩
   ·cases h
  ·cases h
theorem Eu{M:Nat->Prop}{v:Value}{l:List ao}{s:ao}(h:s9 l=some s)(O:po w M m v l):aN w M m v s:=by
 unfold s9 at h
 split at h
 ·cases h;trivial
 ·cases h;exact O
 ·rename_i o q
  split at h
  ·rename_i r L
   cases h
   match l,o,q,O,L with
   |a::b::l,_,_,⟨vs,e,R⟩,L=>exact⟨vs,e,mr L R⟩
   |[],o,_,_,_=>exact absurd rfl o
   |[a],_,q,_,_=>exact absurd rfl (q a)
  ·cases h
def qj(P:Program)(st:af)(t:TypeId)(x:Operand):Option ao:=
 match x with
 |.const (.slice none 0 0)=>match dE P t with
  |some (_,u)=>some (.val (.ab u) [])
  |none=>none
 |x=>aO st x
def nS(P:Program)(st:af):List TypeId->List Operand->Option (List ao)
 |[],[]=>some []
 |t::o,x::xs=>match qj P st t x,nS P st o xs with
  |some v,some vs=>some (v::vs)
  |_,_=>none
 |_,_=>none
theorem Gp(h:an cx m st T w){t:TypeId}{x:Operand}{s:ao}(o:qj cx.P st t x=some s):aN w (ar cx m st.ids) m (Act.eval ⟨T,ah.D cx⟩ x) s:=by
 unfold qj at o
 split at o
 ·split at o
  ·rename_i e u L
   cases o
   exact(bA (t:=.ab u) rfl).2 ⟨none,0,[],rfl,Nat.le_refl _,by decide,fun _=>rfl,rfl,fun j v q=>by simp at q⟩
  ·cases o
 ·exact a8 h o
theorem Ae(h:an cx m st T w):∀{L:List TypeId} {xs:List Operand} {q:List ao},nS cx.P st L xs=some q->cg w (ar cx m st.ids) m (xs.map (Act.eval ⟨T,ah.D cx⟩)) q
 |[],[],_,o=>by cases o;trivial
 |[],_::_,_,o=>by cases o
 |_::_,[],_,o=>by cases o
 |t::L,x::xs,q,o=>by
  unfold nS at o
  split at o
  ·rename_i v U O R
   cases o
   exact⟨Gp h O,Ae h R⟩
  ·cases o
def mR(st:af)(bs:List Nat):Bool:=bs.all fun b=>match look st.ad b with
 |some (.cells _ _)=>true
 |_=>false
theorem oQ(h:an cx m st T w):∀{bs:List Nat},mR st bs=true->cg w (ar cx m st.ids) m (bs.map m) (bs.map fun b=>ao.ptr b 0)
 |[],_=>trivial
 |b::bs,o=>by
  unfold mR at o
  rw[List.all_cons,Bool.and_eq_true]at o
  refine⟨?_,oQ h o.2⟩
  have q:=o.1
  split at q
  ·rename_i c O
   obtain⟨g,L⟩:=p8 h O
   exact⟨g,L,L⟩
  ·cases q
def mg(E:Env)(st:af)(aa:Oper)(n f:Nat)(ρ:List (Nat×Nat)):Option af:=
 match aa.op with
 |.call c=>match c.callee with
  |.value x=>match aO st x with
   |some (.clos o bs)=>match Nat.beq o f,mR st bs,nS E.P st c.argTypes.toList c.args.toList with
    |true,true,some q=>hU st n ρ (q++bs.map fun b=>ao.ptr b 0)
    |_,_,_=>none
   |some (.bW o b)=>match Nat.beq o f,mR st [b],nS E.P st c.argTypes.toList c.args.toList with
    |true,true,some q=>hU st n ρ (ao.ptr b 0::q)
    |_,_,_=>none
   |_=>none
  |_=>none
 |_=>none
def im(st L:af)(aa:Oper)(n o:Nat)(ρ ρ':List (Nat×Nat))(ap:List ao):Option af:=
 match px st L n o ρ ρ',s9 ap with
 |some q,some s=>match aa.dst with
  |none=>some q
  |some d=>match Nat.blt d o with
   |true=>some (q.put d (s.bS ρ'))
   |false=>none
 |_,_=>none
def qq(st R:af)(aa:Oper)(n o:Nat)(ρ ρ':List (Nat×Nat))(ap:List ao)(q bs L:List Nat):Option af:=
 match px st R n o ρ ρ',s9 ap with
 |some O,some s=>match aa.dst with
  |none=>O.norm q bs L
  |some d=>match Nat.blt d o with
   |true=>(O.put d (s.bS ρ')).norm q bs L
   |false=>none
 |_,_=>none
theorem A6{n:Nat}{ρ:List (Nat×Nat)}{q:List ao}{L:af}(o:hU st n ρ q=some L):(ρ.map (·.1)).Nodup/\(ρ.map (·.2)).Nodup:=by
 unfold hU at o
 split at o
 ·rename_i O R U V;exact⟨fP O,fP R⟩
 ·cases o
theorem E1:∀(l:List ao) (k:Nat),(jx k l).length=l.length
 |[],_=>rfl
 |_::l,k=>by simp[jx,E1 l]
theorem uo{n:Nat}{ρ:List (Nat×Nat)}{q:List ao}{L:af}(o:hU st n ρ q=some L):L.ab.length=q.length:=by
 unfold hU at o
 split at o
 ·cases o;simp[E1]
 ·cases o
theorem AH(h:an cx m st T w){n:Nat}{ρ:List (Nat×Nat)}(o:Frame w w' (sub cx m st w n ρ).X):Frame cx.w0 w' cx.X:=by
 refine⟨o.os.trans h.frame.os,o.tape.trans h.frame.tape,o.output.trans h.frame.output,Nat.le_trans h.frame.size o.size,fun b q L=>?_,fun d=>Nat.le_trans (h.frame.drawn d) (o.drawn d)⟩
 rw[<-h.frame.block b q L]
 refine o.block b (Nat.lt_of_lt_of_le q h.frame.size) ?_
 rintro⟨i0,_,_,R,U⟩
 rcases(h.lt R U).2 with O|O
 ·omega
 ·exact L O
theorem NU{c:Call}{aa:Oper}{f:Nat}{x:Operand}{u:Value}(q:aa.op=.call c)(o:c.callee=.value x)(L:Act.eval ⟨T,ah.D cx⟩ x=.func (.func f) #[u] #[])
  (O:∀args w,(callFunc f args).run cx.P w=.ok (.enter f args) w)(w:World):
  (execOp (Act.eval ⟨T,ah.D cx⟩) aa).run cx.P w=.ok (.enter f (u::c.args.toList.map (Act.eval ⟨T,ah.D cx⟩)).toArray) w:=by
 obtain⟨U,args,V⟩:=c
 simp only at o
 subst o
 have R:#[u]++args.map (Act.eval ⟨T,ah.D cx⟩)++#[]=(u::args.toList.map (Act.eval ⟨T,ah.D cx⟩)).toArray:=by
  apply Array.ext'
  simp
 simp only[execOp,q,resolve,L,Deferred.ofValue,Sem.run_bind,Sem.run_pure,Result.andThen_ok,invoke]
 rw[R]
 simp[O]
theorem vz(R:br E cx){α ld:Type}{F:bP α ld}{f:Nat}(lm:bZ E.P E.G f F)(x:α)(y:ld)(ln:F.rel x y){aa:Oper}{ρ ρ':List (Nat×Nat)}{n:Nat}(lo:F.n=n)
  (lp:dR ops st aa=some true)(o:mg E st aa n f ρ=some (F.S x))(O:im st (F.bE x y) aa n E.n ρ ρ' (F.ap x y)=some st')(h:bH cx ops Q l st'):bH cx ops Q (aa::l) st:=by
 subst lo
 rintro T w ⟨m,q⟩
 refine wpList_step fun K le=>?_
 rw[gD ⟨m,q⟩ lp]
 simp only[if_true]
 have W:=lm
 rw[<-R.P]at W
 have lf:∀(U:List ao) (vs:List Value),hU st F.n ρ U=some (F.S x)->cg w (ar cx m st.ids) m vs U->(execOp (Act.eval ⟨T,ah.D cx⟩) aa).run cx.P w=.ok (.enter f vs.toArray) w->aa.wp cx.P ⟨T,ah.D cx⟩ w K Q:=by
  intro U vs o lg lq
  have lr:=zj q o lg
  obtain⟨ls,lt⟩:=A6 o
  have lu:=jW lg
  have lv:(F.S x).ab.length=U.length:=uo o
  have lw:=W.calls (sub cx m st w F.n ρ) rfl rfl (fun w' L=>R.oO w' (AH q L)) x y ln _ w (by rw[lv];exact lu) ⟨_,lr⟩
  unfold Oper.wp
  rw[lq]
  refine lw.mono ?_
  rintro e w' ⟨v,aA,lB,rfl,lx,ly⟩
  unfold im at O
  split at O
  case h_2=>cases O
  rename_i lC s lh lz
  rw[<-R.n]at lh
  obtain⟨m2,li,lA⟩:=zB q ls lt lx lh
  show K (Act.put ⟨T,ah.D cx⟩ aa.dst v) w'
  split at O
  ·rename_i aj
   rw[aj]
   cases O
   exact le _ _ (h _ _ ⟨m2,li⟩)
  ·rename_i d aj
   split at O
   ·rename_i Y
    rw[aj]
    have Y:d<cx.n:=by rw[R.n];exact cw Y
    cases O
    exact le _ _ (h _ _ ⟨m2,li.put Y (lA v s (Eu lz ly))⟩)
   ·cases O
 unfold mg at o
 split at o
 case h_2=>cases o
 rename_i c lj
 split at o
 case h_2=>cases o
 rename_i lk ll
 split at o
 ·rename_i Z bG la
  split at o
  case h_2=>cases o
  rename_i U L lb V
  have L:=Nat.eq_of_beq_eq_true L
  subst L
  rw[<-R.P]at V
  have lc:Act.eval ⟨T,ah.D cx⟩ lk=.func (.func Z) #[] (bG.map m).toArray:=a8 q la
  exact lf _ _ o (jI (Ae q V) (oQ q lb)) (qV lj ll lc W.enters w)
 ·rename_i Z b la
  split at o
  case h_2=>cases o
  rename_i U L lb V
  have L:=Nat.eq_of_beq_eq_true L
  subst L
  rw[<-R.P]at V
  have lc:Act.eval ⟨T,ah.D cx⟩ lk=.func (.func Z) #[m b] #[]:=a8 q la
  exact lf _ (m b::c.args.toList.map (Act.eval ⟨T,ah.D cx⟩)) o ⟨(oQ q lb).1,Ae q V⟩ (NU lj ll lc W.enters w)
 ·cases o
theorem qw(R:br E cx){α q:Type}{F:bP α q}{f:Nat}(U:bZ E.P E.G f F)(x:α)(y:q)(V:F.rel x y){aa:Oper}{ρ ρ':List (Nat×Nat)}{n:Nat}(W:F.n=n)(L bs O:List Nat)
  (Y:dR ops st aa=some true)(Z:mg E st aa n f ρ=some (F.S x))(o:qq st (F.bE x y) aa n E.n ρ ρ' (F.ap x y) L bs O=some st')(h:bH cx ops Q l st'):bH cx ops Q (aa::l) st:=by
 have e:∃s,im st (F.bE x y) aa n E.n ρ ρ' (F.ap x y)=some s/\s.norm L bs O=some st':=by
  unfold qq at o
  unfold im
  split at o
  ·split at o
   ·exact⟨_,rfl,o⟩
   ·split at o
    ·exact⟨_,rfl,o⟩
    ·cases o
  ·cases o
 obtain⟨s,la,lb⟩:=e
 exact vz R U x y V W Y Z la (h.norm lb)
def af.bS(st:af)(ρ:List (Nat×Nat)):Option af:=
 match nodupB (ρ.map (·.1)),nodupB (ρ.map (·.2)),ρ.all (fun p=>Nat.beq p.1 p.2||((look st.ad p.1).isNone&&Nat.blt p.2 dT)),nodupB (af.ids ⟨[],dF ρ st.ad ρ,dQ st.rw ρ⟩)with
 |true,true,true,true=>some ⟨st.ab.map fun p=>(p.1,p.2.bS ρ),dF ρ st.ad ρ,dQ st.rw ρ⟩
 |_,_,_,_=>none
theorem an.bS(h:an cx m st T w){ρ:List (Nat×Nat)}(Y:st.bS ρ=some st'):∃aA,an cx aA st' T w:=by
 unfold af.bS at Y
 split at Y
 case h_2=>cases Y
 rename_i la lb li lc
 cases Y
 have la:=fP la
 have lb:=fP lb
 have lc:=fP lc
 obtain⟨aA,lp⟩:∃aA:Nat->Value,aA=fun j=>match inv ρ j with|some i=>m i|none=>undef:=⟨_,rfl⟩
 have O:∀i j,(i,j)∈ρ->aA j=m i:=by
  intro i j o
  rw[lp]
  simp only
  rw[mQ lb o]
 have ld:∀{j:Nat},j∈af.ids ⟨st.ab.map fun p=>(p.1,p.2.bS ρ),dF ρ st.ad ρ,dQ st.rw ρ⟩->∃i,(i,j)∈ρ/\i∈st.ids:=fun R=>pe R
 have le:∀b,b<w.heap.size->ar cx aA (af.ids ⟨st.ab.map fun p=>(p.1,p.2.bS ρ),dF ρ st.ad ρ,dQ st.rw ρ⟩) b->ar cx m st.ids b:=by
  rintro b _ (lq|⟨j,R,Z⟩)
  ·exact .inl lq
  ·obtain⟨i,o,L⟩:=ld R
   rw[O i j o]at Z
   exact .inr ⟨i,L,Z⟩
 have lf:∀b,b<w.heap.size->¬ar cx m st.ids b->w.heap[b]? =w.heap[b]? :=fun _ _ _=>rfl
 have lj:∀v s,aN w (ar cx m st.ids) m v s->aN w (ar cx aA (af.ids ⟨st.ab.map fun p=>(p.1,p.2.bS ρ),dF ρ st.ad ρ,dQ st.rw ρ⟩)) aA v (s.bS ρ):=
  fun v s lr=>qH O (eN lf le lr)
 refine⟨aA,{size:=h.size,frame:=h.frame,outer:=h.outer,cv:=?_,boxes:=?_,rows:=?_,apart:=?_,keys:=lc,fixed:=?_,kept:=?_}⟩
 ·intro i aM L
  obtain⟨⟨j,s⟩,ls,lt⟩:=List.mem_map.1 L
  cases lt
  obtain⟨v,U,V⟩:=h.cv j s ls
  exact⟨v,U,lj v s V⟩
 ·intro j c' R
  obtain⟨i,c,o,L,rfl⟩:=jw R
  obtain⟨g,U,V,lg⟩:=h.boxes i c L
  rw[O i j o]
  exact⟨g,iF.2 U,V,ii lf le (gg U) (fun _ _=>rfl) lj lg⟩
 ·intro j c R
  obtain⟨i,o,L⟩:=jU R
  obtain⟨cells,U,V,lg⟩:=h.rows i c L
  exact⟨cells,by rw[O i j o];exact U,fun g W=>V g (by rw[O i j o]at W;exact W),cP (fun _ _=>cq lf le c.t) lg⟩
 ·intro lB lC lu lv lw g W lk
  obtain⟨i1,ll,lx⟩:=ld lu
  obtain⟨i2,a2,ly⟩:=ld lv
  rw[O _ _ ll]at W
  rw[O _ _ a2]at lk
  refine h.apart i1 i2 lx ly ?_ g W lk
  rintro rfl
  exact lw (rq la ll a2)
 ·intro b c Z lz lh
  obtain⟨i,lD,o,L,lA⟩:=jw Z
  have q:=List.all_eq_true.1 li _ o
  simp only[Bool.or_eq_true,Bool.and_eq_true]at q
  rcases q with q|⟨q,_⟩
  ·have e:=Nat.eq_of_beq_eq_true q
   subst e
   rw[O _ _ o]
   exact h.fixed _ _ L (jp.symm.trans (lA▸lz)) lh
  ·have lm:=DI L
   cases ln:look st.ad i with
   |none=>rw[ln]at lm;cases lm
   |some x=>rw[ln]at q;cases q
 ·intro j c R lh lo
  obtain⟨i,o,L⟩:=jU R
  have q:=List.all_eq_true.1 li _ o
  simp only[Bool.or_eq_true,Bool.and_eq_true]at q
  rcases q with q|⟨_,q⟩
  ·have e:=Nat.eq_of_beq_eq_true q
   subst e
   rw[O _ _ o]
   exact h.kept _ _ L lh lo
  ·exact absurd lo (Nat.not_le.2 (cw q))
theorem al.bS(h:al cx st T w){ρ:List (Nat×Nat)}(o:st.bS ρ=some st'):al cx st' T w:=let⟨_,q⟩:=h;q.bS o
theorem N.bS{e:Exit}(ρ:List (Nat×Nat))(o:st.bS ρ=some st')(h:N cx Q e st'):N cx Q e st:=fun T w q=>h T w (q.bS o)
theorem W.bS{c:Code}(ρ:List (Nat×Nat))(o:st.bS ρ=some st')(h:W cx Q c st'):W cx Q c st:=fun T w q=>h T w (q.bS o)
theorem bH.bS(ρ:List (Nat×Nat))(o:st.bS ρ=some st')(h:bH cx ops Q l st'):bH cx ops Q l st:=fun T w q=>h T w (q.bS o)
def mf(P:Program)(st:af):List ResultVar->Option (List ao)
 |[]=>some []
 |.tmp t::l=>match look st.ab t,mf P st l with
  |some s,some r=>some (s::r)
  |none,some r=>some (.any::r)
  |_,none=>none
 |.cell a ty'::l=>match gn P st [.cell a ty'],mf P st l with
  |some [u],some r=>some (.val u.t u.x::r)
  |_,_=>none
theorem th(h:an cx m st T w):∀{l:List ResultVar} {ap:List ao},mf cx.P st l=some ap->
  ∃vs,(l.mapM (gx T)).run cx.P w=.ok vs w/\cg w (ar cx m st.ids) m vs ap
 |[],_,o=>by cases o;exact⟨[],by simp,trivial⟩
 |.tmp t::l,ap,o=>by
  simp only[mf]at o
  split at o
  ·rename_i s r W O
   cases o
   obtain⟨vs,R,U⟩:=th h O
   obtain⟨v,q,L⟩:=h.cv t _ (aW W)
   refine⟨v::vs,?_,L,U⟩
   have Z:T.getD t undef=v:=by rw[Array.getD_eq_getD_getElem?,q];rfl
   have V:(gx T (.tmp t)).run cx.P w=.ok v w:=by show Sem.run cx.P (pure (T.getD t undef)) w=_;rw[Z,Sem.run_pure]
   rw[List.mapM_cons,Sem.run_bind,V]
   simp only[Result.andThen_ok,Sem.run_bind,R,Sem.run_pure]
  ·rename_i r W O
   cases o
   obtain⟨vs,R,U⟩:=th h O
   refine⟨T.getD t undef::vs,?_,trivial,U⟩
   have V:(gx T (.tmp t)).run cx.P w=.ok (T.getD t undef) w:=rfl
   rw[List.mapM_cons,Sem.run_bind,V]
   simp only[Result.andThen_ok,Sem.run_bind,R,Sem.run_pure]
  ·cases o
 |.cell a t::l,ap,o=>by
  simp only[mf]at o
  split at o
  ·rename_i u r la O
   cases o
   obtain⟨vs,R,U⟩:=th h O
   obtain⟨us,q,L⟩:=oh h la
   match us,L with
   |[v],⟨V,_⟩=>
    refine⟨v::vs,?_,V,U⟩
    have lb:(gx T (.cell a t)).run cx.P w=.ok v w:=by
     rw[List.mapM_cons,Sem.run_bind]at q
     cases Y:(gx T (.cell a t)).run cx.P w with
     |ok v' lc=>
      rw[Y]at q
      simp only[Result.andThen_ok,List.mapM_nil,Sem.run_bind,Sem.run_pure]at q
      cases q
      rfl
     |_=>rw[Y]at q;cases q
    rw[List.mapM_cons,Sem.run_bind,lb]
    simp only[Result.andThen_ok,Sem.run_bind,R,Sem.run_pure]
   |[],L=>exact L.elim
   |_::_::_,⟨_,L⟩=>exact L.elim
  ·cases o
def nT(P:Program)(fn:Func)(cx:bx)(o:af)(ap:List ao):cB:=
 bodyPost P fn fun e w'=>∃v aA q,e=.returned v/\an cx aA o q w'/\po w' (ar cx aA o.ids) aA v ap
theorem eV{P:Program}(U:cx.P=P){fn:Func}{ap:List ao}{o:af}{e:Exit}(bs V:List Nat)(W:e=.ret\/e=.normal)(Y:mf P st fn.results.toList=some ap)(q:st.norm [] bs V=some o)(Z:ah.D cx=[]:=by rfl):
  N cx (nT cx.P fn cx o ap) e st:=by
 subst U
 rintro T w ⟨m,R⟩
 obtain⟨vs,la,lb⟩:=th R Y
 have lc:=EC la
 have ld:=R.norm q
 have le:∀i,i∈o.ids->i∈st.ids:=by
  unfold af.norm at q
  split at q
  ·rename_i ab ad ll lm lf lg _
   cases q
   intro i L
   rcases List.mem_append.1 L with L|L
   ·obtain⟨p,O,rfl⟩:=List.mem_map.1 L;exact List.mem_append.2 (.inl (List.mem_map.2 ⟨p,mW lf p O,rfl⟩))
   ·obtain⟨p,O,rfl⟩:=List.mem_map.1 L;exact List.mem_append.2 (.inr (List.mem_map.2 ⟨p,mW lg p O,rfl⟩))
  ·cases q
 have lh:cg w (ar cx m o.ids) m vs ap:=kU (fun _ _ _=>rfl) (fun b _ li=>jB le li) lb
 have lj:po w (ar cx m o.ids) m (if h:vs.toArray.size=1 then vs.toArray[0]else .tuple vs.toArray) ap:=by
  match vs,ap,lh with
  |[],[],_=>trivial
  |[v],[u],⟨h,_⟩=>exact h
  |v1::v2::vs,ln::lo::us,h=>
   have lk:¬(v1::v2::vs).toArray.size=1:=by simp
   rw[dif_neg lk]
   exact⟨_,rfl,h⟩
  |[],_::_,h=>exact h.elim
  |_::_,[],h=>exact h.elim
  |[_],_::_::_,⟨_,h⟩=>exact h.elim
  |_::_::_,[_],⟨_,h⟩=>exact h.elim
 rcases W with rfl|rfl<;>exact⟨Z,_,lc,_,m,_,rfl,ld,lj⟩
theorem mh{P:Program}{G:World->Prop}{f:FuncId}{fn:Func}{c:Code}{α L:Type}{F:bP α L}(o:P.funcs[f]? =some fn)(O:(fn.name== "runtime.NumGoroutine")=false)(q:fn.body=some c)(R:fn.ntmps=F.n)
  (U:∀cx:bx,cx.P=P->cx.n=F.n->(∀w,Frame cx.w0 w cx.X->G w)->∀x y,F.rel x y->W cx (nT cx.P fn cx (F.bE x y) (F.ap x y)) c (F.S x)):bZ P G f F where
 enters:=enters_of o O q
 calls:=fun cx V Y Z x y la vs w _ h=>by
  subst V
  refine calls_of_wp o q ?_
  rw[R]
  exact U cx rfl Y Z x y la _ _ h
theorem aR.weaken{P:Program}{G o:World->Prop}{f:Nat}{F:ip}(q:∀w,o w->G w)(h:aR P G f F):aR P o f F:=
 ⟨h.enters,h.shape,fun w M vs L ap O=>h.calls w M vs L ap (q w O)⟩
theorem bZ.weaken{α q:Type}{P:Program}{G o:World->Prop}{f:Nat}{F:bP α q}(L:∀w,o w->G w)(h:bZ P G f F):bZ P o f F:=
 ⟨h.enters,fun cx O R U=>h.calls cx O R fun w V=>L w (U w V)⟩
end Go.Ev
namespace Go.Ev
open Go Go.RowKit
variable [bV]
section
variable {P:Program} {ops:Array Oper} {md:Region.Mode} {C:World->Prop}
def pI(P:Program)(md:Region.Mode)(ops:Array Oper)(C:World->Prop)(n:Nat)(o:Array Bool->Act->Prop):Nat->Array Bool->Act->Prop
 |0,done,a=>o done a
 |f+1,done,a=>Region.ready md ops done≠[]/\∀i,i∈Region.ready md ops done->i<n/\qOp P ops C i (pI P md ops C n o f (done.setIfInBounds i true)) a
theorem Mj{n g:Nat}{L:Array Bool->Act->Prop}{Q':Exit->Act->World->Prop}(q:∀done a w,C w->L done a->wpAny P md ops Q' g done a w):
  ∀(f:Nat) (done:Array Bool) (a:Act) (w:World),C w->pI P md ops C n L f done a->wpAny P md ops Q' (f+g) done a w:=by
 intro f
 induction f with
 |zero=>intro done a w o h;rw[Nat.zero_add];exact q _ _ _ o h
 |succ f O=>
  intro done a w o h
  rw[Nat.succ_add]
  exact⟨fun R=>absurd R h.1,fun i U=>wpOp_of_qOp o (fun V w' W h'=>O _ V w' W h') (h.2 i U).2⟩
theorem Kv{n i:Nat}{aa:Oper}{v:Value}{L:Array Bool->Act->Prop}(Z:ops[i]? =some aa)(lc:∀(j:Nat) (aa:Oper) R b,ops[j]? =some aa->aa.op≠.select R b)
  (ld:Region.sinkB md ops n=true)(le:Region.chainB md ops n=true)(lf:n<ops.size)(lg:i<n)(lm:∀done a,L done a->∀j,j∈Region.ready md ops done->n<=j):
  ∀(f:Nat) (done:Array Bool) (a:Act),HeadInv md ops n done->
   (∀j O,ops[j]? =some O->j≠i->done.getD j true=false->(∀e∈O.after,Region.binds md e=true->e.on≠i)->aa.apart ops O=true)->
   i∈Region.ready md ops done->YieldsIn P ops C aa v a->pI P md ops C n L f (done.setIfInBounds i true) (a.put aa.dst v)->pI P md ops C n L (f+1) done a:=by
 intro f
 induction f with
 |zero=>
  intro done a inv _ o W U
  have Y:=(mem_ready.1 o).1
  refine⟨fun la=>(by rw[la]at o;cases o),fun j q=>?_⟩
  have V:j<n:=Nat.lt_of_not_le fun h=>tail_waits ld le lf inv _ i rfl lg Y j h q
  refine⟨V,?_⟩
  by_cases e:j=i
  ·subst e;exact W.qOp Z U
  ·exact absurd (lm _ _ U j (ready_mono q e)) (Nat.not_le_of_lt V)
 |succ f ln=>
  intro done a inv lh o W U
  have Y:=(mem_ready.1 o).1
  refine⟨fun la=>(by rw[la]at o;cases o),fun j q=>?_⟩
  have V:j<n:=Nat.lt_of_not_le fun h=>tail_waits ld le lf inv _ i rfl lg Y j h q
  refine⟨V,?_⟩
  by_cases e:j=i
  ·subst e;exact W.qOp Z U
  obtain⟨li,O,lb,lo⟩:=mem_ready.1 q
  have lp:=lh j O lb e li fun d aj lq aY=>by
   have lj:=lo d aj lq
   rw[aY,getD_both Y]at lj
   cases lj
  refine qOp_mono (fun lr lk=>ln (done.setIfInBounds j true) lr (inv.set q V) (fun k ok ls lt lu lv=>lh k ok ls lt ?_ lv) (ready_mono o (Ne.symm e)) lk.1 ?_)
   (qOp_put lb lp (fun R b=>lc i aa R b Z) (fun R b=>lc j O R b lb) W (U.2 j (ready_mono q e)).2)
  ·by_cases ll:j=k
   ·subst ll;exact li
   ·rwa [getD_set_ne true ll]at lu
  ·rw[Array.setIfInBounds_comm _ _ e];exact lk.2
theorem QM{n g:Nat}{L:Act->Prop}(Y:Region.noSelect ops=true)(Z:Region.sinkB md ops n=true)(la:Region.chainB md ops n=true)(lb:n<ops.size):
  ∀(l:List Oper) (k:Nat) (done:Array Bool) (a:Act),(∀j,j<l.length->l[j]? =ops[k+j]?)->k+l.length=n->HeadInv md ops n done->Region.lexHead md ops g l.length k done=true->
   wpQuiet P ops C L l a->pI P md ops C n (fun d R=>Region.seqB md ops g n d=true/\L R) l.length done a:=by
 intro l
 induction l with
 |nil=>
  intro k done a _ o _ O h
  obtain rfl:k=n:=o
  exact⟨O,h⟩
 |cons aa l lc=>
  intro k done a U o inv O h
  have q:ops[k]? =some aa:=(U 0 (Nat.succ_pos _)).symm
  obtain⟨ld,le⟩:=Bool.and_eq_true_iff.1 O
  obtain⟨lf,lg⟩:=Bool.and_eq_true_iff.1 ld
  have V:k<n:=by rw[<-o];simp
  have W:k∈Region.ready md ops done:=by simpa using lf
  obtain⟨v,lh,li⟩:=yieldsIn_of_qOp (K:=wpQuiet P ops C L l) q (by unfold qOp;rw[q];exact h)
  refine Kv q (Region.noSelect_spec Y) Z la lb V (fun d R lj=>seqB_ready lj.1) l.length done a inv (Region.free_spec q lg) W lh ?_
  refine lc (k+1) _ _ (fun j lk=>?_) (by rw[<-o];simp only[List.length_cons];omega) (inv.set W V) le li
  have:=U (j+1) (Nat.succ_lt_succ lk)
  rw[Nat.add_assoc,Nat.add_comm 1 j]
  exact this
theorem Lh{id:Nat}{Q:Exit->Act->World->Prop}{a:Act}{w:World}{l:List Oper}(n:Nat)(W:P.follows .mixedOrders=true)(L:Region.lexTailB .any l.toArray n=true)(Y:C {w with drawn:=w.drawn+1})
  (h:wpQuiet P l.toArray C (fun q=>∀w',C w'->wpList P l.toArray Q (l.drop n) q w') (l.take n) a):(Code.region id l.toArray true).wp P Q a w:=by
 simp only[Region.lexTailB,Bool.and_eq_true,decide_eq_true_eq]at L
 obtain⟨⟨⟨⟨Z,O⟩,la⟩,lb⟩,lc⟩:=L
 have ld:n<l.length:=by simpa using O
 have o:(l.take n).length=n:=List.length_take_of_le (Nat.le_of_lt ld)
 have le:HeadInv .any l.toArray n (Array.replicate l.toArray.size false):=
  ⟨by simp,fun j lh _ R=>(by rw[getD_replicate_false]at R;cases R),fun t _ o=>getD_in (by simpa using o) (getD_replicate_false _ _)⟩
 have lf:=QM (C:=C) (md:=.any) (g:=l.toArray.size-n) Z la lb O (l.take n) 0 _ a
  (fun j U=>by rw[o]at U;simp[U]) (by rw[o,Nat.zero_add]) le (by rw[o];exact lc) h
 have aj:(l.drop n).length=l.toArray.size-n:=by simp
 have al:=Mj (Q':=Q) (g:=l.toArray.size-n) (fun done q w' lg V=>by
  have:=wpAny_of_seq (md:=.any) (Q':=Q) (l.drop n) n done q w' (fun j=>by simp[List.getElem?_drop]) (by rw[aj];exact V.1) (V.2 w' lg)
  rwa [aj]at this) _ _ _ _ Y lf
 rw[o,show n+(l.toArray.size-n)=l.toArray.size by omega]at al
 exact wp_region_any W al
end
variable {cx:bx} {st st':af} {Q:cB} {E:Env}
variable [ah cx]
variable {ops:Array Oper} {l:List Oper}
theorem PK{K:World->Act->Prop}(h:nA cx K st):mq cx ops K [] st:=fun T w o=>h T w o
theorem SY{α:Type}{o:World->Act->Prop}(F:α->Prop)(S:α->af)(n:Nat)(L:∀a,F a->mq cx ops o (l.drop n) (S a))
  (O:∀K,(∀a,F a->nA cx K (S a))->mq cx ops K (l.take n) st):mq cx ops o l st:=by
 intro T w q
 have:=kN (P:=cx.P) (ops:=ops) (l1:=l.take n) (l2:=l.drop n)
  (O (fun w=>wpQuiet cx.P ops (Ext w) (o w) (l.drop n)) (fun a R T w q=>L a R T w q) T w q)
 rwa [List.take_append_drop]at this
end Go.Ev
namespace Go.Ev
open Go Go.RowKit
variable [bV]
variable {cx:bx} {m:Nat->Value} {st st':af} {T:Array Value} {w w':World} {E:Env} {Q:cB} {ops:Array Oper} {l:List Oper}
variable [ah cx]
theorem HV:∀(o:List MapEntry) (j:Nat) (e:MapEntry),(o.map (·.born)).Nodup->o[j]? =some e->o.filter (fun x=>!(x.born==e.born))=o.eraseIdx j
 |[],j,e,_,h=>by simp at h
 |x::o,0,e,q,h=>by
  simp at h
  subst h
  rw[List.map_cons,List.nodup_cons]at q
  rw[List.filter_cons,beq_self_eq_true]
  simp only[Bool.not_true,Bool.false_eq_true,if_false,List.eraseIdx_zero,List.tail_cons]
  refine List.filter_eq_self.2 fun y O=>?_
  have:¬y.born=x.born:=fun L=>q.1 (List.mem_map.2 ⟨y,O,L⟩)
  simp[this]
 |x::o,j+1,e,q,h=>by
  rw[List.map_cons,List.nodup_cons]at q
  have h':o[j]? =some e:=by simpa using h
  have R:¬x.born=e.born:=fun L=>q.1 (List.mem_map.2 ⟨e,List.mem_of_getElem? h',L.symm⟩)
  rw[List.filter_cons,if_pos (by simp[R]),HV o j e q.2 h',List.eraseIdx_cons_succ]
theorem Fe{α o:Type}{q:Value->α->Prop}{L:Value->o->Prop}:∀{es:List MapEntry} {ps:List (α×o)} (j:Nat),dG q L es ps->dG q L (es.eraseIdx j) (ps.eraseIdx j)
 |[],[],_,_=>trivial
 |[],_::_,_,h=>h.elim
 |_::_,[],_,h=>h.elim
 |_::_,_::_,0,⟨_,_,h⟩=>h
 |_::_,_::_,j+1,⟨O,R,U⟩=>⟨O,R,Fe j U⟩
theorem F6{α o:Type}{q:Value->α->Prop}{L:Value->o->Prop}:∀{es:List MapEntry} {ps:List (α×o)} {j:Nat} {e:MapEntry},dG q L es ps->es[j]? =some e->∃p,ps[j]? =some p/\q e.key p.1/\L e.val p.2
 |[],_,_,_,_,h=>by simp at h
 |_::_,[],_,_,h,_=>h.elim
 |e::_,p::_,0,O,⟨R,U,_⟩,h=>by simp at h;subst h;exact⟨p,rfl,R,U⟩
 |_::_,_::_,j+1,O,⟨_,_,V⟩,h=>by
  obtain⟨p,a,b,c⟩:=F6 V (j:=j) (by simpa using h)
  exact⟨p,by simpa using a,b,c⟩
theorem Rp{P:Program}(ty:TypeId){r R o:Nat}{seen:Array Nat}{es:Array MapEntry}(W:w.heap[r]? =some (.mapIter (some R) o seen o))(lc:w.heap[R]? =some (.map es o))(Y:∀x∈es.toList,x.born<o)
  (U:es.toList.filter (fun e=>!seen.contains e.born)≠[]):
  ∃(j:Nat) (e:MapEntry) (q:World),(es.toList.filter (fun e=>!seen.contains e.born))[j]? =some e/\(q=w\/q=w.drew)/\
   (Instr.next (.pointer (some ⟨r,0,none⟩)) false ty).run P w=.ok (.tuple #[.bool true,e.key,e.val]) {q with heap:=q.heap.setIfInBounds r (.mapIter (some R) o (seen.push e.born) o)}:=by
 simp only[Instr.next,getObj,Sem.run_bind,Sem.run,W,lc,Result.andThen,next_test_false seen es o o Y (Nat.le_refl _),Bool.false_eq_true,if_false]
 have V:∀x∈(Array.filter (fun e=>!seen.contains e.born) es).toList,x.born<o:=fun x O=>Y x (by simp at O⊢;exact O.1)
 rw[<-Array.toList_filter]at U⊢
 generalize Array.filter (fun e=>!seen.contains e.born) es=L at V U⊢
 have ld:L.filter (fun x=>decide (x.born<o))=L:=Array.filter_eq_self.2 (fun x O=>by simpa using V x (by simpa using O))
 have le:L.filter (fun x=>decide (x.born≥o))=#[]:=by
  rw[Array.filter_eq_empty_iff]
  intro x O
  have:=V x (by simpa using O)
  simp
  omega
 simp only[ld,le,Array.append_empty]
 have lf:L.size≠0:=fun h=>U (by rw[Array.eq_empty_of_size_eq_zero h])
 have lg:L.isEmpty=false:=by simp[Array.isEmpty,lf]
 simp only[lg,Bool.false_eq_true,if_false,Array.empty_append,Array.size_map]
 have lh:∃(j:Nat) (q:World),j<L.size/\(q=w\/q=w.drew)/\(choose (Question.mapNext L.size)).run P w=.ok j q:=by
  by_cases Z:L.size<=1
  ·exact⟨0,w,by omega,.inl rfl,by simp[choose,Sem.run,Question.forced,Z]⟩
  ·exact⟨_,w.drew,Nat.mod_lt _ (by omega),.inr rfl,by
    simp only[choose,Sem.run,Question.forced,decide_eq_true_eq,Z,if_false,Question.cut]
    rfl⟩
 obtain⟨j,q,la,lb,li⟩:=lh
 refine⟨j,L[j],q,by simp[la],lb,?_⟩
 have lj:q.heap[r]? =some (.mapIter (some R) o seen o):=by rcases lb with rfl|rfl<;>exact W
 simp only[li,Array.getElem?_map,Array.getElem?_eq_getElem la,Option.map_some,Sem.run_bind,setObj,Sem.run,Result.andThen,lj]
 rfl
theorem R6{lf:Nat}(ln:cx.n=lf){aa:Oper}{l:List Oper}{x:Operand}{d b:Nat}{k v:ag}{left last:List (k.el×v.el)}(lo:aa.op=.next x false)(aj:aa.dst=some d)(lp:Nat.blt d lf=true)(lq:aa.guard=none)
  (lr:aO st x=some (.iter b))(ls:look st.ad b=some (.cj k v left last))(W:left≠[])
  (h:∀j p,left[j]? =some p->bH cx ops Q l ((st.cL b (.cj k v (left.eraseIdx j) [p])).put d (.dq [⟨.bool,true⟩,⟨k,p.1⟩,⟨v,p.2⟩]))):bH cx ops Q (aa::l) st:=by
 rintro T w ⟨m,U⟩
 have Y:=aW ls
 obtain⟨g,O,_,lt⟩:=U.box Y
 have O:m b=.pointer (some ⟨g,0,none⟩):=O
 have lu:Act.eval ⟨T,ah.D cx⟩ x=.pointer (some ⟨g,0,none⟩):=by have:Act.eval ⟨T,ah.D cx⟩ x=m b:=a8 U lr;rw[this,O]
 rcases lt with ⟨_,Z,_⟩|⟨V,es,la,seen,Z,lb,lg,lh,li,lc,_⟩
 ·exact absurd Z W
 have lv:es.toList.filter (fun e=>!seen.contains e.born)≠[]:=fun ld=>W (List.eq_nil_of_length_eq_zero (by rw[<-oP lc,ld];rfl))
 obtain⟨j,e,q,le,a2,a3⟩:=Rp (P:=cx.P) aa.type Z lb lh lv
 obtain⟨p,lw,lj,lk⟩:=F6 lc le
 have lx:=fG Z
 have o:Same w q/\q.heap=w.heap:=by
  rcases a2 with rfl|rfl
  ·exact⟨⟨rfl,rfl,rfl,Nat.le_refl _,fun _=>Nat.le_refl _⟩,rfl⟩
  ·exact⟨⟨rfl,rfl,rfl,Nat.le_refl _,fun _=>Nat.le_succ _⟩,rfl⟩
 have ll:Touch m w b {q with heap:=q.heap.setIfInBounds g (.mapIter (some V) la (seen.push e.born) la)}:=
  ⟨⟨o.1.os,o.1.tape,o.1.output,by rw[Array.size_setIfInBounds];exact o.1.size,o.1.drawn⟩,fun k _ W=>by
   show(q.heap.setIfInBounds g _)[k]? =_
   rw[Array.getElem?_setIfInBounds_ne,o.2]
   intro e
   exact W (by rw[O,e];rfl)⟩
 have lm:b∈st.ids:=List.mem_append.2 (.inl (List.mem_map.2 ⟨_,Y,rfl⟩))
 obtain⟨R,L⟩:=an.fU (cx:=cx) lm ll (ids:=(st.cL b (.cj k v (left.eraseIdx j) [p])).ids) (iZ Y U.keys _).1
 have ly:V≠g:=fun e=>lg (.inr ⟨b,lm,by rw[O,e];rfl⟩)
 have lz:=U.cL Y ll (g:=g) (c:=.cj k v (left.eraseIdx j) [p]) O (by
  refine .inr ⟨V,es,la,seen.push e.born,?_,?_,fun ld=>lg (L V (fG lb) ld),lh,li,?_,.inr ⟨e,p,rfl,?_,by simp,?_,?_⟩⟩
  ·show(q.heap.setIfInBounds g _)[g]? =_
   rw[Array.getElem?_setIfInBounds_self_of_lt (by rw[o.2];exact lx)]
  ·show(q.heap.setIfInBounds g _)[V]? =_
   rw[Array.getElem?_setIfInBounds_ne (Ne.symm ly),o.2]
   exact lb
  ·have lA:es.toList.filter (fun x=>!(seen.push e.born).contains x.born)=(es.toList.filter (fun x=>!seen.contains x.born)).eraseIdx j:=by
    have lB:((es.toList.filter (fun x=>!seen.contains x.born)).map (·.born)).Nodup:=li.sublist (List.Sublist.map _ List.filter_sublist)
    rw[<-HV _ j e lB le,List.filter_filter]
    congr 1
    funext x
    rw[Array.contains_push,Bool.not_or,Bool.and_comm]
   rw[lA]
   exact ge (fun _ _ h=>cT R L h) (fun _ _ h=>cT R L h) (Fe j lc)
  ·exact(List.mem_filter.1 (List.mem_of_getElem? le)).1
  ·exact cT R L lj
  ·exact cT R L lk)
 have lC:=lz.put (d:=d) (by rw[ln];exact cw lp) (v:=.tuple #[.bool true,e.key,e.val]) (s:=.dq [⟨.bool,true⟩,⟨k,p.1⟩,⟨v,p.2⟩])
  ⟨[.bool true,e.key,e.val],rfl,dj.2 rfl,cT R L lj,cT R L lk,trivial⟩
 have lD:=h j p lw _ _ ⟨m,lC⟩
 refine wpList_step fun K lE=>?_
 have lF:dR ops st aa=some true:=by unfold dR;rw[lq]
 rw[gD ⟨m,U⟩ lF]
 simp only[if_true]
 refine fQ (ca (s:=Instr.next (.pointer (some ⟨g,0,none⟩)) false aa.type) (by simp only[execOp,lo,lu]) a3) ?_
 refine lE _ _ ?_
 rw[aj]
 exact lD
end Go.Ev
namespace Go.Ev
open Go Go.RowKit
variable [bV]
inductive hY:List Prop->Prop
 |n:hY []
 |c {p:Prop} {l:List Prop} (h:p) (t:hY l):hY (p::l)
theorem hY.all{l:List Prop}(h:hY l):bJ l:=by
 induction h with
 |n=>trivial
 |c h _ o=>exact⟨h,o⟩
def cI{α:Type}(l:List (Nat×α)):List Nat:=l.map (·.1)
def pb(r:Option (af×List ak×List Prop)):af:=match r with
 |some (s,_)=>s
 |none=>⟨[],[],[]⟩
theorem tf{r:Option (af×List ak×List Prop)}{ob:List Prop}(h:r.map Prod.snd=some ([],ob)):r=some (pb r,[],ob):=by
 match r,h with
 |some (s,aa,p),h=>cases h;rfl
def sg(r:Option af):af:=r.getD ⟨[],[],[]⟩
theorem yL{r:Option af}(h:r.isSome=true):r=some (sg r):=by
 match r,h with
 |some s,_=>rfl
def fH(st:af)(d:Nat)(b:Bool):af:={st with ab:=st.ab.map fun p=>bif Nat.beq p.1 d then(p.1,.val .bool b)else p}
variable {cx:bx} {st st':af} {Q:cB} {E:Env} {ops:Array Oper} {l:List Oper} {K:World->Act->Prop}
variable [ah cx]
theorem bz(q:br E cx)(o bs ap:List Nat){orc:List ak}{ob:List Prop}(L:(jF E ops l st orc o bs ap).map Prod.snd=some ([],ob))(O:hY ob)(h:N cx Q .normal (pb (jF E ops l st orc o bs ap))):bH cx ops Q l st:=
 Ie q o bs ap (tf L) O.all h
theorem cA(o:br E cx){orc:List ak}{ob:List Prop}(q:jF E ops l st orc (cI st'.ab) (cI st'.ad) (cI st'.rw)=some (st',[],ob))(L:hY ob)(h:N cx Q .normal st'):bH cx ops Q l st:=
 Ie o _ _ _ q L.all h
theorem ig(q:br E cx)(n:Nat)(o bs ap:List Nat){orc:List ak}{ob:List Prop}(L:(jF E ops (l.take n) st orc o bs ap).map Prod.snd=some ([],ob))(O:hY ob)(h:bH cx ops Q (l.drop n) (pb (jF E ops (l.take n) st orc o bs ap))):bH cx ops Q l st:=
 Ms q n o bs ap (tf L) O.all h
theorem Fq(q:br E cx)(o bs ap:List Nat){orc:List ak}{ob:List Prop}(L:(pl E ops l st orc o bs ap).map Prod.snd=some ([],ob))(O:hY ob)(h:N cx Q .normal (pb (pl E ops l st orc o bs ap))):CM cx ops Q l st:=
 PU q o bs ap (tf L) O.all h
theorem GB(d:Nat){b:Bool}(o:fH st d b=st)(q:b=true->bH cx ops Q l (fH st d true))(L:b=false->bH cx ops Q l (fH st d false)):bH cx ops Q l st:=by
 rw[<-o]
 exact LR (fH st d) q L
theorem nE(O:br E cx){α L:Type}{F:bP α L}{f:Nat}(R:bZ E.P E.G f F)(x:α)(y:L)(U:F.rel x y){aa:Oper}{ρ ρ':List (Nat×Nat)}{n:Nat}(V:F.n=n)(o bs q:List Nat)
  (W:dR ops st aa=some true)(Y:mg E st aa n f ρ=some (F.S x))(Z:(qq st (F.bE x y) aa n E.n ρ ρ' (F.ap x y) o bs q).isSome=true)(h:bH cx ops Q l (sg (qq st (F.bE x y) aa n E.n ρ ρ' (F.ap x y) o bs q))):bH cx ops Q (aa::l) st:=
 qw O R x y U V o bs q W Y (yL Z) h
theorem jm{e:Exit}(o:st.norm (cI st'.ab) (cI st'.ad) (cI st'.rw)=some st')(h:N cx Q e st'):N cx Q e st:=h.norm o
theorem Bu{e:Exit}(o bs ap:List Nat)(q:(st.norm o bs ap).isSome=true)(h:N cx Q e (sg (st.norm o bs ap))):N cx Q e st:=h.norm (yL q)
theorem Fk{e:Exit}(o bs ap:List Nat)(ρ:List (Nat×Nat))(q:((st.norm o bs ap).bind (·.bS ρ))=some st')(h:N cx Q e st'):N cx Q e st:=by
 obtain⟨s,L,O⟩:=Option.bind_eq_some_iff.1 q
 exact(N.bS ρ O h).norm L
theorem fI{e:Exit}(o bs ap:List Nat)(ρ:List (Nat×Nat))(q:((st.norm o bs ap).bind (·.bS ρ)).isSome=true)(h:N cx Q e (sg ((st.norm o bs ap).bind (·.bS ρ)))):N cx Q e st:=Fk o bs ap ρ (yL q) h
end Go.Ev
namespace Go.Ev
open Go Go.RowKit
variable [bV]
variable {cx:bx} {m:Nat->Value} {st st':af} {T:Array Value} {w w':World} {E:Env} {Q:cB} {ops:Array Oper} {l:List Oper}
variable [ah cx]
structure qx(P:Program)(G:World->Prop)(f e:Nat)(t:ag)(rel:List t.el->List t.el->Prop):Prop where
 enters:∀args w,(callFunc f args).run P w=.ok (.enter f args) w
 calls:∀(w:World) (M:Nat->Prop) (v:Value) (xs o:List t.el) (cells:List Value),G w->rel xs o->w.ownsRow 0 e t.cells v xs.length cells->bL (aK w M t) cells xs->
  Calls P f #[v] w fun x w'=>∃u q,x=.returned u/\Same w w'/\(∀b,b<w.heap.size->aP v≠some b->w'.heap[b]? =w.heap[b]?)/\w'.ownsRow 0 e t.cells v o.length q/\bL (aK w M t) q o
def zq(st:af)(aa:Oper)(f:Nat):Option Nat:=
 match aa.op with
 |.call c=>match c.callee,c.args.toList with
  |.value x,[a]=>match aO st x,aO st a with
   |some (.clos o []),some (.row r)=>bif Nat.beq o f then some r else none
   |_,_=>none
  |_,_=>none
 |_=>none
def It(P:Program)(n:Nat)(st:af)(aa:Oper):Option (Nat×ak):=
 match aa.dst,aa.op with
 |some d,.binOp .eql t x (.const (.slice none 0 0)) _=>match aO st x,P.underlying t,Nat.blt d n with
  |some (.val (.ab u) xs),some (.slice _),true=>some (d,⟨.ab u,xs⟩)
  |_,_,_=>none
 |_,_=>none
theorem Ac(L:br E cx){aa:Oper}{d:Nat}{u:ag}{xs:List u.el}(U:dR ops st aa=some true)(aY:It E.P E.n st aa=some (d,⟨.ab u,xs⟩))
  (h:∀b:Bool,(b=true->xs=[])->bH cx ops Q l (st.put d (.val .bool b))):bH cx ops Q (aa::l) st:=by
 rintro T w ⟨m,o⟩
 refine wpList_step fun K V=>?_
 rw[gD ⟨m,o⟩ U]
 simp only[if_true]
 unfold It at aY
 split at aY
 case h_2=>cases aY
 rename_i d' t x t2 aj W
 split at aY
 case h_2=>cases aY
 rename_i lf lg e Y O q
 cases aY
 have Z:=(bA (t:=.ab u) rfl).1 (a8 o Y)
 obtain⟨a,cap,cells,R,lh,li,la,_⟩:=Z
 simp only[List.cons.injEq,and_true]at R
 rw[<-L.P]at O
 have lb:(execOp (Act.eval ⟨T,ah.D cx⟩) aa).run cx.P w=.ok (.value (.bool a.isNone)) w:=by
  refine ca (s:=do eqGuard .eql t x (.const (.slice none 0 0)) (Act.eval ⟨T,ah.D cx⟩ x) (.slice none 0 0);binOp .eql t (Act.eval ⟨T,ah.D cx⟩ x) (.slice none 0 0)) (by simp only[execOp,W];rfl) ?_
  rw[R,Sem.run_bind]
  have lc:(eqGuard .eql t x (.const (.slice none 0 0)) (.slice a xs.length cap) (.slice none 0 0)).run cx.P w=.ok () w:=rfl
  rw[lc]
  exact Lib.run_eql_slice_nil w t e a _ cap 0 0 O
 refine fQ lb ?_
 rw[aj]
 have q:d<cx.n:=by rw[L.n];exact cw q
 refine V _ _ (h a.isNone (fun ld=>?_) _ _ ⟨m,o.put q (s:=.val .bool a.isNone) (dj.2 rfl)⟩)
 have le:a=none:=by simpa using ld
 have:=la le
 exact List.length_eq_zero_iff.1 (by omega)
end Go.Ev
namespace Go.Ev
open Go Go.RowKit
variable [bV]
variable {cx:bx} {m:Nat->Value} {st st':af} {T:Array Value} {w w':World} {E:Env} {Q:cB} {ops:Array Oper} {l:List Oper}
variable [ah cx]
def qL(n:Nat)(st:af)(aa:Oper):Option (Nat×Nat):=
 match aa.op,aa.dst,aa.guard with
 |.next x false,some d,none=>match aO st x,Nat.blt d n with
  |some (.iter b),true=>some (d,b)
  |_,_=>none
 |_,_,_=>none
theorem Ha{n:Nat}{aa:Oper}{d b:Nat}(h:qL n st aa=some (d,b)):∃x,aa.op=.next x false/\aa.dst=some d/\aa.guard=none/\aO st x=some (.iter b)/\Nat.blt d n=true:=by
 unfold qL at h
 split at h
 case h_2=>cases h
 rename_i x d' o aj q
 split at h
 case h_2=>cases h
 rename_i R L O
 cases h
 exact⟨x,o,aj,q,L,O⟩
theorem sh(q:br E cx){aa:Oper}{d b:Nat}{k v:ag}{left last:List (k.el×v.el)}(aY:qL E.n st aa=some (d,b))(L:look st.ad b=some (.cj k v left last))(O:left=[])
  (R:(st.put d (.dq [⟨.bool,false⟩])).norm (cI st'.ab) (cI st'.ad) (cI st'.rw)=some st')(h:bH cx ops Q l st'):bH cx ops Q (aa::l) st:=by
 obtain⟨x,U,aj,V,W,Y⟩:=Ha aY
 rintro T w ⟨m,o⟩
 obtain⟨u,w',aA,Z,la,lb⟩:=IG (T:=T) o U W L O (orc:=[]) (ob:=[])
 refine wpList_step fun K lc=>?_
 have ld:dR ops st aa=some true:=by unfold dR;rw[V]
 rw[gD ⟨m,o⟩ ld]
 simp only[if_true]
 refine fQ Z ?_
 refine lc _ _ ?_
 rw[aj]
 exact h _ _ ⟨aA,(la.put (by rw[q.n];exact cw Y) lb).norm R⟩
theorem sj(L:br E cx){aa:Oper}{d b:Nat}{k v:ag}{left last:List (k.el×v.el)}{p:k.el×v.el}(aY:qL E.n st aa=some (d,b))(O:look st.ad b=some (.cj k v left last))(q:left=[p])
  (R:((st.cL b (.cj k v [] [p])).put d (.dq [⟨.bool,true⟩,⟨k,p.1⟩,⟨v,p.2⟩])).norm (cI st'.ab) (cI st'.ad) (cI st'.rw)=some st')(h:bH cx ops Q l st'):bH cx ops Q (aa::l) st:=by
 obtain⟨x,U,aj,V,W,Y⟩:=Ha aY
 refine R6 L.n U aj Y V W O (by rw[q];simp) fun j la o=>?_
 rw[q]at o⊢
 match j,o with
 |0,o=>
  simp at o
  subst o
  rintro T w ⟨m,Z⟩
  exact h T w ⟨m,Z.norm R⟩
end Go.Ev
namespace Go.Ev
open Go Go.RowKit
variable [bV]
variable {cx:bx} {m:Nat->Value} {st st':af} {T:Array Value} {w:World} {E:Env} {Q:cB} {ops:Array Oper} {l:List Oper}
variable [ah cx]
def zn(st:af)(aa:Oper)(n r:Nat)(c:cp):Option af:=
 match aa.dst with
 |none=>some (st.setRow r c)
 |some d=>match Nat.blt d n with
  |true=>some ((st.setRow r c).put d .any)
  |false=>none
theorem Te(V:br E cx){f e:Nat}{t:ag}{rel:List t.el->List t.el->Prop}(ld:qx E.P E.G f e t rel)(xs O:List t.el)(le:rel xs O){aa:Oper}(r:Nat)
  (lf:dR ops st aa=some true)(o:zq st aa f=some r)(lg:look st.rw r=some ⟨e,t,xs⟩)(L:zn st aa E.n r ⟨e,t,O⟩=some st')(h:bH cx ops Q l st'):bH cx ops Q (aa::l) st:=by
 rintro T w ⟨m,q⟩
 refine wpList_step fun K Z=>?_
 rw[gD ⟨m,q⟩ lf]
 simp only[if_true]
 unfold zq at o
 split at o
 case h_2=>cases o
 rename_i c lh
 split at o
 case h_2=>cases o
 rename_i li a lj lk
 split at o
 case h_2=>cases o
 rename_i la lC ll lm
 cases R:Nat.beq la f with
 |false=>rw[R]at o;cases o
 |true=>
 rw[R]at o
 cases o
 have ln:=Nat.eq_of_beq_eq_true R
 subst ln
 have lo:Act.eval ⟨T,ah.D cx⟩ li=.func (.func la) #[] (([]:List Nat).map m).toArray:=a8 q ll
 have lp:Act.eval ⟨T,ah.D cx⟩ a=m r:=a8 q lm
 have U:=aW lg
 obtain⟨cells,lq,lD,lr⟩:=q.rows r _ U
 have W:=ld
 rw[<-V.P]at W
 have ls:=W.calls w (ar cx m st.ids) (m r) xs O cells (V.oO w q.frame) le lq lr
 unfold Oper.wp
 rw[qV lh lj lo W.enters w,lk]
 simp only[List.map_cons,List.map_nil,List.append_nil,lp]
 refine ls.mono ?_
 rintro x w' ⟨u,lE,rfl,lt,lu,lv,lw⟩
 show K (Act.put ⟨T,ah.D cx⟩ aa.dst u) w'
 have lx:r∈st.ids:=List.mem_append.2 (.inr (List.mem_map.2 ⟨_,U,rfl⟩))
 have lb:Touch m w r w':=⟨lt,fun b R ly=>lu b R fun e=>ly (fO e)⟩
 obtain⟨lz,_⟩:=k7 U q.keys ⟨e,t,O⟩
 obtain⟨lA,lB⟩:=an.fU (cx:=cx) lx lb lz
 have lc:an cx m (st.setRow r ⟨e,t,O⟩) T w':=q.setRow U lb lv (cP (fun _ _=>cq lA lB t) lw)
 unfold zn at L
 split at L
 ·rename_i aj
  rw[aj]
  cases L
  exact Z _ _ (h _ _ ⟨m,lc⟩)
 ·rename_i d aj
  split at L
  ·rename_i Y
   rw[aj]
   have Y:d<cx.n:=by rw[V.n];exact cw Y
   cases L
   exact Z _ _ (h _ _ ⟨m,lc.put Y (s:=.any) trivial⟩)
  ·cases L
def ghost(P:Program)(st:af)(aa:Oper)(i j:Nat):Option af:=
 match aa.op with
 |.call c=>match c.argTypes.toList[i]? with
  |some t=>match dE P t with
   |some (e,_)=>match mi P e,gW j st.ids with
    |some k,false=>some (st.dv [j] [(j,.bn e k [] none)] [] (ao.dx [j]))
    |_,_=>none
   |none=>none
  |none=>none
 |_=>none
def k8:Value:=.tuple #[.slice none 0 0]
theorem Jf(h:an cx m st T w){P:Program}{aa:Oper}{i j:Nat}(q:ghost P st aa i j=some st'):an cx (bt m j k8) st' T w:=by
 unfold ghost at q
 split at q
 case h_2=>cases q
 split at q
 case h_2=>cases q
 split at q
 case h_2=>cases q
 split at q
 case h_2=>cases q
 rename_i e _ _ _ _ k Y Z
 cases q
 have X:gt cx m (bt m j k8) st w w [j] [(j,.bn e k [] none)] []:={
  same:=⟨rfl,rfl,rfl,Nat.le_refl _,fun _=>Nat.le_refl _⟩
  block:=fun _ _ _=>rfl
  old:=fun b _ o=>cF _ _ fun e=>o (by simp[e])
  new:=fun b o g q=>by
   have:b=j:=by simpa using o
   subst this
   rw[b7]at q
   obtain⟨u,R,U⟩:=q
   have:u=.slice none 0 0:=by simpa[k8]using R
   subst this
   cases U
  apart:=fun a b V o la=>by
   have:a=j:=by simpa using V
   have:b=j:=by simpa using o
   omega
  keys:=by simp
  kz:=fun b o _=>by
   have:b=j:=by simpa using o
   simp[this]
  j8:=fun b c o O=>by simp at o;rw[o.2]at O;cases O
  eO:=fun r c L=>by cases L}
 refine h.dv X (fun M v s W=>kB (fun b o=>cF _ _ fun e=>o (by simp[e])) W) (fun b c o=>?_) (fun r c L=>by cases L)
 simp only[List.mem_cons,Prod.mk.injEq,List.not_mem_nil,or_false]at o
 obtain⟨rfl,rfl⟩:=o
 rw[b7]
 exact⟨0,⟨_,[],rfl⟩,.slice none 0 0,[],[],rfl,World.ownsRow_nil w 0 e k.u.cells,⟨rfl,rfl⟩,(show([]:List Nat).Nodup from List.nodup_nil)⟩
def q0(P:Program)(st:af)(i j:Nat):Nat->List TypeId->List Operand->Option (List ao)
 |_,[],[]=>some []
 |n,t::o,x::xs=>match(match Nat.beq n i,x with
   |true,.const (.slice none 0 0)=>some (ao.osl j)
   |_,_=>qj P st t x),q0 P st i j (n+1) o xs with
  |some v,some vs=>some (v::vs)
  |_,_=>none
 |_,_,_=>none
theorem Dy(h:an cx m st T w){i j:Nat}(O:m j=k8):∀{n:Nat} {R:List TypeId} {xs:List Operand} {q:List ao},q0 cx.P st i j n R xs=some q->cg w (ar cx m st.ids) m (xs.map (Act.eval ⟨T,ah.D cx⟩)) q
 |_,[],[],_,o=>by cases o;trivial
 |_,[],_::_,_,o=>by cases o
 |_,_::_,[],_,o=>by cases o
 |n,t::R,x::xs,q,o=>by
  unfold q0 at o
  split at o
  ·rename_i v V L U
   cases o
   refine⟨?_,Dy h O U⟩
   split at L
   ·cases L
    exact⟨[],O⟩
   ·exact Gp h L
  ·cases o
def AK(E:Env)(st:af)(aa:Oper)(n f:Nat)(ρ:List (Nat×Nat))(i j:Nat):Option af:=
 match aa.op with
 |.call c=>match c.callee with
  |.value x=>match aO st x with
   |some (.clos o bs)=>match Nat.beq o f,mR st bs,q0 E.P st i j 0 c.argTypes.toList c.args.toList with
    |true,true,some q=>hU st n ρ (q++bs.map fun b=>ao.ptr b 0)
    |_,_,_=>none
   |_=>none
  |_=>none
 |_=>none
theorem Md(O:br E cx){α Z:Type}{F:bP α Z}{f:Nat}(lh:bZ E.P E.G f F)(x:α)(y:Z)(li:F.rel x y){aa:Oper}{ρ ρ':List (Nat×Nat)}{n i j:Nat}{V:af}(lj:F.n=n)(lk:ghost E.P V aa i j=some st)
  (ll:dR ops V aa=some true)(o:AK E st aa n f ρ i j=some (F.S x))(q:im st (F.bE x y) aa n E.n ρ ρ' (F.ap x y)=some st')(h:bH cx ops Q l st'):bH cx ops Q (aa::l) V:=by
 subst lj
 rintro T w ⟨m0,la⟩
 refine wpList_step fun K lb=>?_
 rw[gD ⟨m0,la⟩ ll]
 simp only[if_true]
 have L:=Jf la lk
 have lc:bt m0 j k8 j=k8:=b7 _ _ _
 generalize bt m0 j k8=m at L lc
 have W:=lh
 rw[<-O.P]at W
 have lm:∀(R:List ao) (vs:List Value),hU st F.n ρ R=some (F.S x)->cg w (ar cx m st.ids) m vs R->(execOp (Act.eval ⟨T,ah.D cx⟩) aa).run cx.P w=.ok (.enter f vs.toArray) w->aa.wp cx.P ⟨T,ah.D cx⟩ w K Q:=by
  intro R vs o ld ln
  have lo:=zj L o ld
  obtain⟨lp,lq⟩:=A6 o
  have lr:=jW ld
  have ls:(F.S x).ab.length=R.length:=uo o
  have lt:=W.calls (sub cx m st w F.n ρ) rfl rfl (fun w' U=>O.oO w' (AH L U)) x y li _ w (by rw[ls];exact lr) ⟨_,lo⟩
  unfold Oper.wp
  rw[ln]
  refine lt.mono ?_
  rintro e w' ⟨v,aA,lF,rfl,lu,lv⟩
  unfold im at q
  split at q
  case h_2=>cases q
  rename_i lG s le lw
  rw[<-O.n]at le
  obtain⟨m2,lf,lx⟩:=zB L lp lq lu le
  show K (Act.put ⟨T,ah.D cx⟩ aa.dst v) w'
  split at q
  ·rename_i aj
   rw[aj]
   cases q
   exact lb _ _ (h _ _ ⟨m2,lf⟩)
  ·rename_i d aj
   split at q
   ·rename_i Y
    rw[aj]
    have Y:d<cx.n:=by rw[O.n];exact cw Y
    cases q
    exact lb _ _ (h _ _ ⟨m2,lf.put Y (lx v s (Eu lw lv))⟩)
   ·cases q
 unfold AK at o
 split at o
 case h_2=>cases o
 rename_i c ly
 split at o
 case h_2=>cases o
 rename_i lz lA
 split at o
 case h_2=>cases o
 rename_i lB bG lC
 split at o
 case h_2=>cases o
 rename_i R U lD lg
 have U:=Nat.eq_of_beq_eq_true U
 subst U
 rw[<-O.P]at lg
 have lE:Act.eval ⟨T,ah.D cx⟩ lz=.func (.func lB) #[] (bG.map m).toArray:=a8 L lC
 exact lm _ _ o (jI (Dy L lc lg) (oQ L lD)) (qV ly lA lE W.enters w)
end Go.Ev
namespace Go.Ev
open Go Go.RowKit
variable [bV]
section
variable {P:Program}
def Calm{α:Type}(P:Program)(s:Sem α):Prop:=∀w x o,s.run P w=.ok x o->o=w/\∀w',s.run P w'=.ok x w'
theorem Calm.pure{α:Type}(x:α):Calm P (Pure.pure x:Sem α):=fun w y o h=>by cases h;exact⟨rfl,fun _=>rfl⟩
theorem Calm.bind{α L:Type}{s:Sem α}{f:α->Sem L}(O:Calm P s)(R:∀x,Calm P (f x)):Calm P (s>>=f):=fun w y U h=>by
 rw[Sem.run_bind]at h
 cases o:s.run P w with
 |halt e q=>rw[o]at h;cases h
 |ok x q=>
  rw[o]at h
  obtain⟨rfl,V⟩:=O w x q o
  obtain⟨rfl,W⟩:=R x _ y U h
  exact⟨rfl,fun w'=>by rw[Sem.run_bind,V w'];exact W w'⟩
theorem Calm.stuck{α:Type}(s:String):Calm P (stuck s:Sem α):=fun w y o h=>by cases h
theorem Calm.HG{α:Type}(s:Unsupported):Calm P (unsupported s:Sem α):=fun w y o h=>by cases h
theorem Calm.program:Calm P program:=fun w y o h=>by cases h;exact⟨rfl,fun _=>rfl⟩
theorem Calm.never{α:Type}{s:Sem α}(h:∀w x o,s.run P w≠.ok x o):Calm P s:=fun w x o e=>absurd e (h w x o)
theorem mH{α L:Type}{s:Sem α}{f:α->Sem L}(O:∀x w y o,(f x).run P w≠.ok y o):∀w y o,(s>>=f).run P w≠.ok y o:=fun w y o h=>by
 rw[Sem.run_bind]at h
 cases q:s.run P w with
 |halt e R=>rw[q]at h;cases h
 |ok x R=>rw[q]at h;exact O _ _ _ _ h
theorem hd{α:Type}(e:RuntimeError):∀w (x:α) o,(runtimePanic e:Sem α).run P w≠.ok x o:=by
 unfold runtimePanic
 refine mH fun p=>?_
 cases e<;>simp only
 case typeAssertion=>exact mH fun _=>mH fun _ w x o h=>by cases h
 case panicNil=>exact mH fun _=>mH fun _ w x o h=>by cases h
 all_goals exact fun w x o h=>by cases h
theorem Calm.panic{α:Type}(e:RuntimeError):Calm P (runtimePanic e:Sem α):=.never (hd e)
theorem Calm.bounds{α:Type}(k:IntKind)(x y:Int)(c:BoundsCode):Calm P (boundsPanic k x y c:Sem α):=.never (by
 unfold boundsPanic
 dsimp only
 split
 ·exact mH fun _=>hd _
 ·exact mH fun _=>hd _)
theorem Calm.underlying(t:TypeId):Calm P (underlying t):=Calm.program.bind fun p=>by
 split
 ·exact .pure _
 ·exact .stuck _
theorem Calm.typeInfo(t:TypeId):Calm P (typeInfo t):=Calm.program.bind fun p=>by
 split
 ·exact .pure _
 ·exact .stuck _
theorem Calm.sizeOf(t:TypeId):Calm P (sizeOf t):=by
 unfold Go.sizeOf
 first
 |exact Calm.bind (.typeInfo t) fun _=>.pure _
 |exact Calm.bind .program fun _=>.pure _
theorem Calm.asBool(v:Value):Calm P (asBool v):=by
 unfold Go.asBool
 split
 ·exact .pure _
 ·exact .stuck _
theorem Calm.asIntOf(v:Value):Calm P (asIntOf v):=by
 unfold Go.asIntOf
 split
 ·exact .pure _
 ·exact .HG _
 ·exact .stuck _
theorem Calm.sureAddr(v:Value):Calm P (Instr.sureAddr v):=by
 unfold Instr.sureAddr
 split
 ·exact .pure _
 ·exact .stuck _
theorem Calm.indexAt(t:TypeId)(x i:Value):Calm P (Instr.indexAt t x i):=by
 unfold Instr.indexAt
 refine Calm.bind (.asIntOf i) fun p=>?_
 refine Calm.bind (.underlying t) fun d=>?_
 have key:∀U:Option Addr×Nat×TypeId,Calm P (match U with
   |(L,o,q)=>do
    let O<-Go.underlying t
    have R:Bool:=decide (o<=1)&&match O with
      |TypeDesc.array o q=>true
      |x=>false
    match L with
     |some a=>
      if 0<=p.snd/\p.snd<↑o then do
       let O<-Go.sizeOf q
       Pure.pure (Value.pointer (some (a.add (p.snd.toNat*O))))
      else
       if R=true then
        unsupported (Unsupported.noEntry "op/indexAddr.an index out of range at an array of length 0 or 1 (ledger 616)")
       else boundsPanic p.fst p.snd (↑o) BoundsCode.index
     |none=>boundsPanic p.fst p.snd 0 BoundsCode.index):=by
  rintro⟨L,o,q⟩
  refine Calm.bind (.underlying t) fun d2=>?_
  dsimp only
  generalize (decide (o<=1)&&match d2 with
      |TypeDesc.array o q=>true
      |x=>false)=R
  cases L with
  |some a=>
   dsimp only
   split
   ·exact Calm.bind (.sizeOf _) fun _=>.pure _
   ·split
    ·exact .HG _
    ·exact .bounds _ _ _ _
  |none=>exact .bounds _ _ _ _
 dsimp only
 split
 ·exact Calm.bind (.sureAddr _) fun _=>Calm.bind (.pure _) key
 ·exact Calm.bind (.pure _) key
 ·exact Calm.bind (.stuck _) key
theorem IJ(v:Value):(∃a,v=.pointer (some a))\/∃s,Instr.sureAddr v=stuck s:=by
 unfold Instr.sureAddr
 split
 ·exact .inl ⟨_,rfl⟩
 ·exact .inr ⟨_,rfl⟩
theorem Calm.fieldAt{s:TypeId}{f off:Nat}{u:ag}(h:fieldInfo P s f=some (off,u))(v:Value):Calm P (Instr.fieldAt s v f):=by
 rcases IJ v with ⟨a,rfl⟩|⟨m,o⟩
 ·intro w x q e
  rw[kO h]at e
  cases e
  exact⟨rfl,fun w'=>kO h a w'⟩
 ·unfold Instr.fieldAt
  refine Calm.bind (.underlying s) fun d=>?_
  split
  ·split
   ·rw[o]
    exact fun w x q e=>by cases e
   ·exact .stuck _
  ·exact .stuck _
theorem Mx{x y:Value}{w q:World}{k:IntKind}{n:Int}(h:(Builtin.min2 x y).run P w=.ok (.int k n) q):∃m,x=.int k m/\q=w/\∀w',(Builtin.min2 x y).run P w'=.ok (.int k n) w':=by
 unfold Builtin.min2 at h⊢
 split at h
 ·cases h
  exact⟨_,rfl,rfl,fun _=>rfl⟩
 ·split at h
  ·rw[Sem.run_bind]at h
   generalize Sem.run P (choose _) w=r at h
   cases r with
   |ok a o=>cases h
   |halt e o=>cases h
  ·cases h
  ·cases h
  ·cases h
 ·rename_i a b
  rw[Sem.run_bind]at h
  generalize Sem.run P (Op.stringOp _ a b) w=r at h
  cases r with
  |halt e o=>cases h
  |ok a o=>
   rw[Result.andThen_ok,Sem.run_bind]at h
   generalize Sem.run P (asBool a) o=r at h
   cases r with
   |halt e o=>cases h
   |ok a o=>cases h
 ·cases h
 ·cases h
 ·cases h
theorem E9:∀(rest:List Value) (x:Value) (w o:World) (k:IntKind) (n:Int),(rest.foldlM Builtin.min2 x).run P w=.ok (.int k n) o->(∃m,x=.int k m)/\o=w/\∀w',(rest.foldlM Builtin.min2 x).run P w'=.ok (.int k n) w'
 |[],x,w,o,k,n,h=>by
  rw[List.foldlM_nil]at h⊢
  cases h
  exact⟨⟨_,rfl⟩,rfl,fun _=>rfl⟩
 |y::rest,x,w,o,k,n,h=>by
  rw[List.foldlM_cons,Sem.run_bind]at h
  cases q:(Builtin.min2 x y).run P w with
  |halt e L=>rw[q]at h;cases h
  |ok z L=>
   rw[q]at h
   obtain⟨⟨m,rfl⟩,O,R⟩:=E9 rest z L o k n h
   obtain⟨aA,rfl,U,V⟩:=Mx q
   exact⟨⟨_,rfl⟩,O.trans U,fun w'=>by rw[List.foldlM_cons,Sem.run_bind,V w'];exact R w'⟩
def gu(aa:Oper):Bool:=match aa.op with
 |.move _=>true
 |.assign _=>true
 |.nilCheck _=>true
 |.fieldAddr _ _ _=>true
 |.indexAddr _ _ _=>true
 |.call {callee:=.builtin .min,.. }=>true
 |.binOp _ _ _ _ _=>true
 |_=>false
def SH:ao->Bool
 |.ptr _ _=>true
 |.vptr _ _=>true
 |.dA _ _ _ _=>true
 |.dm _ _=>true
 |.dy _ _ _ _=>true
 |.eH _ _ _ _ _=>true
 |_=>false
def EO:ao->Bool
 |.val (.int _) _=>true
 |_=>false
def ow(P:Program)(aa:Oper)(s:ao):Bool:=match aa.op with
 |.nilCheck _=>SH s
 |.fieldAddr t _ f=>(fieldInfo P t f).isSome
 |.call _=>gu aa&&EO s
 |.binOp _ _ _ _ _=>false
 |_=>gu aa
theorem wI{aa:Oper}(h:gu aa=true){ρ:Operand->Value}{w O:World}{n:Next}(o:(execOp ρ aa).run P w=.ok n O):∃v,n=.value v:=by
 have key:∀(s:Sem Value),(do Pure.pure (Next.value (<-s)):Sem Next).run P w=.ok n O->∃v,n=.value v:=fun s h=>by
  rw[Sem.run_bind]at h
  cases o:s.run P w with
  |halt e L=>rw[o]at h;cases h
  |ok v L=>rw[o]at h;cases h;exact⟨v,rfl⟩
 unfold gu at h
 split at h
 ·rename_i x q;simp only[execOp,q]at o;cases o;exact⟨_,rfl⟩
 ·rename_i x q;simp only[execOp,q]at o;cases o;exact⟨_,rfl⟩
 ·rename_i x q
  simp only[execOp,q]at o
  split at o
  ·exact absurd o (hd _ _ _ _)
  ·exact absurd o (hd _ _ _ _)
  ·exact absurd o (hd _ _ _ _)
  ·split at o
   ·exact absurd o (hd _ _ _ _)
   ·rw[Sem.run_bind]at o
    rw[run_program,Result.andThen_ok,Sem.run_bind]at o
    generalize Sem.run P (nilAhead _ _ _ _) w=R at o
    cases R with
    |halt e L=>cases o
    |ok a L=>
     rw[Result.andThen_ok]at o
     split at o
     ·rw[Sem.run_bind]at o;cases o
     ·cases o;exact⟨_,rfl⟩
   ·cases o;exact⟨_,rfl⟩
  ·cases o;exact⟨_,rfl⟩
 ·rename_i t x f q;simp only[execOp,q]at o;exact key _ o
 ·rename_i t x i q;simp only[execOp,q]at o;exact key _ o
 ·rename_i args U q
  simp only[execOp,q]at o
  exact key (Builtin.min_ _ _ _) o
 ·rename_i V t x y u q;simp only[execOp,q]at o;exact key _ o
 ·cases h
theorem RA{aa:Oper}{s:ao}(h:ow P aa s=true){ρ:Operand->Value}{w Z O:World}{v:Value}{M:Nat->Prop}{m:Nat->Value}(o:(execOp ρ aa).run P w=.ok (.value v) Z)(L:aN O M m v s):
  gu aa=true/\∀w',(execOp ρ aa).run P w'=.ok (.value v) w':=by
 have key:∀(s:Sem Value),Calm P s->execOp ρ aa=(do Pure.pure (Next.value (<-s)))->∀w',(execOp ρ aa).run P w'=.ok (.value v) w':=fun s la U=>by
  rw[U]at o⊢
  exact(Calm.bind la (fun v=>Calm.pure (Next.value v)) _ _ _ o).2
 unfold ow at h
 split at h
 ·rename_i x q
  refine⟨by unfold gu;rw[q],?_⟩
  have lb:∃a,v=.pointer (some a):=by
   cases s<;>first|(cases h;done)|skip
   all_goals unfold aN at L
   ·obtain⟨g,_,rfl⟩:=L;exact⟨_,rfl⟩
   ·obtain⟨g,_,rfl,_⟩:=L;exact⟨_,rfl⟩
   ·obtain⟨g,_,_,_,rfl⟩:=L;exact⟨_,rfl⟩
   ·obtain⟨g,_,rfl⟩:=L;exact⟨_,rfl⟩
   ·obtain⟨g,_,_,_,_,rfl⟩:=L;exact⟨_,rfl⟩
   ·obtain⟨_,_,g,_,_,_,_,rfl⟩:=L;exact⟨_,rfl⟩
  obtain⟨a,rfl⟩:=lb
  have e:ρ x=.pointer (some a):=by
   simp only[execOp,q]at o
   generalize ρ x=y at o
   split at o
   ·exact absurd o (hd _ _ _ _)
   ·exact absurd o (hd _ _ _ _)
   ·exact absurd o (hd _ _ _ _)
   ·split at o
    ·exact absurd o (hd _ _ _ _)
    ·rw[Sem.run_bind]at o
     rw[run_program,Result.andThen_ok,Sem.run_bind]at o
     generalize Sem.run P (nilAhead _ _ _ _) w=lc at o
     cases lc with
     |halt e O=>cases o
     |ok a O=>
      rw[Result.andThen_ok]at o
      split at o
      ·rw[Sem.run_bind]at o;cases o
      ·cases o
    ·cases o
   ·cases o;rfl
  intro w'
  simp only[execOp,q,e]
  rfl
 ·rename_i t x f q
  refine⟨by unfold gu;rw[q],?_⟩
  cases W:fieldInfo P t f with
  |none=>rw[W]at h;cases h
  |some p=>exact key (Instr.fieldAt t (ρ x) f) (Calm.fieldAt W _) (by simp only[execOp,q])
 ·rename_i c q
  simp only[Bool.and_eq_true]at h
  refine⟨h.1,?_⟩
  have R:=h.1
  unfold gu at R
  rw[q]at R
  split at R
  all_goals first|(rename_i e;cases e;done)|skip
  ·rename_i args Y e
   cases e
   have ld:∃k n,v=.int k n:=by
    have V:=h.2
    unfold EO at V
    split at V
    ·rename_i k n
     exact⟨k,n,cJ.1 L⟩
    ·cases V
   obtain⟨k,n,rfl⟩:=ld
   have U:execOp ρ aa=(do Pure.pure (Next.value (<-Builtin.min_ Y aa.type (args.map ρ)))):=by simp only[execOp,q];rfl
   rw[U]at o⊢
   rw[Sem.run_bind]at o
   unfold Builtin.min_ at o⊢
   split at o
   ·cases o
   ·rename_i x rest lj
    cases aY:Sem.run P (List.foldlM Builtin.min2 x rest) w with
    |halt e O=>rw[aY]at o;cases o
    |ok z O=>
     rw[aY]at o
     cases o
     intro w'
     rw[Sem.run_bind,(E9 rest x _ _ _ _ aY).2.2 w']
     rfl
  ·cases R
 ·cases h
 ·rename_i le lf lg lh
  refine⟨h,?_⟩
  unfold gu at h
  split at h
  ·rename_i x q;exact key (Pure.pure (ρ x)) (.pure _) (by simp only[execOp,q];rfl)
  ·rename_i x q;exact key (Pure.pure (ρ x)) (.pure _) (by simp only[execOp,q];rfl)
  ·rename_i x q;exact absurd q (le x)
  ·rename_i t x f q;exact absurd q (lf t x f)
  ·rename_i t x i q;exact key (Instr.indexAt t (ρ x) (ρ i)) (.indexAt _ _ _) (by simp only[execOp,q])
  ·rename_i args Y q;exact absurd q (lg _)
  ·rename_i li t x y u q;exact absurd q (lh li t x y u)
  ·cases h
end
section
variable {P:Program} {ops:Array Oper} {md:Region.Mode}
def bB(ops:Array Oper):List Nat->List Oper
 |[]=>[]
 |i::is=>match ops[i]? with
  |some aa=>aa::bB ops is
  |none=>bB ops is
def eJ(md:Region.Mode)(ops:Array Oper)(K:Array Bool->Bool):List Nat->Array Bool->Bool
 |[],done=>K done
 |i::is,done=>(Region.ready md ops done).contains i&&Region.free md ops done i&&eJ md ops K is (done.setIfInBounds i true)
def qi(ops:Array Oper):List Nat->Bool
 |[]=>true
 |i::is=>(match ops[i]? with
  |some aa=>gu aa
  |none=>false)&&qi ops is
def eS(md:Region.Mode)(ops:Array Oper):List Nat->Array Bool->Bool
 |[],done=>(Region.ready md ops done).isEmpty
 |i::is,done=>decide (Region.ready md ops done=[i])&&eS md ops is (done.setIfInBounds i true)
def DW(md:Region.Mode)(ops:Array Oper)(done:Array Bool):Bool:=
 (List.range ops.size).all fun j=>!done.getD j false||(match ops[j]? with
  |some aa=>aa.after.all fun e=>!Region.binds md e||done.getD e.on false
  |none=>true)
def DU(md:Region.Mode)(ops:Array Oper)(o:List Nat):List Nat:=o.filter fun i=>!(o.any fun j=>Nat.blt i j&&Region.waitsFor md ops j i)
def sa(md:Region.Mode)(ops:Array Oper)(done:Array Bool)(o:List Nat):Bool:=
 (List.range ops.size).all fun t=>done.getD t false||fE t o||(match ops[t]? with
  |some aa=>(aa.after.any fun e=>Region.binds md e&&(!fE e.on o&&!done.getD e.on true))||(DU md ops o).all fun i=>Region.waitsFor md ops t i
  |none=>true)
def jV(md:Region.Mode)(ops:Array Oper)(q o O:List Nat)(L:Array Bool->Bool):Bool:=
 Region.noSelect ops&&qi ops q&&(O.all fun i=>!fE i o)&&eJ md ops (fun d=>match o.reverse with
  |[]=>L d
  |_::_=>DW md ops d&&sa md ops d o&&eJ md ops L o d) q (Array.replicate ops.size false)
def BF(md:Region.Mode)(ops:Array Oper)(o q C:List Nat):Bool:=jV md ops o q C (eS md ops C)
theorem Ny{g:Nat}{Q:Exit->Act->World->Prop}{K:Act->Prop}{Y:Array Bool->Bool}{w:World}(Z:Region.noSelect ops=true)(la:∀c a w,¬Q (.panic c) a w)(le:∀done a,Y done=true->K a->wpAny P md ops Q g done a w):
  ∀(q:List Nat) (done:Array Bool) (a:Act),qi ops q=true->eJ md ops Y q done=true->wpQuiet P ops (fun _=>True) K (bB ops q) a->wpAny P md ops Q (q.length+g) done a w:=by
 intro q
 induction q with
 |nil=>intro done a _ o h;rw[List.length_nil,Nat.zero_add];exact le _ _ o h
 |cons i is lb=>
  intro done a L o h
  unfold qi at L
  unfold eJ at o
  simp only[Bool.and_eq_true]at L o
  obtain⟨⟨lc,ld⟩,o⟩:=o
  obtain⟨U,L⟩:=L
  unfold bB at h
  split at U
  ·rename_i aa O
   rw[O]at h
   rw[List.length_cons,Nat.succ_add]
   by_cases R:Region.wanted aa (yielded ops a.tmps)=true
   ·unfold wpQuiet at h
    rw[if_pos R]at h
    obtain⟨v,aY,lf⟩:=h
    refine wpAny_first O (Region.noSelect_spec Z) (fun c a w V=>absurd V (la _ _ _)) (is.length+g) done a w (Region.free_spec O ld) (by simpa using lc) (v:=v) (.inl ⟨R,fun w'=>?_⟩) (lb _ _ L o lf)
    have:=aY w' trivial
    unfold Oper.quietAt at this
    cases W:(execOp a.eval aa).run P w' with
    |halt e lg=>rw[W]at this;exact this.elim
    |ok n lg=>
     obtain⟨u,rfl⟩:=wI U W
     rw[W]at this
     obtain⟨rfl,rfl⟩:=this
     rfl
   ·unfold wpQuiet at h
    rw[if_neg R]at h
    exact wpAny_first O (Region.noSelect_spec Z) (fun c a w V=>absurd V (la _ _ _)) (is.length+g) done a w (Region.free_spec O ld) (by simpa using lc) (v:=undef) (.inr ⟨by simpa using R,rfl⟩) (lb _ _ L o h)
  ·cases U
def oq(P:Program)(md:Region.Mode)(ops:Array Oper)(C:World->Prop)(o:List Nat)(q:Array Bool->Act->Prop):Nat->Array Bool->Act->Prop
 |0,done,a=>q done a
 |f+1,done,a=>Region.ready md ops done≠[]/\∀i,i∈Region.ready md ops done->i∈o/\qOp P ops C i (oq P md ops C o q f (done.setIfInBounds i true)) a
variable {C:World->Prop}
theorem SC{B:List Nat}{g:Nat}{L:Array Bool->Act->Prop}{Q':Exit->Act->World->Prop}(q:∀done a w,C w->L done a->wpAny P md ops Q' g done a w):
  ∀(f:Nat) (done:Array Bool) (a:Act) (w:World),C w->oq P md ops C B L f done a->wpAny P md ops Q' (f+g) done a w:=by
 intro f
 induction f with
 |zero=>intro done a w o h;rw[Nat.zero_add];exact q _ _ _ o h
 |succ f O=>
  intro done a w o h
  rw[Nat.succ_add]
  exact⟨fun R=>absurd R h.1,fun i U=>wpOp_of_qOp o (fun V w' W h'=>O _ V w' W h') (h.2 i U).2⟩
structure kS(md:Region.Mode)(ops:Array Oper)(q:Array Bool)(L:List Nat)(done:Array Bool):Prop where
 size:done.size=ops.size
 closed:∀j o,ops[j]? =some o->done.getD j false=true->∀e∈o.after,Region.binds md e=true->done.getD e.on false=true
 rest:∀t,t∉L->q.getD t true=false->done.getD t true=false
theorem kS.set{o done:Array Bool}{B:List Nat}{i:Nat}(inv:kS md ops o B done)(Y:i∈Region.ready md ops done)(Z:i∈B):kS md ops o B (done.setIfInBounds i true):=by
 obtain⟨_,la,lb,lc⟩:=mem_ready.1 Y
 refine⟨by simp[inv.size],fun j q L O e R U=>?_,fun t V ld=>by rw[getD_set_ne true (fun h=>V (by subst h;exact Z))];exact inv.rest t V ld⟩
 by_cases W:i=j
 ·subst W
  have:q=la:=Option.some.inj (L.symm.trans lb)
  subst this
  exact getD_set_true (lc e R U)
 ·rw[getD_set_ne false W]at O
  exact getD_set_true (inv.closed j q L O e R U)
theorem gate{R done:Array Bool}{B:List Nat}(lg:sa md ops R B=true)(lh:∀t,R.getD t false=true->done.getD t false=true)(inv:kS md ops R B done):
  ∀(d i:Nat),ops.size-i=d->i∈B->done.getD i true=false->∀t,t∈Region.ready md ops done->t∈B:=by
 intro d
 induction d using Nat.strongRecOn with
 |_ d li=>
  intro i aj lj Y t Z
  obtain⟨lk,ll,U,la⟩:=mem_ready.1 Z
  by_cases lb:t∈B
  ·exact lb
  by_cases lc:(B.any fun j=>Nat.blt i j&&Region.waitsFor md ops j i)=true
  ·obtain⟨j,lm,o⟩:=List.any_eq_true.1 lc
   simp only[Bool.and_eq_true]at o
   obtain⟨ld,ln⟩:=o
   have ld:=cw ld
   obtain⟨lo,le,e,L,V,W⟩:=Region.waitsFor_spec ln
   have lp:j<ops.size:=(Array.getElem?_eq_some_iff.1 le).1
   have lq:j<done.size:=by rw[inv.size];exact lp
   cases lf:done.getD j false with
   |true=>
    have o:=inv.closed j lo le lf e L V
    rw[W,getD_both Y]at o
    cases o
   |false=>exact li (ops.size-j) (by omega) j rfl lm (getD_in lq lf) t Z
  ·have lr:i∈DU md ops B:=List.mem_filter.2 ⟨lj,by simpa using lc⟩
   have ls:t<ops.size:=(Array.getElem?_eq_some_iff.1 U).1
   have q:=List.all_eq_true.1 lg t (List.mem_range.2 ls)
   rw[U]at q
   simp only[Bool.or_eq_true]at q
   rcases q with (q|q)|q|q
   ·have:=lh t q
    rw[getD_both lk]at this
    cases this
   ·exact absurd (nU.1 q) lb
   ·obtain⟨e,L,o⟩:=Array.any_eq_true'.1 q
    simp only[Bool.and_eq_true,Bool.not_eq_true']at o
    have O:=la e L o.1
    have lt:=inv.rest e.on (fun h=>by have:=o.2.1;rw[nU.2 h]at this;cases this) o.2.2
    rw[getD_both lt]at O
    cases O
   ·have o:=List.all_eq_true.1 q i lr
    obtain⟨lu,lv,e,L,V,W⟩:=Region.waitsFor_spec o
    have:lu=ll:=Option.some.inj (lv.symm.trans U)
    subst this
    have O:=la e L V
    rw[W,getD_both Y]at O
    cases O
theorem Ki{la:Array Bool}{B:List Nat}{i:Nat}{aa:Oper}{v:Value}{L:Array Bool->Act->Prop}(lb:ops[i]? =some aa)(le:∀(j:Nat) (aa:Oper) R b,ops[j]? =some aa->aa.op≠.select R b)
  (lf:sa md ops la B=true)(lg:i∈B)(lm:∀done a,L done a->∀j,j∈Region.ready md ops done->j∉B):
  ∀(f:Nat) (done:Array Bool) (a:Act),(∀t,la.getD t false=true->done.getD t false=true)->kS md ops la B done->
   (∀j O,ops[j]? =some O->j≠i->done.getD j true=false->(∀e∈O.after,Region.binds md e=true->e.on≠i)->aa.apart ops O=true)->
   i∈Region.ready md ops done->YieldsIn P ops C aa v a->oq P md ops C B L f (done.setIfInBounds i true) (a.put aa.dst v)->oq P md ops C B L (f+1) done a:=by
 intro f
 induction f with
 |zero=>
  intro done a W inv _ o Y U
  have Z:=(mem_ready.1 o).1
  refine⟨fun lc=>(by rw[lc]at o;cases o),fun j q=>?_⟩
  have V:j∈B:=gate lf W inv _ i rfl lg Z j q
  refine⟨V,?_⟩
  by_cases e:j=i
  ·subst e;exact Y.qOp lb U
  ·exact absurd V (lm _ _ U j (ready_mono q e))
 |succ f ln=>
  intro done a W inv lh o Y U
  have Z:=(mem_ready.1 o).1
  refine⟨fun lc=>(by rw[lc]at o;cases o),fun j q=>?_⟩
  have V:j∈B:=gate lf W inv _ i rfl lg Z j q
  refine⟨V,?_⟩
  by_cases e:j=i
  ·subst e;exact Y.qOp lb U
  obtain⟨li,O,ld,lo⟩:=mem_ready.1 q
  have lp:=lh j O ld e li fun d aj lq aY=>by
   have lj:=lo d aj lq
   rw[aY,getD_both Z]at lj
   cases lj
  refine qOp_mono (fun lr lk=>ln (done.setIfInBounds j true) lr (fun t ls=>getD_set_true (W t ls)) (inv.set q V) (fun k ok lt lu lv lw=>lh k ok lt lu ?_ lw) (ready_mono o (Ne.symm e)) lk.1 ?_)
   (qOp_put ld lp (fun R b=>le i aa R b lb) (fun R b=>le j O R b ld) Y (U.2 j (ready_mono q e)).2)
  ·by_cases ll:j=k
   ·subst ll;exact li
   ·rwa [getD_set_ne true ll]at lv
  ·rw[Array.setIfInBounds_comm _ _ e];exact lk.2
theorem OL{C:List Nat}{done:Array Bool}(h:eS md ops C done=true){j:Nat}(o:j∈Region.ready md ops done):j∈C:=by
 cases C with
 |nil=>simp only[eS,List.isEmpty_iff]at h;rw[h]at o;cases o
 |cons i is=>
  simp only[eS,Bool.and_eq_true,decide_eq_true_eq]at h
  rw[h.1]at o
  cases o with
  |head=>exact List.mem_cons_self
  |tail _ h=>cases h
theorem Nr{L:Array Bool}{B:List Nat}{O:Array Bool->Bool}{R:Act->Prop}(la:Region.noSelect ops=true)(lb:sa md ops L B=true)(lc:∀d j,O d=true->j∈Region.ready md ops d->j∉B):
  ∀(l:List Nat) (done:Array Bool) (a:Act),(∀i∈l,i∈B)->(∀t,L.getD t false=true->done.getD t false=true)->kS md ops L B done->eJ md ops O l done=true->
   wpQuiet P ops C R (bB ops l) a->oq P md ops C B (fun d V=>O d=true/\R V) l.length done a:=by
 intro l
 induction l with
 |nil=>intro done a _ _ _ o h;exact⟨o,h⟩
 |cons i l ld=>
  intro done a W Y inv o h
  unfold eJ at o
  simp only[Bool.and_eq_true]at o
  obtain⟨⟨le,lf⟩,o⟩:=o
  have U:i∈Region.ready md ops done:=by simpa using le
  obtain⟨_,aa,q,_⟩:=mem_ready.1 U
  unfold bB at h
  rw[q]at h
  obtain⟨v,lg,lh⟩:=yieldsIn_of_qOp (K:=wpQuiet P ops C R (bB ops l)) q (by unfold qOp;rw[q];exact h)
  have Z:=W i List.mem_cons_self
  exact Ki q (Region.noSelect_spec la) lb Z (fun d V li j lj=>lc d j li.1 lj) l.length done a Y inv (Region.free_spec q lf) U lg
   (ld _ _ (fun k lk=>W k (List.mem_cons_of_mem _ lk)) (fun t ll=>getD_set_true (Y t ll)) (inv.set U Z) o lh)
theorem oo{Q':Exit->Act->World->Prop}:∀(l:List Nat) (done:Array Bool) (a:Act) (w:World),eS md ops l done=true->wpList P ops Q' (bB ops l) a w->wpAny P md ops Q' l.length done a w
 |[],_,_,_,o,h=>⟨by simpa[eS]using o,h⟩
 |i::l,done,a,w,o,h=>by
  simp only[eS,Bool.and_eq_true,decide_eq_true_eq]at o
  have R:i∈Region.ready md ops done:=by rw[o.1];exact List.mem_cons_self
  obtain⟨_,aa,q,_⟩:=mem_ready.1 R
  unfold bB at h
  rw[q]at h
  refine⟨fun L=>(by rw[o.1]at L;cases L),fun k O=>?_⟩
  rw[o.1]at O
  have U:k=i:=by simpa using O
  subst U
  have V:wpOp P ops Q' k (wpList P ops Q' (bB ops l)) a w:=by unfold wpOp;simp only[q];exact h
  exact wpOp_mono (fun W w' h'=>oo l _ W w' o.2 h') V
theorem OW{done:Array Bool}(h:DW md ops done=true):∀j L,ops[j]? =some L->done.getD j false=true->∀e∈L.after,Region.binds md e=true->done.getD e.on false=true:=by
 intro j L O aj e R U
 have o:=List.all_eq_true.1 h j (List.mem_range.2 (Array.getElem?_eq_some_iff.1 O).1)
 rw[O]at o
 simp only[Bool.or_eq_true,Bool.not_eq_true']at o
 rcases o with o|o
 ·rw[aj]at o;cases o
 ·have q:=Array.all_eq_true_iff_forall_mem.1 o e R
  simp only[Bool.or_eq_true,Bool.not_eq_true']at q
  rcases q with q|q
  ·rw[U]at q;cases q
  ·exact q
theorem H9{q:Array Bool->Bool}{n:Nat}:∀(l:List Nat) (done:Array Bool),done.size=n->eJ md ops q l done=true->eJ md ops (fun d=>q d&&decide (d.size=n)) l done=true
 |[],d,L,o=>by
  show(q d&&decide (d.size=n))=true
  rw[show q d=true from o,decide_eq_true L];rfl
 |i::l,d,L,o=>by
  unfold eJ at o⊢
  simp only[Bool.and_eq_true]at o⊢
  exact⟨o.1,H9 l _ (by simpa using L) o.2⟩
theorem sy{id g:Nat}{Q:Exit->Act->World->Prop}{a:Act}{w:World}{l:List Oper}(O o Z:List Nat)(U:Array Bool->Bool)(W:Act->World->Prop)(lf:P.follows .mixedOrders=true)(V:jV .any l.toArray O o Z U=true)
  (lg:∀d j,U d=true->j∈Region.ready .any l.toArray d->j∈Z)(lh:∀e a w,Q e a w->e=.normal)(la:∀d a w,U d=true->W a w->wpAny P .any l.toArray Q g d a w)(li:O.length+(o.length+g)=l.length)
  (lb:C {w with drawn:=w.drawn+1})
  (h:wpQuiet P l.toArray (fun _=>True) (wpQuiet P l.toArray C (fun R=>∀w',C w'->W R w') (bB l.toArray o)) (bB l.toArray O) a):
  (Code.region id l.toArray true).wp P Q a w:=by
 unfold jV at V
 simp only[Bool.and_eq_true]at V
 obtain⟨⟨⟨lc,lj⟩,lk⟩,ll⟩:=V
 have lm:∀d j,U d=true->j∈Region.ready .any l.toArray d->j∉o:=fun d j aj ln L=>by
  have:=List.all_eq_true.1 lk j (lg d j aj ln)
  rw[nU.2 L]at this
  cases this
 have lo:=H9 (n:=l.toArray.size) O _ (by simp) ll
 have al:=Ny (g:=o.length+g) (Q:=Q) lc (fun c a w h=>Exit.noConfusion (lh _ _ _ h)) (w:={w with drawn:=w.drawn+1}) (K:=wpQuiet P l.toArray C (fun R=>∀w',C w'->W R w') (bB l.toArray o)) (fun done a q ld=>?_) O _ a lj lo h
 ·rw[li]at al
  refine wp_region_any lf ?_
  simpa using al
 ·simp only[Bool.and_eq_true,decide_eq_true_eq]at q
  obtain⟨q,lp⟩:=q
  split at q
  ·rename_i L
   have L:o=[]:=by simpa using L
   subst L
   rw[List.length_nil,Nat.zero_add]
   exact la done a _ q (ld _ lb)
  ·rename_i s r L
   simp only[Bool.and_eq_true]at q
   obtain⟨⟨lq,lr⟩,ls⟩:=q
   have inv:kS .any l.toArray done o done:=⟨lp,OW lq,fun t _ Y=>Y⟩
   exact SC (fun d R w' lt le=>la d R w' le.1 (le.2 w' lt)) _ _ _ _ lb (Nr lc lr lm o done a (fun i lu=>lu) (fun t Y=>Y) inv ls ld)
def dk(Q:Exit->Act->World->Prop):Exit->Act->World->Prop:=fun e a w=>e=.normal/\Q .normal a w
theorem NJ{id:Nat}{Q:Exit->Act->World->Prop}{a:Act}{w:World}{l:List Oper}(q L o:List Nat)(O:P.follows .mixedOrders=true)(R:BF .any l.toArray q L o=true)(U:q.length+(L.length+o.length)=l.length)
  (V:C {w with drawn:=w.drawn+1})
  (h:wpQuiet P l.toArray (fun _=>True) (wpQuiet P l.toArray C (fun W=>∀w',C w'->wpList P l.toArray (dk Q) (bB l.toArray o) W w') (bB l.toArray L)) (bB l.toArray q) a):
  (Code.region id l.toArray true).wp P Q a w:=
 Code.wp_mono (Q:=dk Q) (fun e a w h=>by obtain⟨rfl,h⟩:=h;exact h)
  (sy q L o (eS .any l.toArray o) _ O R (fun d j aj Y=>OL aj Y) (fun e a w h=>h.1) (fun d a w aj Z=>oo o d a w aj Z) U V h)
/-! One that may come up behind others that leave what it reads. -/
def h8(P:Program)(ops:Array Oper)(Q:Exit->Act->World->Prop)(aa:Oper)(d:Nat)(q:List Nat):List Nat->Act->World->Prop
 |[],a,w=>wpList P ops Q (bB ops q) a w
 |c::L,a,w=>wpOp P ops Q c (fun o w'=>(execOp o.eval aa).run P w'=.ok (.value (o.tmps.getD d undef)) w'/\h8 P ops Q aa d q L o w') a w
def jX(md:Region.Mode)(ops:Array Oper)(i:Nat)(o:List Nat):List Nat->Array Bool->Bool
 |[],done=>decide (Region.ready md ops done=[i])&&eS md ops o (done.setIfInBounds i true)
 |c::q,done=>((Region.ready md ops done).all fun j=>Nat.beq j i||Nat.beq j c)&&(Region.ready md ops done).contains i&&Region.free md ops done i&&eS md ops (c::q++o) (done.setIfInBounds i true)&&jX md ops i o q (done.setIfInBounds c true)
theorem Ga{Q:Exit->Act->World->Prop}{aa:Oper}{d:Nat}{L:List Nat}:∀(q:List Nat) (done:Array Bool) (a:Act) (w:World),eS md ops (q++L) done=true->h8 P ops Q aa d L q a w->wpAny P md ops Q (q.length+L.length) done a w
 |[],done,a,w,o,h=>by rw[List.length_nil,Nat.zero_add];exact oo L done a w o h
 |c::q,done,a,w,o,h=>by
  simp only[List.cons_append,eS,Bool.and_eq_true,decide_eq_true_eq]at o
  rw[List.length_cons,Nat.succ_add]
  refine⟨fun O=>(by rw[o.1]at O;cases O),fun k R=>?_⟩
  rw[o.1]at R
  have U:k=c:=by simpa using R
  subst U
  exact wpOp_mono (fun V w' h'=>Ga q _ V w' o.2 h'.2) h
structure ix(aa:Oper)(a o:Act):Prop where
 exec:execOp o.eval aa=execOp a.eval aa
 size:o.tmps.size=a.tmps.size
theorem ix.put{o:Oper}{a:Act}{dst:Option Nat}{u:Value}(q:∀L b,o.op≠.select L b)(O:∀d,dst=some d->d∉o.looksAt ops):ix o a (a.put dst u):=
 ⟨execOp_put o q a dst u O,by cases dst<;>simp[Act.put]⟩
theorem ix.trans{o:Oper}{a b c:Act}(h:ix o a b)(k:ix o b c):ix o a c:=⟨k.exec.trans h.exec,k.size.trans h.size⟩
theorem Pa{Q Q':Exit->Act->World->Prop}{j:Nat}{o q:Oper}{v:Value}(ld:ops[j]? =some q)(le:o.apart ops q=true)
  (Y:∀U b,o.op≠.select U b)(lf:∀U b,q.op≠.select U b)(V:∀e a w,Q e a w->e=.normal){K:Act->World->Prop}{a:Act}{w:World}(h:wpOp P ops Q j K (a.put o.dst v) w):
  wpOp P ops Q' j (fun Z w'=>ix o a Z/\K (Z.put o.dst v) w') a w:=by
 obtain⟨la,L,lb⟩:=Oper.apart_spec le
 have O:∀u,ix o a (a.put q.dst u):=fun u=>ix.put Y lb
 have lc:¬LetsOut Q:=fun⟨a,w,h⟩=>Exit.noConfusion (V _ _ _ h)
 unfold wpOp at*
 simp only[ld]at*
 rw[wanted_put q a o.dst v la]at h
 split
 ·rename_i W
  simp only[W,if_true]at h
  rcases h with h|⟨_,lg⟩
  case inr=>exact absurd lg lc
  refine .inl ?_
  unfold Oper.wp at*
  rw[execOp_put q lf a o.dst v la]at h
  generalize (execOp a.eval q).run P w=r at*
  cases r with
  |ok n w'=>
   cases n<;>simp only[Oper.upon]at h⊢
   case value u=>exact⟨O u,by rw[<-Act.put_comm a v u L];exact h⟩
   case skip=>exact⟨O _,by rw[<-Act.put_comm a v undef L];exact h⟩
   case defer d=>
    refine⟨ix.trans (b:={a with defers:=d::a.defers}) ⟨rfl,rfl⟩ (ix.put Y lb),?_⟩
    rw[<-Act.put_comm _ v undef L,<-Act.put_defers]
    exact h
   case enter f args=>
    refine Calls.mono h fun e lh R=>?_
    cases e with
    |returned u=>exact⟨O u,by rw[<-Act.put_comm a v u L];exact R⟩
    |panicked c=>cases V _ _ _ R
    |outgrown=>exact absurd R lc
   case row row args=>exact Rows.mono h fun u lh R=>⟨O u,by rw[<-Act.put_comm a v u L];exact R⟩
  |halt x w'=>
   cases x<;>simp only[Oper.upon]at h⊢
   case panic u=>cases V _ _ _ h
 ·rename_i W
  simp only[W]at h
  exact⟨O _,by rw[<-Act.put_comm a v undef L];exact h⟩
theorem Qv{Q:Exit->Act->World->Prop}{i d:Nat}{aa:Oper}{v:Value}{O:List Nat}(Y:ops[i]? =some aa)(aj:aa.dst=some d)(lj:aa.guard=none)(lk:d∉aa.looksAt ops)(lc:Region.noSelect ops=true)(ll:∀e a w,Q e a w->e=.normal):
  ∀(o:List Nat) (done:Array Bool) (a:Act) (w:World),jX md ops i O o done=true->d<a.tmps.size->(execOp a.eval aa).run P w=.ok (.value v) w->h8 P ops Q aa d O o (a.put aa.dst v) w->
   wpAny P md ops Q (o.length+O.length+1) done a w:=by
 have ld:∀(done:Array Bool) (a:Act) (w:World) (o:List Nat),(execOp a.eval aa).run P w=.ok (.value v) w->eS md ops (o++O) (done.setIfInBounds i true)=true->h8 P ops Q aa d O o (a.put aa.dst v) w->
   wpOp P ops Q i (wpAny P md ops Q (o.length+O.length) (done.setIfInBounds i true)) a w:=fun done a w o R q h=>by
  unfold wpOp
  simp only[Y]
  have lm:Region.wanted aa (yielded ops a.tmps)=true:=by unfold Region.wanted;rw[lj]
  rw[if_pos lm]
  refine .inl ?_
  unfold Oper.wp
  rw[R]
  exact Ga o _ _ _ q h
 intro o
 induction o with
 |nil=>
  intro done a w q le R h
  simp only[jX,Bool.and_eq_true,decide_eq_true_eq]at q
  refine⟨fun L=>(by rw[q.1]at L;cases L),fun k U=>?_⟩
  rw[q.1]at U
  have V:k=i:=by simpa using U
  subst V
  exact ld done a w [] R q.2 h
 |cons c o ln=>
  intro done a w q le R h
  simp only[jX,Bool.and_eq_true]at q
  obtain⟨⟨⟨⟨lo,lp⟩,lq⟩,lr⟩,q⟩:=q
  have Z:i∈Region.ready md ops done:=by simpa using lp
  refine⟨fun L=>(by rw[L]at Z;cases Z),fun k U=>?_⟩
  by_cases V:k=i
  ·subst V
   exact ld done a w (c::o) R lr h
  ·have:=List.all_eq_true.1 lo k U
   rw[Bool.or_eq_true]at this
   have ls:k=c:=by
    rcases this with L|L
    ·exact absurd (Nat.eq_of_beq_eq_true L) V
    ·exact Nat.eq_of_beq_eq_true L
   subst ls
   obtain⟨lt,ok,la,lu⟩:=mem_ready.1 U
   have lv:aa.apart ops ok=true:=Region.free_spec Y lq k ok la V lt fun e lw lx ly=>by
    have L:=lu e lw lx
    rw[ly,getD_both (mem_ready.1 Z).1]at L
    cases L
   have lf:∀W b,aa.op≠.select W b:=fun W b=>Region.noSelect_spec lc i aa W b Y
   rw[show(k::o).length+O.length=(o.length+O.length)+1 by simp only[List.length_cons];omega]
   refine wpOp_mono (fun lb w' h'=>?_) (Pa (Q':=Q) la lv lf (fun W b=>Region.noSelect_spec lc k ok W b la) ll h)
   obtain⟨lz,lg,lA⟩:=h'
   have lh:d<lb.tmps.size:=by rw[lz.size];exact le
   refine ln _ lb w' q lh ?_ lA
   rw[execOp_put aa lf lb aa.dst v (fun x li=>by rw[aj]at li;cases li;exact lk)]at lg
   rw[lg,aj]
   simp[Act.put,lh]
def mY(md:Region.Mode)(ops:Array Oper)(L O:List Nat)(i:Nat)(o q:List Nat):Bool:=jV md ops L O (i::o++q) (jX md ops i q o)
theorem Ua{i:Nat}{o O:List Nat}{done:Array Bool}(h:jX md ops i O o done=true){j:Nat}(q:j∈Region.ready md ops done):j∈i::o++O:=by
 cases o with
 |nil=>
  simp only[jX,Bool.and_eq_true,decide_eq_true_eq]at h
  rw[h.1]at q
  have:j=i:=by simpa using q
  subst this
  simp
 |cons c o=>
  simp only[jX,Bool.and_eq_true]at h
  have:=List.all_eq_true.1 h.1.1.1.1 j q
  rw[Bool.or_eq_true]at this
  rcases this with L|L
  ·rw[Nat.eq_of_beq_eq_true L];simp
  ·rw[Nat.eq_of_beq_eq_true L];simp
theorem Lk{id:Nat}{Q:Exit->Act->World->Prop}{a:Act}{w:World}{l:List Oper}(L O:List Nat)(i:Nat)(o q:List Nat){aa:Oper}{d:Nat}(V:P.follows .mixedOrders=true)(R:mY .any l.toArray L O i o q=true)
  (W:L.length+(O.length+(o.length+q.length+1))=l.length)(Y:l[i]? =some aa)(aj:aa.dst=some d)(Z:aa.guard=none)(la:(aa.looksAt l.toArray).contains d=false)
  (lb:C {w with drawn:=w.drawn+1})
  (h:wpQuiet P l.toArray (fun _=>True) (wpQuiet P l.toArray C (fun U=>∀w',C w'->d<U.tmps.size/\∃v,(execOp U.eval aa).run P w'=.ok (.value v) w'/\h8 P l.toArray (dk Q) aa d q o (U.put aa.dst v) w') (bB l.toArray O)) (bB l.toArray L) a):
  (Code.region id l.toArray true).wp P Q a w:=by
 have lc:Region.noSelect l.toArray=true:=by
  unfold mY jV at R
  simp only[Bool.and_eq_true]at R
  exact R.1.1.1
 exact Code.wp_mono (Q:=dk Q) (fun e a w h=>by obtain⟨rfl,h⟩:=h;exact h)
  (sy L O (i::o++q) (jX .any l.toArray i q o) _ V R (fun d j aj ld=>Ua aj ld) (fun e a w h=>h.1)
   (fun d' a w le lf=>by
    obtain⟨lg,v,lh,li⟩:=lf
    exact Qv (by simpa using Y) aj Z (by simpa using la) lc (fun e a w h=>h.1) o d' a w le lg lh li) W lb h)
end
end Go.Ev
namespace Go.Ev
open Go Go.RowKit
variable [bV]
variable {cx:bx} {m:Nat->Value} {st st':af} {T:Array Value} {w w':World} {E:Env} {Q:cB} {ops:Array Oper} {l:List Oper}
variable [ah cx]
def pn(aa:Oper):Bool:=match aa.op with
 |.binOp _ _ _ _ _=>true
 |_=>false
def rE(P:Program)(aa:Oper)(s:ao):Bool:=pn aa||ow P aa s
theorem Nh(h:an cx m st T w){aa:Oper}{orc:List ak}{r:di}(q:pn aa=true)(o:db cx.P st aa.op orc=some r)(V:bJ r.ob):
  ∃v,(∀w',(execOp (Act.eval ⟨T,ah.D cx⟩) aa).run cx.P w'=.ok (.value v) w')/\aN w (ar cx m st.ids) m v r.aM:=by
 unfold pn at q
 split at q
 case h_2=>cases q
 rename_i la t x y lb L
 rw[L]at o
 simp only[db]at o
 split at o
 ·rename_i a b W Y
  split at o
  ·rename_i r ob O
   cases o
   obtain⟨v,R,U⟩:=ww (ox:=x) (oy:=y) (cK h W) (cK h Y) O V
   exact⟨v,fun w'=>ca (by simp only[execOp,L]) (R w'),U _ _⟩
  ·split at o
   ·rename_i r ob O
    cases o
    obtain⟨v,R,U⟩:=DY (ox:=x) (oy:=y) (cK h W) (cK h Y) (fun Z=>by subst Z;rfl) O V
    exact⟨v,fun w'=>ca (by simp only[execOp,L]) (R w'),U _ _⟩
   ·cases o
 ·cases o
theorem Rx(V:br E cx)(h:an cx m st T w){aa:Oper}{orc:List ak}{r:di}(q:fc E st aa orc=some r)(Y:bJ r.ob)(W:rE E.P aa r.aM=true):
  ∃v,(∀w',(execOp (Act.eval ⟨T,ah.D cx⟩) aa).run cx.P w'=.ok (.value v) w')/\aN w (ar cx m st.ids) m v r.aM:=by
 cases L:pn aa with
 |true=>
  have lb:db cx.P st aa.op orc=some r:=by
   unfold fc at q
   rw[<-V.P]at q
   cases Z:db cx.P st aa.op orc with
   |some le=>rw[Z]at q;simpa using q
   |none=>
    rw[Z]at q
    unfold pn at L
    split at L
    case h_2=>cases L
    rename_i O
    simp[nF,O]at q
  exact Nh h L lb Y
 |false=>
 have o:ow E.P aa r.aM=true:=by unfold rE at W;rw[L]at W;simpa using W
 obtain⟨v,aY,la⟩:=tJ V h q Y
 refine⟨v,?_,la⟩
 rw[<-V.P]at o
 have R:=aY w (Ext.refl w)
 unfold Oper.quietAt at R
 have lc:gu aa=true:=by
  unfold ow at o
  split at o
  ·rename_i O;unfold gu;rw[O]
  ·rename_i O;unfold gu;rw[O]
  ·simp only[Bool.and_eq_true]at o;exact o.1
  ·cases o
  ·exact o
 cases U:(execOp (Act.eval ⟨T,ah.D cx⟩) aa).run cx.P w with
 |halt e ld=>rw[U]at R;exact R.elim
 |ok n ld=>
  obtain⟨u,rfl⟩:=wI lc U
  rw[U]at R
  obtain⟨rfl,rfl⟩:=R
  exact(RA o U la).2
def gM(E:Env)(ops:Array Oper):List Oper->af->List ak->Option (af×List ak×List Prop)
 |[],st,orc=>some (st,orc,[])
 |aa::l,st,orc=>match dR ops st aa with
  |some true=>match aa.dst,fc E st aa orc with
   |some d,some r=>match Nat.blt d E.n,rE E.P aa r.aM,gM E ops l (st.put d r.aM) r.orc with
    |true,true,some (o,q,L)=>some (o,q,r.ob++L)
    |_,_,_=>none
   |_,_=>none
  |some false=>match aa.dst with
   |some d=>match Nat.blt d E.n with
    |true=>gM E ops l (st.put d .undef) orc
    |false=>none
   |none=>gM E ops l st orc
  |none=>none
theorem oL(q:br E cx){Q':Act->Prop}:∀{l:List Oper} {st:af} {T:Array Value} {orc orc':List ak} {st':af} {ob:List Prop},al cx st T w->gM E ops l st orc=some (st',orc',ob)->bJ ob->
  (∀W,al cx st' W w->Q' ⟨W,ah.D cx⟩)->wpQuiet cx.P ops (fun _=>True) Q' l ⟨T,ah.D cx⟩
 |[],st,T,_,_,_,_,h,o,_,L=>by
  cases o
  exact L T h
 |aa::l,st,T,orc,orc',st',ob,h,o,R,L=>by
  unfold gM at o
  unfold wpQuiet
  split at o
  ·rename_i U
   rw[gD h U]
   simp only[if_true]
   split at o
   ·rename_i d r aj Y
    split at o
    ·rename_i le lf lg V Z la
     cases o
     obtain⟨lb,lc⟩:=mu R
     obtain⟨m,O⟩:=h
     obtain⟨v,aY,ld⟩:=Rx q O Y lb Z
     refine⟨v,fun w' _=>by unfold Oper.quietAt;rw[aY w'];exact⟨rfl,rfl⟩,?_⟩
     rw[aj]
     exact oL q ⟨m,O.put (by rw[q.n];exact cw V) ld⟩ la lc L
    ·cases o
   ·cases o
  ·rename_i U
   rw[gD h U]
   simp only[Bool.false_eq_true,if_false]
   split at o
   ·rename_i d aj
    split at o
    ·rename_i V
     obtain⟨m,O⟩:=h
     rw[aj]
     exact oL q ⟨m,O.put (d:=d) (s:=.undef) (v:=undef) (by rw[q.n];exact cw V) rfl⟩ o R L
    ·cases o
   ·rename_i aj
    rw[aj]
    exact oL q h o R L
  ·cases o
theorem R4{id:Nat}{l:List Oper}(o q L:List Nat)(O:cx.P.follows .mixedOrders=true)(R:BF .any l.toArray o q L=true)(U:o.length+(q.length+L.length)=l.length)
  (h:∀T w,al cx st T w->wpQuiet cx.P l.toArray (fun _=>True) (wpQuiet cx.P l.toArray (Ext w) (fun V=>∀w',Ext w w'->wpList cx.P l.toArray (dk Q) (bB l.toArray L) V w') (bB l.toArray q)) (bB l.toArray o) ⟨T,ah.D cx⟩):
  W cx Q (.region id l.toArray true) st:=by
 intro T w Y
 exact NJ (C:=Ext w) o q L O R U (Ext.refl w).drew (h T w Y)
/-! Quiet ones again behind those that come one by one. -/
section
variable {P:Program} {md:Region.Mode} {C:World->Prop}
def pa(md:Region.Mode)(ops:Array Oper)(K:Array Bool->Bool):List Nat->Array Bool->Bool
 |[],done=>K done
 |i::is,done=>decide (Region.ready md ops done=[i])&&pa md ops K is (done.setIfInBounds i true)
theorem vr{Q Q':cB}{j:Nat}(o:∀e a w,Q e a w->e=.normal){K:Act->World->Prop}{a:Act}{w:World}(h:wpOp P ops Q j K a w):wpOp P ops Q' j K a w:=by
 have R:¬LetsOut Q:=fun⟨a,w,h⟩=>Exit.noConfusion (o _ _ _ h)
 unfold wpOp at*
 split
 ·rename_i q;simp only[q]at h;exact h
 ·rename_i aa q
  simp only[q]at h
  split
  ·rename_i L
   simp only[L,if_true]at h
   rcases h with h|⟨_,U⟩
   case inr=>exact absurd U R
   refine .inl ?_
   unfold Oper.wp at*
   generalize (execOp a.eval aa).run P w=r at*
   cases r with
   |ok n w'=>
    cases n<;>simp only[Oper.upon]at h⊢
    case value u=>exact h
    case skip=>exact h
    case defer d=>exact h
    case enter f args=>
     refine Calls.mono h fun e V O=>?_
     cases e with
     |returned u=>exact O
     |panicked c=>cases o _ _ _ O
     |outgrown=>exact absurd O R
    case row row args=>exact h
   |halt x w'=>
    cases x<;>simp only[Oper.upon]at h⊢
    case panic u=>cases o _ _ _ h
  ·rename_i L
   simp only[L]at h
   exact h
theorem El{Q1 Q:cB}{g:Nat}{KD:Array Bool->Bool}(q:∀e a w,Q1 e a w->e=.normal)(L:∀d a w,KD d=true->Q1 .normal a w->wpAny P md ops Q g d a w):
  ∀(l:List Nat) (done:Array Bool) (a:Act) (w:World),pa md ops KD l done=true->wpList P ops Q1 (bB ops l) a w->wpAny P md ops Q (l.length+g) done a w
 |[],done,a,w,o,h=>by rw[List.length_nil,Nat.zero_add];exact L done a w o h
 |i::l,done,a,w,o,h=>by
  simp only[pa,Bool.and_eq_true,decide_eq_true_eq]at o
  have V:i∈Region.ready md ops done:=by rw[o.1];exact List.mem_cons_self
  obtain⟨_,aa,O,_⟩:=mem_ready.1 V
  unfold bB at h
  rw[O]at h
  rw[List.length_cons,Nat.succ_add]
  refine⟨fun R=>(by rw[o.1]at R;cases R),fun k U=>?_⟩
  rw[o.1]at U
  have W:k=i:=by simpa using U
  subst W
  have Y:wpOp P ops Q1 k (wpList P ops Q1 (bB ops l)) a w:=by unfold wpOp;simp only[O];exact h
  exact wpOp_mono (fun Z w' h'=>El q L l _ Z w' o.2 h') (vr q Y)
theorem Il{Q:Act->Prop}(L:Region.noSelect ops=true):∀(l:List Nat) (done:Array Bool) (a:Act),eJ md ops (fun d=>(Region.ready md ops d).isEmpty) l done=true->wpQuiet P ops C Q (bB ops l) a->wpAnyQ P md ops C Q l.length done a
 |[],done,a,o,h=>⟨by simpa[eJ]using o,h⟩
 |i::l,done,a,o,h=>by
  unfold eJ at o
  simp only[Bool.and_eq_true]at o
  obtain⟨⟨R,U⟩,o⟩:=o
  have O:i∈Region.ready md ops done:=by simpa using R
  obtain⟨_,aa,q,_⟩:=mem_ready.1 O
  unfold bB at h
  rw[q]at h
  obtain⟨v,V,W⟩:=yieldsIn_of_qOp (K:=wpQuiet P ops C Q (bB ops l)) q (by unfold qOp;rw[q];exact h)
  exact wpAnyQ_first q (Region.noSelect_spec L) l.length done a (Region.free_spec q U) O V (Il L l _ _ o W)
end
def AB(md:Region.Mode)(ops:Array Oper)(q L o O:List Nat):Bool:=!o.isEmpty&&jV md ops q L o (pa md ops (eJ md ops (fun d=>(Region.ready md ops d).isEmpty) O) o)
def pQ(cx:bx)(ops:Array Oper)(o:List Nat)(Q:cB):cB:=fun e a w=>e=.normal/\wpQuiet cx.P ops (Ext w) (fun q=>∀w',Ext w w'->dk Q .normal q w') (bB ops o) a
theorem MG{id:Nat}{l:List Oper}(O R L q:List Nat)(V:cx.P.follows .mixedOrders=true)(o:AB .any l.toArray O R L q=true)(Y:O.length+(R.length+(L.length+q.length))=l.length)
  (h:∀T w,al cx st T w->wpQuiet cx.P l.toArray (fun _=>True) (wpQuiet cx.P l.toArray (Ext w) (fun Z=>∀w',Ext w w'->wpList cx.P l.toArray (pQ cx l.toArray q Q) (bB l.toArray L) Z w') (bB l.toArray R)) (bB l.toArray O) ⟨T,ah.D cx⟩):
  W cx Q (.region id l.toArray true) st:=by
 intro T w la
 unfold AB at o
 rw[Bool.and_eq_true]at o
 obtain⟨lb,o⟩:=o
 have lc:Region.noSelect l.toArray=true:=by
  unfold jV at o
  simp only[Bool.and_eq_true]at o
  exact o.1.1.1
 refine Code.wp_mono (Q:=dk Q) (fun e a w h=>by obtain⟨rfl,h⟩:=h;exact h)
  (sy (C:=Ext w) O R L _ _ V o (fun d j aj U=>?_) (fun e a w h=>h.1) (fun d a w aj ld=>?_) Y (Ext.refl w).drew (h T w la))
 ·cases L with
  |nil=>simp at lb
  |cons i is=>
   simp only[pa,Bool.and_eq_true,decide_eq_true_eq]at aj
   rw[aj.1]at U
   have:j=i:=by simpa using U
   subst this
   exact List.mem_cons_self
 ·refine El (Q1:=pQ cx l.toArray q Q) (KD:=eJ .any l.toArray (fun d=>(Region.ready .any l.toArray d).isEmpty) q) (fun e a w h=>h.1) (fun d a w aj h=>?_) L d a w aj ld
  exact wpAny_of_quiet (C:=Ext w) (fun a w' le h=>h w' le) q.length d a w (Ext.refl w) (Il lc q d a aj h.2)
def kR(cx:bx)[ah cx](ops:Array Oper)(K:World->Act->Prop)(l:List Oper)(st:af):Prop:=∀T w,al cx st T w->wpQuiet cx.P ops (fun _=>True) (K w) l ⟨T,ah.D cx⟩
theorem O1{K:World->Act->Prop}(h:nA cx K st):kR cx ops K [] st:=fun T w o=>h T w o
theorem B2{K:World->Act->Prop}(o:br E cx){aa:Oper}{orc:List ak}{ob:List Prop}(q:gM E ops [aa] st orc=some (st',[],ob))(L:bJ ob)(h:kR cx ops K l st'):kR cx ops K (aa::l) st:=by
 intro T w O
 exact kN (P:=cx.P) (ops:=ops) (l1:=[aa]) (l2:=l) (C:=fun _=>True) (Q':=K w) (a:=⟨T,ah.D cx⟩) (oL o O q L fun R U=>h R w U)
theorem Pd{α:Type}{o:World->Act->Prop}(F:α->Prop)(S:α->af)(n:Nat)(L:∀a,F a->kR cx ops o (l.drop n) (S a))
  (O:∀K,(∀a,F a->nA cx K (S a))->kR cx ops K (l.take n) st):kR cx ops o l st:=by
 intro T w q
 have:=kN (P:=cx.P) (ops:=ops) (l1:=l.take n) (l2:=l.drop n)
  (O (fun w=>wpQuiet cx.P ops (fun _=>True) (o w) (l.drop n)) (fun a R T w q=>L a R T w q) T w q)
 rwa [List.take_append_drop]at this
/-! One that floats past others. -/
def mE:ao->Bool
 |.val t _=>t.flat
 |.ptr _ _=>true
 |.row _=>true
 |.osl _=>true
 |_=>false
theorem QK{w:World}{M:Nat->Prop}{m:Nat->Value}{v v':Value}{s:ao}(aj:mE s=true)(h:aN w M m v s)(h':aN w M m v' s):v=v':=by
 cases s<;>first|(cases aj;done)|skip
 all_goals unfold aN at h h'
 ·exact kp aj h h'
 ·obtain⟨g,q,rfl⟩:=h
  obtain⟨L,o,rfl⟩:=h'
  rw[q]at o
  injection o with o
  injection o with o
  injection o with o
  rw[o]
 ·rw[h,h']
 ·obtain⟨us,q⟩:=h
  obtain⟨O,o⟩:=h'
  rw[q]at o
  injection o with o
  have:=congrArg Array.toList o
  simp at this
  exact this.1
def gK(aa:Oper):Bool:=match aa.op with
 |.load _ _=>true
 |_=>false
theorem FC{P:Program}{aa:Oper}(h:gK aa=true){ρ:Operand->Value}{w q:World}{n:Next}(o:(execOp ρ aa).run P w=.ok n q):∃v,n=.value v:=by
 unfold gK at h
 split at h
 ·rename_i t x L
  simp only[execOp,L]at o
  rw[Sem.run_bind]at o
  generalize Sem.run P (Instr.loadAt t (ρ x)) w=O at o
  cases O with
  |halt e R=>cases o
  |ok v R=>cases o;exact⟨v,rfl⟩
 ·cases h
theorem tu(L:br E cx)(h:an cx m st T w){aa:Oper}(O:gK aa=true){orc:List ak}{r:di}(R:fc E st aa orc=some r)(U:bJ r.ob):
  ∃v,(∀w',Ext w w'->(execOp (Act.eval ⟨T,ah.D cx⟩) aa).run cx.P w'=.ok (.value v) w')/\aN w (ar cx m st.ids) m v r.aM:=by
 obtain⟨v,aY,V⟩:=tJ L h R U
 refine⟨v,fun w' W=>?_,V⟩
 have o:=aY w' W
 unfold Oper.quietAt at o
 cases q:(execOp (Act.eval ⟨T,ah.D cx⟩) aa).run cx.P w' with
 |halt e Y=>rw[q]at o;exact o.elim
 |ok n Y=>
  obtain⟨u,rfl⟩:=FC O q
  rw[q]at o
  obtain⟨rfl,rfl⟩:=o
  rfl
theorem wP(q:br E cx)(L:al cx st T w){aa:Oper}(O:gK aa=true){orc:List ak}{r:di}(R:fc E st aa orc=some r)(U:bJ r.ob){d:Nat}(V:look st.ab d=some r.aM)(aj:mE r.aM=true):
  (execOp (Act.eval ⟨T,ah.D cx⟩) aa).run cx.P w=.ok (.value (T.getD d undef)) w:=by
 obtain⟨m,o⟩:=L
 obtain⟨v,W,Y⟩:=tu q o O R U
 obtain⟨u,Z,la⟩:=o.cv d _ (aW V)
 have:=QK aj Y la
 subst this
 have e:T.getD d undef=v:=by simp[Z]
 rw[e]
 exact W w (Ext.refl w)
def gV(cx:bx)(ops:Array Oper)(aa:Oper)(d:Nat)(o q:List Nat)(Q:cB):cB:=fun e a w=>e=.normal/\(execOp a.eval aa).run cx.P w=.ok (.value (a.tmps.getD d undef)) w/\h8 cx.P ops (dk Q) aa d o q a w
theorem tP{aa L:Oper}{d c:Nat}{o q:List Nat}(O:ops[c]? =some L)(h:bH cx ops (gV cx ops aa d o q Q) [L] st)(R:al cx st T w):h8 cx.P ops (dk Q) aa d o (c::q) ⟨T,ah.D cx⟩ w:=by
 have U:=h T w R
 refine wpOp_mono (K:=gV cx ops aa d o q Q .normal) (fun a w h=>h.2) (vr (Q:=gV cx ops aa d o q Q) (fun e a w h=>h.1) ?_)
 unfold wpOp
 rw[O]
 exact U
theorem RD(L:br E cx){aa:Oper}{d:Nat}{o:List Nat}(O:gK aa=true){orc:List ak}{r:di}(R:fc E st aa orc=some r)(U:bJ r.ob)(V:look st.ab d=some r.aM)(aj:mE r.aM=true)
  (h:bH cx ops (dk Q) (bB ops o) st):N cx (gV cx ops aa d o [] Q) .normal st:=fun T w q=>⟨rfl,wP L q O R U V aj,h T w q⟩
theorem Of(R:br E cx){aa o:Oper}{d c:Nat}{q L:List Nat}(U:gK aa=true){orc:List ak}{r:di}(V:fc E st aa orc=some r)(W:bJ r.ob)(Y:look st.ab d=some r.aM)(aj:mE r.aM=true)
  (Z:ops[c]? =some o)(h:bH cx ops (gV cx ops aa d q L Q) [o] st):N cx (gV cx ops aa d q (c::L) Q) .normal st:=fun T w O=>⟨rfl,wP R O U V W Y aj,tP Z h O⟩
theorem Le(h:N cx Q .normal st):N cx (dk Q) .normal st:=fun T w o=>⟨rfl,h T w o⟩
theorem Ek{id:Nat}{l:List Oper}(U:br E cx)(o q:List Nat)(i:Nat)(L O:List Nat){aa:Oper}{d:Nat}(V:E.P.follows .mixedOrders=true)(Y:mY .any l.toArray o q i L O=true)
  (Z:o.length+(q.length+(L.length+O.length+1))=l.length)(la:l[i]? =some aa)(aj:aa.dst=some d)(lb:aa.guard=none)(lc:(aa.looksAt l.toArray).contains d=false)(le:Nat.blt d E.n=true)
  (h:∀T w,al cx st T w->wpQuiet cx.P l.toArray (fun _=>True) (wpQuiet cx.P l.toArray (Ext w) (fun R=>∀w',Ext w w'->d<R.tmps.size/\∃v,(execOp R.eval aa).run cx.P w'=.ok (.value v) w'/\h8 cx.P l.toArray (dk Q) aa d O L (R.put aa.dst v) w') (bB l.toArray q)) (bB l.toArray o) ⟨T,ah.D cx⟩):
  W cx Q (.region id l.toArray true) st:=by
 intro T w ld
 exact Lk (C:=Ext w) o q i L O (by rw[U.P];exact V) Y Z la aj lb lc (Ext.refl w).drew (h T w ld)
def ri(E:Env)(ops:Array Oper)(q L:List Nat)(aa:Oper)(d:Nat)(st:af)(orc orci:List ak)(O bs ap:List Nat):Option (af×List ak×List Prop):=
 match gM E ops (bB ops q) st orc with
 |some (R,U,V)=>match fz E ops (bB ops L) R U with
  |some (o,aX,W)=>match fc E o aa orci with
   |some r=>match(o.put d r.aM).norm O bs ap with
    |some s=>some (s,aX++r.orc,V++(W++r.ob))
    |none=>none
   |none=>none
  |none=>none
 |none=>none
theorem M3{id:Nat}{l:List Oper}(q:br E cx)(L O:List Nat)(i c:Nat)(R U:List Nat)(lc bs ap:List Nat){aa Z:Oper}{d:Nat}{orc orci:List ak}{ob:List Prop}(ld:E.P.follows .mixedOrders=true)(le:mY .any l.toArray L O i (c::R) U=true)
  (lf:L.length+(O.length+((c::R).length+U.length+1))=l.length)(lg:l[i]? =some aa)(aj:aa.dst=some d)(lh:aa.guard=none)(li:(aa.looksAt l.toArray).contains d=false)(la:Nat.blt d E.n=true)(lj:gK aa=true)(lk:l[c]? =some Z)
  (o:ri E l.toArray L O aa d st orc orci lc bs ap=some (st',[],ob))(V:bJ ob)(h:bH cx l.toArray (gV cx l.toArray aa d U R Q) [Z] st'):W cx Q (.region id l.toArray true) st:=by
 unfold ri at o
 split at o
 case h_2=>cases o
 rename_i lz lA lB ll
 split at o
 case h_2=>cases o
 rename_i lC aX lD lm
 split at o
 case h_2=>cases o
 rename_i r ln
 split at o
 case h_2=>cases o
 rename_i s lo
 simp only[Option.some.injEq,Prod.mk.injEq]at o
 obtain⟨rfl,lp,rfl⟩:=o
 obtain⟨rfl,_⟩:=List.append_eq_nil_iff.1 lp
 obtain⟨lq,V⟩:=mu V
 obtain⟨lr,ls⟩:=mu V
 have lb:d<cx.n:=by rw[q.n];exact cw la
 refine Ek q L O i (c::R) U ld le lf lg aj lh li la fun T w lt=>?_
 refine oL q lt ll lq fun lE lu=>?_
 refine kj q lu lm lr fun lF lv w' lw=>?_
 obtain⟨m,Y⟩:=lv.ext lw
 obtain⟨v,lx,ly⟩:=tu q Y lj ln ls
 refine⟨by rw[Y.size];exact lb,v,lx w' (Ext.refl w'),?_⟩
 rw[aj]
 exact tP (by simpa using lk) h ⟨m,(Y.put lb ly).norm lo⟩
theorem La{id:Nat}{l:List Oper}(V:br E cx)(o q:List Nat)(i c:Nat)(L O:List Nat)(R bs ap:List Nat){aa U:Oper}{d:Nat}{orc orci:List ak}{ob:List Prop}(Y:l[i]? =some aa)(aj:aa.dst=some d)(Z:l[c]? =some U)(la:E.P.follows .mixedOrders=true)(lb:mY .any l.toArray o q i (c::L) O=true)
  (lc:o.length+(q.length+((c::L).length+O.length+1))=l.length)(ld:aa.guard=none)(le:(aa.looksAt l.toArray).contains d=false)(lf:Nat.blt d E.n=true)(lg:gK aa=true)
  (lh:(ri E l.toArray o q aa d st orc orci R bs ap).map Prod.snd=some ([],ob))(li:hY ob)(h:bH cx l.toArray (gV cx l.toArray aa d O L Q) [U] (pb (ri E l.toArray o q aa d st orc orci R bs ap))):W cx Q (.region id l.toArray true) st:=
 M3 V o q i c L O R bs ap la lb lc Y aj ld le lf lg Z (tf lh) li.all h
theorem Tb(O:br E cx){aa:Oper}{d:Nat}{q:List Nat}{orc:List ak}{ob:List Prop}(R:gK aa=true)(U:(fc E st aa orc).map di.ob=some ob)(o:(fc E st aa orc).map di.aM=look st.ab d)(aj:(look st.ab d).any mE=true)(V:hY ob)
  (h:bH cx ops (dk Q) (bB ops q) st):N cx (gV cx ops aa d q [] Q) .normal st:=by
 obtain⟨r,L,W⟩:=Option.map_eq_some_iff.1 U
 rw[L]at o
 rw[<-o]at aj
 exact RD O R L (W▸V.all) o.symm aj h
theorem R7(U:br E cx){aa q:Oper}{d c:Nat}{L O:List Nat}{orc:List ak}{ob:List Prop}(V:gK aa=true)(W:(fc E st aa orc).map di.ob=some ob)(o:(fc E st aa orc).map di.aM=look st.ab d)(aj:(look st.ab d).any mE=true)(Y:hY ob)
  (Z:ops[c]? =some q)(h:bH cx ops (gV cx ops aa d L O Q) [q] st):N cx (gV cx ops aa d L (c::O) Q) .normal st:=by
 obtain⟨r,R,la⟩:=Option.map_eq_some_iff.1 W
 rw[R]at o
 rw[<-o]at aj
 exact Of U V R (la▸Y.all) o.symm aj Z h
end Go.Ev
namespace Go.Ev
open Go Go.RowKit
variable [bV]
section
variable {P:Program} {w w':World} {M:Nat->Prop}
theorem GF{α q:Type}{eq:α->α->Bool}{key:α}{x:q}:∀(ps:List (α×q)),cD eq ps key=none->eq key key=true->cD eq (ps++[(key,x)]) key=some x
 |[],_,h=>by simp[cD,h]
 |p::ps,o,h=>by
  unfold cD at o
  rw[List.cons_append]
  unfold cD
  cases L:eq key p.1 with
  |true=>rw[L]at o;simp at o
  |false=>rw[L]at o;simp at o⊢;exact GF ps o h
theorem H1{α:Type}(f:α->α):∀(l:List α) (n:Nat) (e:α),l[n]? =some e->f e=e->l.modify n f=l
 |[],n,e,h,_=>by simp at h
 |x::l,0,e,h,o=>by
  simp at h
  subst h
  show f x::l=x::l
  rw[o]
 |x::l,n+1,e,h,o=>by
  rw[List.modify_succ_cons,H1 f l n e (by simpa using h) o]
theorem DS{α:Type}{f:α->α->Bool}(h:∀x,f x x=true):∀xs:List α,jl f xs xs=true
 |[]=>rfl
 |x::xs=>by simp only[jl,h x,DS h xs,Bool.and_self]
theorem J1:∀(t:ag) (x:t.el),t.flat=true->aV t x x=true:=by
 intro t
 induction t with
 |int k=>intro x _;exact beq_self_eq_true (α:=Int) x
 |bool=>intro x _;exact beq_self_eq_true (α:=Bool) x
 |str=>intro x _;exact beq_self_eq_true (α:=List UInt8) x
 |unit=>intro x _;rfl
 |pair a b o q=>
  intro x h
  simp only[ag.flat,Bool.and_eq_true]at h
  simp only[aV,o x.1 h.1,q x.2 h.2,Bool.and_self]
 |arr n t L=>intro x h;exact DS (fun y=>L y h) x
 |ab t _=>intro x h;cases h
 |ptr t _=>intro x h;cases h
 |fn f t _=>intro x h;cases h
 |err=>intro x h;cases h
 |ck=>intro x h;cases h
 |cy n t _=>intro x h;cases h
 |alt n t r _ _=>intro x h;cases h
 |map k v _ _=>intro x h;cases h
theorem Ks{mt U lj:TypeId}{d d':Nat}{u v:ag}(V:P.underlying mt=some (.map U lj))(W:cH P d U=some u)(Y:dJ P d' U=true)(aj:d'<=10000)(ld:u.flat=true)(lt:v.flat=true)
  {z:Value}(le:∀w,(zeroValue lj).run P w=.ok z w)(Z:∀w M,bc w M z v (bX v))
  {kv:Value}{key:u.el}(o:bc w M kv u key){g:Nat}{es:Array MapEntry}{clock:Nat}{ps:List (u.el×v.el)}
  (la:w.heap[g]? =some (.map es clock))(q:dG (dI w M u) (dI w M v) es.toList ps)
  {t:Value}{lf:World}(L:(Instr.mapEntry mt (.map (some g)) kv).run P w=.ok t lf):
  ∃r,bc w M r v ((cD (aV u) ps key).getD (bX v))/\(Instr.lookup mt (.map (some g)) kv false).run P w=.ok r w/\(Instr.lookup mt (.map (some g)) kv false).run P lf=.ok r lf:=by
 obtain⟨r,lk,lu⟩:=mM V W Y aj le Z o q
 have ll:=lu w (.map (some g)) (.inr ⟨g,clock,rfl,la⟩) false
 simp only[Bool.false_eq_true,if_false]at ll
 refine⟨r,lk,ll,?_⟩
 have lm:=nv (P:=P) false d U u W d' Y 10000 aj w w M kv key o
 have lb:=sI W Y aj o w q
 have ln:(getObj g).run P w=.ok (.map es clock) w:=by simp[getObj,Sem.run,la]
 have lo:∀aa,(setObj g aa).run P w=.ok () {w with heap:=w.heap.setIfInBounds g aa}:=fun aa=>by simp[setObj,Sem.run,la]
 have lv:=fG la
 have fin:∀(O:Array MapEntry) (R:Nat) (lg:List (u.el×v.el)),dG (dI w M u) (dI w M v) O.toList lg->(cD (aV u) lg key).getD (bX v)=(cD (aV u) ps key).getD (bX v)->
   (Instr.lookup mt (.map (some g)) kv false).run P {w with heap:=w.heap.setIfInBounds g (.map O R)}=.ok r {w with heap:=w.heap.setIfInBounds g (.map O R)}:=by
  intro O R lg lw lx
  obtain⟨lH,lp,ly⟩:=mM V W Y aj le Z o lw
  have lq:=ly {w with heap:=w.heap.setIfInBounds g (.map O R)} (.map (some g)) (.inr ⟨g,R,rfl,by show(w.heap.setIfInBounds g _)[g]? =_;rw[Array.getElem?_setIfInBounds_self_of_lt lv]⟩) false
  simp only[Bool.false_eq_true,if_false]at lq
  rw[lx]at lp
  rw[kp lt lk lp]
  exact lq
 rcases sk (kv:=kv) (vv:=z) (val:=bX v) (eq:=aV u) (key:=key) o (Z w M) es.toList ps 0 q with ⟨lc,lh⟩|⟨n,e,lz,lc,lh,lA,lB,lI⟩
 ·rw[lc]at lb
  unfold Instr.mapEntry at L
  simp only[Sem.run_bind,run_underlying V,Result.andThen_ok,ln,lm,lb,lo,le,Sem.run_pure]at L
  cases L
  have lr:cD (aV u) ps key=none:=by
   rcases uE (eq:=aV u) (key:=key) es.toList ps 0 q with ⟨_,h⟩|⟨n,e,y,h,_⟩
   ·exact h
   ·rw[lc]at h;cases h
  refine fin _ _ (ps++[(key,bX v)]) ?_ ?_
  ·rw[Array.toList_push]
   exact sQ q ⟨o,Z _ _,trivial⟩
  ·rw[GF ps lr (J1 u key ld),lr]
   rfl
 ·rw[lc,Nat.zero_add]at lb
  have lC:key=lz:=xW u lB
  subst lC
  have ls:e.key=kv:=kp ld lA o
  have lD:es[n]? =some e:=by rw[<-Array.getElem?_toList];exact lh
  have lE:((es[n]?).map (·.key)).getD kv=kv:=by rw[lD];simp[ls]
  have lF:∀li,(Instr.keyThatStays kv kv).run P li=.ok kv li:=fun li=>by
   unfold Instr.keyThatStays
   rw[if_pos (Co ld o)]
   rfl
  have lG:es.modify n (fun e=>{e with key:=kv})=es:=by
   apply Array.ext'
   rw[Array.toList_modify]
   exact H1 _ es.toList n e lh (by rw[<-ls])
  unfold Instr.mapEntry at L
  simp only[Sem.run_bind,run_underlying V,Result.andThen_ok,ln,lm,lb,lE,lF,lo,Sem.run_pure,lG]at L
  cases L
  exact fin es clock ps q rfl
end
section
variable {P:Program} {ops:Array Oper} {md:Region.Mode} {Q:Exit->Act->World->Prop}
theorem rQ{aa:Oper}{l:List Oper}{a:Act}{w w':World}{v:Value}(o:aa.guard=none)(q:(execOp a.eval aa).run P w=.ok (.value v) w')(h:wpList P ops Q l (a.put aa.dst v) w'):wpList P ops Q (aa::l) a w:=by
 unfold wpList
 rw[if_pos (show Region.wanted aa (yielded ops a.tmps)=true from by unfold Region.wanted;rw[o])]
 refine .inl ?_
 unfold Oper.wp
 rw[q]
 exact h
theorem Hb{aa:Oper}{l:List Oper}{a:Act}{w w':World}(o:aa.guard=none)(q:(execOp a.eval aa).run P w=.ok .skip w')(h:wpList P ops Q l (a.put aa.dst undef) w'):wpList P ops Q (aa::l) a w:=by
 unfold wpList
 rw[if_pos (show Region.wanted aa (yielded ops a.tmps)=true from by unfold Region.wanted;rw[o])]
 refine .inl ?_
 unfold Oper.wp
 rw[q]
 exact h
structure gZ where
 aX:Oper
 dM:Oper
 ft:Oper
 fX:Oper
 ir:Oper
 d2:Nat
 d3:Nat
 d4:Nat
 d5:Nat
def gZ.ok(C:gZ)(ops:Array Oper):Bool:=
 C.aX.guard.isNone&&(C.dM.guard.isNone&&(C.ft.guard.isNone&&(C.fX.guard.isNone&&(C.ir.guard.isNone&&
 (decide (C.aX.dst=some C.d2)&&(decide (C.dM.dst=some C.d3)&&(decide (C.ft.dst=some C.d4)&&(decide (C.fX.dst=some C.d5)&&(decide (C.ir.dst=none)&&
 (!(C.aX.looksAt ops).contains C.d4&&(!(C.aX.looksAt ops).contains C.d5&&(!(C.dM.looksAt ops).contains C.d4&&(!(C.dM.looksAt ops).contains C.d5&&
 (!(C.ft.looksAt ops).contains C.d2&&(!(C.ft.looksAt ops).contains C.d3&&(!(C.fX.looksAt ops).contains C.d2&&(!(C.fX.looksAt ops).contains C.d3&&
 (!Nat.beq C.d2 C.d4&&(!Nat.beq C.d2 C.d5&&(!Nat.beq C.d3 C.d4&&!Nat.beq C.d3 C.d5))))))))))))))))))))
def rf(ops:Array Oper)(c2 c3 o c5 q:Nat):Option gZ:=match ops[c2]?,ops[c3]?,ops[o]?,ops[c5]?,ops[q]? with
 |some aX,some dM,some ft,some fX,some ir=>match aX.dst,dM.dst,ft.dst,fX.dst with
  |some d2,some d3,some d4,some d5=>match gZ.ok ⟨aX,dM,ft,fX,ir,d2,d3,d4,d5⟩ ops with
   |true=>some ⟨aX,dM,ft,fX,ir,d2,d3,d4,d5⟩
   |false=>none
  |_,_,_,_=>none
 |_,_,_,_,_=>none
structure nW(P:Program)(Q:Exit->Act->World->Prop)(C:gZ)(a:Act)(w:World)(v2 v3 v4 v5:Value)(o q:World):Prop where
 ch:(execOp a.eval C.aX).run P w=.ok (.value v2) w
 mC:(execOp a.eval C.aX).run P o=.ok (.value v2) o
 dw:∀w',(execOp (a.put (some C.d2) v2).eval C.dM).run P w'=.ok (.value v3) w'
 fM:(execOp a.eval C.ft).run P w=.ok (.value v4) o
 gw:∀w',(execOp (a.put (some C.d4) v4).eval C.fX).run P w'=.ok (.value v5) w'
 gl:(execOp ((((a.put (some C.d2) v2).put (some C.d3) v3).put (some C.d4) v4).put (some C.d5) v5).eval C.ir).run P o=.ok .skip q
 fin:Q .normal ((((a.put (some C.d2) v2).put (some C.d3) v3).put (some C.d4) v4).put (some C.d5) v5) q
def pO(md:Region.Mode)(ops:Array Oper)(c2 c3 o c5 q:Nat)(done:Array Bool):Bool:=
 ((Region.ready md ops done).all fun j=>Nat.beq j c2||Nat.beq j o)&&(Region.ready md ops done).contains c2&&
 eJ md ops (eS md ops [o,c5,q]) [c3] (done.setIfInBounds c2 true)&&eJ md ops (eS md ops [c2,c3,q]) [c5] (done.setIfInBounds o true)
theorem Tn{a b:Nat}(h:(!Nat.beq a b)=true):a≠b:=fun e=>by subst e;simp at h
theorem IP{c2 c3 O c5 Y:Nat}{C:gZ}(lb:Region.noSelect ops=true)(le:∀e a w,Q e a w->e=.normal)(q:rf ops c2 c3 O c5 Y=some C){done:Array Bool}{a:Act}{w:World}(lf:pO md ops c2 c3 O c5 Y done=true){v2 v3 v4 v5:Value}{o lq:World}(F:nW P Q C a w v2 v3 v4 v5 o lq):
  wpAny P md ops Q 5 done a w:=by
 unfold rf at q
 split at q
 case h_2=>cases q
 rename_i aX dM ft fX ir Z R la U lg
 split at q
 case h_2=>cases q
 rename_i d2 d3 d4 d5 _ _ _ _
 split at q
 case h_2=>cases q
 rename_i lh
 cases q
 simp only[gZ.ok,Bool.and_eq_true,Option.isNone_iff_eq_none,decide_eq_true_eq,Bool.not_eq_true']at lh
 obtain⟨g2,g3,g4,g5,g6,li,lj,lk,ll,lm,lr,ls,lt,lu,lv,lw,lx,ly,n24,n25,n34,n35⟩:=lh
 have n24:d2≠d4:=fun e=>by subst e;simp at n24
 have n25:d2≠d5:=fun e=>by subst e;simp at n25
 have n34:d3≠d4:=fun e=>by subst e;simp at n34
 have n35:d3≠d5:=fun e=>by subst e;simp at n35
 have put:∀(c:Nat) (aa:Oper) (a:Act) (d:Nat) (v:Value),ops[c]? =some aa->(aa.looksAt ops).contains d=false->execOp (a.put (some d) v).eval aa=execOp a.eval aa:=fun c aa a d v V h=>
  execOp_put aa (fun lz b=>Region.noSelect_spec lb c aa lz b V) a (some d) v fun x lA=>by cases lA;simpa using h
 have L:∀(a:Act) (d e:Nat) (u v:Value),d≠e->(a.put (some d) u).put (some e) v=(a.put (some e) v).put (some d) u:=fun a d e u v h=>by simp only[Act.put];rw[Array.setIfInBounds_comm _ _ h]
 obtain⟨ch,mC,dw,fM,gw,gl,fin⟩:=F
 dsimp only at ch mC dw fM gw gl fin
 simp only[pO,Bool.and_eq_true]at lf
 obtain⟨⟨⟨lB,lC⟩,ln⟩,lo⟩:=lf
 have lp:c2∈Region.ready md ops done:=by simpa using lC
 refine⟨fun W=>(by rw[W]at lp;cases lp),fun k lD=>?_⟩
 have:=List.all_eq_true.1 lB k lD
 rw[Bool.or_eq_true]at this
 rcases this with W|W
 ·have:=Nat.eq_of_beq_eq_true W
  subst this
  simp only[eJ,Bool.and_eq_true]at ln
  obtain⟨⟨lc,ld⟩,V⟩:=ln
  unfold wpOp
  simp only[Z]
  rw[if_pos (show Region.wanted aX (yielded ops a.tmps)=true from by unfold Region.wanted;rw[g2])]
  refine .inl ?_
  unfold Oper.wp
  rw[ch]
  show wpAny P md ops Q 4 (done.setIfInBounds k true) (a.put aX.dst v2) w
  rw[li]
  refine wpAny_first R (Region.noSelect_spec lb) (fun c a w h=>Exit.noConfusion (le _ _ _ h)) 3 _ _ w (Region.free_spec R ld) (by simpa using lc) (v:=v3) (.inl ⟨by unfold Region.wanted;rw[g3],dw⟩) ?_
  refine oo [O,c5,Y] _ _ w V ?_
  simp only[bB,la,U,lg]
  rw[lj]
  refine rQ g4 (w':=o) (v:=v4) (by rw[put O ft _ d3 _ la lw,put O ft _ d2 _ la lv];exact fM) ?_
  rw[lk]
  refine rQ g5 (w':=o) (v:=v5) (by rw[L _ d3 d4 _ _ n34,put c5 fX _ d3 _ U ly,L _ d2 d4 _ _ n24,put c5 fX _ d2 _ U lx];exact gw o) ?_
  rw[ll]
  refine Hb g6 gl ?_
  rw[lm]
  exact fin
 ·have:=Nat.eq_of_beq_eq_true W
  subst this
  simp only[eJ,Bool.and_eq_true]at lo
  obtain⟨⟨lc,ld⟩,V⟩:=lo
  unfold wpOp
  simp only[la]
  rw[if_pos (show Region.wanted ft (yielded ops a.tmps)=true from by unfold Region.wanted;rw[g4])]
  refine .inl ?_
  unfold Oper.wp
  rw[fM]
  show wpAny P md ops Q 4 (done.setIfInBounds k true) (a.put ft.dst v4) o
  rw[lk]
  refine wpAny_first U (Region.noSelect_spec lb) (fun c a w h=>Exit.noConfusion (le _ _ _ h)) 3 _ _ o (Region.free_spec U ld) (by simpa using lc) (v:=v5) (.inl ⟨by unfold Region.wanted;rw[g5],gw⟩) ?_
  refine oo [c2,c3,Y] _ _ o V ?_
  simp only[bB,Z,R,lg]
  rw[ll]
  refine rQ g2 (w':=o) (v:=v2) (by rw[put c2 aX _ d5 _ Z ls,put c2 aX _ d4 _ Z lr];exact mC) ?_
  rw[li]
  have lE:(((a.put (some d4) v4).put (some d5) v5).put (some d2) v2)=(((a.put (some d2) v2).put (some d4) v4).put (some d5) v5):=by
   rw[L _ d5 d2 _ _ n25.symm,L _ d4 d2 _ _ n24.symm]
  rw[lE]
  refine rQ g3 (w':=o) (v:=v3) (by rw[put c3 dM _ d5 _ R lu,put c3 dM _ d4 _ R lt];exact dw o) ?_
  rw[lj]
  have lF:(((a.put (some d2) v2).put (some d4) v4).put (some d5) v5).put (some d3) v3=(((a.put (some d2) v2).put (some d3) v3).put (some d4) v4).put (some d5) v5:=by
   rw[L _ d5 d3 _ _ n35.symm,L _ d4 d3 _ _ n34.symm]
  rw[lF]
  refine Hb g6 gl ?_
  rw[lm]
  exact fin
def tv(md:Region.Mode)(ops:Array Oper)(q L:List Nat)(c2 c3 o c5 O:Nat):Bool:=jV md ops q L [c2,o] (pO md ops c2 c3 o c5 O)
end
section
variable {cx:bx} {m:Nat->Value} {st st':af} {T:Array Value} {w w':World} {E:Env} {Q:cB} {ops:Array Oper} {l:List Oper}
variable [ah cx]
def Bx(C:gZ):Option (TypeId×Nat×Nat×BinOp×TypeId×Operand×Operand×TypeId×TypeId×Operand):=match C.aX.op,C.dM.op,C.ft.op,C.fX.op,C.ir.op with
 |.lookup mt (.tmp x) (.tmp k) false,.binOp o t a b q,.mapEntry L (.tmp x') (.tmp k'),.extract (.tmp a4) 1,.entryStore O (.tmp R) (.tmp a5) v=>
  match Nat.beq mt L&&(Nat.beq x x'&&(Nat.beq k k'&&(Nat.beq a4 C.d4&&(Nat.beq x R&&(Nat.beq a5 C.d5&&(eG (.tmp x) C.d2&&(eG (.tmp x) C.d3&&(eG (.tmp x) C.d4&&(eG (.tmp x) C.d5&&(eG (.tmp k) C.d2&&(eG (.tmp k) C.d3&&(eG v C.d4&&(eG v C.d5&&!Nat.beq C.d2 C.d3)))))))))))))with
  |true=>some (mt,x,k,o,t,a,b,q,O,v)
  |false=>none
 |_,_,_,_,_=>none
theorem LF{C:gZ}{mt t o q:TypeId}{x k:Nat}{op:BinOp}{a b v:Operand}(h:Bx C=some (mt,x,k,op,t,a,b,o,q,v)):
  C.aX.op=.lookup mt (.tmp x) (.tmp k) false/\C.dM.op=.binOp op t a b o/\C.ft.op=.mapEntry mt (.tmp x) (.tmp k)/\C.fX.op=.extract (.tmp C.d4) 1/\C.ir.op=.entryStore q (.tmp x) (.tmp C.d5) v/\
  eG (.tmp x) C.d2=true/\eG (.tmp x) C.d3=true/\eG (.tmp x) C.d4=true/\eG (.tmp x) C.d5=true/\eG (.tmp k) C.d2=true/\eG (.tmp k) C.d3=true/\eG v C.d4=true/\eG v C.d5=true/\C.d2≠C.d3:=by
 unfold Bx at h
 split at h
 case h_2=>cases h
 rename_i mt x k op t a b o ln x' k' a4 q lo a5 v lc ld Y Z la
 split at h
 case h_2=>cases h
 rename_i lb
 simp only[Option.some.injEq,Prod.mk.injEq]at h
 obtain⟨rfl,rfl,rfl,rfl,rfl,rfl,rfl,rfl,rfl,rfl⟩:=h
 simp only[Bool.and_eq_true]at lb
 obtain⟨L,O,R,U,V,W,le,lf,lg,lh,li,lj,lk,ll,lm⟩:=lb
 have L:=Nat.eq_of_beq_eq_true L
 have O:=Nat.eq_of_beq_eq_true O
 have R:=Nat.eq_of_beq_eq_true R
 have U:=Nat.eq_of_beq_eq_true U
 have V:=Nat.eq_of_beq_eq_true V
 have W:=Nat.eq_of_beq_eq_true W
 rw[<-L,<-O,<-R]at Y
 rw[U]at Z
 rw[<-V,W]at la
 exact⟨lc,ld,Y,Z,la,le,lf,lg,lh,li,lj,lk,ll,Tn lm⟩
def G1(P:Program)(mt:TypeId):Bool:=match P.underlying mt with
 |some (.map o _)=>match ty P o with
  |some u=>u.flat
  |none=>false
 |_=>false
def xu(E:Env)(st:af)(C:gZ):Option af:=match Bx C with
 |some (mt,x,k,q,t,a,b,_,_,v)=>match rj E.P st mt (.tmp x) (.tmp k) false []with
  |some ⟨.val o y,[],[]⟩=>match Nat.blt C.d2 E.n&&(Nat.blt C.d3 E.n&&(Nat.blt C.d4 E.n&&(Nat.blt C.d5 E.n&&(o.flat&&G1 E.P mt)))),cY (st.put C.d2 (.val o y)) a,cY (st.put C.d2 (.val o y)) b with
   |true,some L,some O=>match bin E.P q t L O with
    |some (r,[])=>match qy E.P ((st.put C.d2 (.val o y)).put C.d3 (.val r.t r.x)) mt (.tmp x) (.tmp k) v with
     |some R=>some ((R.put C.d4 .any).put C.d5 .any)
     |none=>none
    |_=>none
   |_,_,_=>none
  |_=>none
 |none=>none
theorem OX(W:br E cx)(h:an cx m st T w){C:gZ}(o:xu E st C=some st'):∃v2 v3 v4 v5 L O,(∀{Q:cB},N cx Q .normal st'->nW cx.P (dk Q) C ⟨T,ah.D cx⟩ w v2 v3 v4 v5 L O):=by
 unfold xu at o
 split at o
 case h_2=>cases o
 rename_i mt x k az t a b aA aB v ly
 obtain⟨lk,lz,lA,lB,lC,lD,lE,lF,lG,lH,lI,y4,lJ,n23⟩:=LF ly
 split at o
 case h_2=>cases o
 rename_i aC y q
 split at o
 case h_2=>cases o
 rename_i aD aE ll lK lL
 simp only[Bool.and_eq_true]at ll
 obtain⟨lM,lN,lO,lP,lm,Y⟩:=ll
 split at o
 case h_2=>cases o
 rename_i r ln
 split at o
 case h_2=>cases o
 rename_i lQ lo
 cases o
 rw[<-W.P]at q ln lo Y
 have lR:C.d2<cx.n:=by rw[W.n];exact cw lM
 have lS:C.d3<cx.n:=by rw[W.n];exact cw lN
 have lp:C.d4<cx.n:=by rw[W.n];exact cw lO
 have lq:C.d5<cx.n:=by rw[W.n];exact cw lP
 unfold rj at q
 split at q
 case h_2=>cases q
 rename_i R aF aG key lT Z lU
 split at q
 case h_2=>cases q
 rename_i aH aI lr la lV lW
 split at q
 case h_1=>cases q
 case h_3=>cases q
 rename_i U _
 simp only[Option.some.injEq,di.mk.injEq,ao.val.injEq,and_true]at q
 obtain⟨rfl,ld⟩:=q
 have ld:=eq_of_heq ld
 subst ld
 obtain⟨s,lX,lY⟩:=Option.bind_eq_some_iff.1 lT
 have le:=cK h lU
 have lZ:=ak.cO lW
 subst lZ
 obtain⟨z,_,lf,lg⟩:=A0 lV
 simp only[Bool.and_eq_true]at U
 have l0:=ag.eq_of_beq U.1.1
 have l3:=ag.eq_of_beq U.1.2
 subst l0
 subst l3
 have l4:R.k.flat=true:=by
  unfold G1 at Y
  rw[Z]at Y
  simp only[la]at Y
  exact Y
 -- the state behind the sum
 have ls:T.size=cx.n:=h.size
 have lt:∀(v2:Value),bc w (ar cx m st.ids) v2 R.v ((cD (aV R.k) R.ps lr).getD (bX R.v))->
   ∃v3 v4 v5 L O s v0,(∀w',(execOp (Act.eval ((⟨T,ah.D cx⟩:Act).put (some C.d2) v2)) C.dM).run cx.P w'=.ok (.value v3) w')/\
    (Instr.mapEntry mt (Act.eval ⟨T,ah.D cx⟩ (.tmp x)) (Act.eval ⟨T,ah.D cx⟩ (.tmp k))).run cx.P w=.ok (.tuple #[v0,.int .i64 s]) L/\v4=.tuple #[v0,.int .i64 s]/\v5=.int .i64 s/\
    (execOp (Act.eval (((((⟨T,ah.D cx⟩:Act).put (some C.d2) v2).put (some C.d3) v3).put (some C.d4) v4).put (some C.d5) v5)) C.ir).run cx.P L=.ok .skip O/\
    al cx ((lQ.put C.d4 .any).put C.d5 .any) (((T.setIfInBounds C.d2 v2).setIfInBounds C.d3 v3).setIfInBounds C.d4 v4|>.setIfInBounds C.d5 v5) O:=by
  intro v2 l5
  have lh:=h.put (d:=C.d2) (s:=.val R.v ((cD (aV R.k) R.ps lr).getD (bX R.v))) (v:=v2) lR l5
  obtain⟨v3,l6,l7⟩:=ww (ox:=a) (oy:=b) (cK lh lK) (cK lh lL) ln trivial
  have l8:=lh.put (d:=C.d3) (s:=.val r.t r.x) (v:=v3) lS (l7 _ _)
  obtain⟨v0,s,L,O,lu,l9,li⟩:=Fw l8 lo
  have aa:Act.eval ⟨(T.setIfInBounds C.d2 v2).setIfInBounds C.d3 v3,ah.D cx⟩ (.tmp x)=Act.eval ⟨T,ah.D cx⟩ (.tmp x):=(gR lE).trans (gR lD)
  have ab:Act.eval ⟨(T.setIfInBounds C.d2 v2).setIfInBounds C.d3 v3,ah.D cx⟩ (.tmp k)=Act.eval ⟨T,ah.D cx⟩ (.tmp k):=(gR lI).trans (gR lH)
  rw[aa,ab]at lu
  refine⟨v3,_,_,L,O,s,v0,fun w'=>ca (by simp only[execOp,lz]) (l6 w'),lu,rfl,rfl,?_,⟨m,(li.put lp (s:=.any) trivial).put lq (s:=.any) trivial⟩⟩
  have ad:Act.eval ⟨(((T.setIfInBounds C.d2 v2).setIfInBounds C.d3 v3).setIfInBounds C.d4 (.tuple #[v0,.int .i64 s])).setIfInBounds C.d5 (.int .i64 s),ah.D cx⟩ (.tmp C.d5)=.int .i64 s:=eval_put (by simp only[Array.size_setIfInBounds];rw[ls];exact lq)
  have ae:Act.eval ⟨(((T.setIfInBounds C.d2 v2).setIfInBounds C.d3 v3).setIfInBounds C.d4 (.tuple #[v0,.int .i64 s])).setIfInBounds C.d5 (.int .i64 s),ah.D cx⟩ (.tmp x)=Act.eval ⟨(T.setIfInBounds C.d2 v2).setIfInBounds C.d3 v3,ah.D cx⟩ (.tmp x):=(gR lG).trans (gR lF)
  have af:Act.eval ⟨(((T.setIfInBounds C.d2 v2).setIfInBounds C.d3 v3).setIfInBounds C.d4 (.tuple #[v0,.int .i64 s])).setIfInBounds C.d5 (.int .i64 s),ah.D cx⟩ v=Act.eval ⟨(T.setIfInBounds C.d2 v2).setIfInBounds C.d3 v3,ah.D cx⟩ v:=(gR lJ).trans (gR y4)
  show(execOp (Act.eval ⟨(((T.setIfInBounds C.d2 v2).setIfInBounds C.d3 v3).setIfInBounds C.d4 (.tuple #[v0,.int .i64 s])).setIfInBounds C.d5 (.int .i64 s),ah.D cx⟩) C.ir).run cx.P L=.ok .skip O
  simp only[execOp,lC,Sem.run_bind,ad,ae,af,l9,Result.andThen_ok,Sem.run_pure]
 rcases BU h (a8 h lX) lY with ⟨V,ai⟩|⟨g,es,aJ,V,aj,lv⟩
 ·obtain⟨v2,lb,_⟩:=mM (w':=w) (M':=ar cx m st.ids) (d:=iu) (d':=16) Z la U.2 (by decide) lf lg le (es:=#[]) (ps:=R.ps) (by rw[ai];trivial)
  obtain⟨v3,v4,v5,L,O,s,v0,_,lc,_⟩:=lt v2 lb
  rw[V]at lc
  unfold Instr.mapEntry at lc
  simp only[Sem.run_bind,run_underlying Z,Result.andThen_ok]at lc
  exact absurd lc (hd _ _ _ _)
 ·obtain⟨v2,lb,_⟩:=mM (d:=iu) (d':=16) Z la U.2 (by decide) lf lg le lv
  obtain⟨v3,v4,v5,L,O,s,v0,li,lj,lw,am,ap,aq⟩:=lt v2 lb
  rw[V]at lj
  obtain⟨lx,au,av,aw⟩:=Ks (d:=iu) (d':=16) Z la U.2 (by decide) l4 lm lf lg le aj lv lj
  have:lx=v2:=kp lm au lb
  subst this
  refine⟨lx,v3,v4,v5,L,O,fun{Q} ax=>⟨?_,?_,li,?_,?_,ap,rfl,ax _ _ aq⟩⟩
  ·exact ca (s:=Instr.lookup mt (Act.eval ⟨T,ah.D cx⟩ (.tmp x)) (Act.eval ⟨T,ah.D cx⟩ (.tmp k)) false) (by simp only[execOp,lk]) (by rw[V];exact av)
  ·exact ca (s:=Instr.lookup mt (Act.eval ⟨T,ah.D cx⟩ (.tmp x)) (Act.eval ⟨T,ah.D cx⟩ (.tmp k)) false) (by simp only[execOp,lk]) (by rw[V];exact aw)
  ·exact ca (s:=Instr.mapEntry mt (Act.eval ⟨T,ah.D cx⟩ (.tmp x)) (Act.eval ⟨T,ah.D cx⟩ (.tmp k))) (by simp only[execOp,lA]) (by rw[V,lw];exact lj)
  ·intro w'
   have ay:Act.eval ⟨T.setIfInBounds C.d4 v4,ah.D cx⟩ (.tmp C.d4)=v4:=eval_put (by rw[ls];exact lp)
   show(execOp (Act.eval ⟨T.setIfInBounds C.d4 v4,ah.D cx⟩) C.fX).run cx.P w'=_
   subst lw
   subst am
   simp only[execOp,lB,ay,Instr.extract]
   rfl
theorem Uh{id:Nat}{l:List Oper}(Z:br E cx)(o q:List Nat)(c2 c3 L c5 R:Nat){C:gZ}(la:E.P.follows .mixedOrders=true)(O:tv .any l.toArray o q c2 c3 L c5 R=true)(lb:o.length+(q.length+5)=l.length)(lc:rf l.toArray c2 c3 L c5 R=some C)
  (h:∀T w,al cx st T w->wpQuiet cx.P l.toArray (fun _=>True) (wpQuiet cx.P l.toArray (Ext w) (fun ld=>∀w',Ext w w'->∃v2 v3 v4 v5 V Y,nW cx.P (dk Q) C ld w' v2 v3 v4 v5 V Y) (bB l.toArray q)) (bB l.toArray o) ⟨T,ah.D cx⟩):
  W cx Q (.region id l.toArray true) st:=by
 intro T w le
 have lf:Region.noSelect l.toArray=true:=by
  unfold tv jV at O
  simp only[Bool.and_eq_true]at O
  exact O.1.1.1
 refine Code.wp_mono (Q:=dk Q) (fun e a w h=>by obtain⟨rfl,h⟩:=h;exact h)
  (sy (C:=Ext w) o q [c2,L] (pO .any l.toArray c2 c3 L c5 R) _ (by rw[Z.P];exact la) O (fun d j aj lg=>?_) (fun e a w h=>h.1)
   (fun d a w aj lh=>by
    obtain⟨v2,v3,v4,v5,V,Y,F⟩:=lh
    exact IP lf (fun e a w h=>h.1) lc aj F) lb (Ext.refl w).drew (h T w le))
 simp only[pO,Bool.and_eq_true]at aj
 have:=List.all_eq_true.1 aj.1.1.1 j lg
 rw[Bool.or_eq_true]at this
 rcases this with U|U
 ·rw[Nat.eq_of_beq_eq_true U];simp
 ·rw[Nat.eq_of_beq_eq_true U];simp
end
end Go.Ev
namespace Go.Ev
open Go Go.RowKit
variable [bV]
section
variable {P:Program} {ops:Array Oper} {md:Region.Mode} {S:World->Prop} {Q:Exit->Act->World->Prop}
def h9(P:Program)(ops:Array Oper)(Q:Exit->Act->World->Prop)(S:World->Prop):List Oper->Act->World->Prop
 |[],a,w=>Q .normal a w
 |aa::l,a,w=>if Region.wanted aa (yielded ops a.tmps)then aa.wp P a w (fun o w'=>S w'/\h9 P ops Q S l o w') Q else S w/\h9 P ops Q S l (a.put aa.dst undef) w
theorem En:∀(l:List Nat) (done:Array Bool) (a:Act) (w:World),eS md ops l done=true->h9 P ops Q S (bB ops l) a w->wpAnyH P md ops Q S l.length done a w
 |[],_,_,_,o,h=>⟨by simpa[eS]using o,h⟩
 |i::l,done,a,w,o,h=>by
  simp only[eS,Bool.and_eq_true,decide_eq_true_eq]at o
  have V:i∈Region.ready md ops done:=by rw[o.1];exact List.mem_cons_self
  obtain⟨_,aa,O,_⟩:=mem_ready.1 V
  unfold bB at h
  rw[O]at h
  refine⟨fun R=>(by rw[o.1]at R;cases R),fun k U=>?_⟩
  rw[o.1]at U
  have W:k=i:=by simpa using U
  subst W
  have Y:wpOp P ops Q k (fun q w'=>S w'/\h9 P ops Q S (bB ops l) q w') a w:=by
   unfold wpOp
   simp only[O]
   unfold h9 at h
   split
   ·rename_i L;rw[if_pos L]at h;exact .inl h
   ·rename_i L;rw[if_neg L]at h;exact h
  exact wpOp_mono (fun q w' h'=>⟨h'.1,En l _ q w' o.2 h'.2⟩) Y
def Ch(aa:Oper):Bool:=gu aa||gK aa
def sd(ops:Array Oper):List Nat->Bool
 |[]=>true
 |i::is=>(match ops[i]? with
  |some aa=>Ch aa
  |none=>false)&&sd ops is
theorem Sz{aa:Oper}(h:Ch aa=true){ρ:Operand->Value}{w q:World}{n:Next}(o:(execOp ρ aa).run P w=.ok n q):∃v,n=.value v:=by
 unfold Ch at h
 rw[Bool.or_eq_true]at h
 rcases h with h|h
 ·exact wI h o
 ·exact FC h o
theorem Rh{g:Nat}{Y:Array Bool->Bool}{K:Act->Prop}{w:World}(Z:S w)(la:Region.noSelect ops=true)(lb:∀c a w,¬Q (.panic c) a w)(lf:∀done a,Y done=true->K a->wpAnyH P md ops Q S g done a w):
  ∀(q:List Nat) (done:Array Bool) (a:Act),sd ops q=true->eJ md ops Y q done=true->wpQuiet P ops S K (bB ops q) a->wpAnyH P md ops Q S (q.length+g) done a w:=by
 intro q
 induction q with
 |nil=>intro done a _ o h;rw[List.length_nil,Nat.zero_add];exact lf _ _ o h
 |cons i is lc=>
  intro done a L o h
  unfold sd at L
  unfold eJ at o
  simp only[Bool.and_eq_true]at L o
  obtain⟨⟨ld,le⟩,o⟩:=o
  obtain⟨U,L⟩:=L
  unfold bB at h
  split at U
  ·rename_i aa O
   rw[O]at h
   rw[List.length_cons,Nat.succ_add]
   by_cases R:Region.wanted aa (yielded ops a.tmps)=true
   ·unfold wpQuiet at h
    rw[if_pos R]at h
    obtain⟨v,aY,lg⟩:=h
    refine wpAnyH_first O (Region.noSelect_spec la) (fun c a w V=>absurd V (lb _ _ _)) (is.length+g) done a w (Region.free_spec O le) (by simpa using ld) (v:=v) (.inl ⟨R,fun w' lh=>?_⟩) Z (lc _ _ L o lg)
    have:=aY w' lh
    unfold Oper.quietAt at this
    cases W:(execOp a.eval aa).run P w' with
    |halt e li=>rw[W]at this;exact this.elim
    |ok n li=>
     obtain⟨u,rfl⟩:=Sz U W
     rw[W]at this
     obtain⟨rfl,rfl⟩:=this
     rfl
   ·unfold wpQuiet at h
    rw[if_neg R]at h
    exact wpAnyH_first O (Region.noSelect_spec la) (fun c a w V=>absurd V (lb _ _ _)) (is.length+g) done a w (Region.free_spec O le) (by simpa using ld) (v:=undef) (.inr ⟨by simpa using R,rfl⟩) Z (lc _ _ L o h)
  ·cases U
def rK(md:Region.Mode)(ops:Array Oper)(o q:List Nat):Bool:=Region.noSelect ops&&(sd ops o&&eJ md ops (eS md ops q) o (Array.replicate ops.size false))
theorem RR{id:Nat}{a:Act}{w:World}{l:List Oper}(q o:List Nat)(R:P.follows .mixedOrders=true)(L:rK .any l.toArray q o=true)(U:q.length+o.length=l.length)
  (O:S {w with drawn:=w.drawn+1})(h:wpQuiet P l.toArray S (fun V=>∀w',S w'->h9 P l.toArray (dk Q) S (bB l.toArray o) V w') (bB l.toArray q) a):(Code.region id l.toArray true).wp P Q a w:=by
 refine Code.wp_mono (Q:=dk Q) (fun e a w h=>by obtain⟨rfl,h⟩:=h;exact h) ?_
 unfold rK at L
 simp only[Bool.and_eq_true]at L
 obtain⟨W,Y,Z⟩:=L
 refine wp_region_any R (wpAny_of_held (S:=S) _ _ _ _ ?_)
 have al:=Rh (Q:=dk Q) (S:=S) (w:={w with drawn:=w.drawn+1}) (g:=o.length) O W (fun c a w h=>Exit.noConfusion h.1) (fun done a aj la=>En o done a _ aj (la _ O)) q _ a Y Z h
 rw[U]at al
 simpa using al
end
end Go.Ev
namespace Go.Ev
open Go Go.RowKit
variable [bV]
variable {cx:bx} {m:Nat->Value} {st st':af} {T:Array Value} {w w':World} {E:Env} {Q:cB} {ops:Array Oper} {l:List Oper}
variable [ah cx]
def p9(E:Env)(st:af)(aa:Oper)(orc:List ak):Option di:=
 match db E.P st aa.op orc with
 |some r=>some r
 |none=>match nF E.P st aa orc with
 |some r=>some r
 |none=>match aa.op with
  |.load t x=>pW E.P st t x orc
  |.call c=>kh E st c orc
  |_=>none
theorem OV(O:br E cx)(h:an cx m st T w){aa:Oper}{orc:List ak}{r:di}(o:p9 E st aa orc=some r)(R:bJ r.ob){K:Act->World->Prop}
  (U:∀v w',Ext w w'->aN w' (ar cx m st.ids) m v r.aM->K (Act.put ⟨T,ah.D cx⟩ aa.dst v) w'):aa.wp cx.P ⟨T,ah.D cx⟩ w K Q:=by
 unfold p9 at o
 split at o
 ·rename_i Y L
  cases o
  rw[<-O.P]at L
  obtain⟨v,aj,q⟩:=yE h L R
  exact fQ (aj w (Ext.refl w)) (U v w (Ext.refl w) q)
 ·split at o
  ·rename_i Y L
   cases o
   rw[<-O.P]at L
   obtain⟨v,V,q⟩:=BA h L R
   exact fQ (V w (Ext.refl w)) (U v w (Ext.refl w) q)
  split at o
  ·rename_i t x W
   rw[<-O.P]at o
   obtain⟨v,V,q⟩:=vR h o R
   exact fQ (ca (by simp only[execOp,W]) (V w (Ext.refl w))) (U v w (Ext.refl w) q)
  ·rename_i c W
   obtain⟨f0,args,Z,la⟩:=o2 O h W o R
   unfold Oper.wp
   rw[Z w]
   refine la.mono ?_
   rintro e w' ⟨v,rfl,lb,q⟩
   exact U v w' lb q
  ·cases o
theorem PV{id:Nat}{l:List Oper}(o q:List Nat)(L:cx.P.follows .mixedOrders=true)(O:rK .any l.toArray o q=true)(R:o.length+q.length=l.length)
  (h:∀T w,al cx st T w->wpQuiet cx.P l.toArray (Ext w) (fun U=>∀w',Ext w w'->h9 cx.P l.toArray (dk Q) (Ext w) (bB l.toArray q) U w') (bB l.toArray o) ⟨T,ah.D cx⟩):
  W cx Q (.region id l.toArray true) st:=by
 intro T w V
 exact RR (S:=Ext w) o q L O R (Ext.refl w).drew (h T w V)
theorem L7{w0:World}{aa:Oper}{d:Nat}{orc:List ak}{r:di}(q:br E cx)(U:dR ops st aa=some true)(aj:aa.dst=some d)(V:Nat.blt d E.n=true)(W:p9 E st aa orc=some r)(Y:bJ r.ob)
  (Z:∀T w,al cx (st.put d r.aM) T w->Ext w0 w->h9 cx.P ops (dk Q) (Ext w0) l ⟨T,ah.D cx⟩ w):∀T w,al cx st T w->Ext w0 w->h9 cx.P ops (dk Q) (Ext w0) (aa::l) ⟨T,ah.D cx⟩ w:=by
 intro T w L O
 unfold h9
 rw[if_pos (show Region.wanted aa (yielded ops T)=true from gD L U)]
 obtain⟨m,R⟩:=L
 refine OV q R W Y fun v w' o la=>⟨O.trans o,?_⟩
 rw[aj]
 exact Z _ w' ⟨m,(R.ext o).put (by rw[q.n];exact cw V) la⟩ (O.trans o)
end Go.Ev
namespace Go.Ev
open Go Go.RowKit
variable [bV]
variable {cx:bx} {st st':af} {T:Array Value} {w:World} {Q:cB} {ops:Array Oper} {md:Region.Mode}
variable [ah cx]
def nZ(cx:bx)[ah cx](ops:Array Oper)(aa:Oper)(s o:af):Prop:=∀Q:cB,N cx Q .normal o->bH cx ops Q [aa] s
def rx(cx:bx)[ah cx](s:af):cB:=fun e a w=>e=.normal/\∃T,a=⟨T,ah.D cx⟩/\al cx s T w
theorem Dk{Sg:Nat->Array Bool->af->Prop}(U:∀g done s,Sg (g+1) done s->∀i∈Region.ready md ops done,∃aa o,ops[i]? =some aa/\Sg g (done.setIfInBounds i true) o/\nZ cx ops aa s o)
  (O:∀done s,Sg 0 done s->Region.ready md ops done=[])(R:∀g done s,Sg g done s->Region.ready md ops done=[]->N cx Q .normal s):
  ∀g done s T w,Sg g done s->al cx s T w->wpAny cx.P md ops Q g done ⟨T,ah.D cx⟩ w
 |0,done,s,T,w,q,L=>⟨O done s q,R 0 done s q (O done s q) T w L⟩
 |g+1,done,s,T,w,q,L=>by
  refine⟨fun h=>R (g+1) done s q h T w L,fun i V=>?_⟩
  obtain⟨aa,o,W,Y,Z⟩:=U g done s q i V
  have h:=Z (rx cx o) (fun T w h=>⟨rfl,T,rfl,h⟩) T w L
  have la:wpOp cx.P ops (rx cx o) i (wpList cx.P ops (rx cx o) []) ⟨T,ah.D cx⟩ w:=by unfold wpOp;simp only[W];exact h
  refine wpOp_mono (fun lb w' h'=>?_) (vr (fun e a w h=>h.1) la)
  obtain⟨_,lc,rfl,ld⟩:rx cx o .normal lb w':=h'
  exact Dk U O R g _ o lc w' Y ld
theorem Nw{id:Nat}(q:cx.P.follows .mixedOrders=true){Sg:Nat->Array Bool->af->Prop}(L:∀g done s,Sg (g+1) done s->∀i∈Region.ready .any ops done,∃aa o,ops[i]? =some aa/\Sg g (done.setIfInBounds i true) o/\nZ cx ops aa s o)
  (O:∀done s,Sg 0 done s->Region.ready .any ops done=[])(R:∀g done s,Sg g done s->Region.ready .any ops done=[]->N cx Q .normal s)(U:Sg ops.size (Array.replicate ops.size false) st):
  W cx Q (.region id ops true) st:=fun T w V=>
 wp_region_any q (Dk L O R _ _ _ T _ U (V.ext (Ext.refl w).drew))
/-! Sets of operations that are done, as0 lists, the last one first. -/
def jJ(n:Nat)(o:List Nat):Array Bool:=((List.range n).map fun i=>gW i o).toArray
def ko(i:Nat):List Nat->List Nat
 |[]=>[i]
 |j::o=>bif Nat.blt j i then i::j::o else j::ko i o
def oe:List Bool->List Bool->Bool
 |[],[]=>true
 |a::l,b::m=>(bif a then b else !b)&&oe l m
 |_,_=>false
theorem vT:∀{l m:List Bool},oe l m=true->l=m
 |[],[],_=>rfl
 |a::l,b::m,h=>by
  unfold oe at h
  rw[Bool.and_eq_true]at h
  rw[vT h.2]
  cases a<;>cases b<;>simp_all
 |[],_::_,h=>by cases h
 |_::_,[],h=>by cases h
def om:List Nat->List Nat->Bool
 |[],[]=>true
 |a::l,b::m=>Nat.beq a b&&om l m
 |_,_=>false
theorem BP:∀{l m:List Nat},om l m=true->l=m
 |[],[],_=>rfl
 |a::l,b::m,h=>by
  unfold om at h
  rw[Bool.and_eq_true]at h
  rw[BP h.2,Nat.eq_of_beq_eq_true h.1]
 |[],_::_,h=>by cases h
 |_::_,[],h=>by cases h
def vO(o:List Nat)(q:List (List Nat)):Bool:=q.any (om o)
theorem Ia{D:List Nat}{o:List (List Nat)}(h:vO D o=true):D∈o:=by
 obtain⟨x,q,e⟩:=List.any_eq_true.1 h
 rw[BP e];exact q
def HU(md:Region.Mode)(ops:Array Oper)(q:List (List Nat))(o:List Nat)(i:Nat):Bool:=
 vO (ko i o) q&&(Nat.beq (ko i o).length (o.length+1)&&oe (jJ ops.size (ko i o)).toList ((jJ ops.size o).setIfInBounds i true).toList)
def zW(md:Region.Mode)(ops:Array Oper)(F:List Nat)(q:List (List Nat)):Bool:=
 vO [] q&&(oe (jJ ops.size []).toList (Array.replicate ops.size false).toList&&q.all fun o=>
  (Region.ready md ops (jJ ops.size o)).all (HU md ops q o)&&((!(Region.ready md ops (jJ ops.size o)).isEmpty&&!Nat.beq o.length ops.size)||(om o F&&(Region.ready md ops (jJ ops.size o)).isEmpty)))
theorem L4{id:Nat}(ld:cx.P.follows .mixedOrders=true){F:List Nat}{Z:List (List Nat)}(la:zW .any ops F Z=true){S:List Nat->Option af}
  (le:∀q∈Z,∀i∈Region.ready .any ops (jJ ops.size q),∃aa s U,ops[i]? =some aa/\S q=some s/\S (ko i q)=some U/\nZ cx ops aa s U)(lf:S []=some st)(lg:∀s,S F=some s->N cx Q .normal s):
  W cx Q (.region id ops true) st:=by
 unfold zW at la
 simp only[Bool.and_eq_true]at la
 obtain⟨lh,li,V⟩:=la
 rw[List.all_eq_true]at V
 refine Nw ld (Sg:=fun g done s=>∃q∈Z,g+q.length=ops.size/\done=jJ ops.size q/\S q=some s) ?_ ?_ ?_ ?_
 ·rintro g done s ⟨q,O,Y,rfl,R⟩ i lb
  obtain⟨aa,ln,U,lj,lc,lk,ll⟩:=le q O i lb
  rw[R]at lc
  cases lc
  have L:=V q O
  rw[Bool.and_eq_true]at L
  have o:=List.all_eq_true.1 L.1 i lb
  unfold HU at o
  simp only[Bool.and_eq_true]at o
  refine⟨aa,U,lj,⟨ko i q,Ia o.1,?_,?_,lk⟩,ll⟩
  ·have:=Nat.eq_of_beq_eq_true o.2.1
   omega
  ·exact(Array.ext' (vT o.2.2)).symm
 ·rintro done s ⟨q,O,Y,rfl,R⟩
  have L:=V q O
  simp only[Bool.and_eq_true,Bool.or_eq_true,Bool.not_eq_true']at L
  rcases L.2 with ⟨_,o⟩|⟨_,o⟩
  ·rw[Nat.zero_add]at Y
   rw[Y]at o
   rw[show Nat.beq ops.size ops.size=true from Nat.beq_refl _]at o
   cases o
  ·simpa using o
 ·rintro g done s ⟨q,O,Y,rfl,R⟩ lm
  have L:=V q O
  simp only[Bool.and_eq_true,Bool.or_eq_true,Bool.not_eq_true']at L
  rcases L.2 with ⟨o,_⟩|⟨o,_⟩
  ·rw[lm]at o
   cases o
  ·rw[BP o]at R
   exact lg s R
 ·refine⟨[],Ia lh,by simp,?_,lf⟩
  exact(Array.ext' (vT li)).symm
end Go.Ev
