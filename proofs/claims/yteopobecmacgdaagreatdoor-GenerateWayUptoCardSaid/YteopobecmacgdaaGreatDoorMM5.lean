/- Calls that change the caller's boxed variables and owned slices. -/
import Derived.Test.YteopobecmacgdaaGreatDoorMM4
import Derived.StillTail
import Derived.Laws.IdiomRangeMap
import Derived.Lib.SliceRun
import Derived.OrdersHeld
set_option linter.unusedSectionVars false
set_option linter.unusedVariables false
set_option linter.unusedSimpArgs false
namespace Go.Ev
open Go Go.RowKit
variable [b8]
variable {cx:bI} {m:Nat->Value} {st st':af} {T:Array Value} {w w':World} {E:Env} {Q:cZ} {ops:Array Oper} {l:List Oper}
variable [ah cx]
def xT(ρ:List (Nat×Nat)):List Nat->Option (List Nat)
 |[]=>some []
 |b::bs=>match look ρ b,xT ρ bs with
  |some o,some q=>some (o::q)
  |_,_=>none
def k7(ρ:List (Nat×Nat)):List bV->Option (List bV)
 |[]=>some []
 |.v u::l=>match k7 ρ l with
  |some o=>some (.v u::o)
  |none=>none
 |.r b::l=>match look ρ b,k7 ρ l with
  |some q,some o=>some (.r q::o)
  |_,_=>none
 |.a::l=>match k7 ρ l with
  |some o=>some (.a::o)
  |none=>none
def ao.ch(ρ:List (Nat×Nat)):ao->ao
 |.ptr b off=>match look ρ b with
  |some o=>.ptr o off
  |none=>.any
 |.fp b=>match look ρ b with
  |some o=>.fp o
  |none=>.any
 |.row b=>match look ρ b with
  |some o=>.row o
  |none=>.any
 |.dU b i off q=>match look ρ b with
  |some o=>.dU o i off q
  |none=>.any
 |.iter b=>match look ρ b with
  |some o=>.iter o
  |none=>.any
 |.osl b=>match look ρ b with
  |some o=>.osl o
  |none=>.any
 |.fT b i=>match look ρ b with
  |some o=>.fT o i
  |none=>.any
 |.sub b i=>match look ρ b with
  |some o=>.sub o i
  |none=>.any
 |.dT b i off q=>match look ρ b with
  |some o=>.dT o i off q
  |none=>.any
 |.fq b i j off q=>match look ρ b with
  |some o=>.fq o i j off q
  |none=>.any
 |.dW b p=>match look ρ b with
  |some o=>.dW o p
  |none=>.any
 |.clos f bs=>match xT ρ bs with
  |some R=>.clos f R
  |none=>.any
 |.ca f b=>match look ρ b with
  |some o=>.ca f o
  |none=>.any
 |.eZ l=>match k7 ρ l with
  |some O=>.eZ O
  |none=>.any
 |.gu l=>match k7 ρ l with
  |some O=>.gu O
  |none=>.any
 |s=>s
def ff(ρ:List (Nat×Nat))(ad:List (Nat×bQ)):List (Nat×Nat)->List (Nat×bQ)
 |[]=>[]
 |(i,j)::l=>match look ad i with
  |some c=>(j,c.map (ao.ch ρ))::ff ρ ad l
  |none=>ff ρ ad l
def fz(rw:List (Nat×cG)):List (Nat×Nat)->List (Nat×cG)
 |[]=>[]
 |(i,j)::l=>match look rw i with
  |some c=>(j,c)::fz rw l
  |none=>fz rw l
theorem nK{ρ:List (Nat×Nat)}{ad:List (Nat×bQ)}:∀{l:List (Nat×Nat)} {j:Nat} {c':bQ},(j,c')∈ff ρ ad l->∃i c,(i,j)∈l/\(i,c)∈ad/\c'=c.map (ao.ch ρ)
 |[],_,_,h=>by simp[ff]at h
 |(i,U)::l,j,c',h=>by
  unfold ff at h
  split at h
  ·rename_i c R
   rcases List.mem_cons.1 h with h|h
   ·cases h;exact⟨i,c,List.mem_cons_self,bc R,rfl⟩
   ·obtain⟨o,c2,q,O⟩:=nK h;exact⟨o,c2,List.mem_cons_of_mem _ q,O⟩
  ·obtain⟨o,c2,q,O⟩:=nK h;exact⟨o,c2,List.mem_cons_of_mem _ q,O⟩
theorem nS{rw:List (Nat×cG)}:∀{l:List (Nat×Nat)} {j:Nat} {c:cG},(j,c)∈fz rw l->∃i,(i,j)∈l/\(i,c)∈rw
 |[],_,_,h=>by simp[fz]at h
 |(i,U)::l,j,c',h=>by
  unfold fz at h
  split at h
  ·rename_i c R
   rcases List.mem_cons.1 h with h|h
   ·cases h;exact⟨i,List.mem_cons_self,bc R⟩
   ·obtain⟨o,q,O⟩:=nS h;exact⟨o,List.mem_cons_of_mem _ q,O⟩
  ·obtain⟨o,q,O⟩:=nS h;exact⟨o,List.mem_cons_of_mem _ q,O⟩
def inv(ρ:List (Nat×Nat))(j:Nat):Option Nat:=look (ρ.map fun p=>(p.2,p.1)) j
theorem yB{α:Type}:∀{l:List (Nat×α)} {n:Nat} {v:α},(l.map (·.1)).Nodup->(n,v)∈l->look l n=some v
 |[],_,_,_,h=>by simp at h
 |(k,u)::r,n,v,o,h=>by
  simp only[List.map_cons,List.nodup_cons]at o
  unfold look
  rcases List.mem_cons.1 h with h|h
  ·cases h;simp[Nat.beq_refl]
  ·cases q:Nat.beq k n with
   |true=>
    have e:=Nat.eq_of_beq_eq_true q
    subst e
    exact absurd (List.mem_map.2 ⟨_,h,rfl⟩) o.1
   |false=>exact yB o.2 h
theorem s6{ρ:List (Nat×Nat)}{i j:Nat}(o:(ρ.map (·.2)).Nodup)(h:(i,j)∈ρ):inv ρ j=some i:=by
 refine yB ?_ (List.mem_map.2 ⟨_,h,rfl⟩)
 simpa[List.map_map,Function.comp_def]using o
theorem IX{ρ:List (Nat×Nat)}{i j:Nat}(h:inv ρ j=some i):(i,j)∈ρ:=by
 obtain⟨p,o,q⟩:=List.mem_map.1 (bc h)
 cases q
 exact o
theorem GP{ρ:List (Nat×Nat)}{m aI:Nat->Value}(q:∀i j,(i,j)∈ρ->aI j=m i):∀{bs o:List Nat},xT ρ bs=some o->o.map aI=bs.map m
 |[],_,h=>by cases h;rfl
 |b::bs,o,h=>by
  unfold xT at h
  split at h
  ·rename_i U W O R
   cases h
   rw[List.map_cons,List.map_cons,q _ _ (bc O),GP q R]
  ·cases h
theorem sL{ρ:List (Nat×Nat)}{M:Nat->Prop}{m aI:Nat->Value}(R:∀i j,(i,j)∈ρ->aI j=m i):∀{vs:List Value} {l q:List bV},k7 ρ l=some q->de w M m vs l->de w M aI vs q
 |vs,[],_,h,o=>by cases h;cases vs<;>exact o
 |[],.v _::_,_,_,o=>o.elim
 |[],.r _::_,_,_,o=>o.elim
 |[],.a::_,_,_,o=>o.elim
 |v::vs,.a::l,q,h,o=>by
  unfold k7 at h
  split at h
  ·rename_i l2 O;cases h;exact sL (vs:=vs) (l:=l) R O o
  ·cases h
 |v::vs,.v u::l,q,h,o=>by
  unfold k7 at h
  split at h
  ·rename_i l2 O;cases h;exact⟨o.1,sL R O o.2⟩
  ·cases h
 |v::vs,.r b::l,q,h,o=>by
  unfold k7 at h
  split at h
  ·rename_i W l2 U O;cases h;exact⟨by rw[R _ _ (bc U)];exact o.1,sL R O o.2⟩
  ·cases h
theorem Dl{ρ:List (Nat×Nat)}{M:Nat->Prop}{m aI:Nat->Value}(q:∀i j,(i,j)∈ρ->aI j=m i){v:Value}{s:ao}(h:aT w M m v s):aT w M aI v (s.ch ρ):=by
 cases s with
 |any=>trivial
 |undef=>exact h
 |val t x=>exact h
 |dI l=>exact h
 |vptr t x=>exact h
 |ptr b off=>
  simp only[ao.ch]
  split
  ·rename_i R o;obtain⟨g,O,U⟩:=h;exact⟨g,by rw[q _ _ (bc o)];exact O,U⟩
  ·trivial
 |fp b=>
  simp only[ao.ch]
  split
  ·rename_i R o;show _\/v=aI R;rw[q _ _ (bc o)];exact h
  ·trivial
 |row b=>
  simp only[ao.ch]
  split
  ·rename_i R o;show v=aI R;rw[q _ _ (bc o)];exact h
  ·trivial
 |dU b i off Y=>
  simp only[ao.ch]
  split
  ·rename_i R o;obtain⟨g,n,cap,O,U⟩:=h;exact⟨g,n,cap,by rw[q _ _ (bc o)];exact O,U⟩
  ·trivial
 |iter b=>
  simp only[ao.ch]
  split
  ·rename_i R o;show v=aI R;rw[q _ _ (bc o)];exact h
  ·trivial
 |osl b=>
  simp only[ao.ch]
  split
  ·rename_i R o;obtain⟨us,O⟩:=h;exact⟨us,by rw[q _ _ (bc o)];exact O⟩
  ·trivial
 |fT b i=>
  simp only[ao.ch]
  split
  ·rename_i R o;obtain⟨g,n,cap,us,O,U⟩:=h;exact⟨g,n,cap,us,by rw[q _ _ (bc o)];exact O,U⟩
  ·trivial
 |sub b i=>
  simp only[ao.ch]
  split
  ·rename_i R o;obtain⟨Z,us,O,U⟩:=h;exact⟨Z,us,by rw[q _ _ (bc o)];exact O,U⟩
  ·trivial
 |dW b p=>
  simp only[ao.ch]
  split
  ·rename_i R o;obtain⟨g,O,U⟩:=h;exact⟨g,by rw[q _ _ (bc o)];exact O,U⟩
  ·trivial
 |clos f bs=>
  simp only[ao.ch]
  split
  ·rename_i lb o;show v=_;rw[GP q o];exact h
  ·trivial
 |gu l=>
  simp only[ao.ch]
  split
  ·rename_i la W;obtain⟨vs,e,X⟩:=h;exact⟨vs,e,sL q W X⟩
  ·trivial
 |eZ l=>
  simp only[ao.ch]
  split
  ·rename_i la W;obtain⟨vs,e,X⟩:=h;exact⟨vs,e,sL q W X⟩
  ·trivial
 |dT b i off Y=>
  simp only[ao.ch]
  split
  ·rename_i R o;obtain⟨g,n,cap,us,O,U⟩:=h;exact⟨g,n,cap,us,by rw[q _ _ (bc o)];exact O,U⟩
  ·trivial
 |fq b i j off Y=>
  simp only[ao.ch]
  split
  ·rename_i R o;obtain⟨r,us,g,n,cap,O,U⟩:=h;exact⟨r,us,g,n,cap,by rw[q _ _ (bc o)];exact O,U⟩
  ·trivial
 |ai n=>exact h
 |ca f b=>
  simp only[ao.ch]
  split
  ·rename_i R o;show v=_;rw[q _ _ (bc o)];exact h
  ·trivial
def mT:Nat->List ao->List (Nat×ao)
 |_,[]=>[]
 |k,u::us=>(k,u)::mT (k+1) us
theorem Mw{M:Nat->Prop}{m:Nat->Value}:∀{vs:List Value} {o:List ao} (k:Nat) {T:Array Value},ct w M m vs o->(∀i v,vs[i]? =some v->T[k+i]? =some v)->
  ∀i aU,(i,aU)∈mT k o->∃v,T[i]? =some v/\aT w M m v aU
 |[],[],k,T,_,_,i,aU,hi=>by simp[mT]at hi
 |[],_::_,_,_,h,_,_,_,_=>h.elim
 |_::_,[],_,_,h,_,_,_,_=>h.elim
 |v::vs,a::o,k,T,⟨O,R⟩,q,i,aU,hi=>by
  rcases List.mem_cons.1 hi with hi|hi
  ·cases hi
   exact⟨v,by have:=q 0 v rfl;simpa using this,O⟩
  ·exact Mw (k+1) R (fun j u U=>by have:=q (j+1) u (by simpa using U);rw[<-this];congr 1;omega) i aU hi
def ke(st:af)(n:Nat)(ρ:List (Nat×Nat))(o:List ao):Option af:=
 match nodupB (ρ.map (·.1)),nodupB (ρ.map (·.2)),nodupB (af.ids ⟨[],ff ρ st.ad ρ,fz st.rw ρ⟩),Nat.ble o.length n with
 |true,true,true,true=>some ⟨mT 0 (o.map (ao.ch ρ)),ff ρ st.ad ρ,fz st.rw ρ⟩
 |_,_,_,_=>none
def sub(cx:bI)(m:Nat->Value)(st:af)(w:World)(n:Nat)(ρ:List (Nat×Nat)):bI:=
 {P:=cx.P,n:=n,w0:=w,X:=fun b=>∃i j,(i,j)∈ρ/\i∈st.ids/\own (m i) b,
  A:=fun b=>av cx m st.ids b/\¬∃i j,(i,j)∈ρ/\i∈st.ids/\own (m i) b,m0:=fun j=>match inv ρ j with|some i=>m i|none=>undef}
theorem xc{ρ:List (Nat×Nat)}{ab:List (Nat×ao)}{j:Nat}(o:j∈af.ids ⟨ab,ff ρ st.ad ρ,fz st.rw ρ⟩):∃i,(i,j)∈ρ/\i∈st.ids:=by
 rcases List.mem_append.1 o with o|o
 ·obtain⟨⟨U,c⟩,q,rfl⟩:=List.mem_map.1 o
  obtain⟨i,c',O,R,_⟩:=nK q
  exact⟨i,O,List.mem_append.2 (.inl (List.mem_map.2 ⟨_,R,rfl⟩))⟩
 ·obtain⟨⟨U,c⟩,q,rfl⟩:=List.mem_map.1 o
  obtain⟨i,O,R⟩:=nS q
  exact⟨i,O,List.mem_append.2 (.inr (List.mem_map.2 ⟨_,R,rfl⟩))⟩
theorem Fk{α:Type}{l:List (Nat×α)}(o:(l.map (·.1)).Nodup){i:Nat}{a b:α}(O:(i,a)∈l)(R:(i,b)∈l):a=b:=by
 have ae:=yB o O
 have q:=yB o R
 rw[ae]at q
 exact Option.some.inj q
theorem JM(h:an cx m st T w){n:Nat}{ρ:List (Nat×Nat)}{O:List ao}{ld:af}(X:ke st n ρ O=some ld){vs:List Value}(le:ct w (av cx m st.ids) m vs O):
  an (sub cx m st w n ρ) (sub cx m st w n ρ).m0 ld (vs.toArray++Array.replicate (n-vs.toArray.size) undef) w:=by
 unfold ke at X
 split at X
 case h_2=>cases X
 rename_i aC aA bW lf
 cases X
 have aC:=iM aC
 have aA:=iM aA
 have bW:=iM bW
 have lf:=Nat.le_of_ble_eq_true lf
 have q:∀i j,(i,j)∈ρ->(sub cx m st w n ρ).m0 j=m i:=by
  intro i j o
  show(match inv ρ j with|some i=>m i|none=>undef)=m i
  rw[s6 aA o]
 have lr:=mv le
 have Z:∀b,b<w.heap.size->av (sub cx m st w n ρ) (sub cx m st w n ρ).m0 (af.ids ⟨mT 0 (O.map (ao.ch ρ)),ff ρ st.ad ρ,fz st.rw ρ⟩) b->av cx m st.ids b:=by
  rintro b _ (li|⟨j,R,U⟩)
  ·exact li.1
  ·obtain⟨i,o,hi⟩:=xc R
   rw[q i j o]at U
   exact .inr ⟨i,hi,U⟩
 have la:∀b,b<w.heap.size->¬av cx m st.ids b->w.heap[b]? =w.heap[b]? :=fun _ _ _=>rfl
 have lg:∀v s,aT w (av cx m st.ids) m v s->aT w (av (sub cx m st w n ρ) (sub cx m st w n ρ).m0 (af.ids ⟨mT 0 (O.map (ao.ch ρ)),ff ρ st.ad ρ,fz st.rw ρ⟩)) (sub cx m st w n ρ).m0 v (s.ch ρ):=
  fun v s lj=>Dl q (fE la Z lj)
 refine{size:=?_,frame:=Frame.refl _ _,outer:=fun b U=>⟨h.ym U.1,U.2⟩,cT:=?_,boxes:=?_,rows:=?_,apart:=?_,keys:=bW,fixed:=fun _ _ _ _ _=>rfl,kept:=fun _ _ _ _ _=>rfl}
 ·show(vs.toArray++Array.replicate (n-vs.toArray.size) undef).size=n
  simp only[Array.size_append,List.size_toArray,Array.size_replicate]
  omega
 ·have lk:ct w (av (sub cx m st w n ρ) (sub cx m st w n ρ).m0 (af.ids ⟨mT 0 (O.map (ao.ch ρ)),ff ρ st.ad ρ,fz st.rw ρ⟩)) (sub cx m st w n ρ).m0 vs (O.map (ao.ch ρ)):=vk lg le
  exact Mw 0 lk (fun i v hi=>by
   rw[Nat.zero_add,Array.getElem?_append_left (by have:=(List.getElem?_eq_some_iff.1 hi).1;simpa using this)]
   simpa using hi)
 ·intro j c' R
  obtain⟨i,c,o,hi,rfl⟩:=nK R
  obtain⟨g,ae,ll,lb⟩:=h.boxes i c hi
  have lc:i∈st.ids:=List.mem_append.2 (.inl (List.mem_map.2 ⟨_,hi,rfl⟩))
  rw[q i j o]
  refine⟨g,kQ.2 ae,fun ls Y=>.inr ⟨i,j,o,lc,Y⟩,jS la Z (ix ae) (fun _ _=>rfl) lg lb⟩
 ·intro j c R
  obtain⟨i,o,hi⟩:=nS R
  obtain⟨cells,ae,ll,lb⟩:=h.rows i c hi
  have lc:i∈st.ids:=List.mem_append.2 (.inr (List.mem_map.2 ⟨_,hi,rfl⟩))
  refine⟨cells,by rw[q i j o];exact ae,fun g W=>.inr ⟨i,j,o,lc,by rw[q i j o]at W;exact W⟩,dy (fun _ _=>cI la Z c.t) lb⟩
 ·intro lt lu lm ln lo g W Y
  obtain⟨i1,lh,lp⟩:=xc lm
  obtain⟨i2,a2,lq⟩:=xc ln
  rw[q _ _ lh]at W
  rw[q _ _ a2]at Y
  refine h.apart i1 i2 lp lq ?_ g W Y
  rintro rfl
  exact lo (Fk aC lh a2)
def jx(i:Nat)(l:List Nat):Bool:=l.any (Nat.beq i)
theorem yz{i:Nat}{l:List Nat}:jx i l=true↔i∈l:=by
 unfold jx
 rw[List.any_eq_true]
 constructor
 ·rintro⟨x,o,q⟩;rw[Nat.eq_of_beq_eq_true q];exact o
 ·intro hi;exact⟨i,hi,Nat.beq_refl i⟩
def vd(n:Nat)(o:af)(ρ ρ':List (Nat×Nat))(i:Nat):Bool:=
 match look ρ i with
 |some j=>Nat.ble n j&&(Nat.ble eG j&&((look o.rw j).isSome&&(match look ρ' j with|some q=>Nat.beq q i|none=>false)))
 |none=>false
def ju(st:af)(i:Nat):Option Bool:=match look st.ad i with
 |some c=>some c.one
 |none=>none
theorem No{st:af}{i:Nat}{c:bQ}(o:st.ids.Nodup)(h:(i,c)∈st.ad):ju st i=some c.one:=by
 have key:∀{l:List (Nat×bQ)},(l.map (·.1)).Nodup->(i,c)∈l->look l i=some c:=by
  intro l
  induction l with
  |nil=>intro _ h;cases h
  |cons p l q=>
   obtain⟨j,d⟩:=p
   intro o h
   rw[List.map_cons,List.nodup_cons]at o
   unfold look
   rcases List.mem_cons.1 h with h|h
   ·cases h
    rw[Nat.beq_refl]
    rfl
   ·have O:Nat.beq j i=false:=by
     cases R:Nat.beq j i with
     |false=>rfl
     |true=>exact absurd (List.mem_map.2 ⟨_,h,(Nat.eq_of_beq_eq_true R).symm⟩) o.1
    rw[O]
    exact q o.2 h
 unfold ju
 rw[key (List.nodup_append.1 o).1 h]
theorem Ih{st:af}{i:Nat}{b:Bool}(h:ju st i=some b):∃c,look st.ad i=some c/\c.one=b:=by
 unfold ju at h
 split at h
 ·rename_i c o;cases h;exact⟨c,o,rfl⟩
 ·cases h
def gone(n:Nat)(st o:af)(ρ ρ':List (Nat×Nat)):List Nat:=
 (ρ.map (·.1)).filter (fun i=>((look st.rw i).isSome&&!vd n o ρ ρ' i)||ju st i==some false)++(ρ'.map (·.2)).filter (fun j=>!(ju st j==some true&&jx j (ρ.map (·.1)))&&!vd n o ρ ρ' j)
def iO{α:Type}(o:List Nat)(l:List (Nat×α)):List (Nat×α):=l.filter fun p=>!(jx p.1 o)
def L8(st o:af)(n q:Nat)(ρ:List (Nat×Nat))(p:Nat×Nat):Bool:=
 match look ρ p.2 with
 |some i=>Nat.beq i p.1&&(Nat.ble n p.1&&((ju st p.2==ju o p.1)&&(Nat.blt p.2 eG||(Nat.ble eG p.1&&(look st.rw p.2).isSome))))
 |none=>!(jx p.2 st.ids)&&!(jx p.2 (ρ.map (·.1)))&&(Nat.blt p.2 q||((look o.ad p.1).isNone&&Nat.blt p.2 eG))
def yx(st o:af)(n q:Nat)(ρ ρ':List (Nat×Nat)):Option af:=
 match nodupB (ρ'.map (·.1)),nodupB (ρ'.map (·.2)),ρ'.all (L8 st o n q ρ),nodupB ((iO (ρ.map (·.1)) st.ad++ff ρ' o.ad ρ').map (·.1)++(iO (ρ.map (·.1)) st.rw++fz o.rw ρ').map (·.1))with
 |true,true,true,true=>some
  {ab:=st.ab.map fun p=>(p.1,p.2.dK (gone n st o ρ ρ')),
   ad:=(iO (ρ.map (·.1)) st.ad).map (fun p=>(p.1,p.2.map (ao.dK (gone n st o ρ ρ'))))++ff ρ' o.ad ρ',
   rw:=iO (ρ.map (·.1)) st.rw++fz o.rw ρ'}
 |_,_,_,_=>none
end Go.Ev
namespace Go.Ev
open Go Go.RowKit
variable [b8]
variable {cx:bI} {m:Nat->Value} {st st':af} {T:Array Value} {w w':World} {E:Env} {Q:cZ} {ops:Array Oper} {l:List Oper}
variable [ah cx]
theorem M9{α:Type}{l:List (Nat×α)}{i:Nat}{c:α}(h:(i,c)∈l):(look l i).isSome=true:=by
 induction l with
 |nil=>simp at h
 |cons p r q=>
  obtain⟨k,u⟩:=p
  unfold look
  cases o:Nat.beq k i with
  |true=>rfl
  |false=>
   rcases List.mem_cons.1 h with h|h
   ·cases h;rw[Nat.beq_refl]at o;cases o
   ·exact q h
theorem yh{α:Type}{o:List Nat}{l:List (Nat×α)}{p:Nat×α}(h:p∈iO o l):p∈l/\p.1∉o:=by
 obtain⟨O,q⟩:=List.mem_filter.1 h
 refine⟨O,fun R=>?_⟩
 rw[yz.2 R]at q
 cases q
theorem Nc(h:an cx m st T w){n:Nat}{ρ ρ':List (Nat×Nat)}{U lj:af}{m1:Nat->Value}{l8:Array Value}{le:World}(aC:(ρ.map (·.1)).Nodup)(aA:(ρ.map (·.2)).Nodup)
  (Y:an (sub cx m st w n ρ) m1 U l8 le)(lB:yx st U n cx.n ρ ρ'=some lj):
  ∃m2,an cx m2 lj T le/\∀v s,aT le (av (sub cx m st w n ρ) m1 U.ids) m1 v s->aT le (av cx m2 lj.ids) m2 v (s.ch ρ'):=by
 unfold yx at lB
 split at lB
 case h_2=>cases lB
 rename_i c1 c2 c3 c4
 cases lB
 have c1:=iM c1
 have c2:=iM c2
 have c4:=iM c4
 have lC:∀i j,(i,j)∈ρ->(sub cx m st w n ρ).m0 j=m i:=by
  intro i j lk
  show(match inv ρ j with|some i=>m i|none=>undef)=m i
  rw[s6 aA lk]
 have lD:∀i j,(i,j)∈ρ'->(n<=i/\(j,i)∈ρ/\ju st j=ju U i/\(j<eG\/(eG<=i/\(look st.rw j).isSome=true)))\/(True/\j∉st.ids/\j∉ρ.map (·.1)/\(j<cx.n\/(look U.ad i=none/\j<eG))):=by
  intro i j lk
  have:=List.all_eq_true.1 c3 _ lk
  unfold L8 at this
  split at this
  ·rename_i lH lI
   simp only[Bool.and_eq_true,Bool.or_eq_true,beq_iff_eq]at this
   obtain⟨t1,t2,t3,t4⟩:=this
   have:=Nat.eq_of_beq_eq_true t1
   subst this
   exact .inl ⟨Nat.le_of_ble_eq_true t2,bc lI,t3,t4.imp cR fun t=>⟨Nat.le_of_ble_eq_true t.1,t.2⟩⟩
  ·simp only[Bool.and_eq_true,Bool.or_eq_true,Bool.not_eq_true']at this
   obtain⟨⟨t1,t2⟩,t3⟩:=this
   refine .inr ⟨trivial,(fun q=>?_),(fun q=>?_),?_⟩
   ·have t1:jx j st.ids=false:=t1
    rw[yz.2 q]at t1
    cases t1
   ·have t2:jx j (ρ.map (·.1))=false:=t2
    rw[yz.2 q]at t2
    cases t2
   ·rcases t3 with t3|t3
    ·exact .inl (cR t3)
    ·exact .inr ⟨by simpa using t3.1,cR t3.2⟩
 obtain⟨m2,lT⟩:∃m2:Nat->Value,m2=fun j=>match inv ρ' j with|some i=>m1 i|none=>m j:=⟨_,rfl⟩
 have lc:∀i j,(i,j)∈ρ'->m2 j=m1 i:=by
  intro i j lk
  rw[lT]
  simp only
  rw[s6 c2 lk]
 have lU:∀j,inv ρ' j=none->m2 j=m j:=by
  intro j Z
  rw[lT]
  simp only
  rw[Z]
 have lg:∀j,j∈st.ids->j∉ρ.map (·.1)->m2 j=m j:=by
  intro j Z lm
  refine lU j ?_
  cases hi:inv ρ' j with
  |none=>rfl
  |some i=>
   rcases lD i j (IX hi)with ⟨_,q,_,_⟩|⟨_,q,_⟩
   ·exact absurd (List.mem_map.2 ⟨_,q,rfl⟩) lm
   ·exact absurd Z q
 have l9:∀b,b∉gone n st U ρ ρ'->m2 b=m b:=by
  intro b R
  cases hi:inv ρ' b with
  |none=>exact lU b hi
  |some i=>
   have lk:=IX hi
   have lh:(ju st b==some true&&jx b (ρ.map (·.1)))=true\/vd n U ρ ρ' b=true:=by
    cases lo:(ju st b==some true&&jx b (ρ.map (·.1)))with
    |true=>exact .inl rfl
    |false=>
     cases ag:vd n U ρ ρ' b with
     |true=>exact .inr rfl
     |false=>
      refine absurd ?_ R
      refine List.mem_append.2 (.inr (List.mem_filter.2 ⟨List.mem_map.2 ⟨_,lk,rfl⟩,by rw[lo,ag];rfl⟩))
   rcases lh with lh|lh
   case inr=>
    unfold vd at lh
    split at lh
    case h_2=>cases lh
    rename_i j Z
    simp only[Bool.and_eq_true]at lh
    obtain⟨ah,ai,aj,lJ⟩:=lh
    split at lJ
    case h_2=>cases lJ
    rename_i lH lI
    have ae:=Nat.eq_of_beq_eq_true lJ
    subst ae
    have lf:=s6 c2 (bc lI)
    rw[hi]at lf
    cases lf
    obtain⟨lx,ly⟩:=Option.isSome_iff_exists.1 aj
    rw[lc i lH lk,Y.kept i lx (bc ly) (Nat.le_of_ble_eq_true ah) (Nat.le_of_ble_eq_true ai),lC lH i (bc Z)]
   rw[Bool.and_eq_true]at lh
   rcases lD i b lk with ⟨lr,q,la,_⟩|⟨_,_,q,_⟩
   ·rw[beq_iff_eq.1 lh.1]at la
    obtain⟨c,ak,lE⟩:=Ih la.symm
    rw[lc i b lk,Y.fixed i c (bc ak) lE lr,lC b i q]
   ·exact absurd (yz.1 lh.2) q
 -- the ids of the new state
 have lz:∀j,j∈af.ids {ab:=st.ab.map fun p=>(p.1,p.2.dK (gone n st U ρ ρ')),ad:=(iO (ρ.map (·.1)) st.ad).map (fun p=>(p.1,p.2.map (ao.dK (gone n st U ρ ρ'))))++ff ρ' U.ad ρ',rw:=iO (ρ.map (·.1)) st.rw++fz U.rw ρ'}->
   (j∈st.ids/\j∉ρ.map (·.1))\/∃i,(i,j)∈ρ'/\i∈U.ids:=by
  intro j Z
  rcases List.mem_append.1 Z with Z|Z
  ·obtain⟨⟨al,c⟩,W,rfl⟩:=List.mem_map.1 Z
   rcases List.mem_append.1 W with W|W
   ·obtain⟨⟨ln,c'⟩,lK,la⟩:=List.mem_map.1 W
    cases la
    obtain⟨o,O⟩:=yh lK
    exact .inl ⟨List.mem_append.2 (.inl (List.mem_map.2 ⟨_,o,rfl⟩)),O⟩
   ·obtain⟨i,c',o,O,_⟩:=nK W
    exact .inr ⟨i,o,List.mem_append.2 (.inl (List.mem_map.2 ⟨_,O,rfl⟩))⟩
  ·obtain⟨⟨al,c⟩,W,rfl⟩:=List.mem_map.1 Z
   rcases List.mem_append.1 W with W|W
   ·obtain⟨o,O⟩:=yh W
    exact .inl ⟨List.mem_append.2 (.inr (List.mem_map.2 ⟨_,o,rfl⟩)),O⟩
   ·obtain⟨i,o,O⟩:=nS W
    exact .inr ⟨i,o,List.mem_append.2 (.inr (List.mem_map.2 ⟨_,O,rfl⟩))⟩
 generalize lF:({ab:=st.ab.map fun p=>(p.1,p.2.dK (gone n st U ρ ρ')),ad:=(iO (ρ.map (·.1)) st.ad).map (fun p=>(p.1,p.2.map (ao.dK (gone n st U ρ ρ'))))++ff ρ' U.ad ρ',rw:=iO (ρ.map (·.1)) st.rw++fz U.rw ρ'}:af)=lj at lz
 have lL:∀i,i∈U.ids->∀b,own (m1 i) b->w.heap.size<=b\/∃i0 lp,(i0,lp)∈ρ/\i0∈st.ids/\own (m i0) b:=fun i hi b R=>(Y.lt hi R).2
 have lM:∀b,b<w.heap.size->av cx m2 lj.ids b->av cx m st.ids b:=by
  rintro b au (lG|⟨j,Z,R⟩)
  ·exact .inl lG
  ·rcases lz j Z with ⟨o,O⟩|⟨i,o,O⟩
   ·rw[lg j o O]at R
    exact .inr ⟨j,o,R⟩
   ·rw[lc i j o]at R
    rcases lL i O b R with q|⟨i0,_,_,ld,lb⟩
    ·omega
    ·exact .inr ⟨i0,ld,lb⟩
 have lN:∀b,b<le.heap.size->av cx m2 lj.ids b->av (sub cx m st w n ρ) m1 U.ids b:=by
  rintro b _ (lG|⟨j,Z,R⟩)
  ·refine .inl ⟨.inl lG,?_⟩
   rintro⟨i0,lp,_,ld,lb⟩
   have aa:=h.outer b lG
   rcases(h.lt ld lb).2 with q|q
   ·omega
   ·exact aa.2 q
  ·rcases lz j Z with ⟨o,O⟩|⟨i,o,O⟩
   ·rw[lg j o O]at R
    refine .inl ⟨.inr ⟨j,o,R⟩,?_⟩
    rintro⟨i0,lp,lO,ld,lb⟩
    refine h.apart i0 j ld o ?_ b lb R
    rintro rfl
    exact O (List.mem_map.2 ⟨_,lO,rfl⟩)
   ·rw[lc i j o]at R
    exact .inr ⟨i,O,R⟩
 have lP:∀b,b<w.heap.size->¬av cx m st.ids b->le.heap[b]? =w.heap[b]? :=fun b R lm=>Y.frame.block b R fun⟨i0,_,_,ld,lb⟩=>lm (.inr ⟨i0,ld,lb⟩)
 have lQ:∀b,b<le.heap.size->¬av (sub cx m st w n ρ) m1 U.ids b->le.heap[b]? =le.heap[b]? :=fun _ _ _=>rfl
 have lV:∀v s,aT w (av cx m st.ids) m v s->aT le (av cx m2 lj.ids) m2 v (s.dK (gone n st U ρ ρ')):=fun v s lu=>nZ l9 (fE lP lM lu)
 have lW:∀v s,aT le (av (sub cx m st w n ρ) m1 U.ids) m1 v s->aT le (av cx m2 lj.ids) m2 v (s.ch ρ'):=fun v s lu=>Dl lc (fE lQ lN lu)
 have lX:∀b c',(b,c')∈lj.ad->(∃c,(b,c)∈st.ad/\b∉ρ.map (·.1)/\c'=c.map (ao.dK (gone n st U ρ ρ')))\/∃i c,(i,b)∈ρ'/\(i,c)∈U.ad/\c'=c.map (ao.ch ρ'):=by
  intro b c' R
  rw[<-lF]at R
  rcases List.mem_append.1 R with W|W
  ·obtain⟨⟨ln,c2⟩,lK,la⟩:=List.mem_map.1 W
   cases la
   obtain⟨o,O⟩:=yh lK
   exact .inl ⟨c2,o,O,rfl⟩
  ·exact .inr (nK W)
 have lY:∀b c,(b,c)∈lj.rw->((b,c)∈st.rw/\b∉ρ.map (·.1))\/∃i,(i,b)∈ρ'/\(i,c)∈U.rw:=by
  intro b c R
  rw[<-lF]at R
  rcases List.mem_append.1 R with W|W
  ·exact .inl (yh W)
  ·exact .inr (nS W)
 have lA:∀j,j∈st.ids->j∉ρ.map (·.1)->∀g,own (m j) g->g<w.heap.size/\¬∃i0 lp,(i0,lp)∈ρ/\i0∈st.ids/\own (m i0) g:=by
  intro j Z lm g X
  refine⟨(h.lt Z X).1,?_⟩
  rintro⟨i0,lp,lO,ld,lb⟩
  refine h.apart i0 j ld Z ?_ g lb X
  rintro rfl
  exact lm (List.mem_map.2 ⟨_,lO,rfl⟩)
 have lZ:∀g,(w.heap.size<=g\/∃i0 lp,(i0,lp)∈ρ/\i0∈st.ids/\own (m i0) g)->cx.w0.heap.size<=g\/cx.X g:=by
  rintro g (X|⟨i0,_,_,ld,lb⟩)
  ·exact .inl (Nat.le_trans h.frame.size X)
  ·exact(h.lt ld lb).2
 refine⟨m2,{size:=h.size,frame:=?_,outer:=h.outer,cT:=?_,boxes:=?_,rows:=?_,apart:=?_,keys:=?_,fixed:=?_,kept:=?_},lW⟩
 ·refine⟨Y.frame.os.trans h.frame.os,Y.frame.tape.trans h.frame.tape,Y.frame.output.trans h.frame.output,Nat.le_trans h.frame.size Y.frame.size,fun b R l0=>?_,fun d=>Nat.le_trans (h.frame.drawn d) (Y.frame.drawn d)⟩
  rw[<-h.frame.block b R l0]
  refine Y.frame.block b (Nat.lt_of_lt_of_le R h.frame.size) ?_
  rintro⟨i0,_,_,ld,lb⟩
  rcases(h.lt ld lb).2 with q|q
  ·omega
  ·exact l0 q
 ·intro i aw hi
  rw[<-lF]at hi
  obtain⟨⟨j,aU⟩,W,la⟩:=List.mem_map.1 hi
  cases la
  obtain⟨v,ae,lf⟩:=h.cT j aU W
  exact⟨v,ae,lV v aU lf⟩
 ·intro b c' R
  rcases lX b c' R with ⟨c,o,O,rfl⟩|⟨i,c,o,O,rfl⟩
  ·have li:b∈st.ids:=List.mem_append.2 (.inl (List.mem_map.2 ⟨_,o,rfl⟩))
   obtain⟨g,ae,lf,ls⟩:=h.boxes b c o
   rw[lg b li O]
   exact⟨g,kQ.2 ae,lf,jS lP lM (ix ae) (fun lR l3=>Y.frame.block lR (lA b li O lR l3).1 (lA b li O lR l3).2) lV ls⟩
  ·obtain⟨g,ae,lf,ls⟩:=Y.boxes i c O
   rw[lc i b o]
   exact⟨g,kQ.2 ae,fun l4 ll=>lZ l4 (lf l4 ll),jS lQ lN (ix ae) (fun _ _=>rfl) lW ls⟩
 ·intro b c R
  rcases lY b c R with ⟨o,O⟩|⟨i,o,O⟩
  ·have li:b∈st.ids:=List.mem_append.2 (.inr (List.mem_map.2 ⟨_,o,rfl⟩))
   obtain⟨cells,ae,lf,ls⟩:=h.rows b c o
   refine⟨cells,?_,fun g X=>lf g (by rw[lg b li O]at X;exact X),dy (fun _ _=>cI lP lM c.t) ls⟩
   rw[lg b li O]
   refine⟨ae.1,?_⟩
   rcases ae.2 with q|⟨g,cap,cur,lu,lb,q,rest⟩
   ·exact .inl q
   ·have lo:=lA b li O g (by rw[lu];exact gQ rfl)
    exact .inr ⟨g,cap,cur,lu,lb,by rw[Y.frame.block g lo.1 lo.2];exact q,rest⟩
  ·obtain⟨cells,ae,lf,ls⟩:=Y.rows i c O
   exact⟨cells,by rw[lc i b o];exact ae,fun g X=>lZ g (lf g (by rw[lc i b o]at X;exact X)),dy (fun _ _=>cI lQ lN c.t) ls⟩
 ·intro lt ln am ap l5 g X ll
  rcases lz lt am with ⟨lq,lv⟩|⟨i1,lq,lv⟩<;>rcases lz ln ap with ⟨a2,lw⟩|⟨i2,a2,lw⟩
  ·rw[lg lt lq lv]at X
   rw[lg ln a2 lw]at ll
   exact h.apart lt ln lq a2 l5 g X ll
  ·rw[lg lt lq lv]at X
   rw[lc i2 ln a2]at ll
   have lo:=lA lt lq lv g X
   rcases lL i2 lw g ll with q|q
   ·omega
   ·exact lo.2 q
  ·rw[lc i1 lt lq]at X
   rw[lg ln a2 lw]at ll
   have lo:=lA ln a2 lw g ll
   rcases lL i1 lv g X with q|q
   ·omega
   ·exact lo.2 q
  ·rw[lc i1 lt lq]at X
   rw[lc i2 ln a2]at ll
   refine Y.apart i1 i2 lv lw ?_ g X ll
   rintro rfl
   exact l5 (Fk c1 lq a2)
 ·rw[<-lF]
  show(((iO (ρ.map (·.1)) st.ad).map (fun p=>(p.1,p.2.map (ao.dK (gone n st U ρ ρ'))))++ff ρ' U.ad ρ').map (·.1)++(iO (ρ.map (·.1)) st.rw++fz U.rw ρ').map (·.1)).Nodup
  have e:((iO (ρ.map (·.1)) st.ad).map (fun p=>(p.1,p.2.map (ao.dK (gone n st U ρ ρ'))))++ff ρ' U.ad ρ').map (·.1)=(iO (ρ.map (·.1)) st.ad++ff ρ' U.ad ρ').map (·.1):=by
   simp[List.map_append,List.map_map,Function.comp_def]
  rw[e]
  exact c4
 ·intro b c' R lE lr
  rcases lX b c' R with ⟨c,o,O,lS⟩|⟨i,c,o,O,lS⟩
  ·have li:b∈st.ids:=List.mem_append.2 (.inl (List.mem_map.2 ⟨_,o,rfl⟩))
   rw[lg b li O]
   exact h.fixed b c o (mR.symm.trans (lS▸lE)) lr
  ·rcases lD i b o with ⟨lm,q,la,_⟩|⟨_,_,_,q⟩
   ·have l6:c.one=true:=mR.symm.trans (lS▸lE)
    rw[No Y.keys O,l6]at la
    obtain⟨lx,ly,aq⟩:=Ih la
    rw[lc i b o,Y.fixed i c O l6 lm,lC b i q]
    exact h.fixed b lx (bc ly) aq lr
   ·rcases q with q|q
    ·omega
    ·have:=M9 O
     rw[q.1]at this
     cases this
 ·intro b c R lr l7
  rcases lY b c R with ⟨o,O⟩|⟨i,o,O⟩
  ·have li:b∈st.ids:=List.mem_append.2 (.inr (List.mem_map.2 ⟨_,o,rfl⟩))
   rw[lg b li O]
   exact h.kept b c o lr l7
  ·rcases lD i b o with ⟨lm,q,_,la⟩|⟨_,_,_,q⟩
   ·rcases la with la|⟨la,ar⟩
    ·omega
    ·obtain⟨lx,ly⟩:=Option.isSome_iff_exists.1 ar
     rw[lc i b o,Y.kept i c O lm la,lC b i q]
     exact h.kept b lx (bc ly) lr l7
   ·rcases q with q|q
    ·omega
    ·omega
end Go.Ev
namespace Go.Ev
open Go Go.RowKit
variable [b8]
variable {cx:bI} {m:Nat->Value} {st st':af} {T:Array Value} {w w':World} {E:Env} {Q:cZ} {ops:Array Oper} {l:List Oper}
variable [ah cx]
structure cY(α β:Type) where
 n:Nat
 S:α->af
 bq:α->β->af
 au:α->β->List ao
 rel:α->β->Prop
def vI(w:World)(M:Nat->Prop)(m:Nat->Value)(v:Value):List ao->Prop
 |[]=>True
 |[s]=>aT w M m v s
 |l=>∃vs:List Value,v=.tuple vs.toArray/\ct w M m vs l
structure dc{α β:Type}(P:Program)(G:World->Prop)(f:Nat)(F:cY α β):Prop where
 enters:∀args w,(callFunc f args).run P w=.ok (.enter f args) w
 calls:∀(cx:bI),cx.P=P->cx.n=F.n->(∀w,Frame cx.w0 w cx.X->G w)->∀x y,F.rel x y->∀(vs:List Value) (w:World),vs.length=(F.S x).ab.length->ak cx (F.S x) (vs.toArray++Array.replicate (F.n-vs.toArray.size) undef) w->
  Calls P f vs.toArray w fun e w'=>∃v aI o,e=.returned v/\an cx aI (F.bq x y) o w'/\vI w' (av cx aI (F.bq x y).ids) aI v (F.au x y)
def k8:List ao->Option (List bV)
 |[]=>some []
 |.val t x::l=>match k8 l with
  |some r=>some (.v ⟨t,x⟩::r)
  |none=>none
 |.row b::l=>match k8 l with
  |some r=>some (.r b::r)
  |none=>none
 |.ptr b 0::l=>match k8 l with
  |some r=>some (.r b::r)
  |none=>none
 |.dW b []::l=>match k8 l with
  |some r=>some (.r b::r)
  |none=>none
 |.any::l=>match k8 l with
  |some r=>some (.a::r)
  |none=>none
 |.iter b::l=>match k8 l with
  |some r=>some (.r b::r)
  |none=>none
 |_=>none
def xE:List ao->Option ao
 |[]=>some .any
 |[s]=>some s
 |l=>match k8 l with
  |some r=>some (.gu r)
  |none=>none
theorem pe{M:Nat->Prop}:∀{vs:List Value} {l:List ao} {r:List bV},k8 l=some r->ct w M m vs l->de w M m vs r
 |[],[],_,h,_=>by cases h;trivial
 |_::_,[],_,_,W=>W.elim
 |[],_::_,_,_,W=>W.elim
 |v::vs,s::l,r,h,⟨O,q⟩=>by
  unfold k8 at h
  split at h
  ·rename_i e;cases e
  ·rename_i t x R e
   cases e
   split at h
   ·rename_i U o;cases h;exact⟨O,pe o q⟩
   ·cases h
  ·rename_i b R e
   cases e
   split at h
   ·rename_i U o;cases h;exact⟨O,pe o q⟩
   ·cases h
  ·rename_i b R e
   cases e
   split at h
   ·rename_i U o;cases h;obtain⟨g,g1,g2⟩:=O;exact⟨by rw[g1];exact g2,pe o q⟩
   ·cases h
  ·rename_i b R e
   cases e
   split at h
   ·rename_i U o;cases h;obtain⟨g,g1,g2⟩:=O;exact⟨by rw[g1];exact g2,pe o q⟩
   ·cases h
  ·rename_i R e
   cases e
   split at h
   ·rename_i U o;cases h;exact pe (vs:=vs) o q
   ·cases h
  ·rename_i b R e
   cases e
   split at h
   ·rename_i U o;cases h;exact⟨O,pe o q⟩
   ·cases h
  ·cases h
theorem Nd{M:Nat->Prop}{v:Value}{l:List ao}{s:ao}(h:xE l=some s)(R:vI w M m v l):aT w M m v s:=by
 unfold xE at h
 split at h
 ·cases h;trivial
 ·cases h;exact R
 ·rename_i o q
  split at h
  ·rename_i r O
   cases h
   match l,o,q,R,O with
   |a::b::l,_,_,⟨vs,e,U⟩,O=>exact⟨vs,e,pe O U⟩
   |[],o,_,_,_=>exact absurd rfl o
   |[a],_,q,_,_=>exact absurd rfl (q a)
  ·cases h
def ze(P:Program)(st:af)(t:TypeId)(x:Operand):Option ao:=
 match x with
 |.const (.slice none 0 0)=>match dY P t with
  |some (_,u)=>some (.val (.ab u) [])
  |none=>none
 |x=>aS st x
def sX(P:Program)(st:af):List TypeId->List Operand->Option (List ao)
 |[],[]=>some []
 |t::o,x::xs=>match ze P st t x,sX P st o xs with
  |some v,some vs=>some (v::vs)
  |_,_=>none
 |_,_=>none
theorem KX(h:an cx m st T w){t:TypeId}{x:Operand}{s:ao}(o:ze cx.P st t x=some s):aT w (av cx m st.ids) m (Act.eval ⟨T,ah.D cx⟩ x) s:=by
 unfold ze at o
 split at o
 ·split at o
  ·rename_i e u O
   cases o
   exact(bA (t:=.ab u) rfl).2 ⟨none,0,[],rfl,Nat.le_refl _,by decide,fun _=>rfl,rfl,fun j v q=>by simp at q⟩
  ·cases o
 ·exact bf h o
theorem Aq(h:an cx m st T w):∀{O:List TypeId} {xs:List Operand} {q:List ao},sX cx.P st O xs=some q->ct w (av cx m st.ids) m (xs.map (Act.eval ⟨T,ah.D cx⟩)) q
 |[],[],_,o=>by cases o;trivial
 |[],_::_,_,o=>by cases o
 |_::_,[],_,o=>by cases o
 |t::O,x::xs,q,o=>by
  unfold sX at o
  split at o
  ·rename_i v W R U
   cases o
   exact⟨KX h R,Aq h U⟩
  ·cases o
def tL(st:af)(bs:List Nat):Bool:=bs.all fun b=>match look st.ad b with
 |some (.cells _ _)=>true
 |_=>false
theorem w7(h:an cx m st T w):∀{bs:List Nat},tL st bs=true->ct w (av cx m st.ids) m (bs.map m) (bs.map fun b=>ao.ptr b 0)
 |[],_=>trivial
 |b::bs,o=>by
  unfold tL at o
  rw[List.all_cons,Bool.and_eq_true]at o
  refine⟨?_,w7 h o.2⟩
  have q:=o.1
  split at q
  ·rename_i c R
   obtain⟨g,O⟩:=xR h R
   exact⟨g,O,O⟩
  ·cases q
def oO(E:Env)(st:af)(aa:Oper)(n f:Nat)(ρ:List (Nat×Nat)):Option af:=
 match aa.op with
 |.call c=>match c.callee with
  |.value x=>match aS st x with
   |some (.clos o bs)=>match Nat.beq o f,tL st bs,sX E.P st c.argTypes.toList c.args.toList with
    |true,true,some q=>ke st n ρ (q++bs.map fun b=>ao.ptr b 0)
    |_,_,_=>none
   |some (.ca o b)=>match Nat.beq o f,tL st [b],sX E.P st c.argTypes.toList c.args.toList with
    |true,true,some q=>ke st n ρ (ao.ptr b 0::q)
    |_,_,_=>none
   |_=>none
  |_=>none
 |_=>none
def jP(st O:af)(aa:Oper)(n o:Nat)(ρ ρ':List (Nat×Nat))(au:List ao):Option af:=
 match yx st O n o ρ ρ',xE au with
 |some q,some s=>match aa.dst with
  |none=>some q
  |some d=>match Nat.blt d o with
   |true=>some (q.put d (s.ch ρ'))
   |false=>none
 |_,_=>none
def y7(st U:af)(aa:Oper)(n o:Nat)(ρ ρ':List (Nat×Nat))(au:List ao)(q bs O:List Nat):Option af:=
 match yx st U n o ρ ρ',xE au with
 |some R,some s=>match aa.dst with
  |none=>R.norm q bs O
  |some d=>match Nat.blt d o with
   |true=>(R.put d (s.ch ρ')).norm q bs O
   |false=>none
 |_,_=>none
theorem Lj{n:Nat}{ρ:List (Nat×Nat)}{q:List ao}{O:af}(o:ke st n ρ q=some O):(ρ.map (·.1)).Nodup/\(ρ.map (·.2)).Nodup:=by
 unfold ke at o
 split at o
 ·rename_i aC aA bW R;exact⟨iM aC,iM aA⟩
 ·cases o
theorem Jx:∀(l:List ao) (k:Nat),(mT k l).length=l.length
 |[],_=>rfl
 |_::l,k=>by simp[mT,Jx l]
theorem K8{n:Nat}{ρ:List (Nat×Nat)}{q:List ao}{O:af}(o:ke st n ρ q=some O):O.ab.length=q.length:=by
 unfold ke at o
 split at o
 ·cases o;simp[Jx]
 ·cases o
theorem LX(h:an cx m st T w){n:Nat}{ρ:List (Nat×Nat)}(o:Frame w w' (sub cx m st w n ρ).X):Frame cx.w0 w' cx.X:=by
 refine⟨o.os.trans h.frame.os,o.tape.trans h.frame.tape,o.output.trans h.frame.output,Nat.le_trans h.frame.size o.size,fun b q O=>?_,fun d=>Nat.le_trans (h.frame.drawn d) (o.drawn d)⟩
 rw[<-h.frame.block b q O]
 refine o.block b (Nat.lt_of_lt_of_le q h.frame.size) ?_
 rintro⟨i0,_,_,U,W⟩
 rcases(h.lt U W).2 with R|R
 ·omega
 ·exact O R
theorem Qo{c:Call}{aa:Oper}{f:Nat}{x:Operand}{u:Value}(q:aa.op=.call c)(o:c.callee=.value x)(O:Act.eval ⟨T,ah.D cx⟩ x=.func (.func f) #[u] #[])
  (R:∀args w,(callFunc f args).run cx.P w=.ok (.enter f args) w)(w:World):
  (execOp (Act.eval ⟨T,ah.D cx⟩) aa).run cx.P w=.ok (.enter f (u::c.args.toList.map (Act.eval ⟨T,ah.D cx⟩)).toArray) w:=by
 obtain⟨U,args,W⟩:=c
 simp only at o
 subst o
 have ae:#[u]++args.map (Act.eval ⟨T,ah.D cx⟩)++#[]=(u::args.toList.map (Act.eval ⟨T,ah.D cx⟩)).toArray:=by
  apply Array.ext'
  simp
 simp only[execOp,q,resolve,O,Deferred.ofValue,Sem.run_bind,Sem.run_pure,Result.andThen_ok,invoke]
 rw[ae]
 simp[R]
theorem DX(U:bE E cx){α β:Type}{F:cY α β}{f:Nat}(ll:dc E.P E.G f F)(x:α)(y:β)(lm:F.rel x y){aa:Oper}{ρ ρ':List (Nat×Nat)}{n:Nat}(ln:F.n=n)
  (lo:eF ops st aa=some true)(o:oO E st aa n f ρ=some (F.S x))(R:jP st (F.bq x y) aa n E.n ρ ρ' (F.au x y)=some st')(h:bU cx ops Q l st'):bU cx ops Q (aa::l) st:=by
 subst ln
 rintro T w ⟨m,q⟩
 refine wpList_step fun K ld=>?_
 rw[iC ⟨m,q⟩ lo]
 simp only[if_true]
 have X:=ll
 rw[<-U.P]at X
 have le:∀(W:List ao) (vs:List Value),ke st F.n ρ W=some (F.S x)->ct w (av cx m st.ids) m vs W->(execOp (Act.eval ⟨T,ah.D cx⟩) aa).run cx.P w=.ok (.enter f vs.toArray) w->aa.wp cx.P ⟨T,ah.D cx⟩ w K Q:=by
  intro W vs o lf lp
  have lq:=JM q o lf
  obtain⟨aC,aA⟩:=Lj o
  have lr:=mv lf
  have ls:(F.S x).ab.length=W.length:=K8 o
  have lt:=X.calls (sub cx m st w F.n ρ) rfl rfl (fun w' O=>U.rm w' (LX q O)) x y lm _ w (by rw[ls];exact lr) ⟨_,lq⟩
  unfold Oper.wp
  rw[lp]
  refine lt.mono ?_
  rintro e w' ⟨v,aI,ly,rfl,lu,lv⟩
  unfold jP at R
  split at R
  case h_2=>cases R
  rename_i lz s lg lw
  rw[<-U.n]at lg
  obtain⟨m2,lh,lx⟩:=Nc q aC aA lu lg
  show K (Act.put ⟨T,ah.D cx⟩ aa.dst v) w'
  split at R
  ·rename_i ai
   rw[ai]
   cases R
   exact ld _ _ (h _ _ ⟨m2,lh⟩)
  ·rename_i d ai
   split at R
   ·rename_i Y
    rw[ai]
    have Y:d<cx.n:=by rw[U.n];exact cR Y
    cases R
    exact ld _ _ (h _ _ ⟨m2,lh.put Y (lx v s (Nd lw lv))⟩)
   ·cases R
 unfold oO at o
 split at o
 case h_2=>cases o
 rename_i c li
 split at o
 case h_2=>cases o
 rename_i lj lk
 split at o
 ·rename_i Z cP la
  split at o
  case h_2=>cases o
  rename_i W O lb has
  have O:=Nat.eq_of_beq_eq_true O
  subst O
  rw[<-U.P]at has
  have lc:Act.eval ⟨T,ah.D cx⟩ lj=.func (.func Z) #[] (cP.map m).toArray:=bf q la
  exact le _ _ o (mu (Aq q has) (w7 q lb)) (vq li lk lc X.enters w)
 ·rename_i Z b la
  split at o
  case h_2=>cases o
  rename_i W O lb has
  have O:=Nat.eq_of_beq_eq_true O
  subst O
  rw[<-U.P]at has
  have lc:Act.eval ⟨T,ah.D cx⟩ lj=.func (.func Z) #[m b] #[]:=bf q la
  exact le _ (m b::c.args.toList.map (Act.eval ⟨T,ah.D cx⟩)) o ⟨(w7 q lb).1,Aq q has⟩ (Qo li lk lc X.enters w)
 ·cases o
theorem Di(R:bE E cx){α β:Type}{F:cY α β}{f:Nat}(U:dc E.P E.G f F)(x:α)(y:β)(W:F.rel x y){aa:Oper}{ρ ρ':List (Nat×Nat)}{n:Nat}(X:F.n=n)(q bs O:List Nat)
  (Y:eF ops st aa=some true)(Z:oO E st aa n f ρ=some (F.S x))(o:y7 st (F.bq x y) aa n E.n ρ ρ' (F.au x y) q bs O=some st')(h:bU cx ops Q l st'):bU cx ops Q (aa::l) st:=by
 have e:∃s,jP st (F.bq x y) aa n E.n ρ ρ' (F.au x y)=some s/\s.norm q bs O=some st':=by
  unfold y7 at o
  unfold jP
  split at o
  ·split at o
   ·exact⟨_,rfl,o⟩
   ·split at o
    ·exact⟨_,rfl,o⟩
    ·cases o
  ·cases o
 obtain⟨s,la,lb⟩:=e
 exact DX R U x y W X Y Z la (h.norm lb)
def af.ch(st:af)(ρ:List (Nat×Nat)):Option af:=
 match nodupB (ρ.map (·.1)),nodupB (ρ.map (·.2)),ρ.all (fun p=>Nat.beq p.1 p.2||((look st.ad p.1).isNone&&Nat.blt p.2 eG)),nodupB (af.ids ⟨[],ff ρ st.ad ρ,fz st.rw ρ⟩)with
 |true,true,true,true=>some ⟨st.ab.map fun p=>(p.1,p.2.ch ρ),ff ρ st.ad ρ,fz st.rw ρ⟩
 |_,_,_,_=>none
theorem an.ch(h:an cx m st T w){ρ:List (Nat×Nat)}(X:st.ch ρ=some st'):∃aI,an cx aI st' T w:=by
 unfold af.ch at X
 split at X
 case h_2=>cases X
 rename_i aC aA bW Z
 cases X
 have aC:=iM aC
 have aA:=iM aA
 have Z:=iM Z
 obtain⟨aI,ll⟩:∃aI:Nat->Value,aI=fun j=>match inv ρ j with|some i=>m i|none=>undef:=⟨_,rfl⟩
 have O:∀i j,(i,j)∈ρ->aI j=m i:=by
  intro i j o
  rw[ll]
  simp only
  rw[s6 aA o]
 have la:∀{j:Nat},j∈af.ids ⟨st.ab.map fun p=>(p.1,p.2.ch ρ),ff ρ st.ad ρ,fz st.rw ρ⟩->∃i,(i,j)∈ρ/\i∈st.ids:=fun R=>xc R
 have lb:∀b,b<w.heap.size->av cx aI (af.ids ⟨st.ab.map fun p=>(p.1,p.2.ch ρ),ff ρ st.ad ρ,fz st.rw ρ⟩) b->av cx m st.ids b:=by
  rintro b _ (lm|⟨j,R,Y⟩)
  ·exact .inl lm
  ·obtain⟨i,o,hi⟩:=la R
   rw[O i j o]at Y
   exact .inr ⟨i,hi,Y⟩
 have lc:∀b,b<w.heap.size->¬av cx m st.ids b->w.heap[b]? =w.heap[b]? :=fun _ _ _=>rfl
 have lf:∀v s,aT w (av cx m st.ids) m v s->aT w (av cx aI (af.ids ⟨st.ab.map fun p=>(p.1,p.2.ch ρ),ff ρ st.ad ρ,fz st.rw ρ⟩)) aI v (s.ch ρ):=
  fun v s ln=>Dl O (fE lc lb ln)
 refine⟨aI,{size:=h.size,frame:=h.frame,outer:=h.outer,cT:=?_,boxes:=?_,rows:=?_,apart:=?_,keys:=Z,fixed:=?_,kept:=?_}⟩
 ·intro i aU hi
  obtain⟨⟨j,s⟩,lo,lp⟩:=List.mem_map.1 hi
  cases lp
  obtain⟨v,ae,U⟩:=h.cT j s lo
  exact⟨v,ae,lf v s U⟩
 ·intro j c' R
  obtain⟨i,c,o,hi,rfl⟩:=nK R
  obtain⟨g,ae,U,ld⟩:=h.boxes i c hi
  rw[O i j o]
  exact⟨g,kQ.2 ae,U,jS lc lb (ix ae) (fun _ _=>rfl) lf ld⟩
 ·intro j c R
  obtain⟨i,o,hi⟩:=nS R
  obtain⟨cells,ae,U,ld⟩:=h.rows i c hi
  exact⟨cells,by rw[O i j o];exact ae,fun g W=>U g (by rw[O i j o]at W;exact W),dy (fun _ _=>cI lc lb c.t) ld⟩
 ·intro lx ly lq lr ls g W lg
  obtain⟨i1,lh,lt⟩:=la lq
  obtain⟨i2,a2,lu⟩:=la lr
  rw[O _ _ lh]at W
  rw[O _ _ a2]at lg
  refine h.apart i1 i2 lt lu ?_ g W lg
  rintro rfl
  exact ls (Fk aC lh a2)
 ·intro b c Y lv le
  obtain⟨i,lz,o,hi,lw⟩:=nK Y
  have q:=List.all_eq_true.1 bW _ o
  simp only[Bool.or_eq_true,Bool.and_eq_true]at q
  rcases q with q|⟨q,_⟩
  ·have e:=Nat.eq_of_beq_eq_true q
   subst e
   rw[O _ _ o]
   exact h.fixed _ _ hi (mR.symm.trans (lw▸lv)) le
  ·have li:=M9 hi
   cases lj:look st.ad i with
   |none=>rw[lj]at li;cases li
   |some x=>rw[lj]at q;cases q
 ·intro j c R le lk
  obtain⟨i,o,hi⟩:=nS R
  have q:=List.all_eq_true.1 bW _ o
  simp only[Bool.or_eq_true,Bool.and_eq_true]at q
  rcases q with q|⟨_,q⟩
  ·have e:=Nat.eq_of_beq_eq_true q
   subst e
   rw[O _ _ o]
   exact h.kept _ _ hi le lk
  ·exact absurd lk (Nat.not_le.2 (cR q))
theorem ak.ch(h:ak cx st T w){ρ:List (Nat×Nat)}(o:st.ch ρ=some st'):ak cx st' T w:=let⟨_,q⟩:=h;q.ch o
theorem N.ch{e:Exit}(ρ:List (Nat×Nat))(o:st.ch ρ=some st')(h:N cx Q e st'):N cx Q e st:=fun T w q=>h T w (q.ch o)
theorem W.ch{c:Code}(ρ:List (Nat×Nat))(o:st.ch ρ=some st')(h:W cx Q c st'):W cx Q c st:=fun T w q=>h T w (q.ch o)
theorem bU.ch(ρ:List (Nat×Nat))(o:st.ch ρ=some st')(h:bU cx ops Q l st'):bU cx ops Q l st:=fun T w q=>h T w (q.ch o)
def pD(P:Program)(st:af):List ResultVar->Option (List ao)
 |[]=>some []
 |.tmp t::l=>match look st.ab t,pD P st l with
  |some s,some r=>some (s::r)
  |none,some r=>some (.any::r)
  |_,none=>none
 |.cell a ty'::l=>match iH P st [.cell a ty'],pD P st l with
  |some [u],some r=>some (.val u.t u.x::r)
  |_,_=>none
theorem wy(h:an cx m st T w):∀{l:List ResultVar} {au:List ao},pD cx.P st l=some au->
  ∃vs,(l.mapM (iY T)).run cx.P w=.ok vs w/\ct w (av cx m st.ids) m vs au
 |[],_,o=>by cases o;exact⟨[],by simp,trivial⟩
 |.tmp t::l,au,o=>by
  simp only[pD]at o
  split at o
  ·rename_i s r Y R
   cases o
   obtain⟨vs,U,W⟩:=wy h R
   obtain⟨v,q,O⟩:=h.cT t _ (bc Y)
   refine⟨v::vs,?_,O,W⟩
   have la:T.getD t undef=v:=by rw[Array.getD_eq_getD_getElem?,q];rfl
   have X:(iY T (.tmp t)).run cx.P w=.ok v w:=by show Sem.run cx.P (pure (T.getD t undef)) w=_;rw[la,Sem.run_pure]
   rw[List.mapM_cons,Sem.run_bind,X]
   simp only[Result.andThen_ok,Sem.run_bind,U,Sem.run_pure]
  ·rename_i r Y R
   cases o
   obtain⟨vs,U,W⟩:=wy h R
   refine⟨T.getD t undef::vs,?_,trivial,W⟩
   have X:(iY T (.tmp t)).run cx.P w=.ok (T.getD t undef) w:=rfl
   rw[List.mapM_cons,Sem.run_bind,X]
   simp only[Result.andThen_ok,Sem.run_bind,U,Sem.run_pure]
  ·cases o
 |.cell a t::l,au,o=>by
  simp only[pD]at o
  split at o
  ·rename_i u r lb R
   cases o
   obtain⟨vs,U,W⟩:=wy h R
   obtain⟨us,q,O⟩:=vi h lb
   match us,O with
   |[v],⟨X,_⟩=>
    refine⟨v::vs,?_,X,W⟩
    have lc:(iY T (.cell a t)).run cx.P w=.ok v w:=by
     rw[List.mapM_cons,Sem.run_bind]at q
     cases Z:(iY T (.cell a t)).run cx.P w with
     |ok v' ld=>
      rw[Z]at q
      simp only[Result.andThen_ok,List.mapM_nil,Sem.run_bind,Sem.run_pure]at q
      cases q
      rfl
     |_=>rw[Z]at q;cases q
    rw[List.mapM_cons,Sem.run_bind,lc]
    simp only[Result.andThen_ok,Sem.run_bind,U,Sem.run_pure]
   |[],O=>exact O.elim
   |_::_::_,⟨_,O⟩=>exact O.elim
  ·cases o
def w9(P:Program)(fn:Func)(cx:bI)(o:af)(au:List ao):cZ:=
 bodyPost P fn fun e w'=>∃v aI q,e=.returned v/\an cx aI o q w'/\vI w' (av cx aI o.ids) aI v au
theorem fZ{P:Program}(U:cx.P=P){fn:Func}{au:List ao}{o:af}{e:Exit}(bs W:List Nat)(X:e=.ret\/e=.normal)(Y:pD P st fn.results.toList=some au)(q:st.norm [] bs W=some o)(Z:ah.D cx=[]:=by rfl):
  N cx (w9 cx.P fn cx o au) e st:=by
 subst U
 rintro T w ⟨m,R⟩
 obtain⟨vs,la,lb⟩:=wy R Y
 have lc:=I1 la
 have ld:=R.norm q
 have le:∀i,i∈o.ids->i∈st.ids:=by
  unfold af.norm at q
  split at q
  ·rename_i ab ad ll lm lf lg _
   cases q
   intro i hi
   rcases List.mem_append.1 hi with hi|hi
   ·obtain⟨p,O,rfl⟩:=List.mem_map.1 hi;exact List.mem_append.2 (.inl (List.mem_map.2 ⟨p,qS lf p O,rfl⟩))
   ·obtain⟨p,O,rfl⟩:=List.mem_map.1 hi;exact List.mem_append.2 (.inr (List.mem_map.2 ⟨p,qS lg p O,rfl⟩))
  ·cases q
 have lh:ct w (av cx m o.ids) m vs au:=oq (fun _ _ _=>rfl) (fun b _ li=>mM le li) lb
 have lj:vI w (av cx m o.ids) m (if h:vs.toArray.size=1 then vs.toArray[0]else .tuple vs.toArray) au:=by
  match vs,au,lh with
  |[],[],_=>trivial
  |[v],[u],⟨h,_⟩=>exact h
  |v1::v2::vs,ln::lo::us,h=>
   have lk:¬(v1::v2::vs).toArray.size=1:=by simp
   rw[dif_neg lk]
   exact⟨_,rfl,h⟩
  |[],_::_,h=>exact h.elim
  |_::_,[],h=>exact h.elim
  |[_],_::_::_,⟨_,h⟩=>exact h.elim
  |_::_::_,[_],⟨_,h⟩=>exact h.elim
 rcases X with rfl|rfl<;>exact⟨Z,_,lc,_,m,_,rfl,ld,lj⟩
theorem ow{P:Program}{G:World->Prop}{f:FuncId}{fn:Func}{c:Code}{α β:Type}{F:cY α β}(o:P.funcs[f]? =some fn)(O:(fn.name== "runtime.NumGoroutine")=false)(q:fn.body=some c)(R:fn.ntmps=F.n)
  (U:∀cx:bI,cx.P=P->cx.n=F.n->(∀w,Frame cx.w0 w cx.X->G w)->∀x y,F.rel x y->W cx (w9 cx.P fn cx (F.bq x y) (F.au x y)) c (F.S x)):dc P G f F where
 enters:=enters_of o O q
 calls:=fun cx X Y Z x y la vs w _ h=>by
  subst X
  refine calls_of_wp o q ?_
  rw[R]
  exact U cx rfl Y Z x y la _ _ h
theorem a8.weaken{P:Program}{G o:World->Prop}{f:Nat}{F:jd}(q:∀w,o w->G w)(h:a8 P G f F):a8 P o f F:=
 ⟨h.enters,h.shape,fun w M vs O au R=>h.calls w M vs O au (q w R)⟩
theorem dc.weaken{α β:Type}{P:Program}{G o:World->Prop}{f:Nat}{F:cY α β}(q:∀w,o w->G w)(h:dc P G f F):dc P o f F:=
 ⟨h.enters,fun cx O R U=>h.calls cx O R fun w W=>q w (U w W)⟩
end Go.Ev
namespace Go.Ev
open Go Go.RowKit
variable [b8]
section
variable {P:Program} {ops:Array Oper} {md:Region.Mode} {C:World->Prop}
def uv(P:Program)(md:Region.Mode)(ops:Array Oper)(C:World->Prop)(n:Nat)(L:Array Bool->Act->Prop):Nat->Array Bool->Act->Prop
 |0,done,a=>L done a
 |f+1,done,a=>Region.ready md ops done≠[]/\∀i,i∈Region.ready md ops done->i<n/\qOp P ops C i (uv P md ops C n L f (done.setIfInBounds i true)) a
theorem Pp{n g:Nat}{L:Array Bool->Act->Prop}{Q':Exit->Act->World->Prop}(q:∀done a w,C w->L done a->wpAny P md ops Q' g done a w):
  ∀(f:Nat) (done:Array Bool) (a:Act) (w:World),C w->uv P md ops C n L f done a->wpAny P md ops Q' (f+g) done a w:=by
 intro f
 induction f with
 |zero=>intro done a w o h;rw[Nat.zero_add];exact q _ _ _ o h
 |succ f O=>
  intro done a w o h
  rw[Nat.succ_add]
  exact⟨fun R=>absurd R h.1,fun i hi=>wpOp_of_qOp o (fun U w' W h'=>O _ U w' W h') (h.2 i hi).2⟩
theorem Oo{n i:Nat}{aa:Oper}{v:Value}{L:Array Bool->Act->Prop}(hi:ops[i]? =some aa)(la:∀(j:Nat) (aa:Oper) cs b,ops[j]? =some aa->aa.op≠.select cs b)
  (lb:Region.sinkB md ops n=true)(lc:Region.chainB md ops n=true)(ld:n<ops.size)(le:i<n)(lk:∀done a,L done a->∀j,j∈Region.ready md ops done->n<=j):
  ∀(f:Nat) (done:Array Bool) (a:Act),HeadInv md ops n done->
   (∀j O,ops[j]? =some O->j≠i->done.getD j true=false->(∀e∈O.after,Region.binds md e=true->e.on≠i)->aa.apart ops O=true)->
   i∈Region.ready md ops done->YieldsIn P ops C aa v a->uv P md ops C n L f (done.setIfInBounds i true) (a.put aa.dst v)->uv P md ops C n L (f+1) done a:=by
 intro f
 induction f with
 |zero=>
  intro done a inv _ o W R
  have X:=(mem_ready.1 o).1
  refine⟨fun Y=>(by rw[Y]at o;cases o),fun j q=>?_⟩
  have U:j<n:=Nat.lt_of_not_le fun h=>tail_waits lb lc ld inv _ i rfl le X j h q
  refine⟨U,?_⟩
  by_cases e:j=i
  ·subst e;exact W.qOp hi R
  ·exact absurd (lk _ _ R j (ready_mono q e)) (Nat.not_le_of_lt U)
 |succ f ll=>
  intro done a inv lf o W R
  have X:=(mem_ready.1 o).1
  refine⟨fun Y=>(by rw[Y]at o;cases o),fun j q=>?_⟩
  have U:j<n:=Nat.lt_of_not_le fun h=>tail_waits lb lc ld inv _ i rfl le X j h q
  refine⟨U,?_⟩
  by_cases e:j=i
  ·subst e;exact W.qOp hi R
  obtain⟨lg,O,Z,lm⟩:=mem_ready.1 q
  have ln:=lf j O Z e lg fun d ai lo aM=>by
   have lh:=lm d ai lo
   rw[aM,getD_both X]at lh
   cases lh
  refine qOp_mono (fun lp li=>ll (done.setIfInBounds j true) lp (inv.set q U) (fun k ok lq lr ls lt=>lf k ok lq lr ?_ lt) (ready_mono o (Ne.symm e)) li.1 ?_)
   (qOp_put Z ln (fun cs b=>la i aa cs b hi) (fun cs b=>la j O cs b Z) W (R.2 j (ready_mono q e)).2)
  ·by_cases lj:j=k
   ·subst lj;exact lg
   ·rwa [getD_set_ne true lj]at ls
  ·rw[Array.setIfInBounds_comm _ _ e];exact li.2
theorem NK{n g:Nat}{O:Act->Prop}(Z:Region.noSelect ops=true)(la:Region.sinkB md ops n=true)(lb:Region.chainB md ops n=true)(lc:n<ops.size):
  ∀(l:List Oper) (k:Nat) (done:Array Bool) (a:Act),(∀j,j<l.length->l[j]? =ops[k+j]?)->k+l.length=n->HeadInv md ops n done->Region.lexHead md ops g l.length k done=true->
   wpQuiet P ops C O l a->uv P md ops C n (fun d U=>Region.seqB md ops g n d=true/\O U) l.length done a:=by
 intro l
 induction l with
 |nil=>
  intro k done a _ o _ R h
  obtain rfl:k=n:=o
  exact⟨R,h⟩
 |cons aa l ld=>
  intro k done a W o inv R h
  have q:ops[k]? =some aa:=(W 0 (Nat.succ_pos _)).symm
  obtain⟨le,lf⟩:=Bool.and_eq_true_iff.1 R
  obtain⟨lg,lh⟩:=Bool.and_eq_true_iff.1 le
  have X:k<n:=by rw[<-o];simp
  have Y:k∈Region.ready md ops done:=by simpa using lg
  obtain⟨v,li,lj⟩:=yieldsIn_of_qOp (K:=wpQuiet P ops C O l) q (by unfold qOp;rw[q];exact h)
  refine Oo q (Region.noSelect_spec Z) la lb lc X (fun d U lk=>seqB_ready lk.1) l.length done a inv (Region.free_spec q lh) Y li ?_
  refine ld (k+1) _ _ (fun j ll=>?_) (by rw[<-o];simp only[List.length_cons];omega) (inv.set Y X) lf lj
  have:=W (j+1) (Nat.succ_lt_succ ll)
  rw[Nat.add_assoc,Nat.add_comm 1 j]
  exact this
theorem Sx{id:Nat}{Q:Exit->Act->World->Prop}{a:Act}{w:World}{l:List Oper}(n:Nat)(Y:P.follows .mixedOrders=true)(O:Region.lexTailB .any l.toArray n=true)(Z:C {w with drawn:=w.drawn+1})
  (h:wpQuiet P l.toArray C (fun q=>∀w',C w'->wpList P l.toArray Q (l.drop n) q w') (l.take n) a):(Code.region id l.toArray true).wp P Q a w:=by
 simp only[Region.lexTailB,Bool.and_eq_true,decide_eq_true_eq]at O
 obtain⟨⟨⟨⟨la,R⟩,lb⟩,lc⟩,ld⟩:=O
 have le:n<l.length:=by simpa using R
 have o:(l.take n).length=n:=List.length_take_of_le (Nat.le_of_lt le)
 have lf:HeadInv .any l.toArray n (Array.replicate l.toArray.size false):=
  ⟨by simp,fun j li _ U=>(by rw[getD_replicate_false]at U;cases U),fun t _ o=>getD_in (by simpa using o) (getD_replicate_false _ _)⟩
 have lg:=NK (C:=C) (md:=.any) (g:=l.toArray.size-n) la lb lc R (l.take n) 0 _ a
  (fun j W=>by rw[o]at W;simp[W]) (by rw[o,Nat.zero_add]) lf (by rw[o];exact ld) h
 have ai:(l.drop n).length=l.toArray.size-n:=by simp
 have ak:=Pp (Q':=Q) (g:=l.toArray.size-n) (fun done q w' lh X=>by
  have:=wpAny_of_seq (md:=.any) (Q':=Q) (l.drop n) n done q w' (fun j=>by simp[List.getElem?_drop]) (by rw[ai];exact X.1) (X.2 w' lh)
  rwa [ai]at this) _ _ _ _ Z lg
 rw[o,show n+(l.toArray.size-n)=l.toArray.size by omega]at ak
 exact wp_region_any Y ak
end
variable {cx:bI} {st st':af} {Q:cZ} {E:Env}
variable [ah cx]
variable {ops:Array Oper} {l:List Oper}
theorem PT(h:N cx Q .normal st):kC cx ops Q [] st:=fun T _ o w' q=>h T w' (o.ext q)
theorem VG{K:World->Act->Prop}(h:mq cx K st):fO cx ops K [] st:=fun T w o=>h T w o
theorem Hm{α:Type}{o:World->Act->Prop}(F:α->Prop)(S:α->af)(n:Nat)(O:∀a,F a->fO cx ops o (l.drop n) (S a))
  (R:∀K,(∀a,F a->mq cx K (S a))->fO cx ops K (l.take n) st):fO cx ops o l st:=by
 intro T w q
 have:=jR (P:=cx.P) (ops:=ops) (l1:=l.take n) (l2:=l.drop n)
  (R (fun w=>wpQuiet cx.P ops (Ext w) (o w) (l.drop n)) (fun a U T w q=>O a U T w q) T w q)
 rwa [List.take_append_drop]at this
end Go.Ev
namespace Go.Ev
open Go Go.RowKit
variable [b8]
variable {cx:bI} {m:Nat->Value} {st st':af} {T:Array Value} {w w':World} {E:Env} {Q:cZ} {ops:Array Oper} {l:List Oper}
variable [ah cx]
theorem Na:∀(L:List MapEntry) (j:Nat) (e:MapEntry),(L.map (·.born)).Nodup->L[j]? =some e->L.filter (fun x=>!(x.born==e.born))=L.eraseIdx j
 |[],j,e,_,h=>by simp at h
 |x::L,0,e,o,h=>by
  simp at h
  subst h
  rw[List.map_cons,List.nodup_cons]at o
  rw[List.filter_cons,beq_self_eq_true]
  simp only[Bool.not_true,Bool.false_eq_true,if_false,List.eraseIdx_zero,List.tail_cons]
  refine List.filter_eq_self.2 fun y O=>?_
  have:¬y.born=x.born:=fun q=>o.1 (List.mem_map.2 ⟨y,O,q⟩)
  simp[this]
 |x::L,j+1,e,o,h=>by
  rw[List.map_cons,List.nodup_cons]at o
  have h':L[j]? =some e:=by simpa using h
  have R:¬x.born=e.born:=fun q=>o.1 (List.mem_map.2 ⟨e,List.mem_of_getElem? h',q.symm⟩)
  rw[List.filter_cons,if_pos (by simp[R]),Na L j e o.2 h',List.eraseIdx_cons_succ]
theorem Hz{α β:Type}{o:Value->α->Prop}{q:Value->β->Prop}:∀{es:List MapEntry} {ps:List (α×β)} (j:Nat),ep o q es ps->ep o q (es.eraseIdx j) (ps.eraseIdx j)
 |[],[],_,_=>trivial
 |[],_::_,_,h=>h.elim
 |_::_,[],_,h=>h.elim
 |_::_,_::_,0,⟨_,_,h⟩=>h
 |_::_,_::_,j+1,⟨O,R,U⟩=>⟨O,R,Hz j U⟩
theorem Le{α β:Type}{o:Value->α->Prop}{q:Value->β->Prop}:∀{es:List MapEntry} {ps:List (α×β)} {j:Nat} {e:MapEntry},ep o q es ps->es[j]? =some e->∃p,ps[j]? =some p/\o e.key p.1/\q e.val p.2
 |[],_,_,_,_,h=>by simp at h
 |_::_,[],_,_,h,_=>h.elim
 |e::_,p::_,0,O,⟨R,U,_⟩,h=>by simp at h;subst h;exact⟨p,rfl,R,U⟩
 |_::_,_::_,j+1,O,⟨_,_,W⟩,h=>by
  obtain⟨p,a,b,c⟩:=Le W (j:=j) (by simpa using h)
  exact⟨p,by simpa using a,b,c⟩
theorem Ve{P:Program}(ty:TypeId){r R o:Nat}{seen:Array Nat}{es:Array MapEntry}(X:w.heap[r]? =some (.mapIter (some R) o seen o))(lc:w.heap[R]? =some (.map es o))(Y:∀x∈es.toList,x.born<o)
  (U:es.toList.filter (fun e=>!seen.contains e.born)≠[]):
  ∃(j:Nat) (e:MapEntry) (q:World),(es.toList.filter (fun e=>!seen.contains e.born))[j]? =some e/\(q=w\/q=w.drew)/\
   (Instr.next (.pointer (some ⟨r,0,none⟩)) false ty).run P w=.ok (.tuple #[.bool true,e.key,e.val]) {q with heap:=q.heap.setIfInBounds r (.mapIter (some R) o (seen.push e.born) o)}:=by
 simp only[Instr.next,getObj,Sem.run_bind,Sem.run,X,lc,Result.andThen,next_test_false seen es o o Y (Nat.le_refl _),Bool.false_eq_true,if_false]
 have W:∀x∈(Array.filter (fun e=>!seen.contains e.born) es).toList,x.born<o:=fun x O=>Y x (by simp at O⊢;exact O.1)
 rw[<-Array.toList_filter]at U⊢
 generalize Array.filter (fun e=>!seen.contains e.born) es=L at W U⊢
 have ae:L.filter (fun x=>decide (x.born<o))=L:=Array.filter_eq_self.2 (fun x O=>by simpa using W x (by simpa using O))
 have ld:L.filter (fun x=>decide (x.born≥o))=#[]:=by
  rw[Array.filter_eq_empty_iff]
  intro x O
  have:=W x (by simpa using O)
  simp
  omega
 simp only[ae,ld,Array.append_empty]
 have le:L.size≠0:=fun h=>U (by rw[Array.eq_empty_of_size_eq_zero h])
 have lf:L.isEmpty=false:=by simp[Array.isEmpty,le]
 simp only[lf,Bool.false_eq_true,if_false,Array.empty_append,Array.size_map]
 have lg:∃(j:Nat) (q:World),j<L.size/\(q=w\/q=w.drew)/\(choose (Question.mapNext L.size)).run P w=.ok j q:=by
  by_cases Z:L.size<=1
  ·exact⟨0,w,by omega,.inl rfl,by simp[choose,Sem.run,Question.forced,Z]⟩
  ·exact⟨_,w.drew,Nat.mod_lt _ (by omega),.inr rfl,by
    simp only[choose,Sem.run,Question.forced,decide_eq_true_eq,Z,if_false,Question.cut]
    rfl⟩
 obtain⟨j,q,la,lb,lh⟩:=lg
 refine⟨j,L[j],q,by simp[la],lb,?_⟩
 have li:q.heap[r]? =some (.mapIter (some R) o seen o):=by rcases lb with rfl|rfl<;>exact X
 simp only[lh,Array.getElem?_map,Array.getElem?_eq_getElem la,Option.map_some,Sem.run_bind,setObj,Sem.run,Result.andThen,li]
 rfl
theorem Re{lf:Nat}(ln:cx.n=lf){aa:Oper}{l:List Oper}{x:Operand}{d b:Nat}{k v:ag}{left last:List (k.el×v.el)}(lo:aa.op=.next x false)(ai:aa.dst=some d)(lp:Nat.blt d lf=true)(lq:aa.guard=none)
  (lr:aS st x=some (.iter b))(ls:look st.ad b=some (.cu k v left last))(X:left≠[])
  (h:∀j p,left[j]? =some p->bU cx ops Q l ((st.dd b (.cu k v (left.eraseIdx j) [p])).put d (.dI [⟨.bool,true⟩,⟨k,p.1⟩,⟨v,p.2⟩]))):bU cx ops Q (aa::l) st:=by
 rintro T w ⟨m,U⟩
 have Y:=bc ls
 obtain⟨g,ae,_,lt⟩:=U.box Y
 have ae:m b=.pointer (some ⟨g,0,none⟩):=ae
 have lu:Act.eval ⟨T,ah.D cx⟩ x=.pointer (some ⟨g,0,none⟩):=by have:Act.eval ⟨T,ah.D cx⟩ x=m b:=bf U lr;rw[this,ae]
 rcases lt with ⟨_,Z,_⟩|⟨W,es,la,seen,Z,lb,lg,lh,li,lc,_⟩
 ·exact absurd Z X
 have lv:es.toList.filter (fun e=>!seen.contains e.born)≠[]:=fun ld=>X (List.eq_nil_of_length_eq_zero (by rw[<-uc lc,ld];rfl))
 obtain⟨j,e,q,le,a2,a3⟩:=Ve (P:=cx.P) aa.type Z lb lh lv
 obtain⟨p,ar,lj,lk⟩:=Le lc le
 have lw:=gx Z
 have o:Same w q/\q.heap=w.heap:=by
  rcases a2 with rfl|rfl
  ·exact⟨⟨rfl,rfl,rfl,Nat.le_refl _,fun _=>Nat.le_refl _⟩,rfl⟩
  ·exact⟨⟨rfl,rfl,rfl,Nat.le_refl _,fun _=>Nat.le_succ _⟩,rfl⟩
 have ll:Touch m w b {q with heap:=q.heap.setIfInBounds g (.mapIter (some W) la (seen.push e.born) la)}:=
  ⟨⟨o.1.os,o.1.tape,o.1.output,by rw[Array.size_setIfInBounds];exact o.1.size,o.1.drawn⟩,fun k _ X=>by
   show(q.heap.setIfInBounds g _)[k]? =_
   rw[Array.getElem?_setIfInBounds_ne,o.2]
   intro e
   exact X (by rw[ae,e];rfl)⟩
 have lm:b∈st.ids:=List.mem_append.2 (.inl (List.mem_map.2 ⟨_,Y,rfl⟩))
 obtain⟨R,O⟩:=an.ia (cx:=cx) lm ll (ids:=(st.dd b (.cu k v (left.eraseIdx j) [p])).ids) (ko Y U.keys _).1
 have lx:W≠g:=fun e=>lg (.inr ⟨b,lm,by rw[ae,e];rfl⟩)
 have ly:=U.dd Y ll (g:=g) (c:=.cu k v (left.eraseIdx j) [p]) ae (by
  refine .inr ⟨W,es,la,seen.push e.born,?_,?_,fun ld=>lg (O W (gx lb) ld),lh,li,?_,.inr ⟨e,p,rfl,?_,by simp,?_,?_⟩⟩
  ·show(q.heap.setIfInBounds g _)[g]? =_
   rw[Array.getElem?_setIfInBounds_self_of_lt (by rw[o.2];exact lw)]
  ·show(q.heap.setIfInBounds g _)[W]? =_
   rw[Array.getElem?_setIfInBounds_ne (Ne.symm lx),o.2]
   exact lb
  ·have lz:es.toList.filter (fun x=>!(seen.push e.born).contains x.born)=(es.toList.filter (fun x=>!seen.contains x.born)).eraseIdx j:=by
    have lA:((es.toList.filter (fun x=>!seen.contains x.born)).map (·.born)).Nodup:=li.sublist (List.Sublist.map _ List.filter_sublist)
    rw[<-Na _ j e lA le,List.filter_filter]
    congr 1
    funext x
    rw[Array.contains_push,Bool.not_or,Bool.and_comm]
   rw[lz]
   exact ic (fun _ _ h=>dt R O h) (fun _ _ h=>dt R O h) (Hz j lc)
  ·exact(List.mem_filter.1 (List.mem_of_getElem? le)).1
  ·exact dt R O lj
  ·exact dt R O lk)
 have lB:=ly.put (d:=d) (by rw[ln];exact cR lp) (v:=.tuple #[.bool true,e.key,e.val]) (s:=.dI [⟨.bool,true⟩,⟨k,p.1⟩,⟨v,p.2⟩])
  ⟨[.bool true,e.key,e.val],rfl,dF.2 rfl,dt R O lj,dt R O lk,trivial⟩
 have lC:=h j p ar _ _ ⟨m,lB⟩
 refine wpList_step fun K lD=>?_
 have lE:eF ops st aa=some true:=by unfold eF;rw[lq]
 rw[iC ⟨m,U⟩ lE]
 simp only[if_true]
 refine gT (cn (s:=Instr.next (.pointer (some ⟨g,0,none⟩)) false aa.type) (by simp only[execOp,lo,lu]) a3) ?_
 refine lD _ _ ?_
 rw[ai]
 exact lC
end Go.Ev
namespace Go.Ev
open Go Go.RowKit
variable [b8]
inductive jv:List Prop->Prop
 |n:jv []
 |c {p:Prop} {l:List Prop} (h:p) (t:jv l):jv (p::l)
theorem jv.all{l:List Prop}(h:jv l):bP l:=by
 induction h with
 |n=>trivial
 |c h _ o=>exact⟨h,o⟩
def cV{α:Type}(l:List (Nat×α)):List Nat:=l.map (·.1)
def qg(r:Option (af×List al×List Prop)):af:=match r with
 |some (s,_)=>s
 |none=>⟨[],[],[]⟩
theorem up{r:Option (af×List al×List Prop)}{ob:List Prop}(h:r.map Prod.snd=some ([],ob)):r=some (qg r,[],ob):=by
 match r,h with
 |some (s,aa,p),h=>cases h;rfl
def Fz(r:Option af):af:=r.getD ⟨[],[],[]⟩
theorem IU{r:Option af}(h:r.isSome=true):r=some (Fz r):=by
 match r,h with
 |some s,_=>rfl
def fJ(st:af)(d:Nat)(b:Bool):af:={st with ab:=st.ab.map fun p=>bif Nat.beq p.1 d then(p.1,.val .bool b)else p}
variable {cx:bI} {st st':af} {Q:cZ} {E:Env} {ops:Array Oper} {l:List Oper} {K:World->Act->Prop}
variable [ah cx]
theorem bx(q:bE E cx)(o bs au:List Nat){orc:List al}{ob:List Prop}(O:(mH E ops l st orc o bs au).map Prod.snd=some ([],ob))(R:jv ob)(h:N cx Q .normal (qg (mH E ops l st orc o bs au))):bU cx ops Q l st:=
 II q o bs au (up O) R.all h
theorem bN(o:bE E cx){orc:List al}{ob:List Prop}(q:mH E ops l st orc (cV st'.ab) (cV st'.ad) (cV st'.rw)=some (st',[],ob))(O:jv ob)(h:N cx Q .normal st'):bU cx ops Q l st:=
 II o _ _ _ q O.all h
theorem fm(q:bE E cx)(n:Nat)(o bs au:List Nat){orc:List al}{ob:List Prop}(O:(mH E ops (l.take n) st orc o bs au).map Prod.snd=some ([],ob))(R:jv ob)(h:bU cx ops Q (l.drop n) (qg (mH E ops (l.take n) st orc o bs au))):bU cx ops Q l st:=
 Tw q n o bs au (up O) R.all h
theorem Bq(q:bE E cx)(o bs au:List Nat){orc:List al}{ob:List Prop}(O:(iJ E ops l st orc o bs au).map Prod.snd=some ([],ob))(R:jv ob)(h:N cx Q .normal (qg (iJ E ops l st orc o bs au))):kC cx ops Q l st:=
 Xg q o bs au (up O) R.all h
theorem wH(q:bE E cx)(n:Nat)(o bs au:List Nat){orc:List al}{ob:List Prop}(O:(iJ E ops (l.take n) st orc o bs au).map Prod.snd=some ([],ob))(R:jv ob)(h:kC cx ops Q (l.drop n) (qg (iJ E ops (l.take n) st orc o bs au))):kC cx ops Q l st:=
 SF q n o bs au (up O) R.all h
theorem kN(o:bE E cx){orc:List al}{ob:List Prop}(q:iJ E ops l st orc (cV st'.ab) (cV st'.ad) (cV st'.rw)=some (st',[],ob))(O:jv ob)(h:mq cx K st'):fO cx ops K l st:=
 WK o _ _ _ q O.all h
theorem Wy(q:bE E cx)(n:Nat)(o bs au:List Nat){orc:List al}{ob:List Prop}(O:(iJ E ops (l.take n) st orc o bs au).map Prod.snd=some ([],ob))(R:jv ob)(h:fO cx ops K (l.drop n) (qg (iJ E ops (l.take n) st orc o bs au))):fO cx ops K l st:=
 Rk q n o bs au (up O) R.all h
theorem iW(d:Nat){b:Bool}(o:fJ st d b=st)(q:b=true->bU cx ops Q l (fJ st d true))(O:b=false->bU cx ops Q l (fJ st d false)):bU cx ops Q l st:=by
 rw[<-o]
 exact Nw (fJ st d) q O
theorem vn(d:Nat){b:Bool}(o:fJ st d b=st)(q:b=true->fO cx ops K l (fJ st d true))(O:b=false->fO cx ops K l (fJ st d false)):fO cx ops K l st:=by
 rw[<-o]
 exact QO (fJ st d) q O
theorem DI(O:bE E cx){α β:Type}{F:cY α β}{f:Nat}(R:dc E.P E.G f F)(x:α)(y:β)(U:F.rel x y){aa:Oper}{ρ ρ':List (Nat×Nat)}{n:Nat}(W:F.n=n)(o bs q:List Nat)
  (X:eF ops st aa=some true)(Y:oO E st aa n f ρ=some (F.S x))(Z:(y7 st (F.bq x y) aa n E.n ρ ρ' (F.au x y) o bs q).isSome=true)(h:bU cx ops Q l (Fz (y7 st (F.bq x y) aa n E.n ρ ρ' (F.au x y) o bs q))):bU cx ops Q (aa::l) st:=
 Di O R x y U W o bs q X Y (IU Z) h
theorem jH{e:Exit}(o:st.norm (cV st'.ab) (cV st'.ad) (cV st'.rw)=some st')(h:N cx Q e st'):N cx Q e st:=h.norm o
theorem LG{e:Exit}(o bs au:List Nat)(ρ:List (Nat×Nat))(q:((st.norm o bs au).bind (·.ch ρ))=some st')(h:N cx Q e st'):N cx Q e st:=by
 obtain⟨s,O,R⟩:=Option.bind_eq_some_iff.1 q
 exact(N.ch ρ R h).norm O
theorem gr{e:Exit}(o bs au:List Nat)(ρ:List (Nat×Nat))(q:((st.norm o bs au).bind (·.ch ρ)).isSome=true)(h:N cx Q e (Fz ((st.norm o bs au).bind (·.ch ρ)))):N cx Q e st:=LG o bs au ρ (IU q) h
end Go.Ev
namespace Go.Ev
open Go Go.RowKit
variable [b8]
variable {cx:bI} {m:Nat->Value} {st st':af} {T:Array Value} {w w':World} {E:Env} {Q:cZ} {ops:Array Oper} {l:List Oper}
variable [ah cx]
structure yw(P:Program)(G:World->Prop)(f e:Nat)(t:ag)(rel:List t.el->List t.el->Prop):Prop where
 enters:∀args w,(callFunc f args).run P w=.ok (.enter f args) w
 calls:∀(w:World) (M:Nat->Prop) (v:Value) (xs o:List t.el) (cells:List Value),G w->rel xs o->w.ownsRow 0 e t.cells v xs.length cells->bL (aJ w M t) cells xs->
  Calls P f #[v] w fun x w'=>∃u q,x=.returned u/\Same w w'/\(∀b,b<w.heap.size->aY v≠some b->w'.heap[b]? =w.heap[b]?)/\w'.ownsRow 0 e t.cells v o.length q/\bL (aJ w M t) q o
def E0(st:af)(aa:Oper)(f:Nat):Option Nat:=
 match aa.op with
 |.call c=>match c.callee,c.args.toList with
  |.value x,[a]=>match aS st x,aS st a with
   |some (.clos o []),some (.row r)=>bif Nat.beq o f then some r else none
   |_,_=>none
  |_,_=>none
 |_=>none
def JU(P:Program)(n:Nat)(st:af)(aa:Oper):Option (Nat×al):=
 match aa.dst,aa.op with
 |some d,.binOp .eql t x (.const (.slice none 0 0)) _=>match aS st x,P.underlying t,Nat.blt d n with
  |some (.val (.ab u) xs),some (.slice _),true=>some (d,⟨.ab u,xs⟩)
  |_,_,_=>none
 |_,_=>none
theorem zq(O:bE E cx){aa:Oper}{d:Nat}{u:ag}{xs:List u.el}(W:eF ops st aa=some true)(aM:JU E.P E.n st aa=some (d,⟨.ab u,xs⟩))
  (h:∀b:Bool,(b=true->xs=[])->bU cx ops Q l (st.put d (.val .bool b))):bU cx ops Q (aa::l) st:=by
 rintro T w ⟨m,o⟩
 refine wpList_step fun K X=>?_
 rw[iC ⟨m,o⟩ W]
 simp only[if_true]
 unfold JU at aM
 split at aM
 case h_2=>cases aM
 rename_i d' t x t2 ai Y
 split at aM
 case h_2=>cases aM
 rename_i lg lh e Z R q
 cases aM
 have la:=(bA (t:=.ab u) rfl).1 (bf o Z)
 obtain⟨a,cap,cells,U,li,lj,lb,_⟩:=la
 simp only[List.cons.injEq,and_true]at U
 rw[<-O.P]at R
 have lc:(execOp (Act.eval ⟨T,ah.D cx⟩) aa).run cx.P w=.ok (.value (.bool a.isNone)) w:=by
  refine cn (s:=do eqGuard .eql t x (.const (.slice none 0 0)) (Act.eval ⟨T,ah.D cx⟩ x) (.slice none 0 0);binOp .eql t (Act.eval ⟨T,ah.D cx⟩ x) (.slice none 0 0)) (by simp only[execOp,Y];rfl) ?_
  rw[U,Sem.run_bind]
  have ld:(eqGuard .eql t x (.const (.slice none 0 0)) (.slice a xs.length cap) (.slice none 0 0)).run cx.P w=.ok () w:=rfl
  rw[ld]
  exact Lib.run_eql_slice_nil w t e a _ cap 0 0 R
 refine gT lc ?_
 rw[ai]
 have q:d<cx.n:=by rw[O.n];exact cR q
 refine X _ _ (h a.isNone (fun le=>?_) _ _ ⟨m,o.put q (s:=.val .bool a.isNone) (dF.2 rfl)⟩)
 have lf:a=none:=by simpa using le
 have:=lb lf
 exact List.length_eq_zero_iff.1 (by omega)
end Go.Ev
namespace Go.Ev
open Go Go.RowKit
variable [b8]
variable {cx:bI} {m:Nat->Value} {st st':af} {T:Array Value} {w w':World} {E:Env} {Q:cZ} {ops:Array Oper} {l:List Oper}
variable [ah cx]
def xd(n:Nat)(st:af)(aa:Oper):Option (Nat×Nat):=
 match aa.op,aa.dst,aa.guard with
 |.next x false,some d,none=>match aS st x,Nat.blt d n with
  |some (.iter b),true=>some (d,b)
  |_,_=>none
 |_,_,_=>none
theorem H7{n:Nat}{aa:Oper}{d b:Nat}(h:xd n st aa=some (d,b)):∃x,aa.op=.next x false/\aa.dst=some d/\aa.guard=none/\aS st x=some (.iter b)/\Nat.blt d n=true:=by
 unfold xd at h
 split at h
 case h_2=>cases h
 rename_i x d' o ai q
 split at h
 case h_2=>cases h
 rename_i U O R
 cases h
 exact⟨x,o,ai,q,O,R⟩
theorem zK(q:bE E cx){aa:Oper}{d b:Nat}{k v:ag}{left last:List (k.el×v.el)}(aM:xd E.n st aa=some (d,b))(O:look st.ad b=some (.cu k v left last))(R:left=[])
  (U:(st.put d (.dI [⟨.bool,false⟩])).norm (cV st'.ab) (cV st'.ad) (cV st'.rw)=some st')(h:bU cx ops Q l st'):bU cx ops Q (aa::l) st:=by
 obtain⟨x,W,ai,X,Y,Z⟩:=H7 aM
 rintro T w ⟨m,o⟩
 obtain⟨u,w',aI,la,lb,lc⟩:=M1 (T:=T) o W Y O R (orc:=[]) (ob:=[])
 refine wpList_step fun K ld=>?_
 have le:eF ops st aa=some true:=by unfold eF;rw[X]
 rw[iC ⟨m,o⟩ le]
 simp only[if_true]
 refine gT la ?_
 refine ld _ _ ?_
 rw[ai]
 exact h _ _ ⟨aI,(lb.put (by rw[q.n];exact cR Z) lc).norm U⟩
theorem vR(O:bE E cx){aa:Oper}{d b:Nat}{k v:ag}{left last:List (k.el×v.el)}{p:k.el×v.el}(aM:xd E.n st aa=some (d,b))(R:look st.ad b=some (.cu k v left last))(q:left=[p])
  (U:((st.dd b (.cu k v [] [p])).put d (.dI [⟨.bool,true⟩,⟨k,p.1⟩,⟨v,p.2⟩])).norm (cV st'.ab) (cV st'.ad) (cV st'.rw)=some st')(h:bU cx ops Q l st'):bU cx ops Q (aa::l) st:=by
 obtain⟨x,W,ai,X,Y,Z⟩:=H7 aM
 refine Re O.n W ai Z X Y R (by rw[q];simp) fun j lb o=>?_
 rw[q]at o⊢
 match j,o with
 |0,o=>
  simp at o
  subst o
  rintro T w ⟨m,la⟩
  exact h T w ⟨m,la.norm U⟩
end Go.Ev
namespace Go.Ev
open Go Go.RowKit
variable [b8]
variable {cx:bI} {m:Nat->Value} {st st':af} {T:Array Value} {w:World} {E:Env} {Q:cZ} {ops:Array Oper} {l:List Oper}
variable [ah cx]
def BZ(st:af)(aa:Oper)(n r:Nat)(c:cG):Option af:=
 match aa.dst with
 |none=>some (st.setRow r c)
 |some d=>match Nat.blt d n with
  |true=>some ((st.setRow r c).put d .any)
  |false=>none
theorem Ox(X:bE E cx){f e:Nat}{t:ag}{rel:List t.el->List t.el->Prop}(le:yw E.P E.G f e t rel)(xs R:List t.el)(lf:rel xs R){aa:Oper}(r:Nat)
  (lg:eF ops st aa=some true)(o:E0 st aa f=some r)(lh:look st.rw r=some ⟨e,t,xs⟩)(O:BZ st aa E.n r ⟨e,t,R⟩=some st')(h:bU cx ops Q l st'):bU cx ops Q (aa::l) st:=by
 rintro T w ⟨m,q⟩
 refine wpList_step fun K la=>?_
 rw[iC ⟨m,q⟩ lg]
 simp only[if_true]
 unfold E0 at o
 split at o
 case h_2=>cases o
 rename_i c li
 split at o
 case h_2=>cases o
 rename_i lj a lk ll
 split at o
 case h_2=>cases o
 rename_i lb lD lm ln
 cases U:Nat.beq lb f with
 |false=>rw[U]at o;cases o
 |true=>
 rw[U]at o
 cases o
 have lo:=Nat.eq_of_beq_eq_true U
 subst lo
 have lp:Act.eval ⟨T,ah.D cx⟩ lj=.func (.func lb) #[] (([]:List Nat).map m).toArray:=bf q lm
 have lq:Act.eval ⟨T,ah.D cx⟩ a=m r:=bf q ln
 have W:=bc lh
 obtain⟨cells,lr,lE,ls⟩:=q.rows r _ W
 have Y:=le
 rw[<-X.P]at Y
 have lt:=Y.calls w (av cx m st.ids) (m r) xs R cells (X.rm w q.frame) lf lr ls
 unfold Oper.wp
 rw[vq li lk lp Y.enters w,ll]
 simp only[List.map_cons,List.map_nil,List.append_nil,lq]
 refine lt.mono ?_
 rintro x w' ⟨u,lF,rfl,lu,lv,lw,lx⟩
 show K (Act.put ⟨T,ah.D cx⟩ aa.dst u) w'
 have ly:r∈st.ids:=List.mem_append.2 (.inr (List.mem_map.2 ⟨_,W,rfl⟩))
 have lc:Touch m w r w':=⟨lu,fun b U lz=>lv b U fun e=>lz (gQ e)⟩
 obtain⟨lA,_⟩:=ou W q.keys ⟨e,t,R⟩
 obtain⟨lB,lC⟩:=an.ia (cx:=cx) ly lc lA
 have ld:an cx m (st.setRow r ⟨e,t,R⟩) T w':=q.setRow W lc lw (dy (fun _ _=>cI lB lC t) lx)
 unfold BZ at O
 split at O
 ·rename_i ai
  rw[ai]
  cases O
  exact la _ _ (h _ _ ⟨m,ld⟩)
 ·rename_i d ai
  split at O
  ·rename_i Z
   rw[ai]
   have Z:d<cx.n:=by rw[X.n];exact cR Z
   cases O
   exact la _ _ (h _ _ ⟨m,ld.put Z (s:=.any) trivial⟩)
  ·cases O
def ghost(P:Program)(st:af)(aa:Oper)(i j:Nat):Option af:=
 match aa.op with
 |.call c=>match c.argTypes.toList[i]? with
  |some t=>match dY P t with
   |some (e,_)=>match oz P e,jx j st.ids with
    |some k,false=>some (st.dL [j] [(j,.bu e k [] none)] [] (ao.dK [j]))
    |_,_=>none
   |none=>none
  |none=>none
 |_=>none
def pL:Value:=.tuple #[.slice none 0 0]
theorem PO(h:an cx m st T w){P:Program}{aa:Oper}{i j:Nat}(q:ghost P st aa i j=some st'):an cx (bG m j pL) st' T w:=by
 unfold ghost at q
 split at q
 case h_2=>cases q
 split at q
 case h_2=>cases q
 split at q
 case h_2=>cases q
 split at q
 case h_2=>cases q
 rename_i e _ _ _ _ k la lb
 cases q
 have X:iy cx m (bG m j pL) st w w [j] [(j,.bu e k [] none)] []:={
  same:=⟨rfl,rfl,rfl,Nat.le_refl _,fun _=>Nat.le_refl _⟩
  block:=fun _ _ _=>rfl
  old:=fun b _ o=>cX _ _ fun e=>o (by simp[e])
  new:=fun b o g q=>by
   have:b=j:=by simpa using o
   subst this
   rw[b7]at q
   obtain⟨u,U,W⟩:=q
   have:u=.slice none 0 0:=by simpa[pL]using U
   subst this
   cases W
  apart:=fun a b Y o lc=>by
   have:a=j:=by simpa using Y
   have:b=j:=by simpa using o
   omega
  keys:=by simp
  nj:=fun b o _=>by
   have:b=j:=by simpa using o
   simp[this]
  nu:=fun b c o R=>by simp at o;rw[o.2]at R;cases R
  gd:=fun r c O=>by cases O}
 refine h.dL X (fun M v s Z=>nZ (fun b o=>cX _ _ fun e=>o (by simp[e])) Z) (fun b c o=>?_) (fun r c O=>by cases O)
 simp only[List.mem_cons,Prod.mk.injEq,List.not_mem_nil,or_false]at o
 obtain⟨rfl,rfl⟩:=o
 rw[b7]
 exact⟨0,⟨_,[],rfl⟩,.slice none 0 0,[],[],rfl,World.ownsRow_nil w 0 e k.u.cells,⟨rfl,rfl⟩,(show([]:List Nat).Nodup from List.nodup_nil)⟩
def yT(P:Program)(st:af)(i j:Nat):Nat->List TypeId->List Operand->Option (List ao)
 |_,[],[]=>some []
 |n,t::o,x::xs=>match(match Nat.beq n i,x with
   |true,.const (.slice none 0 0)=>some (ao.osl j)
   |_,_=>ze P st t x),yT P st i j (n+1) o xs with
  |some v,some vs=>some (v::vs)
  |_,_=>none
 |_,_,_=>none
theorem Kd(h:an cx m st T w){i j:Nat}(R:m j=pL):∀{n:Nat} {U:List TypeId} {xs:List Operand} {q:List ao},yT cx.P st i j n U xs=some q->ct w (av cx m st.ids) m (xs.map (Act.eval ⟨T,ah.D cx⟩)) q
 |_,[],[],_,o=>by cases o;trivial
 |_,[],_::_,_,o=>by cases o
 |_,_::_,[],_,o=>by cases o
 |n,t::U,x::xs,q,o=>by
  unfold yT at o
  split at o
  ·rename_i v X O W
   cases o
   refine⟨?_,Kd h R W⟩
   split at O
   ·cases O
    exact⟨[],R⟩
   ·exact KX h O
  ·cases o
def Ez(E:Env)(st:af)(aa:Oper)(n f:Nat)(ρ:List (Nat×Nat))(i j:Nat):Option af:=
 match aa.op with
 |.call c=>match c.callee with
  |.value x=>match aS st x with
   |some (.clos o bs)=>match Nat.beq o f,tL st bs,yT E.P st i j 0 c.argTypes.toList c.args.toList with
    |true,true,some q=>ke st n ρ (q++bs.map fun b=>ao.ptr b 0)
    |_,_,_=>none
   |_=>none
  |_=>none
 |_=>none
theorem RN(R:bE E cx){α β:Type}{F:cY α β}{f:Nat}(lg:dc E.P E.G f F)(x:α)(y:β)(lh:F.rel x y){aa:Oper}{ρ ρ':List (Nat×Nat)}{n i j:Nat}{X:af}(li:F.n=n)(lj:ghost E.P X aa i j=some st)
  (lk:eF ops X aa=some true)(o:Ez E st aa n f ρ i j=some (F.S x))(q:jP st (F.bq x y) aa n E.n ρ ρ' (F.au x y)=some st')(h:bU cx ops Q l st'):bU cx ops Q (aa::l) X:=by
 subst li
 rintro T w ⟨m0,la⟩
 refine wpList_step fun K lb=>?_
 rw[iC ⟨m0,la⟩ lk]
 simp only[if_true]
 have O:=PO la lj
 have lc:bG m0 j pL j=pL:=b7 _ _ _
 generalize bG m0 j pL=m at O lc
 have Y:=lg
 rw[<-R.P]at Y
 have ll:∀(U:List ao) (vs:List Value),ke st F.n ρ U=some (F.S x)->ct w (av cx m st.ids) m vs U->(execOp (Act.eval ⟨T,ah.D cx⟩) aa).run cx.P w=.ok (.enter f vs.toArray) w->aa.wp cx.P ⟨T,ah.D cx⟩ w K Q:=by
  intro U vs o ld lm
  have ln:=JM O o ld
  obtain⟨aC,aA⟩:=Lj o
  have lo:=mv ld
  have lp:(F.S x).ab.length=U.length:=K8 o
  have lq:=Y.calls (sub cx m st w F.n ρ) rfl rfl (fun w' W=>R.rm w' (LX O W)) x y lh _ w (by rw[lp];exact lo) ⟨_,ln⟩
  unfold Oper.wp
  rw[lm]
  refine lq.mono ?_
  rintro e w' ⟨v,aI,lC,rfl,lr,ls⟩
  unfold jP at q
  split at q
  case h_2=>cases q
  rename_i lD s le lt
  rw[<-R.n]at le
  obtain⟨m2,lf,lu⟩:=Nc O aC aA lr le
  show K (Act.put ⟨T,ah.D cx⟩ aa.dst v) w'
  split at q
  ·rename_i ai
   rw[ai]
   cases q
   exact lb _ _ (h _ _ ⟨m2,lf⟩)
  ·rename_i d ai
   split at q
   ·rename_i Z
    rw[ai]
    have Z:d<cx.n:=by rw[R.n];exact cR Z
    cases q
    exact lb _ _ (h _ _ ⟨m2,lf.put Z (lu v s (Nd lt ls))⟩)
   ·cases q
 unfold Ez at o
 split at o
 case h_2=>cases o
 rename_i c lv
 split at o
 case h_2=>cases o
 rename_i lw lx
 split at o
 case h_2=>cases o
 rename_i ly cP lz
 split at o
 case h_2=>cases o
 rename_i U W lA has
 have W:=Nat.eq_of_beq_eq_true W
 subst W
 rw[<-R.P]at has
 have lB:Act.eval ⟨T,ah.D cx⟩ lw=.func (.func ly) #[] (cP.map m).toArray:=bf O lz
 exact ll _ _ o (mu (Kd O lc has) (w7 O lA)) (vq lv lx lB Y.enters w)
end Go.Ev
namespace Go.Ev
open Go Go.RowKit
variable [b8]
section
variable {P:Program}
def Calm{α:Type}(P:Program)(s:Sem α):Prop:=∀w x o,s.run P w=.ok x o->o=w/\∀w',s.run P w'=.ok x w'
theorem Calm.pure{α:Type}(x:α):Calm P (Pure.pure x:Sem α):=fun w y o h=>by cases h;exact⟨rfl,fun _=>rfl⟩
theorem Calm.bind{α β:Type}{s:Sem α}{f:α->Sem β}(O:Calm P s)(R:∀x,Calm P (f x)):Calm P (s>>=f):=fun w y U h=>by
 rw[Sem.run_bind]at h
 cases o:s.run P w with
 |halt e q=>rw[o]at h;cases h
 |ok x q=>
  rw[o]at h
  obtain⟨rfl,W⟩:=O w x q o
  obtain⟨rfl,X⟩:=R x _ y U h
  exact⟨rfl,fun w'=>by rw[Sem.run_bind,W w'];exact X w'⟩
theorem Calm.stuck{α:Type}(s:String):Calm P (stuck s:Sem α):=fun w y o h=>by cases h
theorem Calm.Gl{α:Type}(s:Unsupported):Calm P (unsupported s:Sem α):=fun w y o h=>by cases h
theorem Calm.program:Calm P program:=fun w y o h=>by cases h;exact⟨rfl,fun _=>rfl⟩
theorem Calm.never{α:Type}{s:Sem α}(h:∀w x o,s.run P w≠.ok x o):Calm P s:=fun w x o e=>absurd e (h w x o)
theorem oM{α β:Type}{s:Sem α}{f:α->Sem β}(O:∀x w y o,(f x).run P w≠.ok y o):∀w y o,(s>>=f).run P w≠.ok y o:=fun w y o h=>by
 rw[Sem.run_bind]at h
 cases q:s.run P w with
 |halt e R=>rw[q]at h;cases h
 |ok x R=>rw[q]at h;exact O _ _ _ _ h
theorem jo{α:Type}(e:RuntimeError):∀w (x:α) o,(runtimePanic e:Sem α).run P w≠.ok x o:=by
 unfold runtimePanic
 refine oM fun p=>?_
 cases e<;>simp only
 case typeAssertion=>exact oM fun _=>oM fun _ w x o h=>by cases h
 case panicNil=>exact oM fun _=>oM fun _ w x o h=>by cases h
 all_goals exact fun w x o h=>by cases h
theorem Calm.panic{α:Type}(e:RuntimeError):Calm P (runtimePanic e:Sem α):=.never (jo e)
theorem Calm.bounds{α:Type}(k:IntKind)(x y:Int)(c:BoundsCode):Calm P (boundsPanic k x y c:Sem α):=.never (by
 unfold boundsPanic
 dsimp only
 split
 ·exact oM fun _=>jo _
 ·exact oM fun _=>jo _)
theorem Calm.underlying(t:TypeId):Calm P (underlying t):=Calm.program.bind fun p=>by
 split
 ·exact .pure _
 ·exact .stuck _
theorem Calm.typeInfo(t:TypeId):Calm P (typeInfo t):=Calm.program.bind fun p=>by
 split
 ·exact .pure _
 ·exact .stuck _
theorem Calm.sizeOf(t:TypeId):Calm P (sizeOf t):=by
 unfold Go.sizeOf
 first
 |exact Calm.bind (.typeInfo t) fun _=>.pure _
 |exact Calm.bind .program fun _=>.pure _
theorem Calm.asBool(v:Value):Calm P (asBool v):=by
 unfold Go.asBool
 split
 ·exact .pure _
 ·exact .stuck _
theorem Calm.asIntOf(v:Value):Calm P (asIntOf v):=by
 unfold Go.asIntOf
 split
 ·exact .pure _
 ·exact .Gl _
 ·exact .stuck _
theorem Calm.sureAddr(v:Value):Calm P (Instr.sureAddr v):=by
 unfold Instr.sureAddr
 split
 ·exact .pure _
 ·exact .stuck _
theorem Calm.indexAt(t:TypeId)(x i:Value):Calm P (Instr.indexAt t x i):=by
 unfold Instr.indexAt
 refine Calm.bind (.asIntOf i) fun p=>?_
 refine Calm.bind (.underlying t) fun d=>?_
 have key:∀R:Option Addr×Nat×TypeId,Calm P (match R with
   |(base,len,o)=>do
    let q<-Go.underlying t
    have O:Bool:=decide (len<=1)&&match q with
      |TypeDesc.array len o=>true
      |x=>false
    match base with
     |some a=>
      if 0<=p.snd/\p.snd<↑len then do
       let q<-Go.sizeOf o
       Pure.pure (Value.pointer (some (a.add (p.snd.toNat*q))))
      else
       if O=true then
        unsupported (Unsupported.noEntry "op/indexAddr.an index out of range at an array of length 0 or 1 (ledger 616)")
       else boundsPanic p.fst p.snd (↑len) BoundsCode.index
     |none=>boundsPanic p.fst p.snd 0 BoundsCode.index):=by
  rintro⟨base,len,o⟩
  refine Calm.bind (.underlying t) fun d2=>?_
  dsimp only
  generalize (decide (len<=1)&&match d2 with
      |TypeDesc.array len o=>true
      |x=>false)=O
  cases base with
  |some a=>
   dsimp only
   split
   ·exact Calm.bind (.sizeOf _) fun _=>.pure _
   ·split
    ·exact .Gl _
    ·exact .bounds _ _ _ _
  |none=>exact .bounds _ _ _ _
 dsimp only
 split
 ·exact Calm.bind (.sureAddr _) fun _=>Calm.bind (.pure _) key
 ·exact Calm.bind (.pure _) key
 ·exact Calm.bind (.stuck _) key
theorem Xr(v:Value):(∃a,v=.pointer (some a))\/∃s,Instr.sureAddr v=stuck s:=by
 unfold Instr.sureAddr
 split
 ·exact .inl ⟨_,rfl⟩
 ·exact .inr ⟨_,rfl⟩
theorem Calm.fieldAt{s:TypeId}{f off:Nat}{u:ag}(h:fieldInfo P s f=some (off,u))(v:Value):Calm P (Instr.fieldAt s v f):=by
 rcases Xr v with ⟨a,rfl⟩|⟨m,o⟩
 ·intro w x q e
  rw[nn h]at e
  cases e
  exact⟨rfl,fun w'=>nn h a w'⟩
 ·unfold Instr.fieldAt
  refine Calm.bind (.underlying s) fun d=>?_
  split
  ·split
   ·rw[o]
    exact fun w x q e=>by cases e
   ·exact .stuck _
  ·exact .stuck _
theorem Td{x y:Value}{w q:World}{k:IntKind}{n:Int}(h:(Builtin.min2 x y).run P w=.ok (.int k n) q):∃m,x=.int k m/\q=w/\∀w',(Builtin.min2 x y).run P w'=.ok (.int k n) w':=by
 unfold Builtin.min2 at h⊢
 split at h
 ·cases h
  exact⟨_,rfl,rfl,fun _=>rfl⟩
 ·split at h
  ·rw[Sem.run_bind]at h
   generalize Sem.run P (choose _) w=r at h
   cases r with
   |ok a o=>cases h
   |halt e o=>cases h
  ·cases h
  ·cases h
  ·cases h
 ·rename_i a b
  rw[Sem.run_bind]at h
  generalize Sem.run P (Op.stringOp _ a b) w=r at h
  cases r with
  |halt e o=>cases h
  |ok a o=>
   rw[Result.andThen_ok,Sem.run_bind]at h
   generalize Sem.run P (asBool a) o=r at h
   cases r with
   |halt e o=>cases h
   |ok a o=>cases h
 ·cases h
 ·cases h
 ·cases h
theorem LV:∀(rest:List Value) (x:Value) (w o:World) (k:IntKind) (n:Int),(rest.foldlM Builtin.min2 x).run P w=.ok (.int k n) o->(∃m,x=.int k m)/\o=w/\∀w',(rest.foldlM Builtin.min2 x).run P w'=.ok (.int k n) w'
 |[],x,w,o,k,n,h=>by
  rw[List.foldlM_nil]at h⊢
  cases h
  exact⟨⟨_,rfl⟩,rfl,fun _=>rfl⟩
 |y::rest,x,w,o,k,n,h=>by
  rw[List.foldlM_cons,Sem.run_bind]at h
  cases q:(Builtin.min2 x y).run P w with
  |halt e O=>rw[q]at h;cases h
  |ok z O=>
   rw[q]at h
   obtain⟨⟨m,rfl⟩,ae,R⟩:=LV rest z O o k n h
   obtain⟨aI,rfl,U,e4⟩:=Td q
   exact⟨⟨_,rfl⟩,ae.trans U,fun w'=>by rw[List.foldlM_cons,Sem.run_bind,e4 w'];exact R w'⟩
def il(aa:Oper):Bool:=match aa.op with
 |.move _=>true
 |.assign _=>true
 |.nilCheck _=>true
 |.fieldAddr _ _ _=>true
 |.indexAddr _ _ _=>true
 |.call {callee:=.builtin .min,.. }=>true
 |.binOp _ _ _ _ _=>true
 |_=>false
def TB:ao->Bool
 |.ptr _ _=>true
 |.vptr _ _=>true
 |.dU _ _ _ _=>true
 |.dW _ _=>true
 |.dT _ _ _ _=>true
 |.fq _ _ _ _ _=>true
 |_=>false
def Mc:ao->Bool
 |.val (.int _) _=>true
 |_=>false
def ul(P:Program)(aa:Oper)(s:ao):Bool:=match aa.op with
 |.nilCheck _=>TB s
 |.fieldAddr t _ f=>(fieldInfo P t f).isSome
 |.call _=>il aa&&Mc s
 |.binOp _ _ _ _ _=>false
 |_=>il aa
theorem B1{aa:Oper}(h:il aa=true){ρ:Operand->Value}{w R:World}{n:Next}(o:(execOp ρ aa).run P w=.ok n R):∃v,n=.value v:=by
 have key:∀(s:Sem Value),(do Pure.pure (Next.value (<-s)):Sem Next).run P w=.ok n R->∃v,n=.value v:=fun s h=>by
  rw[Sem.run_bind]at h
  cases o:s.run P w with
  |halt e O=>rw[o]at h;cases h
  |ok v O=>rw[o]at h;cases h;exact⟨v,rfl⟩
 unfold il at h
 split at h
 ·rename_i x q;simp only[execOp,q]at o;cases o;exact⟨_,rfl⟩
 ·rename_i x q;simp only[execOp,q]at o;cases o;exact⟨_,rfl⟩
 ·rename_i x q
  simp only[execOp,q]at o
  split at o
  ·exact absurd o (jo _ _ _ _)
  ·exact absurd o (jo _ _ _ _)
  ·exact absurd o (jo _ _ _ _)
  ·split at o
   ·exact absurd o (jo _ _ _ _)
   ·rw[Sem.run_bind]at o
    rw[run_program,Result.andThen_ok,Sem.run_bind]at o
    generalize Sem.run P (nilAhead _ _ _ _) w=U at o
    cases U with
    |halt e O=>cases o
    |ok a O=>
     rw[Result.andThen_ok]at o
     split at o
     ·rw[Sem.run_bind]at o;cases o
     ·cases o;exact⟨_,rfl⟩
   ·cases o;exact⟨_,rfl⟩
  ·cases o;exact⟨_,rfl⟩
 ·rename_i t x f q;simp only[execOp,q]at o;exact key _ o
 ·rename_i t x i q;simp only[execOp,q]at o;exact key _ o
 ·rename_i args W q
  simp only[execOp,q]at o
  exact key (Builtin.min_ _ _ _) o
 ·rename_i X t x y u q;simp only[execOp,q]at o;exact key _ o
 ·cases h
theorem W4{aa:Oper}{s:ao}(h:ul P aa s=true){ρ:Operand->Value}{w la R:World}{v:Value}{M:Nat->Prop}{m:Nat->Value}(o:(execOp ρ aa).run P w=.ok (.value v) la)(O:aT R M m v s):
  il aa=true/\∀w',(execOp ρ aa).run P w'=.ok (.value v) w':=by
 have key:∀(s:Sem Value),Calm P s->execOp ρ aa=(do Pure.pure (Next.value (<-s)))->∀w',(execOp ρ aa).run P w'=.ok (.value v) w':=fun s lb W=>by
  rw[W]at o⊢
  exact(Calm.bind lb (fun v=>Calm.pure (Next.value v)) _ _ _ o).2
 unfold ul at h
 split at h
 ·rename_i x q
  refine⟨by unfold il;rw[q],?_⟩
  have lc:∃a,v=.pointer (some a):=by
   cases s<;>first|(cases h;done)|skip
   all_goals unfold aT at O
   ·obtain⟨g,_,rfl⟩:=O;exact⟨_,rfl⟩
   ·obtain⟨g,_,rfl,_⟩:=O;exact⟨_,rfl⟩
   ·obtain⟨g,_,_,_,rfl⟩:=O;exact⟨_,rfl⟩
   ·obtain⟨g,_,rfl⟩:=O;exact⟨_,rfl⟩
   ·obtain⟨g,_,_,_,_,rfl⟩:=O;exact⟨_,rfl⟩
   ·obtain⟨_,_,g,_,_,_,_,rfl⟩:=O;exact⟨_,rfl⟩
  obtain⟨a,rfl⟩:=lc
  have e:ρ x=.pointer (some a):=by
   simp only[execOp,q]at o
   generalize ρ x=y at o
   split at o
   ·exact absurd o (jo _ _ _ _)
   ·exact absurd o (jo _ _ _ _)
   ·exact absurd o (jo _ _ _ _)
   ·split at o
    ·exact absurd o (jo _ _ _ _)
    ·rw[Sem.run_bind]at o
     rw[run_program,Result.andThen_ok,Sem.run_bind]at o
     generalize Sem.run P (nilAhead _ _ _ _) w=ld at o
     cases ld with
     |halt e R=>cases o
     |ok a R=>
      rw[Result.andThen_ok]at o
      split at o
      ·rw[Sem.run_bind]at o;cases o
      ·cases o
    ·cases o
   ·cases o;rfl
  intro w'
  simp only[execOp,q,e]
  rfl
 ·rename_i t x f q
  refine⟨by unfold il;rw[q],?_⟩
  cases Y:fieldInfo P t f with
  |none=>rw[Y]at h;cases h
  |some p=>exact key (Instr.fieldAt t (ρ x) f) (Calm.fieldAt Y _) (by simp only[execOp,q])
 ·rename_i c q
  simp only[Bool.and_eq_true]at h
  refine⟨h.1,?_⟩
  have U:=h.1
  unfold il at U
  rw[q]at U
  split at U
  all_goals first|(rename_i e;cases e;done)|skip
  ·rename_i args Z e
   cases e
   have le:∃k n,v=.int k n:=by
    have X:=h.2
    unfold Mc at X
    split at X
    ·rename_i k n
     exact⟨k,n,da.1 O⟩
    ·cases X
   obtain⟨k,n,rfl⟩:=le
   have W:execOp ρ aa=(do Pure.pure (Next.value (<-Builtin.min_ Z aa.type (args.map ρ)))):=by simp only[execOp,q];rfl
   rw[W]at o⊢
   rw[Sem.run_bind]at o
   unfold Builtin.min_ at o⊢
   split at o
   ·cases o
   ·rename_i x rest lk
    cases aM:Sem.run P (List.foldlM Builtin.min2 x rest) w with
    |halt e R=>rw[aM]at o;cases o
    |ok z R=>
     rw[aM]at o
     cases o
     intro w'
     rw[Sem.run_bind,(LV rest x _ _ _ _ aM).2.2 w']
     rfl
  ·cases U
 ·cases h
 ·rename_i lf lg lh li
  refine⟨h,?_⟩
  unfold il at h
  split at h
  ·rename_i x q;exact key (Pure.pure (ρ x)) (.pure _) (by simp only[execOp,q];rfl)
  ·rename_i x q;exact key (Pure.pure (ρ x)) (.pure _) (by simp only[execOp,q];rfl)
  ·rename_i x q;exact absurd q (lf x)
  ·rename_i t x f q;exact absurd q (lg t x f)
  ·rename_i t x i q;exact key (Instr.indexAt t (ρ x) (ρ i)) (.indexAt _ _ _) (by simp only[execOp,q])
  ·rename_i args Z q;exact absurd q (lh _)
  ·rename_i lj t x y u q;exact absurd q (li lj t x y u)
  ·cases h
end
section
variable {P:Program} {ops:Array Oper} {md:Region.Mode}
def bK(ops:Array Oper):List Nat->List Oper
 |[]=>[]
 |i::is=>match ops[i]? with
  |some aa=>aa::bK ops is
  |none=>bK ops is
def fs(md:Region.Mode)(ops:Array Oper)(K:Array Bool->Bool):List Nat->Array Bool->Bool
 |[],done=>K done
 |i::is,done=>(Region.ready md ops done).contains i&&Region.free md ops done i&&fs md ops K is (done.setIfInBounds i true)
def wv(ops:Array Oper):List Nat->Bool
 |[]=>true
 |i::is=>(match ops[i]? with
  |some aa=>il aa
  |none=>false)&&wv ops is
def fM(md:Region.Mode)(ops:Array Oper):List Nat->Array Bool->Bool
 |[],done=>(Region.ready md ops done).isEmpty
 |i::is,done=>decide (Region.ready md ops done=[i])&&fM md ops is (done.setIfInBounds i true)
def Hw(md:Region.Mode)(ops:Array Oper)(done:Array Bool):Bool:=
 (List.range ops.size).all fun j=>!done.getD j false||(match ops[j]? with
  |some aa=>aa.after.all fun e=>!Region.binds md e||done.getD e.on false
  |none=>true)
def KU(md:Region.Mode)(ops:Array Oper)(o:List Nat):List Nat:=o.filter fun i=>!(o.any fun j=>Nat.blt i j&&Region.waitsFor md ops j i)
def xe(md:Region.Mode)(ops:Array Oper)(done:Array Bool)(o:List Nat):Bool:=
 (List.range ops.size).all fun t=>done.getD t false||gM t o||(match ops[t]? with
  |some aa=>(aa.after.any fun e=>Region.binds md e&&(!gM e.on o&&!done.getD e.on true))||(KU md ops o).all fun i=>Region.waitsFor md ops t i
  |none=>true)
def mE(md:Region.Mode)(ops:Array Oper)(q o R:List Nat)(O:Array Bool->Bool):Bool:=
 Region.noSelect ops&&wv ops q&&(R.all fun i=>!gM i o)&&fs md ops (fun d=>match o.reverse with
  |[]=>O d
  |_::_=>Hw md ops d&&xe md ops d o&&fs md ops O o d) q (Array.replicate ops.size false)
def BW(md:Region.Mode)(ops:Array Oper)(o q C:List Nat):Bool:=mE md ops o q C (fM md ops C)
theorem XZ{g:Nat}{Q:Exit->Act->World->Prop}{K:Act->Prop}{Z:Array Bool->Bool}{w:World}(la:Region.noSelect ops=true)(lb:∀c a w,¬Q (.panic c) a w)(lf:∀done a,Z done=true->K a->wpAny P md ops Q g done a w):
  ∀(q:List Nat) (done:Array Bool) (a:Act),wv ops q=true->fs md ops Z q done=true->wpQuiet P ops (fun _=>True) K (bK ops q) a->wpAny P md ops Q (q.length+g) done a w:=by
 intro q
 induction q with
 |nil=>intro done a _ o h;rw[List.length_nil,Nat.zero_add];exact lf _ _ o h
 |cons i is lc=>
  intro done a O o h
  unfold wv at O
  unfold fs at o
  simp only[Bool.and_eq_true]at O o
  obtain⟨⟨ld,le⟩,o⟩:=o
  obtain⟨W,O⟩:=O
  unfold bK at h
  split at W
  ·rename_i aa R
   rw[R]at h
   rw[List.length_cons,Nat.succ_add]
   by_cases U:Region.wanted aa (yielded ops a.tmps)=true
   ·unfold wpQuiet at h
    rw[if_pos U]at h
    obtain⟨v,aM,lg⟩:=h
    refine wpAny_first R (Region.noSelect_spec la) (fun c a w X=>absurd X (lb _ _ _)) (is.length+g) done a w (Region.free_spec R le) (by simpa using ld) (v:=v) (.inl ⟨U,fun w'=>?_⟩) (lc _ _ O o lg)
    have:=aM w' trivial
    unfold Oper.quietAt at this
    cases Y:(execOp a.eval aa).run P w' with
    |halt e lh=>rw[Y]at this;exact this.elim
    |ok n lh=>
     obtain⟨u,rfl⟩:=B1 W Y
     rw[Y]at this
     obtain⟨rfl,rfl⟩:=this
     rfl
   ·unfold wpQuiet at h
    rw[if_neg U]at h
    exact wpAny_first R (Region.noSelect_spec la) (fun c a w X=>absurd X (lb _ _ _)) (is.length+g) done a w (Region.free_spec R le) (by simpa using ld) (v:=undef) (.inr ⟨by simpa using U,rfl⟩) (lc _ _ O o h)
  ·cases W
def s7(P:Program)(md:Region.Mode)(ops:Array Oper)(C:World->Prop)(o:List Nat)(L:Array Bool->Act->Prop):Nat->Array Bool->Act->Prop
 |0,done,a=>L done a
 |f+1,done,a=>Region.ready md ops done≠[]/\∀i,i∈Region.ready md ops done->i∈o/\qOp P ops C i (s7 P md ops C o L f (done.setIfInBounds i true)) a
variable {C:World->Prop}
theorem QN{B:List Nat}{g:Nat}{L:Array Bool->Act->Prop}{Q':Exit->Act->World->Prop}(q:∀done a w,C w->L done a->wpAny P md ops Q' g done a w):
  ∀(f:Nat) (done:Array Bool) (a:Act) (w:World),C w->s7 P md ops C B L f done a->wpAny P md ops Q' (f+g) done a w:=by
 intro f
 induction f with
 |zero=>intro done a w o h;rw[Nat.zero_add];exact q _ _ _ o h
 |succ f O=>
  intro done a w o h
  rw[Nat.succ_add]
  exact⟨fun R=>absurd R h.1,fun i hi=>wpOp_of_qOp o (fun U w' W h'=>O _ U w' W h') (h.2 i hi).2⟩
structure oU(md:Region.Mode)(ops:Array Oper)(q:Array Bool)(O:List Nat)(done:Array Bool):Prop where
 size:done.size=ops.size
 closed:∀j o,ops[j]? =some o->done.getD j false=true->∀e∈o.after,Region.binds md e=true->done.getD e.on false=true
 rest:∀t,t∉O->q.getD t true=false->done.getD t true=false
theorem oU.set{o done:Array Bool}{B:List Nat}{i:Nat}(inv:oU md ops o B done)(hi:i∈Region.ready md ops done)(Z:i∈B):oU md ops o B (done.setIfInBounds i true):=by
 obtain⟨_,la,lb,lc⟩:=mem_ready.1 hi
 refine⟨by simp[inv.size],fun j q O R e U W=>?_,fun t X ld=>by rw[getD_set_ne true (fun h=>X (by subst h;exact Z))];exact inv.rest t X ld⟩
 by_cases Y:i=j
 ·subst Y
  have:q=la:=Option.some.inj (O.symm.trans lb)
  subst this
  exact getD_set_true (lc e U W)
 ·rw[getD_set_ne false Y]at R
  exact getD_set_true (inv.closed j q O R e U W)
theorem gate{U done:Array Bool}{B:List Nat}(lh:xe md ops U B=true)(li:∀t,U.getD t false=true->done.getD t false=true)(inv:oU md ops U B done):
  ∀(d i:Nat),ops.size-i=d->i∈B->done.getD i true=false->∀t,t∈Region.ready md ops done->t∈B:=by
 intro d
 induction d using Nat.strongRecOn with
 |_ d lj=>
  intro i ai hi Z t la
  obtain⟨lk,ll,W,lb⟩:=mem_ready.1 la
  by_cases lc:t∈B
  ·exact lc
  by_cases ld:(B.any fun j=>Nat.blt i j&&Region.waitsFor md ops j i)=true
  ·obtain⟨j,lm,o⟩:=List.any_eq_true.1 ld
   simp only[Bool.and_eq_true]at o
   obtain⟨le,ln⟩:=o
   have le:=cR le
   obtain⟨lo,lf,e,O,X,Y⟩:=Region.waitsFor_spec ln
   have lp:j<ops.size:=(Array.getElem?_eq_some_iff.1 lf).1
   have lq:j<done.size:=by rw[inv.size];exact lp
   cases lg:done.getD j false with
   |true=>
    have o:=inv.closed j lo lf lg e O X
    rw[Y,getD_both Z]at o
    cases o
   |false=>exact lj (ops.size-j) (by omega) j rfl lm (getD_in lq lg) t la
  ·have lr:i∈KU md ops B:=List.mem_filter.2 ⟨hi,by simpa using ld⟩
   have ls:t<ops.size:=(Array.getElem?_eq_some_iff.1 W).1
   have q:=List.all_eq_true.1 lh t (List.mem_range.2 ls)
   rw[W]at q
   simp only[Bool.or_eq_true]at q
   rcases q with (q|q)|q|q
   ·have:=li t q
    rw[getD_both lk]at this
    cases this
   ·exact absurd (uB.1 q) lc
   ·obtain⟨e,O,o⟩:=Array.any_eq_true'.1 q
    simp only[Bool.and_eq_true,Bool.not_eq_true']at o
    have R:=lb e O o.1
    have lt:=inv.rest e.on (fun h=>by have:=o.2.1;rw[uB.2 h]at this;cases this) o.2.2
    rw[getD_both lt]at R
    cases R
   ·have o:=List.all_eq_true.1 q i lr
    obtain⟨lu,lv,e,O,X,Y⟩:=Region.waitsFor_spec o
    have:lu=ll:=Option.some.inj (lv.symm.trans W)
    subst this
    have R:=lb e O X
    rw[Y,getD_both Z]at R
    cases R
theorem XT{Z:Array Bool}{B:List Nat}{i:Nat}{aa:Oper}{v:Value}{L:Array Bool->Act->Prop}(hi:ops[i]? =some aa)(lc:∀(j:Nat) (aa:Oper) cs b,ops[j]? =some aa->aa.op≠.select cs b)
  (ld:xe md ops Z B=true)(le:i∈B)(lk:∀done a,L done a->∀j,j∈Region.ready md ops done->j∉B):
  ∀(f:Nat) (done:Array Bool) (a:Act),(∀t,Z.getD t false=true->done.getD t false=true)->oU md ops Z B done->
   (∀j O,ops[j]? =some O->j≠i->done.getD j true=false->(∀e∈O.after,Region.binds md e=true->e.on≠i)->aa.apart ops O=true)->
   i∈Region.ready md ops done->YieldsIn P ops C aa v a->s7 P md ops C B L f (done.setIfInBounds i true) (a.put aa.dst v)->s7 P md ops C B L (f+1) done a:=by
 intro f
 induction f with
 |zero=>
  intro done a W inv _ o X R
  have Y:=(mem_ready.1 o).1
  refine⟨fun la=>(by rw[la]at o;cases o),fun j q=>?_⟩
  have U:j∈B:=gate ld W inv _ i rfl le Y j q
  refine⟨U,?_⟩
  by_cases e:j=i
  ·subst e;exact X.qOp hi R
  ·exact absurd U (lk _ _ R j (ready_mono q e))
 |succ f ll=>
  intro done a W inv lf o X R
  have Y:=(mem_ready.1 o).1
  refine⟨fun la=>(by rw[la]at o;cases o),fun j q=>?_⟩
  have U:j∈B:=gate ld W inv _ i rfl le Y j q
  refine⟨U,?_⟩
  by_cases e:j=i
  ·subst e;exact X.qOp hi R
  obtain⟨lg,O,lb,lm⟩:=mem_ready.1 q
  have ln:=lf j O lb e lg fun d ai lo aM=>by
   have lh:=lm d ai lo
   rw[aM,getD_both Y]at lh
   cases lh
  refine qOp_mono (fun lp li=>ll (done.setIfInBounds j true) lp (fun t lq=>getD_set_true (W t lq)) (inv.set q U) (fun k ok lr ls lt lu=>lf k ok lr ls ?_ lu) (ready_mono o (Ne.symm e)) li.1 ?_)
   (qOp_put lb ln (fun cs b=>lc i aa cs b hi) (fun cs b=>lc j O cs b lb) X (R.2 j (ready_mono q e)).2)
  ·by_cases lj:j=k
   ·subst lj;exact lg
   ·rwa [getD_set_ne true lj]at lt
  ·rw[Array.setIfInBounds_comm _ _ e];exact li.2
theorem Pl{C:List Nat}{done:Array Bool}(h:fM md ops C done=true){j:Nat}(o:j∈Region.ready md ops done):j∈C:=by
 cases C with
 |nil=>simp only[fM,List.isEmpty_iff]at h;rw[h]at o;cases o
 |cons i is=>
  simp only[fM,Bool.and_eq_true,decide_eq_true_eq]at h
  rw[h.1]at o
  cases o with
  |head=>exact List.mem_cons_self
  |tail _ h=>cases h
theorem V8{O:Array Bool}{B:List Nat}{R:Array Bool->Bool}{U:Act->Prop}(la:Region.noSelect ops=true)(lb:xe md ops O B=true)(lc:∀d j,R d=true->j∈Region.ready md ops d->j∉B):
  ∀(l:List Nat) (done:Array Bool) (a:Act),(∀i∈l,i∈B)->(∀t,O.getD t false=true->done.getD t false=true)->oU md ops O B done->fs md ops R l done=true->
   wpQuiet P ops C U (bK ops l) a->s7 P md ops C B (fun d X=>R d=true/\U X) l.length done a:=by
 intro l
 induction l with
 |nil=>intro done a _ _ _ o h;exact⟨o,h⟩
 |cons i l ld=>
  intro done a Y Z inv o h
  unfold fs at o
  simp only[Bool.and_eq_true]at o
  obtain⟨⟨le,lf⟩,o⟩:=o
  have W:i∈Region.ready md ops done:=by simpa using le
  obtain⟨_,aa,q,_⟩:=mem_ready.1 W
  unfold bK at h
  rw[q]at h
  obtain⟨v,lg,lh⟩:=yieldsIn_of_qOp (K:=wpQuiet P ops C U (bK ops l)) q (by unfold qOp;rw[q];exact h)
  have hi:=Y i List.mem_cons_self
  exact XT q (Region.noSelect_spec la) lb hi (fun d X li j lj=>lc d j li.1 lj) l.length done a Z inv (Region.free_spec q lf) W lg
   (ld _ _ (fun k lk=>Y k (List.mem_cons_of_mem _ lk)) (fun t ll=>getD_set_true (Z t ll)) (inv.set W hi) o lh)
theorem uo{Q':Exit->Act->World->Prop}:∀(l:List Nat) (done:Array Bool) (a:Act) (w:World),fM md ops l done=true->wpList P ops Q' (bK ops l) a w->wpAny P md ops Q' l.length done a w
 |[],_,_,_,o,h=>⟨by simpa[fM]using o,h⟩
 |i::l,done,a,w,o,h=>by
  simp only[fM,Bool.and_eq_true,decide_eq_true_eq]at o
  have hi:i∈Region.ready md ops done:=by rw[o.1];exact List.mem_cons_self
  obtain⟨_,aa,q,_⟩:=mem_ready.1 hi
  unfold bK at h
  rw[q]at h
  refine⟨fun O=>(by rw[o.1]at O;cases O),fun k R=>?_⟩
  rw[o.1]at R
  have U:k=i:=by simpa using R
  subst U
  have W:wpOp P ops Q' k (wpList P ops Q' (bK ops l)) a w:=by unfold wpOp;simp only[q];exact h
  exact wpOp_mono (fun X w' h'=>uo l _ X w' o.2 h') W
theorem OC{done:Array Bool}(h:Hw md ops done=true):∀j O,ops[j]? =some O->done.getD j false=true->∀e∈O.after,Region.binds md e=true->done.getD e.on false=true:=by
 intro j O R ai e U W
 have o:=List.all_eq_true.1 h j (List.mem_range.2 (Array.getElem?_eq_some_iff.1 R).1)
 rw[R]at o
 simp only[Bool.or_eq_true,Bool.not_eq_true']at o
 rcases o with o|o
 ·rw[ai]at o;cases o
 ·have q:=Array.all_eq_true_iff_forall_mem.1 o e U
  simp only[Bool.or_eq_true,Bool.not_eq_true']at q
  rcases q with q|q
  ·rw[W]at q;cases q
  ·exact q
theorem Ga{q:Array Bool->Bool}{n:Nat}:∀(l:List Nat) (done:Array Bool),done.size=n->fs md ops q l done=true->fs md ops (fun d=>q d&&decide (d.size=n)) l done=true
 |[],d,O,o=>by
  show(q d&&decide (d.size=n))=true
  rw[show q d=true from o,decide_eq_true O];rfl
 |i::l,d,O,o=>by
  unfold fs at o⊢
  simp only[Bool.and_eq_true]at o⊢
  exact⟨o.1,Ga l _ (by simpa using O) o.2⟩
theorem xH{id g:Nat}{Q:Exit->Act->World->Prop}{a:Act}{w:World}{l:List Oper}(R o la:List Nat)(X:Array Bool->Bool)(W:Act->World->Prop)(lg:P.follows .mixedOrders=true)(Y:mE .any l.toArray R o la X=true)
  (lh:∀d j,X d=true->j∈Region.ready .any l.toArray d->j∈la)(li:∀e a w,Q e a w->e=.normal)(lb:∀d a w,X d=true->W a w->wpAny P .any l.toArray Q g d a w)(lj:R.length+(o.length+g)=l.length)
  (lc:C {w with drawn:=w.drawn+1})
  (h:wpQuiet P l.toArray (fun _=>True) (wpQuiet P l.toArray C (fun U=>∀w',C w'->W U w') (bK l.toArray o)) (bK l.toArray R) a):
  (Code.region id l.toArray true).wp P Q a w:=by
 unfold mE at Y
 simp only[Bool.and_eq_true]at Y
 obtain⟨⟨⟨ld,lk⟩,ll⟩,lm⟩:=Y
 have ln:∀d j,X d=true->j∈Region.ready .any l.toArray d->j∉o:=fun d j ai lo O=>by
  have:=List.all_eq_true.1 ll j (lh d j ai lo)
  rw[uB.2 O]at this
  cases this
 have lp:=Ga (n:=l.toArray.size) R _ (by simp) lm
 have ak:=XZ (g:=o.length+g) (Q:=Q) ld (fun c a w h=>Exit.noConfusion (li _ _ _ h)) (w:={w with drawn:=w.drawn+1}) (K:=wpQuiet P l.toArray C (fun U=>∀w',C w'->W U w') (bK l.toArray o)) (fun done a q le=>?_) R _ a lk lp h
 ·rw[lj]at ak
  refine wp_region_any lg ?_
  simpa using ak
 ·simp only[Bool.and_eq_true,decide_eq_true_eq]at q
  obtain⟨q,lq⟩:=q
  split at q
  ·rename_i O
   have O:o=[]:=by simpa using O
   subst O
   rw[List.length_nil,Nat.zero_add]
   exact lb done a _ q (le _ lc)
  ·rename_i s r O
   simp only[Bool.and_eq_true]at q
   obtain⟨⟨lr,ls⟩,lt⟩:=q
   have inv:oU .any l.toArray done o done:=⟨lq,OC lr,fun t _ Z=>Z⟩
   exact QN (fun d U w' lu lf=>lb d U w' lf.1 (lf.2 w' lu)) _ _ _ _ lc (V8 ld ls ln o done a (fun i hi=>hi) (fun t Z=>Z) inv lt le)
def dR(Q:Exit->Act->World->Prop):Exit->Act->World->Prop:=fun e a w=>e=.normal/\Q .normal a w
theorem RJ{id:Nat}{Q:Exit->Act->World->Prop}{a:Act}{w:World}{l:List Oper}(q O o:List Nat)(R:P.follows .mixedOrders=true)(U:BW .any l.toArray q O o=true)(W:q.length+(O.length+o.length)=l.length)
  (X:C {w with drawn:=w.drawn+1})
  (h:wpQuiet P l.toArray (fun _=>True) (wpQuiet P l.toArray C (fun Y=>∀w',C w'->wpList P l.toArray (dR Q) (bK l.toArray o) Y w') (bK l.toArray O)) (bK l.toArray q) a):
  (Code.region id l.toArray true).wp P Q a w:=
 Code.wp_mono (Q:=dR Q) (fun e a w h=>by obtain⟨rfl,h⟩:=h;exact h)
  (xH q O o (fM .any l.toArray o) _ R U (fun d j ai Z=>Pl ai Z) (fun e a w h=>h.1) (fun d a w ai la=>uo o d a w ai la) W X h)
/-! One that may come up behind others that leave what it reads. -/
def jF(P:Program)(ops:Array Oper)(Q:Exit->Act->World->Prop)(aa:Oper)(d:Nat)(q:List Nat):List Nat->Act->World->Prop
 |[],a,w=>wpList P ops Q (bK ops q) a w
 |c::O,a,w=>wpOp P ops Q c (fun o w'=>(execOp o.eval aa).run P w'=.ok (.value (o.tmps.getD d undef)) w'/\jF P ops Q aa d q O o w') a w
def mn(md:Region.Mode)(ops:Array Oper)(i:Nat)(o:List Nat):List Nat->Array Bool->Bool
 |[],done=>decide (Region.ready md ops done=[i])&&fM md ops o (done.setIfInBounds i true)
 |c::q,done=>((Region.ready md ops done).all fun j=>Nat.beq j i||Nat.beq j c)&&(Region.ready md ops done).contains i&&Region.free md ops done i&&fM md ops (c::q++o) (done.setIfInBounds i true)&&mn md ops i o q (done.setIfInBounds c true)
theorem Kp{Q:Exit->Act->World->Prop}{aa:Oper}{d:Nat}{O:List Nat}:∀(q:List Nat) (done:Array Bool) (a:Act) (w:World),fM md ops (q++O) done=true->jF P ops Q aa d O q a w->wpAny P md ops Q (q.length+O.length) done a w
 |[],done,a,w,o,h=>by rw[List.length_nil,Nat.zero_add];exact uo O done a w o h
 |c::q,done,a,w,o,h=>by
  simp only[List.cons_append,fM,Bool.and_eq_true,decide_eq_true_eq]at o
  rw[List.length_cons,Nat.succ_add]
  refine⟨fun R=>(by rw[o.1]at R;cases R),fun k U=>?_⟩
  rw[o.1]at U
  have W:k=c:=by simpa using U
  subst W
  exact wpOp_mono (fun X w' h'=>Kp q _ X w' o.2 h'.2) h
structure jL(aa:Oper)(a o:Act):Prop where
 exec:execOp o.eval aa=execOp a.eval aa
 size:o.tmps.size=a.tmps.size
theorem jL.put{o:Oper}{a:Act}{dst:Option Nat}{u:Value}(q:∀cs b,o.op≠.select cs b)(O:∀d,dst=some d->d∉o.looksAt ops):jL o a (a.put dst u):=
 ⟨execOp_put o q a dst u O,by cases dst<;>simp[Act.put]⟩
theorem jL.trans{o:Oper}{a b c:Act}(h:jL o a b)(k:jL o b c):jL o a c:=⟨k.exec.trans h.exec,k.size.trans h.size⟩
theorem Nx{Q Q':Exit->Act->World->Prop}{j:Nat}{o q:Oper}{v:Value}(ld:ops[j]? =some q)(le:o.apart ops q=true)
  (Y:∀cs b,o.op≠.select cs b)(lf:∀cs b,q.op≠.select cs b)(W:∀e a w,Q e a w->e=.normal){K:Act->World->Prop}{a:Act}{w:World}(h:wpOp P ops Q j K (a.put o.dst v) w):
  wpOp P ops Q' j (fun Z w'=>jL o a Z/\K (Z.put o.dst v) w') a w:=by
 obtain⟨la,O,lb⟩:=Oper.apart_spec le
 have R:∀u,jL o a (a.put q.dst u):=fun u=>jL.put Y lb
 have lc:¬LetsOut Q:=fun⟨a,w,h⟩=>Exit.noConfusion (W _ _ _ h)
 unfold wpOp at*
 simp only[ld]at*
 rw[wanted_put q a o.dst v la]at h
 split
 ·rename_i X
  simp only[X,if_true]at h
  rcases h with h|⟨_,lg⟩
  case inr=>exact absurd lg lc
  refine .inl ?_
  unfold Oper.wp at*
  rw[execOp_put q lf a o.dst v la]at h
  generalize (execOp a.eval q).run P w=r at*
  cases r with
  |ok n w'=>
   cases n<;>simp only[Oper.upon]at h⊢
   case value u=>exact⟨R u,by rw[<-Act.put_comm a v u O];exact h⟩
   case skip=>exact⟨R _,by rw[<-Act.put_comm a v undef O];exact h⟩
   case defer d=>
    refine⟨jL.trans (b:={a with defers:=d::a.defers}) ⟨rfl,rfl⟩ (jL.put Y lb),?_⟩
    rw[<-Act.put_comm _ v undef O,<-Act.put_defers]
    exact h
   case enter f args=>
    refine Calls.mono h fun e lh U=>?_
    cases e with
    |returned u=>exact⟨R u,by rw[<-Act.put_comm a v u O];exact U⟩
    |panicked c=>cases W _ _ _ U
    |outgrown=>exact absurd U lc
   case row row args=>exact Rows.mono h fun u lh U=>⟨R u,by rw[<-Act.put_comm a v u O];exact U⟩
  |halt x w'=>
   cases x<;>simp only[Oper.upon]at h⊢
   case panic u=>cases W _ _ _ h
 ·rename_i X
  simp only[X]at h
  exact⟨R _,by rw[<-Act.put_comm a v undef O];exact h⟩
theorem Sc{Q:Exit->Act->World->Prop}{i d:Nat}{aa:Oper}{v:Value}{R:List Nat}(hi:ops[i]? =some aa)(ai:aa.dst=some d)(li:aa.guard=none)(lj:d∉aa.looksAt ops)(lb:Region.noSelect ops=true)(lk:∀e a w,Q e a w->e=.normal):
  ∀(o:List Nat) (done:Array Bool) (a:Act) (w:World),mn md ops i R o done=true->d<a.tmps.size->(execOp a.eval aa).run P w=.ok (.value v) w->jF P ops Q aa d R o (a.put aa.dst v) w->
   wpAny P md ops Q (o.length+R.length+1) done a w:=by
 have lc:∀(done:Array Bool) (a:Act) (w:World) (o:List Nat),(execOp a.eval aa).run P w=.ok (.value v) w->fM md ops (o++R) (done.setIfInBounds i true)=true->jF P ops Q aa d R o (a.put aa.dst v) w->
   wpOp P ops Q i (wpAny P md ops Q (o.length+R.length) (done.setIfInBounds i true)) a w:=fun done a w o U q h=>by
  unfold wpOp
  simp only[hi]
  have ll:Region.wanted aa (yielded ops a.tmps)=true:=by unfold Region.wanted;rw[li]
  rw[if_pos ll]
  refine .inl ?_
  unfold Oper.wp
  rw[U]
  exact Kp o _ _ _ q h
 intro o
 induction o with
 |nil=>
  intro done a w q ld U h
  simp only[mn,Bool.and_eq_true,decide_eq_true_eq]at q
  refine⟨fun O=>(by rw[q.1]at O;cases O),fun k W=>?_⟩
  rw[q.1]at W
  have X:k=i:=by simpa using W
  subst X
  exact lc done a w [] U q.2 h
 |cons c o lm=>
  intro done a w q ld U h
  simp only[mn,Bool.and_eq_true]at q
  obtain⟨⟨⟨⟨ln,lo⟩,lp⟩,lq⟩,q⟩:=q
  have Y:i∈Region.ready md ops done:=by simpa using lo
  refine⟨fun O=>(by rw[O]at Y;cases Y),fun k W=>?_⟩
  by_cases X:k=i
  ·subst X
   exact lc done a w (c::o) U lq h
  ·have:=List.all_eq_true.1 ln k W
   rw[Bool.or_eq_true]at this
   have lr:k=c:=by
    rcases this with O|O
    ·exact absurd (Nat.eq_of_beq_eq_true O) X
    ·exact Nat.eq_of_beq_eq_true O
   subst lr
   obtain⟨ls,ok,Z,lt⟩:=mem_ready.1 W
   have lu:aa.apart ops ok=true:=Region.free_spec hi lp k ok Z X ls fun e lv lw lx=>by
    have O:=lt e lv lw
    rw[lx,getD_both (mem_ready.1 Y).1]at O
    cases O
   have le:∀cs b,aa.op≠.select cs b:=fun cs b=>Region.noSelect_spec lb i aa cs b hi
   rw[show(k::o).length+R.length=(o.length+R.length)+1 by simp only[List.length_cons];omega]
   refine wpOp_mono (fun la w' h'=>?_) (Nx (Q':=Q) Z lu le (fun cs b=>Region.noSelect_spec lb k ok cs b Z) lk h)
   obtain⟨ly,lf,lz⟩:=h'
   have lg:d<la.tmps.size:=by rw[ly.size];exact ld
   refine lm _ la w' q lg ?_ lz
   rw[execOp_put aa le la aa.dst v (fun x lh=>by rw[ai]at lh;cases lh;exact lj)]at lf
   rw[lf,ai]
   simp[Act.put,lg]
def xz(md:Region.Mode)(ops:Array Oper)(O R:List Nat)(i:Nat)(o q:List Nat):Bool:=mE md ops O R (i::o++q) (mn md ops i q o)
theorem TW{i:Nat}{o R:List Nat}{done:Array Bool}(h:mn md ops i R o done=true){j:Nat}(q:j∈Region.ready md ops done):j∈i::o++R:=by
 cases o with
 |nil=>
  simp only[mn,Bool.and_eq_true,decide_eq_true_eq]at h
  rw[h.1]at q
  have:j=i:=by simpa using q
  subst this
  simp
 |cons c o=>
  simp only[mn,Bool.and_eq_true]at h
  have:=List.all_eq_true.1 h.1.1.1.1 j q
  rw[Bool.or_eq_true]at this
  rcases this with O|O
  ·rw[Nat.eq_of_beq_eq_true O];simp
  ·rw[Nat.eq_of_beq_eq_true O];simp
theorem Tk{id:Nat}{Q:Exit->Act->World->Prop}{a:Act}{w:World}{l:List Oper}(O R:List Nat)(i:Nat)(o q:List Nat){aa:Oper}{d:Nat}(X:P.follows .mixedOrders=true)(U:xz .any l.toArray O R i o q=true)
  (Y:O.length+(R.length+(o.length+q.length+1))=l.length)(hi:l[i]? =some aa)(ai:aa.dst=some d)(Z:aa.guard=none)(la:(aa.looksAt l.toArray).contains d=false)
  (lb:C {w with drawn:=w.drawn+1})
  (h:wpQuiet P l.toArray (fun _=>True) (wpQuiet P l.toArray C (fun W=>∀w',C w'->d<W.tmps.size/\∃v,(execOp W.eval aa).run P w'=.ok (.value v) w'/\jF P l.toArray (dR Q) aa d q o (W.put aa.dst v) w') (bK l.toArray R)) (bK l.toArray O) a):
  (Code.region id l.toArray true).wp P Q a w:=by
 have lc:Region.noSelect l.toArray=true:=by
  unfold xz mE at U
  simp only[Bool.and_eq_true]at U
  exact U.1.1.1
 exact Code.wp_mono (Q:=dR Q) (fun e a w h=>by obtain⟨rfl,h⟩:=h;exact h)
  (xH O R (i::o++q) (mn .any l.toArray i q o) _ X U (fun d j ai ld=>TW ai ld) (fun e a w h=>h.1)
   (fun d' a w le lf=>by
    obtain⟨lg,v,lh,li⟩:=lf
    exact Sc (by simpa using hi) ai Z (by simpa using la) lc (fun e a w h=>h.1) o d' a w le lg lh li) Y lb h)
end
end Go.Ev
namespace Go.Ev
open Go Go.RowKit
variable [b8]
variable {cx:bI} {m:Nat->Value} {st st':af} {T:Array Value} {w w':World} {E:Env} {Q:cZ} {ops:Array Oper} {l:List Oper}
variable [ah cx]
def ti(aa:Oper):Bool:=match aa.op with
 |.binOp _ _ _ _ _=>true
 |_=>false
def zb(P:Program)(aa:Oper)(s:ao):Bool:=ti aa||ul P aa s
theorem Sa(h:an cx m st T w){aa:Oper}{orc:List al}{r:ew}(q:ti aa=true)(o:dA cx.P st aa.op orc=some r)(X:bP r.ob):
  ∃v,(∀w',(execOp (Act.eval ⟨T,ah.D cx⟩) aa).run cx.P w'=.ok (.value v) w')/\aT w (av cx m st.ids) m v r.aU:=by
 unfold ti at q
 split at q
 case h_2=>cases q
 rename_i lb t x y lc O
 rw[O]at o
 simp only[dA]at o
 split at o
 ·rename_i a b Y Z
  split at o
  ·rename_i r ob R
   cases o
   obtain⟨v,U,W⟩:=Cc (ox:=x) (oy:=y) (di h Y) (di h Z) R X
   exact⟨v,fun w'=>cn (by simp only[execOp,O]) (U w'),W _ _⟩
  ·split at o
   ·rename_i r ob R
    cases o
    obtain⟨v,U,W⟩:=Jo (ox:=x) (oy:=y) (di h Y) (di h Z) (fun la=>by subst la;rfl) R X
    exact⟨v,fun w'=>cn (by simp only[execOp,O]) (U w'),W _ _⟩
   ·cases o
 ·cases o
theorem Oh(X:bE E cx)(h:an cx m st T w){aa:Oper}{orc:List al}{r:ew}(q:jp E st aa orc=some r)(Z:bP r.ob)(Y:zb E.P aa r.aU=true):
  ∃v,(∀w',(execOp (Act.eval ⟨T,ah.D cx⟩) aa).run cx.P w'=.ok (.value v) w')/\aT w (av cx m st.ids) m v r.aU:=by
 cases O:ti aa with
 |true=>
  have lc:dA cx.P st aa.op orc=some r:=by
   unfold jp at q
   rw[<-X.P]at q
   cases la:dA cx.P st aa.op orc with
   |some lf=>rw[la]at q;simpa using q
   |none=>
    rw[la]at q
    unfold ti at O
    split at O
    case h_2=>cases O
    rename_i R
    simp[qZ,R]at q
  exact Sa h O lc Z
 |false=>
 have o:ul E.P aa r.aU=true:=by unfold zb at Y;rw[O]at Y;simpa using Y
 obtain⟨v,aM,lb⟩:=Aj X h q Z
 refine⟨v,?_,lb⟩
 rw[<-X.P]at o
 have U:=aM w (Ext.refl w)
 unfold Oper.quietAt at U
 have ld:il aa=true:=by
  unfold ul at o
  split at o
  ·rename_i R;unfold il;rw[R]
  ·rename_i R;unfold il;rw[R]
  ·simp only[Bool.and_eq_true]at o;exact o.1
  ·cases o
  ·exact o
 cases W:(execOp (Act.eval ⟨T,ah.D cx⟩) aa).run cx.P w with
 |halt e le=>rw[W]at U;exact U.elim
 |ok n le=>
  obtain⟨u,rfl⟩:=B1 ld W
  rw[W]at U
  obtain⟨rfl,rfl⟩:=U
  exact(W4 o W lb).2
def jg(E:Env)(ops:Array Oper):List Oper->af->List al->Option (af×List al×List Prop)
 |[],st,orc=>some (st,orc,[])
 |aa::l,st,orc=>match eF ops st aa with
  |some true=>match aa.dst,jp E st aa orc with
   |some d,some r=>match Nat.blt d E.n,zb E.P aa r.aU,jg E ops l (st.put d r.aU) r.orc with
    |true,true,some (o,q,O)=>some (o,q,r.ob++O)
    |_,_,_=>none
   |_,_=>none
  |some false=>match aa.dst with
   |some d=>match Nat.blt d E.n with
    |true=>jg E ops l (st.put d .undef) orc
    |false=>none
   |none=>jg E ops l st orc
  |none=>none
theorem wS(q:bE E cx){Q':Act->Prop}:∀{l:List Oper} {st:af} {T:Array Value} {orc orc':List al} {st':af} {ob:List Prop},ak cx st T w->jg E ops l st orc=some (st',orc',ob)->bP ob->
  (∀Y,ak cx st' Y w->Q' ⟨Y,ah.D cx⟩)->wpQuiet cx.P ops (fun _=>True) Q' l ⟨T,ah.D cx⟩
 |[],st,T,_,_,_,_,h,o,_,O=>by
  cases o
  exact O T h
 |aa::l,st,T,orc,orc',st',ob,h,o,U,O=>by
  unfold jg at o
  unfold wpQuiet
  split at o
  ·rename_i W
   rw[iC h W]
   simp only[if_true]
   split at o
   ·rename_i d r ai Z
    split at o
    ·rename_i lf lg lh X la lb
     cases o
     obtain⟨lc,ld⟩:=tZ U
     obtain⟨m,R⟩:=h
     obtain⟨v,aM,le⟩:=Oh q R Z lc la
     refine⟨v,fun w' _=>by unfold Oper.quietAt;rw[aM w'];exact⟨rfl,rfl⟩,?_⟩
     rw[ai]
     exact wS q ⟨m,R.put (by rw[q.n];exact cR X) le⟩ lb ld O
    ·cases o
   ·cases o
  ·rename_i W
   rw[iC h W]
   simp only[Bool.false_eq_true,if_false]
   split at o
   ·rename_i d ai
    split at o
    ·rename_i X
     obtain⟨m,R⟩:=h
     rw[ai]
     exact wS q ⟨m,R.put (d:=d) (s:=.undef) (v:=undef) (by rw[q.n];exact cR X) rfl⟩ o U O
    ·cases o
   ·rename_i ai
    rw[ai]
    exact wS q h o U O
  ·cases o
theorem OK{id:Nat}{l:List Oper}(o q O:List Nat)(R:cx.P.follows .mixedOrders=true)(U:BW .any l.toArray o q O=true)(X:o.length+(q.length+O.length)=l.length)
  (h:∀T w,ak cx st T w->wpQuiet cx.P l.toArray (fun _=>True) (wpQuiet cx.P l.toArray (Ext w) (fun Y=>∀w',Ext w w'->wpList cx.P l.toArray (dR Q) (bK l.toArray O) Y w') (bK l.toArray q)) (bK l.toArray o) ⟨T,ah.D cx⟩):
  W cx Q (.region id l.toArray true) st:=by
 intro T w Z
 exact RJ (C:=Ext w) o q O R U X (Ext.refl w).drew (h T w Z)
/-! Quiet ones again behind those that come one by one. -/
section
variable {P:Program} {md:Region.Mode} {C:World->Prop}
def uy(md:Region.Mode)(ops:Array Oper)(K:Array Bool->Bool):List Nat->Array Bool->Bool
 |[],done=>K done
 |i::is,done=>decide (Region.ready md ops done=[i])&&uy md ops K is (done.setIfInBounds i true)
theorem Am{Q Q':cZ}{j:Nat}(o:∀e a w,Q e a w->e=.normal){K:Act->World->Prop}{a:Act}{w:World}(h:wpOp P ops Q j K a w):wpOp P ops Q' j K a w:=by
 have U:¬LetsOut Q:=fun⟨a,w,h⟩=>Exit.noConfusion (o _ _ _ h)
 unfold wpOp at*
 split
 ·rename_i q;simp only[q]at h;exact h
 ·rename_i aa q
  simp only[q]at h
  split
  ·rename_i O
   simp only[O,if_true]at h
   rcases h with h|⟨_,W⟩
   case inr=>exact absurd W U
   refine .inl ?_
   unfold Oper.wp at*
   generalize (execOp a.eval aa).run P w=r at*
   cases r with
   |ok n w'=>
    cases n<;>simp only[Oper.upon]at h⊢
    case value u=>exact h
    case skip=>exact h
    case defer d=>exact h
    case enter f args=>
     refine Calls.mono h fun e X R=>?_
     cases e with
     |returned u=>exact R
     |panicked c=>cases o _ _ _ R
     |outgrown=>exact absurd R U
    case row row args=>exact h
   |halt x w'=>
    cases x<;>simp only[Oper.upon]at h⊢
    case panic u=>cases o _ _ _ h
  ·rename_i O
   simp only[O]at h
   exact h
theorem IP{Q1 Q:cZ}{g:Nat}{KD:Array Bool->Bool}(q:∀e a w,Q1 e a w->e=.normal)(O:∀d a w,KD d=true->Q1 .normal a w->wpAny P md ops Q g d a w):
  ∀(l:List Nat) (done:Array Bool) (a:Act) (w:World),uy md ops KD l done=true->wpList P ops Q1 (bK ops l) a w->wpAny P md ops Q (l.length+g) done a w
 |[],done,a,w,o,h=>by rw[List.length_nil,Nat.zero_add];exact O done a w o h
 |i::l,done,a,w,o,h=>by
  simp only[uy,Bool.and_eq_true,decide_eq_true_eq]at o
  have hi:i∈Region.ready md ops done:=by rw[o.1];exact List.mem_cons_self
  obtain⟨_,aa,R,_⟩:=mem_ready.1 hi
  unfold bK at h
  rw[R]at h
  rw[List.length_cons,Nat.succ_add]
  refine⟨fun U=>(by rw[o.1]at U;cases U),fun k W=>?_⟩
  rw[o.1]at W
  have X:k=i:=by simpa using W
  subst X
  have Y:wpOp P ops Q1 k (wpList P ops Q1 (bK ops l)) a w:=by unfold wpOp;simp only[R];exact h
  exact wpOp_mono (fun Z w' h'=>IP q O l _ Z w' o.2 h') (Am q Y)
theorem JD{Q:Act->Prop}(O:Region.noSelect ops=true):∀(l:List Nat) (done:Array Bool) (a:Act),fs md ops (fun d=>(Region.ready md ops d).isEmpty) l done=true->wpQuiet P ops C Q (bK ops l) a->wpAnyQ P md ops C Q l.length done a
 |[],done,a,o,h=>⟨by simpa[fs]using o,h⟩
 |i::l,done,a,o,h=>by
  unfold fs at o
  simp only[Bool.and_eq_true]at o
  obtain⟨⟨U,W⟩,o⟩:=o
  have R:i∈Region.ready md ops done:=by simpa using U
  obtain⟨_,aa,q,_⟩:=mem_ready.1 R
  unfold bK at h
  rw[q]at h
  obtain⟨v,X,Y⟩:=yieldsIn_of_qOp (K:=wpQuiet P ops C Q (bK ops l)) q (by unfold qOp;rw[q];exact h)
  exact wpAnyQ_first q (Region.noSelect_spec O) l.length done a (Region.free_spec q W) R X (JD O l _ _ o Y)
end
def AE(md:Region.Mode)(ops:Array Oper)(q O o R:List Nat):Bool:=!o.isEmpty&&mE md ops q O o (uy md ops (fs md ops (fun d=>(Region.ready md ops d).isEmpty) R) o)
def sa(cx:bI)(ops:Array Oper)(o:List Nat)(Q:cZ):cZ:=fun e a w=>e=.normal/\wpQuiet cx.P ops (Ext w) (fun q=>∀w',Ext w w'->dR Q .normal q w') (bK ops o) a
theorem P8{id:Nat}{l:List Oper}(R U O q:List Nat)(Y:cx.P.follows .mixedOrders=true)(o:AE .any l.toArray R U O q=true)(Z:R.length+(U.length+(O.length+q.length))=l.length)
  (h:∀T w,ak cx st T w->wpQuiet cx.P l.toArray (fun _=>True) (wpQuiet cx.P l.toArray (Ext w) (fun la=>∀w',Ext w w'->wpList cx.P l.toArray (sa cx l.toArray q Q) (bK l.toArray O) la w') (bK l.toArray U)) (bK l.toArray R) ⟨T,ah.D cx⟩):
  W cx Q (.region id l.toArray true) st:=by
 intro T w lb
 unfold AE at o
 rw[Bool.and_eq_true]at o
 obtain⟨lc,o⟩:=o
 have ld:Region.noSelect l.toArray=true:=by
  unfold mE at o
  simp only[Bool.and_eq_true]at o
  exact o.1.1.1
 refine Code.wp_mono (Q:=dR Q) (fun e a w h=>by obtain⟨rfl,h⟩:=h;exact h)
  (xH (C:=Ext w) R U O _ _ Y o (fun d j ai X=>?_) (fun e a w h=>h.1) (fun d a w ai le=>?_) Z (Ext.refl w).drew (h T w lb))
 ·cases O with
  |nil=>simp at lc
  |cons i is=>
   simp only[uy,Bool.and_eq_true,decide_eq_true_eq]at ai
   rw[ai.1]at X
   have:j=i:=by simpa using X
   subst this
   exact List.mem_cons_self
 ·refine IP (Q1:=sa cx l.toArray q Q) (KD:=fs .any l.toArray (fun d=>(Region.ready .any l.toArray d).isEmpty) q) (fun e a w h=>h.1) (fun d a w ai h=>?_) O d a w ai le
  exact wpAny_of_quiet (C:=Ext w) (fun a w' lf h=>h w' lf) q.length d a w (Ext.refl w) (JD ld q d a ai h.2)
def pg(cx:bI)[ah cx](ops:Array Oper)(K:World->Act->Prop)(l:List Oper)(st:af):Prop:=∀T w,ak cx st T w->wpQuiet cx.P ops (fun _=>True) (K w) l ⟨T,ah.D cx⟩
theorem SO{K:World->Act->Prop}(h:mq cx K st):pg cx ops K [] st:=fun T w o=>h T w o
theorem Du{K:World->Act->Prop}(o:bE E cx){aa:Oper}{orc:List al}{ob:List Prop}(q:jg E ops [aa] st orc=some (st',[],ob))(O:bP ob)(h:pg cx ops K l st'):pg cx ops K (aa::l) st:=by
 intro T w R
 exact jR (P:=cx.P) (ops:=ops) (l1:=[aa]) (l2:=l) (C:=fun _=>True) (Q':=K w) (a:=⟨T,ah.D cx⟩) (wS o R q O fun U W=>h U w W)
theorem Wo{α:Type}{o:World->Act->Prop}(F:α->Prop)(S:α->af)(n:Nat)(O:∀a,F a->pg cx ops o (l.drop n) (S a))
  (R:∀K,(∀a,F a->mq cx K (S a))->pg cx ops K (l.take n) st):pg cx ops o l st:=by
 intro T w q
 have:=jR (P:=cx.P) (ops:=ops) (l1:=l.take n) (l2:=l.drop n)
  (R (fun w=>wpQuiet cx.P ops (fun _=>True) (o w) (l.drop n)) (fun a U T w q=>O a U T w q) T w q)
 rwa [List.take_append_drop]at this
/-! One that floats past others. -/
def AC:ao->Bool
 |.val t _=>t.flat
 |.ptr _ _=>true
 |.row _=>true
 |.osl _=>true
 |_=>false
theorem TM{w:World}{M:Nat->Prop}{m:Nat->Value}{v v':Value}{s:ao}(ai:AC s=true)(h:aT w M m v s)(h':aT w M m v' s):v=v':=by
 cases s<;>first|(cases ai;done)|skip
 all_goals unfold aT at h h'
 ·exact oh ai h h'
 ·obtain⟨g,ae,rfl⟩:=h
  obtain⟨q,o,rfl⟩:=h'
  rw[ae]at o
  injection o with o
  injection o with o
  injection o with o
  rw[o]
 ·rw[h,h']
 ·obtain⟨us,ae⟩:=h
  obtain⟨O,o⟩:=h'
  rw[ae]at o
  injection o with o
  have:=congrArg Array.toList o
  simp at this
  exact this.1
def oS(aa:Oper):Bool:=match aa.op with
 |.load _ _=>true
 |_=>false
theorem Gi{P:Program}{aa:Oper}(h:oS aa=true){ρ:Operand->Value}{w q:World}{n:Next}(o:(execOp ρ aa).run P w=.ok n q):∃v,n=.value v:=by
 unfold oS at h
 split at h
 ·rename_i t x O
  simp only[execOp,O]at o
  rw[Sem.run_bind]at o
  generalize Sem.run P (Instr.loadAt t (ρ x)) w=R at o
  cases R with
  |halt e U=>cases o
  |ok v U=>cases o;exact⟨v,rfl⟩
 ·cases h
theorem H4(O:bE E cx)(h:an cx m st T w){aa:Oper}(R:oS aa=true){orc:List al}{r:ew}(U:jp E st aa orc=some r)(W:bP r.ob):
  ∃v,(∀w',Ext w w'->(execOp (Act.eval ⟨T,ah.D cx⟩) aa).run cx.P w'=.ok (.value v) w')/\aT w (av cx m st.ids) m v r.aU:=by
 obtain⟨v,aM,X⟩:=Aj O h U W
 refine⟨v,fun w' Y=>?_,X⟩
 have o:=aM w' Y
 unfold Oper.quietAt at o
 cases q:(execOp (Act.eval ⟨T,ah.D cx⟩) aa).run cx.P w' with
 |halt e Z=>rw[q]at o;exact o.elim
 |ok n Z=>
  obtain⟨u,rfl⟩:=Gi R q
  rw[q]at o
  obtain⟨rfl,rfl⟩:=o
  rfl
theorem VP(q:bE E cx)(O:ak cx st T w){aa:Oper}(R:oS aa=true){orc:List al}{r:ew}(U:jp E st aa orc=some r)(W:bP r.ob){d:Nat}(X:look st.ab d=some r.aU)(ai:AC r.aU=true):
  (execOp (Act.eval ⟨T,ah.D cx⟩) aa).run cx.P w=.ok (.value (T.getD d undef)) w:=by
 obtain⟨m,o⟩:=O
 obtain⟨v,Y,Z⟩:=H4 q o R U W
 obtain⟨u,la,lb⟩:=o.cT d _ (bc X)
 have:=TM ai Z lb
 subst this
 have e:T.getD d undef=v:=by simp[la]
 rw[e]
 exact Y w (Ext.refl w)
def vS(cx:bI)(ops:Array Oper)(aa:Oper)(d:Nat)(o q:List Nat)(Q:cZ):cZ:=fun e a w=>e=.normal/\(execOp a.eval aa).run cx.P w=.ok (.value (a.tmps.getD d undef)) w/\jF cx.P ops (dR Q) aa d o q a w
theorem UK{aa O:Oper}{d c:Nat}{o q:List Nat}(R:ops[c]? =some O)(h:bU cx ops (vS cx ops aa d o q Q) [O] st)(U:ak cx st T w):jF cx.P ops (dR Q) aa d o (c::q) ⟨T,ah.D cx⟩ w:=by
 have W:=h T w U
 refine wpOp_mono (K:=vS cx ops aa d o q Q .normal) (fun a w h=>h.2) (Am (Q:=vS cx ops aa d o q Q) (fun e a w h=>h.1) ?_)
 unfold wpOp
 rw[R]
 exact W
theorem NC{id:Nat}{l:List Oper}(X:bE E cx)(o q:List Nat)(i:Nat)(O R:List Nat){aa:Oper}{d:Nat}(Y:E.P.follows .mixedOrders=true)(Z:xz .any l.toArray o q i O R=true)
  (la:o.length+(q.length+(O.length+R.length+1))=l.length)(hi:l[i]? =some aa)(ai:aa.dst=some d)(lb:aa.guard=none)(lc:(aa.looksAt l.toArray).contains d=false)(le:Nat.blt d E.n=true)
  (h:∀T w,ak cx st T w->wpQuiet cx.P l.toArray (fun _=>True) (wpQuiet cx.P l.toArray (Ext w) (fun U=>∀w',Ext w w'->d<U.tmps.size/\∃v,(execOp U.eval aa).run cx.P w'=.ok (.value v) w'/\jF cx.P l.toArray (dR Q) aa d R O (U.put aa.dst v) w') (bK l.toArray q)) (bK l.toArray o) ⟨T,ah.D cx⟩):
  W cx Q (.region id l.toArray true) st:=by
 intro T w ld
 exact Tk (C:=Ext w) o q i O R (by rw[X.P];exact Y) Z la hi ai lb lc (Ext.refl w).drew (h T w ld)
end Go.Ev
namespace Go.Ev
open Go Go.RowKit
variable [b8]
section
variable {P:Program} {w w':World} {M:Nat->Prop}
theorem Hv{α β:Type}{eq:α->α->Bool}{key:α}{x:β}:∀(ps:List (α×β)),bS eq ps key=none->eq key key=true->bS eq (ps++[(key,x)]) key=some x
 |[],_,h=>by simp[bS,h]
 |p::ps,o,h=>by
  unfold bS at o
  rw[List.cons_append]
  unfold bS
  cases q:eq key p.1 with
  |true=>rw[q]at o;simp at o
  |false=>rw[q]at o;simp at o⊢;exact Hv ps o h
theorem HP{α:Type}(f:α->α):∀(l:List α) (n:Nat) (e:α),l[n]? =some e->f e=e->l.modify n f=l
 |[],n,e,h,_=>by simp at h
 |x::l,0,e,h,o=>by
  simp at h
  subst h
  show f x::l=x::l
  rw[o]
 |x::l,n+1,e,h,o=>by
  rw[List.modify_succ_cons,HP f l n e (by simpa using h) o]
theorem HQ{α:Type}{f:α->α->Bool}(h:∀x,f x x=true):∀xs:List α,kT f xs xs=true
 |[]=>rfl
 |x::xs=>by simp only[kT,h x,HQ h xs,Bool.and_self]
theorem N5:∀(t:ag) (x:t.el),t.flat=true->aV t x x=true:=by
 intro t
 induction t with
 |int k=>intro x _;exact beq_self_eq_true (α:=Int) x
 |bool=>intro x _;exact beq_self_eq_true (α:=Bool) x
 |str=>intro x _;exact beq_self_eq_true (α:=List UInt8) x
 |unit=>intro x _;rfl
 |pair a b o q=>
  intro x h
  simp only[ag.flat,Bool.and_eq_true]at h
  simp only[aV,o x.1 h.1,q x.2 h.2,Bool.and_self]
 |arr n t O=>intro x h;exact HQ (fun y=>O y h) x
 |ab t _=>intro x h;cases h
 |ptr t _=>intro x h;cases h
 |fn f t _=>intro x h;cases h
 |err=>intro x h;cases h
 |ck=>intro x h;cases h
 |cE=>intro x h;cases h
 |cB n t _=>intro x h;cases h
 |alt n t r _ _=>intro x h;cases h
 |map k v _ _=>intro x h;cases h
theorem VD{mt W lj:TypeId}{d d':Nat}{u v:ag}(X:P.underlying mt=some (.map W lj))(Y:cN P d W=some u)(Z:ed P d' W=true)(ai:d'<=10000)(ld:u.flat=true)(lr:v.flat=true)
  {z:Value}(le:∀w,(zeroValue lj).run P w=.ok z w)(la:∀w M,ba w M z v (b9 v))
  {kv:Value}{key:u.el}(o:ba w M kv u key){g:Nat}{es:Array MapEntry}{clock:Nat}{ps:List (u.el×v.el)}
  (lb:w.heap[g]? =some (.map es clock))(q:ep (eD w M u) (eD w M v) es.toList ps)
  {t:Value}{lf:World}(O:(Instr.mapEntry mt (.map (some g)) kv).run P w=.ok t lf):
  ∃r,ba w M r v ((bS (aV u) ps key).getD (b9 v))/\(Instr.lookup mt (.map (some g)) kv false).run P w=.ok r w/\(Instr.lookup mt (.map (some g)) kv false).run P lf=.ok r lf:=by
 obtain⟨r,lk,ls⟩:=rk X Y Z ai le la o q
 have ll:=ls w (.map (some g)) (.inr ⟨g,clock,rfl,lb⟩) false
 simp only[Bool.false_eq_true,if_false]at ll
 refine⟨r,lk,ll,?_⟩
 have lm:=qM (P:=P) false d W u Y d' Z 10000 ai w w M kv key o
 have lc:=xC Y Z ai o w q
 have ln:(getObj g).run P w=.ok (.map es clock) w:=by simp[getObj,Sem.run,lb]
 have lo:∀aa,(setObj g aa).run P w=.ok () {w with heap:=w.heap.setIfInBounds g aa}:=fun aa=>by simp[setObj,Sem.run,lb]
 have lt:=gx lb
 have fin:∀(R:Array MapEntry) (U:Nat) (lg:List (u.el×v.el)),ep (eD w M u) (eD w M v) R.toList lg->(bS (aV u) lg key).getD (b9 v)=(bS (aV u) ps key).getD (b9 v)->
   (Instr.lookup mt (.map (some g)) kv false).run P {w with heap:=w.heap.setIfInBounds g (.map R U)}=.ok r {w with heap:=w.heap.setIfInBounds g (.map R U)}:=by
  intro R U lg lu lv
  obtain⟨lD,aC,aA⟩:=rk X Y Z ai le la o lu
  have bW:=aA {w with heap:=w.heap.setIfInBounds g (.map R U)} (.map (some g)) (.inr ⟨g,U,rfl,by show(w.heap.setIfInBounds g _)[g]? =_;rw[Array.getElem?_setIfInBounds_self_of_lt lt]⟩) false
  simp only[Bool.false_eq_true,if_false]at bW
  rw[lv]at aC
  rw[oh lr lk aC]
  exact bW
 rcases xW (kv:=kv) (vv:=z) (val:=b9 v) (eq:=aV u) (key:=key) o (la w M) es.toList ps 0 q with ⟨ae,lh⟩|⟨n,e,lw,ae,lh,lx,e4,lE⟩
 ·rw[ae]at lc
  unfold Instr.mapEntry at O
  simp only[Sem.run_bind,run_underlying X,Result.andThen_ok,ln,lm,lc,lo,le,Sem.run_pure]at O
  cases O
  have lp:bS (aV u) ps key=none:=by
   rcases FY (eq:=aV u) (key:=key) es.toList ps 0 q with ⟨_,h⟩|⟨n,e,y,h,_⟩
   ·exact h
   ·rw[ae]at h;cases h
  refine fin _ _ (ps++[(key,b9 v)]) ?_ ?_
  ·rw[Array.toList_push]
   exact xS q ⟨o,la _ _,trivial⟩
  ·rw[Hv ps lp (N5 u key ld),lp]
   rfl
 ·rw[ae,Nat.zero_add]at lc
  have ly:key=lw:=BF u e4
  subst ly
  have lq:e.key=kv:=oh ld lx o
  have lz:es[n]? =some e:=by rw[<-Array.getElem?_toList];exact lh
  have lA:((es[n]?).map (·.key)).getD kv=kv:=by rw[lz];simp[lq]
  have lB:∀li,(Instr.keyThatStays kv kv).run P li=.ok kv li:=fun li=>by
   unfold Instr.keyThatStays
   rw[if_pos (Ci ld o)]
   rfl
  have lC:es.modify n (fun e=>{e with key:=kv})=es:=by
   apply Array.ext'
   rw[Array.toList_modify]
   exact HP _ es.toList n e lh (by rw[<-lq])
  unfold Instr.mapEntry at O
  simp only[Sem.run_bind,run_underlying X,Result.andThen_ok,ln,lm,lc,lA,lB,lo,Sem.run_pure,lC]at O
  cases O
  exact fin es clock ps q rfl
end
section
variable {P:Program} {ops:Array Oper} {md:Region.Mode} {Q:Exit->Act->World->Prop}
theorem wM{aa:Oper}{l:List Oper}{a:Act}{w w':World}{v:Value}(o:aa.guard=none)(q:(execOp a.eval aa).run P w=.ok (.value v) w')(h:wpList P ops Q l (a.put aa.dst v) w'):wpList P ops Q (aa::l) a w:=by
 unfold wpList
 rw[if_pos (show Region.wanted aa (yielded ops a.tmps)=true from by unfold Region.wanted;rw[o])]
 refine .inl ?_
 unfold Oper.wp
 rw[q]
 exact h
theorem Nk{aa:Oper}{l:List Oper}{a:Act}{w w':World}(o:aa.guard=none)(q:(execOp a.eval aa).run P w=.ok .skip w')(h:wpList P ops Q l (a.put aa.dst undef) w'):wpList P ops Q (aa::l) a w:=by
 unfold wpList
 rw[if_pos (show Region.wanted aa (yielded ops a.tmps)=true from by unfold Region.wanted;rw[o])]
 refine .inl ?_
 unfold Oper.wp
 rw[q]
 exact h
structure jc where
 bd:Oper
 eJ:Oper
 gn:Oper
 gW:Oper
 kj:Oper
 d2:Nat
 d3:Nat
 d4:Nat
 d5:Nat
def jc.ok(C:jc)(ops:Array Oper):Bool:=
 C.bd.guard.isNone&&(C.eJ.guard.isNone&&(C.gn.guard.isNone&&(C.gW.guard.isNone&&(C.kj.guard.isNone&&
 (decide (C.bd.dst=some C.d2)&&(decide (C.eJ.dst=some C.d3)&&(decide (C.gn.dst=some C.d4)&&(decide (C.gW.dst=some C.d5)&&(decide (C.kj.dst=none)&&
 (!(C.bd.looksAt ops).contains C.d4&&(!(C.bd.looksAt ops).contains C.d5&&(!(C.eJ.looksAt ops).contains C.d4&&(!(C.eJ.looksAt ops).contains C.d5&&
 (!(C.gn.looksAt ops).contains C.d2&&(!(C.gn.looksAt ops).contains C.d3&&(!(C.gW.looksAt ops).contains C.d2&&(!(C.gW.looksAt ops).contains C.d3&&
 (!Nat.beq C.d2 C.d4&&(!Nat.beq C.d2 C.d5&&(!Nat.beq C.d3 C.d4&&!Nat.beq C.d3 C.d5))))))))))))))))))))
def zh(ops:Array Oper)(c2 c3 c4 c5 c6:Nat):Option jc:=match ops[c2]?,ops[c3]?,ops[c4]?,ops[c5]?,ops[c6]? with
 |some bd,some eJ,some gn,some gW,some kj=>match bd.dst,eJ.dst,gn.dst,gW.dst with
  |some d2,some d3,some d4,some d5=>match jc.ok ⟨bd,eJ,gn,gW,kj,d2,d3,d4,d5⟩ ops with
   |true=>some ⟨bd,eJ,gn,gW,kj,d2,d3,d4,d5⟩
   |false=>none
  |_,_,_,_=>none
 |_,_,_,_,_=>none
structure ue(P:Program)(Q:Exit->Act->World->Prop)(C:jc)(a:Act)(w:World)(v2 v3 v4 v5:Value)(o q:World):Prop where
 cS:(execOp a.eval C.bd).run P w=.ok (.value v2) w
 pp:(execOp a.eval C.bd).run P o=.ok (.value v2) o
 eU:∀w',(execOp (a.put (some C.d2) v2).eval C.eJ).run P w'=.ok (.value v3) w'
 qp:(execOp a.eval C.gn).run P w=.ok (.value v4) o
 wQ:∀w',(execOp (a.put (some C.d4) v4).eval C.gW).run P w'=.ok (.value v5) w'
 wc:(execOp ((((a.put (some C.d2) v2).put (some C.d3) v3).put (some C.d4) v4).put (some C.d5) v5).eval C.kj).run P o=.ok .skip q
 fin:Q .normal ((((a.put (some C.d2) v2).put (some C.d3) v3).put (some C.d4) v4).put (some C.d5) v5) q
def ur(md:Region.Mode)(ops:Array Oper)(c2 c3 c4 c5 c6:Nat)(done:Array Bool):Bool:=
 ((Region.ready md ops done).all fun j=>Nat.beq j c2||Nat.beq j c4)&&(Region.ready md ops done).contains c2&&
 fs md ops (fM md ops [c4,c5,c6]) [c3] (done.setIfInBounds c2 true)&&fs md ops (fM md ops [c2,c3,c6]) [c5] (done.setIfInBounds c4 true)
theorem QD{a b:Nat}(h:(!Nat.beq a b)=true):a≠b:=fun e=>by subst e;simp at h
theorem UC{c2 c3 c4 c5 c6:Nat}{C:jc}(Z:Region.noSelect ops=true)(lc:∀e a w,Q e a w->e=.normal)(q:zh ops c2 c3 c4 c5 c6=some C){done:Array Bool}{a:Act}{w:World}(ld:ur md ops c2 c3 c4 c5 c6 done=true){v2 v3 v4 v5:Value}{o lm:World}(F:ue P Q C a w v2 v3 v4 v5 o lm):
  wpAny P md ops Q 5 done a w:=by
 unfold zh at q
 split at q
 case h_2=>cases q
 rename_i bd eJ gn gW kj Y R e4 U le
 split at q
 case h_2=>cases q
 rename_i d2 d3 d4 d5 _ _ _ _
 split at q
 case h_2=>cases q
 rename_i lf
 cases q
 simp only[jc.ok,Bool.and_eq_true,Option.isNone_iff_eq_none,decide_eq_true_eq,Bool.not_eq_true']at lf
 obtain⟨g2,g3,g4,g5,g6,aA,bW,lg,lh,li,ln,lo,lp,lq,lr,ls,lt,lu,n24,n25,n34,n35⟩:=lf
 have n24:d2≠d4:=fun e=>by subst e;simp at n24
 have n25:d2≠d5:=fun e=>by subst e;simp at n25
 have n34:d3≠d4:=fun e=>by subst e;simp at n34
 have n35:d3≠d5:=fun e=>by subst e;simp at n35
 have put:∀(c:Nat) (aa:Oper) (a:Act) (d:Nat) (v:Value),ops[c]? =some aa->(aa.looksAt ops).contains d=false->execOp (a.put (some d) v).eval aa=execOp a.eval aa:=fun c aa a d v W h=>
  execOp_put aa (fun cs b=>Region.noSelect_spec Z c aa cs b W) a (some d) v fun x lv=>by cases lv;simpa using h
 have O:∀(a:Act) (d e:Nat) (u v:Value),d≠e->(a.put (some d) u).put (some e) v=(a.put (some e) v).put (some d) u:=fun a d e u v h=>by simp only[Act.put];rw[Array.setIfInBounds_comm _ _ h]
 obtain⟨cS,pp,eU,qp,wQ,wc,fin⟩:=F
 dsimp only at cS pp eU qp wQ wc fin
 simp only[ur,Bool.and_eq_true]at ld
 obtain⟨⟨⟨lw,lx⟩,lj⟩,lk⟩:=ld
 have ll:c2∈Region.ready md ops done:=by simpa using lx
 refine⟨fun X=>(by rw[X]at ll;cases ll),fun k ly=>?_⟩
 have:=List.all_eq_true.1 lw k ly
 rw[Bool.or_eq_true]at this
 rcases this with X|X
 ·have:=Nat.eq_of_beq_eq_true X
  subst this
  simp only[fs,Bool.and_eq_true]at lj
  obtain⟨⟨la,lb⟩,W⟩:=lj
  unfold wpOp
  simp only[Y]
  rw[if_pos (show Region.wanted bd (yielded ops a.tmps)=true from by unfold Region.wanted;rw[g2])]
  refine .inl ?_
  unfold Oper.wp
  rw[cS]
  show wpAny P md ops Q 4 (done.setIfInBounds k true) (a.put bd.dst v2) w
  rw[aA]
  refine wpAny_first R (Region.noSelect_spec Z) (fun c a w h=>Exit.noConfusion (lc _ _ _ h)) 3 _ _ w (Region.free_spec R lb) (by simpa using la) (v:=v3) (.inl ⟨by unfold Region.wanted;rw[g3],eU⟩) ?_
  refine uo [c4,c5,c6] _ _ w W ?_
  simp only[bK,e4,U,le]
  rw[bW]
  refine wM g4 (w':=o) (v:=v4) (by rw[put c4 gn _ d3 _ e4 ls,put c4 gn _ d2 _ e4 lr];exact qp) ?_
  rw[lg]
  refine wM g5 (w':=o) (v:=v5) (by rw[O _ d3 d4 _ _ n34,put c5 gW _ d3 _ U lu,O _ d2 d4 _ _ n24,put c5 gW _ d2 _ U lt];exact wQ o) ?_
  rw[lh]
  refine Nk g6 wc ?_
  rw[li]
  exact fin
 ·have:=Nat.eq_of_beq_eq_true X
  subst this
  simp only[fs,Bool.and_eq_true]at lk
  obtain⟨⟨la,lb⟩,W⟩:=lk
  unfold wpOp
  simp only[e4]
  rw[if_pos (show Region.wanted gn (yielded ops a.tmps)=true from by unfold Region.wanted;rw[g4])]
  refine .inl ?_
  unfold Oper.wp
  rw[qp]
  show wpAny P md ops Q 4 (done.setIfInBounds k true) (a.put gn.dst v4) o
  rw[lg]
  refine wpAny_first U (Region.noSelect_spec Z) (fun c a w h=>Exit.noConfusion (lc _ _ _ h)) 3 _ _ o (Region.free_spec U lb) (by simpa using la) (v:=v5) (.inl ⟨by unfold Region.wanted;rw[g5],wQ⟩) ?_
  refine uo [c2,c3,c6] _ _ o W ?_
  simp only[bK,Y,R,le]
  rw[lh]
  refine wM g2 (w':=o) (v:=v2) (by rw[put c2 bd _ d5 _ Y lo,put c2 bd _ d4 _ Y ln];exact pp) ?_
  rw[aA]
  have lz:(((a.put (some d4) v4).put (some d5) v5).put (some d2) v2)=(((a.put (some d2) v2).put (some d4) v4).put (some d5) v5):=by
   rw[O _ d5 d2 _ _ n25.symm,O _ d4 d2 _ _ n24.symm]
  rw[lz]
  refine wM g3 (w':=o) (v:=v3) (by rw[put c3 eJ _ d5 _ R lq,put c3 eJ _ d4 _ R lp];exact eU o) ?_
  rw[bW]
  have lA:(((a.put (some d2) v2).put (some d4) v4).put (some d5) v5).put (some d3) v3=(((a.put (some d2) v2).put (some d3) v3).put (some d4) v4).put (some d5) v5:=by
   rw[O _ d5 d3 _ _ n35.symm,O _ d4 d3 _ _ n34.symm]
  rw[lA]
  refine Nk g6 wc ?_
  rw[li]
  exact fin
def FX(md:Region.Mode)(ops:Array Oper)(o q:List Nat)(c2 c3 c4 c5 c6:Nat):Bool:=mE md ops o q [c2,c4] (ur md ops c2 c3 c4 c5 c6)
end
section
variable {cx:bI} {m:Nat->Value} {st st':af} {T:Array Value} {w w':World} {E:Env} {Q:cZ} {ops:Array Oper} {l:List Oper}
variable [ah cx]
def Ek(C:jc):Option (TypeId×Nat×Nat×BinOp×TypeId×Operand×Operand×TypeId×TypeId×Operand):=match C.bd.op,C.eJ.op,C.gn.op,C.gW.op,C.kj.op with
 |.lookup mt (.tmp x) (.tmp k) false,.binOp o t a b q,.mapEntry O (.tmp x') (.tmp k'),.extract (.tmp a4) 1,.entryStore R (.tmp U) (.tmp a5) v=>
  match Nat.beq mt O&&(Nat.beq x x'&&(Nat.beq k k'&&(Nat.beq a4 C.d4&&(Nat.beq x U&&(Nat.beq a5 C.d5&&(fi (.tmp x) C.d2&&(fi (.tmp x) C.d3&&(fi (.tmp x) C.d4&&(fi (.tmp x) C.d5&&(fi (.tmp k) C.d2&&(fi (.tmp k) C.d3&&(fi v C.d4&&(fi v C.d5&&!Nat.beq C.d2 C.d3)))))))))))))with
  |true=>some (mt,x,k,o,t,a,b,q,R,v)
  |false=>none
 |_,_,_,_,_=>none
theorem Rl{C:jc}{mt t o q:TypeId}{x k:Nat}{op:BinOp}{a b v:Operand}(h:Ek C=some (mt,x,k,op,t,a,b,o,q,v)):
  C.bd.op=.lookup mt (.tmp x) (.tmp k) false/\C.eJ.op=.binOp op t a b o/\C.gn.op=.mapEntry mt (.tmp x) (.tmp k)/\C.gW.op=.extract (.tmp C.d4) 1/\C.kj.op=.entryStore q (.tmp x) (.tmp C.d5) v/\
  fi (.tmp x) C.d2=true/\fi (.tmp x) C.d3=true/\fi (.tmp x) C.d4=true/\fi (.tmp x) C.d5=true/\fi (.tmp k) C.d2=true/\fi (.tmp k) C.d3=true/\fi v C.d4=true/\fi v C.d5=true/\C.d2≠C.d3:=by
 unfold Ek at h
 split at h
 case h_2=>cases h
 rename_i mt x k op t a b o lo x' k' a4 q lp a5 v ld le Z la lb
 split at h
 case h_2=>cases h
 rename_i lc
 simp only[Option.some.injEq,Prod.mk.injEq]at h
 obtain⟨rfl,rfl,rfl,rfl,rfl,rfl,rfl,rfl,rfl,rfl⟩:=h
 simp only[Bool.and_eq_true]at lc
 obtain⟨O,R,U,W,X,Y,lf,lg,lh,li,lj,lk,ll,lm,ln⟩:=lc
 have O:=Nat.eq_of_beq_eq_true O
 have R:=Nat.eq_of_beq_eq_true R
 have U:=Nat.eq_of_beq_eq_true U
 have W:=Nat.eq_of_beq_eq_true W
 have X:=Nat.eq_of_beq_eq_true X
 have Y:=Nat.eq_of_beq_eq_true Y
 rw[<-O,<-R,<-U]at Z
 rw[W]at la
 rw[<-X,Y]at lb
 exact⟨ld,le,Z,la,lb,lf,lg,lh,li,lj,lk,ll,lm,QD ln⟩
def MN(P:Program)(mt:TypeId):Bool:=match P.underlying mt with
 |some (.map o _)=>match ty P o with
  |some u=>u.flat
  |none=>false
 |_=>false
def EW(E:Env)(st:af)(C:jc):Option af:=match Ek C with
 |some (mt,x,k,q,t,a,b,_,_,v)=>match yt E.P st mt (.tmp x) (.tmp k) false []with
  |some ⟨.val o y,[],[]⟩=>match Nat.blt C.d2 E.n&&(Nat.blt C.d3 E.n&&(Nat.blt C.d4 E.n&&(Nat.blt C.d5 E.n&&(o.flat&&MN E.P mt)))),dC (st.put C.d2 (.val o y)) a,dC (st.put C.d2 (.val o y)) b with
   |true,some O,some R=>match bin E.P q t O R with
    |some (r,[])=>match yy E.P ((st.put C.d2 (.val o y)).put C.d3 (.val r.t r.x)) mt (.tmp x) (.tmp k) v with
     |some U=>some ((U.put C.d4 .any).put C.d5 .any)
     |none=>none
    |_=>none
   |_,_,_=>none
  |_=>none
 |none=>none
theorem R2(X:bE E cx)(h:an cx m st T w){C:jc}(o:EW E st C=some st'):∃v2 v3 v4 v5 O R,(∀{Q:cZ},N cx Q .normal st'->ue cx.P (dR Q) C ⟨T,ah.D cx⟩ w v2 v3 v4 v5 O R):=by
 unfold EW at o
 split at o
 case h_2=>cases o
 rename_i mt x k au t a b aw ax v lx
 obtain⟨lk,ly,lz,lA,lB,lC,lD,lE,lF,lG,lH,y4,lI,n23⟩:=Rl lx
 split at o
 case h_2=>cases o
 rename_i ay y q
 split at o
 case h_2=>cases o
 rename_i az aB ll lJ lK
 simp only[Bool.and_eq_true]at ll
 obtain⟨lL,lM,lN,lO,lm,Y⟩:=ll
 split at o
 case h_2=>cases o
 rename_i r ln
 split at o
 case h_2=>cases o
 rename_i lP lo
 cases o
 rw[<-X.P]at q ln lo Y
 have lQ:C.d2<cx.n:=by rw[X.n];exact cR lL
 have lR:C.d3<cx.n:=by rw[X.n];exact cR lM
 have lp:C.d4<cx.n:=by rw[X.n];exact cR lN
 have lq:C.d5<cx.n:=by rw[X.n];exact cR lO
 unfold yt at q
 split at q
 case h_2=>cases q
 rename_i cO aD aE key lS Z lT
 split at q
 case h_2=>cases q
 rename_i aF aG lr la lU lV
 split at q
 case h_1=>cases q
 case h_3=>cases q
 rename_i U _
 simp only[Option.some.injEq,ew.mk.injEq,ao.val.injEq,and_true]at q
 obtain⟨rfl,ld⟩:=q
 have ld:=eq_of_heq ld
 subst ld
 obtain⟨s,lW,lX⟩:=Option.bind_eq_some_iff.1 lS
 have le:=di h lT
 have lY:=al.dj lV
 subst lY
 obtain⟨z,_,lf,lg⟩:=As lU
 simp only[Bool.and_eq_true]at U
 have ae:=ag.eq_of_beq U.1.1
 have lZ:=ag.eq_of_beq U.1.2
 subst ae
 subst lZ
 have l0:cO.k.flat=true:=by
  unfold MN at Y
  rw[Z]at Y
  simp only[la]at Y
  exact Y
 -- the state behind the sum
 have ls:T.size=cx.n:=h.size
 have lt:∀(v2:Value),ba w (av cx m st.ids) v2 cO.v ((bS (aV cO.k) cO.ps lr).getD (b9 cO.v))->
   ∃v3 v4 v5 O R s v0,(∀w',(execOp (Act.eval ((⟨T,ah.D cx⟩:Act).put (some C.d2) v2)) C.eJ).run cx.P w'=.ok (.value v3) w')/\
    (Instr.mapEntry mt (Act.eval ⟨T,ah.D cx⟩ (.tmp x)) (Act.eval ⟨T,ah.D cx⟩ (.tmp k))).run cx.P w=.ok (.tuple #[v0,.int .i64 s]) O/\v4=.tuple #[v0,.int .i64 s]/\v5=.int .i64 s/\
    (execOp (Act.eval (((((⟨T,ah.D cx⟩:Act).put (some C.d2) v2).put (some C.d3) v3).put (some C.d4) v4).put (some C.d5) v5)) C.kj).run cx.P O=.ok .skip R/\
    ak cx ((lP.put C.d4 .any).put C.d5 .any) (((T.setIfInBounds C.d2 v2).setIfInBounds C.d3 v3).setIfInBounds C.d4 v4|>.setIfInBounds C.d5 v5) R:=by
  intro v2 l3
  have lh:=h.put (d:=C.d2) (s:=.val cO.v ((bS (aV cO.k) cO.ps lr).getD (b9 cO.v))) (v:=v2) lQ l3
  obtain⟨v3,l4,l5⟩:=Cc (ox:=a) (oy:=b) (di lh lJ) (di lh lK) ln trivial
  have l6:=lh.put (d:=C.d3) (s:=.val r.t r.x) (v:=v3) lR (l5 _ _)
  obtain⟨v0,s,O,R,lu,l7,li⟩:=MT l6 lo
  have l8:Act.eval ⟨(T.setIfInBounds C.d2 v2).setIfInBounds C.d3 v3,ah.D cx⟩ (.tmp x)=Act.eval ⟨T,ah.D cx⟩ (.tmp x):=(jk lD).trans (jk lC)
  have l9:Act.eval ⟨(T.setIfInBounds C.d2 v2).setIfInBounds C.d3 v3,ah.D cx⟩ (.tmp k)=Act.eval ⟨T,ah.D cx⟩ (.tmp k):=(jk lH).trans (jk lG)
  rw[l8,l9]at lu
  refine⟨v3,_,_,O,R,s,v0,fun w'=>cn (by simp only[execOp,ly]) (l4 w'),lu,rfl,rfl,?_,⟨m,(li.put lp (s:=.any) trivial).put lq (s:=.any) trivial⟩⟩
  have aa:Act.eval ⟨(((T.setIfInBounds C.d2 v2).setIfInBounds C.d3 v3).setIfInBounds C.d4 (.tuple #[v0,.int .i64 s])).setIfInBounds C.d5 (.int .i64 s),ah.D cx⟩ (.tmp C.d5)=.int .i64 s:=eval_put (by simp only[Array.size_setIfInBounds];rw[ls];exact lq)
  have ab:Act.eval ⟨(((T.setIfInBounds C.d2 v2).setIfInBounds C.d3 v3).setIfInBounds C.d4 (.tuple #[v0,.int .i64 s])).setIfInBounds C.d5 (.int .i64 s),ah.D cx⟩ (.tmp x)=Act.eval ⟨(T.setIfInBounds C.d2 v2).setIfInBounds C.d3 v3,ah.D cx⟩ (.tmp x):=(jk lF).trans (jk lE)
  have ad:Act.eval ⟨(((T.setIfInBounds C.d2 v2).setIfInBounds C.d3 v3).setIfInBounds C.d4 (.tuple #[v0,.int .i64 s])).setIfInBounds C.d5 (.int .i64 s),ah.D cx⟩ v=Act.eval ⟨(T.setIfInBounds C.d2 v2).setIfInBounds C.d3 v3,ah.D cx⟩ v:=(jk lI).trans (jk y4)
  show(execOp (Act.eval ⟨(((T.setIfInBounds C.d2 v2).setIfInBounds C.d3 v3).setIfInBounds C.d4 (.tuple #[v0,.int .i64 s])).setIfInBounds C.d5 (.int .i64 s),ah.D cx⟩) C.kj).run cx.P O=.ok .skip R
  simp only[execOp,lB,Sem.run_bind,aa,ab,ad,l7,Result.andThen_ok,Sem.run_pure]
 rcases C3 h (bf h lW) lX with ⟨W,af⟩|⟨g,es,aH,W,ai,lv⟩
 ·obtain⟨v2,lb,_⟩:=rk (w':=w) (M':=av cx m st.ids) (d:=jA) (d':=16) Z la U.2 (by decide) lf lg le (es:=#[]) (ps:=cO.ps) (by rw[af];trivial)
  obtain⟨v3,v4,v5,O,R,s,v0,_,lc,_⟩:=lt v2 lb
  rw[W]at lc
  unfold Instr.mapEntry at lc
  simp only[Sem.run_bind,run_underlying Z,Result.andThen_ok]at lc
  exact absurd lc (jo _ _ _ _)
 ·obtain⟨v2,lb,_⟩:=rk (d:=jA) (d':=16) Z la U.2 (by decide) lf lg le lv
  obtain⟨v3,v4,v5,O,R,s,v0,li,lj,e4,aj,am,ap⟩:=lt v2 lb
  rw[W]at lj
  obtain⟨lw,aC,aA,bW⟩:=VD (d:=jA) (d':=16) Z la U.2 (by decide) l0 lm lf lg le ai lv lj
  have:lw=v2:=oh lm aC lb
  subst this
  refine⟨lw,v3,v4,v5,O,R,fun{Q} aq=>⟨?_,?_,li,?_,?_,am,rfl,aq _ _ ap⟩⟩
  ·exact cn (s:=Instr.lookup mt (Act.eval ⟨T,ah.D cx⟩ (.tmp x)) (Act.eval ⟨T,ah.D cx⟩ (.tmp k)) false) (by simp only[execOp,lk]) (by rw[W];exact aA)
  ·exact cn (s:=Instr.lookup mt (Act.eval ⟨T,ah.D cx⟩ (.tmp x)) (Act.eval ⟨T,ah.D cx⟩ (.tmp k)) false) (by simp only[execOp,lk]) (by rw[W];exact bW)
  ·exact cn (s:=Instr.mapEntry mt (Act.eval ⟨T,ah.D cx⟩ (.tmp x)) (Act.eval ⟨T,ah.D cx⟩ (.tmp k))) (by simp only[execOp,lz]) (by rw[W,e4];exact lj)
  ·intro w'
   have ar:Act.eval ⟨T.setIfInBounds C.d4 v4,ah.D cx⟩ (.tmp C.d4)=v4:=eval_put (by rw[ls];exact lp)
   show(execOp (Act.eval ⟨T.setIfInBounds C.d4 v4,ah.D cx⟩) C.gW).run cx.P w'=_
   subst e4
   subst aj
   simp only[execOp,lA,ar,Instr.extract]
   rfl
theorem NF{id:Nat}{l:List Oper}(Y:bE E cx)(o q:List Nat)(c2 c3 c4 c5 c6:Nat){C:jc}(Z:E.P.follows .mixedOrders=true)(O:FX .any l.toArray o q c2 c3 c4 c5 c6=true)(la:o.length+(q.length+5)=l.length)(lb:zh l.toArray c2 c3 c4 c5 c6=some C)
  (h:∀T w,ak cx st T w->wpQuiet cx.P l.toArray (fun _=>True) (wpQuiet cx.P l.toArray (Ext w) (fun lc=>∀w',Ext w w'->∃v2 v3 v4 v5 U X,ue cx.P (dR Q) C lc w' v2 v3 v4 v5 U X) (bK l.toArray q)) (bK l.toArray o) ⟨T,ah.D cx⟩):
  W cx Q (.region id l.toArray true) st:=by
 intro T w ld
 have le:Region.noSelect l.toArray=true:=by
  unfold FX mE at O
  simp only[Bool.and_eq_true]at O
  exact O.1.1.1
 refine Code.wp_mono (Q:=dR Q) (fun e a w h=>by obtain⟨rfl,h⟩:=h;exact h)
  (xH (C:=Ext w) o q [c2,c4] (ur .any l.toArray c2 c3 c4 c5 c6) _ (by rw[Y.P];exact Z) O (fun d j ai lf=>?_) (fun e a w h=>h.1)
   (fun d a w ai lg=>by
    obtain⟨v2,v3,v4,v5,U,X,F⟩:=lg
    exact UC le (fun e a w h=>h.1) lb ai F) la (Ext.refl w).drew (h T w ld))
 simp only[ur,Bool.and_eq_true]at ai
 have:=List.all_eq_true.1 ai.1.1.1 j lf
 rw[Bool.or_eq_true]at this
 rcases this with R|R
 ·rw[Nat.eq_of_beq_eq_true R];simp
 ·rw[Nat.eq_of_beq_eq_true R];simp
end
end Go.Ev
namespace Go.Ev
open Go Go.RowKit
variable [b8]
section
variable {P:Program} {ops:Array Oper} {md:Region.Mode} {S:World->Prop} {Q:Exit->Act->World->Prop}
def jf(P:Program)(ops:Array Oper)(Q:Exit->Act->World->Prop)(S:World->Prop):List Oper->Act->World->Prop
 |[],a,w=>Q .normal a w
 |aa::l,a,w=>if Region.wanted aa (yielded ops a.tmps)then aa.wp P a w (fun o w'=>S w'/\jf P ops Q S l o w') Q else S w/\jf P ops Q S l (a.put aa.dst undef) w
theorem Kg:∀(l:List Nat) (done:Array Bool) (a:Act) (w:World),fM md ops l done=true->jf P ops Q S (bK ops l) a w->wpAnyH P md ops Q S l.length done a w
 |[],_,_,_,o,h=>⟨by simpa[fM]using o,h⟩
 |i::l,done,a,w,o,h=>by
  simp only[fM,Bool.and_eq_true,decide_eq_true_eq]at o
  have hi:i∈Region.ready md ops done:=by rw[o.1];exact List.mem_cons_self
  obtain⟨_,aa,R,_⟩:=mem_ready.1 hi
  unfold bK at h
  rw[R]at h
  refine⟨fun U=>(by rw[o.1]at U;cases U),fun k W=>?_⟩
  rw[o.1]at W
  have X:k=i:=by simpa using W
  subst X
  have Y:wpOp P ops Q k (fun q w'=>S w'/\jf P ops Q S (bK ops l) q w') a w:=by
   unfold wpOp
   simp only[R]
   unfold jf at h
   split
   ·rename_i O;rw[if_pos O]at h;exact .inl h
   ·rename_i O;rw[if_neg O]at h;exact h
  exact wpOp_mono (fun q w' h'=>⟨h'.1,Kg l _ q w' o.2 h'.2⟩) Y
def D8(aa:Oper):Bool:=il aa||oS aa
def vT(ops:Array Oper):List Nat->Bool
 |[]=>true
 |i::is=>(match ops[i]? with
  |some aa=>D8 aa
  |none=>false)&&vT ops is
theorem TV{aa:Oper}(h:D8 aa=true){ρ:Operand->Value}{w q:World}{n:Next}(o:(execOp ρ aa).run P w=.ok n q):∃v,n=.value v:=by
 unfold D8 at h
 rw[Bool.or_eq_true]at h
 rcases h with h|h
 ·exact B1 h o
 ·exact Gi h o
theorem T0{g:Nat}{Z:Array Bool->Bool}{K:Act->Prop}{w:World}(la:S w)(lb:Region.noSelect ops=true)(lc:∀c a w,¬Q (.panic c) a w)(lg:∀done a,Z done=true->K a->wpAnyH P md ops Q S g done a w):
  ∀(q:List Nat) (done:Array Bool) (a:Act),vT ops q=true->fs md ops Z q done=true->wpQuiet P ops S K (bK ops q) a->wpAnyH P md ops Q S (q.length+g) done a w:=by
 intro q
 induction q with
 |nil=>intro done a _ o h;rw[List.length_nil,Nat.zero_add];exact lg _ _ o h
 |cons i is ld=>
  intro done a O o h
  unfold vT at O
  unfold fs at o
  simp only[Bool.and_eq_true]at O o
  obtain⟨⟨le,lf⟩,o⟩:=o
  obtain⟨W,O⟩:=O
  unfold bK at h
  split at W
  ·rename_i aa R
   rw[R]at h
   rw[List.length_cons,Nat.succ_add]
   by_cases U:Region.wanted aa (yielded ops a.tmps)=true
   ·unfold wpQuiet at h
    rw[if_pos U]at h
    obtain⟨v,aM,lh⟩:=h
    refine wpAnyH_first R (Region.noSelect_spec lb) (fun c a w X=>absurd X (lc _ _ _)) (is.length+g) done a w (Region.free_spec R lf) (by simpa using le) (v:=v) (.inl ⟨U,fun w' li=>?_⟩) la (ld _ _ O o lh)
    have:=aM w' li
    unfold Oper.quietAt at this
    cases Y:(execOp a.eval aa).run P w' with
    |halt e lj=>rw[Y]at this;exact this.elim
    |ok n lj=>
     obtain⟨u,rfl⟩:=TV W Y
     rw[Y]at this
     obtain⟨rfl,rfl⟩:=this
     rfl
   ·unfold wpQuiet at h
    rw[if_neg U]at h
    exact wpAnyH_first R (Region.noSelect_spec lb) (fun c a w X=>absurd X (lc _ _ _)) (is.length+g) done a w (Region.free_spec R lf) (by simpa using le) (v:=undef) (.inr ⟨by simpa using U,rfl⟩) la (ld _ _ O o h)
  ·cases W
def zH(md:Region.Mode)(ops:Array Oper)(o q:List Nat):Bool:=Region.noSelect ops&&(vT ops o&&fs md ops (fM md ops q) o (Array.replicate ops.size false))
theorem VH{id:Nat}{a:Act}{w:World}{l:List Oper}(q o:List Nat)(U:P.follows .mixedOrders=true)(O:zH .any l.toArray q o=true)(W:q.length+o.length=l.length)
  (R:S {w with drawn:=w.drawn+1})(h:wpQuiet P l.toArray S (fun X=>∀w',S w'->jf P l.toArray (dR Q) S (bK l.toArray o) X w') (bK l.toArray q) a):(Code.region id l.toArray true).wp P Q a w:=by
 refine Code.wp_mono (Q:=dR Q) (fun e a w h=>by obtain⟨rfl,h⟩:=h;exact h) ?_
 unfold zH at O
 simp only[Bool.and_eq_true]at O
 obtain⟨Y,Z,la⟩:=O
 refine wp_region_any U (wpAny_of_held (S:=S) _ _ _ _ ?_)
 have ak:=T0 (Q:=dR Q) (S:=S) (w:={w with drawn:=w.drawn+1}) (g:=o.length) R Y (fun c a w h=>Exit.noConfusion h.1) (fun done a ai lb=>Kg o done a _ ai (lb _ R)) q _ a Z la h
 rw[W]at ak
 simpa using ak
end
end Go.Ev
namespace Go.Ev
open Go Go.RowKit
variable [b8]
variable {cx:bI} {m:Nat->Value} {st st':af} {T:Array Value} {w w':World} {E:Env} {Q:cZ} {ops:Array Oper} {l:List Oper}
variable [ah cx]
def yb(E:Env)(st:af)(aa:Oper)(orc:List al):Option ew:=
 match dA E.P st aa.op orc with
 |some r=>some r
 |none=>match qZ E.P st aa orc with
 |some r=>some r
 |none=>match aa.op with
  |.load t x=>tR E.P st t x orc
  |.call c=>nR E st c orc
  |_=>none
theorem RR(R:bE E cx)(h:an cx m st T w){aa:Oper}{orc:List al}{r:ew}(o:yb E st aa orc=some r)(U:bP r.ob){K:Act->World->Prop}
  (W:∀v w',Ext w w'->aT w' (av cx m st.ids) m v r.aU->K (Act.put ⟨T,ah.D cx⟩ aa.dst v) w'):aa.wp cx.P ⟨T,ah.D cx⟩ w K Q:=by
 unfold yb at o
 split at o
 ·rename_i Z O
  cases o
  rw[<-R.P]at O
  obtain⟨v,ai,q⟩:=EG h O U
  exact gT (ai w (Ext.refl w)) (W v w (Ext.refl w) q)
 ·split at o
  ·rename_i Z O
   cases o
   rw[<-R.P]at O
   obtain⟨v,X,q⟩:=Eg h O U
   exact gT (X w (Ext.refl w)) (W v w (Ext.refl w) q)
  split at o
  ·rename_i t x Y
   rw[<-R.P]at o
   obtain⟨v,X,q⟩:=Cr h o U
   exact gT (cn (by simp only[execOp,Y]) (X w (Ext.refl w))) (W v w (Ext.refl w) q)
  ·rename_i c Y
   obtain⟨f0,args,la,lb⟩:=tx R h Y o U
   unfold Oper.wp
   rw[la w]
   refine lb.mono ?_
   rintro e w' ⟨v,rfl,lc,q⟩
   exact W v w' lc q
  ·cases o
theorem Q7{id:Nat}{l:List Oper}(o q:List Nat)(O:cx.P.follows .mixedOrders=true)(R:zH .any l.toArray o q=true)(U:o.length+q.length=l.length)
  (h:∀T w,ak cx st T w->wpQuiet cx.P l.toArray (Ext w) (fun X=>∀w',Ext w w'->jf cx.P l.toArray (dR Q) (Ext w) (bK l.toArray q) X w') (bK l.toArray o) ⟨T,ah.D cx⟩):
  W cx Q (.region id l.toArray true) st:=by
 intro T w Y
 exact VH (S:=Ext w) o q O R U (Ext.refl w).drew (h T w Y)
theorem UE{w0:World}{aa:Oper}{d:Nat}{orc:List al}{r:ew}(q:bE E cx)(W:eF ops st aa=some true)(ai:aa.dst=some d)(X:Nat.blt d E.n=true)(Y:yb E st aa orc=some r)(Z:bP r.ob)
  (la:∀T w,ak cx (st.put d r.aU) T w->Ext w0 w->jf cx.P ops (dR Q) (Ext w0) l ⟨T,ah.D cx⟩ w):∀T w,ak cx st T w->Ext w0 w->jf cx.P ops (dR Q) (Ext w0) (aa::l) ⟨T,ah.D cx⟩ w:=by
 intro T w O R
 unfold jf
 rw[if_pos (show Region.wanted aa (yielded ops T)=true from iC O W)]
 obtain⟨m,U⟩:=O
 refine RR q U Y Z fun v w' o lb=>⟨R.trans o,?_⟩
 rw[ai]
 exact la _ w' ⟨m,(U.ext o).put (by rw[q.n];exact cR X) lb⟩ (R.trans o)
end Go.Ev
namespace Go.Ev
open Go Go.RowKit
variable [b8]
variable {cx:bI} {st st':af} {T:Array Value} {w:World} {Q:cZ} {ops:Array Oper} {md:Region.Mode}
variable [ah cx]
def tc(cx:bI)[ah cx](ops:Array Oper)(aa:Oper)(s o:af):Prop:=∀Q:cZ,N cx Q .normal o->bU cx ops Q [aa] s
def Ac(cx:bI)[ah cx](s:af):cZ:=fun e a w=>e=.normal/\∃T,a=⟨T,ah.D cx⟩/\ak cx s T w
theorem Mn{Sg:Nat->Array Bool->af->Prop}(W:∀g done s,Sg (g+1) done s->∀i∈Region.ready md ops done,∃aa o,ops[i]? =some aa/\Sg g (done.setIfInBounds i true) o/\tc cx ops aa s o)
  (R:∀done s,Sg 0 done s->Region.ready md ops done=[])(U:∀g done s,Sg g done s->Region.ready md ops done=[]->N cx Q .normal s):
  ∀g done s T w,Sg g done s->ak cx s T w->wpAny cx.P md ops Q g done ⟨T,ah.D cx⟩ w
 |0,done,s,T,w,q,O=>⟨R done s q,U 0 done s q (R done s q) T w O⟩
 |g+1,done,s,T,w,q,O=>by
  refine⟨fun h=>U (g+1) done s q h T w O,fun i hi=>?_⟩
  obtain⟨aa,o,X,Y,Z⟩:=W g done s q i hi
  have h:=Z (Ac cx o) (fun T w h=>⟨rfl,T,rfl,h⟩) T w O
  have la:wpOp cx.P ops (Ac cx o) i (wpList cx.P ops (Ac cx o) []) ⟨T,ah.D cx⟩ w:=by unfold wpOp;simp only[X];exact h
  refine wpOp_mono (fun lb w' h'=>?_) (Am (fun e a w h=>h.1) la)
  obtain⟨_,lc,rfl,ld⟩:Ac cx o .normal lb w':=h'
  exact Mn W R U g _ o lc w' Y ld
theorem PB{id:Nat}(q:cx.P.follows .mixedOrders=true){Sg:Nat->Array Bool->af->Prop}(O:∀g done s,Sg (g+1) done s->∀i∈Region.ready .any ops done,∃aa o,ops[i]? =some aa/\Sg g (done.setIfInBounds i true) o/\tc cx ops aa s o)
  (R:∀done s,Sg 0 done s->Region.ready .any ops done=[])(U:∀g done s,Sg g done s->Region.ready .any ops done=[]->N cx Q .normal s)(X:Sg ops.size (Array.replicate ops.size false) st):
  W cx Q (.region id ops true) st:=fun T w Y=>
 wp_region_any q (Mn O R U _ _ _ T _ X (Y.ext (Ext.refl w).drew))
/-! Sets of operations that are done, as0 lists, the last one first. -/
def mO(n:Nat)(o:List Nat):Array Bool:=((List.range n).map fun i=>jx i o).toArray
def nF(i:Nat):List Nat->List Nat
 |[]=>[i]
 |j::o=>bif Nat.blt j i then i::j::o else j::nF i o
def vz:List Bool->List Bool->Bool
 |[],[]=>true
 |a::l,b::m=>(bif a then b else !b)&&vz l m
 |_,_=>false
theorem DW:∀{l m:List Bool},vz l m=true->l=m
 |[],[],_=>rfl
 |a::l,b::m,h=>by
  unfold vz at h
  rw[Bool.and_eq_true]at h
  rw[DW h.2]
  cases a<;>cases b<;>simp_all
 |[],_::_,h=>by cases h
 |_::_,[],h=>by cases h
def sC:List Nat->List Nat->Bool
 |[],[]=>true
 |a::l,b::m=>Nat.beq a b&&sC l m
 |_,_=>false
theorem FH:∀{l m:List Nat},sC l m=true->l=m
 |[],[],_=>rfl
 |a::l,b::m,h=>by
  unfold sC at h
  rw[Bool.and_eq_true]at h
  rw[FH h.2,Nat.eq_of_beq_eq_true h.1]
 |[],_::_,h=>by cases h
 |_::_,[],h=>by cases h
def Dr(o:List Nat)(q:List (List Nat)):Bool:=q.any (sC o)
theorem HN{D:List Nat}{o:List (List Nat)}(h:Dr D o=true):D∈o:=by
 obtain⟨x,q,e⟩:=List.any_eq_true.1 h
 rw[FH e];exact q
def KV(md:Region.Mode)(ops:Array Oper)(q:List (List Nat))(o:List Nat)(i:Nat):Bool:=
 Dr (nF i o) q&&(Nat.beq (nF i o).length (o.length+1)&&vz (mO ops.size (nF i o)).toList ((mO ops.size o).setIfInBounds i true).toList)
def EE(md:Region.Mode)(ops:Array Oper)(F:List Nat)(q:List (List Nat)):Bool:=
 Dr [] q&&(vz (mO ops.size []).toList (Array.replicate ops.size false).toList&&q.all fun o=>
  (Region.ready md ops (mO ops.size o)).all (KV md ops q o)&&((!(Region.ready md ops (mO ops.size o)).isEmpty&&!Nat.beq o.length ops.size)||(sC o F&&(Region.ready md ops (mO ops.size o)).isEmpty)))
theorem Ok{id:Nat}(lc:cx.P.follows .mixedOrders=true){F:List Nat}{la:List (List Nat)}(lb:EE .any ops F la=true){S:List Nat->Option af}
  (ld:∀q∈la,∀i∈Region.ready .any ops (mO ops.size q),∃aa s X,ops[i]? =some aa/\S q=some s/\S (nF i q)=some X/\tc cx ops aa s X)(le:S []=some st)(lf:∀s,S F=some s->N cx Q .normal s):
  W cx Q (.region id ops true) st:=by
 unfold EE at lb
 simp only[Bool.and_eq_true]at lb
 obtain⟨lg,lh,Y⟩:=lb
 rw[List.all_eq_true]at Y
 refine PB lc (Sg:=fun g done s=>∃q∈la,g+q.length=ops.size/\done=mO ops.size q/\S q=some s) ?_ ?_ ?_ ?_
 ·rintro g done s ⟨q,R,Z,rfl,U⟩ i hi
  obtain⟨aa,lm,X,li,ae,lj,lk⟩:=ld q R i hi
  rw[U]at ae
  cases ae
  have O:=Y q R
  rw[Bool.and_eq_true]at O
  have o:=List.all_eq_true.1 O.1 i hi
  unfold KV at o
  simp only[Bool.and_eq_true]at o
  refine⟨aa,X,li,⟨nF i q,HN o.1,?_,?_,lj⟩,lk⟩
  ·have:=Nat.eq_of_beq_eq_true o.2.1
   omega
  ·exact(Array.ext' (DW o.2.2)).symm
 ·rintro done s ⟨q,R,Z,rfl,U⟩
  have O:=Y q R
  simp only[Bool.and_eq_true,Bool.or_eq_true,Bool.not_eq_true']at O
  rcases O.2 with ⟨_,o⟩|⟨_,o⟩
  ·rw[Nat.zero_add]at Z
   rw[Z]at o
   rw[show Nat.beq ops.size ops.size=true from Nat.beq_refl _]at o
   cases o
  ·simpa using o
 ·rintro g done s ⟨q,R,Z,rfl,U⟩ ll
  have O:=Y q R
  simp only[Bool.and_eq_true,Bool.or_eq_true,Bool.not_eq_true']at O
  rcases O.2 with ⟨o,_⟩|⟨o,_⟩
  ·rw[ll]at o
   cases o
  ·rw[FH o]at U
   exact lf s U
 ·refine⟨[],HN lg,by simp,?_,le⟩
  exact(Array.ext' (DW lh)).symm
end Go.Ev
