/- Calls that change the caller's boxed variables and owned slices. -/
import Derived.Test.YteopobecmacgdaaGreatDoorMM4
import Derived.StillTail
import Derived.Laws.IdiomRangeMap
import Derived.Lib.SliceRun
import Derived.OrdersHeld
set_option linter.unusedSectionVars false
set_option linter.unusedVariables false
set_option linter.unusedSimpArgs false
namespace Go.Ev
open Go Go.RowKit
variable [b8]
variable {cx:bB} {m:Nat->Value} {st st':af} {T:Array Value} {w w':World} {E:Env} {Q:cO} {ops:Array Oper} {l:List Oper}
variable [ai cx]
def sF(ρ:List (Nat×Nat)):List Nat->Option (List Nat)
 |[]=>some []
 |b::bs=>match look ρ b,sF ρ bs with
  |some o,some q=>some (o::q)
  |_,_=>none
def kr(ρ:List (Nat×Nat)):List bV->Option (List bV)
 |[]=>some []
 |.v u::l=>match kr ρ l with
  |some o=>some (.v u::o)
  |none=>none
 |.r b::l=>match look ρ b,kr ρ l with
  |some q,some o=>some (.r q::o)
  |_,_=>none
 |.a::l=>match kr ρ l with
  |some o=>some (.a::o)
  |none=>none
def ao.bZ(ρ:List (Nat×Nat)):ao->ao
 |.ptr b off=>match look ρ b with
  |some o=>.ptr o off
  |none=>.any
 |.eX b=>match look ρ b with
  |some o=>.eX o
  |none=>.any
 |.row b=>match look ρ b with
  |some o=>.row o
  |none=>.any
 |.dN b i off q=>match look ρ b with
  |some o=>.dN o i off q
  |none=>.any
 |.iter b=>match look ρ b with
  |some o=>.iter o
  |none=>.any
 |.osl b=>match look ρ b with
  |some o=>.osl o
  |none=>.any
 |.fC b i=>match look ρ b with
  |some o=>.fC o i
  |none=>.any
 |.sub b i=>match look ρ b with
  |some o=>.sub o i
  |none=>.any
 |.dM b i off q=>match look ρ b with
  |some o=>.dM o i off q
  |none=>.any
 |.eV b i j off q=>match look ρ b with
  |some o=>.eV o i j off q
  |none=>.any
 |.dz b p=>match look ρ b with
  |some o=>.dz o p
  |none=>.any
 |.clos f bs=>match sF ρ bs with
  |some O=>.clos f O
  |none=>.any
 |.b9 f b=>match look ρ b with
  |some o=>.b9 f o
  |none=>.any
 |.eO l=>match kr ρ l with
  |some L=>.eO L
  |none=>.any
 |.fM l=>match kr ρ l with
  |some L=>.fM L
  |none=>.any
 |s=>s
def dT(ρ:List (Nat×Nat))(ad:List (Nat×bT)):List (Nat×Nat)->List (Nat×bT)
 |[]=>[]
 |(i,j)::l=>match look ad i with
  |some c=>(j,c.map (ao.bZ ρ))::dT ρ ad l
  |none=>dT ρ ad l
def ed(rw:List (Nat×cE)):List (Nat×Nat)->List (Nat×cE)
 |[]=>[]
 |(i,j)::l=>match look rw i with
  |some c=>(j,c)::ed rw l
  |none=>ed rw l
theorem kh{ρ:List (Nat×Nat)}{ad:List (Nat×bT)}:∀{l:List (Nat×Nat)} {j:Nat} {c':bT},(j,c')∈dT ρ ad l->∃i c,(i,j)∈l/\(i,c)∈ad/\c'=c.map (ao.bZ ρ)
 |[],_,_,h=>by simp[dT]at h
 |(i,R)::l,j,c',h=>by
  unfold dT at h
  split at h
  ·rename_i c O
   rcases List.mem_cons.1 h with h|h
   ·cases h;exact⟨i,c,List.mem_cons_self,a8 O,rfl⟩
   ·obtain⟨o,c2,q,L⟩:=kh h;exact⟨o,c2,List.mem_cons_of_mem _ q,L⟩
  ·obtain⟨o,c2,q,L⟩:=kh h;exact⟨o,c2,List.mem_cons_of_mem _ q,L⟩
theorem kG{rw:List (Nat×cE)}:∀{l:List (Nat×Nat)} {j:Nat} {c:cE},(j,c)∈ed rw l->∃i,(i,j)∈l/\(i,c)∈rw
 |[],_,_,h=>by simp[ed]at h
 |(i,R)::l,j,c',h=>by
  unfold ed at h
  split at h
  ·rename_i c O
   rcases List.mem_cons.1 h with h|h
   ·cases h;exact⟨i,List.mem_cons_self,a8 O⟩
   ·obtain⟨o,q,L⟩:=kG h;exact⟨o,List.mem_cons_of_mem _ q,L⟩
  ·obtain⟨o,q,L⟩:=kG h;exact⟨o,List.mem_cons_of_mem _ q,L⟩
def inv(ρ:List (Nat×Nat))(j:Nat):Option Nat:=look (ρ.map fun p=>(p.2,p.1)) j
theorem r2{α:Type}:∀{l:List (Nat×α)} {n:Nat} {v:α},(l.map (·.1)).Nodup->(n,v)∈l->look l n=some v
 |[],_,_,_,h=>by simp at h
 |(k,u)::r,n,v,o,h=>by
  simp only[List.map_cons,List.nodup_cons]at o
  unfold look
  rcases List.mem_cons.1 h with h|h
  ·cases h;simp[Nat.beq_refl]
  ·cases q:Nat.beq k n with
   |true=>
    have e:=Nat.eq_of_beq_eq_true q
    subst e
    exact absurd (List.mem_map.2 ⟨_,h,rfl⟩) o.1
   |false=>exact r2 o.2 h
theorem o9{ρ:List (Nat×Nat)}{i j:Nat}(o:(ρ.map (·.2)).Nodup)(h:(i,j)∈ρ):inv ρ j=some i:=by
 refine r2 ?_ (List.mem_map.2 ⟨_,h,rfl⟩)
 simpa[List.map_map,Function.comp_def]using o
theorem JO{ρ:List (Nat×Nat)}{i j:Nat}(h:inv ρ j=some i):(i,j)∈ρ:=by
 obtain⟨p,o,q⟩:=List.mem_map.1 (a8 h)
 cases q
 exact o
theorem KQ{ρ:List (Nat×Nat)}{m ay:Nat->Value}(q:∀i j,(i,j)∈ρ->ay j=m i):∀{bs o:List Nat},sF ρ bs=some o->o.map ay=bs.map m
 |[],_,h=>by cases h;rfl
 |b::bs,o,h=>by
  unfold sF at h
  split at h
  ·rename_i R U L O
   cases h
   rw[List.map_cons,List.map_cons,q _ _ (a8 L),KQ q O]
  ·cases h
theorem py{ρ:List (Nat×Nat)}{M:Nat->Prop}{m ay:Nat->Value}(O:∀i j,(i,j)∈ρ->ay j=m i):∀{vs:List Value} {l q:List bV},kr ρ l=some q->cX w M m vs l->cX w M ay vs q
 |vs,[],_,h,o=>by cases h;cases vs<;>exact o
 |[],.v _::_,_,_,o=>o.elim
 |[],.r _::_,_,_,o=>o.elim
 |[],.a::_,_,_,o=>o.elim
 |v::vs,.a::l,q,h,o=>by
  unfold kr at h
  split at h
  ·rename_i l2 L;cases h;exact py (vs:=vs) (l:=l) O L o
  ·cases h
 |v::vs,.v u::l,q,h,o=>by
  unfold kr at h
  split at h
  ·rename_i l2 L;cases h;exact⟨o.1,py O L o.2⟩
  ·cases h
 |v::vs,.r b::l,q,h,o=>by
  unfold kr at h
  split at h
  ·rename_i U l2 R L;cases h;exact⟨by rw[O _ _ (a8 R)];exact o.1,py O L o.2⟩
  ·cases h
theorem tx{ρ:List (Nat×Nat)}{M:Nat->Prop}{m ay:Nat->Value}(q:∀i j,(i,j)∈ρ->ay j=m i){v:Value}{s:ao}(h:aS w M m v s):aS w M ay v (s.bZ ρ):=by
 cases s with
 |any=>trivial
 |undef=>exact h
 |val t x=>exact h
 |dD l=>exact h
 |vptr t x=>exact h
 |ptr b off=>
  simp only[ao.bZ]
  split
  ·rename_i O o;obtain⟨g,L,R⟩:=h;exact⟨g,by rw[q _ _ (a8 o)];exact L,R⟩
  ·trivial
 |eX b=>
  simp only[ao.bZ]
  split
  ·rename_i O o;show _\/v=ay O;rw[q _ _ (a8 o)];exact h
  ·trivial
 |row b=>
  simp only[ao.bZ]
  split
  ·rename_i O o;show v=ay O;rw[q _ _ (a8 o)];exact h
  ·trivial
 |dN b i off Y=>
  simp only[ao.bZ]
  split
  ·rename_i O o;obtain⟨g,n,cap,L,R⟩:=h;exact⟨g,n,cap,by rw[q _ _ (a8 o)];exact L,R⟩
  ·trivial
 |iter b=>
  simp only[ao.bZ]
  split
  ·rename_i O o;show v=ay O;rw[q _ _ (a8 o)];exact h
  ·trivial
 |osl b=>
  simp only[ao.bZ]
  split
  ·rename_i O o;obtain⟨us,L⟩:=h;exact⟨us,by rw[q _ _ (a8 o)];exact L⟩
  ·trivial
 |fC b i=>
  simp only[ao.bZ]
  split
  ·rename_i O o;obtain⟨g,n,cap,us,L,R⟩:=h;exact⟨g,n,cap,us,by rw[q _ _ (a8 o)];exact L,R⟩
  ·trivial
 |sub b i=>
  simp only[ao.bZ]
  split
  ·rename_i O o;obtain⟨Z,us,L,R⟩:=h;exact⟨Z,us,by rw[q _ _ (a8 o)];exact L,R⟩
  ·trivial
 |dz b p=>
  simp only[ao.bZ]
  split
  ·rename_i O o;obtain⟨g,L,R⟩:=h;exact⟨g,by rw[q _ _ (a8 o)];exact L,R⟩
  ·trivial
 |clos f bs=>
  simp only[ao.bZ]
  split
  ·rename_i lb o;show v=_;rw[KQ q o];exact h
  ·trivial
 |fM l=>
  simp only[ao.bZ]
  split
  ·rename_i la U;obtain⟨vs,e,W⟩:=h;exact⟨vs,e,py q U W⟩
  ·trivial
 |eO l=>
  simp only[ao.bZ]
  split
  ·rename_i la U;obtain⟨vs,e,W⟩:=h;exact⟨vs,e,py q U W⟩
  ·trivial
 |dM b i off Y=>
  simp only[ao.bZ]
  split
  ·rename_i O o;obtain⟨g,n,cap,us,L,R⟩:=h;exact⟨g,n,cap,us,by rw[q _ _ (a8 o)];exact L,R⟩
  ·trivial
 |eV b i j off Y=>
  simp only[ao.bZ]
  split
  ·rename_i O o;obtain⟨r,us,g,n,cap,L,R⟩:=h;exact⟨r,us,g,n,cap,by rw[q _ _ (a8 o)];exact L,R⟩
  ·trivial
 |ah n=>exact h
 |b9 f b=>
  simp only[ao.bZ]
  split
  ·rename_i O o;show v=_;rw[q _ _ (a8 o)];exact h
  ·trivial
def j9:Nat->List ao->List (Nat×ao)
 |_,[]=>[]
 |k,u::us=>(k,u)::j9 (k+1) us
theorem IE{M:Nat->Prop}{m:Nat->Value}:∀{vs:List Value} {q:List ao} (k:Nat) {T:Array Value},ct w M m vs q->(∀i v,vs[i]? =some v->T[k+i]? =some v)->
  ∀i aO,(i,aO)∈j9 k q->∃v,T[i]? =some v/\aS w M m v aO
 |[],[],k,T,_,_,i,aO,o=>by simp[j9]at o
 |[],_::_,_,_,h,_,_,_,_=>h.elim
 |_::_,[],_,_,h,_,_,_,_=>h.elim
 |v::vs,a::q,k,T,⟨O,R⟩,L,i,aO,o=>by
  rcases List.mem_cons.1 o with o|o
  ·cases o
   exact⟨v,by have:=L 0 v rfl;simpa using this,O⟩
  ·exact IE (k+1) R (fun j u U=>by have:=L (j+1) u (by simpa using U);rw[<-this];congr 1;omega) i aO o
def iG(st:af)(n:Nat)(ρ:List (Nat×Nat))(o:List ao):Option af:=
 match nodupB (ρ.map (·.1)),nodupB (ρ.map (·.2)),nodupB (af.ids ⟨[],dT ρ st.ad ρ,ed st.rw ρ⟩),Nat.ble o.length n with
 |true,true,true,true=>some ⟨j9 0 (o.map (ao.bZ ρ)),dT ρ st.ad ρ,ed st.rw ρ⟩
 |_,_,_,_=>none
def sub(cx:bB)(m:Nat->Value)(st:af)(w:World)(n:Nat)(ρ:List (Nat×Nat)):bB:=
 {P:=cx.P,n:=n,w0:=w,X:=fun b=>∃i j,(i,j)∈ρ/\i∈st.ids/\own (m i) b,
  A:=fun b=>ar cx m st.ids b/\¬∃i j,(i,j)∈ρ/\i∈st.ids/\own (m i) b,m0:=fun j=>match inv ρ j with|some i=>m i|none=>undef}
theorem qD{ρ:List (Nat×Nat)}{ab:List (Nat×ao)}{j:Nat}(o:j∈af.ids ⟨ab,dT ρ st.ad ρ,ed st.rw ρ⟩):∃i,(i,j)∈ρ/\i∈st.ids:=by
 rcases List.mem_append.1 o with o|o
 ·obtain⟨⟨R,c⟩,q,rfl⟩:=List.mem_map.1 o
  obtain⟨i,c',L,O,_⟩:=kh q
  exact⟨i,L,List.mem_append.2 (.inl (List.mem_map.2 ⟨_,O,rfl⟩))⟩
 ·obtain⟨⟨R,c⟩,q,rfl⟩:=List.mem_map.1 o
  obtain⟨i,L,O⟩:=kG q
  exact⟨i,L,List.mem_append.2 (.inr (List.mem_map.2 ⟨_,O,rfl⟩))⟩
theorem sj{α:Type}{l:List (Nat×α)}(o:(l.map (·.1)).Nodup){i:Nat}{a b:α}(L:(i,a)∈l)(O:(i,b)∈l):a=b:=by
 have R:=r2 o L
 have q:=r2 o O
 rw[R]at q
 exact Option.some.inj q
theorem yU(h:an cx m st T w){n:Nat}{ρ:List (Nat×Nat)}{O:List ao}{li:af}(Y:iG st n ρ O=some li){vs:List Value}(lj:ct w (ar cx m st.ids) m vs O):
  an (sub cx m st w n ρ) (sub cx m st w n ρ).m0 li (vs.toArray++Array.replicate (n-vs.toArray.size) undef) w:=by
 unfold iG at Y
 split at Y
 case h_2=>cases Y
 rename_i lb lc ld lk
 cases Y
 have lb:=gq lb
 have lc:=gq lc
 have ld:=gq ld
 have lk:=Nat.le_of_ble_eq_true lk
 have L:∀i j,(i,j)∈ρ->(sub cx m st w n ρ).m0 j=m i:=by
  intro i j o
  show(match inv ρ j with|some i=>m i|none=>undef)=m i
  rw[o9 lc o]
 have lw:=kz lj
 have le:∀b,b<w.heap.size->ar (sub cx m st w n ρ) (sub cx m st w n ρ).m0 (af.ids ⟨j9 0 (O.map (ao.bZ ρ)),dT ρ st.ad ρ,ed st.rw ρ⟩) b->ar cx m st.ids b:=by
  rintro b _ (ln|⟨j,R,U⟩)
  ·exact ln.1
  ·obtain⟨i,o,q⟩:=qD R
   rw[L i j o]at U
   exact .inr ⟨i,q,U⟩
 have lf:∀b,b<w.heap.size->¬ar cx m st.ids b->w.heap[b]? =w.heap[b]? :=fun _ _ _=>rfl
 have ll:∀v s,aS w (ar cx m st.ids) m v s->aS w (ar (sub cx m st w n ρ) (sub cx m st w n ρ).m0 (af.ids ⟨j9 0 (O.map (ao.bZ ρ)),dT ρ st.ad ρ,ed st.rw ρ⟩)) (sub cx m st w n ρ).m0 v (s.bZ ρ):=
  fun v s lo=>tx L (fh lf le lo)
 refine{size:=?_,frame:=Frame.refl _ _,outer:=fun b U=>⟨h.DF U.1,U.2⟩,cJ:=?_,boxes:=?_,rows:=?_,apart:=?_,keys:=ld,fixed:=fun _ _ _ _ _=>rfl,kept:=fun _ _ _ _ _=>rfl}
 ·show(vs.toArray++Array.replicate (n-vs.toArray.size) undef).size=n
  simp only[Array.size_append,List.size_toArray,Array.size_replicate]
  omega
 ·have lp:ct w (ar (sub cx m st w n ρ) (sub cx m st w n ρ).m0 (af.ids ⟨j9 0 (O.map (ao.bZ ρ)),dT ρ st.ad ρ,ed st.rw ρ⟩)) (sub cx m st w n ρ).m0 vs (O.map (ao.bZ ρ)):=pc ll lj
  exact IE 0 lp (fun i v q=>by
   rw[Nat.zero_add,Array.getElem?_append_left (by have:=(List.getElem?_eq_some_iff.1 q).1;simpa using this)]
   simpa using q)
 ·intro j c' R
  obtain⟨i,c,o,q,rfl⟩:=kh R
  obtain⟨g,Z,lq,lg⟩:=h.boxes i c q
  have lh:i∈st.ids:=List.mem_append.2 (.inl (List.mem_map.2 ⟨_,q,rfl⟩))
  rw[L i j o]
  refine⟨g,iT.2 Z,fun lx la=>.inr ⟨i,j,o,lh,la⟩,iH lf le (gF Z) (fun _ _=>rfl) ll lg⟩
 ·intro j c R
  obtain⟨i,o,q⟩:=kG R
  obtain⟨cells,Z,lq,lg⟩:=h.rows i c q
  have lh:i∈st.ids:=List.mem_append.2 (.inr (List.mem_map.2 ⟨_,q,rfl⟩))
  refine⟨cells,by rw[L i j o];exact Z,fun g W=>.inr ⟨i,j,o,lh,by rw[L i j o]at W;exact W⟩,di (fun _ _=>cC lf le c.t) lg⟩
 ·intro ly lz lr ls lt g W la
  obtain⟨i1,lm,lu⟩:=qD lr
  obtain⟨i2,a2,lv⟩:=qD ls
  rw[L _ _ lm]at W
  rw[L _ _ a2]at la
  refine h.apart i1 i2 lu lv ?_ g W la
  rintro rfl
  exact lt (sj lb lm a2)
def iP(i:Nat)(l:List Nat):Bool:=l.any (Nat.beq i)
theorem tr{i:Nat}{l:List Nat}:iP i l=true↔i∈l:=by
 unfold iP
 rw[List.any_eq_true]
 constructor
 ·rintro⟨x,o,q⟩;rw[Nat.eq_of_beq_eq_true q];exact o
 ·intro L;exact⟨i,L,Nat.beq_refl i⟩
def pD(n:Nat)(o:af)(ρ ρ':List (Nat×Nat))(i:Nat):Bool:=
 match look ρ i with
 |some j=>Nat.ble n j&&(Nat.ble ep j&&((look o.rw j).isSome&&(match look ρ' j with|some q=>Nat.beq q i|none=>false)))
 |none=>false
def iE(st:af)(i:Nat):Option Bool:=match look st.ad i with
 |some c=>some c.one
 |none=>none
theorem Qw{st:af}{i:Nat}{c:bT}(o:st.ids.Nodup)(h:(i,c)∈st.ad):iE st i=some c.one:=by
 have key:∀{l:List (Nat×bT)},(l.map (·.1)).Nodup->(i,c)∈l->look l i=some c:=by
  intro l
  induction l with
  |nil=>intro _ h;cases h
  |cons p l q=>
   obtain⟨j,d⟩:=p
   intro o h
   rw[List.map_cons,List.nodup_cons]at o
   unfold look
   rcases List.mem_cons.1 h with h|h
   ·cases h
    rw[Nat.beq_refl]
    rfl
   ·have L:Nat.beq j i=false:=by
     cases O:Nat.beq j i with
     |false=>rfl
     |true=>exact absurd (List.mem_map.2 ⟨_,h,(Nat.eq_of_beq_eq_true O).symm⟩) o.1
    rw[L]
    exact q o.2 h
 unfold iE
 rw[key (List.nodup_append.1 o).1 h]
theorem IC{st:af}{i:Nat}{b:Bool}(h:iE st i=some b):∃c,look st.ad i=some c/\c.one=b:=by
 unfold iE at h
 split at h
 ·rename_i c o;cases h;exact⟨c,o,rfl⟩
 ·cases h
def gone(n:Nat)(st o:af)(ρ ρ':List (Nat×Nat)):List Nat:=
 (ρ.map (·.1)).filter (fun i=>((look st.rw i).isSome&&!pD n o ρ ρ' i)||iE st i==some false)++(ρ'.map (·.2)).filter (fun j=>!(iE st j==some true&&iP j (ρ.map (·.1)))&&!pD n o ρ ρ' j)
def hO{α:Type}(o:List Nat)(l:List (Nat×α)):List (Nat×α):=l.filter fun p=>!(iP p.1 o)
def GD(st o:af)(n q:Nat)(ρ:List (Nat×Nat))(p:Nat×Nat):Bool:=
 match look ρ p.2 with
 |some i=>Nat.beq i p.1&&(Nat.ble n p.1&&((iE st p.2==iE o p.1)&&(Nat.blt p.2 ep||(Nat.ble ep p.1&&(look st.rw p.2).isSome))))
 |none=>!(iP p.2 st.ids)&&!(iP p.2 (ρ.map (·.1)))&&(Nat.blt p.2 q||((look o.ad p.1).isNone&&Nat.blt p.2 ep))
def qJ(st o:af)(n q:Nat)(ρ ρ':List (Nat×Nat)):Option af:=
 match nodupB (ρ'.map (·.1)),nodupB (ρ'.map (·.2)),ρ'.all (GD st o n q ρ),nodupB ((hO (ρ.map (·.1)) st.ad++dT ρ' o.ad ρ').map (·.1)++(hO (ρ.map (·.1)) st.rw++ed o.rw ρ').map (·.1))with
 |true,true,true,true=>some
  {ab:=st.ab.map fun p=>(p.1,p.2.dI (gone n st o ρ ρ')),
   ad:=(hO (ρ.map (·.1)) st.ad).map (fun p=>(p.1,p.2.map (ao.dI (gone n st o ρ ρ'))))++dT ρ' o.ad ρ',
   rw:=hO (ρ.map (·.1)) st.rw++ed o.rw ρ'}
 |_,_,_,_=>none
end Go.Ev
namespace Go.Ev
open Go Go.RowKit
variable [b8]
variable {cx:bB} {m:Nat->Value} {st st':af} {T:Array Value} {w w':World} {E:Env} {Q:cO} {ops:Array Oper} {l:List Oper}
variable [ai cx]
theorem Ig{α:Type}{l:List (Nat×α)}{i:Nat}{c:α}(h:(i,c)∈l):(look l i).isSome=true:=by
 induction l with
 |nil=>simp at h
 |cons p r q=>
  obtain⟨k,u⟩:=p
  unfold look
  cases o:Nat.beq k i with
  |true=>rfl
  |false=>
   rcases List.mem_cons.1 h with h|h
   ·cases h;rw[Nat.beq_refl]at o;cases o
   ·exact q h
theorem uF{α:Type}{o:List Nat}{l:List (Nat×α)}{p:Nat×α}(h:p∈hO o l):p∈l/\p.1∉o:=by
 obtain⟨L,q⟩:=List.mem_filter.1 h
 refine⟨L,fun O=>?_⟩
 rw[tr.2 O]at q
 cases q
theorem xZ(h:an cx m st T w){n:Nat}{ρ ρ':List (Nat×Nat)}{R lk:af}{m1:Nat->Value}{ah:Array Value}{lf:World}(az:(ρ.map (·.1)).Nodup)(ai:(ρ.map (·.2)).Nodup)
  (Y:an (sub cx m st w n ρ) m1 R ah lf)(lD:qJ st R n cx.n ρ ρ'=some lk):
  ∃m2,an cx m2 lk T lf/\∀v s,aS lf (ar (sub cx m st w n ρ) m1 R.ids) m1 v s->aS lf (ar cx m2 lk.ids) m2 v (s.bZ ρ'):=by
 unfold qJ at lD
 split at lD
 case h_2=>cases lD
 rename_i lJ c2 c3 lK
 cases lD
 have lJ:=gq lJ
 have c2:=gq c2
 have lK:=gq lK
 have lE:∀i j,(i,j)∈ρ->(sub cx m st w n ρ).m0 j=m i:=by
  intro i j ll
  show(match inv ρ j with|some i=>m i|none=>undef)=m i
  rw[o9 ai ll]
 have lF:∀i j,(i,j)∈ρ'->(n<=i/\(j,i)∈ρ/\iE st j=iE R i/\(j<ep\/(ep<=i/\(look st.rw j).isSome=true)))\/(True/\j∉st.ids/\j∉ρ.map (·.1)/\(j<cx.n\/(look R.ad i=none/\j<ep))):=by
  intro i j ll
  have:=List.all_eq_true.1 c3 _ ll
  unfold GD at this
  split at this
  ·rename_i lL lM
   simp only[Bool.and_eq_true,Bool.or_eq_true,beq_iff_eq]at this
   obtain⟨t1,t2,t3,t4⟩:=this
   have:=Nat.eq_of_beq_eq_true t1
   subst this
   exact .inl ⟨Nat.le_of_ble_eq_true t2,a8 lM,t3,t4.imp cK fun t=>⟨Nat.le_of_ble_eq_true t.1,t.2⟩⟩
  ·simp only[Bool.and_eq_true,Bool.or_eq_true,Bool.not_eq_true']at this
   obtain⟨⟨t1,t2⟩,t3⟩:=this
   refine .inr ⟨trivial,(fun q=>?_),(fun q=>?_),?_⟩
   ·have t1:iP j st.ids=false:=t1
    rw[tr.2 q]at t1
    cases t1
   ·have t2:iP j (ρ.map (·.1))=false:=t2
    rw[tr.2 q]at t2
    cases t2
   ·rcases t3 with t3|t3
    ·exact .inl (cK t3)
    ·exact .inr ⟨by simpa using t3.1,cK t3.2⟩
 obtain⟨m2,lX⟩:∃m2:Nat->Value,m2=fun j=>match inv ρ' j with|some i=>m1 i|none=>m j:=⟨_,rfl⟩
 have lc:∀i j,(i,j)∈ρ'->m2 j=m1 i:=by
  intro i j ll
  rw[lX]
  simp only
  rw[o9 c2 ll]
 have lY:∀j,inv ρ' j=none->m2 j=m j:=by
  intro j Z
  rw[lX]
  simp only
  rw[Z]
 have lh:∀j,j∈st.ids->j∉ρ.map (·.1)->m2 j=m j:=by
  intro j Z lo
  refine lY j ?_
  cases lm:inv ρ' j with
  |none=>rfl
  |some i=>
   rcases lF i j (JO lm)with ⟨_,q,_,_⟩|⟨_,q,_⟩
   ·exact absurd (List.mem_map.2 ⟨_,q,rfl⟩) lo
   ·exact absurd Z q
 have aj:∀b,b∉gone n st R ρ ρ'->m2 b=m b:=by
  intro b O
  cases lm:inv ρ' b with
  |none=>exact lY b lm
  |some i=>
   have ll:=JO lm
   have li:(iE st b==some true&&iP b (ρ.map (·.1)))=true\/pD n R ρ ρ' b=true:=by
    cases lq:(iE st b==some true&&iP b (ρ.map (·.1)))with
    |true=>exact .inl rfl
    |false=>
     cases ak:pD n R ρ ρ' b with
     |true=>exact .inr rfl
     |false=>
      refine absurd ?_ O
      refine List.mem_append.2 (.inr (List.mem_filter.2 ⟨List.mem_map.2 ⟨_,ll,rfl⟩,by rw[lq,ak];rfl⟩))
   rcases li with li|li
   case inr=>
    unfold pD at li
    split at li
    case h_2=>cases li
    rename_i j Z
    simp only[Bool.and_eq_true]at li
    obtain⟨al,am,ap,lN⟩:=li
    split at lN
    case h_2=>cases lN
    rename_i lL lM
    have ld:=Nat.eq_of_beq_eq_true lN
    subst ld
    have lg:=o9 c2 (a8 lM)
    rw[lm]at lg
    cases lg
    obtain⟨lz,lA⟩:=Option.isSome_iff_exists.1 ap
    rw[lc i lL ll,Y.kept i lz (a8 lA) (Nat.le_of_ble_eq_true al) (Nat.le_of_ble_eq_true am),lE lL i (a8 Z)]
   rw[Bool.and_eq_true]at li
   rcases lF i b ll with ⟨lt,q,la,_⟩|⟨_,_,q,_⟩
   ·rw[beq_iff_eq.1 li.1]at la
    obtain⟨c,aq,lG⟩:=IC la.symm
    rw[lc i b ll,Y.fixed i c (a8 aq) lG lt,lE b i q]
   ·exact absurd (tr.1 li.2) q
 -- the ids of the new state
 have lB:∀j,j∈af.ids {ab:=st.ab.map fun p=>(p.1,p.2.dI (gone n st R ρ ρ')),ad:=(hO (ρ.map (·.1)) st.ad).map (fun p=>(p.1,p.2.map (ao.dI (gone n st R ρ ρ'))))++dT ρ' R.ad ρ',rw:=hO (ρ.map (·.1)) st.rw++ed R.rw ρ'}->
   (j∈st.ids/\j∉ρ.map (·.1))\/∃i,(i,j)∈ρ'/\i∈R.ids:=by
  intro j Z
  rcases List.mem_append.1 Z with Z|Z
  ·obtain⟨⟨au,c⟩,U,rfl⟩:=List.mem_map.1 Z
   rcases List.mem_append.1 U with U|U
   ·obtain⟨⟨lp,c'⟩,lO,la⟩:=List.mem_map.1 U
    cases la
    obtain⟨o,L⟩:=uF lO
    exact .inl ⟨List.mem_append.2 (.inl (List.mem_map.2 ⟨_,o,rfl⟩)),L⟩
   ·obtain⟨i,c',o,L,_⟩:=kh U
    exact .inr ⟨i,o,List.mem_append.2 (.inl (List.mem_map.2 ⟨_,L,rfl⟩))⟩
  ·obtain⟨⟨au,c⟩,U,rfl⟩:=List.mem_map.1 Z
   rcases List.mem_append.1 U with U|U
   ·obtain⟨o,L⟩:=uF U
    exact .inl ⟨List.mem_append.2 (.inr (List.mem_map.2 ⟨_,o,rfl⟩)),L⟩
   ·obtain⟨i,o,L⟩:=kG U
    exact .inr ⟨i,o,List.mem_append.2 (.inr (List.mem_map.2 ⟨_,L,rfl⟩))⟩
 generalize lH:({ab:=st.ab.map fun p=>(p.1,p.2.dI (gone n st R ρ ρ')),ad:=(hO (ρ.map (·.1)) st.ad).map (fun p=>(p.1,p.2.map (ao.dI (gone n st R ρ ρ'))))++dT ρ' R.ad ρ',rw:=hO (ρ.map (·.1)) st.rw++ed R.rw ρ'}:af)=lk at lB
 have lP:∀i,i∈R.ids->∀b,own (m1 i) b->w.heap.size<=b\/∃i0 lr,(i0,lr)∈ρ/\i0∈st.ids/\own (m i0) b:=fun i lm b O=>(Y.lt lm O).2
 have lQ:∀b,b<w.heap.size->ar cx m2 lk.ids b->ar cx m st.ids b:=by
  rintro b aA (lI|⟨j,Z,O⟩)
  ·exact .inl lI
  ·rcases lB j Z with ⟨o,L⟩|⟨i,o,L⟩
   ·rw[lh j o L]at O
    exact .inr ⟨j,o,O⟩
   ·rw[lc i j o]at O
    rcases lP i L b O with q|⟨i0,_,_,le,lb⟩
    ·omega
    ·exact .inr ⟨i0,le,lb⟩
 have lR:∀b,b<lf.heap.size->ar cx m2 lk.ids b->ar (sub cx m st w n ρ) m1 R.ids b:=by
  rintro b _ (lI|⟨j,Z,O⟩)
  ·refine .inl ⟨.inl lI,?_⟩
   rintro⟨i0,lr,_,le,lb⟩
   have aa:=h.outer b lI
   rcases(h.lt le lb).2 with q|q
   ·omega
   ·exact aa.2 q
  ·rcases lB j Z with ⟨o,L⟩|⟨i,o,L⟩
   ·rw[lh j o L]at O
    refine .inl ⟨.inr ⟨j,o,O⟩,?_⟩
    rintro⟨i0,lr,lS,le,lb⟩
    refine h.apart i0 j le o ?_ b lb O
    rintro rfl
    exact L (List.mem_map.2 ⟨_,lS,rfl⟩)
   ·rw[lc i j o]at O
    exact .inr ⟨i,L,O⟩
 have lT:∀b,b<w.heap.size->¬ar cx m st.ids b->lf.heap[b]? =w.heap[b]? :=fun b O lo=>Y.frame.block b O fun⟨i0,_,_,le,lb⟩=>lo (.inr ⟨i0,le,lb⟩)
 have lU:∀b,b<lf.heap.size->¬ar (sub cx m st w n ρ) m1 R.ids b->lf.heap[b]? =lf.heap[b]? :=fun _ _ _=>rfl
 have lZ:∀v s,aS w (ar cx m st.ids) m v s->aS lf (ar cx m2 lk.ids) m2 v (s.dI (gone n st R ρ ρ')):=fun v s lw=>mL aj (fh lT lQ lw)
 have l0:∀v s,aS lf (ar (sub cx m st w n ρ) m1 R.ids) m1 v s->aS lf (ar cx m2 lk.ids) m2 v (s.bZ ρ'):=fun v s lw=>tx lc (fh lU lR lw)
 have l3:∀b c',(b,c')∈lk.ad->(∃c,(b,c)∈st.ad/\b∉ρ.map (·.1)/\c'=c.map (ao.dI (gone n st R ρ ρ')))\/∃i c,(i,b)∈ρ'/\(i,c)∈R.ad/\c'=c.map (ao.bZ ρ'):=by
  intro b c' O
  rw[<-lH]at O
  rcases List.mem_append.1 O with U|U
  ·obtain⟨⟨lp,c2⟩,lO,la⟩:=List.mem_map.1 U
   cases la
   obtain⟨o,L⟩:=uF lO
   exact .inl ⟨c2,o,L,rfl⟩
  ·exact .inr (kh U)
 have l4:∀b c,(b,c)∈lk.rw->((b,c)∈st.rw/\b∉ρ.map (·.1))\/∃i,(i,b)∈ρ'/\(i,c)∈R.rw:=by
  intro b c O
  rw[<-lH]at O
  rcases List.mem_append.1 O with U|U
  ·exact .inl (uF U)
  ·exact .inr (kG U)
 have lC:∀j,j∈st.ids->j∉ρ.map (·.1)->∀g,own (m j) g->g<w.heap.size/\¬∃i0 lr,(i0,lr)∈ρ/\i0∈st.ids/\own (m i0) g:=by
  intro j Z lo g W
  refine⟨(h.lt Z W).1,?_⟩
  rintro⟨i0,lr,lS,le,lb⟩
  refine h.apart i0 j le Z ?_ g lb W
  rintro rfl
  exact lo (List.mem_map.2 ⟨_,lS,rfl⟩)
 have l5:∀g,(w.heap.size<=g\/∃i0 lr,(i0,lr)∈ρ/\i0∈st.ids/\own (m i0) g)->cx.w0.heap.size<=g\/cx.X g:=by
  rintro g (W|⟨i0,_,_,le,lb⟩)
  ·exact .inl (Nat.le_trans h.frame.size W)
  ·exact(h.lt le lb).2
 refine⟨m2,{size:=h.size,frame:=?_,outer:=h.outer,cJ:=?_,boxes:=?_,rows:=?_,apart:=?_,keys:=?_,fixed:=?_,kept:=?_},l0⟩
 ·refine⟨Y.frame.os.trans h.frame.os,Y.frame.tape.trans h.frame.tape,Y.frame.output.trans h.frame.output,Nat.le_trans h.frame.size Y.frame.size,fun b O l6=>?_,fun d=>Nat.le_trans (h.frame.drawn d) (Y.frame.drawn d)⟩
  rw[<-h.frame.block b O l6]
  refine Y.frame.block b (Nat.lt_of_lt_of_le O h.frame.size) ?_
  rintro⟨i0,_,_,le,lb⟩
  rcases(h.lt le lb).2 with q|q
  ·omega
  ·exact l6 q
 ·intro i aB lm
  rw[<-lH]at lm
  obtain⟨⟨j,aO⟩,U,la⟩:=List.mem_map.1 lm
  cases la
  obtain⟨v,ld,lg⟩:=h.cJ j aO U
  exact⟨v,ld,lZ v aO lg⟩
 ·intro b c' O
  rcases l3 b c' O with ⟨c,o,L,rfl⟩|⟨i,c,o,L,rfl⟩
  ·have lj:b∈st.ids:=List.mem_append.2 (.inl (List.mem_map.2 ⟨_,o,rfl⟩))
   obtain⟨g,ld,lg,lu⟩:=h.boxes b c o
   rw[lh b lj L]
   exact⟨g,iT.2 ld,lg,iH lT lQ (gF ld) (fun lV l7=>Y.frame.block lV (lC b lj L lV l7).1 (lC b lj L lV l7).2) lZ lu⟩
  ·obtain⟨g,ld,lg,lu⟩:=Y.boxes i c L
   rw[lc i b o]
   exact⟨g,iT.2 ld,fun l8 ln=>l5 l8 (lg l8 ln),iH lU lR (gF ld) (fun _ _=>rfl) l0 lu⟩
 ·intro b c O
  rcases l4 b c O with ⟨o,L⟩|⟨i,o,L⟩
  ·have lj:b∈st.ids:=List.mem_append.2 (.inr (List.mem_map.2 ⟨_,o,rfl⟩))
   obtain⟨cells,ld,lg,lu⟩:=h.rows b c o
   refine⟨cells,?_,fun g W=>lg g (by rw[lh b lj L]at W;exact W),di (fun _ _=>cC lT lQ c.t) lu⟩
   rw[lh b lj L]
   refine⟨ld.1,?_⟩
   rcases ld.2 with q|⟨g,cap,cur,lw,lb,q,rest⟩
   ·exact .inl q
   ·have lq:=lC b lj L g (by rw[lw];exact gi rfl)
    exact .inr ⟨g,cap,cur,lw,lb,by rw[Y.frame.block g lq.1 lq.2];exact q,rest⟩
  ·obtain⟨cells,ld,lg,lu⟩:=Y.rows i c L
   exact⟨cells,by rw[lc i b o];exact ld,fun g W=>l5 g (lg g (by rw[lc i b o]at W;exact W)),di (fun _ _=>cC lU lR c.t) lu⟩
 ·intro lv lp av aw l9 g W ln
  rcases lB lv av with ⟨ls,lx⟩|⟨i1,ls,lx⟩<;>rcases lB lp aw with ⟨a2,ly⟩|⟨i2,a2,ly⟩
  ·rw[lh lv ls lx]at W
   rw[lh lp a2 ly]at ln
   exact h.apart lv lp ls a2 l9 g W ln
  ·rw[lh lv ls lx]at W
   rw[lc i2 lp a2]at ln
   have lq:=lC lv ls lx g W
   rcases lP i2 ly g ln with q|q
   ·omega
   ·exact lq.2 q
  ·rw[lc i1 lv ls]at W
   rw[lh lp a2 ly]at ln
   have lq:=lC lp a2 ly g ln
   rcases lP i1 lx g W with q|q
   ·omega
   ·exact lq.2 q
  ·rw[lc i1 lv ls]at W
   rw[lc i2 lp a2]at ln
   refine Y.apart i1 i2 lx ly ?_ g W ln
   rintro rfl
   exact l9 (sj lJ ls a2)
 ·rw[<-lH]
  show(((hO (ρ.map (·.1)) st.ad).map (fun p=>(p.1,p.2.map (ao.dI (gone n st R ρ ρ'))))++dT ρ' R.ad ρ').map (·.1)++(hO (ρ.map (·.1)) st.rw++ed R.rw ρ').map (·.1)).Nodup
  have e:((hO (ρ.map (·.1)) st.ad).map (fun p=>(p.1,p.2.map (ao.dI (gone n st R ρ ρ'))))++dT ρ' R.ad ρ').map (·.1)=(hO (ρ.map (·.1)) st.ad++dT ρ' R.ad ρ').map (·.1):=by
   simp[List.map_append,List.map_map,Function.comp_def]
  rw[e]
  exact lK
 ·intro b c' O lG lt
  rcases l3 b c' O with ⟨c,o,L,lW⟩|⟨i,c,o,L,lW⟩
  ·have lj:b∈st.ids:=List.mem_append.2 (.inl (List.mem_map.2 ⟨_,o,rfl⟩))
   rw[lh b lj L]
   exact h.fixed b c o (jS.symm.trans (lW▸lG)) lt
  ·rcases lF i b o with ⟨lo,q,la,_⟩|⟨_,_,_,q⟩
   ·have ae:c.one=true:=jS.symm.trans (lW▸lG)
    rw[Qw Y.keys L,ae]at la
    obtain⟨lz,lA,ax⟩:=IC la
    rw[lc i b o,Y.fixed i c L ae lo,lE b i q]
    exact h.fixed b lz (a8 lA) ax lt
   ·rcases q with q|q
    ·omega
    ·have:=Ig L
     rw[q.1]at this
     cases this
 ·intro b c O lt ag
  rcases l4 b c O with ⟨o,L⟩|⟨i,o,L⟩
  ·have lj:b∈st.ids:=List.mem_append.2 (.inr (List.mem_map.2 ⟨_,o,rfl⟩))
   rw[lh b lj L]
   exact h.kept b c o lt ag
  ·rcases lF i b o with ⟨lo,q,_,la⟩|⟨_,_,_,q⟩
   ·rcases la with la|⟨la,ay⟩
    ·omega
    ·obtain⟨lz,lA⟩:=Option.isSome_iff_exists.1 ay
     rw[lc i b o,Y.kept i c L lo la,lE b i q]
     exact h.kept b lz (a8 lA) lt ag
   ·rcases q with q|q
    ·omega
    ·omega
end Go.Ev
namespace Go.Ev
open Go Go.RowKit
variable [b8]
variable {cx:bB} {m:Nat->Value} {st st':af} {T:Array Value} {w w':World} {E:Env} {Q:cO} {ops:Array Oper} {l:List Oper}
variable [ai cx]
structure bU(α β:Type) where
 n:Nat
 S:α->af
 bJ:α->β->af
 ap:α->β->List ao
 rel:α->β->Prop
def rk(w:World)(M:Nat->Prop)(m:Nat->Value)(v:Value):List ao->Prop
 |[]=>True
 |[s]=>aS w M m v s
 |l=>∃vs:List Value,v=.tuple vs.toArray/\ct w M m vs l
structure cb{α β:Type}(P:Program)(G:World->Prop)(f:Nat)(F:bU α β):Prop where
 enters:∀args w,(callFunc f args).run P w=.ok (.enter f args) w
 calls:∀(cx:bB),cx.P=P->cx.n=F.n->(∀w,Frame cx.w0 w cx.X->G w)->∀x y,F.rel x y->∀(vs:List Value) (w:World),vs.length=(F.S x).ab.length->al cx (F.S x) (vs.toArray++Array.replicate (F.n-vs.toArray.size) undef) w->
  Calls P f vs.toArray w fun e w'=>∃v ay o,e=.returned v/\an cx ay (F.bJ x y) o w'/\rk w' (ar cx ay (F.bJ x y).ids) ay v (F.ap x y)
def kD:List ao->Option (List bV)
 |[]=>some []
 |.val t x::l=>match kD l with
  |some r=>some (.v ⟨t,x⟩::r)
  |none=>none
 |.row b::l=>match kD l with
  |some r=>some (.r b::r)
  |none=>none
 |.ptr b 0::l=>match kD l with
  |some r=>some (.r b::r)
  |none=>none
 |.dz b []::l=>match kD l with
  |some r=>some (.r b::r)
  |none=>none
 |.any::l=>match kD l with
  |some r=>some (.a::r)
  |none=>none
 |.iter b::l=>match kD l with
  |some r=>some (.r b::r)
  |none=>none
 |_=>none
def up:List ao->Option ao
 |[]=>some .any
 |[s]=>some s
 |l=>match kD l with
  |some r=>some (.fM r)
  |none=>none
theorem nv{M:Nat->Prop}:∀{vs:List Value} {l:List ao} {r:List bV},kD l=some r->ct w M m vs l->cX w M m vs r
 |[],[],_,h,_=>by cases h;trivial
 |_::_,[],_,_,U=>U.elim
 |[],_::_,_,_,U=>U.elim
 |v::vs,s::l,r,h,⟨L,q⟩=>by
  unfold kD at h
  split at h
  ·rename_i e;cases e
  ·rename_i t x O e
   cases e
   split at h
   ·rename_i R o;cases h;exact⟨L,nv o q⟩
   ·cases h
  ·rename_i b O e
   cases e
   split at h
   ·rename_i R o;cases h;exact⟨L,nv o q⟩
   ·cases h
  ·rename_i b O e
   cases e
   split at h
   ·rename_i R o;cases h;obtain⟨g,g1,g2⟩:=L;exact⟨by rw[g1];exact g2,nv o q⟩
   ·cases h
  ·rename_i b O e
   cases e
   split at h
   ·rename_i R o;cases h;obtain⟨g,g1,g2⟩:=L;exact⟨by rw[g1];exact g2,nv o q⟩
   ·cases h
  ·rename_i O e
   cases e
   split at h
   ·rename_i R o;cases h;exact nv (vs:=vs) o q
   ·cases h
  ·rename_i b O e
   cases e
   split at h
   ·rename_i R o;cases h;exact⟨L,nv o q⟩
   ·cases h
  ·cases h
theorem Hz{M:Nat->Prop}{v:Value}{l:List ao}{s:ao}(h:up l=some s)(O:rk w M m v l):aS w M m v s:=by
 unfold up at h
 split at h
 ·cases h;trivial
 ·cases h;exact O
 ·rename_i o q
  split at h
  ·rename_i r L
   cases h
   match l,o,q,O,L with
   |a::b::l,_,_,⟨vs,e,R⟩,L=>exact⟨vs,e,nv L R⟩
   |[],o,_,_,_=>exact absurd rfl o
   |[a],_,q,_,_=>exact absurd rfl (q a)
  ·cases h
def r6(P:Program)(st:af)(t:TypeId)(x:Operand):Option ao:=
 match x with
 |.const (.slice none 0 0)=>match dO P t with
  |some (_,u)=>some (.val (.ab u) [])
  |none=>none
 |x=>aR st x
def qg(P:Program)(st:af):List TypeId->List Operand->Option (List ao)
 |[],[]=>some []
 |t::o,x::xs=>match r6 P st t x,qg P st o xs with
  |some v,some vs=>some (v::vs)
  |_,_=>none
 |_,_=>none
theorem Jp(h:an cx m st T w){t:TypeId}{x:Operand}{s:ao}(o:r6 cx.P st t x=some s):aS w (ar cx m st.ids) m (Act.eval ⟨T,ai.D cx⟩ x) s:=by
 unfold r6 at o
 split at o
 ·split at o
  ·rename_i e u L
   cases o
   exact(bD (t:=.ab u) rfl).2 ⟨none,0,[],rfl,Nat.le_refl _,by decide,fun _=>rfl,rfl,fun j v q=>by simp at q⟩
  ·cases o
 ·exact be h o
theorem Dt(h:an cx m st T w):∀{L:List TypeId} {xs:List Operand} {q:List ao},qg cx.P st L xs=some q->ct w (ar cx m st.ids) m (xs.map (Act.eval ⟨T,ai.D cx⟩)) q
 |[],[],_,o=>by cases o;trivial
 |[],_::_,_,o=>by cases o
 |_::_,[],_,o=>by cases o
 |t::L,x::xs,q,o=>by
  unfold qg at o
  split at o
  ·rename_i v U O R
   cases o
   exact⟨Jp h O,Dt h R⟩
  ·cases o
def oY(st:af)(bs:List Nat):Bool:=bs.all fun b=>match look st.ad b with
 |some (.cells _ _)=>true
 |_=>false
theorem ri(h:an cx m st T w):∀{bs:List Nat},oY st bs=true->ct w (ar cx m st.ids) m (bs.map m) (bs.map fun b=>ao.ptr b 0)
 |[],_=>trivial
 |b::bs,o=>by
  unfold oY at o
  rw[List.all_cons,Bool.and_eq_true]at o
  refine⟨?_,ri h o.2⟩
  have q:=o.1
  split at q
  ·rename_i c O
   obtain⟨g,L⟩:=td h O
   exact⟨g,L,L⟩
  ·cases q
def ny(E:Env)(st:af)(aa:Oper)(n f:Nat)(ρ:List (Nat×Nat)):Option af:=
 match aa.op with
 |.call c=>match c.callee with
  |.value x=>match aR st x with
   |some (.clos o bs)=>match Nat.beq o f,oY st bs,qg E.P st c.argTypes.toList c.args.toList with
    |true,true,some q=>iG st n ρ (q++bs.map fun b=>ao.ptr b 0)
    |_,_,_=>none
   |some (.b9 o b)=>match Nat.beq o f,oY st [b],qg E.P st c.argTypes.toList c.args.toList with
    |true,true,some q=>iG st n ρ (ao.ptr b 0::q)
    |_,_,_=>none
   |_=>none
  |_=>none
 |_=>none
def iS(st L:af)(aa:Oper)(n o:Nat)(ρ ρ':List (Nat×Nat))(ap:List ao):Option af:=
 match qJ st L n o ρ ρ',up ap with
 |some q,some s=>match aa.dst with
  |none=>some q
  |some d=>match Nat.blt d o with
   |true=>some (q.put d (s.bZ ρ'))
   |false=>none
 |_,_=>none
def uM(st R:af)(aa:Oper)(n o:Nat)(ρ ρ':List (Nat×Nat))(ap:List ao)(q bs L:List Nat):Option af:=
 match qJ st R n o ρ ρ',up ap with
 |some O,some s=>match aa.dst with
  |none=>O.norm q bs L
  |some d=>match Nat.blt d o with
   |true=>(O.put d (s.bZ ρ')).norm q bs L
   |false=>none
 |_,_=>none
theorem za{n:Nat}{ρ:List (Nat×Nat)}{q:List ao}{L:af}(o:iG st n ρ q=some L):(ρ.map (·.1)).Nodup/\(ρ.map (·.2)).Nodup:=by
 unfold iG at o
 split at o
 ·rename_i O R U W;exact⟨gq O,gq R⟩
 ·cases o
theorem GY:∀(l:List ao) (k:Nat),(j9 k l).length=l.length
 |[],_=>rfl
 |_::l,k=>by simp[j9,GY l]
theorem yl{n:Nat}{ρ:List (Nat×Nat)}{q:List ao}{L:af}(o:iG st n ρ q=some L):L.ab.length=q.length:=by
 unfold iG at o
 split at o
 ·cases o;simp[GY]
 ·cases o
theorem EY(h:an cx m st T w){n:Nat}{ρ:List (Nat×Nat)}(o:Frame w w' (sub cx m st w n ρ).X):Frame cx.w0 w' cx.X:=by
 refine⟨o.os.trans h.frame.os,o.tape.trans h.frame.tape,o.output.trans h.frame.output,Nat.le_trans h.frame.size o.size,fun b q L=>?_,fun d=>Nat.le_trans (h.frame.drawn d) (o.drawn d)⟩
 rw[<-h.frame.block b q L]
 refine o.block b (Nat.lt_of_lt_of_le q h.frame.size) ?_
 rintro⟨i0,_,_,R,U⟩
 rcases(h.lt R U).2 with O|O
 ·omega
 ·exact L O
theorem Xm{c:Call}{aa:Oper}{f:Nat}{x:Operand}{u:Value}(q:aa.op=.call c)(o:c.callee=.value x)(L:Act.eval ⟨T,ai.D cx⟩ x=.func (.func f) #[u] #[])
  (O:∀args w,(callFunc f args).run cx.P w=.ok (.enter f args) w)(w:World):
  (execOp (Act.eval ⟨T,ai.D cx⟩) aa).run cx.P w=.ok (.enter f (u::c.args.toList.map (Act.eval ⟨T,ai.D cx⟩)).toArray) w:=by
 obtain⟨U,args,W⟩:=c
 simp only at o
 subst o
 have R:#[u]++args.map (Act.eval ⟨T,ai.D cx⟩)++#[]=(u::args.toList.map (Act.eval ⟨T,ai.D cx⟩)).toArray:=by
  apply Array.ext'
  simp
 simp only[execOp,q,resolve,L,Deferred.ofValue,Sem.run_bind,Sem.run_pure,Result.andThen_ok,invoke]
 rw[R]
 simp[O]
theorem ED(R:bv E cx){α β:Type}{F:bU α β}{f:Nat}(ll:cb E.P E.G f F)(x:α)(y:β)(lm:F.rel x y){aa:Oper}{ρ ρ':List (Nat×Nat)}{n:Nat}(ln:F.n=n)
  (lo:eb ops st aa=some true)(o:ny E st aa n f ρ=some (F.S x))(O:iS st (F.bJ x y) aa n E.n ρ ρ' (F.ap x y)=some st')(h:bN cx ops Q l st'):bN cx ops Q (aa::l) st:=by
 subst ln
 rintro T w ⟨m,q⟩
 refine wpList_step fun K ld=>?_
 rw[il ⟨m,q⟩ lo]
 simp only[if_true]
 have W:=ll
 rw[<-R.P]at W
 have le:∀(U:List ao) (vs:List Value),iG st F.n ρ U=some (F.S x)->ct w (ar cx m st.ids) m vs U->(execOp (Act.eval ⟨T,ai.D cx⟩) aa).run cx.P w=.ok (.enter f vs.toArray) w->aa.wp cx.P ⟨T,ai.D cx⟩ w K Q:=by
  intro U vs o lf lp
  have lq:=yU q o lf
  obtain⟨lr,ls⟩:=za o
  have lt:=kz lf
  have lu:(F.S x).ab.length=U.length:=yl o
  have lv:=W.calls (sub cx m st w F.n ρ) rfl rfl (fun w' L=>R.rn w' (EY q L)) x y lm _ w (by rw[lu];exact lt) ⟨_,lq⟩
  unfold Oper.wp
  rw[lp]
  refine lv.mono ?_
  rintro e w' ⟨v,ay,lA,rfl,lw,lx⟩
  unfold iS at O
  split at O
  case h_2=>cases O
  rename_i lB s lg ly
  rw[<-R.n]at lg
  obtain⟨m2,lh,lz⟩:=xZ q lr ls lw lg
  show K (Act.put ⟨T,ai.D cx⟩ aa.dst v) w'
  split at O
  ·rename_i ah
   rw[ah]
   cases O
   exact ld _ _ (h _ _ ⟨m2,lh⟩)
  ·rename_i d ah
   split at O
   ·rename_i Y
    rw[ah]
    have Y:d<cx.n:=by rw[R.n];exact cK Y
    cases O
    exact ld _ _ (h _ _ ⟨m2,lh.put Y (lz v s (Hz ly lx))⟩)
   ·cases O
 unfold ny at o
 split at o
 case h_2=>cases o
 rename_i c li
 split at o
 case h_2=>cases o
 rename_i lj lk
 split at o
 ·rename_i Z bI la
  split at o
  case h_2=>cases o
  rename_i U L lb has
  have L:=Nat.eq_of_beq_eq_true L
  subst L
  rw[<-R.P]at has
  have lc:Act.eval ⟨T,ai.D cx⟩ lj=.func (.func Z) #[] (bI.map m).toArray:=be q la
  exact le _ _ o (jX (Dt q has) (ri q lb)) (sK li lk lc W.enters w)
 ·rename_i Z b la
  split at o
  case h_2=>cases o
  rename_i U L lb has
  have L:=Nat.eq_of_beq_eq_true L
  subst L
  rw[<-R.P]at has
  have lc:Act.eval ⟨T,ai.D cx⟩ lj=.func (.func Z) #[m b] #[]:=be q la
  exact le _ (m b::c.args.toList.map (Act.eval ⟨T,ai.D cx⟩)) o ⟨(ri q lb).1,Dt q has⟩ (Xm li lk lc W.enters w)
 ·cases o
theorem tk(O:bv E cx){α β:Type}{F:bU α β}{f:Nat}(R:cb E.P E.G f F)(x:α)(y:β)(U:F.rel x y){aa:Oper}{ρ ρ':List (Nat×Nat)}{n:Nat}(W:F.n=n)(q bs L:List Nat)
  (Y:eb ops st aa=some true)(Z:ny E st aa n f ρ=some (F.S x))(o:uM st (F.bJ x y) aa n E.n ρ ρ' (F.ap x y) q bs L=some st')(h:bN cx ops Q l st'):bN cx ops Q (aa::l) st:=by
 have e:∃s,iS st (F.bJ x y) aa n E.n ρ ρ' (F.ap x y)=some s/\s.norm q bs L=some st':=by
  unfold uM at o
  unfold iS
  split at o
  ·split at o
   ·exact⟨_,rfl,o⟩
   ·split at o
    ·exact⟨_,rfl,o⟩
    ·cases o
  ·cases o
 obtain⟨s,la,lb⟩:=e
 exact ED O R x y U W Y Z la (h.norm lb)
def af.bZ(st:af)(ρ:List (Nat×Nat)):Option af:=
 match nodupB (ρ.map (·.1)),nodupB (ρ.map (·.2)),ρ.all (fun p=>Nat.beq p.1 p.2||((look st.ad p.1).isNone&&Nat.blt p.2 ep)),nodupB (af.ids ⟨[],dT ρ st.ad ρ,ed st.rw ρ⟩)with
 |true,true,true,true=>some ⟨st.ab.map fun p=>(p.1,p.2.bZ ρ),dT ρ st.ad ρ,ed st.rw ρ⟩
 |_,_,_,_=>none
theorem an.bZ(h:an cx m st T w){ρ:List (Nat×Nat)}(Z:st.bZ ρ=some st'):∃ay,an cx ay st' T w:=by
 unfold af.bZ at Z
 split at Z
 case h_2=>cases Z
 rename_i lb lc lj ld
 cases Z
 have lb:=gq lb
 have lc:=gq lc
 have ld:=gq ld
 obtain⟨ay,lq⟩:∃ay:Nat->Value,ay=fun j=>match inv ρ j with|some i=>m i|none=>undef:=⟨_,rfl⟩
 have O:∀i j,(i,j)∈ρ->ay j=m i:=by
  intro i j o
  rw[lq]
  simp only
  rw[o9 lc o]
 have le:∀{j:Nat},j∈af.ids ⟨st.ab.map fun p=>(p.1,p.2.bZ ρ),dT ρ st.ad ρ,ed st.rw ρ⟩->∃i,(i,j)∈ρ/\i∈st.ids:=fun R=>qD R
 have lf:∀b,b<w.heap.size->ar cx ay (af.ids ⟨st.ab.map fun p=>(p.1,p.2.bZ ρ),dT ρ st.ad ρ,ed st.rw ρ⟩) b->ar cx m st.ids b:=by
  rintro b _ (lr|⟨j,R,la⟩)
  ·exact .inl lr
  ·obtain⟨i,o,L⟩:=le R
   rw[O i j o]at la
   exact .inr ⟨i,L,la⟩
 have lg:∀b,b<w.heap.size->¬ar cx m st.ids b->w.heap[b]? =w.heap[b]? :=fun _ _ _=>rfl
 have lk:∀v s,aS w (ar cx m st.ids) m v s->aS w (ar cx ay (af.ids ⟨st.ab.map fun p=>(p.1,p.2.bZ ρ),dT ρ st.ad ρ,ed st.rw ρ⟩)) ay v (s.bZ ρ):=
  fun v s ls=>tx O (fh lg lf ls)
 refine⟨ay,{size:=h.size,frame:=h.frame,outer:=h.outer,cJ:=?_,boxes:=?_,rows:=?_,apart:=?_,keys:=ld,fixed:=?_,kept:=?_}⟩
 ·intro i aO L
  obtain⟨⟨j,s⟩,lt,lu⟩:=List.mem_map.1 L
  cases lu
  obtain⟨v,U,W⟩:=h.cJ j s lt
  exact⟨v,U,lk v s W⟩
 ·intro j c' R
  obtain⟨i,c,o,L,rfl⟩:=kh R
  obtain⟨g,U,W,lh⟩:=h.boxes i c L
  rw[O i j o]
  exact⟨g,iT.2 U,W,iH lg lf (gF U) (fun _ _=>rfl) lk lh⟩
 ·intro j c R
  obtain⟨i,o,L⟩:=kG R
  obtain⟨cells,U,W,lh⟩:=h.rows i c L
  exact⟨cells,by rw[O i j o];exact U,fun g Y=>W g (by rw[O i j o]at Y;exact Y),di (fun _ _=>cC lg lf c.t) lh⟩
 ·intro lC lD lv lw lx g Y ll
  obtain⟨i1,lm,ly⟩:=le lv
  obtain⟨i2,a2,lz⟩:=le lw
  rw[O _ _ lm]at Y
  rw[O _ _ a2]at ll
  refine h.apart i1 i2 ly lz ?_ g Y ll
  rintro rfl
  exact lx (sj lb lm a2)
 ·intro b c la lA li
  obtain⟨i,lE,o,L,lB⟩:=kh la
  have q:=List.all_eq_true.1 lj _ o
  simp only[Bool.or_eq_true,Bool.and_eq_true]at q
  rcases q with q|⟨q,_⟩
  ·have e:=Nat.eq_of_beq_eq_true q
   subst e
   rw[O _ _ o]
   exact h.fixed _ _ L (jS.symm.trans (lB▸lA)) li
  ·have ln:=Ig L
   cases lo:look st.ad i with
   |none=>rw[lo]at ln;cases ln
   |some x=>rw[lo]at q;cases q
 ·intro j c R li lp
  obtain⟨i,o,L⟩:=kG R
  have q:=List.all_eq_true.1 lj _ o
  simp only[Bool.or_eq_true,Bool.and_eq_true]at q
  rcases q with q|⟨_,q⟩
  ·have e:=Nat.eq_of_beq_eq_true q
   subst e
   rw[O _ _ o]
   exact h.kept _ _ L li lp
  ·exact absurd lp (Nat.not_le.2 (cK q))
theorem al.bZ(h:al cx st T w){ρ:List (Nat×Nat)}(o:st.bZ ρ=some st'):al cx st' T w:=let⟨_,q⟩:=h;q.bZ o
theorem N.bZ{e:Exit}(ρ:List (Nat×Nat))(o:st.bZ ρ=some st')(h:N cx Q e st'):N cx Q e st:=fun T w q=>h T w (q.bZ o)
theorem W.bZ{c:Code}(ρ:List (Nat×Nat))(o:st.bZ ρ=some st')(h:W cx Q c st'):W cx Q c st:=fun T w q=>h T w (q.bZ o)
theorem bN.bZ(ρ:List (Nat×Nat))(o:st.bZ ρ=some st')(h:bN cx ops Q l st'):bN cx ops Q l st:=fun T w q=>h T w (q.bZ o)
def nx(P:Program)(st:af):List ResultVar->Option (List ao)
 |[]=>some []
 |.tmp t::l=>match look st.ab t,nx P st l with
  |some s,some r=>some (s::r)
  |none,some r=>some (.any::r)
  |_,none=>none
 |.cell a ty'::l=>match gP P st [.cell a ty'],nx P st l with
  |some [u],some r=>some (.val u.t u.x::r)
  |_,_=>none
theorem vI(h:an cx m st T w):∀{l:List ResultVar} {ap:List ao},nx cx.P st l=some ap->
  ∃vs,(l.mapM (h9 T)).run cx.P w=.ok vs w/\ct w (ar cx m st.ids) m vs ap
 |[],_,o=>by cases o;exact⟨[],by simp,trivial⟩
 |.tmp t::l,ap,o=>by
  simp only[nx]at o
  split at o
  ·rename_i s r Y O
   cases o
   obtain⟨vs,R,U⟩:=vI h O
   obtain⟨v,q,L⟩:=h.cJ t _ (a8 Y)
   refine⟨v::vs,?_,L,U⟩
   have la:T.getD t undef=v:=by rw[Array.getD_eq_getD_getElem?,q];rfl
   have W:(h9 T (.tmp t)).run cx.P w=.ok v w:=by show Sem.run cx.P (pure (T.getD t undef)) w=_;rw[la,Sem.run_pure]
   rw[List.mapM_cons,Sem.run_bind,W]
   simp only[Result.andThen_ok,Sem.run_bind,R,Sem.run_pure]
  ·rename_i r Y O
   cases o
   obtain⟨vs,R,U⟩:=vI h O
   refine⟨T.getD t undef::vs,?_,trivial,U⟩
   have W:(h9 T (.tmp t)).run cx.P w=.ok (T.getD t undef) w:=rfl
   rw[List.mapM_cons,Sem.run_bind,W]
   simp only[Result.andThen_ok,Sem.run_bind,R,Sem.run_pure]
  ·cases o
 |.cell a t::l,ap,o=>by
  simp only[nx]at o
  split at o
  ·rename_i u r lb O
   cases o
   obtain⟨vs,R,U⟩:=vI h O
   obtain⟨us,q,L⟩:=qi h lb
   match us,L with
   |[v],⟨W,_⟩=>
    refine⟨v::vs,?_,W,U⟩
    have lc:(h9 T (.cell a t)).run cx.P w=.ok v w:=by
     rw[List.mapM_cons,Sem.run_bind]at q
     cases Z:(h9 T (.cell a t)).run cx.P w with
     |ok v' ld=>
      rw[Z]at q
      simp only[Result.andThen_ok,List.mapM_nil,Sem.run_bind,Sem.run_pure]at q
      cases q
      rfl
     |_=>rw[Z]at q;cases q
    rw[List.mapM_cons,Sem.run_bind,lc]
    simp only[Result.andThen_ok,Sem.run_bind,R,Sem.run_pure]
   |[],L=>exact L.elim
   |_::_::_,⟨_,L⟩=>exact L.elim
  ·cases o
def qt(P:Program)(fn:Func)(cx:bB)(o:af)(ap:List ao):cO:=
 bodyPost P fn fun e w'=>∃v ay q,e=.returned v/\an cx ay o q w'/\rk w' (ar cx ay o.ids) ay v ap
theorem fm{P:Program}(U:cx.P=P){fn:Func}{ap:List ao}{o:af}{e:Exit}(bs W:List Nat)(Y:e=.ret\/e=.normal)(Z:nx P st fn.results.toList=some ap)(q:st.norm [] bs W=some o)(la:ai.D cx=[]:=by rfl):
  N cx (qt cx.P fn cx o ap) e st:=by
 subst U
 rintro T w ⟨m,R⟩
 obtain⟨vs,lb,lc⟩:=vI R Z
 have ld:=FV lb
 have le:=R.norm q
 have lf:∀i,i∈o.ids->i∈st.ids:=by
  unfold af.norm at q
  split at q
  ·rename_i ab ad lm ln lg lh _
   cases q
   intro i L
   rcases List.mem_append.1 L with L|L
   ·obtain⟨p,O,rfl⟩:=List.mem_map.1 L;exact List.mem_append.2 (.inl (List.mem_map.2 ⟨p,nM lg p O,rfl⟩))
   ·obtain⟨p,O,rfl⟩:=List.mem_map.1 L;exact List.mem_append.2 (.inr (List.mem_map.2 ⟨p,nM lh p O,rfl⟩))
  ·cases q
 have li:ct w (ar cx m o.ids) m vs ap:=nI (fun _ _ _=>rfl) (fun b _ lj=>kj lf lj) lc
 have lk:rk w (ar cx m o.ids) m (if h:vs.toArray.size=1 then vs.toArray[0]else .tuple vs.toArray) ap:=by
  match vs,ap,li with
  |[],[],_=>trivial
  |[v],[u],⟨h,_⟩=>exact h
  |v1::v2::vs,lo::lp::us,h=>
   have ll:¬(v1::v2::vs).toArray.size=1:=by simp
   rw[dif_neg ll]
   exact⟨_,rfl,h⟩
  |[],_::_,h=>exact h.elim
  |_::_,[],h=>exact h.elim
  |[_],_::_::_,⟨_,h⟩=>exact h.elim
  |_::_::_,[_],⟨_,h⟩=>exact h.elim
 rcases Y with rfl|rfl<;>exact⟨la,_,ld,_,m,_,rfl,le,lk⟩
theorem mY{P:Program}{G:World->Prop}{f:FuncId}{fn:Func}{c:Code}{α β:Type}{F:bU α β}(o:P.funcs[f]? =some fn)(L:(fn.name== "runtime.NumGoroutine")=false)(q:fn.body=some c)(O:fn.ntmps=F.n)
  (R:∀cx:bB,cx.P=P->cx.n=F.n->(∀w,Frame cx.w0 w cx.X->G w)->∀x y,F.rel x y->W cx (qt cx.P fn cx (F.bJ x y) (F.ap x y)) c (F.S x)):cb P G f F where
 enters:=enters_of o L q
 calls:=fun cx U Y Z x y la vs w _ h=>by
  subst U
  refine calls_of_wp o q ?_
  rw[O]
  exact R cx rfl Y Z x y la _ _ h
theorem aV.weaken{P:Program}{G o:World->Prop}{f:Nat}{F:jg}(q:∀w,o w->G w)(h:aV P G f F):aV P o f F:=
 ⟨h.enters,h.shape,fun w M vs L ap O=>h.calls w M vs L ap (q w O)⟩
theorem cb.weaken{α β:Type}{P:Program}{G o:World->Prop}{f:Nat}{F:bU α β}(q:∀w,o w->G w)(h:cb P G f F):cb P o f F:=
 ⟨h.enters,fun cx L O R=>h.calls cx L O fun w U=>q w (R w U)⟩
end Go.Ev
namespace Go.Ev
open Go Go.RowKit
variable [b8]
section
variable {P:Program} {ops:Array Oper} {md:Region.Mode} {C:World->Prop}
def re(P:Program)(md:Region.Mode)(ops:Array Oper)(C:World->Prop)(n:Nat)(o:Array Bool->Act->Prop):Nat->Array Bool->Act->Prop
 |0,done,a=>o done a
 |f+1,done,a=>Region.ready md ops done≠[]/\∀i,i∈Region.ready md ops done->i<n/\qOp P ops C i (re P md ops C n o f (done.setIfInBounds i true)) a
theorem Mm{n g:Nat}{L:Array Bool->Act->Prop}{Q':Exit->Act->World->Prop}(q:∀done a w,C w->L done a->wpAny P md ops Q' g done a w):
  ∀(f:Nat) (done:Array Bool) (a:Act) (w:World),C w->re P md ops C n L f done a->wpAny P md ops Q' (f+g) done a w:=by
 intro f
 induction f with
 |zero=>intro done a w o h;rw[Nat.zero_add];exact q _ _ _ o h
 |succ f O=>
  intro done a w o h
  rw[Nat.succ_add]
  exact⟨fun R=>absurd R h.1,fun i U=>wpOp_of_qOp o (fun W w' Y h'=>O _ W w' Y h') (h.2 i U).2⟩
theorem Vi{n i:Nat}{aa:Oper}{v:Value}{L:Array Bool->Act->Prop}(la:ops[i]? =some aa)(ld:∀(j:Nat) (aa:Oper) R b,ops[j]? =some aa->aa.op≠.select R b)
  (le:Region.sinkB md ops n=true)(lf:Region.chainB md ops n=true)(lg:n<ops.size)(lh:i<n)(ln:∀done a,L done a->∀j,j∈Region.ready md ops done->n<=j):
  ∀(f:Nat) (done:Array Bool) (a:Act),HeadInv md ops n done->
   (∀j O,ops[j]? =some O->j≠i->done.getD j true=false->(∀e∈O.after,Region.binds md e=true->e.on≠i)->aa.apart ops O=true)->
   i∈Region.ready md ops done->YieldsIn P ops C aa v a->re P md ops C n L f (done.setIfInBounds i true) (a.put aa.dst v)->re P md ops C n L (f+1) done a:=by
 intro f
 induction f with
 |zero=>
  intro done a inv _ o Y U
  have Z:=(mem_ready.1 o).1
  refine⟨fun lb=>(by rw[lb]at o;cases o),fun j q=>?_⟩
  have W:j<n:=Nat.lt_of_not_le fun h=>tail_waits le lf lg inv _ i rfl lh Z j h q
  refine⟨W,?_⟩
  by_cases e:j=i
  ·subst e;exact Y.qOp la U
  ·exact absurd (ln _ _ U j (ready_mono q e)) (Nat.not_le_of_lt W)
 |succ f lo=>
  intro done a inv li o Y U
  have Z:=(mem_ready.1 o).1
  refine⟨fun lb=>(by rw[lb]at o;cases o),fun j q=>?_⟩
  have W:j<n:=Nat.lt_of_not_le fun h=>tail_waits le lf lg inv _ i rfl lh Z j h q
  refine⟨W,?_⟩
  by_cases e:j=i
  ·subst e;exact Y.qOp la U
  obtain⟨lj,O,lc,lp⟩:=mem_ready.1 q
  have lq:=li j O lc e lj fun d ah lr aK=>by
   have lk:=lp d ah lr
   rw[aK,getD_both Z]at lk
   cases lk
  refine qOp_mono (fun ls ll=>lo (done.setIfInBounds j true) ls (inv.set q W) (fun k ok lt lu lv lw=>li k ok lt lu ?_ lw) (ready_mono o (Ne.symm e)) ll.1 ?_)
   (qOp_put lc lq (fun R b=>ld i aa R b la) (fun R b=>ld j O R b lc) Y (U.2 j (ready_mono q e)).2)
  ·by_cases lm:j=k
   ·subst lm;exact lj
   ·rwa [getD_set_ne true lm]at lv
  ·rw[Array.setIfInBounds_comm _ _ e];exact ll.2
theorem OR{n g:Nat}{L:Act->Prop}(Z:Region.noSelect ops=true)(la:Region.sinkB md ops n=true)(lb:Region.chainB md ops n=true)(lc:n<ops.size):
  ∀(l:List Oper) (k:Nat) (done:Array Bool) (a:Act),(∀j,j<l.length->l[j]? =ops[k+j]?)->k+l.length=n->HeadInv md ops n done->Region.lexHead md ops g l.length k done=true->
   wpQuiet P ops C L l a->re P md ops C n (fun d R=>Region.seqB md ops g n d=true/\L R) l.length done a:=by
 intro l
 induction l with
 |nil=>
  intro k done a _ o _ O h
  obtain rfl:k=n:=o
  exact⟨O,h⟩
 |cons aa l ld=>
  intro k done a U o inv O h
  have q:ops[k]? =some aa:=(U 0 (Nat.succ_pos _)).symm
  obtain⟨le,lf⟩:=Bool.and_eq_true_iff.1 O
  obtain⟨lg,lh⟩:=Bool.and_eq_true_iff.1 le
  have W:k<n:=by rw[<-o];simp
  have Y:k∈Region.ready md ops done:=by simpa using lg
  obtain⟨v,li,lj⟩:=yieldsIn_of_qOp (K:=wpQuiet P ops C L l) q (by unfold qOp;rw[q];exact h)
  refine Vi q (Region.noSelect_spec Z) la lb lc W (fun d R lk=>seqB_ready lk.1) l.length done a inv (Region.free_spec q lh) Y li ?_
  refine ld (k+1) _ _ (fun j ll=>?_) (by rw[<-o];simp only[List.length_cons];omega) (inv.set Y W) lf lj
  have:=U (j+1) (Nat.succ_lt_succ ll)
  rw[Nat.add_assoc,Nat.add_comm 1 j]
  exact this
theorem U0{id:Nat}{Q:Exit->Act->World->Prop}{a:Act}{w:World}{l:List Oper}(n:Nat)(Y:P.follows .mixedOrders=true)(L:Region.lexTailB .any l.toArray n=true)(Z:C {w with drawn:=w.drawn+1})
  (h:wpQuiet P l.toArray C (fun q=>∀w',C w'->wpList P l.toArray Q (l.drop n) q w') (l.take n) a):(Code.region id l.toArray true).wp P Q a w:=by
 simp only[Region.lexTailB,Bool.and_eq_true,decide_eq_true_eq]at L
 obtain⟨⟨⟨⟨la,O⟩,lb⟩,lc⟩,ld⟩:=L
 have le:n<l.length:=by simpa using O
 have o:(l.take n).length=n:=List.length_take_of_le (Nat.le_of_lt le)
 have lf:HeadInv .any l.toArray n (Array.replicate l.toArray.size false):=
  ⟨by simp,fun j li _ R=>(by rw[getD_replicate_false]at R;cases R),fun t _ o=>getD_in (by simpa using o) (getD_replicate_false _ _)⟩
 have lg:=OR (C:=C) (md:=.any) (g:=l.toArray.size-n) la lb lc O (l.take n) 0 _ a
  (fun j U=>by rw[o]at U;simp[U]) (by rw[o,Nat.zero_add]) lf (by rw[o];exact ld) h
 have ah:(l.drop n).length=l.toArray.size-n:=by simp
 have al:=Mm (Q':=Q) (g:=l.toArray.size-n) (fun done q w' lh W=>by
  have:=wpAny_of_seq (md:=.any) (Q':=Q) (l.drop n) n done q w' (fun j=>by simp[List.getElem?_drop]) (by rw[ah];exact W.1) (W.2 w' lh)
  rwa [ah]at this) _ _ _ _ Z lg
 rw[o,show n+(l.toArray.size-n)=l.toArray.size by omega]at al
 exact wp_region_any Y al
end
variable {cx:bB} {st st':af} {Q:cO} {E:Env}
variable [ai cx]
variable {ops:Array Oper} {l:List Oper}
theorem Tk{K:World->Act->Prop}(h:oX cx K st):nr cx ops K [] st:=fun T w o=>h T w o
theorem Pb{α:Type}{o:World->Act->Prop}(F:α->Prop)(S:α->af)(n:Nat)(L:∀a,F a->nr cx ops o (l.drop n) (S a))
  (O:∀K,(∀a,F a->oX cx K (S a))->nr cx ops K (l.take n) st):nr cx ops o l st:=by
 intro T w q
 have:=kQ (P:=cx.P) (ops:=ops) (l1:=l.take n) (l2:=l.drop n)
  (O (fun w=>wpQuiet cx.P ops (Ext w) (o w) (l.drop n)) (fun a R T w q=>L a R T w q) T w q)
 rwa [List.take_append_drop]at this
end Go.Ev
namespace Go.Ev
open Go Go.RowKit
variable [b8]
variable {cx:bB} {m:Nat->Value} {st st':af} {T:Array Value} {w w':World} {E:Env} {Q:cO} {ops:Array Oper} {l:List Oper}
variable [ai cx]
theorem Kc:∀(o:List MapEntry) (j:Nat) (e:MapEntry),(o.map (·.born)).Nodup->o[j]? =some e->o.filter (fun x=>!(x.born==e.born))=o.eraseIdx j
 |[],j,e,_,h=>by simp at h
 |x::o,0,e,q,h=>by
  simp at h
  subst h
  rw[List.map_cons,List.nodup_cons]at q
  rw[List.filter_cons,beq_self_eq_true]
  simp only[Bool.not_true,Bool.false_eq_true,if_false,List.eraseIdx_zero,List.tail_cons]
  refine List.filter_eq_self.2 fun y O=>?_
  have:¬y.born=x.born:=fun L=>q.1 (List.mem_map.2 ⟨y,O,L⟩)
  simp[this]
 |x::o,j+1,e,q,h=>by
  rw[List.map_cons,List.nodup_cons]at q
  have h':o[j]? =some e:=by simpa using h
  have R:¬x.born=e.born:=fun L=>q.1 (List.mem_map.2 ⟨e,List.mem_of_getElem? h',L.symm⟩)
  rw[List.filter_cons,if_pos (by simp[R]),Kc o j e q.2 h',List.eraseIdx_cons_succ]
theorem Fv{α β:Type}{o:Value->α->Prop}{q:Value->β->Prop}:∀{es:List MapEntry} {ps:List (α×β)} (j:Nat),dQ o q es ps->dQ o q (es.eraseIdx j) (ps.eraseIdx j)
 |[],[],_,_=>trivial
 |[],_::_,_,h=>h.elim
 |_::_,[],_,h=>h.elim
 |_::_,_::_,0,⟨_,_,h⟩=>h
 |_::_,_::_,j+1,⟨L,O,R⟩=>⟨L,O,Fv j R⟩
theorem LO{α β:Type}{o:Value->α->Prop}{q:Value->β->Prop}:∀{es:List MapEntry} {ps:List (α×β)} {j:Nat} {e:MapEntry},dQ o q es ps->es[j]? =some e->∃p,ps[j]? =some p/\o e.key p.1/\q e.val p.2
 |[],_,_,_,_,h=>by simp at h
 |_::_,[],_,_,h,_=>h.elim
 |e::_,p::_,0,L,⟨O,R,_⟩,h=>by simp at h;subst h;exact⟨p,rfl,O,R⟩
 |_::_,_::_,j+1,L,⟨_,_,U⟩,h=>by
  obtain⟨p,a,b,c⟩:=LO U (j:=j) (by simpa using h)
  exact⟨p,by simpa using a,b,c⟩
theorem TB{P:Program}(ty:TypeId){r R o:Nat}{seen:Array Nat}{es:Array MapEntry}(Y:w.heap[r]? =some (.mapIter (some R) o seen o))(ld:w.heap[R]? =some (.map es o))(Z:∀x∈es.toList,x.born<o)
  (U:es.toList.filter (fun e=>!seen.contains e.born)≠[]):
  ∃(j:Nat) (e:MapEntry) (q:World),(es.toList.filter (fun e=>!seen.contains e.born))[j]? =some e/\(q=w\/q=w.drew)/\
   (Instr.next (.pointer (some ⟨r,0,none⟩)) false ty).run P w=.ok (.tuple #[.bool true,e.key,e.val]) {q with heap:=q.heap.setIfInBounds r (.mapIter (some R) o (seen.push e.born) o)}:=by
 simp only[Instr.next,getObj,Sem.run_bind,Sem.run,Y,ld,Result.andThen,next_test_false seen es o o Z (Nat.le_refl _),Bool.false_eq_true,if_false]
 have W:∀x∈(Array.filter (fun e=>!seen.contains e.born) es).toList,x.born<o:=fun x O=>Z x (by simp at O⊢;exact O.1)
 rw[<-Array.toList_filter]at U⊢
 generalize Array.filter (fun e=>!seen.contains e.born) es=L at W U⊢
 have le:L.filter (fun x=>decide (x.born<o))=L:=Array.filter_eq_self.2 (fun x O=>by simpa using W x (by simpa using O))
 have lf:L.filter (fun x=>decide (x.born≥o))=#[]:=by
  rw[Array.filter_eq_empty_iff]
  intro x O
  have:=W x (by simpa using O)
  simp
  omega
 simp only[le,lf,Array.append_empty]
 have lg:L.size≠0:=fun h=>U (by rw[Array.eq_empty_of_size_eq_zero h])
 have lh:L.isEmpty=false:=by simp[Array.isEmpty,lg]
 simp only[lh,Bool.false_eq_true,if_false,Array.empty_append,Array.size_map]
 have li:∃(j:Nat) (q:World),j<L.size/\(q=w\/q=w.drew)/\(choose (Question.mapNext L.size)).run P w=.ok j q:=by
  by_cases la:L.size<=1
  ·exact⟨0,w,by omega,.inl rfl,by simp[choose,Sem.run,Question.forced,la]⟩
  ·exact⟨_,w.drew,Nat.mod_lt _ (by omega),.inr rfl,by
    simp only[choose,Sem.run,Question.forced,decide_eq_true_eq,la,if_false,Question.cut]
    rfl⟩
 obtain⟨j,q,lb,lc,lj⟩:=li
 refine⟨j,L[j],q,by simp[lb],lc,?_⟩
 have lk:q.heap[r]? =some (.mapIter (some R) o seen o):=by rcases lc with rfl|rfl<;>exact Y
 simp only[lj,Array.getElem?_map,Array.getElem?_eq_getElem lb,Option.map_some,Sem.run_bind,setObj,Sem.run,Result.andThen,lk]
 rfl
theorem Pq{lg:Nat}(lo:cx.n=lg){aa:Oper}{l:List Oper}{x:Operand}{d b:Nat}{k v:ag}{left last:List (k.el×v.el)}(lp:aa.op=.next x false)(ah:aa.dst=some d)(lq:Nat.blt d lg=true)(lr:aa.guard=none)
  (ls:aR st x=some (.iter b))(lt:look st.ad b=some (.cv k v left last))(Y:left≠[])
  (h:∀j p,left[j]? =some p->bN cx ops Q l ((st.cY b (.cv k v (left.eraseIdx j) [p])).put d (.dD [⟨.bool,true⟩,⟨k,p.1⟩,⟨v,p.2⟩]))):bN cx ops Q (aa::l) st:=by
 rintro T w ⟨m,U⟩
 have Z:=a8 lt
 obtain⟨g,O,_,lu⟩:=U.box Z
 have O:m b=.pointer (some ⟨g,0,none⟩):=O
 have lv:Act.eval ⟨T,ai.D cx⟩ x=.pointer (some ⟨g,0,none⟩):=by have:Act.eval ⟨T,ai.D cx⟩ x=m b:=be U ls;rw[this,O]
 rcases lu with ⟨_,la,_⟩|⟨W,es,lb,seen,la,lc,lh,li,lj,ld,_⟩
 ·exact absurd la Y
 have lw:es.toList.filter (fun e=>!seen.contains e.born)≠[]:=fun le=>Y (List.eq_nil_of_length_eq_zero (by rw[<-po ld,le];rfl))
 obtain⟨j,e,q,lf,a2,a3⟩:=TB (P:=cx.P) aa.type la lc li lw
 obtain⟨p,lx,lk,ll⟩:=LO ld lf
 have ly:=fV la
 have o:Same w q/\q.heap=w.heap:=by
  rcases a2 with rfl|rfl
  ·exact⟨⟨rfl,rfl,rfl,Nat.le_refl _,fun _=>Nat.le_refl _⟩,rfl⟩
  ·exact⟨⟨rfl,rfl,rfl,Nat.le_refl _,fun _=>Nat.le_succ _⟩,rfl⟩
 have lm:Touch m w b {q with heap:=q.heap.setIfInBounds g (.mapIter (some W) lb (seen.push e.born) lb)}:=
  ⟨⟨o.1.os,o.1.tape,o.1.output,by rw[Array.size_setIfInBounds];exact o.1.size,o.1.drawn⟩,fun k _ Y=>by
   show(q.heap.setIfInBounds g _)[k]? =_
   rw[Array.getElem?_setIfInBounds_ne,o.2]
   intro e
   exact Y (by rw[O,e];rfl)⟩
 have ln:b∈st.ids:=List.mem_append.2 (.inl (List.mem_map.2 ⟨_,Z,rfl⟩))
 obtain⟨R,L⟩:=an.gw (cx:=cx) ln lm (ids:=(st.cY b (.cv k v (left.eraseIdx j) [p])).ids) (jC Z U.keys _).1
 have lz:W≠g:=fun e=>lh (.inr ⟨b,ln,by rw[O,e];rfl⟩)
 have lA:=U.cY Z lm (g:=g) (c:=.cv k v (left.eraseIdx j) [p]) O (by
  refine .inr ⟨W,es,lb,seen.push e.born,?_,?_,fun le=>lh (L W (fV lc) le),li,lj,?_,.inr ⟨e,p,rfl,?_,by simp,?_,?_⟩⟩
  ·show(q.heap.setIfInBounds g _)[g]? =_
   rw[Array.getElem?_setIfInBounds_self_of_lt (by rw[o.2];exact ly)]
  ·show(q.heap.setIfInBounds g _)[W]? =_
   rw[Array.getElem?_setIfInBounds_ne (Ne.symm lz),o.2]
   exact lc
  ·have lB:es.toList.filter (fun x=>!(seen.push e.born).contains x.born)=(es.toList.filter (fun x=>!seen.contains x.born)).eraseIdx j:=by
    have lC:((es.toList.filter (fun x=>!seen.contains x.born)).map (·.born)).Nodup:=lj.sublist (List.Sublist.map _ List.filter_sublist)
    rw[<-Kc _ j e lC lf,List.filter_filter]
    congr 1
    funext x
    rw[Array.contains_push,Bool.not_or,Bool.and_comm]
   rw[lB]
   exact gJ (fun _ _ h=>dc R L h) (fun _ _ h=>dc R L h) (Fv j ld)
  ·exact(List.mem_filter.1 (List.mem_of_getElem? lf)).1
  ·exact dc R L lk
  ·exact dc R L ll)
 have lD:=lA.put (d:=d) (by rw[lo];exact cK lq) (v:=.tuple #[.bool true,e.key,e.val]) (s:=.dD [⟨.bool,true⟩,⟨k,p.1⟩,⟨v,p.2⟩])
  ⟨[.bool true,e.key,e.val],rfl,dB.2 rfl,dc R L lk,dc R L ll,trivial⟩
 have lE:=h j p lx _ _ ⟨m,lD⟩
 refine wpList_step fun K lF=>?_
 have lG:eb ops st aa=some true:=by unfold eb;rw[lr]
 rw[il ⟨m,U⟩ lG]
 simp only[if_true]
 refine gg (cn (s:=Instr.next (.pointer (some ⟨g,0,none⟩)) false aa.type) (by simp only[execOp,lp,lv]) a3) ?_
 refine lF _ _ ?_
 rw[ah]
 exact lE
end Go.Ev
namespace Go.Ev
open Go Go.RowKit
variable [b8]
inductive iK:List Prop->Prop
 |n:iK []
 |c {p:Prop} {l:List Prop} (h:p) (t:iK l):iK (p::l)
theorem iK.all{l:List Prop}(h:iK l):bO l:=by
 induction h with
 |n=>trivial
 |c h _ o=>exact⟨h,o⟩
def cU{α:Type}(l:List (Nat×α)):List Nat:=l.map (·.1)
def ru(r:Option (af×List ak×List Prop)):af:=match r with
 |some (s,_)=>s
 |none=>⟨[],[],[]⟩
theorem sX{r:Option (af×List ak×List Prop)}{ob:List Prop}(h:r.map Prod.snd=some ([],ob)):r=some (ru r,[],ob):=by
 match r,h with
 |some (s,aa,p),h=>cases h;rfl
def uZ(r:Option af):af:=r.getD ⟨[],[],[]⟩
theorem wq{r:Option af}(h:r.isSome=true):r=some (uZ r):=by
 match r,h with
 |some s,_=>rfl
def gr(st:af)(d:Nat)(b:Bool):af:={st with ab:=st.ab.map fun p=>bif Nat.beq p.1 d then(p.1,.val .bool b)else p}
variable {cx:bB} {st st':af} {Q:cO} {E:Env} {ops:Array Oper} {l:List Oper} {K:World->Act->Prop}
variable [ai cx]
theorem bC(q:bv E cx)(o bs ap:List Nat){orc:List ak}{ob:List Prop}(L:(ke E ops l st orc o bs ap).map Prod.snd=some ([],ob))(O:iK ob)(h:N cx Q .normal (ru (ke E ops l st orc o bs ap))):bN cx ops Q l st:=
 Kd q o bs ap (sX L) O.all h
theorem cM(o:bv E cx){orc:List ak}{ob:List Prop}(q:ke E ops l st orc (cU st'.ab) (cU st'.ad) (cU st'.rw)=some (st',[],ob))(L:iK ob)(h:N cx Q .normal st'):bN cx ops Q l st:=
 Kd o _ _ _ q L.all h
theorem iv(q:bv E cx)(n:Nat)(o bs ap:List Nat){orc:List ak}{ob:List Prop}(L:(ke E ops (l.take n) st orc o bs ap).map Prod.snd=some ([],ob))(O:iK ob)(h:bN cx ops Q (l.drop n) (ru (ke E ops (l.take n) st orc o bs ap))):bN cx ops Q l st:=
 Wp q n o bs ap (sX L) O.all h
theorem Kz(q:bv E cx)(o bs ap:List Nat){orc:List ak}{ob:List Prop}(L:(qE E ops l st orc o bs ap).map Prod.snd=some ([],ob))(O:iK ob)(h:N cx Q .normal (ru (qE E ops l st orc o bs ap))):CG cx ops Q l st:=
 U4 q o bs ap (sX L) O.all h
theorem FI(d:Nat){b:Bool}(o:gr st d b=st)(q:b=true->bN cx ops Q l (gr st d true))(L:b=false->bN cx ops Q l (gr st d false)):bN cx ops Q l st:=by
 rw[<-o]
 exact Sj (gr st d) q L
theorem ov(L:bv E cx){α β:Type}{F:bU α β}{f:Nat}(O:cb E.P E.G f F)(x:α)(y:β)(R:F.rel x y){aa:Oper}{ρ ρ':List (Nat×Nat)}{n:Nat}(U:F.n=n)(o bs q:List Nat)
  (W:eb ops st aa=some true)(Y:ny E st aa n f ρ=some (F.S x))(Z:(uM st (F.bJ x y) aa n E.n ρ ρ' (F.ap x y) o bs q).isSome=true)(h:bN cx ops Q l (uZ (uM st (F.bJ x y) aa n E.n ρ ρ' (F.ap x y) o bs q))):bN cx ops Q (aa::l) st:=
 tk L O x y R U o bs q W Y (wq Z) h
theorem jD{e:Exit}(o:st.norm (cU st'.ab) (cU st'.ad) (cU st'.rw)=some st')(h:N cx Q e st'):N cx Q e st:=h.norm o
theorem wa{e:Exit}(o bs ap:List Nat)(q:(st.norm o bs ap).isSome=true)(h:N cx Q e (uZ (st.norm o bs ap))):N cx Q e st:=h.norm (wq q)
theorem Kr{e:Exit}(o bs ap:List Nat)(ρ:List (Nat×Nat))(q:((st.norm o bs ap).bind (·.bZ ρ))=some st')(h:N cx Q e st'):N cx Q e st:=by
 obtain⟨s,L,O⟩:=Option.bind_eq_some_iff.1 q
 exact(N.bZ ρ O h).norm L
theorem gc{e:Exit}(o bs ap:List Nat)(ρ:List (Nat×Nat))(q:((st.norm o bs ap).bind (·.bZ ρ)).isSome=true)(h:N cx Q e (uZ ((st.norm o bs ap).bind (·.bZ ρ)))):N cx Q e st:=Kr o bs ap ρ (wq q) h
end Go.Ev
namespace Go.Ev
open Go Go.RowKit
variable [b8]
variable {cx:bB} {m:Nat->Value} {st st':af} {T:Array Value} {w w':World} {E:Env} {Q:cO} {ops:Array Oper} {l:List Oper}
variable [ai cx]
structure uq(P:Program)(G:World->Prop)(f e:Nat)(t:ag)(rel:List t.el->List t.el->Prop):Prop where
 enters:∀args w,(callFunc f args).run P w=.ok (.enter f args) w
 calls:∀(w:World) (M:Nat->Prop) (v:Value) (xs o:List t.el) (cells:List Value),G w->rel xs o->w.ownsRow 0 e t.cells v xs.length cells->bM (aH w M t) cells xs->
  Calls P f #[v] w fun x w'=>∃u q,x=.returned u/\Same w w'/\(∀b,b<w.heap.size->aT v≠some b->w'.heap[b]? =w.heap[b]?)/\w'.ownsRow 0 e t.cells v o.length q/\bM (aH w M t) q o
def yc(st:af)(aa:Oper)(f:Nat):Option Nat:=
 match aa.op with
 |.call c=>match c.callee,c.args.toList with
  |.value x,[a]=>match aR st x,aR st a with
   |some (.clos o []),some (.row r)=>bif Nat.beq o f then some r else none
   |_,_=>none
  |_,_=>none
 |_=>none
def JW(P:Program)(n:Nat)(st:af)(aa:Oper):Option (Nat×ak):=
 match aa.dst,aa.op with
 |some d,.binOp .eql t x (.const (.slice none 0 0)) _=>match aR st x,P.underlying t,Nat.blt d n with
  |some (.val (.ab u) xs),some (.slice _),true=>some (d,⟨.ab u,xs⟩)
  |_,_,_=>none
 |_,_=>none
theorem B4(L:bv E cx){aa:Oper}{d:Nat}{u:ag}{xs:List u.el}(U:eb ops st aa=some true)(aK:JW E.P E.n st aa=some (d,⟨.ab u,xs⟩))
  (h:∀b:Bool,(b=true->xs=[])->bN cx ops Q l (st.put d (.val .bool b))):bN cx ops Q (aa::l) st:=by
 rintro T w ⟨m,o⟩
 refine wpList_step fun K W=>?_
 rw[il ⟨m,o⟩ U]
 simp only[if_true]
 unfold JW at aK
 split at aK
 case h_2=>cases aK
 rename_i d' t x t2 ah Y
 split at aK
 case h_2=>cases aK
 rename_i lg lh e Z O q
 cases aK
 have la:=(bD (t:=.ab u) rfl).1 (be o Z)
 obtain⟨a,cap,cells,R,li,lj,lb,_⟩:=la
 simp only[List.cons.injEq,and_true]at R
 rw[<-L.P]at O
 have lc:(execOp (Act.eval ⟨T,ai.D cx⟩) aa).run cx.P w=.ok (.value (.bool a.isNone)) w:=by
  refine cn (s:=do eqGuard .eql t x (.const (.slice none 0 0)) (Act.eval ⟨T,ai.D cx⟩ x) (.slice none 0 0);binOp .eql t (Act.eval ⟨T,ai.D cx⟩ x) (.slice none 0 0)) (by simp only[execOp,Y];rfl) ?_
  rw[R,Sem.run_bind]
  have ld:(eqGuard .eql t x (.const (.slice none 0 0)) (.slice a xs.length cap) (.slice none 0 0)).run cx.P w=.ok () w:=rfl
  rw[ld]
  exact Lib.run_eql_slice_nil w t e a _ cap 0 0 O
 refine gg lc ?_
 rw[ah]
 have q:d<cx.n:=by rw[L.n];exact cK q
 refine W _ _ (h a.isNone (fun le=>?_) _ _ ⟨m,o.put q (s:=.val .bool a.isNone) (dB.2 rfl)⟩)
 have lf:a=none:=by simpa using le
 have:=lb lf
 exact List.length_eq_zero_iff.1 (by omega)
end Go.Ev
namespace Go.Ev
open Go Go.RowKit
variable [b8]
variable {cx:bB} {m:Nat->Value} {st st':af} {T:Array Value} {w w':World} {E:Env} {Q:cO} {ops:Array Oper} {l:List Oper}
variable [ai cx]
def vp(n:Nat)(st:af)(aa:Oper):Option (Nat×Nat):=
 match aa.op,aa.dst,aa.guard with
 |.next x false,some d,none=>match aR st x,Nat.blt d n with
  |some (.iter b),true=>some (d,b)
  |_,_=>none
 |_,_,_=>none
theorem Iu{n:Nat}{aa:Oper}{d b:Nat}(h:vp n st aa=some (d,b)):∃x,aa.op=.next x false/\aa.dst=some d/\aa.guard=none/\aR st x=some (.iter b)/\Nat.blt d n=true:=by
 unfold vp at h
 split at h
 case h_2=>cases h
 rename_i x d' o ah q
 split at h
 case h_2=>cases h
 rename_i R L O
 cases h
 exact⟨x,o,ah,q,L,O⟩
theorem uW(q:bv E cx){aa:Oper}{d b:Nat}{k v:ag}{left last:List (k.el×v.el)}(aK:vp E.n st aa=some (d,b))(L:look st.ad b=some (.cv k v left last))(O:left=[])
  (R:(st.put d (.dD [⟨.bool,false⟩])).norm (cU st'.ab) (cU st'.ad) (cU st'.rw)=some st')(h:bN cx ops Q l st'):bN cx ops Q (aa::l) st:=by
 obtain⟨x,U,ah,W,Y,Z⟩:=Iu aK
 rintro T w ⟨m,o⟩
 obtain⟨u,w',ay,la,lb,lc⟩:=He (T:=T) o U Y L O (orc:=[]) (ob:=[])
 refine wpList_step fun K ld=>?_
 have le:eb ops st aa=some true:=by unfold eb;rw[W]
 rw[il ⟨m,o⟩ le]
 simp only[if_true]
 refine gg la ?_
 refine ld _ _ ?_
 rw[ah]
 exact h _ _ ⟨ay,(lb.put (by rw[q.n];exact cK Z) lc).norm R⟩
theorem sZ(L:bv E cx){aa:Oper}{d b:Nat}{k v:ag}{left last:List (k.el×v.el)}{p:k.el×v.el}(aK:vp E.n st aa=some (d,b))(O:look st.ad b=some (.cv k v left last))(q:left=[p])
  (R:((st.cY b (.cv k v [] [p])).put d (.dD [⟨.bool,true⟩,⟨k,p.1⟩,⟨v,p.2⟩])).norm (cU st'.ab) (cU st'.ad) (cU st'.rw)=some st')(h:bN cx ops Q l st'):bN cx ops Q (aa::l) st:=by
 obtain⟨x,U,ah,W,Y,Z⟩:=Iu aK
 refine Pq L.n U ah Z W Y O (by rw[q];simp) fun j lb o=>?_
 rw[q]at o⊢
 match j,o with
 |0,o=>
  simp at o
  subst o
  rintro T w ⟨m,la⟩
  exact h T w ⟨m,la.norm R⟩
end Go.Ev
namespace Go.Ev
open Go Go.RowKit
variable [b8]
variable {cx:bB} {m:Nat->Value} {st st':af} {T:Array Value} {w:World} {E:Env} {Q:cO} {ops:Array Oper} {l:List Oper}
variable [ai cx]
def CT(st:af)(aa:Oper)(n r:Nat)(c:cE):Option af:=
 match aa.dst with
 |none=>some (st.setRow r c)
 |some d=>match Nat.blt d n with
  |true=>some ((st.setRow r c).put d .any)
  |false=>none
theorem N4(W:bv E cx){f e:Nat}{t:ag}{rel:List t.el->List t.el->Prop}(le:uq E.P E.G f e t rel)(xs O:List t.el)(lf:rel xs O){aa:Oper}(r:Nat)
  (lg:eb ops st aa=some true)(o:yc st aa f=some r)(lh:look st.rw r=some ⟨e,t,xs⟩)(L:CT st aa E.n r ⟨e,t,O⟩=some st')(h:bN cx ops Q l st'):bN cx ops Q (aa::l) st:=by
 rintro T w ⟨m,q⟩
 refine wpList_step fun K la=>?_
 rw[il ⟨m,q⟩ lg]
 simp only[if_true]
 unfold yc at o
 split at o
 case h_2=>cases o
 rename_i c li
 split at o
 case h_2=>cases o
 rename_i lj a lk ll
 split at o
 case h_2=>cases o
 rename_i lb lD lm ln
 cases R:Nat.beq lb f with
 |false=>rw[R]at o;cases o
 |true=>
 rw[R]at o
 cases o
 have lo:=Nat.eq_of_beq_eq_true R
 subst lo
 have lp:Act.eval ⟨T,ai.D cx⟩ lj=.func (.func lb) #[] (([]:List Nat).map m).toArray:=be q lm
 have lq:Act.eval ⟨T,ai.D cx⟩ a=m r:=be q ln
 have U:=a8 lh
 obtain⟨cells,lr,lE,ls⟩:=q.rows r _ U
 have Y:=le
 rw[<-W.P]at Y
 have lt:=Y.calls w (ar cx m st.ids) (m r) xs O cells (W.rn w q.frame) lf lr ls
 unfold Oper.wp
 rw[sK li lk lp Y.enters w,ll]
 simp only[List.map_cons,List.map_nil,List.append_nil,lq]
 refine lt.mono ?_
 rintro x w' ⟨u,lF,rfl,lu,lv,lw,lx⟩
 show K (Act.put ⟨T,ai.D cx⟩ aa.dst u) w'
 have ly:r∈st.ids:=List.mem_append.2 (.inr (List.mem_map.2 ⟨_,U,rfl⟩))
 have lc:Touch m w r w':=⟨lu,fun b R lz=>lv b R fun e=>lz (gi e)⟩
 obtain⟨lA,_⟩:=ni U q.keys ⟨e,t,O⟩
 obtain⟨lB,lC⟩:=an.gw (cx:=cx) ly lc lA
 have ld:an cx m (st.setRow r ⟨e,t,O⟩) T w':=q.setRow U lc lw (di (fun _ _=>cC lB lC t) lx)
 unfold CT at L
 split at L
 ·rename_i ah
  rw[ah]
  cases L
  exact la _ _ (h _ _ ⟨m,ld⟩)
 ·rename_i d ah
  split at L
  ·rename_i Z
   rw[ah]
   have Z:d<cx.n:=by rw[W.n];exact cK Z
   cases L
   exact la _ _ (h _ _ ⟨m,ld.put Z (s:=.any) trivial⟩)
  ·cases L
def ghost(P:Program)(st:af)(aa:Oper)(i j:Nat):Option af:=
 match aa.op with
 |.call c=>match c.argTypes.toList[i]? with
  |some t=>match dO P t with
   |some (e,_)=>match nz P e,iP j st.ids with
    |some k,false=>some (st.dH [j] [(j,.bp e k [] none)] [] (ao.dI [j]))
    |_,_=>none
   |none=>none
  |none=>none
 |_=>none
def mP:Value:=.tuple #[.slice none 0 0]
theorem Xz(h:an cx m st T w){P:Program}{aa:Oper}{i j:Nat}(q:ghost P st aa i j=some st'):an cx (bx m j mP) st' T w:=by
 unfold ghost at q
 split at q
 case h_2=>cases q
 split at q
 case h_2=>cases q
 split at q
 case h_2=>cases q
 split at q
 case h_2=>cases q
 rename_i e _ _ _ _ k Z la
 cases q
 have X:gS cx m (bx m j mP) st w w [j] [(j,.bp e k [] none)] []:={
  same:=⟨rfl,rfl,rfl,Nat.le_refl _,fun _=>Nat.le_refl _⟩
  block:=fun _ _ _=>rfl
  old:=fun b _ o=>cR _ _ fun e=>o (by simp[e])
  new:=fun b o g q=>by
   have:b=j:=by simpa using o
   subst this
   rw[cd]at q
   obtain⟨u,R,U⟩:=q
   have:u=.slice none 0 0:=by simpa[mP]using R
   subst this
   cases U
  apart:=fun a b W o lb=>by
   have:a=j:=by simpa using W
   have:b=j:=by simpa using o
   omega
  keys:=by simp
  mu:=fun b o _=>by
   have:b=j:=by simpa using o
   simp[this]
  mh:=fun b c o O=>by simp at o;rw[o.2]at O;cases O
  fb:=fun r c L=>by cases L}
 refine h.dH X (fun M v s Y=>mL (fun b o=>cR _ _ fun e=>o (by simp[e])) Y) (fun b c o=>?_) (fun r c L=>by cases L)
 simp only[List.mem_cons,Prod.mk.injEq,List.not_mem_nil,or_false]at o
 obtain⟨rfl,rfl⟩:=o
 rw[cd]
 exact⟨0,⟨_,[],rfl⟩,.slice none 0 0,[],[],rfl,World.ownsRow_nil w 0 e k.u.cells,⟨rfl,rfl⟩,(show([]:List Nat).Nodup from List.nodup_nil)⟩
def tu(P:Program)(st:af)(i j:Nat):Nat->List TypeId->List Operand->Option (List ao)
 |_,[],[]=>some []
 |n,t::o,x::xs=>match(match Nat.beq n i,x with
   |true,.const (.slice none 0 0)=>some (ao.osl j)
   |_,_=>r6 P st t x),tu P st i j (n+1) o xs with
  |some v,some vs=>some (v::vs)
  |_,_=>none
 |_,_,_=>none
theorem Ip(h:an cx m st T w){i j:Nat}(O:m j=mP):∀{n:Nat} {R:List TypeId} {xs:List Operand} {q:List ao},tu cx.P st i j n R xs=some q->ct w (ar cx m st.ids) m (xs.map (Act.eval ⟨T,ai.D cx⟩)) q
 |_,[],[],_,o=>by cases o;trivial
 |_,[],_::_,_,o=>by cases o
 |_,_::_,[],_,o=>by cases o
 |n,t::R,x::xs,q,o=>by
  unfold tu at o
  split at o
  ·rename_i v W L U
   cases o
   refine⟨?_,Ip h O U⟩
   split at L
   ·cases L
    exact⟨[],O⟩
   ·exact Jp h L
  ·cases o
def yh(E:Env)(st:af)(aa:Oper)(n f:Nat)(ρ:List (Nat×Nat))(i j:Nat):Option af:=
 match aa.op with
 |.call c=>match c.callee with
  |.value x=>match aR st x with
   |some (.clos o bs)=>match Nat.beq o f,oY st bs,tu E.P st i j 0 c.argTypes.toList c.args.toList with
    |true,true,some q=>iG st n ρ (q++bs.map fun b=>ao.ptr b 0)
    |_,_,_=>none
   |_=>none
  |_=>none
 |_=>none
theorem Vt(O:bv E cx){α β:Type}{F:bU α β}{f:Nat}(lg:cb E.P E.G f F)(x:α)(y:β)(lh:F.rel x y){aa:Oper}{ρ ρ':List (Nat×Nat)}{n i j:Nat}{W:af}(li:F.n=n)(lj:ghost E.P W aa i j=some st)
  (lk:eb ops W aa=some true)(o:yh E st aa n f ρ i j=some (F.S x))(q:iS st (F.bJ x y) aa n E.n ρ ρ' (F.ap x y)=some st')(h:bN cx ops Q l st'):bN cx ops Q (aa::l) W:=by
 subst li
 rintro T w ⟨m0,la⟩
 refine wpList_step fun K lb=>?_
 rw[il ⟨m0,la⟩ lk]
 simp only[if_true]
 have L:=Xz la lj
 have lc:bx m0 j mP j=mP:=cd _ _ _
 generalize bx m0 j mP=m at L lc
 have Y:=lg
 rw[<-O.P]at Y
 have ll:∀(R:List ao) (vs:List Value),iG st F.n ρ R=some (F.S x)->ct w (ar cx m st.ids) m vs R->(execOp (Act.eval ⟨T,ai.D cx⟩) aa).run cx.P w=.ok (.enter f vs.toArray) w->aa.wp cx.P ⟨T,ai.D cx⟩ w K Q:=by
  intro R vs o ld lm
  have ln:=yU L o ld
  obtain⟨lo,lp⟩:=za o
  have lq:=kz ld
  have lr:(F.S x).ab.length=R.length:=yl o
  have ls:=Y.calls (sub cx m st w F.n ρ) rfl rfl (fun w' U=>O.rn w' (EY L U)) x y lh _ w (by rw[lr];exact lq) ⟨_,ln⟩
  unfold Oper.wp
  rw[lm]
  refine ls.mono ?_
  rintro e w' ⟨v,ay,lE,rfl,lt,lu⟩
  unfold iS at q
  split at q
  case h_2=>cases q
  rename_i lF s le lv
  rw[<-O.n]at le
  obtain⟨m2,lf,lw⟩:=xZ L lo lp lt le
  show K (Act.put ⟨T,ai.D cx⟩ aa.dst v) w'
  split at q
  ·rename_i ah
   rw[ah]
   cases q
   exact lb _ _ (h _ _ ⟨m2,lf⟩)
  ·rename_i d ah
   split at q
   ·rename_i Z
    rw[ah]
    have Z:d<cx.n:=by rw[O.n];exact cK Z
    cases q
    exact lb _ _ (h _ _ ⟨m2,lf.put Z (lw v s (Hz lv lu))⟩)
   ·cases q
 unfold yh at o
 split at o
 case h_2=>cases o
 rename_i c lx
 split at o
 case h_2=>cases o
 rename_i ly lz
 split at o
 case h_2=>cases o
 rename_i lA bI lB
 split at o
 case h_2=>cases o
 rename_i R U lC has
 have U:=Nat.eq_of_beq_eq_true U
 subst U
 rw[<-O.P]at has
 have lD:Act.eval ⟨T,ai.D cx⟩ ly=.func (.func lA) #[] (bI.map m).toArray:=be L lB
 exact ll _ _ o (jX (Ip L lc has) (ri L lC)) (sK lx lz lD Y.enters w)
end Go.Ev
namespace Go.Ev
open Go Go.RowKit
variable [b8]
section
variable {P:Program}
def Calm{α:Type}(P:Program)(s:Sem α):Prop:=∀w x o,s.run P w=.ok x o->o=w/\∀w',s.run P w'=.ok x w'
theorem Calm.pure{α:Type}(x:α):Calm P (Pure.pure x:Sem α):=fun w y o h=>by cases h;exact⟨rfl,fun _=>rfl⟩
theorem Calm.bind{α β:Type}{s:Sem α}{f:α->Sem β}(L:Calm P s)(O:∀x,Calm P (f x)):Calm P (s>>=f):=fun w y R h=>by
 rw[Sem.run_bind]at h
 cases o:s.run P w with
 |halt e q=>rw[o]at h;cases h
 |ok x q=>
  rw[o]at h
  obtain⟨rfl,U⟩:=L w x q o
  obtain⟨rfl,W⟩:=O x _ y R h
  exact⟨rfl,fun w'=>by rw[Sem.run_bind,U w'];exact W w'⟩
theorem Calm.stuck{α:Type}(s:String):Calm P (stuck s:Sem α):=fun w y o h=>by cases h
theorem Calm.Kh{α:Type}(s:Unsupported):Calm P (unsupported s:Sem α):=fun w y o h=>by cases h
theorem Calm.program:Calm P program:=fun w y o h=>by cases h;exact⟨rfl,fun _=>rfl⟩
theorem Calm.never{α:Type}{s:Sem α}(h:∀w x o,s.run P w≠.ok x o):Calm P s:=fun w x o e=>absurd e (h w x o)
theorem nn{α β:Type}{s:Sem α}{f:α->Sem β}(L:∀x w y o,(f x).run P w≠.ok y o):∀w y o,(s>>=f).run P w≠.ok y o:=fun w y o h=>by
 rw[Sem.run_bind]at h
 cases q:s.run P w with
 |halt e O=>rw[q]at h;cases h
 |ok x O=>rw[q]at h;exact L _ _ _ _ h
theorem iu{α:Type}(e:RuntimeError):∀w (x:α) o,(runtimePanic e:Sem α).run P w≠.ok x o:=by
 unfold runtimePanic
 refine nn fun p=>?_
 cases e<;>simp only
 case typeAssertion=>exact nn fun _=>nn fun _ w x o h=>by cases h
 case panicNil=>exact nn fun _=>nn fun _ w x o h=>by cases h
 all_goals exact fun w x o h=>by cases h
theorem Calm.panic{α:Type}(e:RuntimeError):Calm P (runtimePanic e:Sem α):=.never (iu e)
theorem Calm.bounds{α:Type}(k:IntKind)(x y:Int)(c:BoundsCode):Calm P (boundsPanic k x y c:Sem α):=.never (by
 unfold boundsPanic
 dsimp only
 split
 ·exact nn fun _=>iu _
 ·exact nn fun _=>iu _)
theorem Calm.underlying(t:TypeId):Calm P (underlying t):=Calm.program.bind fun p=>by
 split
 ·exact .pure _
 ·exact .stuck _
theorem Calm.typeInfo(t:TypeId):Calm P (typeInfo t):=Calm.program.bind fun p=>by
 split
 ·exact .pure _
 ·exact .stuck _
theorem Calm.sizeOf(t:TypeId):Calm P (sizeOf t):=by
 unfold Go.sizeOf
 first
 |exact Calm.bind (.typeInfo t) fun _=>.pure _
 |exact Calm.bind .program fun _=>.pure _
theorem Calm.asBool(v:Value):Calm P (asBool v):=by
 unfold Go.asBool
 split
 ·exact .pure _
 ·exact .stuck _
theorem Calm.asIntOf(v:Value):Calm P (asIntOf v):=by
 unfold Go.asIntOf
 split
 ·exact .pure _
 ·exact .Kh _
 ·exact .stuck _
theorem Calm.sureAddr(v:Value):Calm P (Instr.sureAddr v):=by
 unfold Instr.sureAddr
 split
 ·exact .pure _
 ·exact .stuck _
theorem Calm.indexAt(t:TypeId)(x i:Value):Calm P (Instr.indexAt t x i):=by
 unfold Instr.indexAt
 refine Calm.bind (.asIntOf i) fun p=>?_
 refine Calm.bind (.underlying t) fun d=>?_
 have key:∀U:Option Addr×Nat×TypeId,Calm P (match U with
   |(L,o,q)=>do
    let O<-Go.underlying t
    have R:Bool:=decide (o<=1)&&match O with
      |TypeDesc.array o q=>true
      |x=>false
    match L with
     |some a=>
      if 0<=p.snd/\p.snd<↑o then do
       let O<-Go.sizeOf q
       Pure.pure (Value.pointer (some (a.add (p.snd.toNat*O))))
      else
       if R=true then
        unsupported (Unsupported.noEntry "op/indexAddr.an index out of range at an array of length 0 or 1 (ledger 616)")
       else boundsPanic p.fst p.snd (↑o) BoundsCode.index
     |none=>boundsPanic p.fst p.snd 0 BoundsCode.index):=by
  rintro⟨L,o,q⟩
  refine Calm.bind (.underlying t) fun d2=>?_
  dsimp only
  generalize (decide (o<=1)&&match d2 with
      |TypeDesc.array o q=>true
      |x=>false)=R
  cases L with
  |some a=>
   dsimp only
   split
   ·exact Calm.bind (.sizeOf _) fun _=>.pure _
   ·split
    ·exact .Kh _
    ·exact .bounds _ _ _ _
  |none=>exact .bounds _ _ _ _
 dsimp only
 split
 ·exact Calm.bind (.sureAddr _) fun _=>Calm.bind (.pure _) key
 ·exact Calm.bind (.pure _) key
 ·exact Calm.bind (.stuck _) key
theorem TI(v:Value):(∃a,v=.pointer (some a))\/∃s,Instr.sureAddr v=stuck s:=by
 unfold Instr.sureAddr
 split
 ·exact .inl ⟨_,rfl⟩
 ·exact .inr ⟨_,rfl⟩
theorem Calm.fieldAt{s:TypeId}{f off:Nat}{u:ag}(h:fieldInfo P s f=some (off,u))(v:Value):Calm P (Instr.fieldAt s v f):=by
 rcases TI v with ⟨a,rfl⟩|⟨m,o⟩
 ·intro w x q e
  rw[k7 h]at e
  cases e
  exact⟨rfl,fun w'=>k7 h a w'⟩
 ·unfold Instr.fieldAt
  refine Calm.bind (.underlying s) fun d=>?_
  split
  ·split
   ·rw[o]
    exact fun w x q e=>by cases e
   ·exact .stuck _
  ·exact .stuck _
theorem M1{x y:Value}{w q:World}{k:IntKind}{n:Int}(h:(Builtin.min2 x y).run P w=.ok (.int k n) q):∃m,x=.int k m/\q=w/\∀w',(Builtin.min2 x y).run P w'=.ok (.int k n) w':=by
 unfold Builtin.min2 at h⊢
 split at h
 ·cases h
  exact⟨_,rfl,rfl,fun _=>rfl⟩
 ·split at h
  ·rw[Sem.run_bind]at h
   generalize Sem.run P (choose _) w=r at h
   cases r with
   |ok a o=>cases h
   |halt e o=>cases h
  ·cases h
  ·cases h
  ·cases h
 ·rename_i a b
  rw[Sem.run_bind]at h
  generalize Sem.run P (Op.stringOp _ a b) w=r at h
  cases r with
  |halt e o=>cases h
  |ok a o=>
   rw[Result.andThen_ok,Sem.run_bind]at h
   generalize Sem.run P (asBool a) o=r at h
   cases r with
   |halt e o=>cases h
   |ok a o=>cases h
 ·cases h
 ·cases h
 ·cases h
theorem G4:∀(rest:List Value) (x:Value) (w o:World) (k:IntKind) (n:Int),(rest.foldlM Builtin.min2 x).run P w=.ok (.int k n) o->(∃m,x=.int k m)/\o=w/\∀w',(rest.foldlM Builtin.min2 x).run P w'=.ok (.int k n) w'
 |[],x,w,o,k,n,h=>by
  rw[List.foldlM_nil]at h⊢
  cases h
  exact⟨⟨_,rfl⟩,rfl,fun _=>rfl⟩
 |y::rest,x,w,o,k,n,h=>by
  rw[List.foldlM_cons,Sem.run_bind]at h
  cases q:(Builtin.min2 x y).run P w with
  |halt e L=>rw[q]at h;cases h
  |ok z L=>
   rw[q]at h
   obtain⟨⟨m,rfl⟩,O,R⟩:=G4 rest z L o k n h
   obtain⟨ay,rfl,U,W⟩:=M1 q
   exact⟨⟨_,rfl⟩,O.trans U,fun w'=>by rw[List.foldlM_cons,Sem.run_bind,W w'];exact R w'⟩
def gQ(aa:Oper):Bool:=match aa.op with
 |.move _=>true
 |.assign _=>true
 |.nilCheck _=>true
 |.fieldAddr _ _ _=>true
 |.indexAddr _ _ _=>true
 |.call {callee:=.builtin .min,.. }=>true
 |.binOp _ _ _ _ _=>true
 |_=>false
def QL:ao->Bool
 |.ptr _ _=>true
 |.vptr _ _=>true
 |.dN _ _ _ _=>true
 |.dz _ _=>true
 |.dM _ _ _ _=>true
 |.eV _ _ _ _ _=>true
 |_=>false
def KA:ao->Bool
 |.val (.int _) _=>true
 |_=>false
def rh(P:Program)(aa:Oper)(s:ao):Bool:=match aa.op with
 |.nilCheck _=>QL s
 |.fieldAddr t _ f=>(fieldInfo P t f).isSome
 |.call _=>gQ aa&&KA s
 |.binOp _ _ _ _ _=>false
 |_=>gQ aa
theorem xO{aa:Oper}(h:gQ aa=true){ρ:Operand->Value}{w O:World}{n:Next}(o:(execOp ρ aa).run P w=.ok n O):∃v,n=.value v:=by
 have key:∀(s:Sem Value),(do Pure.pure (Next.value (<-s)):Sem Next).run P w=.ok n O->∃v,n=.value v:=fun s h=>by
  rw[Sem.run_bind]at h
  cases o:s.run P w with
  |halt e L=>rw[o]at h;cases h
  |ok v L=>rw[o]at h;cases h;exact⟨v,rfl⟩
 unfold gQ at h
 split at h
 ·rename_i x q;simp only[execOp,q]at o;cases o;exact⟨_,rfl⟩
 ·rename_i x q;simp only[execOp,q]at o;cases o;exact⟨_,rfl⟩
 ·rename_i x q
  simp only[execOp,q]at o
  split at o
  ·exact absurd o (iu _ _ _ _)
  ·exact absurd o (iu _ _ _ _)
  ·exact absurd o (iu _ _ _ _)
  ·split at o
   ·exact absurd o (iu _ _ _ _)
   ·rw[Sem.run_bind]at o
    rw[run_program,Result.andThen_ok,Sem.run_bind]at o
    generalize Sem.run P (nilAhead _ _ _ _) w=R at o
    cases R with
    |halt e L=>cases o
    |ok a L=>
     rw[Result.andThen_ok]at o
     split at o
     ·rw[Sem.run_bind]at o;cases o
     ·cases o;exact⟨_,rfl⟩
   ·cases o;exact⟨_,rfl⟩
  ·cases o;exact⟨_,rfl⟩
 ·rename_i t x f q;simp only[execOp,q]at o;exact key _ o
 ·rename_i t x i q;simp only[execOp,q]at o;exact key _ o
 ·rename_i args U q
  simp only[execOp,q]at o
  exact key (Builtin.min_ _ _ _) o
 ·rename_i W t x y u q;simp only[execOp,q]at o;exact key _ o
 ·cases h
theorem Oj{aa:Oper}{s:ao}(h:rh P aa s=true){ρ:Operand->Value}{w la O:World}{v:Value}{M:Nat->Prop}{m:Nat->Value}(o:(execOp ρ aa).run P w=.ok (.value v) la)(L:aS O M m v s):
  gQ aa=true/\∀w',(execOp ρ aa).run P w'=.ok (.value v) w':=by
 have key:∀(s:Sem Value),Calm P s->execOp ρ aa=(do Pure.pure (Next.value (<-s)))->∀w',(execOp ρ aa).run P w'=.ok (.value v) w':=fun s lb U=>by
  rw[U]at o⊢
  exact(Calm.bind lb (fun v=>Calm.pure (Next.value v)) _ _ _ o).2
 unfold rh at h
 split at h
 ·rename_i x q
  refine⟨by unfold gQ;rw[q],?_⟩
  have lc:∃a,v=.pointer (some a):=by
   cases s<;>first|(cases h;done)|skip
   all_goals unfold aS at L
   ·obtain⟨g,_,rfl⟩:=L;exact⟨_,rfl⟩
   ·obtain⟨g,_,rfl,_⟩:=L;exact⟨_,rfl⟩
   ·obtain⟨g,_,_,_,rfl⟩:=L;exact⟨_,rfl⟩
   ·obtain⟨g,_,rfl⟩:=L;exact⟨_,rfl⟩
   ·obtain⟨g,_,_,_,_,rfl⟩:=L;exact⟨_,rfl⟩
   ·obtain⟨_,_,g,_,_,_,_,rfl⟩:=L;exact⟨_,rfl⟩
  obtain⟨a,rfl⟩:=lc
  have e:ρ x=.pointer (some a):=by
   simp only[execOp,q]at o
   generalize ρ x=y at o
   split at o
   ·exact absurd o (iu _ _ _ _)
   ·exact absurd o (iu _ _ _ _)
   ·exact absurd o (iu _ _ _ _)
   ·split at o
    ·exact absurd o (iu _ _ _ _)
    ·rw[Sem.run_bind]at o
     rw[run_program,Result.andThen_ok,Sem.run_bind]at o
     generalize Sem.run P (nilAhead _ _ _ _) w=ld at o
     cases ld with
     |halt e O=>cases o
     |ok a O=>
      rw[Result.andThen_ok]at o
      split at o
      ·rw[Sem.run_bind]at o;cases o
      ·cases o
    ·cases o
   ·cases o;rfl
  intro w'
  simp only[execOp,q,e]
  rfl
 ·rename_i t x f q
  refine⟨by unfold gQ;rw[q],?_⟩
  cases Y:fieldInfo P t f with
  |none=>rw[Y]at h;cases h
  |some p=>exact key (Instr.fieldAt t (ρ x) f) (Calm.fieldAt Y _) (by simp only[execOp,q])
 ·rename_i c q
  simp only[Bool.and_eq_true]at h
  refine⟨h.1,?_⟩
  have R:=h.1
  unfold gQ at R
  rw[q]at R
  split at R
  all_goals first|(rename_i e;cases e;done)|skip
  ·rename_i args Z e
   cases e
   have le:∃k n,v=.int k n:=by
    have W:=h.2
    unfold KA at W
    split at W
    ·rename_i k n
     exact⟨k,n,cV.1 L⟩
    ·cases W
   obtain⟨k,n,rfl⟩:=le
   have U:execOp ρ aa=(do Pure.pure (Next.value (<-Builtin.min_ Z aa.type (args.map ρ)))):=by simp only[execOp,q];rfl
   rw[U]at o⊢
   rw[Sem.run_bind]at o
   unfold Builtin.min_ at o⊢
   split at o
   ·cases o
   ·rename_i x rest lk
    cases aK:Sem.run P (List.foldlM Builtin.min2 x rest) w with
    |halt e O=>rw[aK]at o;cases o
    |ok z O=>
     rw[aK]at o
     cases o
     intro w'
     rw[Sem.run_bind,(G4 rest x _ _ _ _ aK).2.2 w']
     rfl
  ·cases R
 ·cases h
 ·rename_i lf lg lh li
  refine⟨h,?_⟩
  unfold gQ at h
  split at h
  ·rename_i x q;exact key (Pure.pure (ρ x)) (.pure _) (by simp only[execOp,q];rfl)
  ·rename_i x q;exact key (Pure.pure (ρ x)) (.pure _) (by simp only[execOp,q];rfl)
  ·rename_i x q;exact absurd q (lf x)
  ·rename_i t x f q;exact absurd q (lg t x f)
  ·rename_i t x i q;exact key (Instr.indexAt t (ρ x) (ρ i)) (.indexAt _ _ _) (by simp only[execOp,q])
  ·rename_i args Z q;exact absurd q (lh _)
  ·rename_i lj t x y u q;exact absurd q (li lj t x y u)
  ·cases h
end
section
variable {P:Program} {ops:Array Oper} {md:Region.Mode}
def bE(ops:Array Oper):List Nat->List Oper
 |[]=>[]
 |i::is=>match ops[i]? with
  |some aa=>aa::bE ops is
  |none=>bE ops is
def eY(md:Region.Mode)(ops:Array Oper)(K:Array Bool->Bool):List Nat->Array Bool->Bool
 |[],done=>K done
 |i::is,done=>(Region.ready md ops done).contains i&&Region.free md ops done i&&eY md ops K is (done.setIfInBounds i true)
def uE(ops:Array Oper):List Nat->Bool
 |[]=>true
 |i::is=>(match ops[i]? with
  |some aa=>gQ aa
  |none=>false)&&uE ops is
def fq(md:Region.Mode)(ops:Array Oper):List Nat->Array Bool->Bool
 |[],done=>(Region.ready md ops done).isEmpty
 |i::is,done=>decide (Region.ready md ops done=[i])&&fq md ops is (done.setIfInBounds i true)
def Hd(md:Region.Mode)(ops:Array Oper)(done:Array Bool):Bool:=
 (List.range ops.size).all fun j=>!done.getD j false||(match ops[j]? with
  |some aa=>aa.after.all fun e=>!Region.binds md e||done.getD e.on false
  |none=>true)
def LL(md:Region.Mode)(ops:Array Oper)(o:List Nat):List Nat:=o.filter fun i=>!(o.any fun j=>Nat.blt i j&&Region.waitsFor md ops j i)
def tp(md:Region.Mode)(ops:Array Oper)(done:Array Bool)(o:List Nat):Bool:=
 (List.range ops.size).all fun t=>done.getD t false||fS t o||(match ops[t]? with
  |some aa=>(aa.after.any fun e=>Region.binds md e&&(!fS e.on o&&!done.getD e.on true))||(LL md ops o).all fun i=>Region.waitsFor md ops t i
  |none=>true)
def j5(md:Region.Mode)(ops:Array Oper)(q o O:List Nat)(L:Array Bool->Bool):Bool:=
 Region.noSelect ops&&uE ops q&&(O.all fun i=>!fS i o)&&eY md ops (fun d=>match o.reverse with
  |[]=>L d
  |_::_=>Hd md ops d&&tp md ops d o&&eY md ops L o d) q (Array.replicate ops.size false)
def EA(md:Region.Mode)(ops:Array Oper)(o q C:List Nat):Bool:=j5 md ops o q C (fq md ops C)
theorem VE{g:Nat}{Q:Exit->Act->World->Prop}{K:Act->Prop}{Z:Array Bool->Bool}{w:World}(la:Region.noSelect ops=true)(lb:∀c a w,¬Q (.panic c) a w)(lf:∀done a,Z done=true->K a->wpAny P md ops Q g done a w):
  ∀(q:List Nat) (done:Array Bool) (a:Act),uE ops q=true->eY md ops Z q done=true->wpQuiet P ops (fun _=>True) K (bE ops q) a->wpAny P md ops Q (q.length+g) done a w:=by
 intro q
 induction q with
 |nil=>intro done a _ o h;rw[List.length_nil,Nat.zero_add];exact lf _ _ o h
 |cons i is lc=>
  intro done a L o h
  unfold uE at L
  unfold eY at o
  simp only[Bool.and_eq_true]at L o
  obtain⟨⟨ld,le⟩,o⟩:=o
  obtain⟨U,L⟩:=L
  unfold bE at h
  split at U
  ·rename_i aa O
   rw[O]at h
   rw[List.length_cons,Nat.succ_add]
   by_cases R:Region.wanted aa (yielded ops a.tmps)=true
   ·unfold wpQuiet at h
    rw[if_pos R]at h
    obtain⟨v,aK,lg⟩:=h
    refine wpAny_first O (Region.noSelect_spec la) (fun c a w W=>absurd W (lb _ _ _)) (is.length+g) done a w (Region.free_spec O le) (by simpa using ld) (v:=v) (.inl ⟨R,fun w'=>?_⟩) (lc _ _ L o lg)
    have:=aK w' trivial
    unfold Oper.quietAt at this
    cases Y:(execOp a.eval aa).run P w' with
    |halt e lh=>rw[Y]at this;exact this.elim
    |ok n lh=>
     obtain⟨u,rfl⟩:=xO U Y
     rw[Y]at this
     obtain⟨rfl,rfl⟩:=this
     rfl
   ·unfold wpQuiet at h
    rw[if_neg R]at h
    exact wpAny_first O (Region.noSelect_spec la) (fun c a w W=>absurd W (lb _ _ _)) (is.length+g) done a w (Region.free_spec O le) (by simpa using ld) (v:=undef) (.inr ⟨by simpa using R,rfl⟩) (lc _ _ L o h)
  ·cases U
def pX(P:Program)(md:Region.Mode)(ops:Array Oper)(C:World->Prop)(o:List Nat)(q:Array Bool->Act->Prop):Nat->Array Bool->Act->Prop
 |0,done,a=>q done a
 |f+1,done,a=>Region.ready md ops done≠[]/\∀i,i∈Region.ready md ops done->i∈o/\qOp P ops C i (pX P md ops C o q f (done.setIfInBounds i true)) a
variable {C:World->Prop}
theorem Pa{B:List Nat}{g:Nat}{L:Array Bool->Act->Prop}{Q':Exit->Act->World->Prop}(q:∀done a w,C w->L done a->wpAny P md ops Q' g done a w):
  ∀(f:Nat) (done:Array Bool) (a:Act) (w:World),C w->pX P md ops C B L f done a->wpAny P md ops Q' (f+g) done a w:=by
 intro f
 induction f with
 |zero=>intro done a w o h;rw[Nat.zero_add];exact q _ _ _ o h
 |succ f O=>
  intro done a w o h
  rw[Nat.succ_add]
  exact⟨fun R=>absurd R h.1,fun i U=>wpOp_of_qOp o (fun W w' Y h'=>O _ W w' Y h') (h.2 i U).2⟩
structure nA(md:Region.Mode)(ops:Array Oper)(q:Array Bool)(L:List Nat)(done:Array Bool):Prop where
 size:done.size=ops.size
 closed:∀j o,ops[j]? =some o->done.getD j false=true->∀e∈o.after,Region.binds md e=true->done.getD e.on false=true
 rest:∀t,t∉L->q.getD t true=false->done.getD t true=false
theorem nA.set{o done:Array Bool}{B:List Nat}{i:Nat}(inv:nA md ops o B done)(Z:i∈Region.ready md ops done)(la:i∈B):nA md ops o B (done.setIfInBounds i true):=by
 obtain⟨_,lb,lc,ld⟩:=mem_ready.1 Z
 refine⟨by simp[inv.size],fun j q L O e R U=>?_,fun t W le=>by rw[getD_set_ne true (fun h=>W (by subst h;exact la))];exact inv.rest t W le⟩
 by_cases Y:i=j
 ·subst Y
  have:q=lb:=Option.some.inj (L.symm.trans lc)
  subst this
  exact getD_set_true (ld e R U)
 ·rw[getD_set_ne false Y]at O
  exact getD_set_true (inv.closed j q L O e R U)
theorem gate{R done:Array Bool}{B:List Nat}(lh:tp md ops R B=true)(li:∀t,R.getD t false=true->done.getD t false=true)(inv:nA md ops R B done):
  ∀(d i:Nat),ops.size-i=d->i∈B->done.getD i true=false->∀t,t∈Region.ready md ops done->t∈B:=by
 intro d
 induction d using Nat.strongRecOn with
 |_ d lj=>
  intro i ah lk Z t la
  obtain⟨ll,lm,U,lb⟩:=mem_ready.1 la
  by_cases lc:t∈B
  ·exact lc
  by_cases ld:(B.any fun j=>Nat.blt i j&&Region.waitsFor md ops j i)=true
  ·obtain⟨j,ln,o⟩:=List.any_eq_true.1 ld
   simp only[Bool.and_eq_true]at o
   obtain⟨le,lo⟩:=o
   have le:=cK le
   obtain⟨lp,lf,e,L,W,Y⟩:=Region.waitsFor_spec lo
   have lq:j<ops.size:=(Array.getElem?_eq_some_iff.1 lf).1
   have lr:j<done.size:=by rw[inv.size];exact lq
   cases lg:done.getD j false with
   |true=>
    have o:=inv.closed j lp lf lg e L W
    rw[Y,getD_both Z]at o
    cases o
   |false=>exact lj (ops.size-j) (by omega) j rfl ln (getD_in lr lg) t la
  ·have ls:i∈LL md ops B:=List.mem_filter.2 ⟨lk,by simpa using ld⟩
   have lt:t<ops.size:=(Array.getElem?_eq_some_iff.1 U).1
   have q:=List.all_eq_true.1 lh t (List.mem_range.2 lt)
   rw[U]at q
   simp only[Bool.or_eq_true]at q
   rcases q with (q|q)|q|q
   ·have:=li t q
    rw[getD_both ll]at this
    cases this
   ·exact absurd (qf.1 q) lc
   ·obtain⟨e,L,o⟩:=Array.any_eq_true'.1 q
    simp only[Bool.and_eq_true,Bool.not_eq_true']at o
    have O:=lb e L o.1
    have lu:=inv.rest e.on (fun h=>by have:=o.2.1;rw[qf.2 h]at this;cases this) o.2.2
    rw[getD_both lu]at O
    cases O
   ·have o:=List.all_eq_true.1 q i ls
    obtain⟨lv,lw,e,L,W,Y⟩:=Region.waitsFor_spec o
    have:lv=lm:=Option.some.inj (lw.symm.trans U)
    subst this
    have O:=lb e L W
    rw[Y,getD_both Z]at O
    cases O
theorem Rt{lb:Array Bool}{B:List Nat}{i:Nat}{aa:Oper}{v:Value}{L:Array Bool->Act->Prop}(lc:ops[i]? =some aa)(lf:∀(j:Nat) (aa:Oper) R b,ops[j]? =some aa->aa.op≠.select R b)
  (lg:tp md ops lb B=true)(lh:i∈B)(ln:∀done a,L done a->∀j,j∈Region.ready md ops done->j∉B):
  ∀(f:Nat) (done:Array Bool) (a:Act),(∀t,lb.getD t false=true->done.getD t false=true)->nA md ops lb B done->
   (∀j O,ops[j]? =some O->j≠i->done.getD j true=false->(∀e∈O.after,Region.binds md e=true->e.on≠i)->aa.apart ops O=true)->
   i∈Region.ready md ops done->YieldsIn P ops C aa v a->pX P md ops C B L f (done.setIfInBounds i true) (a.put aa.dst v)->pX P md ops C B L (f+1) done a:=by
 intro f
 induction f with
 |zero=>
  intro done a Y inv _ o Z U
  have la:=(mem_ready.1 o).1
  refine⟨fun ld=>(by rw[ld]at o;cases o),fun j q=>?_⟩
  have W:j∈B:=gate lg Y inv _ i rfl lh la j q
  refine⟨W,?_⟩
  by_cases e:j=i
  ·subst e;exact Z.qOp lc U
  ·exact absurd W (ln _ _ U j (ready_mono q e))
 |succ f lo=>
  intro done a Y inv li o Z U
  have la:=(mem_ready.1 o).1
  refine⟨fun ld=>(by rw[ld]at o;cases o),fun j q=>?_⟩
  have W:j∈B:=gate lg Y inv _ i rfl lh la j q
  refine⟨W,?_⟩
  by_cases e:j=i
  ·subst e;exact Z.qOp lc U
  obtain⟨lj,O,le,lp⟩:=mem_ready.1 q
  have lq:=li j O le e lj fun d ah lr aK=>by
   have lk:=lp d ah lr
   rw[aK,getD_both la]at lk
   cases lk
  refine qOp_mono (fun ls ll=>lo (done.setIfInBounds j true) ls (fun t lt=>getD_set_true (Y t lt)) (inv.set q W) (fun k ok lu lv lw lx=>li k ok lu lv ?_ lx) (ready_mono o (Ne.symm e)) ll.1 ?_)
   (qOp_put le lq (fun R b=>lf i aa R b lc) (fun R b=>lf j O R b le) Z (U.2 j (ready_mono q e)).2)
  ·by_cases lm:j=k
   ·subst lm;exact lj
   ·rwa [getD_set_ne true lm]at lw
  ·rw[Array.setIfInBounds_comm _ _ e];exact ll.2
theorem Qf{C:List Nat}{done:Array Bool}(h:fq md ops C done=true){j:Nat}(o:j∈Region.ready md ops done):j∈C:=by
 cases C with
 |nil=>simp only[fq,List.isEmpty_iff]at h;rw[h]at o;cases o
 |cons i is=>
  simp only[fq,Bool.and_eq_true,decide_eq_true_eq]at h
  rw[h.1]at o
  cases o with
  |head=>exact List.mem_cons_self
  |tail _ h=>cases h
theorem OX{L:Array Bool}{B:List Nat}{O:Array Bool->Bool}{R:Act->Prop}(lb:Region.noSelect ops=true)(lc:tp md ops L B=true)(ld:∀d j,O d=true->j∈Region.ready md ops d->j∉B):
  ∀(l:List Nat) (done:Array Bool) (a:Act),(∀i∈l,i∈B)->(∀t,L.getD t false=true->done.getD t false=true)->nA md ops L B done->eY md ops O l done=true->
   wpQuiet P ops C R (bE ops l) a->pX P md ops C B (fun d W=>O d=true/\R W) l.length done a:=by
 intro l
 induction l with
 |nil=>intro done a _ _ _ o h;exact⟨o,h⟩
 |cons i l le=>
  intro done a Y Z inv o h
  unfold eY at o
  simp only[Bool.and_eq_true]at o
  obtain⟨⟨lf,lg⟩,o⟩:=o
  have U:i∈Region.ready md ops done:=by simpa using lf
  obtain⟨_,aa,q,_⟩:=mem_ready.1 U
  unfold bE at h
  rw[q]at h
  obtain⟨v,lh,li⟩:=yieldsIn_of_qOp (K:=wpQuiet P ops C R (bE ops l)) q (by unfold qOp;rw[q];exact h)
  have la:=Y i List.mem_cons_self
  exact Rt q (Region.noSelect_spec lb) lc la (fun d W lj j lk=>ld d j lj.1 lk) l.length done a Z inv (Region.free_spec q lg) U lh
   (le _ _ (fun k ll=>Y k (List.mem_cons_of_mem _ ll)) (fun t lm=>getD_set_true (Z t lm)) (inv.set U la) o li)
theorem qa{Q':Exit->Act->World->Prop}:∀(l:List Nat) (done:Array Bool) (a:Act) (w:World),fq md ops l done=true->wpList P ops Q' (bE ops l) a w->wpAny P md ops Q' l.length done a w
 |[],_,_,_,o,h=>⟨by simpa[fq]using o,h⟩
 |i::l,done,a,w,o,h=>by
  simp only[fq,Bool.and_eq_true,decide_eq_true_eq]at o
  have R:i∈Region.ready md ops done:=by rw[o.1];exact List.mem_cons_self
  obtain⟨_,aa,q,_⟩:=mem_ready.1 R
  unfold bE at h
  rw[q]at h
  refine⟨fun L=>(by rw[o.1]at L;cases L),fun k O=>?_⟩
  rw[o.1]at O
  have U:k=i:=by simpa using O
  subst U
  have W:wpOp P ops Q' k (wpList P ops Q' (bE ops l)) a w:=by unfold wpOp;simp only[q];exact h
  exact wpOp_mono (fun Y w' h'=>qa l _ Y w' o.2 h') W
theorem NE{done:Array Bool}(h:Hd md ops done=true):∀j L,ops[j]? =some L->done.getD j false=true->∀e∈L.after,Region.binds md e=true->done.getD e.on false=true:=by
 intro j L O ah e R U
 have o:=List.all_eq_true.1 h j (List.mem_range.2 (Array.getElem?_eq_some_iff.1 O).1)
 rw[O]at o
 simp only[Bool.or_eq_true,Bool.not_eq_true']at o
 rcases o with o|o
 ·rw[ah]at o;cases o
 ·have q:=Array.all_eq_true_iff_forall_mem.1 o e R
  simp only[Bool.or_eq_true,Bool.not_eq_true']at q
  rcases q with q|q
  ·rw[U]at q;cases q
  ·exact q
theorem Ge{q:Array Bool->Bool}{n:Nat}:∀(l:List Nat) (done:Array Bool),done.size=n->eY md ops q l done=true->eY md ops (fun d=>q d&&decide (d.size=n)) l done=true
 |[],d,L,o=>by
  show(q d&&decide (d.size=n))=true
  rw[show q d=true from o,decide_eq_true L];rfl
 |i::l,d,L,o=>by
  unfold eY at o⊢
  simp only[Bool.and_eq_true]at o⊢
  exact⟨o.1,Ge l _ (by simpa using L) o.2⟩
theorem sh{id g:Nat}{Q:Exit->Act->World->Prop}{a:Act}{w:World}{l:List Oper}(O o la:List Nat)(U:Array Bool->Bool)(W:Act->World->Prop)(lg:P.follows .mixedOrders=true)(Y:j5 .any l.toArray O o la U=true)
  (lh:∀d j,U d=true->j∈Region.ready .any l.toArray d->j∈la)(li:∀e a w,Q e a w->e=.normal)(lb:∀d a w,U d=true->W a w->wpAny P .any l.toArray Q g d a w)(lj:O.length+(o.length+g)=l.length)
  (lc:C {w with drawn:=w.drawn+1})
  (h:wpQuiet P l.toArray (fun _=>True) (wpQuiet P l.toArray C (fun R=>∀w',C w'->W R w') (bE l.toArray o)) (bE l.toArray O) a):
  (Code.region id l.toArray true).wp P Q a w:=by
 unfold j5 at Y
 simp only[Bool.and_eq_true]at Y
 obtain⟨⟨⟨ld,lk⟩,ll⟩,lm⟩:=Y
 have ln:∀d j,U d=true->j∈Region.ready .any l.toArray d->j∉o:=fun d j ah lo L=>by
  have:=List.all_eq_true.1 ll j (lh d j ah lo)
  rw[qf.2 L]at this
  cases this
 have lp:=Ge (n:=l.toArray.size) O _ (by simp) lm
 have al:=VE (g:=o.length+g) (Q:=Q) ld (fun c a w h=>Exit.noConfusion (li _ _ _ h)) (w:={w with drawn:=w.drawn+1}) (K:=wpQuiet P l.toArray C (fun R=>∀w',C w'->W R w') (bE l.toArray o)) (fun done a q le=>?_) O _ a lk lp h
 ·rw[lj]at al
  refine wp_region_any lg ?_
  simpa using al
 ·simp only[Bool.and_eq_true,decide_eq_true_eq]at q
  obtain⟨q,lq⟩:=q
  split at q
  ·rename_i L
   have L:o=[]:=by simpa using L
   subst L
   rw[List.length_nil,Nat.zero_add]
   exact lb done a _ q (le _ lc)
  ·rename_i s r L
   simp only[Bool.and_eq_true]at q
   obtain⟨⟨lr,ls⟩,lt⟩:=q
   have inv:nA .any l.toArray done o done:=⟨lq,NE lr,fun t _ Z=>Z⟩
   exact Pa (fun d R w' lu lf=>lb d R w' lf.1 (lf.2 w' lu)) _ _ _ _ lc (OX ld ls ln o done a (fun i lv=>lv) (fun t Z=>Z) inv lt le)
def dy(Q:Exit->Act->World->Prop):Exit->Act->World->Prop:=fun e a w=>e=.normal/\Q .normal a w
theorem Wh{id:Nat}{Q:Exit->Act->World->Prop}{a:Act}{w:World}{l:List Oper}(q L o:List Nat)(O:P.follows .mixedOrders=true)(R:EA .any l.toArray q L o=true)(U:q.length+(L.length+o.length)=l.length)
  (W:C {w with drawn:=w.drawn+1})
  (h:wpQuiet P l.toArray (fun _=>True) (wpQuiet P l.toArray C (fun Y=>∀w',C w'->wpList P l.toArray (dy Q) (bE l.toArray o) Y w') (bE l.toArray L)) (bE l.toArray q) a):
  (Code.region id l.toArray true).wp P Q a w:=
 Code.wp_mono (Q:=dy Q) (fun e a w h=>by obtain⟨rfl,h⟩:=h;exact h)
  (sh q L o (fq .any l.toArray o) _ O R (fun d j ah Z=>Qf ah Z) (fun e a w h=>h.1) (fun d a w ah la=>qa o d a w ah la) U W h)
/-! One that may come up behind others that leave what it reads. -/
def iL(P:Program)(ops:Array Oper)(Q:Exit->Act->World->Prop)(aa:Oper)(d:Nat)(q:List Nat):List Nat->Act->World->Prop
 |[],a,w=>wpList P ops Q (bE ops q) a w
 |c::L,a,w=>wpOp P ops Q c (fun o w'=>(execOp o.eval aa).run P w'=.ok (.value (o.tmps.getD d undef)) w'/\iL P ops Q aa d q L o w') a w
def jV(md:Region.Mode)(ops:Array Oper)(i:Nat)(o:List Nat):List Nat->Array Bool->Bool
 |[],done=>decide (Region.ready md ops done=[i])&&fq md ops o (done.setIfInBounds i true)
 |c::q,done=>((Region.ready md ops done).all fun j=>Nat.beq j i||Nat.beq j c)&&(Region.ready md ops done).contains i&&Region.free md ops done i&&fq md ops (c::q++o) (done.setIfInBounds i true)&&jV md ops i o q (done.setIfInBounds c true)
theorem KK{Q:Exit->Act->World->Prop}{aa:Oper}{d:Nat}{L:List Nat}:∀(q:List Nat) (done:Array Bool) (a:Act) (w:World),fq md ops (q++L) done=true->iL P ops Q aa d L q a w->wpAny P md ops Q (q.length+L.length) done a w
 |[],done,a,w,o,h=>by rw[List.length_nil,Nat.zero_add];exact qa L done a w o h
 |c::q,done,a,w,o,h=>by
  simp only[List.cons_append,fq,Bool.and_eq_true,decide_eq_true_eq]at o
  rw[List.length_cons,Nat.succ_add]
  refine⟨fun O=>(by rw[o.1]at O;cases O),fun k R=>?_⟩
  rw[o.1]at R
  have U:k=c:=by simpa using R
  subst U
  exact wpOp_mono (fun W w' h'=>KK q _ W w' o.2 h'.2) h
structure jb(aa:Oper)(a o:Act):Prop where
 exec:execOp o.eval aa=execOp a.eval aa
 size:o.tmps.size=a.tmps.size
theorem jb.put{o:Oper}{a:Act}{dst:Option Nat}{u:Value}(q:∀L b,o.op≠.select L b)(O:∀d,dst=some d->d∉o.looksAt ops):jb o a (a.put dst u):=
 ⟨execOp_put o q a dst u O,by cases dst<;>simp[Act.put]⟩
theorem jb.trans{o:Oper}{a b c:Act}(h:jb o a b)(k:jb o b c):jb o a c:=⟨k.exec.trans h.exec,k.size.trans h.size⟩
theorem SO{Q Q':Exit->Act->World->Prop}{j:Nat}{o q:Oper}{v:Value}(le:ops[j]? =some q)(lf:o.apart ops q=true)
  (Z:∀U b,o.op≠.select U b)(lg:∀U b,q.op≠.select U b)(W:∀e a w,Q e a w->e=.normal){K:Act->World->Prop}{a:Act}{w:World}(h:wpOp P ops Q j K (a.put o.dst v) w):
  wpOp P ops Q' j (fun la w'=>jb o a la/\K (la.put o.dst v) w') a w:=by
 obtain⟨lb,L,lc⟩:=Oper.apart_spec lf
 have O:∀u,jb o a (a.put q.dst u):=fun u=>jb.put Z lc
 have ld:¬LetsOut Q:=fun⟨a,w,h⟩=>Exit.noConfusion (W _ _ _ h)
 unfold wpOp at*
 simp only[le]at*
 rw[wanted_put q a o.dst v lb]at h
 split
 ·rename_i Y
  simp only[Y,if_true]at h
  rcases h with h|⟨_,lh⟩
  case inr=>exact absurd lh ld
  refine .inl ?_
  unfold Oper.wp at*
  rw[execOp_put q lg a o.dst v lb]at h
  generalize (execOp a.eval q).run P w=r at*
  cases r with
  |ok n w'=>
   cases n<;>simp only[Oper.upon]at h⊢
   case value u=>exact⟨O u,by rw[<-Act.put_comm a v u L];exact h⟩
   case skip=>exact⟨O _,by rw[<-Act.put_comm a v undef L];exact h⟩
   case defer d=>
    refine⟨jb.trans (b:={a with defers:=d::a.defers}) ⟨rfl,rfl⟩ (jb.put Z lc),?_⟩
    rw[<-Act.put_comm _ v undef L,<-Act.put_defers]
    exact h
   case enter f args=>
    refine Calls.mono h fun e li R=>?_
    cases e with
    |returned u=>exact⟨O u,by rw[<-Act.put_comm a v u L];exact R⟩
    |panicked c=>cases W _ _ _ R
    |outgrown=>exact absurd R ld
   case row row args=>exact Rows.mono h fun u li R=>⟨O u,by rw[<-Act.put_comm a v u L];exact R⟩
  |halt x w'=>
   cases x<;>simp only[Oper.upon]at h⊢
   case panic u=>cases W _ _ _ h
 ·rename_i Y
  simp only[Y]at h
  exact⟨O _,by rw[<-Act.put_comm a v undef L];exact h⟩
theorem WF{Q:Exit->Act->World->Prop}{i d:Nat}{aa:Oper}{v:Value}{O:List Nat}(Z:ops[i]? =some aa)(ah:aa.dst=some d)(lk:aa.guard=none)(ll:d∉aa.looksAt ops)(ld:Region.noSelect ops=true)(lm:∀e a w,Q e a w->e=.normal):
  ∀(o:List Nat) (done:Array Bool) (a:Act) (w:World),jV md ops i O o done=true->d<a.tmps.size->(execOp a.eval aa).run P w=.ok (.value v) w->iL P ops Q aa d O o (a.put aa.dst v) w->
   wpAny P md ops Q (o.length+O.length+1) done a w:=by
 have le:∀(done:Array Bool) (a:Act) (w:World) (o:List Nat),(execOp a.eval aa).run P w=.ok (.value v) w->fq md ops (o++O) (done.setIfInBounds i true)=true->iL P ops Q aa d O o (a.put aa.dst v) w->
   wpOp P ops Q i (wpAny P md ops Q (o.length+O.length) (done.setIfInBounds i true)) a w:=fun done a w o R q h=>by
  unfold wpOp
  simp only[Z]
  have ln:Region.wanted aa (yielded ops a.tmps)=true:=by unfold Region.wanted;rw[lk]
  rw[if_pos ln]
  refine .inl ?_
  unfold Oper.wp
  rw[R]
  exact KK o _ _ _ q h
 intro o
 induction o with
 |nil=>
  intro done a w q lf R h
  simp only[jV,Bool.and_eq_true,decide_eq_true_eq]at q
  refine⟨fun L=>(by rw[q.1]at L;cases L),fun k U=>?_⟩
  rw[q.1]at U
  have W:k=i:=by simpa using U
  subst W
  exact le done a w [] R q.2 h
 |cons c o lo=>
  intro done a w q lf R h
  simp only[jV,Bool.and_eq_true]at q
  obtain⟨⟨⟨⟨lp,lq⟩,lr⟩,ls⟩,q⟩:=q
  have la:i∈Region.ready md ops done:=by simpa using lq
  refine⟨fun L=>(by rw[L]at la;cases la),fun k U=>?_⟩
  by_cases W:k=i
  ·subst W
   exact le done a w (c::o) R ls h
  ·have:=List.all_eq_true.1 lp k U
   rw[Bool.or_eq_true]at this
   have lt:k=c:=by
    rcases this with L|L
    ·exact absurd (Nat.eq_of_beq_eq_true L) W
    ·exact Nat.eq_of_beq_eq_true L
   subst lt
   obtain⟨lu,ok,lb,lv⟩:=mem_ready.1 U
   have lw:aa.apart ops ok=true:=Region.free_spec Z lr k ok lb W lu fun e lx ly lz=>by
    have L:=lv e lx ly
    rw[lz,getD_both (mem_ready.1 la).1]at L
    cases L
   have lg:∀Y b,aa.op≠.select Y b:=fun Y b=>Region.noSelect_spec ld i aa Y b Z
   rw[show(k::o).length+O.length=(o.length+O.length)+1 by simp only[List.length_cons];omega]
   refine wpOp_mono (fun lc w' h'=>?_) (SO (Q':=Q) lb lw lg (fun Y b=>Region.noSelect_spec ld k ok Y b lb) lm h)
   obtain⟨lA,lh,lB⟩:=h'
   have li:d<lc.tmps.size:=by rw[lA.size];exact lf
   refine lo _ lc w' q li ?_ lB
   rw[execOp_put aa lg lc aa.dst v (fun x lj=>by rw[ah]at lj;cases lj;exact ll)]at lh
   rw[lh,ah]
   simp[Act.put,li]
def oM(md:Region.Mode)(ops:Array Oper)(L O:List Nat)(i:Nat)(o q:List Nat):Bool:=j5 md ops L O (i::o++q) (jV md ops i q o)
theorem QA{i:Nat}{o O:List Nat}{done:Array Bool}(h:jV md ops i O o done=true){j:Nat}(q:j∈Region.ready md ops done):j∈i::o++O:=by
 cases o with
 |nil=>
  simp only[jV,Bool.and_eq_true,decide_eq_true_eq]at h
  rw[h.1]at q
  have:j=i:=by simpa using q
  subst this
  simp
 |cons c o=>
  simp only[jV,Bool.and_eq_true]at h
  have:=List.all_eq_true.1 h.1.1.1.1 j q
  rw[Bool.or_eq_true]at this
  rcases this with L|L
  ·rw[Nat.eq_of_beq_eq_true L];simp
  ·rw[Nat.eq_of_beq_eq_true L];simp
theorem Na{id:Nat}{Q:Exit->Act->World->Prop}{a:Act}{w:World}{l:List Oper}(L O:List Nat)(i:Nat)(o q:List Nat){aa:Oper}{d:Nat}(W:P.follows .mixedOrders=true)(R:oM .any l.toArray L O i o q=true)
  (Y:L.length+(O.length+(o.length+q.length+1))=l.length)(Z:l[i]? =some aa)(ah:aa.dst=some d)(la:aa.guard=none)(lb:(aa.looksAt l.toArray).contains d=false)
  (lc:C {w with drawn:=w.drawn+1})
  (h:wpQuiet P l.toArray (fun _=>True) (wpQuiet P l.toArray C (fun U=>∀w',C w'->d<U.tmps.size/\∃v,(execOp U.eval aa).run P w'=.ok (.value v) w'/\iL P l.toArray (dy Q) aa d q o (U.put aa.dst v) w') (bE l.toArray O)) (bE l.toArray L) a):
  (Code.region id l.toArray true).wp P Q a w:=by
 have ld:Region.noSelect l.toArray=true:=by
  unfold oM j5 at R
  simp only[Bool.and_eq_true]at R
  exact R.1.1.1
 exact Code.wp_mono (Q:=dy Q) (fun e a w h=>by obtain⟨rfl,h⟩:=h;exact h)
  (sh L O (i::o++q) (jV .any l.toArray i q o) _ W R (fun d j ah le=>QA ah le) (fun e a w h=>h.1)
   (fun d' a w lf lg=>by
    obtain⟨lh,v,li,lj⟩:=lg
    exact WF (by simpa using Z) ah la (by simpa using lb) ld (fun e a w h=>h.1) o d' a w lf lh li lj) Y lc h)
end
end Go.Ev
namespace Go.Ev
open Go Go.RowKit
variable [b8]
variable {cx:bB} {m:Nat->Value} {st st':af} {T:Array Value} {w w':World} {E:Env} {Q:cO} {ops:Array Oper} {l:List Oper}
variable [ai cx]
def pE(aa:Oper):Bool:=match aa.op with
 |.binOp _ _ _ _ _=>true
 |_=>false
def sG(P:Program)(aa:Oper)(s:ao):Bool:=pE aa||rh P aa s
theorem VD(h:an cx m st T w){aa:Oper}{orc:List ak}{r:dw}(q:pE aa=true)(o:dv cx.P st aa.op orc=some r)(W:bO r.ob):
  ∃v,(∀w',(execOp (Act.eval ⟨T,ai.D cx⟩) aa).run cx.P w'=.ok (.value v) w')/\aS w (ar cx m st.ids) m v r.aO:=by
 unfold pE at q
 split at q
 case h_2=>cases q
 rename_i lb t x y lc L
 rw[L]at o
 simp only[dv]at o
 split at o
 ·rename_i a b Y Z
  split at o
  ·rename_i r ob O
   cases o
   obtain⟨v,R,U⟩:=zN (ox:=x) (oy:=y) (cW h Y) (cW h Z) O W
   exact⟨v,fun w'=>cn (by simp only[execOp,L]) (R w'),U _ _⟩
  ·split at o
   ·rename_i r ob O
    cases o
    obtain⟨v,R,U⟩:=GS (ox:=x) (oy:=y) (cW h Y) (cW h Z) (fun la=>by subst la;rfl) O W
    exact⟨v,fun w'=>cn (by simp only[execOp,L]) (R w'),U _ _⟩
   ·cases o
 ·cases o
theorem Pf(W:bv E cx)(h:an cx m st T w){aa:Oper}{orc:List ak}{r:dw}(q:fE E st aa orc=some r)(Z:bO r.ob)(Y:sG E.P aa r.aO=true):
  ∃v,(∀w',(execOp (Act.eval ⟨T,ai.D cx⟩) aa).run cx.P w'=.ok (.value v) w')/\aS w (ar cx m st.ids) m v r.aO:=by
 cases L:pE aa with
 |true=>
  have lc:dv cx.P st aa.op orc=some r:=by
   unfold fE at q
   rw[<-W.P]at q
   cases la:dv cx.P st aa.op orc with
   |some lf=>rw[la]at q;simpa using q
   |none=>
    rw[la]at q
    unfold pE at L
    split at L
    case h_2=>cases L
    rename_i O
    simp[o2,O]at q
  exact VD h L lc Z
 |false=>
 have o:rh E.P aa r.aO=true:=by unfold sG at Y;rw[L]at Y;simpa using Y
 obtain⟨v,aK,lb⟩:=CU W h q Z
 refine⟨v,?_,lb⟩
 rw[<-W.P]at o
 have R:=aK w (Ext.refl w)
 unfold Oper.quietAt at R
 have ld:gQ aa=true:=by
  unfold rh at o
  split at o
  ·rename_i O;unfold gQ;rw[O]
  ·rename_i O;unfold gQ;rw[O]
  ·simp only[Bool.and_eq_true]at o;exact o.1
  ·cases o
  ·exact o
 cases U:(execOp (Act.eval ⟨T,ai.D cx⟩) aa).run cx.P w with
 |halt e le=>rw[U]at R;exact R.elim
 |ok n le=>
  obtain⟨u,rfl⟩:=xO ld U
  rw[U]at R
  obtain⟨rfl,rfl⟩:=R
  exact(Oj o U lb).2
def hq(E:Env)(ops:Array Oper):List Oper->af->List ak->Option (af×List ak×List Prop)
 |[],st,orc=>some (st,orc,[])
 |aa::l,st,orc=>match eb ops st aa with
  |some true=>match aa.dst,fE E st aa orc with
   |some d,some r=>match Nat.blt d E.n,sG E.P aa r.aO,hq E ops l (st.put d r.aO) r.orc with
    |true,true,some (o,q,L)=>some (o,q,r.ob++L)
    |_,_,_=>none
   |_,_=>none
  |some false=>match aa.dst with
   |some d=>match Nat.blt d E.n with
    |true=>hq E ops l (st.put d .undef) orc
    |false=>none
   |none=>hq E ops l st orc
  |none=>none
theorem pY(q:bv E cx){Q':Act->Prop}:∀{l:List Oper} {st:af} {T:Array Value} {orc orc':List ak} {st':af} {ob:List Prop},al cx st T w->hq E ops l st orc=some (st',orc',ob)->bO ob->
  (∀Y,al cx st' Y w->Q' ⟨Y,ai.D cx⟩)->wpQuiet cx.P ops (fun _=>True) Q' l ⟨T,ai.D cx⟩
 |[],st,T,_,_,_,_,h,o,_,L=>by
  cases o
  exact L T h
 |aa::l,st,T,orc,orc',st',ob,h,o,R,L=>by
  unfold hq at o
  unfold wpQuiet
  split at o
  ·rename_i U
   rw[il h U]
   simp only[if_true]
   split at o
   ·rename_i d r ah Z
    split at o
    ·rename_i lf lg lh W la lb
     cases o
     obtain⟨lc,ld⟩:=nh R
     obtain⟨m,O⟩:=h
     obtain⟨v,aK,le⟩:=Pf q O Z lc la
     refine⟨v,fun w' _=>by unfold Oper.quietAt;rw[aK w'];exact⟨rfl,rfl⟩,?_⟩
     rw[ah]
     exact pY q ⟨m,O.put (by rw[q.n];exact cK W) le⟩ lb ld L
    ·cases o
   ·cases o
  ·rename_i U
   rw[il h U]
   simp only[Bool.false_eq_true,if_false]
   split at o
   ·rename_i d ah
    split at o
    ·rename_i W
     obtain⟨m,O⟩:=h
     rw[ah]
     exact pY q ⟨m,O.put (d:=d) (s:=.undef) (v:=undef) (by rw[q.n];exact cK W) rfl⟩ o R L
    ·cases o
   ·rename_i ah
    rw[ah]
    exact pY q h o R L
  ·cases o
theorem Um{id:Nat}{l:List Oper}(o q L:List Nat)(O:cx.P.follows .mixedOrders=true)(R:EA .any l.toArray o q L=true)(U:o.length+(q.length+L.length)=l.length)
  (h:∀T w,al cx st T w->wpQuiet cx.P l.toArray (fun _=>True) (wpQuiet cx.P l.toArray (Ext w) (fun Y=>∀w',Ext w w'->wpList cx.P l.toArray (dy Q) (bE l.toArray L) Y w') (bE l.toArray q)) (bE l.toArray o) ⟨T,ai.D cx⟩):
  W cx Q (.region id l.toArray true) st:=by
 intro T w Z
 exact Wh (C:=Ext w) o q L O R U (Ext.refl w).drew (h T w Z)
/-! Quiet ones again behind those that come one by one. -/
section
variable {P:Program} {md:Region.Mode} {C:World->Prop}
def qK(md:Region.Mode)(ops:Array Oper)(K:Array Bool->Bool):List Nat->Array Bool->Bool
 |[],done=>K done
 |i::is,done=>decide (Region.ready md ops done=[i])&&qK md ops K is (done.setIfInBounds i true)
theorem Dk{Q Q':cO}{j:Nat}(o:∀e a w,Q e a w->e=.normal){K:Act->World->Prop}{a:Act}{w:World}(h:wpOp P ops Q j K a w):wpOp P ops Q' j K a w:=by
 have R:¬LetsOut Q:=fun⟨a,w,h⟩=>Exit.noConfusion (o _ _ _ h)
 unfold wpOp at*
 split
 ·rename_i q;simp only[q]at h;exact h
 ·rename_i aa q
  simp only[q]at h
  split
  ·rename_i L
   simp only[L,if_true]at h
   rcases h with h|⟨_,U⟩
   case inr=>exact absurd U R
   refine .inl ?_
   unfold Oper.wp at*
   generalize (execOp a.eval aa).run P w=r at*
   cases r with
   |ok n w'=>
    cases n<;>simp only[Oper.upon]at h⊢
    case value u=>exact h
    case skip=>exact h
    case defer d=>exact h
    case enter f args=>
     refine Calls.mono h fun e W O=>?_
     cases e with
     |returned u=>exact O
     |panicked c=>cases o _ _ _ O
     |outgrown=>exact absurd O R
    case row row args=>exact h
   |halt x w'=>
    cases x<;>simp only[Oper.upon]at h⊢
    case panic u=>cases o _ _ _ h
  ·rename_i L
   simp only[L]at h
   exact h
theorem JU{Q1 Q:cO}{g:Nat}{KD:Array Bool->Bool}(q:∀e a w,Q1 e a w->e=.normal)(L:∀d a w,KD d=true->Q1 .normal a w->wpAny P md ops Q g d a w):
  ∀(l:List Nat) (done:Array Bool) (a:Act) (w:World),qK md ops KD l done=true->wpList P ops Q1 (bE ops l) a w->wpAny P md ops Q (l.length+g) done a w
 |[],done,a,w,o,h=>by rw[List.length_nil,Nat.zero_add];exact L done a w o h
 |i::l,done,a,w,o,h=>by
  simp only[qK,Bool.and_eq_true,decide_eq_true_eq]at o
  have W:i∈Region.ready md ops done:=by rw[o.1];exact List.mem_cons_self
  obtain⟨_,aa,O,_⟩:=mem_ready.1 W
  unfold bE at h
  rw[O]at h
  rw[List.length_cons,Nat.succ_add]
  refine⟨fun R=>(by rw[o.1]at R;cases R),fun k U=>?_⟩
  rw[o.1]at U
  have Y:k=i:=by simpa using U
  subst Y
  have Z:wpOp P ops Q1 k (wpList P ops Q1 (bE ops l)) a w:=by unfold wpOp;simp only[O];exact h
  exact wpOp_mono (fun la w' h'=>JU q L l _ la w' o.2 h') (Dk q Z)
theorem Fh{Q:Act->Prop}(L:Region.noSelect ops=true):∀(l:List Nat) (done:Array Bool) (a:Act),eY md ops (fun d=>(Region.ready md ops d).isEmpty) l done=true->wpQuiet P ops C Q (bE ops l) a->wpAnyQ P md ops C Q l.length done a
 |[],done,a,o,h=>⟨by simpa[eY]using o,h⟩
 |i::l,done,a,o,h=>by
  unfold eY at o
  simp only[Bool.and_eq_true]at o
  obtain⟨⟨R,U⟩,o⟩:=o
  have O:i∈Region.ready md ops done:=by simpa using R
  obtain⟨_,aa,q,_⟩:=mem_ready.1 O
  unfold bE at h
  rw[q]at h
  obtain⟨v,W,Y⟩:=yieldsIn_of_qOp (K:=wpQuiet P ops C Q (bE ops l)) q (by unfold qOp;rw[q];exact h)
  exact wpAnyQ_first q (Region.noSelect_spec L) l.length done a (Region.free_spec q U) O W (Fh L l _ _ o Y)
end
def BP(md:Region.Mode)(ops:Array Oper)(q L o O:List Nat):Bool:=!o.isEmpty&&j5 md ops q L o (qK md ops (eY md ops (fun d=>(Region.ready md ops d).isEmpty) O) o)
def pe(cx:bB)(ops:Array Oper)(o:List Nat)(Q:cO):cO:=fun e a w=>e=.normal/\wpQuiet cx.P ops (Ext w) (fun q=>∀w',Ext w w'->dy Q .normal q w') (bE ops o) a
theorem TY{id:Nat}{l:List Oper}(O R L q:List Nat)(Y:cx.P.follows .mixedOrders=true)(o:BP .any l.toArray O R L q=true)(Z:O.length+(R.length+(L.length+q.length))=l.length)
  (h:∀T w,al cx st T w->wpQuiet cx.P l.toArray (fun _=>True) (wpQuiet cx.P l.toArray (Ext w) (fun la=>∀w',Ext w w'->wpList cx.P l.toArray (pe cx l.toArray q Q) (bE l.toArray L) la w') (bE l.toArray R)) (bE l.toArray O) ⟨T,ai.D cx⟩):
  W cx Q (.region id l.toArray true) st:=by
 intro T w lb
 unfold BP at o
 rw[Bool.and_eq_true]at o
 obtain⟨lc,o⟩:=o
 have ld:Region.noSelect l.toArray=true:=by
  unfold j5 at o
  simp only[Bool.and_eq_true]at o
  exact o.1.1.1
 refine Code.wp_mono (Q:=dy Q) (fun e a w h=>by obtain⟨rfl,h⟩:=h;exact h)
  (sh (C:=Ext w) O R L _ _ Y o (fun d j ah U=>?_) (fun e a w h=>h.1) (fun d a w ah le=>?_) Z (Ext.refl w).drew (h T w lb))
 ·cases L with
  |nil=>simp at lc
  |cons i is=>
   simp only[qK,Bool.and_eq_true,decide_eq_true_eq]at ah
   rw[ah.1]at U
   have:j=i:=by simpa using U
   subst this
   exact List.mem_cons_self
 ·refine JU (Q1:=pe cx l.toArray q Q) (KD:=eY .any l.toArray (fun d=>(Region.ready .any l.toArray d).isEmpty) q) (fun e a w h=>h.1) (fun d a w ah h=>?_) L d a w ah le
  exact wpAny_of_quiet (C:=Ext w) (fun a w' lf h=>h w' lf) q.length d a w (Ext.refl w) (Fh ld q d a ah h.2)
def mW(cx:bB)[ai cx](ops:Array Oper)(K:World->Act->Prop)(l:List Oper)(st:af):Prop:=∀T w,al cx st T w->wpQuiet cx.P ops (fun _=>True) (K w) l ⟨T,ai.D cx⟩
theorem Tc{K:World->Act->Prop}(h:oX cx K st):mW cx ops K [] st:=fun T w o=>h T w o
theorem A7{K:World->Act->Prop}(o:bv E cx){aa:Oper}{orc:List ak}{ob:List Prop}(q:hq E ops [aa] st orc=some (st',[],ob))(L:bO ob)(h:mW cx ops K l st'):mW cx ops K (aa::l) st:=by
 intro T w O
 exact kQ (P:=cx.P) (ops:=ops) (l1:=[aa]) (l2:=l) (C:=fun _=>True) (Q':=K w) (a:=⟨T,ai.D cx⟩) (pY o O q L fun R U=>h R w U)
theorem QI{α:Type}{o:World->Act->Prop}(F:α->Prop)(S:α->af)(n:Nat)(L:∀a,F a->mW cx ops o (l.drop n) (S a))
  (O:∀K,(∀a,F a->oX cx K (S a))->mW cx ops K (l.take n) st):mW cx ops o l st:=by
 intro T w q
 have:=kQ (P:=cx.P) (ops:=ops) (l1:=l.take n) (l2:=l.drop n)
  (O (fun w=>wpQuiet cx.P ops (fun _=>True) (o w) (l.drop n)) (fun a R T w q=>L a R T w q) T w q)
 rwa [List.take_append_drop]at this
/-! One that floats past others. -/
def nj:ao->Bool
 |.val t _=>t.flat
 |.ptr _ _=>true
 |.row _=>true
 |.osl _=>true
 |_=>false
theorem Ms{w:World}{M:Nat->Prop}{m:Nat->Value}{v v':Value}{s:ao}(ah:nj s=true)(h:aS w M m v s)(h':aS w M m v' s):v=v':=by
 cases s<;>first|(cases ah;done)|skip
 all_goals unfold aS at h h'
 ·exact kS ah h h'
 ·obtain⟨g,q,rfl⟩:=h
  obtain⟨L,o,rfl⟩:=h'
  rw[q]at o
  injection o with o
  injection o with o
  injection o with o
  rw[o]
 ·rw[h,h']
 ·obtain⟨us,q⟩:=h
  obtain⟨O,o⟩:=h'
  rw[q]at o
  injection o with o
  have:=congrArg Array.toList o
  simp at this
  exact this.1
def ii(aa:Oper):Bool:=match aa.op with
 |.load _ _=>true
 |_=>false
theorem Js{P:Program}{aa:Oper}(h:ii aa=true){ρ:Operand->Value}{w q:World}{n:Next}(o:(execOp ρ aa).run P w=.ok n q):∃v,n=.value v:=by
 unfold ii at h
 split at h
 ·rename_i t x L
  simp only[execOp,L]at o
  rw[Sem.run_bind]at o
  generalize Sem.run P (Instr.loadAt t (ρ x)) w=O at o
  cases O with
  |halt e R=>cases o
  |ok v R=>cases o;exact⟨v,rfl⟩
 ·cases h
theorem zy(L:bv E cx)(h:an cx m st T w){aa:Oper}(O:ii aa=true){orc:List ak}{r:dw}(R:fE E st aa orc=some r)(U:bO r.ob):
  ∃v,(∀w',Ext w w'->(execOp (Act.eval ⟨T,ai.D cx⟩) aa).run cx.P w'=.ok (.value v) w')/\aS w (ar cx m st.ids) m v r.aO:=by
 obtain⟨v,aK,W⟩:=CU L h R U
 refine⟨v,fun w' Y=>?_,W⟩
 have o:=aK w' Y
 unfold Oper.quietAt at o
 cases q:(execOp (Act.eval ⟨T,ai.D cx⟩) aa).run cx.P w' with
 |halt e Z=>rw[q]at o;exact o.elim
 |ok n Z=>
  obtain⟨u,rfl⟩:=Js O q
  rw[q]at o
  obtain⟨rfl,rfl⟩:=o
  rfl
theorem wD(q:bv E cx)(L:al cx st T w){aa:Oper}(O:ii aa=true){orc:List ak}{r:dw}(R:fE E st aa orc=some r)(U:bO r.ob){d:Nat}(W:look st.ab d=some r.aO)(ah:nj r.aO=true):
  (execOp (Act.eval ⟨T,ai.D cx⟩) aa).run cx.P w=.ok (.value (T.getD d undef)) w:=by
 obtain⟨m,o⟩:=L
 obtain⟨v,Y,Z⟩:=zy q o O R U
 obtain⟨u,la,lb⟩:=o.cJ d _ (a8 W)
 have:=Ms ah Z lb
 subst this
 have e:T.getD d undef=v:=by simp[la]
 rw[e]
 exact Y w (Ext.refl w)
def iN(cx:bB)(ops:Array Oper)(aa:Oper)(d:Nat)(o q:List Nat)(Q:cO):cO:=fun e a w=>e=.normal/\(execOp a.eval aa).run cx.P w=.ok (.value (a.tmps.getD d undef)) w/\iL cx.P ops (dy Q) aa d o q a w
theorem z7{aa L:Oper}{d c:Nat}{o q:List Nat}(O:ops[c]? =some L)(h:bN cx ops (iN cx ops aa d o q Q) [L] st)(R:al cx st T w):iL cx.P ops (dy Q) aa d o (c::q) ⟨T,ai.D cx⟩ w:=by
 have U:=h T w R
 refine wpOp_mono (K:=iN cx ops aa d o q Q .normal) (fun a w h=>h.2) (Dk (Q:=iN cx ops aa d o q Q) (fun e a w h=>h.1) ?_)
 unfold wpOp
 rw[O]
 exact U
theorem Sm(L:bv E cx){aa:Oper}{d:Nat}{o:List Nat}(O:ii aa=true){orc:List ak}{r:dw}(R:fE E st aa orc=some r)(U:bO r.ob)(W:look st.ab d=some r.aO)(ah:nj r.aO=true)
  (h:bN cx ops (dy Q) (bE ops o) st):N cx (iN cx ops aa d o [] Q) .normal st:=fun T w q=>⟨rfl,wD L q O R U W ah,h T w q⟩
theorem Xt(R:bv E cx){aa o:Oper}{d c:Nat}{q L:List Nat}(U:ii aa=true){orc:List ak}{r:dw}(W:fE E st aa orc=some r)(Y:bO r.ob)(Z:look st.ab d=some r.aO)(ah:nj r.aO=true)
  (la:ops[c]? =some o)(h:bN cx ops (iN cx ops aa d q L Q) [o] st):N cx (iN cx ops aa d q (c::L) Q) .normal st:=fun T w O=>⟨rfl,wD R O U W Y Z ah,z7 la h O⟩
theorem RK(h:N cx Q .normal st):N cx (dy Q) .normal st:=fun T w o=>⟨rfl,h T w o⟩
theorem LM{id:Nat}{l:List Oper}(U:bv E cx)(o q:List Nat)(i:Nat)(L O:List Nat){aa:Oper}{d:Nat}(Y:E.P.follows .mixedOrders=true)(Z:oM .any l.toArray o q i L O=true)
  (la:o.length+(q.length+(L.length+O.length+1))=l.length)(lb:l[i]? =some aa)(ah:aa.dst=some d)(lc:aa.guard=none)(ld:(aa.looksAt l.toArray).contains d=false)(lf:Nat.blt d E.n=true)
  (h:∀T w,al cx st T w->wpQuiet cx.P l.toArray (fun _=>True) (wpQuiet cx.P l.toArray (Ext w) (fun R=>∀w',Ext w w'->d<R.tmps.size/\∃v,(execOp R.eval aa).run cx.P w'=.ok (.value v) w'/\iL cx.P l.toArray (dy Q) aa d O L (R.put aa.dst v) w') (bE l.toArray q)) (bE l.toArray o) ⟨T,ai.D cx⟩):
  W cx Q (.region id l.toArray true) st:=by
 intro T w le
 exact Na (C:=Ext w) o q i L O (by rw[U.P];exact Y) Z la lb ah lc ld (Ext.refl w).drew (h T w le)
def vO(E:Env)(ops:Array Oper)(q L:List Nat)(aa:Oper)(d:Nat)(st:af)(orc orci:List ak)(O bs ap:List Nat):Option (af×List ak×List Prop):=
 match hq E ops (bE ops q) st orc with
 |some (R,U,W)=>match fX E ops (bE ops L) R U with
  |some (o,aZ,Y)=>match fE E o aa orci with
   |some r=>match(o.put d r.aO).norm O bs ap with
    |some s=>some (s,aZ++r.orc,W++(Y++r.ob))
    |none=>none
   |none=>none
  |none=>none
 |none=>none
theorem MD{id:Nat}{l:List Oper}(q:bv E cx)(L O:List Nat)(i c:Nat)(R U:List Nat)(ld bs ap:List Nat){aa la:Oper}{d:Nat}{orc orci:List ak}{ob:List Prop}(le:E.P.follows .mixedOrders=true)(lf:oM .any l.toArray L O i (c::R) U=true)
  (lg:L.length+(O.length+((c::R).length+U.length+1))=l.length)(lh:l[i]? =some aa)(ah:aa.dst=some d)(li:aa.guard=none)(lj:(aa.looksAt l.toArray).contains d=false)(lb:Nat.blt d E.n=true)(lk:ii aa=true)(ll:l[c]? =some la)
  (o:vO E l.toArray L O aa d st orc orci ld bs ap=some (st',[],ob))(Y:bO ob)(h:bN cx l.toArray (iN cx l.toArray aa d U R Q) [la] st'):W cx Q (.region id l.toArray true) st:=by
 unfold vO at o
 split at o
 case h_2=>cases o
 rename_i lA lB lC lm
 split at o
 case h_2=>cases o
 rename_i lD aZ lE ln
 split at o
 case h_2=>cases o
 rename_i r lo
 split at o
 case h_2=>cases o
 rename_i s lp
 simp only[Option.some.injEq,Prod.mk.injEq]at o
 obtain⟨rfl,lq,rfl⟩:=o
 obtain⟨rfl,_⟩:=List.append_eq_nil_iff.1 lq
 obtain⟨lr,Y⟩:=nh Y
 obtain⟨ls,lt⟩:=nh Y
 have lc:d<cx.n:=by rw[q.n];exact cK lb
 refine LM q L O i (c::R) U le lf lg lh ah li lj lb fun T w lu=>?_
 refine pY q lu lm lr fun lF lv=>?_
 refine mJ q lv ln ls fun lG lw w' lx=>?_
 obtain⟨m,Z⟩:=lw.ext lx
 obtain⟨v,ly,lz⟩:=zy q Z lk lo lt
 refine⟨by rw[Z.size];exact lc,v,ly w' (Ext.refl w'),?_⟩
 rw[ah]
 exact z7 (by simpa using ll) h ⟨m,(Z.put lc lz).norm lp⟩
theorem Wa{id:Nat}{l:List Oper}(Y:bv E cx)(o q:List Nat)(i c:Nat)(L O:List Nat)(R bs ap:List Nat){aa U:Oper}{d:Nat}{orc orci:List ak}{ob:List Prop}(Z:l[i]? =some aa)(ah:aa.dst=some d)(la:l[c]? =some U)(lb:E.P.follows .mixedOrders=true)(lc:oM .any l.toArray o q i (c::L) O=true)
  (ld:o.length+(q.length+((c::L).length+O.length+1))=l.length)(le:aa.guard=none)(lf:(aa.looksAt l.toArray).contains d=false)(lg:Nat.blt d E.n=true)(lh:ii aa=true)
  (li:(vO E l.toArray o q aa d st orc orci R bs ap).map Prod.snd=some ([],ob))(lj:iK ob)(h:bN cx l.toArray (iN cx l.toArray aa d O L Q) [U] (ru (vO E l.toArray o q aa d st orc orci R bs ap))):W cx Q (.region id l.toArray true) st:=
 MD Y o q i c L O R bs ap lb lc ld Z ah le lf lg lh la (sX li) lj.all h
theorem QM(O:bv E cx){aa:Oper}{d:Nat}{q:List Nat}{orc:List ak}{ob:List Prop}(R:ii aa=true)(U:(fE E st aa orc).map dw.ob=some ob)(o:(fE E st aa orc).map dw.aO=look st.ab d)(ah:(look st.ab d).any nj=true)(W:iK ob)
  (h:bN cx ops (dy Q) (bE ops q) st):N cx (iN cx ops aa d q [] Q) .normal st:=by
 obtain⟨r,L,Y⟩:=Option.map_eq_some_iff.1 U
 rw[L]at o
 rw[<-o]at ah
 exact Sm O R L (Y▸W.all) o.symm ah h
theorem MW(U:bv E cx){aa q:Oper}{d c:Nat}{L O:List Nat}{orc:List ak}{ob:List Prop}(W:ii aa=true)(Y:(fE E st aa orc).map dw.ob=some ob)(o:(fE E st aa orc).map dw.aO=look st.ab d)(ah:(look st.ab d).any nj=true)(Z:iK ob)
  (la:ops[c]? =some q)(h:bN cx ops (iN cx ops aa d L O Q) [q] st):N cx (iN cx ops aa d L (c::O) Q) .normal st:=by
 obtain⟨r,R,lb⟩:=Option.map_eq_some_iff.1 Y
 rw[R]at o
 rw[<-o]at ah
 exact Xt U W R (lb▸Z.all) o.symm ah la h
end Go.Ev
namespace Go.Ev
open Go Go.RowKit
variable [b8]
section
variable {P:Program} {w w':World} {M:Nat->Prop}
theorem GL{α β:Type}{eq:α->α->Bool}{key:α}{x:β}:∀(ps:List (α×β)),bL eq ps key=none->eq key key=true->bL eq (ps++[(key,x)]) key=some x
 |[],_,h=>by simp[bL,h]
 |p::ps,o,h=>by
  unfold bL at o
  rw[List.cons_append]
  unfold bL
  cases q:eq key p.1 with
  |true=>rw[q]at o;simp at o
  |false=>rw[q]at o;simp at o⊢;exact GL ps o h
theorem Jh{α:Type}(f:α->α):∀(l:List α) (n:Nat) (e:α),l[n]? =some e->f e=e->l.modify n f=l
 |[],n,e,h,_=>by simp at h
 |x::l,0,e,h,o=>by
  simp at h
  subst h
  show f x::l=x::l
  rw[o]
 |x::l,n+1,e,h,o=>by
  rw[List.modify_succ_cons,Jh f l n e (by simpa using h) o]
theorem Jn{α:Type}{f:α->α->Bool}(h:∀x,f x x=true):∀xs:List α,jA f xs xs=true
 |[]=>rfl
 |x::xs=>by simp only[jA,h x,Jn h xs,Bool.and_self]
theorem O0:∀(t:ag) (x:t.el),t.flat=true->aQ t x x=true:=by
 intro t
 induction t with
 |int k=>intro x _;exact beq_self_eq_true (α:=Int) x
 |bool=>intro x _;exact beq_self_eq_true (α:=Bool) x
 |str=>intro x _;exact beq_self_eq_true (α:=List UInt8) x
 |unit=>intro x _;rfl
 |pair a b o q=>
  intro x h
  simp only[ag.flat,Bool.and_eq_true]at h
  simp only[aQ,o x.1 h.1,q x.2 h.2,Bool.and_self]
 |arr n t L=>intro x h;exact Jn (fun y=>L y h) x
 |ab t _=>intro x h;cases h
 |ptr t _=>intro x h;cases h
 |fn f t _=>intro x h;cases h
 |err=>intro x h;cases h
 |cy=>intro x h;cases h
 |cL n t _=>intro x h;cases h
 |alt n t r _ _=>intro x h;cases h
 |map k v _ _=>intro x h;cases h
theorem TH{mt U lk:TypeId}{d d':Nat}{u v:ag}(W:P.underlying mt=some (.map U lk))(Y:cG P d U=some u)(Z:dX P d' U=true)(ah:d'<=10000)(le:u.flat=true)(lu:v.flat=true)
  {z:Value}(lf:∀w,(zeroValue lk).run P w=.ok z w)(la:∀w M,ba w M z v (ca v))
  {kv:Value}{key:u.el}(o:ba w M kv u key){g:Nat}{es:Array MapEntry}{clock:Nat}{ps:List (u.el×v.el)}
  (lb:w.heap[g]? =some (.map es clock))(q:dQ (dW w M u) (dW w M v) es.toList ps)
  {t:Value}{lg:World}(L:(Instr.mapEntry mt (.map (some g)) kv).run P w=.ok t lg):
  ∃r,ba w M r v ((bL (aQ u) ps key).getD (ca v))/\(Instr.lookup mt (.map (some g)) kv false).run P w=.ok r w/\(Instr.lookup mt (.map (some g)) kv false).run P lg=.ok r lg:=by
 obtain⟨r,ll,lv⟩:=ou W Y Z ah lf la o q
 have lm:=lv w (.map (some g)) (.inr ⟨g,clock,rfl,lb⟩) false
 simp only[Bool.false_eq_true,if_false]at lm
 refine⟨r,ll,lm,?_⟩
 have ln:=nT (P:=P) false d U u Y d' Z 10000 ah w w M kv key o
 have lc:=tF Y Z ah o w q
 have lo:(getObj g).run P w=.ok (.map es clock) w:=by simp[getObj,Sem.run,lb]
 have lp:∀aa,(setObj g aa).run P w=.ok () {w with heap:=w.heap.setIfInBounds g aa}:=fun aa=>by simp[setObj,Sem.run,lb]
 have lw:=fV lb
 have fin:∀(O:Array MapEntry) (R:Nat) (lh:List (u.el×v.el)),dQ (dW w M u) (dW w M v) O.toList lh->(bL (aQ u) lh key).getD (ca v)=(bL (aQ u) ps key).getD (ca v)->
   (Instr.lookup mt (.map (some g)) kv false).run P {w with heap:=w.heap.setIfInBounds g (.map O R)}=.ok r {w with heap:=w.heap.setIfInBounds g (.map O R)}:=by
  intro O R lh lx ly
  obtain⟨lI,lq,lz⟩:=ou W Y Z ah lf la o lx
  have lr:=lz {w with heap:=w.heap.setIfInBounds g (.map O R)} (.map (some g)) (.inr ⟨g,R,rfl,by show(w.heap.setIfInBounds g _)[g]? =_;rw[Array.getElem?_setIfInBounds_self_of_lt lw]⟩) false
  simp only[Bool.false_eq_true,if_false]at lr
  rw[ly]at lq
  rw[kS lu ll lq]
  exact lr
 rcases r8 (kv:=kv) (vv:=z) (val:=ca v) (eq:=aQ u) (key:=key) o (la w M) es.toList ps 0 q with ⟨ld,li⟩|⟨n,e,lA,ld,li,lB,lC,lJ⟩
 ·rw[ld]at lc
  unfold Instr.mapEntry at L
  simp only[Sem.run_bind,run_underlying W,Result.andThen_ok,lo,ln,lc,lp,lf,Sem.run_pure]at L
  cases L
  have ls:bL (aQ u) ps key=none:=by
   rcases EC (eq:=aQ u) (key:=key) es.toList ps 0 q with ⟨_,h⟩|⟨n,e,y,h,_⟩
   ·exact h
   ·rw[ld]at h;cases h
  refine fin _ _ (ps++[(key,ca v)]) ?_ ?_
  ·rw[Array.toList_push]
   exact rK q ⟨o,la _ _,trivial⟩
  ·rw[GL ps ls (O0 u key le),ls]
   rfl
 ·rw[ld,Nat.zero_add]at lc
  have lD:key=lA:=z8 u lC
  subst lD
  have lt:e.key=kv:=kS le lB o
  have lE:es[n]? =some e:=by rw[<-Array.getElem?_toList];exact li
  have lF:((es[n]?).map (·.key)).getD kv=kv:=by rw[lE];simp[lt]
  have lG:∀lj,(Instr.keyThatStays kv kv).run P lj=.ok kv lj:=fun lj=>by
   unfold Instr.keyThatStays
   rw[if_pos (AY le o)]
   rfl
  have lH:es.modify n (fun e=>{e with key:=kv})=es:=by
   apply Array.ext'
   rw[Array.toList_modify]
   exact Jh _ es.toList n e li (by rw[<-lt])
  unfold Instr.mapEntry at L
  simp only[Sem.run_bind,run_underlying W,Result.andThen_ok,lo,ln,lc,lF,lG,lp,Sem.run_pure,lH]at L
  cases L
  exact fin es clock ps q rfl
end
section
variable {P:Program} {ops:Array Oper} {md:Region.Mode} {Q:Exit->Act->World->Prop}
theorem sW{aa:Oper}{l:List Oper}{a:Act}{w w':World}{v:Value}(o:aa.guard=none)(q:(execOp a.eval aa).run P w=.ok (.value v) w')(h:wpList P ops Q l (a.put aa.dst v) w'):wpList P ops Q (aa::l) a w:=by
 unfold wpList
 rw[if_pos (show Region.wanted aa (yielded ops a.tmps)=true from by unfold Region.wanted;rw[o])]
 refine .inl ?_
 unfold Oper.wp
 rw[q]
 exact h
theorem Jr{aa:Oper}{l:List Oper}{a:Act}{w w':World}(o:aa.guard=none)(q:(execOp a.eval aa).run P w=.ok .skip w')(h:wpList P ops Q l (a.put aa.dst undef) w'):wpList P ops Q (aa::l) a w:=by
 unfold wpList
 rw[if_pos (show Region.wanted aa (yielded ops a.tmps)=true from by unfold Region.wanted;rw[o])]
 refine .inl ?_
 unfold Oper.wp
 rw[q]
 exact h
structure ip where
 aZ:Oper
 en:Oper
 fJ:Oper
 gD:Oper
 ja:Oper
 d2:Nat
 d3:Nat
 d4:Nat
 d5:Nat
def ip.ok(C:ip)(ops:Array Oper):Bool:=
 C.aZ.guard.isNone&&(C.en.guard.isNone&&(C.fJ.guard.isNone&&(C.gD.guard.isNone&&(C.ja.guard.isNone&&
 (decide (C.aZ.dst=some C.d2)&&(decide (C.en.dst=some C.d3)&&(decide (C.fJ.dst=some C.d4)&&(decide (C.gD.dst=some C.d5)&&(decide (C.ja.dst=none)&&
 (!(C.aZ.looksAt ops).contains C.d4&&(!(C.aZ.looksAt ops).contains C.d5&&(!(C.en.looksAt ops).contains C.d4&&(!(C.en.looksAt ops).contains C.d5&&
 (!(C.fJ.looksAt ops).contains C.d2&&(!(C.fJ.looksAt ops).contains C.d3&&(!(C.gD.looksAt ops).contains C.d2&&(!(C.gD.looksAt ops).contains C.d3&&
 (!Nat.beq C.d2 C.d4&&(!Nat.beq C.d2 C.d5&&(!Nat.beq C.d3 C.d4&&!Nat.beq C.d3 C.d5))))))))))))))))))))
def tz(ops:Array Oper)(c2 c3 o c5 q:Nat):Option ip:=match ops[c2]?,ops[c3]?,ops[o]?,ops[c5]?,ops[q]? with
 |some aZ,some en,some fJ,some gD,some ja=>match aZ.dst,en.dst,fJ.dst,gD.dst with
  |some d2,some d3,some d4,some d5=>match ip.ok ⟨aZ,en,fJ,gD,ja,d2,d3,d4,d5⟩ ops with
   |true=>some ⟨aZ,en,fJ,gD,ja,d2,d3,d4,d5⟩
   |false=>none
  |_,_,_,_=>none
 |_,_,_,_,_=>none
structure qe(P:Program)(Q:Exit->Act->World->Prop)(C:ip)(a:Act)(w:World)(v2 v3 v4 v5:Value)(o q:World):Prop where
 bW:(execOp a.eval C.aZ).run P w=.ok (.value v2) w
 mT:(execOp a.eval C.aZ).run P o=.ok (.value v2) o
 dJ:∀w',(execOp (a.put (some C.d2) v2).eval C.en).run P w'=.ok (.value v3) w'
 gn:(execOp a.eval C.fJ).run P w=.ok (.value v4) o
 gU:∀w',(execOp (a.put (some C.d4) v4).eval C.gD).run P w'=.ok (.value v5) w'
 gT:(execOp ((((a.put (some C.d2) v2).put (some C.d3) v3).put (some C.d4) v4).put (some C.d5) v5).eval C.ja).run P o=.ok .skip q
 fin:Q .normal ((((a.put (some C.d2) v2).put (some C.d3) v3).put (some C.d4) v4).put (some C.d5) v5) q
def rx(md:Region.Mode)(ops:Array Oper)(c2 c3 o c5 q:Nat)(done:Array Bool):Bool:=
 ((Region.ready md ops done).all fun j=>Nat.beq j c2||Nat.beq j o)&&(Region.ready md ops done).contains c2&&
 eY md ops (fq md ops [o,c5,q]) [c3] (done.setIfInBounds c2 true)&&eY md ops (fq md ops [c2,c3,q]) [c5] (done.setIfInBounds o true)
theorem OJ{a b:Nat}(h:(!Nat.beq a b)=true):a≠b:=fun e=>by subst e;simp at h
theorem NG{c2 c3 O c5 Z:Nat}{C:ip}(lc:Region.noSelect ops=true)(lf:∀e a w,Q e a w->e=.normal)(q:tz ops c2 c3 O c5 Z=some C){done:Array Bool}{a:Act}{w:World}(lg:rx md ops c2 c3 O c5 Z done=true){v2 v3 v4 v5:Value}{o lr:World}(F:qe P Q C a w v2 v3 v4 v5 o lr):
  wpAny P md ops Q 5 done a w:=by
 unfold tz at q
 split at q
 case h_2=>cases q
 rename_i aZ en fJ gD ja la R lb U lh
 split at q
 case h_2=>cases q
 rename_i d2 d3 d4 d5 _ _ _ _
 split at q
 case h_2=>cases q
 rename_i li
 cases q
 simp only[ip.ok,Bool.and_eq_true,Option.isNone_iff_eq_none,decide_eq_true_eq,Bool.not_eq_true']at li
 obtain⟨g2,g3,g4,g5,g6,lj,lk,ll,lm,ln,ls,lt,lu,lv,lw,lx,ly,lz,n24,n25,n34,n35⟩:=li
 have n24:d2≠d4:=fun e=>by subst e;simp at n24
 have n25:d2≠d5:=fun e=>by subst e;simp at n25
 have n34:d3≠d4:=fun e=>by subst e;simp at n34
 have n35:d3≠d5:=fun e=>by subst e;simp at n35
 have put:∀(c:Nat) (aa:Oper) (a:Act) (d:Nat) (v:Value),ops[c]? =some aa->(aa.looksAt ops).contains d=false->execOp (a.put (some d) v).eval aa=execOp a.eval aa:=fun c aa a d v W h=>
  execOp_put aa (fun lA b=>Region.noSelect_spec lc c aa lA b W) a (some d) v fun x lB=>by cases lB;simpa using h
 have L:∀(a:Act) (d e:Nat) (u v:Value),d≠e->(a.put (some d) u).put (some e) v=(a.put (some e) v).put (some d) u:=fun a d e u v h=>by simp only[Act.put];rw[Array.setIfInBounds_comm _ _ h]
 obtain⟨bW,mT,dJ,gn,gU,gT,fin⟩:=F
 dsimp only at bW mT dJ gn gU gT fin
 simp only[rx,Bool.and_eq_true]at lg
 obtain⟨⟨⟨lC,lD⟩,lo⟩,lp⟩:=lg
 have lq:c2∈Region.ready md ops done:=by simpa using lD
 refine⟨fun Y=>(by rw[Y]at lq;cases lq),fun k lE=>?_⟩
 have:=List.all_eq_true.1 lC k lE
 rw[Bool.or_eq_true]at this
 rcases this with Y|Y
 ·have:=Nat.eq_of_beq_eq_true Y
  subst this
  simp only[eY,Bool.and_eq_true]at lo
  obtain⟨⟨ld,le⟩,W⟩:=lo
  unfold wpOp
  simp only[la]
  rw[if_pos (show Region.wanted aZ (yielded ops a.tmps)=true from by unfold Region.wanted;rw[g2])]
  refine .inl ?_
  unfold Oper.wp
  rw[bW]
  show wpAny P md ops Q 4 (done.setIfInBounds k true) (a.put aZ.dst v2) w
  rw[lj]
  refine wpAny_first R (Region.noSelect_spec lc) (fun c a w h=>Exit.noConfusion (lf _ _ _ h)) 3 _ _ w (Region.free_spec R le) (by simpa using ld) (v:=v3) (.inl ⟨by unfold Region.wanted;rw[g3],dJ⟩) ?_
  refine qa [O,c5,Z] _ _ w W ?_
  simp only[bE,lb,U,lh]
  rw[lk]
  refine sW g4 (w':=o) (v:=v4) (by rw[put O fJ _ d3 _ lb lx,put O fJ _ d2 _ lb lw];exact gn) ?_
  rw[ll]
  refine sW g5 (w':=o) (v:=v5) (by rw[L _ d3 d4 _ _ n34,put c5 gD _ d3 _ U lz,L _ d2 d4 _ _ n24,put c5 gD _ d2 _ U ly];exact gU o) ?_
  rw[lm]
  refine Jr g6 gT ?_
  rw[ln]
  exact fin
 ·have:=Nat.eq_of_beq_eq_true Y
  subst this
  simp only[eY,Bool.and_eq_true]at lp
  obtain⟨⟨ld,le⟩,W⟩:=lp
  unfold wpOp
  simp only[lb]
  rw[if_pos (show Region.wanted fJ (yielded ops a.tmps)=true from by unfold Region.wanted;rw[g4])]
  refine .inl ?_
  unfold Oper.wp
  rw[gn]
  show wpAny P md ops Q 4 (done.setIfInBounds k true) (a.put fJ.dst v4) o
  rw[ll]
  refine wpAny_first U (Region.noSelect_spec lc) (fun c a w h=>Exit.noConfusion (lf _ _ _ h)) 3 _ _ o (Region.free_spec U le) (by simpa using ld) (v:=v5) (.inl ⟨by unfold Region.wanted;rw[g5],gU⟩) ?_
  refine qa [c2,c3,Z] _ _ o W ?_
  simp only[bE,la,R,lh]
  rw[lm]
  refine sW g2 (w':=o) (v:=v2) (by rw[put c2 aZ _ d5 _ la lt,put c2 aZ _ d4 _ la ls];exact mT) ?_
  rw[lj]
  have lF:(((a.put (some d4) v4).put (some d5) v5).put (some d2) v2)=(((a.put (some d2) v2).put (some d4) v4).put (some d5) v5):=by
   rw[L _ d5 d2 _ _ n25.symm,L _ d4 d2 _ _ n24.symm]
  rw[lF]
  refine sW g3 (w':=o) (v:=v3) (by rw[put c3 en _ d5 _ R lv,put c3 en _ d4 _ R lu];exact dJ o) ?_
  rw[lk]
  have lG:(((a.put (some d2) v2).put (some d4) v4).put (some d5) v5).put (some d3) v3=(((a.put (some d2) v2).put (some d3) v3).put (some d4) v4).put (some d5) v5:=by
   rw[L _ d5 d3 _ _ n35.symm,L _ d4 d3 _ _ n34.symm]
  rw[lG]
  refine Jr g6 gT ?_
  rw[ln]
  exact fin
def Cm(md:Region.Mode)(ops:Array Oper)(q L:List Nat)(c2 c3 o c5 O:Nat):Bool:=j5 md ops q L [c2,o] (rx md ops c2 c3 o c5 O)
end
section
variable {cx:bB} {m:Nat->Value} {st st':af} {T:Array Value} {w w':World} {E:Env} {Q:cO} {ops:Array Oper} {l:List Oper}
variable [ai cx]
def xC(C:ip):Option (TypeId×Nat×Nat×BinOp×TypeId×Operand×Operand×TypeId×TypeId×Operand):=match C.aZ.op,C.en.op,C.fJ.op,C.gD.op,C.ja.op with
 |.lookup mt (.tmp x) (.tmp k) false,.binOp o t a b q,.mapEntry L (.tmp x') (.tmp k'),.extract (.tmp a4) 1,.entryStore O (.tmp R) (.tmp a5) v=>
  match Nat.beq mt L&&(Nat.beq x x'&&(Nat.beq k k'&&(Nat.beq a4 C.d4&&(Nat.beq x R&&(Nat.beq a5 C.d5&&(eW (.tmp x) C.d2&&(eW (.tmp x) C.d3&&(eW (.tmp x) C.d4&&(eW (.tmp x) C.d5&&(eW (.tmp k) C.d2&&(eW (.tmp k) C.d3&&(eW v C.d4&&(eW v C.d5&&!Nat.beq C.d2 C.d3)))))))))))))with
  |true=>some (mt,x,k,o,t,a,b,q,O,v)
  |false=>none
 |_,_,_,_,_=>none
theorem Up{C:ip}{mt t o q:TypeId}{x k:Nat}{op:BinOp}{a b v:Operand}(h:xC C=some (mt,x,k,op,t,a,b,o,q,v)):
  C.aZ.op=.lookup mt (.tmp x) (.tmp k) false/\C.en.op=.binOp op t a b o/\C.fJ.op=.mapEntry mt (.tmp x) (.tmp k)/\C.gD.op=.extract (.tmp C.d4) 1/\C.ja.op=.entryStore q (.tmp x) (.tmp C.d5) v/\
  eW (.tmp x) C.d2=true/\eW (.tmp x) C.d3=true/\eW (.tmp x) C.d4=true/\eW (.tmp x) C.d5=true/\eW (.tmp k) C.d2=true/\eW (.tmp k) C.d3=true/\eW v C.d4=true/\eW v C.d5=true/\C.d2≠C.d3:=by
 unfold xC at h
 split at h
 case h_2=>cases h
 rename_i mt x k op t a b o lo x' k' a4 q lp a5 v ld le Z la lb
 split at h
 case h_2=>cases h
 rename_i lc
 simp only[Option.some.injEq,Prod.mk.injEq]at h
 obtain⟨rfl,rfl,rfl,rfl,rfl,rfl,rfl,rfl,rfl,rfl⟩:=h
 simp only[Bool.and_eq_true]at lc
 obtain⟨L,O,R,U,W,Y,lf,lg,lh,li,lj,lk,ll,lm,ln⟩:=lc
 have L:=Nat.eq_of_beq_eq_true L
 have O:=Nat.eq_of_beq_eq_true O
 have R:=Nat.eq_of_beq_eq_true R
 have U:=Nat.eq_of_beq_eq_true U
 have W:=Nat.eq_of_beq_eq_true W
 have Y:=Nat.eq_of_beq_eq_true Y
 rw[<-L,<-O,<-R]at Z
 rw[U]at la
 rw[<-W,Y]at lb
 exact⟨ld,le,Z,la,lb,lf,lg,lh,li,lj,lk,ll,lm,OJ ln⟩
def Lb(P:Program)(mt:TypeId):Bool:=match P.underlying mt with
 |some (.map o _)=>match ty P o with
  |some u=>u.flat
  |none=>false
 |_=>false
def zw(E:Env)(st:af)(C:ip):Option af:=match xC C with
 |some (mt,x,k,q,t,a,b,_,_,v)=>match vB E.P st mt (.tmp x) (.tmp k) false []with
  |some ⟨.val o y,[],[]⟩=>match Nat.blt C.d2 E.n&&(Nat.blt C.d3 E.n&&(Nat.blt C.d4 E.n&&(Nat.blt C.d5 E.n&&(o.flat&&Lb E.P mt)))),dm (st.put C.d2 (.val o y)) a,dm (st.put C.d2 (.val o y)) b with
   |true,some L,some O=>match bin E.P q t L O with
    |some (r,[])=>match sn E.P ((st.put C.d2 (.val o y)).put C.d3 (.val r.t r.x)) mt (.tmp x) (.tmp k) v with
     |some R=>some ((R.put C.d4 .any).put C.d5 .any)
     |none=>none
    |_=>none
   |_,_,_=>none
  |_=>none
 |none=>none
theorem Qq(W:bv E cx)(h:an cx m st T w){C:ip}(o:zw E st C=some st'):∃v2 v3 v4 v5 L O,(∀{Q:cO},N cx Q .normal st'->qe cx.P (dy Q) C ⟨T,ai.D cx⟩ w v2 v3 v4 v5 L O):=by
 unfold zw at o
 split at o
 case h_2=>cases o
 rename_i mt x k az t a b aA aB v ly
 obtain⟨lk,lz,lA,lB,lC,lD,lE,lF,lG,lH,lI,y4,lJ,n23⟩:=Up ly
 split at o
 case h_2=>cases o
 rename_i aC y q
 split at o
 case h_2=>cases o
 rename_i aD aE ll lK lL
 simp only[Bool.and_eq_true]at ll
 obtain⟨lM,lN,lO,lP,lm,Y⟩:=ll
 split at o
 case h_2=>cases o
 rename_i r ln
 split at o
 case h_2=>cases o
 rename_i lQ lo
 cases o
 rw[<-W.P]at q ln lo Y
 have lR:C.d2<cx.n:=by rw[W.n];exact cK lM
 have lS:C.d3<cx.n:=by rw[W.n];exact cK lN
 have lp:C.d4<cx.n:=by rw[W.n];exact cK lO
 have lq:C.d5<cx.n:=by rw[W.n];exact cK lP
 unfold vB at q
 split at q
 case h_2=>cases q
 rename_i bH aF aG key lT Z lU
 split at q
 case h_2=>cases q
 rename_i aH aI lr la lV lW
 split at q
 case h_1=>cases q
 case h_3=>cases q
 rename_i R _
 simp only[Option.some.injEq,dw.mk.injEq,ao.val.injEq,and_true]at q
 obtain⟨rfl,ld⟩:=q
 have ld:=eq_of_heq ld
 subst ld
 obtain⟨s,lX,lY⟩:=Option.bind_eq_some_iff.1 lT
 have le:=cW h lU
 have lZ:=ak.dd lW
 subst lZ
 obtain⟨z,_,lf,lg⟩:=CD lV
 simp only[Bool.and_eq_true]at R
 have l0:=ag.eq_of_beq R.1.1
 have l3:=ag.eq_of_beq R.1.2
 subst l0
 subst l3
 have l4:bH.k.flat=true:=by
  unfold Lb at Y
  rw[Z]at Y
  simp only[la]at Y
  exact Y
 -- the state behind the sum
 have ls:T.size=cx.n:=h.size
 have lt:∀(v2:Value),ba w (ar cx m st.ids) v2 bH.v ((bL (aQ bH.k) bH.ps lr).getD (ca bH.v))->
   ∃v3 v4 v5 L O s v0,(∀w',(execOp (Act.eval ((⟨T,ai.D cx⟩:Act).put (some C.d2) v2)) C.en).run cx.P w'=.ok (.value v3) w')/\
    (Instr.mapEntry mt (Act.eval ⟨T,ai.D cx⟩ (.tmp x)) (Act.eval ⟨T,ai.D cx⟩ (.tmp k))).run cx.P w=.ok (.tuple #[v0,.int .i64 s]) L/\v4=.tuple #[v0,.int .i64 s]/\v5=.int .i64 s/\
    (execOp (Act.eval (((((⟨T,ai.D cx⟩:Act).put (some C.d2) v2).put (some C.d3) v3).put (some C.d4) v4).put (some C.d5) v5)) C.ja).run cx.P L=.ok .skip O/\
    al cx ((lQ.put C.d4 .any).put C.d5 .any) (((T.setIfInBounds C.d2 v2).setIfInBounds C.d3 v3).setIfInBounds C.d4 v4|>.setIfInBounds C.d5 v5) O:=by
  intro v2 l5
  have lh:=h.put (d:=C.d2) (s:=.val bH.v ((bL (aQ bH.k) bH.ps lr).getD (ca bH.v))) (v:=v2) lR l5
  obtain⟨v3,l6,l7⟩:=zN (ox:=a) (oy:=b) (cW lh lK) (cW lh lL) ln trivial
  have l8:=lh.put (d:=C.d3) (s:=.val r.t r.x) (v:=v3) lS (l7 _ _)
  obtain⟨v0,s,L,O,lu,l9,li⟩:=GJ l8 lo
  have aa:Act.eval ⟨(T.setIfInBounds C.d2 v2).setIfInBounds C.d3 v3,ai.D cx⟩ (.tmp x)=Act.eval ⟨T,ai.D cx⟩ (.tmp x):=(ir lE).trans (ir lD)
  have ab:Act.eval ⟨(T.setIfInBounds C.d2 v2).setIfInBounds C.d3 v3,ai.D cx⟩ (.tmp k)=Act.eval ⟨T,ai.D cx⟩ (.tmp k):=(ir lI).trans (ir lH)
  rw[aa,ab]at lu
  refine⟨v3,_,_,L,O,s,v0,fun w'=>cn (by simp only[execOp,lz]) (l6 w'),lu,rfl,rfl,?_,⟨m,(li.put lp (s:=.any) trivial).put lq (s:=.any) trivial⟩⟩
  have ad:Act.eval ⟨(((T.setIfInBounds C.d2 v2).setIfInBounds C.d3 v3).setIfInBounds C.d4 (.tuple #[v0,.int .i64 s])).setIfInBounds C.d5 (.int .i64 s),ai.D cx⟩ (.tmp C.d5)=.int .i64 s:=eval_put (by simp only[Array.size_setIfInBounds];rw[ls];exact lq)
  have ae:Act.eval ⟨(((T.setIfInBounds C.d2 v2).setIfInBounds C.d3 v3).setIfInBounds C.d4 (.tuple #[v0,.int .i64 s])).setIfInBounds C.d5 (.int .i64 s),ai.D cx⟩ (.tmp x)=Act.eval ⟨(T.setIfInBounds C.d2 v2).setIfInBounds C.d3 v3,ai.D cx⟩ (.tmp x):=(ir lG).trans (ir lF)
  have af:Act.eval ⟨(((T.setIfInBounds C.d2 v2).setIfInBounds C.d3 v3).setIfInBounds C.d4 (.tuple #[v0,.int .i64 s])).setIfInBounds C.d5 (.int .i64 s),ai.D cx⟩ v=Act.eval ⟨(T.setIfInBounds C.d2 v2).setIfInBounds C.d3 v3,ai.D cx⟩ v:=(ir lJ).trans (ir y4)
  show(execOp (Act.eval ⟨(((T.setIfInBounds C.d2 v2).setIfInBounds C.d3 v3).setIfInBounds C.d4 (.tuple #[v0,.int .i64 s])).setIfInBounds C.d5 (.int .i64 s),ai.D cx⟩) C.ja).run cx.P L=.ok .skip O
  simp only[execOp,lC,Sem.run_bind,ad,ae,af,l9,Result.andThen_ok,Sem.run_pure]
 rcases Az h (be h lX) lY with ⟨U,ah⟩|⟨g,es,aJ,U,aj,lv⟩
 ·obtain⟨v2,lb,_⟩:=ou (w':=w) (M':=ar cx m st.ids) (d:=iy) (d':=16) Z la R.2 (by decide) lf lg le (es:=#[]) (ps:=bH.ps) (by rw[ah];trivial)
  obtain⟨v3,v4,v5,L,O,s,v0,_,lc,_⟩:=lt v2 lb
  rw[U]at lc
  unfold Instr.mapEntry at lc
  simp only[Sem.run_bind,run_underlying Z,Result.andThen_ok]at lc
  exact absurd lc (iu _ _ _ _)
 ·obtain⟨v2,lb,_⟩:=ou (d:=iy) (d':=16) Z la R.2 (by decide) lf lg le lv
  obtain⟨v3,v4,v5,L,O,s,v0,li,lj,lw,am,ap,aq⟩:=lt v2 lb
  rw[U]at lj
  obtain⟨lx,au,av,aw⟩:=TH (d:=iy) (d':=16) Z la R.2 (by decide) l4 lm lf lg le aj lv lj
  have:lx=v2:=kS lm au lb
  subst this
  refine⟨lx,v3,v4,v5,L,O,fun{Q} ax=>⟨?_,?_,li,?_,?_,ap,rfl,ax _ _ aq⟩⟩
  ·exact cn (s:=Instr.lookup mt (Act.eval ⟨T,ai.D cx⟩ (.tmp x)) (Act.eval ⟨T,ai.D cx⟩ (.tmp k)) false) (by simp only[execOp,lk]) (by rw[U];exact av)
  ·exact cn (s:=Instr.lookup mt (Act.eval ⟨T,ai.D cx⟩ (.tmp x)) (Act.eval ⟨T,ai.D cx⟩ (.tmp k)) false) (by simp only[execOp,lk]) (by rw[U];exact aw)
  ·exact cn (s:=Instr.mapEntry mt (Act.eval ⟨T,ai.D cx⟩ (.tmp x)) (Act.eval ⟨T,ai.D cx⟩ (.tmp k))) (by simp only[execOp,lA]) (by rw[U,lw];exact lj)
  ·intro w'
   have ay:Act.eval ⟨T.setIfInBounds C.d4 v4,ai.D cx⟩ (.tmp C.d4)=v4:=eval_put (by rw[ls];exact lp)
   show(execOp (Act.eval ⟨T.setIfInBounds C.d4 v4,ai.D cx⟩) C.gD).run cx.P w'=_
   subst lw
   subst am
   simp only[execOp,lB,ay,Instr.extract]
   rfl
theorem SZ{id:Nat}{l:List Oper}(la:bv E cx)(o q:List Nat)(c2 c3 L c5 R:Nat){C:ip}(lb:E.P.follows .mixedOrders=true)(O:Cm .any l.toArray o q c2 c3 L c5 R=true)(lc:o.length+(q.length+5)=l.length)(ld:tz l.toArray c2 c3 L c5 R=some C)
  (h:∀T w,al cx st T w->wpQuiet cx.P l.toArray (fun _=>True) (wpQuiet cx.P l.toArray (Ext w) (fun le=>∀w',Ext w w'->∃v2 v3 v4 v5 Y Z,qe cx.P (dy Q) C le w' v2 v3 v4 v5 Y Z) (bE l.toArray q)) (bE l.toArray o) ⟨T,ai.D cx⟩):
  W cx Q (.region id l.toArray true) st:=by
 intro T w lf
 have lg:Region.noSelect l.toArray=true:=by
  unfold Cm j5 at O
  simp only[Bool.and_eq_true]at O
  exact O.1.1.1
 refine Code.wp_mono (Q:=dy Q) (fun e a w h=>by obtain⟨rfl,h⟩:=h;exact h)
  (sh (C:=Ext w) o q [c2,L] (rx .any l.toArray c2 c3 L c5 R) _ (by rw[la.P];exact lb) O (fun d j ah lh=>?_) (fun e a w h=>h.1)
   (fun d a w ah li=>by
    obtain⟨v2,v3,v4,v5,Y,Z,F⟩:=li
    exact NG lg (fun e a w h=>h.1) ld ah F) lc (Ext.refl w).drew (h T w lf))
 simp only[rx,Bool.and_eq_true]at ah
 have:=List.all_eq_true.1 ah.1.1.1 j lh
 rw[Bool.or_eq_true]at this
 rcases this with U|U
 ·rw[Nat.eq_of_beq_eq_true U];simp
 ·rw[Nat.eq_of_beq_eq_true U];simp
end
end Go.Ev
namespace Go.Ev
open Go Go.RowKit
variable [b8]
section
variable {P:Program} {ops:Array Oper} {md:Region.Mode} {S:World->Prop} {Q:Exit->Act->World->Prop}
def io(P:Program)(ops:Array Oper)(Q:Exit->Act->World->Prop)(S:World->Prop):List Oper->Act->World->Prop
 |[],a,w=>Q .normal a w
 |aa::l,a,w=>if Region.wanted aa (yielded ops a.tmps)then aa.wp P a w (fun o w'=>S w'/\io P ops Q S l o w') Q else S w/\io P ops Q S l (a.put aa.dst undef) w
theorem Hc:∀(l:List Nat) (done:Array Bool) (a:Act) (w:World),fq md ops l done=true->io P ops Q S (bE ops l) a w->wpAnyH P md ops Q S l.length done a w
 |[],_,_,_,o,h=>⟨by simpa[fq]using o,h⟩
 |i::l,done,a,w,o,h=>by
  simp only[fq,Bool.and_eq_true,decide_eq_true_eq]at o
  have W:i∈Region.ready md ops done:=by rw[o.1];exact List.mem_cons_self
  obtain⟨_,aa,O,_⟩:=mem_ready.1 W
  unfold bE at h
  rw[O]at h
  refine⟨fun R=>(by rw[o.1]at R;cases R),fun k U=>?_⟩
  rw[o.1]at U
  have Y:k=i:=by simpa using U
  subst Y
  have Z:wpOp P ops Q k (fun q w'=>S w'/\io P ops Q S (bE ops l) q w') a w:=by
   unfold wpOp
   simp only[O]
   unfold io at h
   split
   ·rename_i L;rw[if_pos L]at h;exact .inl h
   ·rename_i L;rw[if_neg L]at h;exact h
  exact wpOp_mono (fun q w' h'=>⟨h'.1,Hc l _ q w' o.2 h'.2⟩) Z
def yk(aa:Oper):Bool:=gQ aa||ii aa
def uu(ops:Array Oper):List Nat->Bool
 |[]=>true
 |i::is=>(match ops[i]? with
  |some aa=>yk aa
  |none=>false)&&uu ops is
theorem Nf{aa:Oper}(h:yk aa=true){ρ:Operand->Value}{w q:World}{n:Next}(o:(execOp ρ aa).run P w=.ok n q):∃v,n=.value v:=by
 unfold yk at h
 rw[Bool.or_eq_true]at h
 rcases h with h|h
 ·exact xO h o
 ·exact Js h o
theorem Mg{g:Nat}{Z:Array Bool->Bool}{K:Act->Prop}{w:World}(la:S w)(lb:Region.noSelect ops=true)(lc:∀c a w,¬Q (.panic c) a w)(lg:∀done a,Z done=true->K a->wpAnyH P md ops Q S g done a w):
  ∀(q:List Nat) (done:Array Bool) (a:Act),uu ops q=true->eY md ops Z q done=true->wpQuiet P ops S K (bE ops q) a->wpAnyH P md ops Q S (q.length+g) done a w:=by
 intro q
 induction q with
 |nil=>intro done a _ o h;rw[List.length_nil,Nat.zero_add];exact lg _ _ o h
 |cons i is ld=>
  intro done a L o h
  unfold uu at L
  unfold eY at o
  simp only[Bool.and_eq_true]at L o
  obtain⟨⟨le,lf⟩,o⟩:=o
  obtain⟨U,L⟩:=L
  unfold bE at h
  split at U
  ·rename_i aa O
   rw[O]at h
   rw[List.length_cons,Nat.succ_add]
   by_cases R:Region.wanted aa (yielded ops a.tmps)=true
   ·unfold wpQuiet at h
    rw[if_pos R]at h
    obtain⟨v,aK,lh⟩:=h
    refine wpAnyH_first O (Region.noSelect_spec lb) (fun c a w W=>absurd W (lc _ _ _)) (is.length+g) done a w (Region.free_spec O lf) (by simpa using le) (v:=v) (.inl ⟨R,fun w' li=>?_⟩) la (ld _ _ L o lh)
    have:=aK w' li
    unfold Oper.quietAt at this
    cases Y:(execOp a.eval aa).run P w' with
    |halt e lj=>rw[Y]at this;exact this.elim
    |ok n lj=>
     obtain⟨u,rfl⟩:=Nf U Y
     rw[Y]at this
     obtain⟨rfl,rfl⟩:=this
     rfl
   ·unfold wpQuiet at h
    rw[if_neg R]at h
    exact wpAnyH_first O (Region.noSelect_spec lb) (fun c a w W=>absurd W (lc _ _ _)) (is.length+g) done a w (Region.free_spec O lf) (by simpa using le) (v:=undef) (.inr ⟨by simpa using R,rfl⟩) la (ld _ _ L o h)
  ·cases U
def tJ(md:Region.Mode)(ops:Array Oper)(o q:List Nat):Bool:=Region.noSelect ops&&(uu ops o&&eY md ops (fq md ops q) o (Array.replicate ops.size false))
theorem Th{id:Nat}{a:Act}{w:World}{l:List Oper}(q o:List Nat)(R:P.follows .mixedOrders=true)(L:tJ .any l.toArray q o=true)(U:q.length+o.length=l.length)
  (O:S {w with drawn:=w.drawn+1})(h:wpQuiet P l.toArray S (fun W=>∀w',S w'->io P l.toArray (dy Q) S (bE l.toArray o) W w') (bE l.toArray q) a):(Code.region id l.toArray true).wp P Q a w:=by
 refine Code.wp_mono (Q:=dy Q) (fun e a w h=>by obtain⟨rfl,h⟩:=h;exact h) ?_
 unfold tJ at L
 simp only[Bool.and_eq_true]at L
 obtain⟨Y,Z,la⟩:=L
 refine wp_region_any R (wpAny_of_held (S:=S) _ _ _ _ ?_)
 have al:=Mg (Q:=dy Q) (S:=S) (w:={w with drawn:=w.drawn+1}) (g:=o.length) O Y (fun c a w h=>Exit.noConfusion h.1) (fun done a ah lb=>Hc o done a _ ah (lb _ O)) q _ a Z la h
 rw[U]at al
 simpa using al
end
end Go.Ev
namespace Go.Ev
open Go Go.RowKit
variable [b8]
variable {cx:bB} {m:Nat->Value} {st st':af} {T:Array Value} {w w':World} {E:Env} {Q:cO} {ops:Array Oper} {l:List Oper}
variable [ai cx]
def tV(E:Env)(st:af)(aa:Oper)(orc:List ak):Option dw:=
 match dv E.P st aa.op orc with
 |some r=>some r
 |none=>match o2 E.P st aa orc with
 |some r=>some r
 |none=>match aa.op with
  |.load t x=>pI E.P st t x orc
  |.call c=>kN E st c orc
  |_=>none
theorem MJ(O:bv E cx)(h:an cx m st T w){aa:Oper}{orc:List ak}{r:dw}(o:tV E st aa orc=some r)(R:bO r.ob){K:Act->World->Prop}
  (U:∀v w',Ext w w'->aS w' (ar cx m st.ids) m v r.aO->K (Act.put ⟨T,ai.D cx⟩ aa.dst v) w'):aa.wp cx.P ⟨T,ai.D cx⟩ w K Q:=by
 unfold tV at o
 split at o
 ·rename_i Z L
  cases o
  rw[<-O.P]at L
  obtain⟨v,ah,q⟩:=ya h L R
  exact gg (ah w (Ext.refl w)) (U v w (Ext.refl w) q)
 ·split at o
  ·rename_i Z L
   cases o
   rw[<-O.P]at L
   obtain⟨v,W,q⟩:=CJ h L R
   exact gg (W w (Ext.refl w)) (U v w (Ext.refl w) q)
  split at o
  ·rename_i t x Y
   rw[<-O.P]at o
   obtain⟨v,W,q⟩:=ER h o R
   exact gg (cn (by simp only[execOp,Y]) (W w (Ext.refl w))) (U v w (Ext.refl w) q)
  ·rename_i c Y
   obtain⟨f0,args,la,lb⟩:=rm O h Y o R
   unfold Oper.wp
   rw[la w]
   refine lb.mono ?_
   rintro e w' ⟨v,rfl,lc,q⟩
   exact U v w' lc q
  ·cases o
theorem Xc{id:Nat}{l:List Oper}(o q:List Nat)(L:cx.P.follows .mixedOrders=true)(O:tJ .any l.toArray o q=true)(R:o.length+q.length=l.length)
  (h:∀T w,al cx st T w->wpQuiet cx.P l.toArray (Ext w) (fun U=>∀w',Ext w w'->io cx.P l.toArray (dy Q) (Ext w) (bE l.toArray q) U w') (bE l.toArray o) ⟨T,ai.D cx⟩):
  W cx Q (.region id l.toArray true) st:=by
 intro T w Y
 exact Th (S:=Ext w) o q L O R (Ext.refl w).drew (h T w Y)
theorem Wj{w0:World}{aa:Oper}{d:Nat}{orc:List ak}{r:dw}(q:bv E cx)(U:eb ops st aa=some true)(ah:aa.dst=some d)(W:Nat.blt d E.n=true)(Y:tV E st aa orc=some r)(Z:bO r.ob)
  (la:∀T w,al cx (st.put d r.aO) T w->Ext w0 w->io cx.P ops (dy Q) (Ext w0) l ⟨T,ai.D cx⟩ w):∀T w,al cx st T w->Ext w0 w->io cx.P ops (dy Q) (Ext w0) (aa::l) ⟨T,ai.D cx⟩ w:=by
 intro T w L O
 unfold io
 rw[if_pos (show Region.wanted aa (yielded ops T)=true from il L U)]
 obtain⟨m,R⟩:=L
 refine MJ q R Y Z fun v w' o lb=>⟨O.trans o,?_⟩
 rw[ah]
 exact la _ w' ⟨m,(R.ext o).put (by rw[q.n];exact cK W) lb⟩ (O.trans o)
end Go.Ev
namespace Go.Ev
open Go Go.RowKit
variable [b8]
variable {cx:bB} {st st':af} {T:Array Value} {w:World} {Q:cO} {ops:Array Oper} {md:Region.Mode}
variable [ai cx]
def qb(cx:bB)[ai cx](ops:Array Oper)(aa:Oper)(s o:af):Prop:=∀Q:cO,N cx Q .normal o->bN cx ops Q [aa] s
def s7(cx:bB)[ai cx](s:af):cO:=fun e a w=>e=.normal/\∃T,a=⟨T,ai.D cx⟩/\al cx s T w
theorem Gg{Sg:Nat->Array Bool->af->Prop}(U:∀g done s,Sg (g+1) done s->∀i∈Region.ready md ops done,∃aa o,ops[i]? =some aa/\Sg g (done.setIfInBounds i true) o/\qb cx ops aa s o)
  (O:∀done s,Sg 0 done s->Region.ready md ops done=[])(R:∀g done s,Sg g done s->Region.ready md ops done=[]->N cx Q .normal s):
  ∀g done s T w,Sg g done s->al cx s T w->wpAny cx.P md ops Q g done ⟨T,ai.D cx⟩ w
 |0,done,s,T,w,q,L=>⟨O done s q,R 0 done s q (O done s q) T w L⟩
 |g+1,done,s,T,w,q,L=>by
  refine⟨fun h=>R (g+1) done s q h T w L,fun i W=>?_⟩
  obtain⟨aa,o,Y,Z,la⟩:=U g done s q i W
  have h:=la (s7 cx o) (fun T w h=>⟨rfl,T,rfl,h⟩) T w L
  have lb:wpOp cx.P ops (s7 cx o) i (wpList cx.P ops (s7 cx o) []) ⟨T,ai.D cx⟩ w:=by unfold wpOp;simp only[Y];exact h
  refine wpOp_mono (fun lc w' h'=>?_) (Dk (fun e a w h=>h.1) lb)
  obtain⟨_,ld,rfl,le⟩:s7 cx o .normal lc w':=h'
  exact Gg U O R g _ o ld w' Z le
theorem Xe{id:Nat}(q:cx.P.follows .mixedOrders=true){Sg:Nat->Array Bool->af->Prop}(L:∀g done s,Sg (g+1) done s->∀i∈Region.ready .any ops done,∃aa o,ops[i]? =some aa/\Sg g (done.setIfInBounds i true) o/\qb cx ops aa s o)
  (O:∀done s,Sg 0 done s->Region.ready .any ops done=[])(R:∀g done s,Sg g done s->Region.ready .any ops done=[]->N cx Q .normal s)(U:Sg ops.size (Array.replicate ops.size false) st):
  W cx Q (.region id ops true) st:=fun T w Y=>
 wp_region_any q (Gg L O R _ _ _ T _ U (Y.ext (Ext.refl w).drew))
/-! Sets of operations that are done, as0 lists, the last one first. -/
def kL(n:Nat)(o:List Nat):Array Bool:=((List.range n).map fun i=>iP i o).toArray
def kZ(i:Nat):List Nat->List Nat
 |[]=>[i]
 |j::o=>bif Nat.blt j i then i::j::o else j::kZ i o
def pf:List Bool->List Bool->Bool
 |[],[]=>true
 |a::l,b::m=>(bif a then b else !b)&&pf l m
 |_,_=>false
theorem AE:∀{l m:List Bool},pf l m=true->l=m
 |[],[],_=>rfl
 |a::l,b::m,h=>by
  unfold pf at h
  rw[Bool.and_eq_true]at h
  rw[AE h.2]
  cases a<;>cases b<;>simp_all
 |[],_::_,h=>by cases h
 |_::_,[],h=>by cases h
def qA:List Nat->List Nat->Bool
 |[],[]=>true
 |a::l,b::m=>Nat.beq a b&&qA l m
 |_,_=>false
theorem Er:∀{l m:List Nat},qA l m=true->l=m
 |[],[],_=>rfl
 |a::l,b::m,h=>by
  unfold qA at h
  rw[Bool.and_eq_true]at h
  rw[Er h.2,Nat.eq_of_beq_eq_true h.1]
 |[],_::_,h=>by cases h
 |_::_,[],h=>by cases h
def yT(o:List Nat)(q:List (List Nat)):Bool:=q.any (qA o)
theorem Kf{D:List Nat}{o:List (List Nat)}(h:yT D o=true):D∈o:=by
 obtain⟨x,q,e⟩:=List.any_eq_true.1 h
 rw[Er e];exact q
def Gw(md:Region.Mode)(ops:Array Oper)(q:List (List Nat))(o:List Nat)(i:Nat):Bool:=
 yT (kZ i o) q&&(Nat.beq (kZ i o).length (o.length+1)&&pf (kL ops.size (kZ i o)).toList ((kL ops.size o).setIfInBounds i true).toList)
def Cp(md:Region.Mode)(ops:Array Oper)(F:List Nat)(q:List (List Nat)):Bool:=
 yT [] q&&(pf (kL ops.size []).toList (Array.replicate ops.size false).toList&&q.all fun o=>
  (Region.ready md ops (kL ops.size o)).all (Gw md ops q o)&&((!(Region.ready md ops (kL ops.size o)).isEmpty&&!Nat.beq o.length ops.size)||(qA o F&&(Region.ready md ops (kL ops.size o)).isEmpty)))
theorem Vv{id:Nat}(le:cx.P.follows .mixedOrders=true){F:List Nat}{la:List (List Nat)}(lb:Cp .any ops F la=true){S:List Nat->Option af}
  (lf:∀q∈la,∀i∈Region.ready .any ops (kL ops.size q),∃aa s U,ops[i]? =some aa/\S q=some s/\S (kZ i q)=some U/\qb cx ops aa s U)(lg:S []=some st)(lh:∀s,S F=some s->N cx Q .normal s):
  W cx Q (.region id ops true) st:=by
 unfold Cp at lb
 simp only[Bool.and_eq_true]at lb
 obtain⟨li,lj,Y⟩:=lb
 rw[List.all_eq_true]at Y
 refine Xe le (Sg:=fun g done s=>∃q∈la,g+q.length=ops.size/\done=kL ops.size q/\S q=some s) ?_ ?_ ?_ ?_
 ·rintro g done s ⟨q,O,Z,rfl,R⟩ i lc
  obtain⟨aa,lo,U,lk,ld,ll,lm⟩:=lf q O i lc
  rw[R]at ld
  cases ld
  have L:=Y q O
  rw[Bool.and_eq_true]at L
  have o:=List.all_eq_true.1 L.1 i lc
  unfold Gw at o
  simp only[Bool.and_eq_true]at o
  refine⟨aa,U,lk,⟨kZ i q,Kf o.1,?_,?_,ll⟩,lm⟩
  ·have:=Nat.eq_of_beq_eq_true o.2.1
   omega
  ·exact(Array.ext' (AE o.2.2)).symm
 ·rintro done s ⟨q,O,Z,rfl,R⟩
  have L:=Y q O
  simp only[Bool.and_eq_true,Bool.or_eq_true,Bool.not_eq_true']at L
  rcases L.2 with ⟨_,o⟩|⟨_,o⟩
  ·rw[Nat.zero_add]at Z
   rw[Z]at o
   rw[show Nat.beq ops.size ops.size=true from Nat.beq_refl _]at o
   cases o
  ·simpa using o
 ·rintro g done s ⟨q,O,Z,rfl,R⟩ ln
  have L:=Y q O
  simp only[Bool.and_eq_true,Bool.or_eq_true,Bool.not_eq_true']at L
  rcases L.2 with ⟨o,_⟩|⟨o,_⟩
  ·rw[ln]at o
   cases o
  ·rw[Er o]at R
   exact lh s R
 ·refine⟨[],Kf li,by simp,?_,lg⟩
  exact(Array.ext' (AE lj)).symm
end Go.Ev
