/- Calls that change the caller's boxed variables and owned slices. -/
import Derived.Test.YteopobecmacgdaaGreatDoorMM4
import Derived.StillTail
import Derived.Laws.IdiomRangeMap
import Derived.Lib.SliceRun
import Derived.OrdersHeld
set_option linter.unusedSectionVars false
set_option linter.unusedVariables false
set_option linter.unusedSimpArgs false
namespace Go.Ev
open Go Go.RowKit
variable [cm]
variable {cx:bJ} {m:Nat->Value} {st st':af} {T:Array Value} {w w':World} {E:Env} {Q:di} {ops:Array Oper} {l:List Oper}
variable [aj cx]
def wD(ρ:List (Nat×Nat)):List Nat->Option (List Nat)
 |[]=>some []
 |b::bs=>match look ρ b,wD ρ bs with
  |some o,some q=>some (o::q)
  |_,_=>none
def mD(ρ:List (Nat×Nat)):List b9->Option (List b9)
 |[]=>some []
 |.v u::l=>match mD ρ l with
  |some o=>some (.v u::o)
  |none=>none
 |.r b::l=>match look ρ b,mD ρ l with
  |some q,some o=>some (.r q::o)
  |_,_=>none
 |.a::l=>match mD ρ l with
  |some o=>some (.a::o)
  |none=>none
def ap.cb(ρ:List (Nat×Nat)):ap->ap
 |.ptr b off=>match look ρ b with
  |some o=>.ptr o off
  |none=>.any
 |.fC b=>match look ρ b with
  |some o=>.fC o
  |none=>.any
 |.row b=>match look ρ b with
  |some o=>.row o
  |none=>.any
 |.ep b i off q=>match look ρ b with
  |some o=>.ep o i off q
  |none=>.any
 |.iter b=>match look ρ b with
  |some o=>.iter o
  |none=>.any
 |.osl b=>match look ρ b with
  |some o=>.osl o
  |none=>.any
 |.gb b i=>match look ρ b with
  |some o=>.gb o i
  |none=>.any
 |.sub b i=>match look ρ b with
  |some o=>.sub o i
  |none=>.any
 |.en b i off q=>match look ρ b with
  |some o=>.en o i off q
  |none=>.any
 |.fA b i j off q=>match look ρ b with
  |some o=>.fA o i j off q
  |none=>.any
 |.dP b p=>match look ρ b with
  |some o=>.dP o p
  |none=>.any
 |.clos f bs=>match wD ρ bs with
  |some R=>.clos f R
  |none=>.any
 |.ck f b=>match look ρ b with
  |some o=>.ck f o
  |none=>.any
 |.fe l=>match mD ρ l with
  |some O=>.fe O
  |none=>.any
 |.gh l=>match mD ρ l with
  |some O=>.gh O
  |none=>.any
 |s=>s
def eH(ρ:List (Nat×Nat))(ae:List (Nat×b7)):List (Nat×Nat)->List (Nat×b7)
 |[]=>[]
 |(i,j)::l=>match look ae i with
  |some c=>(j,c.map (ap.cb ρ))::eH ρ ae l
  |none=>eH ρ ae l
def eP(rw:List (Nat×cV)):List (Nat×Nat)->List (Nat×cV)
 |[]=>[]
 |(i,j)::l=>match look rw i with
  |some c=>(j,c)::eP rw l
  |none=>eP rw l
theorem mK{ρ:List (Nat×Nat)}{ae:List (Nat×b7)}:∀{l:List (Nat×Nat)} {j:Nat} {c':b7},(j,c')∈eH ρ ae l->∃i c,(i,j)∈l/\(i,c)∈ae/\c'=c.map (ap.cb ρ)
 |[],_,_,h=>by simp[eH]at h
 |(i,U)::l,j,c',h=>by
  unfold eH at h
  split at h
  ·rename_i c R
   rcases List.mem_cons.1 h with h|h
   ·cases h;exact⟨i,c,List.mem_cons_self,be R,rfl⟩
   ·obtain⟨o,c2,q,O⟩:=mK h;exact⟨o,c2,List.mem_cons_of_mem _ q,O⟩
  ·obtain⟨o,c2,q,O⟩:=mK h;exact⟨o,c2,List.mem_cons_of_mem _ q,O⟩
theorem mM{rw:List (Nat×cV)}:∀{l:List (Nat×Nat)} {j:Nat} {c:cV},(j,c)∈eP rw l->∃i,(i,j)∈l/\(i,c)∈rw
 |[],_,_,h=>by simp[eP]at h
 |(i,U)::l,j,c',h=>by
  unfold eP at h
  split at h
  ·rename_i c R
   rcases List.mem_cons.1 h with h|h
   ·cases h;exact⟨i,List.mem_cons_self,be R⟩
   ·obtain⟨o,q,O⟩:=mM h;exact⟨o,List.mem_cons_of_mem _ q,O⟩
  ·obtain⟨o,q,O⟩:=mM h;exact⟨o,List.mem_cons_of_mem _ q,O⟩
def inv(ρ:List (Nat×Nat))(j:Nat):Option Nat:=look (ρ.map fun p=>(p.2,p.1)) j
theorem yW{α:Type}:∀{l:List (Nat×α)} {n:Nat} {v:α},(l.map (·.1)).Nodup->(n,v)∈l->look l n=some v
 |[],_,_,_,h=>by simp at h
 |(k,u)::r,n,v,o,h=>by
  simp only[List.map_cons,List.nodup_cons]at o
  unfold look
  rcases List.mem_cons.1 h with h|h
  ·cases h;simp[Nat.beq_refl]
  ·cases q:Nat.beq k n with
   |true=>
    have e:=Nat.eq_of_beq_eq_true q
    subst e
    exact absurd (List.mem_map.2 ⟨_,h,rfl⟩) o.1
   |false=>exact yW o.2 h
theorem qD{ρ:List (Nat×Nat)}{i j:Nat}(o:(ρ.map (·.2)).Nodup)(h:(i,j)∈ρ):inv ρ j=some i:=by
 refine yW ?_ (List.mem_map.2 ⟨_,h,rfl⟩)
 simpa[List.map_map,Function.comp_def]using o
theorem Ky{ρ:List (Nat×Nat)}{i j:Nat}(h:inv ρ j=some i):(i,j)∈ρ:=by
 obtain⟨p,o,q⟩:=List.mem_map.1 (be h)
 cases q
 exact o
theorem Lx{ρ:List (Nat×Nat)}{m aA:Nat->Value}(q:∀i j,(i,j)∈ρ->aA j=m i):∀{bs o:List Nat},wD ρ bs=some o->o.map aA=bs.map m
 |[],_,h=>by cases h;rfl
 |b::bs,o,h=>by
  unfold wD at h
  split at h
  ·rename_i U W O R
   cases h
   rw[List.map_cons,List.map_cons,q _ _ (be O),Lx q R]
  ·cases h
theorem s5{ρ:List (Nat×Nat)}{M:Nat->Prop}{m aA:Nat->Value}(R:∀i j,(i,j)∈ρ->aA j=m i):∀{vs:List Value} {l q:List b9},mD ρ l=some q->dq w M m vs l->dq w M aA vs q
 |vs,[],_,h,o=>by cases h;cases vs<;>exact o
 |[],.v _::_,_,_,o=>o.elim
 |[],.r _::_,_,_,o=>o.elim
 |[],.a::_,_,_,o=>o.elim
 |v::vs,.a::l,q,h,o=>by
  unfold mD at h
  split at h
  ·rename_i l2 O;cases h;exact s5 (vs:=vs) (l:=l) R O o
  ·cases h
 |v::vs,.v u::l,q,h,o=>by
  unfold mD at h
  split at h
  ·rename_i l2 O;cases h;exact⟨o.1,s5 R O o.2⟩
  ·cases h
 |v::vs,.r b::l,q,h,o=>by
  unfold mD at h
  split at h
  ·rename_i W l2 U O;cases h;exact⟨by rw[R _ _ (be U)];exact o.1,s5 R O o.2⟩
  ·cases h
theorem xN{ρ:List (Nat×Nat)}{M:Nat->Prop}{m aA:Nat->Value}(q:∀i j,(i,j)∈ρ->aA j=m i){v:Value}{s:ap}(h:aX w M m v s):aX w M aA v (s.cb ρ):=by
 cases s with
 |any=>trivial
 |undef=>exact h
 |val t x=>exact h
 |dW l=>exact h
 |vptr t x=>exact h
 |ptr b off=>
  simp only[ap.cb]
  split
  ·rename_i R o;obtain⟨g,O,U⟩:=h;exact⟨g,by rw[q _ _ (be o)];exact O,U⟩
  ·trivial
 |fC b=>
  simp only[ap.cb]
  split
  ·rename_i R o;show _\/v=aA R;rw[q _ _ (be o)];exact h
  ·trivial
 |row b=>
  simp only[ap.cb]
  split
  ·rename_i R o;show v=aA R;rw[q _ _ (be o)];exact h
  ·trivial
 |ep b i off Z=>
  simp only[ap.cb]
  split
  ·rename_i R o;obtain⟨g,n,cap,O,U⟩:=h;exact⟨g,n,cap,by rw[q _ _ (be o)];exact O,U⟩
  ·trivial
 |iter b=>
  simp only[ap.cb]
  split
  ·rename_i R o;show v=aA R;rw[q _ _ (be o)];exact h
  ·trivial
 |osl b=>
  simp only[ap.cb]
  split
  ·rename_i R o;obtain⟨us,O⟩:=h;exact⟨us,by rw[q _ _ (be o)];exact O⟩
  ·trivial
 |gb b i=>
  simp only[ap.cb]
  split
  ·rename_i R o;obtain⟨g,n,cap,us,O,U⟩:=h;exact⟨g,n,cap,us,by rw[q _ _ (be o)];exact O,U⟩
  ·trivial
 |sub b i=>
  simp only[ap.cb]
  split
  ·rename_i R o;obtain⟨la,us,O,U⟩:=h;exact⟨la,us,by rw[q _ _ (be o)];exact O,U⟩
  ·trivial
 |dP b p=>
  simp only[ap.cb]
  split
  ·rename_i R o;obtain⟨g,O,U⟩:=h;exact⟨g,by rw[q _ _ (be o)];exact O,U⟩
  ·trivial
 |clos f bs=>
  simp only[ap.cb]
  split
  ·rename_i lc o;show v=_;rw[Lx q o];exact h
  ·trivial
 |gh l=>
  simp only[ap.cb]
  split
  ·rename_i lb W;obtain⟨vs,e,Y⟩:=h;exact⟨vs,e,s5 q W Y⟩
  ·trivial
 |fe l=>
  simp only[ap.cb]
  split
  ·rename_i lb W;obtain⟨vs,e,Y⟩:=h;exact⟨vs,e,s5 q W Y⟩
  ·trivial
 |en b i off Z=>
  simp only[ap.cb]
  split
  ·rename_i R o;obtain⟨g,n,cap,us,O,U⟩:=h;exact⟨g,n,cap,us,by rw[q _ _ (be o)];exact O,U⟩
  ·trivial
 |fA b i j off Z=>
  simp only[ap.cb]
  split
  ·rename_i R o;obtain⟨r,us,g,n,cap,O,U⟩:=h;exact⟨r,us,g,n,cap,by rw[q _ _ (be o)];exact O,U⟩
  ·trivial
 |ai n=>exact h
 |ck f b=>
  simp only[ap.cb]
  split
  ·rename_i R o;show v=_;rw[q _ _ (be o)];exact h
  ·trivial
def mT:Nat->List ap->List (Nat×ap)
 |_,[]=>[]
 |k,u::us=>(k,u)::mT (k+1) us
theorem M6{M:Nat->Prop}{m:Nat->Value}:∀{vs:List Value} {q:List ap} (k:Nat) {T:Array Value},cJ w M m vs q->(∀i v,vs[i]? =some v->T[k+i]? =some v)->
  ∀i aU,(i,aU)∈mT k q->∃v,T[i]? =some v/\aX w M m v aU
 |[],[],k,T,_,_,i,aU,o=>by simp[mT]at o
 |[],_::_,_,_,h,_,_,_,_=>h.elim
 |_::_,[],_,_,h,_,_,_,_=>h.elim
 |v::vs,a::q,k,T,⟨R,U⟩,O,i,aU,o=>by
  rcases List.mem_cons.1 o with o|o
  ·cases o
   exact⟨v,by have:=O 0 v rfl;simpa using this,R⟩
  ·exact M6 (k+1) U (fun j u W=>by have:=O (j+1) u (by simpa using W);rw[<-this];congr 1;omega) i aU o
def jD(st:af)(n:Nat)(ρ:List (Nat×Nat))(o:List ap):Option af:=
 match nodupB (ρ.map (·.1)),nodupB (ρ.map (·.2)),nodupB (af.ids ⟨[],eH ρ st.ae ρ,eP st.rw ρ⟩),Nat.ble o.length n with
 |true,true,true,true=>some ⟨mT 0 (o.map (ap.cb ρ)),eH ρ st.ae ρ,eP st.rw ρ⟩
 |_,_,_,_=>none
def sub(cx:bJ)(m:Nat->Value)(st:af)(w:World)(n:Nat)(ρ:List (Nat×Nat)):bJ:=
 {P:=cx.P,n:=n,w0:=w,X:=fun b=>∃i j,(i,j)∈ρ/\i∈st.ids/\own (m i) b,
  A:=fun b=>au cx m st.ids b/\¬∃i j,(i,j)∈ρ/\i∈st.ids/\own (m i) b,m0:=fun j=>match inv ρ j with|some i=>m i|none=>undef}
theorem uv{ρ:List (Nat×Nat)}{ab:List (Nat×ap)}{j:Nat}(o:j∈af.ids ⟨ab,eH ρ st.ae ρ,eP st.rw ρ⟩):∃i,(i,j)∈ρ/\i∈st.ids:=by
 rcases List.mem_append.1 o with o|o
 ·obtain⟨⟨U,c⟩,q,rfl⟩:=List.mem_map.1 o
  obtain⟨i,c',O,R,_⟩:=mK q
  exact⟨i,O,List.mem_append.2 (.inl (List.mem_map.2 ⟨_,R,rfl⟩))⟩
 ·obtain⟨⟨U,c⟩,q,rfl⟩:=List.mem_map.1 o
  obtain⟨i,O,R⟩:=mM q
  exact⟨i,O,List.mem_append.2 (.inr (List.mem_map.2 ⟨_,R,rfl⟩))⟩
theorem wM{α:Type}{l:List (Nat×α)}(o:(l.map (·.1)).Nodup){i:Nat}{a b:α}(O:(i,a)∈l)(R:(i,b)∈l):a=b:=by
 have U:=yW o O
 have q:=yW o R
 rw[U]at q
 exact Option.some.inj q
theorem G8(h:ao cx m st T w){n:Nat}{ρ:List (Nat×Nat)}{R:List ap}{lj:af}(Z:jD st n ρ R=some lj){vs:List Value}(lk:cJ w (au cx m st.ids) m vs R):
  ao (sub cx m st w n ρ) (sub cx m st w n ρ).m0 lj (vs.toArray++Array.replicate (n-vs.toArray.size) undef) w:=by
 unfold jD at Z
 split at Z
 case h_2=>cases Z
 rename_i lc ld le ll
 cases Z
 have lc:=gT lc
 have ld:=gT ld
 have le:=gT le
 have ll:=Nat.le_of_ble_eq_true ll
 have O:∀i j,(i,j)∈ρ->(sub cx m st w n ρ).m0 j=m i:=by
  intro i j o
  show(match inv ρ j with|some i=>m i|none=>undef)=m i
  rw[qD ld o]
 have lx:=nh lk
 have lf:∀b,b<w.heap.size->au (sub cx m st w n ρ) (sub cx m st w n ρ).m0 (af.ids ⟨mT 0 (R.map (ap.cb ρ)),eH ρ st.ae ρ,eP st.rw ρ⟩) b->au cx m st.ids b:=by
  rintro b _ (lo|⟨j,U,W⟩)
  ·exact lo.1
  ·obtain⟨i,o,q⟩:=uv U
   rw[O i j o]at W
   exact .inr ⟨i,q,W⟩
 have lg:∀b,b<w.heap.size->¬au cx m st.ids b->w.heap[b]? =w.heap[b]? :=fun _ _ _=>rfl
 have lm:∀v s,aX w (au cx m st.ids) m v s->aX w (au (sub cx m st w n ρ) (sub cx m st w n ρ).m0 (af.ids ⟨mT 0 (R.map (ap.cb ρ)),eH ρ st.ae ρ,eP st.rw ρ⟩)) (sub cx m st w n ρ).m0 v (s.cb ρ):=
  fun v s lp=>xN O (fG lg lf lp)
 refine{size:=?_,frame:=Frame.refl _ _,outer:=fun b W=>⟨h.zw W.1,W.2⟩,de:=?_,boxes:=?_,rows:=?_,apart:=?_,keys:=le,fixed:=fun _ _ _ _ _=>rfl,kept:=fun _ _ _ _ _=>rfl}
 ·show(vs.toArray++Array.replicate (n-vs.toArray.size) undef).size=n
  simp only[Array.size_append,List.size_toArray,Array.size_replicate]
  omega
 ·have lq:cJ w (au (sub cx m st w n ρ) (sub cx m st w n ρ).m0 (af.ids ⟨mT 0 (R.map (ap.cb ρ)),eH ρ st.ae ρ,eP st.rw ρ⟩)) (sub cx m st w n ρ).m0 vs (R.map (ap.cb ρ)):=sW lm lk
  exact M6 0 lq (fun i v q=>by
   rw[Nat.zero_add,Array.getElem?_append_left (by have:=(List.getElem?_eq_some_iff.1 q).1;simpa using this)]
   simpa using q)
 ·intro j c' U
  obtain⟨i,c,o,q,rfl⟩:=mK U
  obtain⟨g,la,lr,lh⟩:=h.boxes i c q
  have li:i∈st.ids:=List.mem_append.2 (.inl (List.mem_map.2 ⟨_,q,rfl⟩))
  rw[O i j o]
  refine⟨g,j7.2 la,fun ly lb=>.inr ⟨i,j,o,li,lb⟩,jA lg lf (ig la) (fun _ _=>rfl) lm lh⟩
 ·intro j c U
  obtain⟨i,o,q⟩:=mM U
  obtain⟨cells,la,lr,lh⟩:=h.rows i c q
  have li:i∈st.ids:=List.mem_append.2 (.inr (List.mem_map.2 ⟨_,q,rfl⟩))
  refine⟨cells,by rw[O i j o];exact la,fun g Y=>.inr ⟨i,j,o,li,by rw[O i j o]at Y;exact Y⟩,dD (fun _ _=>cS lg lf c.t) lh⟩
 ·intro lz lA ls lt lu g Y lb
  obtain⟨i1,ln,lv⟩:=uv ls
  obtain⟨i2,a2,lw⟩:=uv lt
  rw[O _ _ ln]at Y
  rw[O _ _ a2]at lb
  refine h.apart i1 i2 lv lw ?_ g Y lb
  rintro rfl
  exact lu (wM lc ln a2)
def jo(i:Nat)(l:List Nat):Bool:=l.any (Nat.beq i)
theorem vp{i:Nat}{l:List Nat}:jo i l=true↔i∈l:=by
 unfold jo
 rw[List.any_eq_true]
 constructor
 ·rintro⟨x,o,q⟩;rw[Nat.eq_of_beq_eq_true q];exact o
 ·intro O;exact⟨i,O,Nat.beq_refl i⟩
def sr(n:Nat)(o:af)(ρ ρ':List (Nat×Nat))(i:Nat):Bool:=
 match look ρ i with
 |some j=>Nat.ble n j&&(Nat.ble eM j&&((look o.rw j).isSome&&(match look ρ' j with|some q=>Nat.beq q i|none=>false)))
 |none=>false
def jx(st:af)(i:Nat):Option Bool:=match look st.ae i with
 |some c=>some c.one
 |none=>none
theorem aao{st:af}{i:Nat}{c:b7}(o:st.ids.Nodup)(h:(i,c)∈st.ae):jx st i=some c.one:=by
 have key:∀{l:List (Nat×b7)},(l.map (·.1)).Nodup->(i,c)∈l->look l i=some c:=by
  intro l
  induction l with
  |nil=>intro _ h;cases h
  |cons p l q=>
   obtain⟨j,d⟩:=p
   intro o h
   rw[List.map_cons,List.nodup_cons]at o
   unfold look
   rcases List.mem_cons.1 h with h|h
   ·cases h
    rw[Nat.beq_refl]
    rfl
   ·have O:Nat.beq j i=false:=by
     cases R:Nat.beq j i with
     |false=>rfl
     |true=>exact absurd (List.mem_map.2 ⟨_,h,(Nat.eq_of_beq_eq_true R).symm⟩) o.1
    rw[O]
    exact q o.2 h
 unfold jx
 rw[key (List.nodup_append.1 o).1 h]
theorem N4{st:af}{i:Nat}{b:Bool}(h:jx st i=some b):∃c,look st.ae i=some c/\c.one=b:=by
 unfold jx at h
 split at h
 ·rename_i c o;cases h;exact⟨c,o,rfl⟩
 ·cases h
def gone(n:Nat)(st o:af)(ρ ρ':List (Nat×Nat)):List Nat:=
 (ρ.map (·.1)).filter (fun i=>((look st.rw i).isSome&&!sr n o ρ ρ' i)||jx st i==some false)++(ρ'.map (·.2)).filter (fun j=>!(jx st j==some true&&jo j (ρ.map (·.1)))&&!sr n o ρ ρ' j)
def jc{α:Type}(o:List Nat)(l:List (Nat×α)):List (Nat×α):=l.filter fun p=>!(jo p.1 o)
def KA(st o:af)(n q:Nat)(ρ:List (Nat×Nat))(p:Nat×Nat):Bool:=
 match look ρ p.2 with
 |some i=>Nat.beq i p.1&&(Nat.ble n p.1&&((jx st p.2==jx o p.1)&&(Nat.blt p.2 eM||(Nat.ble eM p.1&&(look st.rw p.2).isSome))))
 |none=>!(jo p.2 st.ids)&&!(jo p.2 (ρ.map (·.1)))&&(Nat.blt p.2 q||((look o.ae p.1).isNone&&Nat.blt p.2 eM))
def sY(st o:af)(n q:Nat)(ρ ρ':List (Nat×Nat)):Option af:=
 match nodupB (ρ'.map (·.1)),nodupB (ρ'.map (·.2)),ρ'.all (KA st o n q ρ),nodupB ((jc (ρ.map (·.1)) st.ae++eH ρ' o.ae ρ').map (·.1)++(jc (ρ.map (·.1)) st.rw++eP o.rw ρ').map (·.1))with
 |true,true,true,true=>some
  {ab:=st.ab.map fun p=>(p.1,p.2.ed (gone n st o ρ ρ')),
   ae:=(jc (ρ.map (·.1)) st.ae).map (fun p=>(p.1,p.2.map (ap.ed (gone n st o ρ ρ'))))++eH ρ' o.ae ρ',
   rw:=jc (ρ.map (·.1)) st.rw++eP o.rw ρ'}
 |_,_,_,_=>none
end Go.Ev
namespace Go.Ev
open Go Go.RowKit
variable [cm]
variable {cx:bJ} {m:Nat->Value} {st st':af} {T:Array Value} {w w':World} {E:Env} {Q:di} {ops:Array Oper} {l:List Oper}
variable [aj cx]
theorem JX{α:Type}{l:List (Nat×α)}{i:Nat}{c:α}(h:(i,c)∈l):(look l i).isSome=true:=by
 induction l with
 |nil=>simp at h
 |cons p r q=>
  obtain⟨k,u⟩:=p
  unfold look
  cases o:Nat.beq k i with
  |true=>rfl
  |false=>
   rcases List.mem_cons.1 h with h|h
   ·cases h;rw[Nat.beq_refl]at o;cases o
   ·exact q h
theorem ww{α:Type}{o:List Nat}{l:List (Nat×α)}{p:Nat×α}(h:p∈jc o l):p∈l/\p.1∉o:=by
 obtain⟨O,q⟩:=List.mem_filter.1 h
 refine⟨O,fun R=>?_⟩
 rw[vp.2 R]at q
 cases q
theorem CN(h:ao cx m st T w){n:Nat}{ρ ρ':List (Nat×Nat)}{U ll:af}{m1:Nat->Value}{ag:Array Value}{lg:World}(ay:(ρ.map (·.1)).Nodup)(ah:(ρ.map (·.2)).Nodup)
  (Z:ao (sub cx m st w n ρ) m1 U ag lg)(lE:sY st U n cx.n ρ ρ'=some ll):
  ∃m2,ao cx m2 ll T lg/\∀v s,aX lg (au (sub cx m st w n ρ) m1 U.ids) m1 v s->aX lg (au cx m2 ll.ids) m2 v (s.cb ρ'):=by
 unfold sY at lE
 split at lE
 case h_2=>cases lE
 rename_i c1 c2 c3 c4
 cases lE
 have c1:=gT c1
 have c2:=gT c2
 have c4:=gT c4
 have lF:∀i j,(i,j)∈ρ->(sub cx m st w n ρ).m0 j=m i:=by
  intro i j lm
  show(match inv ρ j with|some i=>m i|none=>undef)=m i
  rw[qD ah lm]
 have lG:∀i j,(i,j)∈ρ'->(n<=i/\(j,i)∈ρ/\jx st j=jx U i/\(j<eM\/(eM<=i/\(look st.rw j).isSome=true)))\/(True/\j∉st.ids/\j∉ρ.map (·.1)/\(j<cx.n\/(look U.ae i=none/\j<eM))):=by
  intro i j lm
  have:=List.all_eq_true.1 c3 _ lm
  unfold KA at this
  split at this
  ·rename_i lK lL
   simp only[Bool.and_eq_true,Bool.or_eq_true,beq_iff_eq]at this
   obtain⟨t1,t2,t3,t4⟩:=this
   have:=Nat.eq_of_beq_eq_true t1
   subst this
   exact .inl ⟨Nat.le_of_ble_eq_true t2,be lL,t3,t4.imp dg fun t=>⟨Nat.le_of_ble_eq_true t.1,t.2⟩⟩
  ·simp only[Bool.and_eq_true,Bool.or_eq_true,Bool.not_eq_true']at this
   obtain⟨⟨t1,t2⟩,t3⟩:=this
   refine .inr ⟨trivial,(fun q=>?_),(fun q=>?_),?_⟩
   ·have t1:jo j st.ids=false:=t1
    rw[vp.2 q]at t1
    cases t1
   ·have t2:jo j (ρ.map (·.1))=false:=t2
    rw[vp.2 q]at t2
    cases t2
   ·rcases t3 with t3|t3
    ·exact .inl (dg t3)
    ·exact .inr ⟨by simpa using t3.1,dg t3.2⟩
 obtain⟨m2,lW⟩:∃m2:Nat->Value,m2=fun j=>match inv ρ' j with|some i=>m1 i|none=>m j:=⟨_,rfl⟩
 have ld:∀i j,(i,j)∈ρ'->m2 j=m1 i:=by
  intro i j lm
  rw[lW]
  simp only
  rw[qD c2 lm]
 have lX:∀j,inv ρ' j=none->m2 j=m j:=by
  intro j la
  rw[lW]
  simp only
  rw[la]
 have li:∀j,j∈st.ids->j∉ρ.map (·.1)->m2 j=m j:=by
  intro j la lp
  refine lX j ?_
  cases ln:inv ρ' j with
  |none=>rfl
  |some i=>
   rcases lG i j (Ky ln)with ⟨_,q,_,_⟩|⟨_,q,_⟩
   ·exact absurd (List.mem_map.2 ⟨_,q,rfl⟩) lp
   ·exact absurd la q
 have ai:∀b,b∉gone n st U ρ ρ'->m2 b=m b:=by
  intro b R
  cases ln:inv ρ' b with
  |none=>exact lX b ln
  |some i=>
   have lm:=Ky ln
   have lj:(jx st b==some true&&jo b (ρ.map (·.1)))=true\/sr n U ρ ρ' b=true:=by
    cases lr:(jx st b==some true&&jo b (ρ.map (·.1)))with
    |true=>exact .inl rfl
    |false=>
     cases aj:sr n U ρ ρ' b with
     |true=>exact .inr rfl
     |false=>
      refine absurd ?_ R
      refine List.mem_append.2 (.inr (List.mem_filter.2 ⟨List.mem_map.2 ⟨_,lm,rfl⟩,by rw[lr,aj];rfl⟩))
   rcases lj with lj|lj
   case inr=>
    unfold sr at lj
    split at lj
    case h_2=>cases lj
    rename_i j la
    simp only[Bool.and_eq_true]at lj
    obtain⟨ak,al,am,lM⟩:=lj
    split at lM
    case h_2=>cases lM
    rename_i lK lL
    have le:=Nat.eq_of_beq_eq_true lM
    subst le
    have lh:=qD c2 (be lL)
    rw[ln]at lh
    cases lh
    obtain⟨lA,lB⟩:=Option.isSome_iff_exists.1 am
    rw[ld i lK lm,Z.kept i lA (be lB) (Nat.le_of_ble_eq_true ak) (Nat.le_of_ble_eq_true al),lF lK i (be la)]
   rw[Bool.and_eq_true]at lj
   rcases lG i b lm with ⟨lu,q,lb,_⟩|⟨_,_,q,_⟩
   ·rw[beq_iff_eq.1 lj.1]at lb
    obtain⟨c,an,lH⟩:=N4 lb.symm
    rw[ld i b lm,Z.fixed i c (be an) lH lu,lF b i q]
   ·exact absurd (vp.1 lj.2) q
 -- the ids of the new state
 have lC:∀j,j∈af.ids {ab:=st.ab.map fun p=>(p.1,p.2.ed (gone n st U ρ ρ')),ae:=(jc (ρ.map (·.1)) st.ae).map (fun p=>(p.1,p.2.map (ap.ed (gone n st U ρ ρ'))))++eH ρ' U.ae ρ',rw:=jc (ρ.map (·.1)) st.rw++eP U.rw ρ'}->
   (j∈st.ids/\j∉ρ.map (·.1))\/∃i,(i,j)∈ρ'/\i∈U.ids:=by
  intro j la
  rcases List.mem_append.1 la with la|la
  ·obtain⟨⟨aq,c⟩,W,rfl⟩:=List.mem_map.1 la
   rcases List.mem_append.1 W with W|W
   ·obtain⟨⟨lq,c'⟩,lN,lb⟩:=List.mem_map.1 W
    cases lb
    obtain⟨o,O⟩:=ww lN
    exact .inl ⟨List.mem_append.2 (.inl (List.mem_map.2 ⟨_,o,rfl⟩)),O⟩
   ·obtain⟨i,c',o,O,_⟩:=mK W
    exact .inr ⟨i,o,List.mem_append.2 (.inl (List.mem_map.2 ⟨_,O,rfl⟩))⟩
  ·obtain⟨⟨aq,c⟩,W,rfl⟩:=List.mem_map.1 la
   rcases List.mem_append.1 W with W|W
   ·obtain⟨o,O⟩:=ww W
    exact .inl ⟨List.mem_append.2 (.inr (List.mem_map.2 ⟨_,o,rfl⟩)),O⟩
   ·obtain⟨i,o,O⟩:=mM W
    exact .inr ⟨i,o,List.mem_append.2 (.inr (List.mem_map.2 ⟨_,O,rfl⟩))⟩
 generalize lI:({ab:=st.ab.map fun p=>(p.1,p.2.ed (gone n st U ρ ρ')),ae:=(jc (ρ.map (·.1)) st.ae).map (fun p=>(p.1,p.2.map (ap.ed (gone n st U ρ ρ'))))++eH ρ' U.ae ρ',rw:=jc (ρ.map (·.1)) st.rw++eP U.rw ρ'}:af)=ll at lC
 have lO:∀i,i∈U.ids->∀b,own (m1 i) b->w.heap.size<=b\/∃i0 ls,(i0,ls)∈ρ/\i0∈st.ids/\own (m i0) b:=fun i ln b R=>(Z.lt ln R).2
 have lP:∀b,b<w.heap.size->au cx m2 ll.ids b->au cx m st.ids b:=by
  rintro b az (lJ|⟨j,la,R⟩)
  ·exact .inl lJ
  ·rcases lC j la with ⟨o,O⟩|⟨i,o,O⟩
   ·rw[li j o O]at R
    exact .inr ⟨j,o,R⟩
   ·rw[ld i j o]at R
    rcases lO i O b R with q|⟨i0,_,_,lf,lc⟩
    ·omega
    ·exact .inr ⟨i0,lf,lc⟩
 have lQ:∀b,b<lg.heap.size->au cx m2 ll.ids b->au (sub cx m st w n ρ) m1 U.ids b:=by
  rintro b _ (lJ|⟨j,la,R⟩)
  ·refine .inl ⟨.inl lJ,?_⟩
   rintro⟨i0,ls,_,lf,lc⟩
   have aa:=h.outer b lJ
   rcases(h.lt lf lc).2 with q|q
   ·omega
   ·exact aa.2 q
  ·rcases lC j la with ⟨o,O⟩|⟨i,o,O⟩
   ·rw[li j o O]at R
    refine .inl ⟨.inr ⟨j,o,R⟩,?_⟩
    rintro⟨i0,ls,lR,lf,lc⟩
    refine h.apart i0 j lf o ?_ b lc R
    rintro rfl
    exact O (List.mem_map.2 ⟨_,lR,rfl⟩)
   ·rw[ld i j o]at R
    exact .inr ⟨i,O,R⟩
 have lS:∀b,b<w.heap.size->¬au cx m st.ids b->lg.heap[b]? =w.heap[b]? :=fun b R lp=>Z.frame.block b R fun⟨i0,_,_,lf,lc⟩=>lp (.inr ⟨i0,lf,lc⟩)
 have lT:∀b,b<lg.heap.size->¬au (sub cx m st w n ρ) m1 U.ids b->lg.heap[b]? =lg.heap[b]? :=fun _ _ _=>rfl
 have lY:∀v s,aX w (au cx m st.ids) m v s->aX lg (au cx m2 ll.ids) m2 v (s.ed (gone n st U ρ ρ')):=fun v s lx=>oa ai (fG lS lP lx)
 have lZ:∀v s,aX lg (au (sub cx m st w n ρ) m1 U.ids) m1 v s->aX lg (au cx m2 ll.ids) m2 v (s.cb ρ'):=fun v s lx=>xN ld (fG lT lQ lx)
 have l0:∀b c',(b,c')∈ll.ae->(∃c,(b,c)∈st.ae/\b∉ρ.map (·.1)/\c'=c.map (ap.ed (gone n st U ρ ρ')))\/∃i c,(i,b)∈ρ'/\(i,c)∈U.ae/\c'=c.map (ap.cb ρ'):=by
  intro b c' R
  rw[<-lI]at R
  rcases List.mem_append.1 R with W|W
  ·obtain⟨⟨lq,c2⟩,lN,lb⟩:=List.mem_map.1 W
   cases lb
   obtain⟨o,O⟩:=ww lN
   exact .inl ⟨c2,o,O,rfl⟩
  ·exact .inr (mK W)
 have l3:∀b c,(b,c)∈ll.rw->((b,c)∈st.rw/\b∉ρ.map (·.1))\/∃i,(i,b)∈ρ'/\(i,c)∈U.rw:=by
  intro b c R
  rw[<-lI]at R
  rcases List.mem_append.1 R with W|W
  ·exact .inl (ww W)
  ·exact .inr (mM W)
 have lD:∀j,j∈st.ids->j∉ρ.map (·.1)->∀g,own (m j) g->g<w.heap.size/\¬∃i0 ls,(i0,ls)∈ρ/\i0∈st.ids/\own (m i0) g:=by
  intro j la lp g Y
  refine⟨(h.lt la Y).1,?_⟩
  rintro⟨i0,ls,lR,lf,lc⟩
  refine h.apart i0 j lf la ?_ g lc Y
  rintro rfl
  exact lp (List.mem_map.2 ⟨_,lR,rfl⟩)
 have l4:∀g,(w.heap.size<=g\/∃i0 ls,(i0,ls)∈ρ/\i0∈st.ids/\own (m i0) g)->cx.w0.heap.size<=g\/cx.X g:=by
  rintro g (Y|⟨i0,_,_,lf,lc⟩)
  ·exact .inl (Nat.le_trans h.frame.size Y)
  ·exact(h.lt lf lc).2
 refine⟨m2,{size:=h.size,frame:=?_,outer:=h.outer,de:=?_,boxes:=?_,rows:=?_,apart:=?_,keys:=?_,fixed:=?_,kept:=?_},lZ⟩
 ·refine⟨Z.frame.os.trans h.frame.os,Z.frame.tape.trans h.frame.tape,Z.frame.output.trans h.frame.output,Nat.le_trans h.frame.size Z.frame.size,fun b R l5=>?_,fun d=>Nat.le_trans (h.frame.drawn d) (Z.frame.drawn d)⟩
  rw[<-h.frame.block b R l5]
  refine Z.frame.block b (Nat.lt_of_lt_of_le R h.frame.size) ?_
  rintro⟨i0,_,_,lf,lc⟩
  rcases(h.lt lf lc).2 with q|q
  ·omega
  ·exact l5 q
 ·intro i aA ln
  rw[<-lI]at ln
  obtain⟨⟨j,aU⟩,W,lb⟩:=List.mem_map.1 ln
  cases lb
  obtain⟨v,le,lh⟩:=h.de j aU W
  exact⟨v,le,lY v aU lh⟩
 ·intro b c' R
  rcases l0 b c' R with ⟨c,o,O,rfl⟩|⟨i,c,o,O,rfl⟩
  ·have lk:b∈st.ids:=List.mem_append.2 (.inl (List.mem_map.2 ⟨_,o,rfl⟩))
   obtain⟨g,le,lh,lv⟩:=h.boxes b c o
   rw[li b lk O]
   exact⟨g,j7.2 le,lh,jA lS lP (ig le) (fun lU l6=>Z.frame.block lU (lD b lk O lU l6).1 (lD b lk O lU l6).2) lY lv⟩
  ·obtain⟨g,le,lh,lv⟩:=Z.boxes i c O
   rw[ld i b o]
   exact⟨g,j7.2 le,fun l7 lo=>l4 l7 (lh l7 lo),jA lT lQ (ig le) (fun _ _=>rfl) lZ lv⟩
 ·intro b c R
  rcases l3 b c R with ⟨o,O⟩|⟨i,o,O⟩
  ·have lk:b∈st.ids:=List.mem_append.2 (.inr (List.mem_map.2 ⟨_,o,rfl⟩))
   obtain⟨cells,le,lh,lv⟩:=h.rows b c o
   refine⟨cells,?_,fun g Y=>lh g (by rw[li b lk O]at Y;exact Y),dD (fun _ _=>cS lS lP c.t) lv⟩
   rw[li b lk O]
   refine⟨le.1,?_⟩
   rcases le.2 with q|⟨g,cap,cur,lx,lc,q,rest⟩
   ·exact .inl q
   ·have lr:=lD b lk O g (by rw[lx];exact gP rfl)
    exact .inr ⟨g,cap,cur,lx,lc,by rw[Z.frame.block g lr.1 lr.2];exact q,rest⟩
  ·obtain⟨cells,le,lh,lv⟩:=Z.rows i c O
   exact⟨cells,by rw[ld i b o];exact le,fun g Y=>l4 g (lh g (by rw[ld i b o]at Y;exact Y)),dD (fun _ _=>cS lT lQ c.t) lv⟩
 ·intro lw lq ar av l8 g Y lo
  rcases lC lw ar with ⟨lt,ly⟩|⟨i1,lt,ly⟩<;>rcases lC lq av with ⟨a2,lz⟩|⟨i2,a2,lz⟩
  ·rw[li lw lt ly]at Y
   rw[li lq a2 lz]at lo
   exact h.apart lw lq lt a2 l8 g Y lo
  ·rw[li lw lt ly]at Y
   rw[ld i2 lq a2]at lo
   have lr:=lD lw lt ly g Y
   rcases lO i2 lz g lo with q|q
   ·omega
   ·exact lr.2 q
  ·rw[ld i1 lw lt]at Y
   rw[li lq a2 lz]at lo
   have lr:=lD lq a2 lz g lo
   rcases lO i1 ly g Y with q|q
   ·omega
   ·exact lr.2 q
  ·rw[ld i1 lw lt]at Y
   rw[ld i2 lq a2]at lo
   refine Z.apart i1 i2 ly lz ?_ g Y lo
   rintro rfl
   exact l8 (wM c1 lt a2)
 ·rw[<-lI]
  show(((jc (ρ.map (·.1)) st.ae).map (fun p=>(p.1,p.2.map (ap.ed (gone n st U ρ ρ'))))++eH ρ' U.ae ρ').map (·.1)++(jc (ρ.map (·.1)) st.rw++eP U.rw ρ').map (·.1)).Nodup
  have e:((jc (ρ.map (·.1)) st.ae).map (fun p=>(p.1,p.2.map (ap.ed (gone n st U ρ ρ'))))++eH ρ' U.ae ρ').map (·.1)=(jc (ρ.map (·.1)) st.ae++eH ρ' U.ae ρ').map (·.1):=by
   simp[List.map_append,List.map_map,Function.comp_def]
  rw[e]
  exact c4
 ·intro b c' R lH lu
  rcases l0 b c' R with ⟨c,o,O,lV⟩|⟨i,c,o,O,lV⟩
  ·have lk:b∈st.ids:=List.mem_append.2 (.inl (List.mem_map.2 ⟨_,o,rfl⟩))
   rw[li b lk O]
   exact h.fixed b c o (mB.symm.trans (lV▸lH)) lu
  ·rcases lG i b o with ⟨lp,q,lb,_⟩|⟨_,_,_,q⟩
   ·have l9:c.one=true:=mB.symm.trans (lV▸lH)
    rw[aao Z.keys O,l9]at lb
    obtain⟨lA,lB,aw⟩:=N4 lb
    rw[ld i b o,Z.fixed i c O l9 lp,lF b i q]
    exact h.fixed b lA (be lB) aw lu
   ·rcases q with q|q
    ·omega
    ·have:=JX O
     rw[q.1]at this
     cases this
 ·intro b c R lu ad
  rcases l3 b c R with ⟨o,O⟩|⟨i,o,O⟩
  ·have lk:b∈st.ids:=List.mem_append.2 (.inr (List.mem_map.2 ⟨_,o,rfl⟩))
   rw[li b lk O]
   exact h.kept b c o lu ad
  ·rcases lG i b o with ⟨lp,q,_,lb⟩|⟨_,_,_,q⟩
   ·rcases lb with lb|⟨lb,ax⟩
    ·omega
    ·obtain⟨lA,lB⟩:=Option.isSome_iff_exists.1 ax
     rw[ld i b o,Z.kept i c O lp lb,lF b i q]
     exact h.kept b lA (be lB) lu ad
   ·rcases q with q|q
    ·omega
    ·omega
end Go.Ev
namespace Go.Ev
open Go Go.RowKit
variable [cm]
variable {cx:bJ} {m:Nat->Value} {st st':af} {T:Array Value} {w w':World} {E:Env} {Q:di} {ops:Array Oper} {l:List Oper}
variable [aj cx]
structure b8(α β:Type) where
 n:Nat
 S:α->af
 bg:α->β->af
 aq:α->β->List ap
 rel:α->β->Prop
def sp(w:World)(M:Nat->Prop)(m:Nat->Value)(v:Value):List ap->Prop
 |[]=>True
 |[s]=>aX w M m v s
 |l=>∃vs:List Value,v=.tuple vs.toArray/\cJ w M m vs l
structure cq{α β:Type}(P:Program)(G:World->Prop)(f:Nat)(F:b8 α β):Prop where
 enters:∀args w,(callFunc f args).run P w=.ok (.enter f args) w
 calls:∀(cx:bJ),cx.P=P->cx.n=F.n->(∀w,Frame cx.w0 w cx.X->G w)->∀x y,F.rel x y->∀(vs:List Value) (w:World),vs.length=(F.S x).ab.length->al cx (F.S x) (vs.toArray++Array.replicate (F.n-vs.toArray.size) undef) w->
  Calls P f vs.toArray w fun e w'=>∃v aA o,e=.returned v/\ao cx aA (F.bg x y) o w'/\sp w' (au cx aA (F.bg x y).ids) aA v (F.aq x y)
def mR:List ap->Option (List b9)
 |[]=>some []
 |.val t x::l=>match mR l with
  |some r=>some (.v ⟨t,x⟩::r)
  |none=>none
 |.row b::l=>match mR l with
  |some r=>some (.r b::r)
  |none=>none
 |.ptr b 0::l=>match mR l with
  |some r=>some (.r b::r)
  |none=>none
 |.dP b []::l=>match mR l with
  |some r=>some (.r b::r)
  |none=>none
 |.any::l=>match mR l with
  |some r=>some (.a::r)
  |none=>none
 |.iter b::l=>match mR l with
  |some r=>some (.r b::r)
  |none=>none
 |_=>none
def xL:List ap->Option ap
 |[]=>some .any
 |[s]=>some s
 |l=>match mR l with
  |some r=>some (.gh r)
  |none=>none
theorem oA{M:Nat->Prop}:∀{vs:List Value} {l:List ap} {r:List b9},mR l=some r->cJ w M m vs l->dq w M m vs r
 |[],[],_,h,_=>by cases h;trivial
 |_::_,[],_,_,W=>W.elim
 |[],_::_,_,_,W=>W.elim
 |v::vs,s::l,r,h,⟨O,q⟩=>by
  unfold mR at h
  split at h
  ·rename_i e;cases e
  ·rename_i t x R e
   cases e
   split at h
   ·rename_i U o;cases h;exact⟨O,oA o q⟩
   ·cases h
  ·rename_i b R e
   cases e
   split at h
   ·rename_i U o;cases h;exact⟨O,oA o q⟩
   ·cases h
  ·rename_i b R e
   cases e
   split at h
   ·rename_i U o;cases h;obtain⟨g,g1,g2⟩:=O;exact⟨by rw[g1];exact g2,oA o q⟩
   ·cases h
  ·rename_i b R e
   cases e
   split at h
   ·rename_i U o;cases h;obtain⟨g,g1,g2⟩:=O;exact⟨by rw[g1];exact g2,oA o q⟩
   ·cases h
  ·rename_i R e
   cases e
   split at h
   ·rename_i U o;cases h;exact oA (vs:=vs) o q
   ·cases h
  ·rename_i b R e
   cases e
   split at h
   ·rename_i U o;cases h;exact⟨O,oA o q⟩
   ·cases h
  ·cases h
theorem KO{M:Nat->Prop}{v:Value}{l:List ap}{s:ap}(h:xL l=some s)(R:sp w M m v l):aX w M m v s:=by
 unfold xL at h
 split at h
 ·cases h;trivial
 ·cases h;exact R
 ·rename_i o q
  split at h
  ·rename_i r O
   cases h
   match l,o,q,R,O with
   |a::b::l,_,_,⟨vs,e,U⟩,O=>exact⟨vs,e,oA O U⟩
   |[],o,_,_,_=>exact absurd rfl o
   |[a],_,q,_,_=>exact absurd rfl (q a)
  ·cases h
def wx(P:Program)(st:af)(t:TypeId)(x:Operand):Option ap:=
 match x with
 |.const (.slice none 0 0)=>match ew P t with
  |some (_,u)=>some (.val (.ab u) [])
  |none=>none
 |x=>aW st x
def s8(P:Program)(st:af):List TypeId->List Operand->Option (List ap)
 |[],[]=>some []
 |t::o,x::xs=>match wx P st t x,s8 P st o xs with
  |some v,some vs=>some (v::vs)
  |_,_=>none
 |_,_=>none
theorem OV(h:ao cx m st T w){t:TypeId}{x:Operand}{s:ap}(o:wx cx.P st t x=some s):aX w (au cx m st.ids) m (Act.eval ⟨T,aj.D cx⟩ x) s:=by
 unfold wx at o
 split at o
 ·split at o
  ·rename_i e u O
   cases o
   exact(bC (t:=.ab u) rfl).2 ⟨none,0,[],rfl,Nat.le_refl _,by decide,fun _=>rfl,rfl,fun j v q=>by simp at q⟩
  ·cases o
 ·exact bj h o
theorem FY(h:ao cx m st T w):∀{O:List TypeId} {xs:List Operand} {q:List ap},s8 cx.P st O xs=some q->cJ w (au cx m st.ids) m (xs.map (Act.eval ⟨T,aj.D cx⟩)) q
 |[],[],_,o=>by cases o;trivial
 |[],_::_,_,o=>by cases o
 |_::_,[],_,o=>by cases o
 |t::O,x::xs,q,o=>by
  unfold s8 at o
  split at o
  ·rename_i v W R U
   cases o
   exact⟨OV h R,FY h U⟩
  ·cases o
def rj(st:af)(bs:List Nat):Bool:=bs.all fun b=>match look st.ae b with
 |some (.cells _ _)=>true
 |_=>false
theorem vi(h:ao cx m st T w):∀{bs:List Nat},rj st bs=true->cJ w (au cx m st.ids) m (bs.map m) (bs.map fun b=>ap.ptr b 0)
 |[],_=>trivial
 |b::bs,o=>by
  unfold rj at o
  rw[List.all_cons,Bool.and_eq_true]at o
  refine⟨?_,vi h o.2⟩
  have q:=o.1
  split at q
  ·rename_i c R
   obtain⟨g,O⟩:=xY h R
   exact⟨g,O,O⟩
  ·cases q
def pw(E:Env)(st:af)(aa:Oper)(n f:Nat)(ρ:List (Nat×Nat)):Option af:=
 match aa.op with
 |.call c=>match c.callee with
  |.value x=>match aW st x with
   |some (.clos o bs)=>match Nat.beq o f,rj st bs,s8 E.P st c.argTypes.toList c.args.toList with
    |true,true,some q=>jD st n ρ (q++bs.map fun b=>ap.ptr b 0)
    |_,_,_=>none
   |some (.ck o b)=>match Nat.beq o f,rj st [b],s8 E.P st c.argTypes.toList c.args.toList with
    |true,true,some q=>jD st n ρ (ap.ptr b 0::q)
    |_,_,_=>none
   |_=>none
  |_=>none
 |_=>none
def ki(st O:af)(aa:Oper)(n o:Nat)(ρ ρ':List (Nat×Nat))(aq:List ap):Option af:=
 match sY st O n o ρ ρ',xL aq with
 |some q,some s=>match aa.dst with
  |none=>some q
  |some d=>match Nat.blt d o with
   |true=>some (q.put d (s.cb ρ'))
   |false=>none
 |_,_=>none
def vR(st U:af)(aa:Oper)(n o:Nat)(ρ ρ':List (Nat×Nat))(aq:List ap)(q bs O:List Nat):Option af:=
 match sY st U n o ρ ρ',xL aq with
 |some R,some s=>match aa.dst with
  |none=>R.norm q bs O
  |some d=>match Nat.blt d o with
   |true=>(R.put d (s.cb ρ')).norm q bs O
   |false=>none
 |_,_=>none
theorem GI{n:Nat}{ρ:List (Nat×Nat)}{q:List ap}{O:af}(o:jD st n ρ q=some O):(ρ.map (·.1)).Nodup/\(ρ.map (·.2)).Nodup:=by
 unfold jD at o
 split at o
 ·rename_i R U W Y;exact⟨gT R,gT U⟩
 ·cases o
theorem O8:∀(l:List ap) (k:Nat),(mT k l).length=l.length
 |[],_=>rfl
 |_::l,k=>by simp[mT,O8 l]
theorem Af{n:Nat}{ρ:List (Nat×Nat)}{q:List ap}{O:af}(o:jD st n ρ q=some O):O.ab.length=q.length:=by
 unfold jD at o
 split at o
 ·cases o;simp[O8]
 ·cases o
theorem Cr(h:ao cx m st T w){n:Nat}{ρ:List (Nat×Nat)}(o:Frame w w' (sub cx m st w n ρ).X):Frame cx.w0 w' cx.X:=by
 refine⟨o.os.trans h.frame.os,o.tape.trans h.frame.tape,o.output.trans h.frame.output,Nat.le_trans h.frame.size o.size,fun b q O=>?_,fun d=>Nat.le_trans (h.frame.drawn d) (o.drawn d)⟩
 rw[<-h.frame.block b q O]
 refine o.block b (Nat.lt_of_lt_of_le q h.frame.size) ?_
 rintro⟨i0,_,_,U,W⟩
 rcases(h.lt U W).2 with R|R
 ·omega
 ·exact O R
theorem XL{c:Call}{aa:Oper}{f:Nat}{x:Operand}{u:Value}(q:aa.op=.call c)(o:c.callee=.value x)(O:Act.eval ⟨T,aj.D cx⟩ x=.func (.func f) #[u] #[])
  (R:∀args w,(callFunc f args).run cx.P w=.ok (.enter f args) w)(w:World):
  (execOp (Act.eval ⟨T,aj.D cx⟩) aa).run cx.P w=.ok (.enter f (u::c.args.toList.map (Act.eval ⟨T,aj.D cx⟩)).toArray) w:=by
 obtain⟨W,args,Y⟩:=c
 simp only at o
 subst o
 have U:#[u]++args.map (Act.eval ⟨T,aj.D cx⟩)++#[]=(u::args.toList.map (Act.eval ⟨T,aj.D cx⟩)).toArray:=by
  apply Array.ext'
  simp
 simp only[execOp,q,resolve,O,Deferred.ofValue,Sem.run_bind,Sem.run_pure,Result.andThen_ok,invoke]
 rw[U]
 simp[R]
theorem DQ(U:bE E cx){α β:Type}{F:b8 α β}{f:Nat}(lm:cq E.P E.G f F)(x:α)(y:β)(ln:F.rel x y){aa:Oper}{ρ ρ':List (Nat×Nat)}{n:Nat}(lo:F.n=n)
  (lp:eT ops st aa=some true)(o:pw E st aa n f ρ=some (F.S x))(R:ki st (F.bg x y) aa n E.n ρ ρ' (F.aq x y)=some st')(h:bU cx ops Q l st'):bU cx ops Q (aa::l) st:=by
 subst lo
 rintro T w ⟨m,q⟩
 refine wpList_step fun K le=>?_
 rw[ja ⟨m,q⟩ lp]
 simp only[if_true]
 have Y:=lm
 rw[<-U.P]at Y
 have lf:∀(W:List ap) (vs:List Value),jD st F.n ρ W=some (F.S x)->cJ w (au cx m st.ids) m vs W->(execOp (Act.eval ⟨T,aj.D cx⟩) aa).run cx.P w=.ok (.enter f vs.toArray) w->aa.wp cx.P ⟨T,aj.D cx⟩ w K Q:=by
  intro W vs o lg lq
  have lr:=G8 q o lg
  obtain⟨ls,lt⟩:=GI o
  have lu:=nh lg
  have lv:(F.S x).ab.length=W.length:=Af o
  have lw:=Y.calls (sub cx m st w F.n ρ) rfl rfl (fun w' O=>U.rA w' (Cr q O)) x y ln _ w (by rw[lv];exact lu) ⟨_,lr⟩
  unfold Oper.wp
  rw[lq]
  refine lw.mono ?_
  rintro e w' ⟨v,aA,lB,rfl,lx,ly⟩
  unfold ki at R
  split at R
  case h_2=>cases R
  rename_i lC s lh lz
  rw[<-U.n]at lh
  obtain⟨m2,li,lA⟩:=CN q ls lt lx lh
  show K (Act.put ⟨T,aj.D cx⟩ aa.dst v) w'
  split at R
  ·rename_i ai
   rw[ai]
   cases R
   exact le _ _ (h _ _ ⟨m2,li⟩)
  ·rename_i d ai
   split at R
   ·rename_i Z
    rw[ai]
    have Z:d<cx.n:=by rw[U.n];exact dg Z
    cases R
    exact le _ _ (h _ _ ⟨m2,li.put Z (lA v s (KO lz ly))⟩)
   ·cases R
 unfold pw at o
 split at o
 case h_2=>cases o
 rename_i c lj
 split at o
 case h_2=>cases o
 rename_i lk ll
 split at o
 ·rename_i la bQ lb
  split at o
  case h_2=>cases o
  rename_i W O lc has
  have O:=Nat.eq_of_beq_eq_true O
  subst O
  rw[<-U.P]at has
  have ld:Act.eval ⟨T,aj.D cx⟩ lk=.func (.func la) #[] (bQ.map m).toArray:=bj q lb
  exact lf _ _ o (mE (FY q has) (vi q lc)) (xH lj ll ld Y.enters w)
 ·rename_i la b lb
  split at o
  case h_2=>cases o
  rename_i W O lc has
  have O:=Nat.eq_of_beq_eq_true O
  subst O
  rw[<-U.P]at has
  have ld:Act.eval ⟨T,aj.D cx⟩ lk=.func (.func la) #[m b] #[]:=bj q lb
  exact lf _ (m b::c.args.toList.map (Act.eval ⟨T,aj.D cx⟩)) o ⟨(vi q lc).1,FY q has⟩ (XL lj ll ld Y.enters w)
 ·cases o
theorem wh(R:bE E cx){α β:Type}{F:b8 α β}{f:Nat}(U:cq E.P E.G f F)(x:α)(y:β)(W:F.rel x y){aa:Oper}{ρ ρ':List (Nat×Nat)}{n:Nat}(Y:F.n=n)(q bs O:List Nat)
  (Z:eT ops st aa=some true)(la:pw E st aa n f ρ=some (F.S x))(o:vR st (F.bg x y) aa n E.n ρ ρ' (F.aq x y) q bs O=some st')(h:bU cx ops Q l st'):bU cx ops Q (aa::l) st:=by
 have e:∃s,ki st (F.bg x y) aa n E.n ρ ρ' (F.aq x y)=some s/\s.norm q bs O=some st':=by
  unfold vR at o
  unfold ki
  split at o
  ·split at o
   ·exact⟨_,rfl,o⟩
   ·split at o
    ·exact⟨_,rfl,o⟩
    ·cases o
  ·cases o
 obtain⟨s,lb,lc⟩:=e
 exact DQ R U x y W Y Z la lb (h.norm lc)
def af.cb(st:af)(ρ:List (Nat×Nat)):Option af:=
 match nodupB (ρ.map (·.1)),nodupB (ρ.map (·.2)),ρ.all (fun p=>Nat.beq p.1 p.2||((look st.ae p.1).isNone&&Nat.blt p.2 eM)),nodupB (af.ids ⟨[],eH ρ st.ae ρ,eP st.rw ρ⟩)with
 |true,true,true,true=>some ⟨st.ab.map fun p=>(p.1,p.2.cb ρ),eH ρ st.ae ρ,eP st.rw ρ⟩
 |_,_,_,_=>none
theorem ao.cb(h:ao cx m st T w){ρ:List (Nat×Nat)}(la:st.cb ρ=some st'):∃aA,ao cx aA st' T w:=by
 unfold af.cb at la
 split at la
 case h_2=>cases la
 rename_i lc ld lk le
 cases la
 have lc:=gT lc
 have ld:=gT ld
 have le:=gT le
 obtain⟨aA,lr⟩:∃aA:Nat->Value,aA=fun j=>match inv ρ j with|some i=>m i|none=>undef:=⟨_,rfl⟩
 have R:∀i j,(i,j)∈ρ->aA j=m i:=by
  intro i j o
  rw[lr]
  simp only
  rw[qD ld o]
 have lf:∀{j:Nat},j∈af.ids ⟨st.ab.map fun p=>(p.1,p.2.cb ρ),eH ρ st.ae ρ,eP st.rw ρ⟩->∃i,(i,j)∈ρ/\i∈st.ids:=fun U=>uv U
 have lg:∀b,b<w.heap.size->au cx aA (af.ids ⟨st.ab.map fun p=>(p.1,p.2.cb ρ),eH ρ st.ae ρ,eP st.rw ρ⟩) b->au cx m st.ids b:=by
  rintro b _ (ls|⟨j,U,lb⟩)
  ·exact .inl ls
  ·obtain⟨i,o,O⟩:=lf U
   rw[R i j o]at lb
   exact .inr ⟨i,O,lb⟩
 have lh:∀b,b<w.heap.size->¬au cx m st.ids b->w.heap[b]? =w.heap[b]? :=fun _ _ _=>rfl
 have ll:∀v s,aX w (au cx m st.ids) m v s->aX w (au cx aA (af.ids ⟨st.ab.map fun p=>(p.1,p.2.cb ρ),eH ρ st.ae ρ,eP st.rw ρ⟩)) aA v (s.cb ρ):=
  fun v s lt=>xN R (fG lh lg lt)
 refine⟨aA,{size:=h.size,frame:=h.frame,outer:=h.outer,de:=?_,boxes:=?_,rows:=?_,apart:=?_,keys:=le,fixed:=?_,kept:=?_}⟩
 ·intro i aU O
  obtain⟨⟨j,s⟩,lu,lv⟩:=List.mem_map.1 O
  cases lv
  obtain⟨v,W,Y⟩:=h.de j s lu
  exact⟨v,W,ll v s Y⟩
 ·intro j c' U
  obtain⟨i,c,o,O,rfl⟩:=mK U
  obtain⟨g,W,Y,li⟩:=h.boxes i c O
  rw[R i j o]
  exact⟨g,j7.2 W,Y,jA lh lg (ig W) (fun _ _=>rfl) ll li⟩
 ·intro j c U
  obtain⟨i,o,O⟩:=mM U
  obtain⟨cells,W,Y,li⟩:=h.rows i c O
  exact⟨cells,by rw[R i j o];exact W,fun g Z=>Y g (by rw[R i j o]at Z;exact Z),dD (fun _ _=>cS lh lg c.t) li⟩
 ·intro lD lE lw lx ly g Z lm
  obtain⟨i1,ln,lz⟩:=lf lw
  obtain⟨i2,a2,lA⟩:=lf lx
  rw[R _ _ ln]at Z
  rw[R _ _ a2]at lm
  refine h.apart i1 i2 lz lA ?_ g Z lm
  rintro rfl
  exact ly (wM lc ln a2)
 ·intro b c lb lB lj
  obtain⟨i,lF,o,O,lC⟩:=mK lb
  have q:=List.all_eq_true.1 lk _ o
  simp only[Bool.or_eq_true,Bool.and_eq_true]at q
  rcases q with q|⟨q,_⟩
  ·have e:=Nat.eq_of_beq_eq_true q
   subst e
   rw[R _ _ o]
   exact h.fixed _ _ O (mB.symm.trans (lC▸lB)) lj
  ·have lo:=JX O
   cases lp:look st.ae i with
   |none=>rw[lp]at lo;cases lo
   |some x=>rw[lp]at q;cases q
 ·intro j c U lj lq
  obtain⟨i,o,O⟩:=mM U
  have q:=List.all_eq_true.1 lk _ o
  simp only[Bool.or_eq_true,Bool.and_eq_true]at q
  rcases q with q|⟨_,q⟩
  ·have e:=Nat.eq_of_beq_eq_true q
   subst e
   rw[R _ _ o]
   exact h.kept _ _ O lj lq
  ·exact absurd lq (Nat.not_le.2 (dg q))
theorem al.cb(h:al cx st T w){ρ:List (Nat×Nat)}(o:st.cb ρ=some st'):al cx st' T w:=let⟨_,q⟩:=h;q.cb o
theorem N.cb{e:Exit}(ρ:List (Nat×Nat))(o:st.cb ρ=some st')(h:N cx Q e st'):N cx Q e st:=fun T w q=>h T w (q.cb o)
theorem W.cb{c:Code}(ρ:List (Nat×Nat))(o:st.cb ρ=some st')(h:W cx Q c st'):W cx Q c st:=fun T w q=>h T w (q.cb o)
theorem bU.cb(ρ:List (Nat×Nat))(o:st.cb ρ=some st')(h:bU cx ops Q l st'):bU cx ops Q l st:=fun T w q=>h T w (q.cb o)
def pH(P:Program)(st:af):List ResultVar->Option (List ap)
 |[]=>some []
 |.tmp t::l=>match look st.ab t,pH P st l with
  |some s,some r=>some (s::r)
  |none,some r=>some (.any::r)
  |_,none=>none
 |.cell a ty'::l=>match iD P st [.cell a ty'],pH P st l with
  |some [u],some r=>some (.val u.t u.x::r)
  |_,_=>none
theorem yX(h:ao cx m st T w):∀{l:List ResultVar} {aq:List ap},pH cx.P st l=some aq->
  ∃vs,(l.mapM (iZ T)).run cx.P w=.ok vs w/\cJ w (au cx m st.ids) m vs aq
 |[],_,o=>by cases o;exact⟨[],by simp,trivial⟩
 |.tmp t::l,aq,o=>by
  simp only[pH]at o
  split at o
  ·rename_i s r Z R
   cases o
   obtain⟨vs,U,W⟩:=yX h R
   obtain⟨v,q,O⟩:=h.de t _ (be Z)
   refine⟨v::vs,?_,O,W⟩
   have lb:T.getD t undef=v:=by rw[Array.getD_eq_getD_getElem?,q];rfl
   have Y:(iZ T (.tmp t)).run cx.P w=.ok v w:=by show Sem.run cx.P (pure (T.getD t undef)) w=_;rw[lb,Sem.run_pure]
   rw[List.mapM_cons,Sem.run_bind,Y]
   simp only[Result.andThen_ok,Sem.run_bind,U,Sem.run_pure]
  ·rename_i r Z R
   cases o
   obtain⟨vs,U,W⟩:=yX h R
   refine⟨T.getD t undef::vs,?_,trivial,W⟩
   have Y:(iZ T (.tmp t)).run cx.P w=.ok (T.getD t undef) w:=rfl
   rw[List.mapM_cons,Sem.run_bind,Y]
   simp only[Result.andThen_ok,Sem.run_bind,U,Sem.run_pure]
  ·cases o
 |.cell a t::l,aq,o=>by
  simp only[pH]at o
  split at o
  ·rename_i u r lc R
   cases o
   obtain⟨vs,U,W⟩:=yX h R
   obtain⟨us,q,O⟩:=tA h lc
   match us,O with
   |[v],⟨Y,_⟩=>
    refine⟨v::vs,?_,Y,W⟩
    have ld:(iZ T (.cell a t)).run cx.P w=.ok v w:=by
     rw[List.mapM_cons,Sem.run_bind]at q
     cases la:(iZ T (.cell a t)).run cx.P w with
     |ok v' le=>
      rw[la]at q
      simp only[Result.andThen_ok,List.mapM_nil,Sem.run_bind,Sem.run_pure]at q
      cases q
      rfl
     |_=>rw[la]at q;cases q
    rw[List.mapM_cons,Sem.run_bind,ld]
    simp only[Result.andThen_ok,Sem.run_bind,U,Sem.run_pure]
   |[],O=>exact O.elim
   |_::_::_,⟨_,O⟩=>exact O.elim
  ·cases o
def uS(P:Program)(fn:Func)(cx:bJ)(o:af)(aq:List ap):di:=
 bodyPost P fn fun e w'=>∃v aA q,e=.returned v/\ao cx aA o q w'/\sp w' (au cx aA o.ids) aA v aq
theorem fN{P:Program}(W:cx.P=P){fn:Func}{aq:List ap}{o:af}{e:Exit}(bs Y:List Nat)(Z:e=.ret\/e=.normal)(la:pH P st fn.results.toList=some aq)(q:st.norm [] bs Y=some o)(lb:aj.D cx=[]:=by rfl):
  N cx (uS cx.P fn cx o aq) e st:=by
 subst W
 rintro T w ⟨m,U⟩
 obtain⟨vs,lc,ld⟩:=yX U la
 have le:=H1 lc
 have lf:=U.norm q
 have lg:∀i,i∈o.ids->i∈st.ids:=by
  unfold af.norm at q
  split at q
  ·rename_i ab ae ln lo lh li _
   cases q
   intro i O
   rcases List.mem_append.1 O with O|O
   ·obtain⟨p,R,rfl⟩:=List.mem_map.1 O;exact List.mem_append.2 (.inl (List.mem_map.2 ⟨p,rg lh p R,rfl⟩))
   ·obtain⟨p,R,rfl⟩:=List.mem_map.1 O;exact List.mem_append.2 (.inr (List.mem_map.2 ⟨p,rg li p R,rfl⟩))
  ·cases q
 have lj:cJ w (au cx m o.ids) m vs aq:=pi (fun _ _ _=>rfl) (fun b _ lk=>ne lg lk) ld
 have ll:sp w (au cx m o.ids) m (if h:vs.toArray.size=1 then vs.toArray[0]else .tuple vs.toArray) aq:=by
  match vs,aq,lj with
  |[],[],_=>trivial
  |[v],[u],⟨h,_⟩=>exact h
  |v1::v2::vs,lp::lq::us,h=>
   have lm:¬(v1::v2::vs).toArray.size=1:=by simp
   rw[dif_neg lm]
   exact⟨_,rfl,h⟩
  |[],_::_,h=>exact h.elim
  |_::_,[],h=>exact h.elim
  |[_],_::_::_,⟨_,h⟩=>exact h.elim
  |_::_::_,[_],⟨_,h⟩=>exact h.elim
 rcases Z with rfl|rfl<;>exact⟨lb,_,le,_,m,_,rfl,lf,ll⟩
theorem pb{P:Program}{G:World->Prop}{f:FuncId}{fn:Func}{c:Code}{α β:Type}{F:b8 α β}(o:P.funcs[f]? =some fn)(O:(fn.name== "runtime.NumGoroutine")=false)(q:fn.body=some c)(R:fn.ntmps=F.n)
  (U:∀cx:bJ,cx.P=P->cx.n=F.n->(∀w,Frame cx.w0 w cx.X->G w)->∀x y,F.rel x y->W cx (uS cx.P fn cx (F.bg x y) (F.aq x y)) c (F.S x)):cq P G f F where
 enters:=enters_of o O q
 calls:=fun cx Y Z la x y lb vs w _ h=>by
  subst Y
  refine calls_of_wp o q ?_
  rw[R]
  exact U cx rfl Z la x y lb _ _ h
theorem aV.weaken{P:Program}{G o:World->Prop}{f:Nat}{F:jk}(q:∀w,o w->G w)(h:aV P G f F):aV P o f F:=
 ⟨h.enters,h.shape,fun w M vs O aq R=>h.calls w M vs O aq (q w R)⟩
theorem cq.weaken{α β:Type}{P:Program}{G o:World->Prop}{f:Nat}{F:b8 α β}(q:∀w,o w->G w)(h:cq P G f F):cq P o f F:=
 ⟨h.enters,fun cx O R U=>h.calls cx O R fun w W=>q w (U w W)⟩
end Go.Ev
namespace Go.Ev
open Go Go.RowKit
variable [cm]
section
variable {P:Program} {ops:Array Oper} {md:Region.Mode} {C:World->Prop}
def ue(P:Program)(md:Region.Mode)(ops:Array Oper)(C:World->Prop)(n:Nat)(L:Array Bool->Act->Prop):Nat->Array Bool->Act->Prop
 |0,done,a=>L done a
 |f+1,done,a=>Region.ready md ops done≠[]/\∀i,i∈Region.ready md ops done->i<n/\qOp P ops C i (ue P md ops C n L f (done.setIfInBounds i true)) a
theorem ZW{n g:Nat}{L:Array Bool->Act->Prop}{Q':Exit->Act->World->Prop}(q:∀done a w,C w->L done a->wpAny P md ops Q' g done a w):
  ∀(f:Nat) (done:Array Bool) (a:Act) (w:World),C w->ue P md ops C n L f done a->wpAny P md ops Q' (f+g) done a w:=by
 intro f
 induction f with
 |zero=>intro done a w o h;rw[Nat.zero_add];exact q _ _ _ o h
 |succ f O=>
  intro done a w o h
  rw[Nat.succ_add]
  exact⟨fun R=>absurd R h.1,fun i U=>wpOp_of_qOp o (fun W w' Y h'=>O _ W w' Y h') (h.2 i U).2⟩
theorem abZ{n i:Nat}{aa:Oper}{v:Value}{L:Array Bool->Act->Prop}(Z:ops[i]? =some aa)(lc:∀(j:Nat) (aa:Oper) cs b,ops[j]? =some aa->aa.op≠.select cs b)
  (ld:Region.sinkB md ops n=true)(le:Region.chainB md ops n=true)(lf:n<ops.size)(lg:i<n)(lm:∀done a,L done a->∀j,j∈Region.ready md ops done->n<=j):
  ∀(f:Nat) (done:Array Bool) (a:Act),HeadInv md ops n done->
   (∀j O,ops[j]? =some O->j≠i->done.getD j true=false->(∀e∈O.after,Region.binds md e=true->e.on≠i)->aa.apart ops O=true)->
   i∈Region.ready md ops done->YieldsIn P ops C aa v a->ue P md ops C n L f (done.setIfInBounds i true) (a.put aa.dst v)->ue P md ops C n L (f+1) done a:=by
 intro f
 induction f with
 |zero=>
  intro done a inv _ o W R
  have Y:=(mem_ready.1 o).1
  refine⟨fun la=>(by rw[la]at o;cases o),fun j q=>?_⟩
  have U:j<n:=Nat.lt_of_not_le fun h=>tail_waits ld le lf inv _ i rfl lg Y j h q
  refine⟨U,?_⟩
  by_cases e:j=i
  ·subst e;exact W.qOp Z R
  ·exact absurd (lm _ _ R j (ready_mono q e)) (Nat.not_le_of_lt U)
 |succ f ln=>
  intro done a inv lh o W R
  have Y:=(mem_ready.1 o).1
  refine⟨fun la=>(by rw[la]at o;cases o),fun j q=>?_⟩
  have U:j<n:=Nat.lt_of_not_le fun h=>tail_waits ld le lf inv _ i rfl lg Y j h q
  refine⟨U,?_⟩
  by_cases e:j=i
  ·subst e;exact W.qOp Z R
  obtain⟨li,O,lb,lo⟩:=mem_ready.1 q
  have lp:=lh j O lb e li fun d ai lq aJ=>by
   have lj:=lo d ai lq
   rw[aJ,getD_both Y]at lj
   cases lj
  refine qOp_mono (fun lr lk=>ln (done.setIfInBounds j true) lr (inv.set q U) (fun k ok ls lt lu lv=>lh k ok ls lt ?_ lv) (ready_mono o (Ne.symm e)) lk.1 ?_)
   (qOp_put lb lp (fun cs b=>lc i aa cs b Z) (fun cs b=>lc j O cs b lb) W (R.2 j (ready_mono q e)).2)
  ·by_cases ll:j=k
   ·subst ll;exact li
   ·rwa [getD_set_ne true ll]at lu
  ·rw[Array.setIfInBounds_comm _ _ e];exact lk.2
theorem aah{n g:Nat}{O:Act->Prop}(la:Region.noSelect ops=true)(lb:Region.sinkB md ops n=true)(lc:Region.chainB md ops n=true)(ld:n<ops.size):
  ∀(l:List Oper) (k:Nat) (done:Array Bool) (a:Act),(∀j,j<l.length->l[j]? =ops[k+j]?)->k+l.length=n->HeadInv md ops n done->Region.lexHead md ops g l.length k done=true->
   wpQuiet P ops C O l a->ue P md ops C n (fun d U=>Region.seqB md ops g n d=true/\O U) l.length done a:=by
 intro l
 induction l with
 |nil=>
  intro k done a _ o _ R h
  obtain rfl:k=n:=o
  exact⟨R,h⟩
 |cons aa l le=>
  intro k done a W o inv R h
  have q:ops[k]? =some aa:=(W 0 (Nat.succ_pos _)).symm
  obtain⟨lf,lg⟩:=Bool.and_eq_true_iff.1 R
  obtain⟨lh,li⟩:=Bool.and_eq_true_iff.1 lf
  have Y:k<n:=by rw[<-o];simp
  have Z:k∈Region.ready md ops done:=by simpa using lh
  obtain⟨v,lj,lk⟩:=yieldsIn_of_qOp (K:=wpQuiet P ops C O l) q (by unfold qOp;rw[q];exact h)
  refine abZ q (Region.noSelect_spec la) lb lc ld Y (fun d U ll=>seqB_ready ll.1) l.length done a inv (Region.free_spec q li) Z lj ?_
  refine le (k+1) _ _ (fun j lm=>?_) (by rw[<-o];simp only[List.length_cons];omega) (inv.set Z Y) lg lk
  have:=W (j+1) (Nat.succ_lt_succ lm)
  rw[Nat.add_assoc,Nat.add_comm 1 j]
  exact this
theorem QD{id:Nat}{Q:Exit->Act->World->Prop}{a:Act}{w:World}{l:List Oper}(n:Nat)(Z:P.follows .mixedOrders=true)(O:Region.lexTailB .any l.toArray n=true)(la:C {w with drawn:=w.drawn+1})
  (h:wpQuiet P l.toArray C (fun q=>∀w',C w'->wpList P l.toArray Q (l.drop n) q w') (l.take n) a):(Code.region id l.toArray true).wp P Q a w:=by
 simp only[Region.lexTailB,Bool.and_eq_true,decide_eq_true_eq]at O
 obtain⟨⟨⟨⟨lb,R⟩,lc⟩,ld⟩,le⟩:=O
 have lf:n<l.length:=by simpa using R
 have o:(l.take n).length=n:=List.length_take_of_le (Nat.le_of_lt lf)
 have lg:HeadInv .any l.toArray n (Array.replicate l.toArray.size false):=
  ⟨by simp,fun j lj _ U=>(by rw[getD_replicate_false]at U;cases U),fun t _ o=>getD_in (by simpa using o) (getD_replicate_false _ _)⟩
 have lh:=aah (C:=C) (md:=.any) (g:=l.toArray.size-n) lb lc ld R (l.take n) 0 _ a
  (fun j W=>by rw[o]at W;simp[W]) (by rw[o,Nat.zero_add]) lg (by rw[o];exact le) h
 have ai:(l.drop n).length=l.toArray.size-n:=by simp
 have al:=ZW (Q':=Q) (g:=l.toArray.size-n) (fun done q w' li Y=>by
  have:=wpAny_of_seq (md:=.any) (Q':=Q) (l.drop n) n done q w' (fun j=>by simp[List.getElem?_drop]) (by rw[ai];exact Y.1) (Y.2 w' li)
  rwa [ai]at this) _ _ _ _ la lh
 rw[o,show n+(l.toArray.size-n)=l.toArray.size by omega]at al
 exact wp_region_any Z al
end
variable {cx:bJ} {st st':af} {Q:di} {E:Env}
variable [aj cx]
variable {ops:Array Oper} {l:List Oper}
theorem XS{K:World->Act->Prop}(h:qh cx K st):o2 cx ops K [] st:=fun T w o=>h T w o
theorem Qx{α:Type}{o:World->Act->Prop}(F:α->Prop)(S:α->af)(n:Nat)(O:∀a,F a->o2 cx ops o (l.drop n) (S a))
  (R:∀K,(∀a,F a->qh cx K (S a))->o2 cx ops K (l.take n) st):o2 cx ops o l st:=by
 intro T w q
 have:=oe (P:=cx.P) (ops:=ops) (l1:=l.take n) (l2:=l.drop n)
  (R (fun w=>wpQuiet cx.P ops (Ext w) (o w) (l.drop n)) (fun a U T w q=>O a U T w q) T w q)
 rwa [List.take_append_drop]at this
end Go.Ev
namespace Go.Ev
open Go Go.RowKit
variable [cm]
variable {cx:bJ} {m:Nat->Value} {st st':af} {T:Array Value} {w w':World} {E:Env} {Q:di} {ops:Array Oper} {l:List Oper}
variable [aj cx]
theorem Ld:∀(L:List MapEntry) (j:Nat) (e:MapEntry),(L.map (·.born)).Nodup->L[j]? =some e->L.filter (fun x=>!(x.born==e.born))=L.eraseIdx j
 |[],j,e,_,h=>by simp at h
 |x::L,0,e,o,h=>by
  simp at h
  subst h
  rw[List.map_cons,List.nodup_cons]at o
  rw[List.filter_cons,beq_self_eq_true]
  simp only[Bool.not_true,Bool.false_eq_true,if_false,List.eraseIdx_zero,List.tail_cons]
  refine List.filter_eq_self.2 fun y O=>?_
  have:¬y.born=x.born:=fun q=>o.1 (List.mem_map.2 ⟨y,O,q⟩)
  simp[this]
 |x::L,j+1,e,o,h=>by
  rw[List.map_cons,List.nodup_cons]at o
  have h':L[j]? =some e:=by simpa using h
  have R:¬x.born=e.born:=fun q=>o.1 (List.mem_map.2 ⟨e,List.mem_of_getElem? h',q.symm⟩)
  rw[List.filter_cons,if_pos (by simp[R]),Ld L j e o.2 h',List.eraseIdx_cons_succ]
theorem Ii{α β:Type}{o:Value->α->Prop}{q:Value->β->Prop}:∀{es:List MapEntry} {ps:List (α×β)} (j:Nat),eC o q es ps->eC o q (es.eraseIdx j) (ps.eraseIdx j)
 |[],[],_,_=>trivial
 |[],_::_,_,h=>h.elim
 |_::_,[],_,h=>h.elim
 |_::_,_::_,0,⟨_,_,h⟩=>h
 |_::_,_::_,j+1,⟨O,R,U⟩=>⟨O,R,Ii j U⟩
theorem NF{α β:Type}{o:Value->α->Prop}{q:Value->β->Prop}:∀{es:List MapEntry} {ps:List (α×β)} {j:Nat} {e:MapEntry},eC o q es ps->es[j]? =some e->∃p,ps[j]? =some p/\o e.key p.1/\q e.val p.2
 |[],_,_,_,_,h=>by simp at h
 |_::_,[],_,_,h,_=>h.elim
 |e::_,p::_,0,O,⟨R,U,_⟩,h=>by simp at h;subst h;exact⟨p,rfl,R,U⟩
 |_::_,_::_,j+1,O,⟨_,_,W⟩,h=>by
  obtain⟨p,a,b,c⟩:=NF W (j:=j) (by simpa using h)
  exact⟨p,by simpa using a,b,c⟩
theorem aaG{P:Program}(ty:TypeId){r R o:Nat}{seen:Array Nat}{es:Array MapEntry}(Y:w.heap[r]? =some (.mapIter (some R) o seen o))(ld:w.heap[R]? =some (.map es o))(Z:∀x∈es.toList,x.born<o)
  (U:es.toList.filter (fun e=>!seen.contains e.born)≠[]):
  ∃(j:Nat) (e:MapEntry) (q:World),(es.toList.filter (fun e=>!seen.contains e.born))[j]? =some e/\(q=w\/q=w.drew)/\
   (Instr.next (.pointer (some ⟨r,0,none⟩)) false ty).run P w=.ok (.tuple #[.bool true,e.key,e.val]) {q with heap:=q.heap.setIfInBounds r (.mapIter (some R) o (seen.push e.born) o)}:=by
 simp only[Instr.next,getObj,Sem.run_bind,Sem.run,Y,ld,Result.andThen,next_test_false seen es o o Z (Nat.le_refl _),Bool.false_eq_true,if_false]
 have W:∀x∈(Array.filter (fun e=>!seen.contains e.born) es).toList,x.born<o:=fun x O=>Z x (by simp at O⊢;exact O.1)
 rw[<-Array.toList_filter]at U⊢
 generalize Array.filter (fun e=>!seen.contains e.born) es=L at W U⊢
 have le:L.filter (fun x=>decide (x.born<o))=L:=Array.filter_eq_self.2 (fun x O=>by simpa using W x (by simpa using O))
 have lf:L.filter (fun x=>decide (x.born≥o))=#[]:=by
  rw[Array.filter_eq_empty_iff]
  intro x O
  have:=W x (by simpa using O)
  simp
  omega
 simp only[le,lf,Array.append_empty]
 have lg:L.size≠0:=fun h=>U (by rw[Array.eq_empty_of_size_eq_zero h])
 have lh:L.isEmpty=false:=by simp[Array.isEmpty,lg]
 simp only[lh,Bool.false_eq_true,if_false,Array.empty_append,Array.size_map]
 have li:∃(j:Nat) (q:World),j<L.size/\(q=w\/q=w.drew)/\(choose (Question.mapNext L.size)).run P w=.ok j q:=by
  by_cases la:L.size<=1
  ·exact⟨0,w,by omega,.inl rfl,by simp[choose,Sem.run,Question.forced,la]⟩
  ·exact⟨_,w.drew,Nat.mod_lt _ (by omega),.inr rfl,by
    simp only[choose,Sem.run,Question.forced,decide_eq_true_eq,la,if_false,Question.cut]
    rfl⟩
 obtain⟨j,q,lb,lc,lj⟩:=li
 refine⟨j,L[j],q,by simp[lb],lc,?_⟩
 have lk:q.heap[r]? =some (.mapIter (some R) o seen o):=by rcases lc with rfl|rfl<;>exact Y
 simp only[lj,Array.getElem?_map,Array.getElem?_eq_getElem lb,Option.map_some,Sem.run_bind,setObj,Sem.run,Result.andThen,lk]
 rfl
theorem WC{lh:Nat}(lp:cx.n=lh){aa:Oper}{l:List Oper}{x:Operand}{d b:Nat}{k v:ah}{left last:List (k.el×v.el)}(lq:aa.op=.next x false)(ai:aa.dst=some d)(lr:Nat.blt d lh=true)(ls:aa.guard=none)
  (lt:aW st x=some (.iter b))(lu:look st.ae b=some (.cM k v left last))(Z:left≠[])
  (h:∀j p,left[j]? =some p->bU cx ops Q l ((st.dr b (.cM k v (left.eraseIdx j) [p])).put d (.dW [⟨.bool,true⟩,⟨k,p.1⟩,⟨v,p.2⟩]))):bU cx ops Q (aa::l) st:=by
 rintro T w ⟨m,W⟩
 have la:=be lu
 obtain⟨g,R,_,lv⟩:=W.box la
 have R:m b=.pointer (some ⟨g,0,none⟩):=R
 have lw:Act.eval ⟨T,aj.D cx⟩ x=.pointer (some ⟨g,0,none⟩):=by have:Act.eval ⟨T,aj.D cx⟩ x=m b:=bj W lt;rw[this,R]
 rcases lv with ⟨_,lb,_⟩|⟨Y,es,lc,seen,lb,ld,li,lj,lk,le,_⟩
 ·exact absurd lb Z
 have lx:es.toList.filter (fun e=>!seen.contains e.born)≠[]:=fun lf=>Z (List.eq_nil_of_length_eq_zero (by rw[<-uW le,lf];rfl))
 obtain⟨j,e,q,lg,a2,a3⟩:=aaG (P:=cx.P) aa.type lb ld lj lx
 obtain⟨p,ly,ll,lm⟩:=NF le lg
 have lz:=gB lb
 have o:Same w q/\q.heap=w.heap:=by
  rcases a2 with rfl|rfl
  ·exact⟨⟨rfl,rfl,rfl,Nat.le_refl _,fun _=>Nat.le_refl _⟩,rfl⟩
  ·exact⟨⟨rfl,rfl,rfl,Nat.le_refl _,fun _=>Nat.le_succ _⟩,rfl⟩
 have ln:Touch m w b {q with heap:=q.heap.setIfInBounds g (.mapIter (some Y) lc (seen.push e.born) lc)}:=
  ⟨⟨o.1.os,o.1.tape,o.1.output,by rw[Array.size_setIfInBounds];exact o.1.size,o.1.drawn⟩,fun k _ Z=>by
   show(q.heap.setIfInBounds g _)[k]? =_
   rw[Array.getElem?_setIfInBounds_ne,o.2]
   intro e
   exact Z (by rw[R,e];rfl)⟩
 have lo:b∈st.ids:=List.mem_append.2 (.inl (List.mem_map.2 ⟨_,la,rfl⟩))
 obtain⟨U,O⟩:=ao.ia (cx:=cx) lo ln (ids:=(st.dr b (.cM k v (left.eraseIdx j) [p])).ids) (k7 la W.keys _).1
 have lA:Y≠g:=fun e=>li (.inr ⟨b,lo,by rw[R,e];rfl⟩)
 have lB:=W.dr la ln (g:=g) (c:=.cM k v (left.eraseIdx j) [p]) R (by
  refine .inr ⟨Y,es,lc,seen.push e.born,?_,?_,fun lf=>li (O Y (gB ld) lf),lj,lk,?_,.inr ⟨e,p,rfl,?_,by simp,?_,?_⟩⟩
  ·show(q.heap.setIfInBounds g _)[g]? =_
   rw[Array.getElem?_setIfInBounds_self_of_lt (by rw[o.2];exact lz)]
  ·show(q.heap.setIfInBounds g _)[Y]? =_
   rw[Array.getElem?_setIfInBounds_ne (Ne.symm lA),o.2]
   exact ld
  ·have lC:es.toList.filter (fun x=>!(seen.push e.born).contains x.born)=(es.toList.filter (fun x=>!seen.contains x.born)).eraseIdx j:=by
    have lD:((es.toList.filter (fun x=>!seen.contains x.born)).map (·.born)).Nodup:=lk.sublist (List.Sublist.map _ List.filter_sublist)
    rw[<-Ld _ j e lD lg,List.filter_filter]
    congr 1
    funext x
    rw[Array.contains_push,Bool.not_or,Bool.and_comm]
   rw[lC]
   exact io (fun _ _ h=>dC U O h) (fun _ _ h=>dC U O h) (Ii j le)
  ·exact(List.mem_filter.1 (List.mem_of_getElem? lg)).1
  ·exact dC U O ll
  ·exact dC U O lm)
 have lE:=lB.put (d:=d) (by rw[lp];exact dg lr) (v:=.tuple #[.bool true,e.key,e.val]) (s:=.dW [⟨.bool,true⟩,⟨k,p.1⟩,⟨v,p.2⟩])
  ⟨[.bool true,e.key,e.val],rfl,dU.2 rfl,dC U O ll,dC U O lm,trivial⟩
 have lF:=h j p ly _ _ ⟨m,lE⟩
 refine wpList_step fun K lG=>?_
 have lH:eT ops st aa=some true:=by unfold eT;rw[ls]
 rw[ja ⟨m,W⟩ lH]
 simp only[if_true]
 refine gY (cF (s:=Instr.next (.pointer (some ⟨g,0,none⟩)) false aa.type) (by simp only[execOp,lq,lw]) a3) ?_
 refine lG _ _ ?_
 rw[ai]
 exact lF
end Go.Ev
namespace Go.Ev
open Go Go.RowKit
variable [cm]
inductive jt:List Prop->Prop
 |n:jt []
 |c {p:Prop} {l:List Prop} (h:p) (t:jt l):jt (p::l)
theorem jt.all{l:List Prop}(h:jt l):bW l:=by
 induction h with
 |n=>trivial
 |c h _ o=>exact⟨h,o⟩
def dn{α:Type}(l:List (Nat×α)):List Nat:=l.map (·.1)
def tt(r:Option (af×List ak×List Prop)):af:=match r with
 |some (s,_)=>s
 |none=>⟨[],[],[]⟩
theorem zb{r:Option (af×List ak×List Prop)}{ob:List Prop}(h:r.map Prod.snd=some ([],ob)):r=some (tt r,[],ob):=by
 match r,h with
 |some (s,aa,p),h=>cases h;rfl
def za(r:Option af):af:=r.getD ⟨[],[],[]⟩
theorem C0{r:Option af}(h:r.isSome=true):r=some (za r):=by
 match r,h with
 |some s,_=>rfl
def gU(st:af)(d:Nat)(b:Bool):af:={st with ab:=st.ab.map fun p=>bif Nat.beq p.1 d then(p.1,.val .bool b)else p}
variable {cx:bJ} {st st':af} {Q:di} {E:Env} {ops:Array Oper} {l:List Oper} {K:World->Act->Prop}
variable [aj cx]
theorem bK(q:bE E cx)(o bs aq:List Nat){orc:List ak}{ob:List Prop}(O:(mA E ops l st orc o bs aq).map Prod.snd=some ([],ob))(R:jt ob)(h:N cx Q .normal (tt (mA E ops l st orc o bs aq))):bU cx ops Q l st:=
 H8 q o bs aq (zb O) R.all h
theorem dh(o:bE E cx){orc:List ak}{ob:List Prop}(q:mA E ops l st orc (dn st'.ab) (dn st'.ae) (dn st'.rw)=some (st',[],ob))(O:jt ob)(h:N cx Q .normal st'):bU cx ops Q l st:=
 H8 o _ _ _ q O.all h
theorem jK(q:bE E cx)(n:Nat)(o bs aq:List Nat){orc:List ak}{ob:List Prop}(O:(mA E ops (l.take n) st orc o bs aq).map Prod.snd=some ([],ob))(R:jt ob)(h:bU cx ops Q (l.drop n) (tt (mA E ops (l.take n) st orc o bs aq))):bU cx ops Q l st:=
 Yh q n o bs aq (zb O) R.all h
theorem Nr(q:bE E cx)(o bs aq:List Nat){orc:List ak}{ob:List Prop}(O:(sH E ops l st orc o bs aq).map Prod.snd=some ([],ob))(R:jt ob)(h:N cx Q .normal (tt (sH E ops l st orc o bs aq))):F2 cx ops Q l st:=
 ZR q o bs aq (zb O) R.all h
theorem IV(d:Nat){b:Bool}(o:gU st d b=st)(q:b=true->bU cx ops Q l (gU st d true))(O:b=false->bU cx ops Q l (gU st d false)):bU cx ops Q l st:=by
 rw[<-o]
 exact SO (gU st d) q O
theorem qA(O:bE E cx){α β:Type}{F:b8 α β}{f:Nat}(R:cq E.P E.G f F)(x:α)(y:β)(U:F.rel x y){aa:Oper}{ρ ρ':List (Nat×Nat)}{n:Nat}(W:F.n=n)(o bs q:List Nat)
  (Y:eT ops st aa=some true)(Z:pw E st aa n f ρ=some (F.S x))(la:(vR st (F.bg x y) aa n E.n ρ ρ' (F.aq x y) o bs q).isSome=true)(h:bU cx ops Q l (za (vR st (F.bg x y) aa n E.n ρ ρ' (F.aq x y) o bs q))):bU cx ops Q (aa::l) st:=
 wh O R x y U W o bs q Y Z (C0 la) h
theorem kF{e:Exit}(o:st.norm (dn st'.ab) (dn st'.ae) (dn st'.rw)=some st')(h:N cx Q e st'):N cx Q e st:=h.norm o
theorem Ge{e:Exit}(o bs aq:List Nat)(q:(st.norm o bs aq).isSome=true)(h:N cx Q e (za (st.norm o bs aq))):N cx Q e st:=h.norm (C0 q)
theorem Nc{e:Exit}(o bs aq:List Nat)(ρ:List (Nat×Nat))(q:((st.norm o bs aq).bind (·.cb ρ))=some st')(h:N cx Q e st'):N cx Q e st:=by
 obtain⟨s,O,R⟩:=Option.bind_eq_some_iff.1 q
 exact(N.cb ρ R h).norm O
theorem gW{e:Exit}(o bs aq:List Nat)(ρ:List (Nat×Nat))(q:((st.norm o bs aq).bind (·.cb ρ)).isSome=true)(h:N cx Q e (za ((st.norm o bs aq).bind (·.cb ρ)))):N cx Q e st:=Nc o bs aq ρ (C0 q) h
end Go.Ev
namespace Go.Ev
open Go Go.RowKit
variable [cm]
variable {cx:bJ} {m:Nat->Value} {st st':af} {T:Array Value} {w w':World} {E:Env} {Q:di} {ops:Array Oper} {l:List Oper}
variable [aj cx]
structure xd(P:Program)(G:World->Prop)(f e:Nat)(t:ah)(rel:List t.el->List t.el->Prop):Prop where
 enters:∀args w,(callFunc f args).run P w=.ok (.enter f args) w
 calls:∀(w:World) (M:Nat->Prop) (v:Value) (xs o:List t.el) (cells:List Value),G w->rel xs o->w.ownsRow 0 e t.cells v xs.length cells->bT (aL w M t) cells xs->
  Calls P f #[v] w fun x w'=>∃u q,x=.returned u/\Same w w'/\(∀b,b<w.heap.size->aY v≠some b->w'.heap[b]? =w.heap[b]?)/\w'.ownsRow 0 e t.cells v o.length q/\bT (aL w M t) q o
def Hz(st:af)(aa:Oper)(f:Nat):Option Nat:=
 match aa.op with
 |.call c=>match c.callee,c.args.toList with
  |.value x,[a]=>match aW st x,aW st a with
   |some (.clos o []),some (.row r)=>bif Nat.beq o f then some r else none
   |_,_=>none
  |_,_=>none
 |_=>none
def Nv(P:Program)(n:Nat)(st:af)(aa:Oper):Option (Nat×ak):=
 match aa.dst,aa.op with
 |some d,.binOp .eql t x (.const (.slice none 0 0)) _=>match aW st x,P.underlying t,Nat.blt d n with
  |some (.val (.ab u) xs),some (.slice _),true=>some (d,⟨.ab u,xs⟩)
  |_,_,_=>none
 |_,_=>none
theorem GS(O:bE E cx){aa:Oper}{d:Nat}{u:ah}{xs:List u.el}(W:eT ops st aa=some true)(aJ:Nv E.P E.n st aa=some (d,⟨.ab u,xs⟩))
  (h:∀b:Bool,(b=true->xs=[])->bU cx ops Q l (st.put d (.val .bool b))):bU cx ops Q (aa::l) st:=by
 rintro T w ⟨m,o⟩
 refine wpList_step fun K Y=>?_
 rw[ja ⟨m,o⟩ W]
 simp only[if_true]
 unfold Nv at aJ
 split at aJ
 case h_2=>cases aJ
 rename_i d' t x t2 ai Z
 split at aJ
 case h_2=>cases aJ
 rename_i lh li e la R q
 cases aJ
 have lb:=(bC (t:=.ab u) rfl).1 (bj o la)
 obtain⟨a,cap,cells,U,lj,lk,lc,_⟩:=lb
 simp only[List.cons.injEq,and_true]at U
 rw[<-O.P]at R
 have ld:(execOp (Act.eval ⟨T,aj.D cx⟩) aa).run cx.P w=.ok (.value (.bool a.isNone)) w:=by
  refine cF (s:=do eqGuard .eql t x (.const (.slice none 0 0)) (Act.eval ⟨T,aj.D cx⟩ x) (.slice none 0 0);binOp .eql t (Act.eval ⟨T,aj.D cx⟩ x) (.slice none 0 0)) (by simp only[execOp,Z];rfl) ?_
  rw[U,Sem.run_bind]
  have le:(eqGuard .eql t x (.const (.slice none 0 0)) (.slice a xs.length cap) (.slice none 0 0)).run cx.P w=.ok () w:=rfl
  rw[le]
  exact Lib.run_eql_slice_nil w t e a _ cap 0 0 R
 refine gY ld ?_
 rw[ai]
 have q:d<cx.n:=by rw[O.n];exact dg q
 refine Y _ _ (h a.isNone (fun lf=>?_) _ _ ⟨m,o.put q (s:=.val .bool a.isNone) (dU.2 rfl)⟩)
 have lg:a=none:=by simpa using lf
 have:=lc lg
 exact List.length_eq_zero_iff.1 (by omega)
end Go.Ev
namespace Go.Ev
open Go Go.RowKit
variable [cm]
variable {cx:bJ} {m:Nat->Value} {st st':af} {T:Array Value} {w w':World} {E:Env} {Q:di} {ops:Array Oper} {l:List Oper}
variable [aj cx]
def xQ(n:Nat)(st:af)(aa:Oper):Option (Nat×Nat):=
 match aa.op,aa.dst,aa.guard with
 |.next x false,some d,none=>match aW st x,Nat.blt d n with
  |some (.iter b),true=>some (d,b)
  |_,_=>none
 |_,_,_=>none
theorem NX{n:Nat}{aa:Oper}{d b:Nat}(h:xQ n st aa=some (d,b)):∃x,aa.op=.next x false/\aa.dst=some d/\aa.guard=none/\aW st x=some (.iter b)/\Nat.blt d n=true:=by
 unfold xQ at h
 split at h
 case h_2=>cases h
 rename_i x d' o ai q
 split at h
 case h_2=>cases h
 rename_i U O R
 cases h
 exact⟨x,o,ai,q,O,R⟩
theorem wZ(q:bE E cx){aa:Oper}{d b:Nat}{k v:ah}{left last:List (k.el×v.el)}(aJ:xQ E.n st aa=some (d,b))(O:look st.ae b=some (.cM k v left last))(R:left=[])
  (U:(st.put d (.dW [⟨.bool,false⟩])).norm (dn st'.ab) (dn st'.ae) (dn st'.rw)=some st')(h:bU cx ops Q l st'):bU cx ops Q (aa::l) st:=by
 obtain⟨x,W,ai,Y,Z,la⟩:=NX aJ
 rintro T w ⟨m,o⟩
 obtain⟨u,w',aA,lb,lc,ld⟩:=LA (T:=T) o W Z O R (orc:=[]) (ob:=[])
 refine wpList_step fun K le=>?_
 have lf:eT ops st aa=some true:=by unfold eT;rw[Y]
 rw[ja ⟨m,o⟩ lf]
 simp only[if_true]
 refine gY lb ?_
 refine le _ _ ?_
 rw[ai]
 exact h _ _ ⟨aA,(lc.put (by rw[q.n];exact dg la) ld).norm U⟩
theorem zO(O:bE E cx){aa:Oper}{d b:Nat}{k v:ah}{left last:List (k.el×v.el)}{p:k.el×v.el}(aJ:xQ E.n st aa=some (d,b))(R:look st.ae b=some (.cM k v left last))(q:left=[p])
  (U:((st.dr b (.cM k v [] [p])).put d (.dW [⟨.bool,true⟩,⟨k,p.1⟩,⟨v,p.2⟩])).norm (dn st'.ab) (dn st'.ae) (dn st'.rw)=some st')(h:bU cx ops Q l st'):bU cx ops Q (aa::l) st:=by
 obtain⟨x,W,ai,Y,Z,la⟩:=NX aJ
 refine WC O.n W ai la Y Z R (by rw[q];simp) fun j lc o=>?_
 rw[q]at o⊢
 match j,o with
 |0,o=>
  simp at o
  subst o
  rintro T w ⟨m,lb⟩
  exact h T w ⟨m,lb.norm U⟩
end Go.Ev
namespace Go.Ev
open Go Go.RowKit
variable [cm]
variable {cx:bJ} {m:Nat->Value} {st st':af} {T:Array Value} {w:World} {E:Env} {Q:di} {ops:Array Oper} {l:List Oper}
variable [aj cx]
def Ef(st:af)(aa:Oper)(n r:Nat)(c:cV):Option af:=
 match aa.dst with
 |none=>some (st.setRow r c)
 |some d=>match Nat.blt d n with
  |true=>some ((st.setRow r c).put d .any)
  |false=>none
theorem X3(Y:bE E cx){f e:Nat}{t:ah}{rel:List t.el->List t.el->Prop}(lf:xd E.P E.G f e t rel)(xs R:List t.el)(lg:rel xs R){aa:Oper}(r:Nat)
  (lh:eT ops st aa=some true)(o:Hz st aa f=some r)(li:look st.rw r=some ⟨e,t,xs⟩)(O:Ef st aa E.n r ⟨e,t,R⟩=some st')(h:bU cx ops Q l st'):bU cx ops Q (aa::l) st:=by
 rintro T w ⟨m,q⟩
 refine wpList_step fun K lb=>?_
 rw[ja ⟨m,q⟩ lh]
 simp only[if_true]
 unfold Hz at o
 split at o
 case h_2=>cases o
 rename_i c lj
 split at o
 case h_2=>cases o
 rename_i lk a ll lm
 split at o
 case h_2=>cases o
 rename_i lc lE ln lo
 cases U:Nat.beq lc f with
 |false=>rw[U]at o;cases o
 |true=>
 rw[U]at o
 cases o
 have lp:=Nat.eq_of_beq_eq_true U
 subst lp
 have lq:Act.eval ⟨T,aj.D cx⟩ lk=.func (.func lc) #[] (([]:List Nat).map m).toArray:=bj q ln
 have lr:Act.eval ⟨T,aj.D cx⟩ a=m r:=bj q lo
 have W:=be li
 obtain⟨cells,ls,lF,lt⟩:=q.rows r _ W
 have Z:=lf
 rw[<-Y.P]at Z
 have lu:=Z.calls w (au cx m st.ids) (m r) xs R cells (Y.rA w q.frame) lg ls lt
 unfold Oper.wp
 rw[xH lj ll lq Z.enters w,lm]
 simp only[List.map_cons,List.map_nil,List.append_nil,lr]
 refine lu.mono ?_
 rintro x w' ⟨u,lG,rfl,lv,lw,lx,ly⟩
 show K (Act.put ⟨T,aj.D cx⟩ aa.dst u) w'
 have lz:r∈st.ids:=List.mem_append.2 (.inr (List.mem_map.2 ⟨_,W,rfl⟩))
 have ld:Touch m w r w':=⟨lv,fun b U lA=>lw b U fun e=>lA (gP e)⟩
 obtain⟨lB,_⟩:=pa W q.keys ⟨e,t,R⟩
 obtain⟨lC,lD⟩:=ao.ia (cx:=cx) lz ld lB
 have le:ao cx m (st.setRow r ⟨e,t,R⟩) T w':=q.setRow W ld lx (dD (fun _ _=>cS lC lD t) ly)
 unfold Ef at O
 split at O
 ·rename_i ai
  rw[ai]
  cases O
  exact lb _ _ (h _ _ ⟨m,le⟩)
 ·rename_i d ai
  split at O
  ·rename_i la
   rw[ai]
   have la:d<cx.n:=by rw[Y.n];exact dg la
   cases O
   exact lb _ _ (h _ _ ⟨m,le.put la (s:=.any) trivial⟩)
  ·cases O
def ghost(P:Program)(st:af)(aa:Oper)(i j:Nat):Option af:=
 match aa.op with
 |.call c=>match c.argTypes.toList[i]? with
  |some t=>match ew P t with
   |some (e,_)=>match pz P e,jo j st.ids with
    |some k,false=>some (st.dZ [j] [(j,.bw e k [] none)] [] (ap.ed [j]))
    |_,_=>none
   |none=>none
  |none=>none
 |_=>none
def oO:Value:=.tuple #[.slice none 0 0]
theorem X9(h:ao cx m st T w){P:Program}{aa:Oper}{i j:Nat}(q:ghost P st aa i j=some st'):ao cx (bH m j oO) st' T w:=by
 unfold ghost at q
 split at q
 case h_2=>cases q
 split at q
 case h_2=>cases q
 split at q
 case h_2=>cases q
 split at q
 case h_2=>cases q
 rename_i e _ _ _ _ k la lb
 cases q
 have X:iH cx m (bH m j oO) st w w [j] [(j,.bw e k [] none)] []:={
  same:=⟨rfl,rfl,rfl,Nat.le_refl _,fun _=>Nat.le_refl _⟩
  block:=fun _ _ _=>rfl
  old:=fun b _ o=>dk _ _ fun e=>o (by simp[e])
  new:=fun b o g q=>by
   have:b=j:=by simpa using o
   subst this
   rw[ct]at q
   obtain⟨u,U,W⟩:=q
   have:u=.slice none 0 0:=by simpa[oO]using U
   subst this
   cases W
  apart:=fun a b Y o lc=>by
   have:a=j:=by simpa using Y
   have:b=j:=by simpa using o
   omega
  keys:=by simp
  n9:=fun b o _=>by
   have:b=j:=by simpa using o
   simp[this]
  nO:=fun b c o R=>by simp at o;rw[o.2]at R;cases R
  fJ:=fun r c O=>by cases O}
 refine h.dZ X (fun M v s Z=>oa (fun b o=>dk _ _ fun e=>o (by simp[e])) Z) (fun b c o=>?_) (fun r c O=>by cases O)
 simp only[List.mem_cons,Prod.mk.injEq,List.not_mem_nil,or_false]at o
 obtain⟨rfl,rfl⟩:=o
 rw[ct]
 exact⟨0,⟨_,[],rfl⟩,.slice none 0 0,[],[],rfl,World.ownsRow_nil w 0 e k.u.cells,⟨rfl,rfl⟩,(show([]:List Nat).Nodup from List.nodup_nil)⟩
def xI(P:Program)(st:af)(i j:Nat):Nat->List TypeId->List Operand->Option (List ap)
 |_,[],[]=>some []
 |n,t::o,x::xs=>match(match Nat.beq n i,x with
   |true,.const (.slice none 0 0)=>some (ap.osl j)
   |_,_=>wx P st t x),xI P st i j (n+1) o xs with
  |some v,some vs=>some (v::vs)
  |_,_=>none
 |_,_,_=>none
theorem IX(h:ao cx m st T w){i j:Nat}(R:m j=oO):∀{n:Nat} {U:List TypeId} {xs:List Operand} {q:List ap},xI cx.P st i j n U xs=some q->cJ w (au cx m st.ids) m (xs.map (Act.eval ⟨T,aj.D cx⟩)) q
 |_,[],[],_,o=>by cases o;trivial
 |_,[],_::_,_,o=>by cases o
 |_,_::_,[],_,o=>by cases o
 |n,t::U,x::xs,q,o=>by
  unfold xI at o
  split at o
  ·rename_i v Y O W
   cases o
   refine⟨?_,IX h R W⟩
   split at O
   ·cases O
    exact⟨[],R⟩
   ·exact OV h O
  ·cases o
def FT(E:Env)(st:af)(aa:Oper)(n f:Nat)(ρ:List (Nat×Nat))(i j:Nat):Option af:=
 match aa.op with
 |.call c=>match c.callee with
  |.value x=>match aW st x with
   |some (.clos o bs)=>match Nat.beq o f,rj st bs,xI E.P st i j 0 c.argTypes.toList c.args.toList with
    |true,true,some q=>jD st n ρ (q++bs.map fun b=>ap.ptr b 0)
    |_,_,_=>none
   |_=>none
  |_=>none
 |_=>none
theorem Ug(R:bE E cx){α β:Type}{F:b8 α β}{f:Nat}(lh:cq E.P E.G f F)(x:α)(y:β)(li:F.rel x y){aa:Oper}{ρ ρ':List (Nat×Nat)}{n i j:Nat}{Y:af}(lj:F.n=n)(lk:ghost E.P Y aa i j=some st)
  (ll:eT ops Y aa=some true)(o:FT E st aa n f ρ i j=some (F.S x))(q:ki st (F.bg x y) aa n E.n ρ ρ' (F.aq x y)=some st')(h:bU cx ops Q l st'):bU cx ops Q (aa::l) Y:=by
 subst lj
 rintro T w ⟨m0,lb⟩
 refine wpList_step fun K lc=>?_
 rw[ja ⟨m0,lb⟩ ll]
 simp only[if_true]
 have O:=X9 lb lk
 have ld:bH m0 j oO j=oO:=ct _ _ _
 generalize bH m0 j oO=m at O ld
 have Z:=lh
 rw[<-R.P]at Z
 have lm:∀(U:List ap) (vs:List Value),jD st F.n ρ U=some (F.S x)->cJ w (au cx m st.ids) m vs U->(execOp (Act.eval ⟨T,aj.D cx⟩) aa).run cx.P w=.ok (.enter f vs.toArray) w->aa.wp cx.P ⟨T,aj.D cx⟩ w K Q:=by
  intro U vs o le ln
  have lo:=G8 O o le
  obtain⟨lp,lq⟩:=GI o
  have lr:=nh le
  have ls:(F.S x).ab.length=U.length:=Af o
  have lt:=Z.calls (sub cx m st w F.n ρ) rfl rfl (fun w' W=>R.rA w' (Cr O W)) x y li _ w (by rw[ls];exact lr) ⟨_,lo⟩
  unfold Oper.wp
  rw[ln]
  refine lt.mono ?_
  rintro e w' ⟨v,aA,lF,rfl,lu,lv⟩
  unfold ki at q
  split at q
  case h_2=>cases q
  rename_i lG s lf lw
  rw[<-R.n]at lf
  obtain⟨m2,lg,lx⟩:=CN O lp lq lu lf
  show K (Act.put ⟨T,aj.D cx⟩ aa.dst v) w'
  split at q
  ·rename_i ai
   rw[ai]
   cases q
   exact lc _ _ (h _ _ ⟨m2,lg⟩)
  ·rename_i d ai
   split at q
   ·rename_i la
    rw[ai]
    have la:d<cx.n:=by rw[R.n];exact dg la
    cases q
    exact lc _ _ (h _ _ ⟨m2,lg.put la (lx v s (KO lw lv))⟩)
   ·cases q
 unfold FT at o
 split at o
 case h_2=>cases o
 rename_i c ly
 split at o
 case h_2=>cases o
 rename_i lz lA
 split at o
 case h_2=>cases o
 rename_i lB bQ lC
 split at o
 case h_2=>cases o
 rename_i U W lD has
 have W:=Nat.eq_of_beq_eq_true W
 subst W
 rw[<-R.P]at has
 have lE:Act.eval ⟨T,aj.D cx⟩ lz=.func (.func lB) #[] (bQ.map m).toArray:=bj O lC
 exact lm _ _ o (mE (IX O ld has) (vi O lD)) (xH ly lA lE Z.enters w)
end Go.Ev
namespace Go.Ev
open Go Go.RowKit
variable [cm]
section
variable {P:Program}
def Calm{α:Type}(P:Program)(s:Sem α):Prop:=∀w x o,s.run P w=.ok x o->o=w/\∀w',s.run P w'=.ok x w'
theorem Calm.pure{α:Type}(x:α):Calm P (Pure.pure x:Sem α):=fun w y o h=>by cases h;exact⟨rfl,fun _=>rfl⟩
theorem Calm.bind{α β:Type}{s:Sem α}{f:α->Sem β}(O:Calm P s)(R:∀x,Calm P (f x)):Calm P (s>>=f):=fun w y U h=>by
 rw[Sem.run_bind]at h
 cases o:s.run P w with
 |halt e q=>rw[o]at h;cases h
 |ok x q=>
  rw[o]at h
  obtain⟨rfl,W⟩:=O w x q o
  obtain⟨rfl,Y⟩:=R x _ y U h
  exact⟨rfl,fun w'=>by rw[Sem.run_bind,W w'];exact Y w'⟩
theorem Calm.stuck{α:Type}(s:String):Calm P (stuck s:Sem α):=fun w y o h=>by cases h
theorem Calm.H7{α:Type}(s:Unsupported):Calm P (unsupported s:Sem α):=fun w y o h=>by cases h
theorem Calm.program:Calm P program:=fun w y o h=>by cases h;exact⟨rfl,fun _=>rfl⟩
theorem Calm.never{α:Type}{s:Sem α}(h:∀w x o,s.run P w≠.ok x o):Calm P s:=fun w x o e=>absurd e (h w x o)
theorem oJ{α β:Type}{s:Sem α}{f:α->Sem β}(O:∀x w y o,(f x).run P w≠.ok y o):∀w y o,(s>>=f).run P w≠.ok y o:=fun w y o h=>by
 rw[Sem.run_bind]at h
 cases q:s.run P w with
 |halt e R=>rw[q]at h;cases h
 |ok x R=>rw[q]at h;exact O _ _ _ _ h
theorem jq{α:Type}(e:RuntimeError):∀w (x:α) o,(runtimePanic e:Sem α).run P w≠.ok x o:=by
 unfold runtimePanic
 refine oJ fun p=>?_
 cases e<;>simp only
 case typeAssertion=>exact oJ fun _=>oJ fun _ w x o h=>by cases h
 case panicNil=>exact oJ fun _=>oJ fun _ w x o h=>by cases h
 all_goals exact fun w x o h=>by cases h
theorem Calm.panic{α:Type}(e:RuntimeError):Calm P (runtimePanic e:Sem α):=.never (jq e)
theorem Calm.bounds{α:Type}(k:IntKind)(x y:Int)(c:BoundsCode):Calm P (boundsPanic k x y c:Sem α):=.never (by
 unfold boundsPanic
 dsimp only
 split
 ·exact oJ fun _=>jq _
 ·exact oJ fun _=>jq _)
theorem Calm.underlying(t:TypeId):Calm P (underlying t):=Calm.program.bind fun p=>by
 split
 ·exact .pure _
 ·exact .stuck _
theorem Calm.typeInfo(t:TypeId):Calm P (typeInfo t):=Calm.program.bind fun p=>by
 split
 ·exact .pure _
 ·exact .stuck _
theorem Calm.sizeOf(t:TypeId):Calm P (sizeOf t):=by
 unfold Go.sizeOf
 first
 |exact Calm.bind (.typeInfo t) fun _=>.pure _
 |exact Calm.bind .program fun _=>.pure _
theorem Calm.asBool(v:Value):Calm P (asBool v):=by
 unfold Go.asBool
 split
 ·exact .pure _
 ·exact .stuck _
theorem Calm.asIntOf(v:Value):Calm P (asIntOf v):=by
 unfold Go.asIntOf
 split
 ·exact .pure _
 ·exact .H7 _
 ·exact .stuck _
theorem Calm.sureAddr(v:Value):Calm P (Instr.sureAddr v):=by
 unfold Instr.sureAddr
 split
 ·exact .pure _
 ·exact .stuck _
theorem Calm.indexAt(t:TypeId)(x i:Value):Calm P (Instr.indexAt t x i):=by
 unfold Instr.indexAt
 refine Calm.bind (.asIntOf i) fun p=>?_
 refine Calm.bind (.underlying t) fun d=>?_
 have key:∀U:Option Addr×Nat×TypeId,Calm P (match U with
   |(q,len,o)=>do
    let O<-Go.underlying t
    have R:Bool:=decide (len<=1)&&match O with
      |TypeDesc.array len o=>true
      |x=>false
    match q with
     |some a=>
      if 0<=p.snd/\p.snd<↑len then do
       let O<-Go.sizeOf o
       Pure.pure (Value.pointer (some (a.add (p.snd.toNat*O))))
      else
       if R=true then
        unsupported (Unsupported.noEntry "op/indexAddr.an index out of range at an array of length 0 or 1 (ledger 616)")
       else boundsPanic p.fst p.snd (↑len) BoundsCode.index
     |none=>boundsPanic p.fst p.snd 0 BoundsCode.index):=by
  rintro⟨q,len,o⟩
  refine Calm.bind (.underlying t) fun d2=>?_
  dsimp only
  generalize (decide (len<=1)&&match d2 with
      |TypeDesc.array len o=>true
      |x=>false)=R
  cases q with
  |some a=>
   dsimp only
   split
   ·exact Calm.bind (.sizeOf _) fun _=>.pure _
   ·split
    ·exact .H7 _
    ·exact .bounds _ _ _ _
  |none=>exact .bounds _ _ _ _
 dsimp only
 split
 ·exact Calm.bind (.sureAddr _) fun _=>Calm.bind (.pure _) key
 ·exact Calm.bind (.pure _) key
 ·exact Calm.bind (.stuck _) key
theorem VV(v:Value):(∃a,v=.pointer (some a))\/∃s,Instr.sureAddr v=stuck s:=by
 unfold Instr.sureAddr
 split
 ·exact .inl ⟨_,rfl⟩
 ·exact .inr ⟨_,rfl⟩
theorem Calm.fieldAt{s:TypeId}{f off:Nat}{u:ah}(h:fieldInfo P s f=some (off,u))(v:Value):Calm P (Instr.fieldAt s v f):=by
 rcases VV v with ⟨a,rfl⟩|⟨m,o⟩
 ·intro w x q e
  rw[ni h]at e
  cases e
  exact⟨rfl,fun w'=>ni h a w'⟩
 ·unfold Instr.fieldAt
  refine Calm.bind (.underlying s) fun d=>?_
  split
  ·split
   ·rw[o]
    exact fun w x q e=>by cases e
   ·exact .stuck _
  ·exact .stuck _
theorem X4{x y:Value}{w q:World}{k:IntKind}{n:Int}(h:(Builtin.min2 x y).run P w=.ok (.int k n) q):∃m,x=.int k m/\q=w/\∀w',(Builtin.min2 x y).run P w'=.ok (.int k n) w':=by
 unfold Builtin.min2 at h⊢
 split at h
 ·cases h
  exact⟨_,rfl,rfl,fun _=>rfl⟩
 ·split at h
  ·rw[Sem.run_bind]at h
   generalize Sem.run P (choose _) w=r at h
   cases r with
   |ok a o=>cases h
   |halt e o=>cases h
  ·cases h
  ·cases h
  ·cases h
 ·rename_i a b
  rw[Sem.run_bind]at h
  generalize Sem.run P (Op.stringOp _ a b) w=r at h
  cases r with
  |halt e o=>cases h
  |ok a o=>
   rw[Result.andThen_ok,Sem.run_bind]at h
   generalize Sem.run P (asBool a) o=r at h
   cases r with
   |halt e o=>cases h
   |ok a o=>cases h
 ·cases h
 ·cases h
 ·cases h
theorem Nq:∀(rest:List Value) (x:Value) (w o:World) (k:IntKind) (n:Int),(rest.foldlM Builtin.min2 x).run P w=.ok (.int k n) o->(∃m,x=.int k m)/\o=w/\∀w',(rest.foldlM Builtin.min2 x).run P w'=.ok (.int k n) w'
 |[],x,w,o,k,n,h=>by
  rw[List.foldlM_nil]at h⊢
  cases h
  exact⟨⟨_,rfl⟩,rfl,fun _=>rfl⟩
 |y::rest,x,w,o,k,n,h=>by
  rw[List.foldlM_cons,Sem.run_bind]at h
  cases q:(Builtin.min2 x y).run P w with
  |halt e O=>rw[q]at h;cases h
  |ok z O=>
   rw[q]at h
   obtain⟨⟨m,rfl⟩,R,U⟩:=Nq rest z O o k n h
   obtain⟨aA,rfl,W,Y⟩:=X4 q
   exact⟨⟨_,rfl⟩,R.trans W,fun w'=>by rw[List.foldlM_cons,Sem.run_bind,Y w'];exact U w'⟩
def ir(aa:Oper):Bool:=match aa.op with
 |.move _=>true
 |.assign _=>true
 |.nilCheck _=>true
 |.fieldAddr _ _ _=>true
 |.indexAddr _ _ _=>true
 |.call {callee:=.builtin .min,.. }=>true
 |.binOp _ _ _ _ _=>true
 |_=>false
def QG:ap->Bool
 |.ptr _ _=>true
 |.vptr _ _=>true
 |.ep _ _ _ _=>true
 |.dP _ _=>true
 |.en _ _ _ _=>true
 |.fA _ _ _ _ _=>true
 |_=>false
def ND:ap->Bool
 |.val (.int _) _=>true
 |_=>false
def u4(P:Program)(aa:Oper)(s:ap):Bool:=match aa.op with
 |.nilCheck _=>QG s
 |.fieldAddr t _ f=>(fieldInfo P t f).isSome
 |.call _=>ir aa&&ND s
 |.binOp _ _ _ _ _=>false
 |_=>ir aa
theorem F6{aa:Oper}(h:ir aa=true){ρ:Operand->Value}{w R:World}{n:Next}(o:(execOp ρ aa).run P w=.ok n R):∃v,n=.value v:=by
 have key:∀(s:Sem Value),(do Pure.pure (Next.value (<-s)):Sem Next).run P w=.ok n R->∃v,n=.value v:=fun s h=>by
  rw[Sem.run_bind]at h
  cases o:s.run P w with
  |halt e O=>rw[o]at h;cases h
  |ok v O=>rw[o]at h;cases h;exact⟨v,rfl⟩
 unfold ir at h
 split at h
 ·rename_i x q;simp only[execOp,q]at o;cases o;exact⟨_,rfl⟩
 ·rename_i x q;simp only[execOp,q]at o;cases o;exact⟨_,rfl⟩
 ·rename_i x q
  simp only[execOp,q]at o
  split at o
  ·exact absurd o (jq _ _ _ _)
  ·exact absurd o (jq _ _ _ _)
  ·exact absurd o (jq _ _ _ _)
  ·split at o
   ·exact absurd o (jq _ _ _ _)
   ·rw[Sem.run_bind]at o
    rw[run_program,Result.andThen_ok,Sem.run_bind]at o
    generalize Sem.run P (nilAhead _ _ _ _) w=U at o
    cases U with
    |halt e O=>cases o
    |ok a O=>
     rw[Result.andThen_ok]at o
     split at o
     ·rw[Sem.run_bind]at o;cases o
     ·cases o;exact⟨_,rfl⟩
   ·cases o;exact⟨_,rfl⟩
  ·cases o;exact⟨_,rfl⟩
 ·rename_i t x f q;simp only[execOp,q]at o;exact key _ o
 ·rename_i t x i q;simp only[execOp,q]at o;exact key _ o
 ·rename_i args W q
  simp only[execOp,q]at o
  exact key (Builtin.min_ _ _ _) o
 ·rename_i Y t x y u q;simp only[execOp,q]at o;exact key _ o
 ·cases h
theorem TT{aa:Oper}{s:ap}(h:u4 P aa s=true){ρ:Operand->Value}{w lb R:World}{v:Value}{M:Nat->Prop}{m:Nat->Value}(o:(execOp ρ aa).run P w=.ok (.value v) lb)(O:aX R M m v s):
  ir aa=true/\∀w',(execOp ρ aa).run P w'=.ok (.value v) w':=by
 have key:∀(s:Sem Value),Calm P s->execOp ρ aa=(do Pure.pure (Next.value (<-s)))->∀w',(execOp ρ aa).run P w'=.ok (.value v) w':=fun s lc W=>by
  rw[W]at o⊢
  exact(Calm.bind lc (fun v=>Calm.pure (Next.value v)) _ _ _ o).2
 unfold u4 at h
 split at h
 ·rename_i x q
  refine⟨by unfold ir;rw[q],?_⟩
  have ld:∃a,v=.pointer (some a):=by
   cases s<;>first|(cases h;done)|skip
   all_goals unfold aX at O
   ·obtain⟨g,_,rfl⟩:=O;exact⟨_,rfl⟩
   ·obtain⟨g,_,rfl,_⟩:=O;exact⟨_,rfl⟩
   ·obtain⟨g,_,_,_,rfl⟩:=O;exact⟨_,rfl⟩
   ·obtain⟨g,_,rfl⟩:=O;exact⟨_,rfl⟩
   ·obtain⟨g,_,_,_,_,rfl⟩:=O;exact⟨_,rfl⟩
   ·obtain⟨_,_,g,_,_,_,_,rfl⟩:=O;exact⟨_,rfl⟩
  obtain⟨a,rfl⟩:=ld
  have e:ρ x=.pointer (some a):=by
   simp only[execOp,q]at o
   generalize ρ x=y at o
   split at o
   ·exact absurd o (jq _ _ _ _)
   ·exact absurd o (jq _ _ _ _)
   ·exact absurd o (jq _ _ _ _)
   ·split at o
    ·exact absurd o (jq _ _ _ _)
    ·rw[Sem.run_bind]at o
     rw[run_program,Result.andThen_ok,Sem.run_bind]at o
     generalize Sem.run P (nilAhead _ _ _ _) w=le at o
     cases le with
     |halt e R=>cases o
     |ok a R=>
      rw[Result.andThen_ok]at o
      split at o
      ·rw[Sem.run_bind]at o;cases o
      ·cases o
    ·cases o
   ·cases o;rfl
  intro w'
  simp only[execOp,q,e]
  rfl
 ·rename_i t x f q
  refine⟨by unfold ir;rw[q],?_⟩
  cases Z:fieldInfo P t f with
  |none=>rw[Z]at h;cases h
  |some p=>exact key (Instr.fieldAt t (ρ x) f) (Calm.fieldAt Z _) (by simp only[execOp,q])
 ·rename_i c q
  simp only[Bool.and_eq_true]at h
  refine⟨h.1,?_⟩
  have U:=h.1
  unfold ir at U
  rw[q]at U
  split at U
  all_goals first|(rename_i e;cases e;done)|skip
  ·rename_i args la e
   cases e
   have lf:∃k n,v=.int k n:=by
    have Y:=h.2
    unfold ND at Y
    split at Y
    ·rename_i k n
     exact⟨k,n,dp.1 O⟩
    ·cases Y
   obtain⟨k,n,rfl⟩:=lf
   have W:execOp ρ aa=(do Pure.pure (Next.value (<-Builtin.min_ la aa.type (args.map ρ)))):=by simp only[execOp,q];rfl
   rw[W]at o⊢
   rw[Sem.run_bind]at o
   unfold Builtin.min_ at o⊢
   split at o
   ·cases o
   ·rename_i x rest ll
    cases aJ:Sem.run P (List.foldlM Builtin.min2 x rest) w with
    |halt e R=>rw[aJ]at o;cases o
    |ok z R=>
     rw[aJ]at o
     cases o
     intro w'
     rw[Sem.run_bind,(Nq rest x _ _ _ _ aJ).2.2 w']
     rfl
  ·cases U
 ·cases h
 ·rename_i lg lh li lj
  refine⟨h,?_⟩
  unfold ir at h
  split at h
  ·rename_i x q;exact key (Pure.pure (ρ x)) (.pure _) (by simp only[execOp,q];rfl)
  ·rename_i x q;exact key (Pure.pure (ρ x)) (.pure _) (by simp only[execOp,q];rfl)
  ·rename_i x q;exact absurd q (lg x)
  ·rename_i t x f q;exact absurd q (lh t x f)
  ·rename_i t x i q;exact key (Instr.indexAt t (ρ x) (ρ i)) (.indexAt _ _ _) (by simp only[execOp,q])
  ·rename_i args la q;exact absurd q (li _)
  ·rename_i lk t x y u q;exact absurd q (lj lk t x y u)
  ·cases h
end
section
variable {P:Program} {ops:Array Oper} {md:Region.Mode}
def bN(ops:Array Oper):List Nat->List Oper
 |[]=>[]
 |i::is=>match ops[i]? with
  |some aa=>aa::bN ops is
  |none=>bN ops is
def fE(md:Region.Mode)(ops:Array Oper)(K:Array Bool->Bool):List Nat->Array Bool->Bool
 |[],done=>K done
 |i::is,done=>(Region.ready md ops done).contains i&&Region.free md ops done i&&fE md ops K is (done.setIfInBounds i true)
def yR(ops:Array Oper):List Nat->Bool
 |[]=>true
 |i::is=>(match ops[i]? with
  |some aa=>ir aa
  |none=>false)&&yR ops is
def fS(md:Region.Mode)(ops:Array Oper):List Nat->Array Bool->Bool
 |[],done=>(Region.ready md ops done).isEmpty
 |i::is,done=>decide (Region.ready md ops done=[i])&&fS md ops is (done.setIfInBounds i true)
def Ot(md:Region.Mode)(ops:Array Oper)(done:Array Bool):Bool:=
 (List.range ops.size).all fun j=>!done.getD j false||(match ops[j]? with
  |some aa=>aa.after.all fun e=>!Region.binds md e||done.getD e.on false
  |none=>true)
def O0(md:Region.Mode)(ops:Array Oper)(o:List Nat):List Nat:=o.filter fun i=>!(o.any fun j=>Nat.blt i j&&Region.waitsFor md ops j i)
def xu(md:Region.Mode)(ops:Array Oper)(done:Array Bool)(o:List Nat):Bool:=
 (List.range ops.size).all fun t=>done.getD t false||gI t o||(match ops[t]? with
  |some aa=>(aa.after.any fun e=>Region.binds md e&&(!gI e.on o&&!done.getD e.on true))||(O0 md ops o).all fun i=>Region.waitsFor md ops t i
  |none=>true)
def mx(md:Region.Mode)(ops:Array Oper)(q o R:List Nat)(O:Array Bool->Bool):Bool:=
 Region.noSelect ops&&yR ops q&&(R.all fun i=>!gI i o)&&fE md ops (fun d=>match o.reverse with
  |[]=>O d
  |_::_=>Ot md ops d&&xu md ops d o&&fE md ops O o d) q (Array.replicate ops.size false)
def AK(md:Region.Mode)(ops:Array Oper)(o q C:List Nat):Bool:=mx md ops o q C (fS md ops C)
theorem W9{g:Nat}{Q:Exit->Act->World->Prop}{K:Act->Prop}{la:Array Bool->Bool}{w:World}(lb:Region.noSelect ops=true)(lc:∀c a w,¬Q (.panic c) a w)(lg:∀done a,la done=true->K a->wpAny P md ops Q g done a w):
  ∀(q:List Nat) (done:Array Bool) (a:Act),yR ops q=true->fE md ops la q done=true->wpQuiet P ops (fun _=>True) K (bN ops q) a->wpAny P md ops Q (q.length+g) done a w:=by
 intro q
 induction q with
 |nil=>intro done a _ o h;rw[List.length_nil,Nat.zero_add];exact lg _ _ o h
 |cons i is ld=>
  intro done a O o h
  unfold yR at O
  unfold fE at o
  simp only[Bool.and_eq_true]at O o
  obtain⟨⟨le,lf⟩,o⟩:=o
  obtain⟨W,O⟩:=O
  unfold bN at h
  split at W
  ·rename_i aa R
   rw[R]at h
   rw[List.length_cons,Nat.succ_add]
   by_cases U:Region.wanted aa (yielded ops a.tmps)=true
   ·unfold wpQuiet at h
    rw[if_pos U]at h
    obtain⟨v,aJ,lh⟩:=h
    refine wpAny_first R (Region.noSelect_spec lb) (fun c a w Y=>absurd Y (lc _ _ _)) (is.length+g) done a w (Region.free_spec R lf) (by simpa using le) (v:=v) (.inl ⟨U,fun w'=>?_⟩) (ld _ _ O o lh)
    have:=aJ w' trivial
    unfold Oper.quietAt at this
    cases Z:(execOp a.eval aa).run P w' with
    |halt e li=>rw[Z]at this;exact this.elim
    |ok n li=>
     obtain⟨u,rfl⟩:=F6 W Z
     rw[Z]at this
     obtain⟨rfl,rfl⟩:=this
     rfl
   ·unfold wpQuiet at h
    rw[if_neg U]at h
    exact wpAny_first R (Region.noSelect_spec lb) (fun c a w Y=>absurd Y (lc _ _ _)) (is.length+g) done a w (Region.free_spec R lf) (by simpa using le) (v:=undef) (.inr ⟨by simpa using U,rfl⟩) (ld _ _ O o h)
  ·cases W
def tI(P:Program)(md:Region.Mode)(ops:Array Oper)(C:World->Prop)(o:List Nat)(L:Array Bool->Act->Prop):Nat->Array Bool->Act->Prop
 |0,done,a=>L done a
 |f+1,done,a=>Region.ready md ops done≠[]/\∀i,i∈Region.ready md ops done->i∈o/\qOp P ops C i (tI P md ops C o L f (done.setIfInBounds i true)) a
variable {C:World->Prop}
theorem V9{B:List Nat}{g:Nat}{L:Array Bool->Act->Prop}{Q':Exit->Act->World->Prop}(q:∀done a w,C w->L done a->wpAny P md ops Q' g done a w):
  ∀(f:Nat) (done:Array Bool) (a:Act) (w:World),C w->tI P md ops C B L f done a->wpAny P md ops Q' (f+g) done a w:=by
 intro f
 induction f with
 |zero=>intro done a w o h;rw[Nat.zero_add];exact q _ _ _ o h
 |succ f O=>
  intro done a w o h
  rw[Nat.succ_add]
  exact⟨fun R=>absurd R h.1,fun i U=>wpOp_of_qOp o (fun W w' Y h'=>O _ W w' Y h') (h.2 i U).2⟩
structure ou(md:Region.Mode)(ops:Array Oper)(q:Array Bool)(O:List Nat)(done:Array Bool):Prop where
 size:done.size=ops.size
 closed:∀j o,ops[j]? =some o->done.getD j false=true->∀e∈o.after,Region.binds md e=true->done.getD e.on false=true
 rest:∀t,t∉O->q.getD t true=false->done.getD t true=false
theorem ou.set{o done:Array Bool}{B:List Nat}{i:Nat}(inv:ou md ops o B done)(la:i∈Region.ready md ops done)(lb:i∈B):ou md ops o B (done.setIfInBounds i true):=by
 obtain⟨_,lc,ld,le⟩:=mem_ready.1 la
 refine⟨by simp[inv.size],fun j q O R e U W=>?_,fun t Y lf=>by rw[getD_set_ne true (fun h=>Y (by subst h;exact lb))];exact inv.rest t Y lf⟩
 by_cases Z:i=j
 ·subst Z
  have:q=lc:=Option.some.inj (O.symm.trans ld)
  subst this
  exact getD_set_true (le e U W)
 ·rw[getD_set_ne false Z]at R
  exact getD_set_true (inv.closed j q O R e U W)
theorem gate{U done:Array Bool}{B:List Nat}(li:xu md ops U B=true)(lj:∀t,U.getD t false=true->done.getD t false=true)(inv:ou md ops U B done):
  ∀(d i:Nat),ops.size-i=d->i∈B->done.getD i true=false->∀t,t∈Region.ready md ops done->t∈B:=by
 intro d
 induction d using Nat.strongRecOn with
 |_ d lk=>
  intro i ai ll la t lb
  obtain⟨lm,ln,W,lc⟩:=mem_ready.1 lb
  by_cases ld:t∈B
  ·exact ld
  by_cases le:(B.any fun j=>Nat.blt i j&&Region.waitsFor md ops j i)=true
  ·obtain⟨j,lo,o⟩:=List.any_eq_true.1 le
   simp only[Bool.and_eq_true]at o
   obtain⟨lf,lp⟩:=o
   have lf:=dg lf
   obtain⟨lq,lg,e,O,Y,Z⟩:=Region.waitsFor_spec lp
   have lr:j<ops.size:=(Array.getElem?_eq_some_iff.1 lg).1
   have ls:j<done.size:=by rw[inv.size];exact lr
   cases lh:done.getD j false with
   |true=>
    have o:=inv.closed j lq lg lh e O Y
    rw[Z,getD_both la]at o
    cases o
   |false=>exact lk (ops.size-j) (by omega) j rfl lo (getD_in ls lh) t lb
  ·have lt:i∈O0 md ops B:=List.mem_filter.2 ⟨ll,by simpa using le⟩
   have lu:t<ops.size:=(Array.getElem?_eq_some_iff.1 W).1
   have q:=List.all_eq_true.1 li t (List.mem_range.2 lu)
   rw[W]at q
   simp only[Bool.or_eq_true]at q
   rcases q with (q|q)|q|q
   ·have:=lj t q
    rw[getD_both lm]at this
    cases this
   ·exact absurd (uV.1 q) ld
   ·obtain⟨e,O,o⟩:=Array.any_eq_true'.1 q
    simp only[Bool.and_eq_true,Bool.not_eq_true']at o
    have R:=lc e O o.1
    have lv:=inv.rest e.on (fun h=>by have:=o.2.1;rw[uV.2 h]at this;cases this) o.2.2
    rw[getD_both lv]at R
    cases R
   ·have o:=List.all_eq_true.1 q i lt
    obtain⟨lw,lx,e,O,Y,Z⟩:=Region.waitsFor_spec o
    have:lw=ln:=Option.some.inj (lx.symm.trans W)
    subst this
    have R:=lc e O Y
    rw[Z,getD_both la]at R
    cases R
theorem Yf{la:Array Bool}{B:List Nat}{i:Nat}{aa:Oper}{v:Value}{L:Array Bool->Act->Prop}(lb:ops[i]? =some aa)(le:∀(j:Nat) (aa:Oper) cs b,ops[j]? =some aa->aa.op≠.select cs b)
  (lf:xu md ops la B=true)(lg:i∈B)(lm:∀done a,L done a->∀j,j∈Region.ready md ops done->j∉B):
  ∀(f:Nat) (done:Array Bool) (a:Act),(∀t,la.getD t false=true->done.getD t false=true)->ou md ops la B done->
   (∀j O,ops[j]? =some O->j≠i->done.getD j true=false->(∀e∈O.after,Region.binds md e=true->e.on≠i)->aa.apart ops O=true)->
   i∈Region.ready md ops done->YieldsIn P ops C aa v a->tI P md ops C B L f (done.setIfInBounds i true) (a.put aa.dst v)->tI P md ops C B L (f+1) done a:=by
 intro f
 induction f with
 |zero=>
  intro done a W inv _ o Y R
  have Z:=(mem_ready.1 o).1
  refine⟨fun lc=>(by rw[lc]at o;cases o),fun j q=>?_⟩
  have U:j∈B:=gate lf W inv _ i rfl lg Z j q
  refine⟨U,?_⟩
  by_cases e:j=i
  ·subst e;exact Y.qOp lb R
  ·exact absurd U (lm _ _ R j (ready_mono q e))
 |succ f ln=>
  intro done a W inv lh o Y R
  have Z:=(mem_ready.1 o).1
  refine⟨fun lc=>(by rw[lc]at o;cases o),fun j q=>?_⟩
  have U:j∈B:=gate lf W inv _ i rfl lg Z j q
  refine⟨U,?_⟩
  by_cases e:j=i
  ·subst e;exact Y.qOp lb R
  obtain⟨li,O,ld,lo⟩:=mem_ready.1 q
  have lp:=lh j O ld e li fun d ai lq aJ=>by
   have lj:=lo d ai lq
   rw[aJ,getD_both Z]at lj
   cases lj
  refine qOp_mono (fun lr lk=>ln (done.setIfInBounds j true) lr (fun t ls=>getD_set_true (W t ls)) (inv.set q U) (fun k ok lt lu lv lw=>lh k ok lt lu ?_ lw) (ready_mono o (Ne.symm e)) lk.1 ?_)
   (qOp_put ld lp (fun cs b=>le i aa cs b lb) (fun cs b=>le j O cs b ld) Y (R.2 j (ready_mono q e)).2)
  ·by_cases ll:j=k
   ·subst ll;exact li
   ·rwa [getD_set_ne true ll]at lv
  ·rw[Array.setIfInBounds_comm _ _ e];exact lk.2
theorem Xf{C:List Nat}{done:Array Bool}(h:fS md ops C done=true){j:Nat}(o:j∈Region.ready md ops done):j∈C:=by
 cases C with
 |nil=>simp only[fS,List.isEmpty_iff]at h;rw[h]at o;cases o
 |cons i is=>
  simp only[fS,Bool.and_eq_true,decide_eq_true_eq]at h
  rw[h.1]at o
  cases o with
  |head=>exact List.mem_cons_self
  |tail _ h=>cases h
theorem SF{O:Array Bool}{B:List Nat}{R:Array Bool->Bool}{U:Act->Prop}(lc:Region.noSelect ops=true)(ld:xu md ops O B=true)(le:∀d j,R d=true->j∈Region.ready md ops d->j∉B):
  ∀(l:List Nat) (done:Array Bool) (a:Act),(∀i∈l,i∈B)->(∀t,O.getD t false=true->done.getD t false=true)->ou md ops O B done->fE md ops R l done=true->
   wpQuiet P ops C U (bN ops l) a->tI P md ops C B (fun d Y=>R d=true/\U Y) l.length done a:=by
 intro l
 induction l with
 |nil=>intro done a _ _ _ o h;exact⟨o,h⟩
 |cons i l lf=>
  intro done a Z la inv o h
  unfold fE at o
  simp only[Bool.and_eq_true]at o
  obtain⟨⟨lg,lh⟩,o⟩:=o
  have W:i∈Region.ready md ops done:=by simpa using lg
  obtain⟨_,aa,q,_⟩:=mem_ready.1 W
  unfold bN at h
  rw[q]at h
  obtain⟨v,li,lj⟩:=yieldsIn_of_qOp (K:=wpQuiet P ops C U (bN ops l)) q (by unfold qOp;rw[q];exact h)
  have lb:=Z i List.mem_cons_self
  exact Yf q (Region.noSelect_spec lc) ld lb (fun d Y lk j ll=>le d j lk.1 ll) l.length done a la inv (Region.free_spec q lh) W li
   (lf _ _ (fun k lm=>Z k (List.mem_cons_of_mem _ lm)) (fun t ln=>getD_set_true (la t ln)) (inv.set W lb) o lj)
theorem sh{Q':Exit->Act->World->Prop}:∀(l:List Nat) (done:Array Bool) (a:Act) (w:World),fS md ops l done=true->wpList P ops Q' (bN ops l) a w->wpAny P md ops Q' l.length done a w
 |[],_,_,_,o,h=>⟨by simpa[fS]using o,h⟩
 |i::l,done,a,w,o,h=>by
  simp only[fS,Bool.and_eq_true,decide_eq_true_eq]at o
  have U:i∈Region.ready md ops done:=by rw[o.1];exact List.mem_cons_self
  obtain⟨_,aa,q,_⟩:=mem_ready.1 U
  unfold bN at h
  rw[q]at h
  refine⟨fun O=>(by rw[o.1]at O;cases O),fun k R=>?_⟩
  rw[o.1]at R
  have W:k=i:=by simpa using R
  subst W
  have Y:wpOp P ops Q' k (wpList P ops Q' (bN ops l)) a w:=by unfold wpOp;simp only[q];exact h
  exact wpOp_mono (fun Z w' h'=>sh l _ Z w' o.2 h') Y
theorem Wn{done:Array Bool}(h:Ot md ops done=true):∀j O,ops[j]? =some O->done.getD j false=true->∀e∈O.after,Region.binds md e=true->done.getD e.on false=true:=by
 intro j O R ai e U W
 have o:=List.all_eq_true.1 h j (List.mem_range.2 (Array.getElem?_eq_some_iff.1 R).1)
 rw[R]at o
 simp only[Bool.or_eq_true,Bool.not_eq_true']at o
 rcases o with o|o
 ·rw[ai]at o;cases o
 ·have q:=Array.all_eq_true_iff_forall_mem.1 o e U
  simp only[Bool.or_eq_true,Bool.not_eq_true']at q
  rcases q with q|q
  ·rw[W]at q;cases q
  ·exact q
theorem NA{q:Array Bool->Bool}{n:Nat}:∀(l:List Nat) (done:Array Bool),done.size=n->fE md ops q l done=true->fE md ops (fun d=>q d&&decide (d.size=n)) l done=true
 |[],d,O,o=>by
  show(q d&&decide (d.size=n))=true
  rw[show q d=true from o,decide_eq_true O];rfl
 |i::l,d,O,o=>by
  unfold fE at o⊢
  simp only[Bool.and_eq_true]at o⊢
  exact⟨o.1,NA l _ (by simpa using O) o.2⟩
theorem xg{id g:Nat}{Q:Exit->Act->World->Prop}{a:Act}{w:World}{l:List Oper}(R o lb:List Nat)(Y:Array Bool->Bool)(W:Act->World->Prop)(lh:P.follows .mixedOrders=true)(Z:mx .any l.toArray R o lb Y=true)
  (li:∀d j,Y d=true->j∈Region.ready .any l.toArray d->j∈lb)(lj:∀e a w,Q e a w->e=.normal)(lc:∀d a w,Y d=true->W a w->wpAny P .any l.toArray Q g d a w)(lk:R.length+(o.length+g)=l.length)
  (ld:C {w with drawn:=w.drawn+1})
  (h:wpQuiet P l.toArray (fun _=>True) (wpQuiet P l.toArray C (fun U=>∀w',C w'->W U w') (bN l.toArray o)) (bN l.toArray R) a):
  (Code.region id l.toArray true).wp P Q a w:=by
 unfold mx at Z
 simp only[Bool.and_eq_true]at Z
 obtain⟨⟨⟨le,ll⟩,lm⟩,ln⟩:=Z
 have lo:∀d j,Y d=true->j∈Region.ready .any l.toArray d->j∉o:=fun d j ai lp O=>by
  have:=List.all_eq_true.1 lm j (li d j ai lp)
  rw[uV.2 O]at this
  cases this
 have lq:=NA (n:=l.toArray.size) R _ (by simp) ln
 have al:=W9 (g:=o.length+g) (Q:=Q) le (fun c a w h=>Exit.noConfusion (lj _ _ _ h)) (w:={w with drawn:=w.drawn+1}) (K:=wpQuiet P l.toArray C (fun U=>∀w',C w'->W U w') (bN l.toArray o)) (fun done a q lf=>?_) R _ a ll lq h
 ·rw[lk]at al
  refine wp_region_any lh ?_
  simpa using al
 ·simp only[Bool.and_eq_true,decide_eq_true_eq]at q
  obtain⟨q,lr⟩:=q
  split at q
  ·rename_i O
   have O:o=[]:=by simpa using O
   subst O
   rw[List.length_nil,Nat.zero_add]
   exact lc done a _ q (lf _ ld)
  ·rename_i s r O
   simp only[Bool.and_eq_true]at q
   obtain⟨⟨ls,lt⟩,lu⟩:=q
   have inv:ou .any l.toArray done o done:=⟨lr,Wn ls,fun t _ la=>la⟩
   exact V9 (fun d U w' lv lg=>lc d U w' lg.1 (lg.2 w' lv)) _ _ _ _ ld (SF le lt lo o done a (fun i lw=>lw) (fun t la=>la) inv lu lf)
def dT(Q:Exit->Act->World->Prop):Exit->Act->World->Prop:=fun e a w=>e=.normal/\Q .normal a w
theorem Wy{id:Nat}{Q:Exit->Act->World->Prop}{a:Act}{w:World}{l:List Oper}(q O o:List Nat)(R:P.follows .mixedOrders=true)(U:AK .any l.toArray q O o=true)(W:q.length+(O.length+o.length)=l.length)
  (Y:C {w with drawn:=w.drawn+1})
  (h:wpQuiet P l.toArray (fun _=>True) (wpQuiet P l.toArray C (fun Z=>∀w',C w'->wpList P l.toArray (dT Q) (bN l.toArray o) Z w') (bN l.toArray O)) (bN l.toArray q) a):
  (Code.region id l.toArray true).wp P Q a w:=
 Code.wp_mono (Q:=dT Q) (fun e a w h=>by obtain⟨rfl,h⟩:=h;exact h)
  (xg q O o (fS .any l.toArray o) _ R U (fun d j ai la=>Xf ai la) (fun e a w h=>h.1) (fun d a w ai lb=>sh o d a w ai lb) W Y h)
/-! One that may come up behind others that leave what it reads. -/
def jI(P:Program)(ops:Array Oper)(Q:Exit->Act->World->Prop)(aa:Oper)(d:Nat)(q:List Nat):List Nat->Act->World->Prop
 |[],a,w=>wpList P ops Q (bN ops q) a w
 |c::O,a,w=>wpOp P ops Q c (fun o w'=>(execOp o.eval aa).run P w'=.ok (.value (o.tmps.getD d undef)) w'/\jI P ops Q aa d q O o w') a w
def mO(md:Region.Mode)(ops:Array Oper)(i:Nat)(o:List Nat):List Nat->Array Bool->Bool
 |[],done=>decide (Region.ready md ops done=[i])&&fS md ops o (done.setIfInBounds i true)
 |c::q,done=>((Region.ready md ops done).all fun j=>Nat.beq j i||Nat.beq j c)&&(Region.ready md ops done).contains i&&Region.free md ops done i&&fS md ops (c::q++o) (done.setIfInBounds i true)&&mO md ops i o q (done.setIfInBounds c true)
theorem NU{Q:Exit->Act->World->Prop}{aa:Oper}{d:Nat}{O:List Nat}:∀(q:List Nat) (done:Array Bool) (a:Act) (w:World),fS md ops (q++O) done=true->jI P ops Q aa d O q a w->wpAny P md ops Q (q.length+O.length) done a w
 |[],done,a,w,o,h=>by rw[List.length_nil,Nat.zero_add];exact sh O done a w o h
 |c::q,done,a,w,o,h=>by
  simp only[List.cons_append,fS,Bool.and_eq_true,decide_eq_true_eq]at o
  rw[List.length_cons,Nat.succ_add]
  refine⟨fun R=>(by rw[o.1]at R;cases R),fun k U=>?_⟩
  rw[o.1]at U
  have W:k=c:=by simpa using U
  subst W
  exact wpOp_mono (fun Y w' h'=>NU q _ Y w' o.2 h'.2) h
structure kf(aa:Oper)(a o:Act):Prop where
 exec:execOp o.eval aa=execOp a.eval aa
 size:o.tmps.size=a.tmps.size
theorem kf.put{o:Oper}{a:Act}{dst:Option Nat}{u:Value}(q:∀cs b,o.op≠.select cs b)(O:∀d,dst=some d->d∉o.looksAt ops):kf o a (a.put dst u):=
 ⟨execOp_put o q a dst u O,by cases dst<;>simp[Act.put]⟩
theorem kf.trans{o:Oper}{a b c:Act}(h:kf o a b)(k:kf o b c):kf o a c:=⟨k.exec.trans h.exec,k.size.trans h.size⟩
theorem QF{Q Q':Exit->Act->World->Prop}{j:Nat}{o q:Oper}{v:Value}(le:ops[j]? =some q)(lf:o.apart ops q=true)
  (Z:∀cs b,o.op≠.select cs b)(lg:∀cs b,q.op≠.select cs b)(W:∀e a w,Q e a w->e=.normal){K:Act->World->Prop}{a:Act}{w:World}(h:wpOp P ops Q j K (a.put o.dst v) w):
  wpOp P ops Q' j (fun la w'=>kf o a la/\K (la.put o.dst v) w') a w:=by
 obtain⟨lb,O,lc⟩:=Oper.apart_spec lf
 have R:∀u,kf o a (a.put q.dst u):=fun u=>kf.put Z lc
 have ld:¬LetsOut Q:=fun⟨a,w,h⟩=>Exit.noConfusion (W _ _ _ h)
 unfold wpOp at*
 simp only[le]at*
 rw[wanted_put q a o.dst v lb]at h
 split
 ·rename_i Y
  simp only[Y,if_true]at h
  rcases h with h|⟨_,lh⟩
  case inr=>exact absurd lh ld
  refine .inl ?_
  unfold Oper.wp at*
  rw[execOp_put q lg a o.dst v lb]at h
  generalize (execOp a.eval q).run P w=r at*
  cases r with
  |ok n w'=>
   cases n<;>simp only[Oper.upon]at h⊢
   case value u=>exact⟨R u,by rw[<-Act.put_comm a v u O];exact h⟩
   case skip=>exact⟨R _,by rw[<-Act.put_comm a v undef O];exact h⟩
   case defer d=>
    refine⟨kf.trans (b:={a with defers:=d::a.defers}) ⟨rfl,rfl⟩ (kf.put Z lc),?_⟩
    rw[<-Act.put_comm _ v undef O,<-Act.put_defers]
    exact h
   case enter f args=>
    refine Calls.mono h fun e li U=>?_
    cases e with
    |returned u=>exact⟨R u,by rw[<-Act.put_comm a v u O];exact U⟩
    |panicked c=>cases W _ _ _ U
    |outgrown=>exact absurd U ld
   case row row args=>exact Rows.mono h fun u li U=>⟨R u,by rw[<-Act.put_comm a v u O];exact U⟩
  |halt x w'=>
   cases x<;>simp only[Oper.upon]at h⊢
   case panic u=>cases W _ _ _ h
 ·rename_i Y
  simp only[Y]at h
  exact⟨R _,by rw[<-Act.put_comm a v undef O];exact h⟩
theorem Rk{Q:Exit->Act->World->Prop}{i d:Nat}{aa:Oper}{v:Value}{R:List Nat}(Z:ops[i]? =some aa)(ai:aa.dst=some d)(lk:aa.guard=none)(ll:d∉aa.looksAt ops)(ld:Region.noSelect ops=true)(lm:∀e a w,Q e a w->e=.normal):
  ∀(o:List Nat) (done:Array Bool) (a:Act) (w:World),mO md ops i R o done=true->d<a.tmps.size->(execOp a.eval aa).run P w=.ok (.value v) w->jI P ops Q aa d R o (a.put aa.dst v) w->
   wpAny P md ops Q (o.length+R.length+1) done a w:=by
 have le:∀(done:Array Bool) (a:Act) (w:World) (o:List Nat),(execOp a.eval aa).run P w=.ok (.value v) w->fS md ops (o++R) (done.setIfInBounds i true)=true->jI P ops Q aa d R o (a.put aa.dst v) w->
   wpOp P ops Q i (wpAny P md ops Q (o.length+R.length) (done.setIfInBounds i true)) a w:=fun done a w o U q h=>by
  unfold wpOp
  simp only[Z]
  have ln:Region.wanted aa (yielded ops a.tmps)=true:=by unfold Region.wanted;rw[lk]
  rw[if_pos ln]
  refine .inl ?_
  unfold Oper.wp
  rw[U]
  exact NU o _ _ _ q h
 intro o
 induction o with
 |nil=>
  intro done a w q lf U h
  simp only[mO,Bool.and_eq_true,decide_eq_true_eq]at q
  refine⟨fun O=>(by rw[q.1]at O;cases O),fun k W=>?_⟩
  rw[q.1]at W
  have Y:k=i:=by simpa using W
  subst Y
  exact le done a w [] U q.2 h
 |cons c o lo=>
  intro done a w q lf U h
  simp only[mO,Bool.and_eq_true]at q
  obtain⟨⟨⟨⟨lp,lq⟩,lr⟩,ls⟩,q⟩:=q
  have la:i∈Region.ready md ops done:=by simpa using lq
  refine⟨fun O=>(by rw[O]at la;cases la),fun k W=>?_⟩
  by_cases Y:k=i
  ·subst Y
   exact le done a w (c::o) U ls h
  ·have:=List.all_eq_true.1 lp k W
   rw[Bool.or_eq_true]at this
   have lt:k=c:=by
    rcases this with O|O
    ·exact absurd (Nat.eq_of_beq_eq_true O) Y
    ·exact Nat.eq_of_beq_eq_true O
   subst lt
   obtain⟨lu,ok,lb,lv⟩:=mem_ready.1 W
   have lw:aa.apart ops ok=true:=Region.free_spec Z lr k ok lb Y lu fun e lx ly lz=>by
    have O:=lv e lx ly
    rw[lz,getD_both (mem_ready.1 la).1]at O
    cases O
   have lg:∀cs b,aa.op≠.select cs b:=fun cs b=>Region.noSelect_spec ld i aa cs b Z
   rw[show(k::o).length+R.length=(o.length+R.length)+1 by simp only[List.length_cons];omega]
   refine wpOp_mono (fun lc w' h'=>?_) (QF (Q':=Q) lb lw lg (fun cs b=>Region.noSelect_spec ld k ok cs b lb) lm h)
   obtain⟨lA,lh,lB⟩:=h'
   have li:d<lc.tmps.size:=by rw[lA.size];exact lf
   refine lo _ lc w' q li ?_ lB
   rw[execOp_put aa lg lc aa.dst v (fun x lj=>by rw[ai]at lj;cases lj;exact ll)]at lh
   rw[lh,ai]
   simp[Act.put,li]
def pI(md:Region.Mode)(ops:Array Oper)(O R:List Nat)(i:Nat)(o q:List Nat):Bool:=mx md ops O R (i::o++q) (mO md ops i q o)
theorem SK{i:Nat}{o R:List Nat}{done:Array Bool}(h:mO md ops i R o done=true){j:Nat}(q:j∈Region.ready md ops done):j∈i::o++R:=by
 cases o with
 |nil=>
  simp only[mO,Bool.and_eq_true,decide_eq_true_eq]at h
  rw[h.1]at q
  have:j=i:=by simpa using q
  subst this
  simp
 |cons c o=>
  simp only[mO,Bool.and_eq_true]at h
  have:=List.all_eq_true.1 h.1.1.1.1 j q
  rw[Bool.or_eq_true]at this
  rcases this with O|O
  ·rw[Nat.eq_of_beq_eq_true O];simp
  ·rw[Nat.eq_of_beq_eq_true O];simp
theorem Rr{id:Nat}{Q:Exit->Act->World->Prop}{a:Act}{w:World}{l:List Oper}(O R:List Nat)(i:Nat)(o q:List Nat){aa:Oper}{d:Nat}(Y:P.follows .mixedOrders=true)(U:pI .any l.toArray O R i o q=true)
  (Z:O.length+(R.length+(o.length+q.length+1))=l.length)(la:l[i]? =some aa)(ai:aa.dst=some d)(lb:aa.guard=none)(lc:(aa.looksAt l.toArray).contains d=false)
  (ld:C {w with drawn:=w.drawn+1})
  (h:wpQuiet P l.toArray (fun _=>True) (wpQuiet P l.toArray C (fun W=>∀w',C w'->d<W.tmps.size/\∃v,(execOp W.eval aa).run P w'=.ok (.value v) w'/\jI P l.toArray (dT Q) aa d q o (W.put aa.dst v) w') (bN l.toArray R)) (bN l.toArray O) a):
  (Code.region id l.toArray true).wp P Q a w:=by
 have le:Region.noSelect l.toArray=true:=by
  unfold pI mx at U
  simp only[Bool.and_eq_true]at U
  exact U.1.1.1
 exact Code.wp_mono (Q:=dT Q) (fun e a w h=>by obtain⟨rfl,h⟩:=h;exact h)
  (xg O R (i::o++q) (mO .any l.toArray i q o) _ Y U (fun d j ai lf=>SK ai lf) (fun e a w h=>h.1)
   (fun d' a w lg lh=>by
    obtain⟨li,v,lj,lk⟩:=lh
    exact Rk (by simpa using la) ai lb (by simpa using lc) le (fun e a w h=>h.1) o d' a w lg li lj lk) Z ld h)
end
end Go.Ev
namespace Go.Ev
open Go Go.RowKit
variable [cm]
variable {cx:bJ} {m:Nat->Value} {st st':af} {T:Array Value} {w w':World} {E:Env} {Q:di} {ops:Array Oper} {l:List Oper}
variable [aj cx]
def rU(aa:Oper):Bool:=match aa.op with
 |.binOp _ _ _ _ _=>true
 |_=>false
def yI(P:Program)(aa:Oper)(s:ap):Bool:=rU aa||u4 P aa s
theorem Xo(h:ao cx m st T w){aa:Oper}{orc:List ak}{r:dS}(q:rU aa=true)(o:dN cx.P st aa.op orc=some r)(Y:bW r.ob):
  ∃v,(∀w',(execOp (Act.eval ⟨T,aj.D cx⟩) aa).run cx.P w'=.ok (.value v) w')/\aX w (au cx m st.ids) m v r.aU:=by
 unfold rU at q
 split at q
 case h_2=>cases q
 rename_i lc t x y ld O
 rw[O]at o
 simp only[dN]at o
 split at o
 ·rename_i a b Z la
  split at o
  ·rename_i r ob R
   cases o
   obtain⟨v,U,W⟩:=En (ox:=x) (oy:=y) (dt h Z) (dt h la) R Y
   exact⟨v,fun w'=>cF (by simp only[execOp,O]) (U w'),W _ _⟩
  ·split at o
   ·rename_i r ob R
    cases o
    obtain⟨v,U,W⟩:=MH (ox:=x) (oy:=y) (dt h Z) (dt h la) (fun lb=>by subst lb;rfl) R Y
    exact⟨v,fun w'=>cF (by simp only[execOp,O]) (U w'),W _ _⟩
   ·cases o
 ·cases o
theorem abx(Y:bE E cx)(h:ao cx m st T w){aa:Oper}{orc:List ak}{r:dS}(q:ga E st aa orc=some r)(la:bW r.ob)(Z:yI E.P aa r.aU=true):
  ∃v,(∀w',(execOp (Act.eval ⟨T,aj.D cx⟩) aa).run cx.P w'=.ok (.value v) w')/\aX w (au cx m st.ids) m v r.aU:=by
 cases O:rU aa with
 |true=>
  have ld:dN cx.P st aa.op orc=some r:=by
   unfold ga at q
   rw[<-Y.P]at q
   cases lb:dN cx.P st aa.op orc with
   |some lg=>rw[lb]at q;simpa using q
   |none=>
    rw[lb]at q
    unfold rU at O
    split at O
    case h_2=>cases O
    rename_i R
    simp[qI,R]at q
  exact Xo h O ld la
 |false=>
 have o:u4 E.P aa r.aU=true:=by unfold yI at Z;rw[O]at Z;simpa using Z
 obtain⟨v,aJ,lc⟩:=AM Y h q la
 refine⟨v,?_,lc⟩
 rw[<-Y.P]at o
 have U:=aJ w (Ext.refl w)
 unfold Oper.quietAt at U
 have le:ir aa=true:=by
  unfold u4 at o
  split at o
  ·rename_i R;unfold ir;rw[R]
  ·rename_i R;unfold ir;rw[R]
  ·simp only[Bool.and_eq_true]at o;exact o.1
  ·cases o
  ·exact o
 cases W:(execOp (Act.eval ⟨T,aj.D cx⟩) aa).run cx.P w with
 |halt e lf=>rw[W]at U;exact U.elim
 |ok n lf=>
  obtain⟨u,rfl⟩:=F6 le W
  rw[W]at U
  obtain⟨rfl,rfl⟩:=U
  exact(TT o W lc).2
def iI(E:Env)(ops:Array Oper):List Oper->af->List ak->Option (af×List ak×List Prop)
 |[],st,orc=>some (st,orc,[])
 |aa::l,st,orc=>match eT ops st aa with
  |some true=>match aa.dst,ga E st aa orc with
   |some d,some r=>match Nat.blt d E.n,yI E.P aa r.aU,iI E ops l (st.put d r.aU) r.orc with
    |true,true,some (o,q,O)=>some (o,q,r.ob++O)
    |_,_,_=>none
   |_,_=>none
  |some false=>match aa.dst with
   |some d=>match Nat.blt d E.n with
    |true=>iI E ops l (st.put d .undef) orc
    |false=>none
   |none=>iI E ops l st orc
  |none=>none
theorem uw(q:bE E cx){Q':Act->Prop}:∀{l:List Oper} {st:af} {T:Array Value} {orc orc':List ak} {st':af} {ob:List Prop},al cx st T w->iI E ops l st orc=some (st',orc',ob)->bW ob->
  (∀Z,al cx st' Z w->Q' ⟨Z,aj.D cx⟩)->wpQuiet cx.P ops (fun _=>True) Q' l ⟨T,aj.D cx⟩
 |[],st,T,_,_,_,_,h,o,_,O=>by
  cases o
  exact O T h
 |aa::l,st,T,orc,orc',st',ob,h,o,U,O=>by
  unfold iI at o
  unfold wpQuiet
  split at o
  ·rename_i W
   rw[ja h W]
   simp only[if_true]
   split at o
   ·rename_i d r ai la
    split at o
    ·rename_i lg lh li Y lb lc
     cases o
     obtain⟨ld,le⟩:=pq U
     obtain⟨m,R⟩:=h
     obtain⟨v,aJ,lf⟩:=abx q R la ld lb
     refine⟨v,fun w' _=>by unfold Oper.quietAt;rw[aJ w'];exact⟨rfl,rfl⟩,?_⟩
     rw[ai]
     exact uw q ⟨m,R.put (by rw[q.n];exact dg Y) lf⟩ lc le O
    ·cases o
   ·cases o
  ·rename_i W
   rw[ja h W]
   simp only[Bool.false_eq_true,if_false]
   split at o
   ·rename_i d ai
    split at o
    ·rename_i Y
     obtain⟨m,R⟩:=h
     rw[ai]
     exact uw q ⟨m,R.put (d:=d) (s:=.undef) (v:=undef) (by rw[q.n];exact dg Y) rfl⟩ o U O
    ·cases o
   ·rename_i ai
    rw[ai]
    exact uw q h o U O
  ·cases o
theorem Va{id:Nat}{l:List Oper}(o q O:List Nat)(R:cx.P.follows .mixedOrders=true)(U:AK .any l.toArray o q O=true)(Y:o.length+(q.length+O.length)=l.length)
  (h:∀T w,al cx st T w->wpQuiet cx.P l.toArray (fun _=>True) (wpQuiet cx.P l.toArray (Ext w) (fun Z=>∀w',Ext w w'->wpList cx.P l.toArray (dT Q) (bN l.toArray O) Z w') (bN l.toArray q)) (bN l.toArray o) ⟨T,aj.D cx⟩):
  W cx Q (.region id l.toArray true) st:=by
 intro T w la
 exact Wy (C:=Ext w) o q O R U Y (Ext.refl w).drew (h T w la)
/-! Quiet ones again behind those that come one by one. -/
section
variable {P:Program} {md:Region.Mode} {C:World->Prop}
def tw(md:Region.Mode)(ops:Array Oper)(K:Array Bool->Bool):List Nat->Array Bool->Bool
 |[],done=>K done
 |i::is,done=>decide (Region.ready md ops done=[i])&&tw md ops K is (done.setIfInBounds i true)
theorem GQ{Q Q':di}{j:Nat}(o:∀e a w,Q e a w->e=.normal){K:Act->World->Prop}{a:Act}{w:World}(h:wpOp P ops Q j K a w):wpOp P ops Q' j K a w:=by
 have U:¬LetsOut Q:=fun⟨a,w,h⟩=>Exit.noConfusion (o _ _ _ h)
 unfold wpOp at*
 split
 ·rename_i q;simp only[q]at h;exact h
 ·rename_i aa q
  simp only[q]at h
  split
  ·rename_i O
   simp only[O,if_true]at h
   rcases h with h|⟨_,W⟩
   case inr=>exact absurd W U
   refine .inl ?_
   unfold Oper.wp at*
   generalize (execOp a.eval aa).run P w=r at*
   cases r with
   |ok n w'=>
    cases n<;>simp only[Oper.upon]at h⊢
    case value u=>exact h
    case skip=>exact h
    case defer d=>exact h
    case enter f args=>
     refine Calls.mono h fun e Y R=>?_
     cases e with
     |returned u=>exact R
     |panicked c=>cases o _ _ _ R
     |outgrown=>exact absurd R U
    case row row args=>exact h
   |halt x w'=>
    cases x<;>simp only[Oper.upon]at h⊢
    case panic u=>cases o _ _ _ h
  ·rename_i O
   simp only[O]at h
   exact h
theorem Kq{Q1 Q:di}{g:Nat}{KD:Array Bool->Bool}(q:∀e a w,Q1 e a w->e=.normal)(O:∀d a w,KD d=true->Q1 .normal a w->wpAny P md ops Q g d a w):
  ∀(l:List Nat) (done:Array Bool) (a:Act) (w:World),tw md ops KD l done=true->wpList P ops Q1 (bN ops l) a w->wpAny P md ops Q (l.length+g) done a w
 |[],done,a,w,o,h=>by rw[List.length_nil,Nat.zero_add];exact O done a w o h
 |i::l,done,a,w,o,h=>by
  simp only[tw,Bool.and_eq_true,decide_eq_true_eq]at o
  have Y:i∈Region.ready md ops done:=by rw[o.1];exact List.mem_cons_self
  obtain⟨_,aa,R,_⟩:=mem_ready.1 Y
  unfold bN at h
  rw[R]at h
  rw[List.length_cons,Nat.succ_add]
  refine⟨fun U=>(by rw[o.1]at U;cases U),fun k W=>?_⟩
  rw[o.1]at W
  have Z:k=i:=by simpa using W
  subst Z
  have la:wpOp P ops Q1 k (wpList P ops Q1 (bN ops l)) a w:=by unfold wpOp;simp only[R];exact h
  exact wpOp_mono (fun lb w' h'=>Kq q O l _ lb w' o.2 h') (GQ q la)
theorem MC{Q:Act->Prop}(O:Region.noSelect ops=true):∀(l:List Nat) (done:Array Bool) (a:Act),fE md ops (fun d=>(Region.ready md ops d).isEmpty) l done=true->wpQuiet P ops C Q (bN ops l) a->wpAnyQ P md ops C Q l.length done a
 |[],done,a,o,h=>⟨by simpa[fE]using o,h⟩
 |i::l,done,a,o,h=>by
  unfold fE at o
  simp only[Bool.and_eq_true]at o
  obtain⟨⟨U,W⟩,o⟩:=o
  have R:i∈Region.ready md ops done:=by simpa using U
  obtain⟨_,aa,q,_⟩:=mem_ready.1 R
  unfold bN at h
  rw[q]at h
  obtain⟨v,Y,Z⟩:=yieldsIn_of_qOp (K:=wpQuiet P ops C Q (bN ops l)) q (by unfold qOp;rw[q];exact h)
  exact wpAnyQ_first q (Region.noSelect_spec O) l.length done a (Region.free_spec q W) R Y (MC O l _ _ o Z)
end
def BB(md:Region.Mode)(ops:Array Oper)(q O o R:List Nat):Bool:=!o.isEmpty&&mx md ops q O o (tw md ops (fE md ops (fun d=>(Region.ready md ops d).isEmpty) R) o)
def uY(cx:bJ)(ops:Array Oper)(o:List Nat)(Q:di):di:=fun e a w=>e=.normal/\wpQuiet cx.P ops (Ext w) (fun q=>∀w',Ext w w'->dT Q .normal q w') (bN ops o) a
theorem QS{id:Nat}{l:List Oper}(R U O q:List Nat)(Z:cx.P.follows .mixedOrders=true)(o:BB .any l.toArray R U O q=true)(la:R.length+(U.length+(O.length+q.length))=l.length)
  (h:∀T w,al cx st T w->wpQuiet cx.P l.toArray (fun _=>True) (wpQuiet cx.P l.toArray (Ext w) (fun lb=>∀w',Ext w w'->wpList cx.P l.toArray (uY cx l.toArray q Q) (bN l.toArray O) lb w') (bN l.toArray U)) (bN l.toArray R) ⟨T,aj.D cx⟩):
  W cx Q (.region id l.toArray true) st:=by
 intro T w lc
 unfold BB at o
 rw[Bool.and_eq_true]at o
 obtain⟨ld,o⟩:=o
 have le:Region.noSelect l.toArray=true:=by
  unfold mx at o
  simp only[Bool.and_eq_true]at o
  exact o.1.1.1
 refine Code.wp_mono (Q:=dT Q) (fun e a w h=>by obtain⟨rfl,h⟩:=h;exact h)
  (xg (C:=Ext w) R U O _ _ Z o (fun d j ai Y=>?_) (fun e a w h=>h.1) (fun d a w ai lf=>?_) la (Ext.refl w).drew (h T w lc))
 ·cases O with
  |nil=>simp at ld
  |cons i is=>
   simp only[tw,Bool.and_eq_true,decide_eq_true_eq]at ai
   rw[ai.1]at Y
   have:j=i:=by simpa using Y
   subst this
   exact List.mem_cons_self
 ·refine Kq (Q1:=uY cx l.toArray q Q) (KD:=fE .any l.toArray (fun d=>(Region.ready .any l.toArray d).isEmpty) q) (fun e a w h=>h.1) (fun d a w ai h=>?_) O d a w ai lf
  exact wpAny_of_quiet (C:=Ext w) (fun a w' lg h=>h w' lg) q.length d a w (Ext.refl w) (MC le q d a ai h.2)
def pf(cx:bJ)[aj cx](ops:Array Oper)(K:World->Act->Prop)(l:List Oper)(st:af):Prop:=∀T w,al cx st T w->wpQuiet cx.P ops (fun _=>True) (K w) l ⟨T,aj.D cx⟩
theorem XM{K:World->Act->Prop}(h:qh cx K st):pf cx ops K [] st:=fun T w o=>h T w o
theorem Cu{K:World->Act->Prop}(o:bE E cx){aa:Oper}{orc:List ak}{ob:List Prop}(q:iI E ops [aa] st orc=some (st',[],ob))(O:bW ob)(h:pf cx ops K l st'):pf cx ops K (aa::l) st:=by
 intro T w R
 exact oe (P:=cx.P) (ops:=ops) (l1:=[aa]) (l2:=l) (C:=fun _=>True) (Q':=K w) (a:=⟨T,aj.D cx⟩) (uw o R q O fun U W=>h U w W)
theorem Zs{α:Type}{o:World->Act->Prop}(F:α->Prop)(S:α->af)(n:Nat)(O:∀a,F a->pf cx ops o (l.drop n) (S a))
  (R:∀K,(∀a,F a->qh cx K (S a))->pf cx ops K (l.take n) st):pf cx ops o l st:=by
 intro T w q
 have:=oe (P:=cx.P) (ops:=ops) (l1:=l.take n) (l2:=l.drop n)
  (R (fun w=>wpQuiet cx.P ops (fun _=>True) (o w) (l.drop n)) (fun a U T w q=>O a U T w q) T w q)
 rwa [List.take_append_drop]at this
/-! One that floats past others. -/
def pC:ap->Bool
 |.val t _=>t.flat
 |.ptr _ _=>true
 |.row _=>true
 |.osl _=>true
 |_=>false
theorem S7{w:World}{M:Nat->Prop}{m:Nat->Value}{v v':Value}{s:ap}(ai:pC s=true)(h:aX w M m v s)(h':aX w M m v' s):v=v':=by
 cases s<;>first|(cases ai;done)|skip
 all_goals unfold aX at h h'
 ·exact nv ai h h'
 ·obtain⟨g,q,rfl⟩:=h
  obtain⟨O,o,rfl⟩:=h'
  rw[q]at o
  injection o with o
  injection o with o
  injection o with o
  rw[o]
 ·rw[h,h']
 ·obtain⟨us,q⟩:=h
  obtain⟨R,o⟩:=h'
  rw[q]at o
  injection o with o
  have:=congrArg Array.toList o
  simp at this
  exact this.1
def iX(aa:Oper):Bool:=match aa.op with
 |.load _ _=>true
 |_=>false
theorem LZ{P:Program}{aa:Oper}(h:iX aa=true){ρ:Operand->Value}{w q:World}{n:Next}(o:(execOp ρ aa).run P w=.ok n q):∃v,n=.value v:=by
 unfold iX at h
 split at h
 ·rename_i t x O
  simp only[execOp,O]at o
  rw[Sem.run_bind]at o
  generalize Sem.run P (Instr.loadAt t (ρ x)) w=R at o
  cases R with
  |halt e U=>cases o
  |ok v U=>cases o;exact⟨v,rfl⟩
 ·cases h
theorem AL(O:bE E cx)(h:ao cx m st T w){aa:Oper}(R:iX aa=true){orc:List ak}{r:dS}(U:ga E st aa orc=some r)(W:bW r.ob):
  ∃v,(∀w',Ext w w'->(execOp (Act.eval ⟨T,aj.D cx⟩) aa).run cx.P w'=.ok (.value v) w')/\aX w (au cx m st.ids) m v r.aU:=by
 obtain⟨v,aJ,Y⟩:=AM O h U W
 refine⟨v,fun w' Z=>?_,Y⟩
 have o:=aJ w' Z
 unfold Oper.quietAt at o
 cases q:(execOp (Act.eval ⟨T,aj.D cx⟩) aa).run cx.P w' with
 |halt e la=>rw[q]at o;exact o.elim
 |ok n la=>
  obtain⟨u,rfl⟩:=LZ R q
  rw[q]at o
  obtain⟨rfl,rfl⟩:=o
  rfl
theorem FS(q:bE E cx)(O:al cx st T w){aa:Oper}(R:iX aa=true){orc:List ak}{r:dS}(U:ga E st aa orc=some r)(W:bW r.ob){d:Nat}(Y:look st.ab d=some r.aU)(ai:pC r.aU=true):
  (execOp (Act.eval ⟨T,aj.D cx⟩) aa).run cx.P w=.ok (.value (T.getD d undef)) w:=by
 obtain⟨m,o⟩:=O
 obtain⟨v,Z,la⟩:=AL q o R U W
 obtain⟨u,lb,lc⟩:=o.de d _ (be Y)
 have:=S7 ai la lc
 subst this
 have e:T.getD d undef=v:=by simp[lb]
 rw[e]
 exact Z w (Ext.refl w)
def jv(cx:bJ)(ops:Array Oper)(aa:Oper)(d:Nat)(o q:List Nat)(Q:di):di:=fun e a w=>e=.normal/\(execOp a.eval aa).run cx.P w=.ok (.value (a.tmps.getD d undef)) w/\jI cx.P ops (dT Q) aa d o q a w
theorem FJ{aa O:Oper}{d c:Nat}{o q:List Nat}(R:ops[c]? =some O)(h:bU cx ops (jv cx ops aa d o q Q) [O] st)(U:al cx st T w):jI cx.P ops (dT Q) aa d o (c::q) ⟨T,aj.D cx⟩ w:=by
 have W:=h T w U
 refine wpOp_mono (K:=jv cx ops aa d o q Q .normal) (fun a w h=>h.2) (GQ (Q:=jv cx ops aa d o q Q) (fun e a w h=>h.1) ?_)
 unfold wpOp
 rw[R]
 exact W
theorem RR(O:bE E cx){aa:Oper}{d:Nat}{o:List Nat}(R:iX aa=true){orc:List ak}{r:dS}(U:ga E st aa orc=some r)(W:bW r.ob)(Y:look st.ab d=some r.aU)(ai:pC r.aU=true)
  (h:bU cx ops (dT Q) (bN ops o) st):N cx (jv cx ops aa d o [] Q) .normal st:=fun T w q=>⟨rfl,FS O q R U W Y ai,h T w q⟩
theorem Yv(U:bE E cx){aa o:Oper}{d c:Nat}{q O:List Nat}(W:iX aa=true){orc:List ak}{r:dS}(Y:ga E st aa orc=some r)(Z:bW r.ob)(la:look st.ab d=some r.aU)(ai:pC r.aU=true)
  (lb:ops[c]? =some o)(h:bU cx ops (jv cx ops aa d q O Q) [o] st):N cx (jv cx ops aa d q (c::O) Q) .normal st:=fun T w R=>⟨rfl,FS U R W Y Z la ai,FJ lb h R⟩
theorem Xh(h:N cx Q .normal st):N cx (dT Q) .normal st:=fun T w o=>⟨rfl,h T w o⟩
theorem Pk{id:Nat}{l:List Oper}(Y:bE E cx)(o q:List Nat)(i:Nat)(O R:List Nat){aa:Oper}{d:Nat}(Z:E.P.follows .mixedOrders=true)(la:pI .any l.toArray o q i O R=true)
  (lb:o.length+(q.length+(O.length+R.length+1))=l.length)(lc:l[i]? =some aa)(ai:aa.dst=some d)(ld:aa.guard=none)(le:(aa.looksAt l.toArray).contains d=false)(lg:Nat.blt d E.n=true)
  (h:∀T w,al cx st T w->wpQuiet cx.P l.toArray (fun _=>True) (wpQuiet cx.P l.toArray (Ext w) (fun U=>∀w',Ext w w'->d<U.tmps.size/\∃v,(execOp U.eval aa).run cx.P w'=.ok (.value v) w'/\jI cx.P l.toArray (dT Q) aa d R O (U.put aa.dst v) w') (bN l.toArray q)) (bN l.toArray o) ⟨T,aj.D cx⟩):
  W cx Q (.region id l.toArray true) st:=by
 intro T w lf
 exact Rr (C:=Ext w) o q i O R (by rw[Y.P];exact Z) la lb lc ai ld le (Ext.refl w).drew (h T w lf)
def xw(E:Env)(ops:Array Oper)(q O:List Nat)(aa:Oper)(d:Nat)(st:af)(orc orci:List ak)(R bs aq:List Nat):Option (af×List ak×List Prop):=
 match iI E ops (bN ops q) st orc with
 |some (U,W,Y)=>match gH E ops (bN ops O) U W with
  |some (o,ba,Z)=>match ga E o aa orci with
   |some r=>match(o.put d r.aU).norm R bs aq with
    |some s=>some (s,ba++r.orc,Y++(Z++r.ob))
    |none=>none
   |none=>none
  |none=>none
 |none=>none
theorem PM{id:Nat}{l:List Oper}(q:bE E cx)(O R:List Nat)(i c:Nat)(U Y:List Nat)(le bs aq:List Nat){aa lb:Oper}{d:Nat}{orc orci:List ak}{ob:List Prop}(lf:E.P.follows .mixedOrders=true)(lg:pI .any l.toArray O R i (c::U) Y=true)
  (lh:O.length+(R.length+((c::U).length+Y.length+1))=l.length)(li:l[i]? =some aa)(ai:aa.dst=some d)(lj:aa.guard=none)(lk:(aa.looksAt l.toArray).contains d=false)(lc:Nat.blt d E.n=true)(ll:iX aa=true)(lm:l[c]? =some lb)
  (o:xw E l.toArray O R aa d st orc orci le bs aq=some (st',[],ob))(Z:bW ob)(h:bU cx l.toArray (jv cx l.toArray aa d Y U Q) [lb] st'):W cx Q (.region id l.toArray true) st:=by
 unfold xw at o
 split at o
 case h_2=>cases o
 rename_i lB lC lD ln
 split at o
 case h_2=>cases o
 rename_i lE ba lF lo
 split at o
 case h_2=>cases o
 rename_i r lp
 split at o
 case h_2=>cases o
 rename_i s lq
 simp only[Option.some.injEq,Prod.mk.injEq]at o
 obtain⟨rfl,lr,rfl⟩:=o
 obtain⟨rfl,_⟩:=List.append_eq_nil_iff.1 lr
 obtain⟨ls,Z⟩:=pq Z
 obtain⟨lt,lu⟩:=pq Z
 have ld:d<cx.n:=by rw[q.n];exact dg lc
 refine Pk q O R i (c::U) Y lf lg lh li ai lj lk lc fun T w lv=>?_
 refine uw q lv ln ls fun lG lw=>?_
 refine nk q lw lo lt fun lH lx w' ly=>?_
 obtain⟨m,la⟩:=lx.ext ly
 obtain⟨v,lz,lA⟩:=AL q la ll lp lu
 refine⟨by rw[la.size];exact ld,v,lz w' (Ext.refl w'),?_⟩
 rw[ai]
 exact FJ (by simpa using lm) h ⟨m,(la.put ld lA).norm lq⟩
theorem PJ{id:Nat}{l:List Oper}(Z:bE E cx)(o q:List Nat)(i c:Nat)(O R:List Nat)(U bs aq:List Nat){aa Y:Oper}{d:Nat}{orc orci:List ak}{ob:List Prop}(la:l[i]? =some aa)(ai:aa.dst=some d)(lb:l[c]? =some Y)(lc:E.P.follows .mixedOrders=true)(ld:pI .any l.toArray o q i (c::O) R=true)
  (le:o.length+(q.length+((c::O).length+R.length+1))=l.length)(lf:aa.guard=none)(lg:(aa.looksAt l.toArray).contains d=false)(lh:Nat.blt d E.n=true)(li:iX aa=true)
  (lj:(xw E l.toArray o q aa d st orc orci U bs aq).map Prod.snd=some ([],ob))(lk:jt ob)(h:bU cx l.toArray (jv cx l.toArray aa d R O Q) [Y] (tt (xw E l.toArray o q aa d st orc orci U bs aq))):W cx Q (.region id l.toArray true) st:=
 PM Z o q i c O R U bs aq lc ld le la ai lf lg lh li lb (zb lj) lk.all h
theorem Yq(R:bE E cx){aa:Oper}{d:Nat}{q:List Nat}{orc:List ak}{ob:List Prop}(U:iX aa=true)(W:(ga E st aa orc).map dS.ob=some ob)(o:(ga E st aa orc).map dS.aU=look st.ab d)(ai:(look st.ab d).any pC=true)(Y:jt ob)
  (h:bU cx ops (dT Q) (bN ops q) st):N cx (jv cx ops aa d q [] Q) .normal st:=by
 obtain⟨r,O,Z⟩:=Option.map_eq_some_iff.1 W
 rw[O]at o
 rw[<-o]at ai
 exact RR R U O (Z▸Y.all) o.symm ai h
theorem Zx(W:bE E cx){aa q:Oper}{d c:Nat}{O R:List Nat}{orc:List ak}{ob:List Prop}(Y:iX aa=true)(Z:(ga E st aa orc).map dS.ob=some ob)(o:(ga E st aa orc).map dS.aU=look st.ab d)(ai:(look st.ab d).any pC=true)(la:jt ob)
  (lb:ops[c]? =some q)(h:bU cx ops (jv cx ops aa d O R Q) [q] st):N cx (jv cx ops aa d O (c::R) Q) .normal st:=by
 obtain⟨r,U,lc⟩:=Option.map_eq_some_iff.1 Z
 rw[U]at o
 rw[<-o]at ai
 exact Yv W Y U (lc▸la.all) o.symm ai lb h
end Go.Ev
namespace Go.Ev
open Go Go.RowKit
variable [cm]
section
variable {P:Program} {w w':World} {M:Nat->Prop}
theorem L5{α β:Type}{eq:α->α->Bool}{key:α}{x:β}:∀(ps:List (α×β)),bM eq ps key=none->eq key key=true->bM eq (ps++[(key,x)]) key=some x
 |[],_,h=>by simp[bM,h]
 |p::ps,o,h=>by
  unfold bM at o
  rw[List.cons_append]
  unfold bM
  cases q:eq key p.1 with
  |true=>rw[q]at o;simp at o
  |false=>rw[q]at o;simp at o⊢;exact L5 ps o h
theorem Lh{α:Type}(f:α->α):∀(l:List α) (n:Nat) (e:α),l[n]? =some e->f e=e->l.modify n f=l
 |[],n,e,h,_=>by simp at h
 |x::l,0,e,h,o=>by
  simp at h
  subst h
  show f x::l=x::l
  rw[o]
 |x::l,n+1,e,h,o=>by
  rw[List.modify_succ_cons,Lh f l n e (by simpa using h) o]
theorem MT{α:Type}{f:α->α->Bool}(h:∀x,f x x=true):∀xs:List α,kJ f xs xs=true
 |[]=>rfl
 |x::xs=>by simp only[kJ,h x,MT h xs,Bool.and_self]
theorem S3:∀(t:ah) (x:t.el),t.flat=true->aR t x x=true:=by
 intro t
 induction t with
 |int k=>intro x _;exact beq_self_eq_true (α:=Int) x
 |bool=>intro x _;exact beq_self_eq_true (α:=Bool) x
 |str=>intro x _;exact beq_self_eq_true (α:=List UInt8) x
 |unit=>intro x _;rfl
 |pair a b o q=>
  intro x h
  simp only[ah.flat,Bool.and_eq_true]at h
  simp only[aR,o x.1 h.1,q x.2 h.2,Bool.and_self]
 |arr n t O=>intro x h;exact MT (fun y=>O y h) x
 |ab t _=>intro x h;cases h
 |ptr t _=>intro x h;cases h
 |fn f t _=>intro x h;cases h
 |err=>intro x h;cases h
 |cO=>intro x h;cases h
 |dj=>intro x h;cases h
 |cP n t _=>intro x h;cases h
 |alt n t r _ _=>intro x h;cases h
 |map k v _ _=>intro x h;cases h
theorem P4{mt W ll:TypeId}{d d':Nat}{u v:ah}(Y:P.underlying mt=some (.map W ll))(Z:dc P d W=some u)(la:eD P d' W=true)(ai:d'<=10000)(lf:u.flat=true)(lv:v.flat=true)
  {z:Value}(lg:∀w,(zeroValue ll).run P w=.ok z w)(lb:∀w M,bf w M z v (cl v))
  {kv:Value}{key:u.el}(o:bf w M kv u key){g:Nat}{es:Array MapEntry}{clock:Nat}{ps:List (u.el×v.el)}
  (lc:w.heap[g]? =some (.map es clock))(q:eC (eI w M u) (eI w M v) es.toList ps)
  {t:Value}{lh:World}(O:(Instr.mapEntry mt (.map (some g)) kv).run P w=.ok t lh):
  ∃r,bf w M r v ((bM (aR u) ps key).getD (cl v))/\(Instr.lookup mt (.map (some g)) kv false).run P w=.ok r w/\(Instr.lookup mt (.map (some g)) kv false).run P lh=.ok r lh:=by
 obtain⟨r,lm,lw⟩:=rb Y Z la ai lg lb o q
 have ln:=lw w (.map (some g)) (.inr ⟨g,clock,rfl,lc⟩) false
 simp only[Bool.false_eq_true,if_false]at ln
 refine⟨r,lm,ln,?_⟩
 have lo:=ql (P:=P) false d W u Z d' la 10000 ai w w M kv key o
 have ld:=vn Z la ai o w q
 have lp:(getObj g).run P w=.ok (.map es clock) w:=by simp[getObj,Sem.run,lc]
 have lq:∀aa,(setObj g aa).run P w=.ok () {w with heap:=w.heap.setIfInBounds g aa}:=fun aa=>by simp[setObj,Sem.run,lc]
 have lx:=gB lc
 have fin:∀(R:Array MapEntry) (U:Nat) (li:List (u.el×v.el)),eC (eI w M u) (eI w M v) R.toList li->(bM (aR u) li key).getD (cl v)=(bM (aR u) ps key).getD (cl v)->
   (Instr.lookup mt (.map (some g)) kv false).run P {w with heap:=w.heap.setIfInBounds g (.map R U)}=.ok r {w with heap:=w.heap.setIfInBounds g (.map R U)}:=by
  intro R U li ly lz
  obtain⟨lJ,lr,lA⟩:=rb Y Z la ai lg lb o ly
  have ls:=lA {w with heap:=w.heap.setIfInBounds g (.map R U)} (.map (some g)) (.inr ⟨g,U,rfl,by show(w.heap.setIfInBounds g _)[g]? =_;rw[Array.getElem?_setIfInBounds_self_of_lt lx]⟩) false
  simp only[Bool.false_eq_true,if_false]at ls
  rw[lz]at lr
  rw[nv lv lm lr]
  exact ls
 rcases vE (kv:=kv) (vv:=z) (val:=cl v) (eq:=aR u) (key:=key) o (lb w M) es.toList ps 0 q with ⟨le,lj⟩|⟨n,e,lB,le,lj,lC,lD,lK⟩
 ·rw[le]at ld
  unfold Instr.mapEntry at O
  simp only[Sem.run_bind,run_underlying Y,Result.andThen_ok,lp,lo,ld,lq,lg,Sem.run_pure]at O
  cases O
  have lt:bM (aR u) ps key=none:=by
   rcases Gj (eq:=aR u) (key:=key) es.toList ps 0 q with ⟨_,h⟩|⟨n,e,y,h,_⟩
   ·exact h
   ·rw[le]at h;cases h
  refine fin _ _ (ps++[(key,cl v)]) ?_ ?_
  ·rw[Array.toList_push]
   exact yw q ⟨o,lb _ _,trivial⟩
  ·rw[L5 ps lt (S3 u key lf),lt]
   rfl
 ·rw[le,Nat.zero_add]at ld
  have lE:key=lB:=HH u lD
  subst lE
  have lu:e.key=kv:=nv lf lC o
  have lF:es[n]? =some e:=by rw[<-Array.getElem?_toList];exact lj
  have lG:((es[n]?).map (·.key)).getD kv=kv:=by rw[lF];simp[lu]
  have lH:∀lk,(Instr.keyThatStays kv kv).run P lk=.ok kv lk:=fun lk=>by
   unfold Instr.keyThatStays
   rw[if_pos (Fq lf o)]
   rfl
  have lI:es.modify n (fun e=>{e with key:=kv})=es:=by
   apply Array.ext'
   rw[Array.toList_modify]
   exact Lh _ es.toList n e lj (by rw[<-lu])
  unfold Instr.mapEntry at O
  simp only[Sem.run_bind,run_underlying Y,Result.andThen_ok,lp,lo,ld,lG,lH,lq,Sem.run_pure,lI]at O
  cases O
  exact fin es clock ps q rfl
end
section
variable {P:Program} {ops:Array Oper} {md:Region.Mode} {Q:Exit->Act->World->Prop}
theorem wI{aa:Oper}{l:List Oper}{a:Act}{w w':World}{v:Value}(o:aa.guard=none)(q:(execOp a.eval aa).run P w=.ok (.value v) w')(h:wpList P ops Q l (a.put aa.dst v) w'):wpList P ops Q (aa::l) a w:=by
 unfold wpList
 rw[if_pos (show Region.wanted aa (yielded ops a.tmps)=true from by unfold Region.wanted;rw[o])]
 refine .inl ?_
 unfold Oper.wp
 rw[q]
 exact h
theorem OK{aa:Oper}{l:List Oper}{a:Act}{w w':World}(o:aa.guard=none)(q:(execOp a.eval aa).run P w=.ok .skip w')(h:wpList P ops Q l (a.put aa.dst undef) w'):wpList P ops Q (aa::l) a w:=by
 unfold wpList
 rw[if_pos (show Region.wanted aa (yielded ops a.tmps)=true from by unfold Region.wanted;rw[o])]
 refine .inl ?_
 unfold Oper.wp
 rw[q]
 exact h
structure jB where
 ba:Oper
 eN:Oper
 gq:Oper
 hY:Oper
 jT:Oper
 d2:Nat
 d3:Nat
 d4:Nat
 d5:Nat
def jB.ok(C:jB)(ops:Array Oper):Bool:=
 C.ba.guard.isNone&&(C.eN.guard.isNone&&(C.gq.guard.isNone&&(C.hY.guard.isNone&&(C.jT.guard.isNone&&
 (decide (C.ba.dst=some C.d2)&&(decide (C.eN.dst=some C.d3)&&(decide (C.gq.dst=some C.d4)&&(decide (C.hY.dst=some C.d5)&&(decide (C.jT.dst=none)&&
 (!(C.ba.looksAt ops).contains C.d4&&(!(C.ba.looksAt ops).contains C.d5&&(!(C.eN.looksAt ops).contains C.d4&&(!(C.eN.looksAt ops).contains C.d5&&
 (!(C.gq.looksAt ops).contains C.d2&&(!(C.gq.looksAt ops).contains C.d3&&(!(C.hY.looksAt ops).contains C.d2&&(!(C.hY.looksAt ops).contains C.d3&&
 (!Nat.beq C.d2 C.d4&&(!Nat.beq C.d2 C.d5&&(!Nat.beq C.d3 C.d4&&!Nat.beq C.d3 C.d5))))))))))))))))))))
def wa(ops:Array Oper)(c2 c3 c4 c5 c6:Nat):Option jB:=match ops[c2]?,ops[c3]?,ops[c4]?,ops[c5]?,ops[c6]? with
 |some ba,some eN,some gq,some hY,some jT=>match ba.dst,eN.dst,gq.dst,hY.dst with
  |some d2,some d3,some d4,some d5=>match jB.ok ⟨ba,eN,gq,hY,jT,d2,d3,d4,d5⟩ ops with
   |true=>some ⟨ba,eN,gq,hY,jT,d2,d3,d4,d5⟩
   |false=>none
  |_,_,_,_=>none
 |_,_,_,_,_=>none
structure rY(P:Program)(Q:Exit->Act->World->Prop)(C:jB)(a:Act)(w:World)(v2 v3 v4 v5:Value)(o q:World):Prop where
 cy:(execOp a.eval C.ba).run P w=.ok (.value v2) w
 oN:(execOp a.eval C.ba).run P o=.ok (.value v2) o
 dY:∀w',(execOp (a.put (some C.d2) v2).eval C.eN).run P w'=.ok (.value v3) w'
 gQ:(execOp a.eval C.gq).run P w=.ok (.value v4) o
 iA:∀w',(execOp (a.put (some C.d4) v4).eval C.hY).run P w'=.ok (.value v5) w'
 iE:(execOp ((((a.put (some C.d2) v2).put (some C.d3) v3).put (some C.d4) v4).put (some C.d5) v5).eval C.jT).run P o=.ok .skip q
 fin:Q .normal ((((a.put (some C.d2) v2).put (some C.d3) v3).put (some C.d4) v4).put (some C.d5) v5) q
def tp(md:Region.Mode)(ops:Array Oper)(c2 c3 c4 c5 c6:Nat)(done:Array Bool):Bool:=
 ((Region.ready md ops done).all fun j=>Nat.beq j c2||Nat.beq j c4)&&(Region.ready md ops done).contains c2&&
 fE md ops (fS md ops [c4,c5,c6]) [c3] (done.setIfInBounds c2 true)&&fE md ops (fS md ops [c2,c3,c6]) [c5] (done.setIfInBounds c4 true)
theorem Zu{a b:Nat}(h:(!Nat.beq a b)=true):a≠b:=fun e=>by subst e;simp at h
theorem QA{c2 c3 c4 c5 c6:Nat}{C:jB}(lb:Region.noSelect ops=true)(le:∀e a w,Q e a w->e=.normal)(q:wa ops c2 c3 c4 c5 c6=some C){done:Array Bool}{a:Act}{w:World}(lf:tp md ops c2 c3 c4 c5 c6 done=true){v2 v3 v4 v5:Value}{o lq:World}(F:rY P Q C a w v2 v3 v4 v5 o lq):
  wpAny P md ops Q 5 done a w:=by
 unfold wa at q
 split at q
 case h_2=>cases q
 rename_i ba eN gq hY jT Z R la U lg
 split at q
 case h_2=>cases q
 rename_i d2 d3 d4 d5 _ _ _ _
 split at q
 case h_2=>cases q
 rename_i lh
 cases q
 simp only[jB.ok,Bool.and_eq_true,Option.isNone_iff_eq_none,decide_eq_true_eq,Bool.not_eq_true']at lh
 obtain⟨g2,g3,g4,g5,g6,li,lj,lk,ll,lm,lr,ls,lt,lu,lv,lw,lx,ly,n24,n25,n34,n35⟩:=lh
 have n24:d2≠d4:=fun e=>by subst e;simp at n24
 have n25:d2≠d5:=fun e=>by subst e;simp at n25
 have n34:d3≠d4:=fun e=>by subst e;simp at n34
 have n35:d3≠d5:=fun e=>by subst e;simp at n35
 have put:∀(c:Nat) (aa:Oper) (a:Act) (d:Nat) (v:Value),ops[c]? =some aa->(aa.looksAt ops).contains d=false->execOp (a.put (some d) v).eval aa=execOp a.eval aa:=fun c aa a d v W h=>
  execOp_put aa (fun cs b=>Region.noSelect_spec lb c aa cs b W) a (some d) v fun x lz=>by cases lz;simpa using h
 have O:∀(a:Act) (d e:Nat) (u v:Value),d≠e->(a.put (some d) u).put (some e) v=(a.put (some e) v).put (some d) u:=fun a d e u v h=>by simp only[Act.put];rw[Array.setIfInBounds_comm _ _ h]
 obtain⟨cy,oN,dY,gQ,iA,iE,fin⟩:=F
 dsimp only at cy oN dY gQ iA iE fin
 simp only[tp,Bool.and_eq_true]at lf
 obtain⟨⟨⟨lA,lB⟩,ln⟩,lo⟩:=lf
 have lp:c2∈Region.ready md ops done:=by simpa using lB
 refine⟨fun Y=>(by rw[Y]at lp;cases lp),fun k lC=>?_⟩
 have:=List.all_eq_true.1 lA k lC
 rw[Bool.or_eq_true]at this
 rcases this with Y|Y
 ·have:=Nat.eq_of_beq_eq_true Y
  subst this
  simp only[fE,Bool.and_eq_true]at ln
  obtain⟨⟨lc,ld⟩,W⟩:=ln
  unfold wpOp
  simp only[Z]
  rw[if_pos (show Region.wanted ba (yielded ops a.tmps)=true from by unfold Region.wanted;rw[g2])]
  refine .inl ?_
  unfold Oper.wp
  rw[cy]
  show wpAny P md ops Q 4 (done.setIfInBounds k true) (a.put ba.dst v2) w
  rw[li]
  refine wpAny_first R (Region.noSelect_spec lb) (fun c a w h=>Exit.noConfusion (le _ _ _ h)) 3 _ _ w (Region.free_spec R ld) (by simpa using lc) (v:=v3) (.inl ⟨by unfold Region.wanted;rw[g3],dY⟩) ?_
  refine sh [c4,c5,c6] _ _ w W ?_
  simp only[bN,la,U,lg]
  rw[lj]
  refine wI g4 (w':=o) (v:=v4) (by rw[put c4 gq _ d3 _ la lw,put c4 gq _ d2 _ la lv];exact gQ) ?_
  rw[lk]
  refine wI g5 (w':=o) (v:=v5) (by rw[O _ d3 d4 _ _ n34,put c5 hY _ d3 _ U ly,O _ d2 d4 _ _ n24,put c5 hY _ d2 _ U lx];exact iA o) ?_
  rw[ll]
  refine OK g6 iE ?_
  rw[lm]
  exact fin
 ·have:=Nat.eq_of_beq_eq_true Y
  subst this
  simp only[fE,Bool.and_eq_true]at lo
  obtain⟨⟨lc,ld⟩,W⟩:=lo
  unfold wpOp
  simp only[la]
  rw[if_pos (show Region.wanted gq (yielded ops a.tmps)=true from by unfold Region.wanted;rw[g4])]
  refine .inl ?_
  unfold Oper.wp
  rw[gQ]
  show wpAny P md ops Q 4 (done.setIfInBounds k true) (a.put gq.dst v4) o
  rw[lk]
  refine wpAny_first U (Region.noSelect_spec lb) (fun c a w h=>Exit.noConfusion (le _ _ _ h)) 3 _ _ o (Region.free_spec U ld) (by simpa using lc) (v:=v5) (.inl ⟨by unfold Region.wanted;rw[g5],iA⟩) ?_
  refine sh [c2,c3,c6] _ _ o W ?_
  simp only[bN,Z,R,lg]
  rw[ll]
  refine wI g2 (w':=o) (v:=v2) (by rw[put c2 ba _ d5 _ Z ls,put c2 ba _ d4 _ Z lr];exact oN) ?_
  rw[li]
  have lD:(((a.put (some d4) v4).put (some d5) v5).put (some d2) v2)=(((a.put (some d2) v2).put (some d4) v4).put (some d5) v5):=by
   rw[O _ d5 d2 _ _ n25.symm,O _ d4 d2 _ _ n24.symm]
  rw[lD]
  refine wI g3 (w':=o) (v:=v3) (by rw[put c3 eN _ d5 _ R lu,put c3 eN _ d4 _ R lt];exact dY o) ?_
  rw[lj]
  have lE:(((a.put (some d2) v2).put (some d4) v4).put (some d5) v5).put (some d3) v3=(((a.put (some d2) v2).put (some d3) v3).put (some d4) v4).put (some d5) v5:=by
   rw[O _ d5 d3 _ _ n35.symm,O _ d4 d3 _ _ n34.symm]
  rw[lE]
  refine OK g6 iE ?_
  rw[lm]
  exact fin
def FO(md:Region.Mode)(ops:Array Oper)(o q:List Nat)(c2 c3 c4 c5 c6:Nat):Bool:=mx md ops o q [c2,c4] (tp md ops c2 c3 c4 c5 c6)
end
section
variable {cx:bJ} {m:Nat->Value} {st st':af} {T:Array Value} {w w':World} {E:Env} {Q:di} {ops:Array Oper} {l:List Oper}
variable [aj cx]
def zZ(C:jB):Option (TypeId×Nat×Nat×BinOp×TypeId×Operand×Operand×TypeId×TypeId×Operand):=match C.ba.op,C.eN.op,C.gq.op,C.hY.op,C.jT.op with
 |.lookup mt (.tmp x) (.tmp k) false,.binOp o t a b q,.mapEntry O (.tmp x') (.tmp k'),.extract (.tmp a4) 1,.entryStore R (.tmp U) (.tmp a5) v=>
  match Nat.beq mt O&&(Nat.beq x x'&&(Nat.beq k k'&&(Nat.beq a4 C.d4&&(Nat.beq x U&&(Nat.beq a5 C.d5&&(fD (.tmp x) C.d2&&(fD (.tmp x) C.d3&&(fD (.tmp x) C.d4&&(fD (.tmp x) C.d5&&(fD (.tmp k) C.d2&&(fD (.tmp k) C.d3&&(fD v C.d4&&(fD v C.d5&&!Nat.beq C.d2 C.d3)))))))))))))with
  |true=>some (mt,x,k,o,t,a,b,q,R,v)
  |false=>none
 |_,_,_,_,_=>none
theorem aax{C:jB}{mt t o q:TypeId}{x k:Nat}{op:BinOp}{a b v:Operand}(h:zZ C=some (mt,x,k,op,t,a,b,o,q,v)):
  C.ba.op=.lookup mt (.tmp x) (.tmp k) false/\C.eN.op=.binOp op t a b o/\C.gq.op=.mapEntry mt (.tmp x) (.tmp k)/\C.hY.op=.extract (.tmp C.d4) 1/\C.jT.op=.entryStore q (.tmp x) (.tmp C.d5) v/\
  fD (.tmp x) C.d2=true/\fD (.tmp x) C.d3=true/\fD (.tmp x) C.d4=true/\fD (.tmp x) C.d5=true/\fD (.tmp k) C.d2=true/\fD (.tmp k) C.d3=true/\fD v C.d4=true/\fD v C.d5=true/\C.d2≠C.d3:=by
 unfold zZ at h
 split at h
 case h_2=>cases h
 rename_i mt x k op t a b o lp x' k' a4 q lq a5 v le lf la lb lc
 split at h
 case h_2=>cases h
 rename_i ld
 simp only[Option.some.injEq,Prod.mk.injEq]at h
 obtain⟨rfl,rfl,rfl,rfl,rfl,rfl,rfl,rfl,rfl,rfl⟩:=h
 simp only[Bool.and_eq_true]at ld
 obtain⟨O,R,U,W,Y,Z,lg,lh,li,lj,lk,ll,lm,ln,lo⟩:=ld
 have O:=Nat.eq_of_beq_eq_true O
 have R:=Nat.eq_of_beq_eq_true R
 have U:=Nat.eq_of_beq_eq_true U
 have W:=Nat.eq_of_beq_eq_true W
 have Y:=Nat.eq_of_beq_eq_true Y
 have Z:=Nat.eq_of_beq_eq_true Z
 rw[<-O,<-R,<-U]at la
 rw[W]at lb
 rw[<-Y,Z]at lc
 exact⟨le,lf,la,lb,lc,lg,lh,li,lj,lk,ll,lm,ln,Zu lo⟩
def Pg(P:Program)(mt:TypeId):Bool:=match P.underlying mt with
 |some (.map o _)=>match ty P o with
  |some u=>u.flat
  |none=>false
 |_=>false
def Dn(E:Env)(st:af)(C:jB):Option af:=match zZ C with
 |some (mt,x,k,q,t,a,b,_,_,v)=>match xV E.P st mt (.tmp x) (.tmp k) false []with
  |some ⟨.val o y,[],[]⟩=>match Nat.blt C.d2 E.n&&(Nat.blt C.d3 E.n&&(Nat.blt C.d4 E.n&&(Nat.blt C.d5 E.n&&(o.flat&&Pg E.P mt)))),dL (st.put C.d2 (.val o y)) a,dL (st.put C.d2 (.val o y)) b with
   |true,some O,some R=>match bin E.P q t O R with
    |some (r,[])=>match wT E.P ((st.put C.d2 (.val o y)).put C.d3 (.val r.t r.x)) mt (.tmp x) (.tmp k) v with
     |some U=>some ((U.put C.d4 .any).put C.d5 .any)
     |none=>none
    |_=>none
   |_,_,_=>none
  |_=>none
 |none=>none
theorem Sz(Y:bE E cx)(h:ao cx m st T w){C:jB}(o:Dn E st C=some st'):∃v2 v3 v4 v5 O R,(∀{Q:di},N cx Q .normal st'->rY cx.P (dT Q) C ⟨T,aj.D cx⟩ w v2 v3 v4 v5 O R):=by
 unfold Dn at o
 split at o
 case h_2=>cases o
 rename_i mt x k aA t a b aB aC v lz
 obtain⟨ll,lA,lB,lC,lD,lE,lF,lG,lH,lI,lJ,y4,lK,n23⟩:=aax lz
 split at o
 case h_2=>cases o
 rename_i aD y q
 split at o
 case h_2=>cases o
 rename_i aE aF lm lL lM
 simp only[Bool.and_eq_true]at lm
 obtain⟨lN,lO,lP,lQ,ln,Z⟩:=lm
 split at o
 case h_2=>cases o
 rename_i r lo
 split at o
 case h_2=>cases o
 rename_i lR lp
 cases o
 rw[<-Y.P]at q lo lp Z
 have lS:C.d2<cx.n:=by rw[Y.n];exact dg lN
 have lT:C.d3<cx.n:=by rw[Y.n];exact dg lO
 have lq:C.d4<cx.n:=by rw[Y.n];exact dg lP
 have lr:C.d5<cx.n:=by rw[Y.n];exact dg lQ
 unfold xV at q
 split at q
 case h_2=>cases q
 rename_i cj aG aH key lU la lV
 split at q
 case h_2=>cases q
 rename_i aI aJ ls lb lW lX
 split at q
 case h_1=>cases q
 case h_3=>cases q
 rename_i U _
 simp only[Option.some.injEq,dS.mk.injEq,ap.val.injEq,and_true]at q
 obtain⟨rfl,le⟩:=q
 have le:=eq_of_heq le
 subst le
 obtain⟨s,lY,lZ⟩:=Option.bind_eq_some_iff.1 lU
 have lf:=dt h lV
 have l0:=ak.dx lX
 subst l0
 obtain⟨z,_,lg,lh⟩:=HJ lW
 simp only[Bool.and_eq_true]at U
 have l3:=ah.eq_of_beq U.1.1
 have l4:=ah.eq_of_beq U.1.2
 subst l3
 subst l4
 have l5:cj.k.flat=true:=by
  unfold Pg at Z
  rw[la]at Z
  simp only[lb]at Z
  exact Z
 -- the state behind the sum
 have lt:T.size=cx.n:=h.size
 have lu:∀(v2:Value),bf w (au cx m st.ids) v2 cj.v ((bM (aR cj.k) cj.ps ls).getD (cl cj.v))->
   ∃v3 v4 v5 O R s v0,(∀w',(execOp (Act.eval ((⟨T,aj.D cx⟩:Act).put (some C.d2) v2)) C.eN).run cx.P w'=.ok (.value v3) w')/\
    (Instr.mapEntry mt (Act.eval ⟨T,aj.D cx⟩ (.tmp x)) (Act.eval ⟨T,aj.D cx⟩ (.tmp k))).run cx.P w=.ok (.tuple #[v0,.int .i64 s]) O/\v4=.tuple #[v0,.int .i64 s]/\v5=.int .i64 s/\
    (execOp (Act.eval (((((⟨T,aj.D cx⟩:Act).put (some C.d2) v2).put (some C.d3) v3).put (some C.d4) v4).put (some C.d5) v5)) C.jT).run cx.P O=.ok .skip R/\
    al cx ((lR.put C.d4 .any).put C.d5 .any) (((T.setIfInBounds C.d2 v2).setIfInBounds C.d3 v3).setIfInBounds C.d4 v4|>.setIfInBounds C.d5 v5) R:=by
  intro v2 l6
  have li:=h.put (d:=C.d2) (s:=.val cj.v ((bM (aR cj.k) cj.ps ls).getD (cl cj.v))) (v:=v2) lS l6
  obtain⟨v3,l7,l8⟩:=En (ox:=a) (oy:=b) (dt li lL) (dt li lM) lo trivial
  have l9:=li.put (d:=C.d3) (s:=.val r.t r.x) (v:=v3) lT (l8 _ _)
  obtain⟨v0,s,O,R,lv,aa,lj⟩:=Ja l9 lp
  have ab:Act.eval ⟨(T.setIfInBounds C.d2 v2).setIfInBounds C.d3 v3,aj.D cx⟩ (.tmp x)=Act.eval ⟨T,aj.D cx⟩ (.tmp x):=(jH lF).trans (jH lE)
  have ad:Act.eval ⟨(T.setIfInBounds C.d2 v2).setIfInBounds C.d3 v3,aj.D cx⟩ (.tmp k)=Act.eval ⟨T,aj.D cx⟩ (.tmp k):=(jH lJ).trans (jH lI)
  rw[ab,ad]at lv
  refine⟨v3,_,_,O,R,s,v0,fun w'=>cF (by simp only[execOp,lA]) (l7 w'),lv,rfl,rfl,?_,⟨m,(lj.put lq (s:=.any) trivial).put lr (s:=.any) trivial⟩⟩
  have ae:Act.eval ⟨(((T.setIfInBounds C.d2 v2).setIfInBounds C.d3 v3).setIfInBounds C.d4 (.tuple #[v0,.int .i64 s])).setIfInBounds C.d5 (.int .i64 s),aj.D cx⟩ (.tmp C.d5)=.int .i64 s:=eval_put (by simp only[Array.size_setIfInBounds];rw[lt];exact lr)
  have af:Act.eval ⟨(((T.setIfInBounds C.d2 v2).setIfInBounds C.d3 v3).setIfInBounds C.d4 (.tuple #[v0,.int .i64 s])).setIfInBounds C.d5 (.int .i64 s),aj.D cx⟩ (.tmp x)=Act.eval ⟨(T.setIfInBounds C.d2 v2).setIfInBounds C.d3 v3,aj.D cx⟩ (.tmp x):=(jH lH).trans (jH lG)
  have ag:Act.eval ⟨(((T.setIfInBounds C.d2 v2).setIfInBounds C.d3 v3).setIfInBounds C.d4 (.tuple #[v0,.int .i64 s])).setIfInBounds C.d5 (.int .i64 s),aj.D cx⟩ v=Act.eval ⟨(T.setIfInBounds C.d2 v2).setIfInBounds C.d3 v3,aj.D cx⟩ v:=(jH lK).trans (jH y4)
  show(execOp (Act.eval ⟨(((T.setIfInBounds C.d2 v2).setIfInBounds C.d3 v3).setIfInBounds C.d4 (.tuple #[v0,.int .i64 s])).setIfInBounds C.d5 (.int .i64 s),aj.D cx⟩) C.jT).run cx.P O=.ok .skip R
  simp only[execOp,lD,Sem.run_bind,ae,af,ag,aa,Result.andThen_ok,Sem.run_pure]
 rcases Ee h (bj h lY) lZ with ⟨W,ai⟩|⟨g,es,aK,W,am,lw⟩
 ·obtain⟨v2,lc,_⟩:=rb (w':=w) (M':=au cx m st.ids) (d:=jn) (d':=16) la lb U.2 (by decide) lg lh lf (es:=#[]) (ps:=cj.ps) (by rw[ai];trivial)
  obtain⟨v3,v4,v5,O,R,s,v0,_,ld,_⟩:=lu v2 lc
  rw[W]at ld
  unfold Instr.mapEntry at ld
  simp only[Sem.run_bind,run_underlying la,Result.andThen_ok]at ld
  exact absurd ld (jq _ _ _ _)
 ·obtain⟨v2,lc,_⟩:=rb (d:=jn) (d':=16) la lb U.2 (by decide) lg lh lf lw
  obtain⟨v3,v4,v5,O,R,s,v0,lj,lk,lx,an,aq,ar⟩:=lu v2 lc
  rw[W]at lk
  obtain⟨ly,av,aw,ax⟩:=P4 (d:=jn) (d':=16) la lb U.2 (by decide) l5 ln lg lh lf am lw lk
  have:ly=v2:=nv ln av lc
  subst this
  refine⟨ly,v3,v4,v5,O,R,fun{Q} ay=>⟨?_,?_,lj,?_,?_,aq,rfl,ay _ _ ar⟩⟩
  ·exact cF (s:=Instr.lookup mt (Act.eval ⟨T,aj.D cx⟩ (.tmp x)) (Act.eval ⟨T,aj.D cx⟩ (.tmp k)) false) (by simp only[execOp,ll]) (by rw[W];exact aw)
  ·exact cF (s:=Instr.lookup mt (Act.eval ⟨T,aj.D cx⟩ (.tmp x)) (Act.eval ⟨T,aj.D cx⟩ (.tmp k)) false) (by simp only[execOp,ll]) (by rw[W];exact ax)
  ·exact cF (s:=Instr.mapEntry mt (Act.eval ⟨T,aj.D cx⟩ (.tmp x)) (Act.eval ⟨T,aj.D cx⟩ (.tmp k))) (by simp only[execOp,lB]) (by rw[W,lx];exact lk)
  ·intro w'
   have az:Act.eval ⟨T.setIfInBounds C.d4 v4,aj.D cx⟩ (.tmp C.d4)=v4:=eval_put (by rw[lt];exact lq)
   show(execOp (Act.eval ⟨T.setIfInBounds C.d4 v4,aj.D cx⟩) C.hY).run cx.P w'=_
   subst lx
   subst an
   simp only[execOp,lC,az,Instr.extract]
   rfl
theorem Xt{id:Nat}{l:List Oper}(Z:bE E cx)(o q:List Nat)(c2 c3 c4 c5 c6:Nat){C:jB}(la:E.P.follows .mixedOrders=true)(O:FO .any l.toArray o q c2 c3 c4 c5 c6=true)(lb:o.length+(q.length+5)=l.length)(lc:wa l.toArray c2 c3 c4 c5 c6=some C)
  (h:∀T w,al cx st T w->wpQuiet cx.P l.toArray (fun _=>True) (wpQuiet cx.P l.toArray (Ext w) (fun ld=>∀w',Ext w w'->∃v2 v3 v4 v5 U Y,rY cx.P (dT Q) C ld w' v2 v3 v4 v5 U Y) (bN l.toArray q)) (bN l.toArray o) ⟨T,aj.D cx⟩):
  W cx Q (.region id l.toArray true) st:=by
 intro T w le
 have lf:Region.noSelect l.toArray=true:=by
  unfold FO mx at O
  simp only[Bool.and_eq_true]at O
  exact O.1.1.1
 refine Code.wp_mono (Q:=dT Q) (fun e a w h=>by obtain⟨rfl,h⟩:=h;exact h)
  (xg (C:=Ext w) o q [c2,c4] (tp .any l.toArray c2 c3 c4 c5 c6) _ (by rw[Z.P];exact la) O (fun d j ai lg=>?_) (fun e a w h=>h.1)
   (fun d a w ai lh=>by
    obtain⟨v2,v3,v4,v5,U,Y,F⟩:=lh
    exact QA lf (fun e a w h=>h.1) lc ai F) lb (Ext.refl w).drew (h T w le))
 simp only[tp,Bool.and_eq_true]at ai
 have:=List.all_eq_true.1 ai.1.1.1 j lg
 rw[Bool.or_eq_true]at this
 rcases this with R|R
 ·rw[Nat.eq_of_beq_eq_true R];simp
 ·rw[Nat.eq_of_beq_eq_true R];simp
end
end Go.Ev
namespace Go.Ev
open Go Go.RowKit
variable [cm]
section
variable {P:Program} {ops:Array Oper} {md:Region.Mode} {S:World->Prop} {Q:Exit->Act->World->Prop}
def jF(P:Program)(ops:Array Oper)(Q:Exit->Act->World->Prop)(S:World->Prop):List Oper->Act->World->Prop
 |[],a,w=>Q .normal a w
 |aa::l,a,w=>if Region.wanted aa (yielded ops a.tmps)then aa.wp P a w (fun o w'=>S w'/\jF P ops Q S l o w') Q else S w/\jF P ops Q S l (a.put aa.dst undef) w
theorem KV:∀(l:List Nat) (done:Array Bool) (a:Act) (w:World),fS md ops l done=true->jF P ops Q S (bN ops l) a w->wpAnyH P md ops Q S l.length done a w
 |[],_,_,_,o,h=>⟨by simpa[fS]using o,h⟩
 |i::l,done,a,w,o,h=>by
  simp only[fS,Bool.and_eq_true,decide_eq_true_eq]at o
  have Y:i∈Region.ready md ops done:=by rw[o.1];exact List.mem_cons_self
  obtain⟨_,aa,R,_⟩:=mem_ready.1 Y
  unfold bN at h
  rw[R]at h
  refine⟨fun U=>(by rw[o.1]at U;cases U),fun k W=>?_⟩
  rw[o.1]at W
  have Z:k=i:=by simpa using W
  subst Z
  have la:wpOp P ops Q k (fun q w'=>S w'/\jF P ops Q S (bN ops l) q w') a w:=by
   unfold wpOp
   simp only[R]
   unfold jF at h
   split
   ·rename_i O;rw[if_pos O]at h;exact .inl h
   ·rename_i O;rw[if_neg O]at h;exact h
  exact wpOp_mono (fun q w' h'=>⟨h'.1,KV l _ q w' o.2 h'.2⟩) la
def zW(aa:Oper):Bool:=ir aa||iX aa
def xB(ops:Array Oper):List Nat->Bool
 |[]=>true
 |i::is=>(match ops[i]? with
  |some aa=>zW aa
  |none=>false)&&xB ops is
theorem aa8{aa:Oper}(h:zW aa=true){ρ:Operand->Value}{w q:World}{n:Next}(o:(execOp ρ aa).run P w=.ok n q):∃v,n=.value v:=by
 unfold zW at h
 rw[Bool.or_eq_true]at h
 rcases h with h|h
 ·exact F6 h o
 ·exact LZ h o
theorem TN{g:Nat}{la:Array Bool->Bool}{K:Act->Prop}{w:World}(lb:S w)(lc:Region.noSelect ops=true)(ld:∀c a w,¬Q (.panic c) a w)(lh:∀done a,la done=true->K a->wpAnyH P md ops Q S g done a w):
  ∀(q:List Nat) (done:Array Bool) (a:Act),xB ops q=true->fE md ops la q done=true->wpQuiet P ops S K (bN ops q) a->wpAnyH P md ops Q S (q.length+g) done a w:=by
 intro q
 induction q with
 |nil=>intro done a _ o h;rw[List.length_nil,Nat.zero_add];exact lh _ _ o h
 |cons i is le=>
  intro done a O o h
  unfold xB at O
  unfold fE at o
  simp only[Bool.and_eq_true]at O o
  obtain⟨⟨lf,lg⟩,o⟩:=o
  obtain⟨W,O⟩:=O
  unfold bN at h
  split at W
  ·rename_i aa R
   rw[R]at h
   rw[List.length_cons,Nat.succ_add]
   by_cases U:Region.wanted aa (yielded ops a.tmps)=true
   ·unfold wpQuiet at h
    rw[if_pos U]at h
    obtain⟨v,aJ,li⟩:=h
    refine wpAnyH_first R (Region.noSelect_spec lc) (fun c a w Y=>absurd Y (ld _ _ _)) (is.length+g) done a w (Region.free_spec R lg) (by simpa using lf) (v:=v) (.inl ⟨U,fun w' lj=>?_⟩) lb (le _ _ O o li)
    have:=aJ w' lj
    unfold Oper.quietAt at this
    cases Z:(execOp a.eval aa).run P w' with
    |halt e lk=>rw[Z]at this;exact this.elim
    |ok n lk=>
     obtain⟨u,rfl⟩:=aa8 W Z
     rw[Z]at this
     obtain⟨rfl,rfl⟩:=this
     rfl
   ·unfold wpQuiet at h
    rw[if_neg U]at h
    exact wpAnyH_first R (Region.noSelect_spec lc) (fun c a w Y=>absurd Y (ld _ _ _)) (is.length+g) done a w (Region.free_spec R lg) (by simpa using lf) (v:=undef) (.inr ⟨by simpa using U,rfl⟩) lb (le _ _ O o h)
  ·cases W
def xX(md:Region.Mode)(ops:Array Oper)(o q:List Nat):Bool:=Region.noSelect ops&&(xB ops o&&fE md ops (fS md ops q) o (Array.replicate ops.size false))
theorem U3{id:Nat}{a:Act}{w:World}{l:List Oper}(q o:List Nat)(U:P.follows .mixedOrders=true)(O:xX .any l.toArray q o=true)(W:q.length+o.length=l.length)
  (R:S {w with drawn:=w.drawn+1})(h:wpQuiet P l.toArray S (fun Y=>∀w',S w'->jF P l.toArray (dT Q) S (bN l.toArray o) Y w') (bN l.toArray q) a):(Code.region id l.toArray true).wp P Q a w:=by
 refine Code.wp_mono (Q:=dT Q) (fun e a w h=>by obtain⟨rfl,h⟩:=h;exact h) ?_
 unfold xX at O
 simp only[Bool.and_eq_true]at O
 obtain⟨Z,la,lb⟩:=O
 refine wp_region_any U (wpAny_of_held (S:=S) _ _ _ _ ?_)
 have al:=TN (Q:=dT Q) (S:=S) (w:={w with drawn:=w.drawn+1}) (g:=o.length) R Z (fun c a w h=>Exit.noConfusion h.1) (fun done a ai lc=>KV o done a _ ai (lc _ R)) q _ a la lb h
 rw[W]at al
 simpa using al
end
end Go.Ev
namespace Go.Ev
open Go Go.RowKit
variable [cm]
variable {cx:bJ} {m:Nat->Value} {st st':af} {T:Array Value} {w w':World} {E:Env} {Q:di} {ops:Array Oper} {l:List Oper}
variable [aj cx]
def xn(E:Env)(st:af)(aa:Oper)(orc:List ak):Option dS:=
 match dN E.P st aa.op orc with
 |some r=>some r
 |none=>match qI E.P st aa orc with
 |some r=>some r
 |none=>match aa.op with
  |.load t x=>uK E.P st t x orc
  |.call c=>nz E st c orc
  |_=>none
theorem QV(R:bE E cx)(h:ao cx m st T w){aa:Oper}{orc:List ak}{r:dS}(o:xn E st aa orc=some r)(U:bW r.ob){K:Act->World->Prop}
  (W:∀v w',Ext w w'->aX w' (au cx m st.ids) m v r.aU->K (Act.put ⟨T,aj.D cx⟩ aa.dst v) w'):aa.wp cx.P ⟨T,aj.D cx⟩ w K Q:=by
 unfold xn at o
 split at o
 ·rename_i la O
  cases o
  rw[<-R.P]at O
  obtain⟨v,ai,q⟩:=Ga h O U
  exact gY (ai w (Ext.refl w)) (W v w (Ext.refl w) q)
 ·split at o
  ·rename_i la O
   cases o
   rw[<-R.P]at O
   obtain⟨v,Y,q⟩:=FH h O U
   exact gY (Y w (Ext.refl w)) (W v w (Ext.refl w) q)
  split at o
  ·rename_i t x Z
   rw[<-R.P]at o
   obtain⟨v,Y,q⟩:=EN h o U
   exact gY (cF (by simp only[execOp,Z]) (Y w (Ext.refl w))) (W v w (Ext.refl w) q)
  ·rename_i c Z
   obtain⟨f0,args,lb,lc⟩:=rM R h Z o U
   unfold Oper.wp
   rw[lb w]
   refine lc.mono ?_
   rintro e w' ⟨v,rfl,ld,q⟩
   exact W v w' ld q
  ·cases o
theorem Vy{id:Nat}{l:List Oper}(o q:List Nat)(O:cx.P.follows .mixedOrders=true)(R:xX .any l.toArray o q=true)(U:o.length+q.length=l.length)
  (h:∀T w,al cx st T w->wpQuiet cx.P l.toArray (Ext w) (fun Y=>∀w',Ext w w'->jF cx.P l.toArray (dT Q) (Ext w) (bN l.toArray q) Y w') (bN l.toArray o) ⟨T,aj.D cx⟩):
  W cx Q (.region id l.toArray true) st:=by
 intro T w Z
 exact U3 (S:=Ext w) o q O R U (Ext.refl w).drew (h T w Z)
theorem UE{w0:World}{aa:Oper}{d:Nat}{orc:List ak}{r:dS}(q:bE E cx)(W:eT ops st aa=some true)(ai:aa.dst=some d)(Y:Nat.blt d E.n=true)(Z:xn E st aa orc=some r)(la:bW r.ob)
  (lb:∀T w,al cx (st.put d r.aU) T w->Ext w0 w->jF cx.P ops (dT Q) (Ext w0) l ⟨T,aj.D cx⟩ w):∀T w,al cx st T w->Ext w0 w->jF cx.P ops (dT Q) (Ext w0) (aa::l) ⟨T,aj.D cx⟩ w:=by
 intro T w O R
 unfold jF
 rw[if_pos (show Region.wanted aa (yielded ops T)=true from ja O W)]
 obtain⟨m,U⟩:=O
 refine QV q U Z la fun v w' o lc=>⟨R.trans o,?_⟩
 rw[ai]
 exact lb _ w' ⟨m,(U.ext o).put (by rw[q.n];exact dg Y) lc⟩ (R.trans o)
end Go.Ev
namespace Go.Ev
open Go Go.RowKit
variable [cm]
variable {cx:bJ} {st st':af} {T:Array Value} {w:World} {Q:di} {ops:Array Oper} {md:Region.Mode}
variable [aj cx]
def uI(cx:bJ)[aj cx](ops:Array Oper)(aa:Oper)(s o:af):Prop:=∀Q:di,N cx Q .normal o->bU cx ops Q [aa] s
def zP(cx:bJ)[aj cx](s:af):di:=fun e a w=>e=.normal/\∃T,a=⟨T,aj.D cx⟩/\al cx s T w
theorem NT{Sg:Nat->Array Bool->af->Prop}(W:∀g done s,Sg (g+1) done s->∀i∈Region.ready md ops done,∃aa o,ops[i]? =some aa/\Sg g (done.setIfInBounds i true) o/\uI cx ops aa s o)
  (R:∀done s,Sg 0 done s->Region.ready md ops done=[])(U:∀g done s,Sg g done s->Region.ready md ops done=[]->N cx Q .normal s):
  ∀g done s T w,Sg g done s->al cx s T w->wpAny cx.P md ops Q g done ⟨T,aj.D cx⟩ w
 |0,done,s,T,w,q,O=>⟨R done s q,U 0 done s q (R done s q) T w O⟩
 |g+1,done,s,T,w,q,O=>by
  refine⟨fun h=>U (g+1) done s q h T w O,fun i Y=>?_⟩
  obtain⟨aa,o,Z,la,lb⟩:=W g done s q i Y
  have h:=lb (zP cx o) (fun T w h=>⟨rfl,T,rfl,h⟩) T w O
  have lc:wpOp cx.P ops (zP cx o) i (wpList cx.P ops (zP cx o) []) ⟨T,aj.D cx⟩ w:=by unfold wpOp;simp only[Z];exact h
  refine wpOp_mono (fun ld w' h'=>?_) (GQ (fun e a w h=>h.1) lc)
  obtain⟨_,le,rfl,lf⟩:zP cx o .normal ld w':=h'
  exact NT W R U g _ o le w' la lf
theorem UL{id:Nat}(q:cx.P.follows .mixedOrders=true){Sg:Nat->Array Bool->af->Prop}(O:∀g done s,Sg (g+1) done s->∀i∈Region.ready .any ops done,∃aa o,ops[i]? =some aa/\Sg g (done.setIfInBounds i true) o/\uI cx ops aa s o)
  (R:∀done s,Sg 0 done s->Region.ready .any ops done=[])(U:∀g done s,Sg g done s->Region.ready .any ops done=[]->N cx Q .normal s)(Y:Sg ops.size (Array.replicate ops.size false) st):
  W cx Q (.region id ops true) st:=fun T w Z=>
 wp_region_any q (NT O R U _ _ _ T _ Y (Z.ext (Ext.refl w).drew))
/-! Sets of operations that are done, as0 lists, the last one first. -/
def mv(n:Nat)(o:List Nat):Array Bool:=((List.range n).map fun i=>jo i o).toArray
def nF(i:Nat):List Nat->List Nat
 |[]=>[i]
 |j::o=>bif Nat.blt j i then i::j::o else j::nF i o
def sj:List Bool->List Bool->Bool
 |[],[]=>true
 |a::l,b::m=>(bif a then b else !b)&&sj l m
 |_,_=>false
theorem GV:∀{l m:List Bool},sj l m=true->l=m
 |[],[],_=>rfl
 |a::l,b::m,h=>by
  unfold sj at h
  rw[Bool.and_eq_true]at h
  rw[GV h.2]
  cases a<;>cases b<;>simp_all
 |[],_::_,h=>by cases h
 |_::_,[],h=>by cases h
def um:List Nat->List Nat->Bool
 |[],[]=>true
 |a::l,b::m=>Nat.beq a b&&um l m
 |_,_=>false
theorem AN:∀{l m:List Nat},um l m=true->l=m
 |[],[],_=>rfl
 |a::l,b::m,h=>by
  unfold um at h
  rw[Bool.and_eq_true]at h
  rw[AN h.2,Nat.eq_of_beq_eq_true h.1]
 |[],_::_,h=>by cases h
 |_::_,[],h=>by cases h
def B7(o:List Nat)(q:List (List Nat)):Bool:=q.any (um o)
theorem Il{D:List Nat}{o:List (List Nat)}(h:B7 D o=true):D∈o:=by
 obtain⟨x,q,e⟩:=List.any_eq_true.1 h
 rw[AN e];exact q
def JB(md:Region.Mode)(ops:Array Oper)(q:List (List Nat))(o:List Nat)(i:Nat):Bool:=
 B7 (nF i o) q&&(Nat.beq (nF i o).length (o.length+1)&&sj (mv ops.size (nF i o)).toList ((mv ops.size o).setIfInBounds i true).toList)
def AG(md:Region.Mode)(ops:Array Oper)(F:List Nat)(q:List (List Nat)):Bool:=
 B7 [] q&&(sj (mv ops.size []).toList (Array.replicate ops.size false).toList&&q.all fun o=>
  (Region.ready md ops (mv ops.size o)).all (JB md ops q o)&&((!(Region.ready md ops (mv ops.size o)).isEmpty&&!Nat.beq o.length ops.size)||(um o F&&(Region.ready md ops (mv ops.size o)).isEmpty)))
theorem Ut{id:Nat}(lf:cx.P.follows .mixedOrders=true){F:List Nat}{lb:List (List Nat)}(lc:AG .any ops F lb=true){S:List Nat->Option af}
  (lg:∀q∈lb,∀i∈Region.ready .any ops (mv ops.size q),∃aa s Y,ops[i]? =some aa/\S q=some s/\S (nF i q)=some Y/\uI cx ops aa s Y)(lh:S []=some st)(li:∀s,S F=some s->N cx Q .normal s):
  W cx Q (.region id ops true) st:=by
 unfold AG at lc
 simp only[Bool.and_eq_true]at lc
 obtain⟨lj,lk,Z⟩:=lc
 rw[List.all_eq_true]at Z
 refine UL lf (Sg:=fun g done s=>∃q∈lb,g+q.length=ops.size/\done=mv ops.size q/\S q=some s) ?_ ?_ ?_ ?_
 ·rintro g done s ⟨q,R,la,rfl,U⟩ i ld
  obtain⟨aa,lp,Y,ll,le,lm,ln⟩:=lg q R i ld
  rw[U]at le
  cases le
  have O:=Z q R
  rw[Bool.and_eq_true]at O
  have o:=List.all_eq_true.1 O.1 i ld
  unfold JB at o
  simp only[Bool.and_eq_true]at o
  refine⟨aa,Y,ll,⟨nF i q,Il o.1,?_,?_,lm⟩,ln⟩
  ·have:=Nat.eq_of_beq_eq_true o.2.1
   omega
  ·exact(Array.ext' (GV o.2.2)).symm
 ·rintro done s ⟨q,R,la,rfl,U⟩
  have O:=Z q R
  simp only[Bool.and_eq_true,Bool.or_eq_true,Bool.not_eq_true']at O
  rcases O.2 with ⟨_,o⟩|⟨_,o⟩
  ·rw[Nat.zero_add]at la
   rw[la]at o
   rw[show Nat.beq ops.size ops.size=true from Nat.beq_refl _]at o
   cases o
  ·simpa using o
 ·rintro g done s ⟨q,R,la,rfl,U⟩ lo
  have O:=Z q R
  simp only[Bool.and_eq_true,Bool.or_eq_true,Bool.not_eq_true']at O
  rcases O.2 with ⟨o,_⟩|⟨o,_⟩
  ·rw[lo]at o
   cases o
  ·rw[AN o]at U
   exact li s U
 ·refine⟨[],Il lj,by simp,?_,lh⟩
  exact(Array.ext' (GV lk)).symm
end Go.Ev
