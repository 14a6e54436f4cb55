/- Maps on plain data: what is looked up, what is written. -/
import Derived.Test.YteopobecmacgdaaGreatDoorMM1
import Derived.WideKeyRuns
import Derived.MapKept
import Derived.Laws.IdiomRangeMap
set_option linter.unusedSectionVars false
set_option linter.unusedVariables false
set_option linter.unusedSimpArgs false
namespace Go.Ev
open Go Go.RowKit
variable [bV]
variable {P:Program} {w w':World} {M M':Nat->Prop}
theorem D2{α:Type}{f g:List Value->α->Prop}(h:∀c c' x,f c x->g c' x->c=c'):∀{xs:List α} {cs L:List Value},bL f cs xs->bL g L xs->cs=L
 |[],_,_,o,q=>by cases o;cases q;rfl
 |_::_,_,_,⟨a,b,O,o,q⟩,⟨c,d,R,U,V⟩=>by rw[O,R,h _ _ _ o U,D2 h q V]
theorem C5{w w':World}{M M':Nat->Prop}:∀(t:ag) {cs q:List Value} {x:t.el},t.flat=true->aK w M t cs x->aK w' M' t q x->cs=q:=by
 intro t
 induction t with
 |int k=>intro cs q x _ h h';rw[h,h']
 |bool=>intro cs q x _ h h';rw[h,h']
 |str=>intro cs q x _ h h';rw[h.1,h'.1]
 |unit=>intro cs q x _ h h';rw[h,h']
 |pair a b U V=>
  rintro cs q x o ⟨Z,c2,rfl,O,R⟩ ⟨d1,d2,rfl,W,Y⟩
  simp only[ag.flat,Bool.and_eq_true]at o
  rw[U o.1 O W,V o.2 R Y]
 |ab t L=>intro cs q x o;simp[ag.flat]at o
 |ptr t L=>intro cs q x o;simp[ag.flat]at o
 |fn f t L=>intro cs q x o;simp[ag.flat]at o
 |err=>intro cs q x o;simp[ag.flat]at o
 |ck=>intro cs q x o;simp[ag.flat]at o
 |cy n t _=>intro cs q x o;simp[ag.flat]at o
 |alt n t r _ _=>intro cs q x o;simp[ag.flat]at o
 |map k v _ _=>intro cs q x o;simp[ag.flat]at o
 |arr n t L=>intro cs q x o h h';exact D2 (f:=aK w M t) (g:=aK w' M' t) (fun _ _ _ O R=>L o O R) h.2 h'.2
theorem kp{w w':World}{M M':Nat->Prop}{t:ag}{v v':Value}{x:t.el}(q:t.flat=true)(h:bc w M v t x)(h':bc w' M' v' t x):v=v':=by
 cases o:t.agg with
 |true=>
  obtain⟨R,rfl,L⟩:=(dK o).1 h
  obtain⟨U,rfl,O⟩:=(dK o).1 h'
  rw[C5 t q L O]
 |false=>
  have:=C5 t q ((bA o).1 h) ((bA o).1 h')
  simpa using this
theorem oU{P:Program}{t e:TypeId}{len d:Nat}{u:ag}{n:Int}{k:IntKind}{a:Addr}(o:P.underlying t=some (.array len e))(q:cH P d e=some u)(L:0<=n)(O:n<(len:Int))(w':World):
  (Instr.indexAt t (.pointer (some a)) (.int k n)).run P w'=.ok (.pointer (some (a.add (n.toNat*u.cells)))) w':=by
 simp only[Instr.indexAt,asIntOf,Sem.run_bind,Sem.run_pure,Result.andThen_ok,run_underlying o,Instr.sureAddr]
 rw[if_pos ⟨L,O⟩]
 simp only[Sem.run_bind,eB q,Result.andThen_ok,Sem.run_pure]
theorem tW{P:Program}{w:World}{M:Nat->Prop}{d:Nat}{t:TypeId}{u:ag}(q:cH P d t=some u){pre c post:List Value}{x:u.el}(R:aK w M u c x):
  ∃v,(∀L,(part t (pre++c++post).toArray pre.length).run P L=.ok v L)/\bc w M v u x:=by
 obtain⟨v,o,W⟩:=oI (P:=P) q (pre:=pre) (post:=post) R w
 refine⟨v,fun L=>?_,W⟩
 have U:=b6 u R
 cases O:u.agg with
 |true=>
  unfold part at o⊢
  rw[Sem.run_bind,iV q,O]at o⊢
  simp only[Result.andThen_ok,if_true,Sem.run_bind,eB q,Sem.run_pure]at o⊢
  injection o with o
  rw[o]
 |false=>
  unfold part at o⊢
  rw[Sem.run_bind,iV q,O]at o⊢
  simp only[Result.andThen_ok,Bool.false_eq_true,if_false]at o⊢
  have Y:u.cells=1:=by cases u<;>first|rfl|(simp[ag.agg]at O)
  rw[Y]at U
  match c,U with
  |[v0],_=>
   have e:(pre++[v0]++post).toArray[pre.length]? =some v0:=by simp
   rw[e]at o⊢
   have:v0=v:=by
    have V:(pure v0:Sem Value).run P w=.ok v w:=o
    rw[Sem.run_pure]at V
    injection V
   rw[<-this]
   rfl
def zeroOf(P:Program)(t:TypeId):Option ag:=
 match ty P t,P.info? t with
 |some u,some i=>match i.zero with
  |some z=>match fi u z.cells.toList with
   |some []=>some u
   |_=>none
  |none=>none
 |_,_=>none
theorem iO{P:Program}{t:TypeId}{u:ag}(h:zeroOf P t=some u):∃i z,ty P t=some u/\P.info? t=some i/\i.size=u.cells/\i.zero=some z/\∀w M,aK w M u z.cells.toList (bX u):=by
 unfold zeroOf at h
 split at h
 ·rename_i Y i o q
  split at h
  ·rename_i z O
   split at h
   ·rename_i R
    cases h
    obtain⟨Z,L,U,_⟩:=cQ o
    rw[q]at L
    cases L
    refine⟨i,z,o,q,U,O,fun w M=>?_⟩
    obtain⟨c,V,W⟩:=HT (w:=w) (M:=M) u R
    rw[V,List.append_nil]
    exact W
   ·cases h
  ·cases h
 ·cases h
/-! Parts by steps. -/
def iY:(t:ag)->t.el->List j7->List ak->Option (ak×List ak×List Prop)
 |t,x,[],orc=>some (⟨t,x⟩,orc,[])
 |t,x,.f off u::p,orc=>match ct t x off u with
  |some y=>iY u y p orc
  |none=>none
 |.arr _ u,xs,.x j o::p,v::orc=>match Nat.beq o u.cells,v.as u with
  |true,some y=>match iY u y p orc with
   |some (r,aa,ob)=>some (r,aa,(aq (show List u.el from xs) j=some y)::ob)
   |none=>none
  |_,_=>none
 |_,_,.x _ _::_,_=>none
def jo:(t:ag)->t.el->List j7->List ak->ak->Option (t.el×List ak×List Prop)
 |t,_,[],orc,z=>match z.as t with
  |some y=>some (y,orc,[])
  |none=>none
 |t,x,.f off u::p,orc,z=>match ct t x off u with
  |some y=>match jo u y p orc z with
   |some (o,aa,ob)=>match cb t x off ⟨u,o⟩with
    |some x'=>some (x',aa,ob)
    |none=>none
   |none=>none
  |none=>none
 |.arr _ u,xs,.x j q::p,v::orc,z=>match Nat.beq q u.cells,v.as u with
  |true,some y=>match jo u y p orc z with
   |some (o,aa,ob)=>some (List.set (show List u.el from xs) j.toNat o,aa,(aq (show List u.el from xs) j=some y)::ob)
   |none=>none
  |_,_=>none
 |_,_,.x _ _::_,_,_=>none
theorem sG:∀(p:List j7) (t:ag) {cs:List Value} {x:t.el} {orc orc':List ak} {r:ak} {ob:List Prop},aK w M t cs x->iY t x p orc=some (r,orc',ob)->bJ ob->
  ∃q c2 c3,cs=q++c2++c3/\q.length=fp p/\aK w M r.t c2 r.x
 |[],t,cs,x,orc,orc',r,ob,h,o,_=>by
  simp only[iY]at o
  cases o
  exact⟨[],cs,[],by simp,rfl,h⟩
 |.f off u::p,t,cs,x,orc,orc',r,ob,h,o,L=>by
  simp only[iY]at o
  split at o
  ·rename_i y V
   obtain⟨q,c2,c3,rfl,O,R⟩:=ml t h V
   obtain⟨d1,d2,d3,rfl,aj,U⟩:=sG p u R o L
   exact⟨q++d1,d2,d3++c3,by simp,by rw[List.length_append,O,aj];rfl,U⟩
  ·cases o
 |.x j la::p,t,cs,x,orc,orc',r,ob,h,o,L=>by
  cases t with
  |arr n u=>
   cases orc with
   |nil=>simp[iY]at o
   |cons v orc=>
    simp only[iY]at o
    split at o
    ·rename_i y W lb
     split at o
     ·rename_i lc aa ld Y
      cases o
      obtain⟨le,lf,R⟩:=gS L.1
      obtain⟨q,c2,c3,rfl,O,U⟩:=jC h.2 R
      obtain⟨d1,d2,d3,rfl,aj,Z⟩:=sG p u U Y L.2
      exact⟨q++d1,d2,d3++c3,by simp,by rw[List.length_append,O,aj,<-Nat.eq_of_beq_eq_true W];rfl,Z⟩
     ·cases o
    ·cases o
  |_=>simp[iY]at o
theorem uh{z:ak}{L:List Value}(U:aK w M z.t L z.x):∀(p:List j7) (t:ag) {cs:List Value} {x:t.el} {orc orc':List ak} {y:t.el} {ob:List Prop},aK w M t cs x->jo t x p orc z=some (y,orc',ob)->bJ ob->
  ∃q c2 c3,cs=q++c2++c3/\q.length=fp p/\c2.length=L.length/\aK w M t (q++L++c3) y
 |[],t,cs,x,orc,orc',y,ob,h,o,_=>by
  simp only[jo]at o
  split at o
  ·rename_i lu lg
   cases o
   have e:=ak.cO lg
   subst e
   exact⟨[],cs,[],by simp,rfl,by rw[b6 t h,b6 t U],by simpa using U⟩
  ·cases o
 |.f off u::p,t,cs,x,orc,orc',y,ob,h,o,V=>by
  simp only[jo]at o
  split at o
  ·rename_i lh li
   split at o
   ·rename_i Z aa lj la
    split at o
    ·rename_i x' lk
     cases o
     obtain⟨q,c2,c3,e,W,lb⟩:=ml t h li
     obtain⟨d1,d2,d3,le,aj,Y,lc⟩:=uh U p u lb la V
     obtain⟨O,lf,R,ll,lm,ln,ld⟩:=mU (v:=⟨u,Z⟩) lc t h lk
     have lo:c2.length=(d1++L++d3).length:=by rw[le];simp only[List.length_append,Y]
     have lp:O=q/\lf=c2/\R=c3:=by
      have lq:O++(lf++R)=q++(c2++c3):=by rw[<-List.append_assoc,<-List.append_assoc,<-ll,<-e]
      obtain⟨lr,a2⟩:=List.append_inj lq (by rw[lm,W])
      obtain⟨a3,a4⟩:=List.append_inj a2 (by rw[ln,lo])
      exact⟨lr,a3,a4⟩
     obtain⟨rfl,rfl,rfl⟩:=lp
     subst le
     refine⟨O++d1,d2,d3++R,by rw[e];simp,by rw[List.length_append,W,aj];rfl,Y,?_⟩
     have:O++d1++L++(d3++R)=O++(d1++L++d3)++R:=by simp
     rw[this]
     exact ld
    ·cases o
   ·cases o
  ·cases o
 |.x j lv::p,t,cs,x,orc,orc',y,ob,h,o,V=>by
  cases t with
  |arr n u=>
   cases orc with
   |nil=>simp[jo]at o
   |cons v orc=>
    simp only[jo]at o
    split at o
    ·rename_i lh ls lw
     split at o
     ·rename_i Z aa lj la
      cases o
      obtain⟨lx,ly,lb⟩:=gS V.1
      obtain⟨q,c2,c3,rfl,W,lc,lt⟩:=oT h.2 lb
      obtain⟨d1,d2,d3,rfl,aj,Y,ld⟩:=uh U p u lc la V.2
      refine⟨q++d1,d2,d3++c3,by simp,by rw[List.length_append,W,aj,<-Nat.eq_of_beq_eq_true ls];rfl,Y,?_,?_⟩
      ·exact(@List.length_set _ (show List u.el from x) j.toNat Z).trans h.1
      ·have:=lt _ _ ld
       simpa using this
     ·cases o
    ·cases o
  |_=>simp[jo]at o
def rk:ag->Bool
 |.arr _ _=>true
 |.pair a b=>rk a||rk b
 |_=>false
def sB(z:Value)(u:ag):Bool:=
 match z with
 |.agg _=>u.agg
 |_=>!u.agg
def zeroV(P:Program)(t:TypeId):Option ag:=
 match zeroOf P t,P.info? t with
 |some u,some i=>match i.zero with
  |some z=>bif sB z u then some u else none
  |none=>none
 |_,_=>none
theorem A0{P:Program}{t:TypeId}{u:ag}(h:zeroV P t=some u):∃z,ty P t=some u/\(∀w,(zeroValue t).run P w=.ok z w)/\∀w M,bc w M z u (bX u):=by
 unfold zeroV at h
 split at h
 ·rename_i Y i Z O
  split at h
  ·rename_i z R
   cases L:sB z Y<;>rw[L]at h<;>cases h
   obtain⟨la,o,lb,U,_,V,lc⟩:=iO Z
   have ld:la=i:=by rw[O]at U;cases U;rfl
   subst ld
   have le:o=z:=by rw[R]at V;cases V;rfl
   subst le
   refine⟨o,lb,fun w=>by simp[zeroValue,typeInfo,O,R],fun w M=>?_⟩
   have W:=lc w M
   cases q:u.agg with
   |true=>
    cases o<;>simp only[sB,q,Bool.not_true,Bool.false_eq_true]at L
    rename_i lf
    exact(dK q).2 ⟨lf.toList,by simp,W⟩
   |false=>
    refine(bA q).2 ?_
    cases o<;>first|exact W|(simp[sB,q]at L)
  ·cases h
 ·cases h
def cD{α o:Type}(eq:α->α->Bool):List (α×o)->α->Option o
 |[],_=>none
 |p::ps,k=>if eq k p.1 then some p.2 else cD eq ps k
def cU{α o:Type}(eq:α->α->Bool):List (α×o)->α->o->List (α×o)
 |[],k,v=>[(k,v)]
 |p::ps,k,v=>if eq k p.1 then(k,v)::ps else p::cU eq ps k v
theorem FF{α:Type}{f:α->α->Bool}(h:∀x y,f x y=true->x=y):∀{xs q:List α},jl f xs q=true->xs=q
 |[],[],_=>rfl
 |[],_::_,o=>by cases o
 |_::_,[],o=>by cases o
 |x::xs,y::q,o=>by
  simp only[jl,Bool.and_eq_true]at o
  rw[h x y o.1,FF h o.2]
theorem xW:∀(t:ag) {x y:t.el},aV t x y=true->x=y:=by
 intro t
 induction t with
 |int k=>intro x y h;exact eq_of_beq (α:=Int) h
 |bool=>intro x y h;exact eq_of_beq (α:=Bool) h
 |str=>intro x y h;exact eq_of_beq (α:=List UInt8) h
 |unit=>intro x y _;rfl
 |pair a b o q=>
  intro x y h
  simp only[aV,Bool.and_eq_true]at h
  exact Prod.ext (o h.1) (q h.2)
 |arr n t L=>intro x y h;exact FF (fun _ _=>L) h
 |ab t _=>intro x y h;cases h
 |ptr t _=>intro x y h;cases h
 |fn f t _=>intro x y h;cases h
 |err=>intro x y h;cases h
 |ck=>intro x y h;cases h
 |cy n t _=>intro x y h;cases h
 |alt n t r _ _=>intro x y h;cases h
 |map k v _ _=>intro x y h;cases h
theorem Hr{d:Nat}:∀(q:List Field) (off:Nat) (u:ag),fieldsOf (cH P d) off q=some u->∀(pre c:List Value) (x:u.el),pre.length=off->aK w M u c x->
  ∀f∈q,∃(a:Value) (O:ag) (Y:O.el),cH P d f.type=some O/\(∀L,(part f.type (pre++c).toArray f.offset).run P L=.ok a L)/\bc w M a O Y
 |[],off,u,h,pre,c,x,_,_,f,o=>by cases o
 |fd::q,off,u,h,pre,c,x,U,Z,f,o=>by
  unfold fieldsOf at h
  cases R:Nat.beq fd.offset off with
  |false=>rw[R]at h;cases h
  |true=>
   have la:=Nat.eq_of_beq_eq_true R
   rw[R,cond_true]at h
   split at h
   ·rename_i a V
    split at h
    ·rename_i b lb
     cases h
     obtain⟨lc,c2,rfl,W,ch⟩:=Z
     rcases List.mem_cons.1 o with rfl|o
     ·obtain⟨v,ld,le⟩:=tW (P:=P) V (pre:=pre) (post:=c2) W
      refine⟨v,a,x.1,V,fun L=>?_,le⟩
      have:=ld L
      rw[List.append_assoc,U,<-la]at this
      exact this
     ·have:=Hr q (off+a.cells) b lb (pre++lc) c2 x.2 (by rw[List.length_append,U,b6 a W]) ch f o
      rw[List.append_assoc]at this
      exact this
    ·cases h
   ·cases h
theorem MJ{d:Nat}{e:TypeId}{u:ag}(q:cH P d e=some u){c:List Value}{xs:List u.el}(L:bL (aK w M u) c xs)(j:Nat)(O:j<xs.length):
  ∃(a:Value) (x:u.el),(∀o,(part e c.toArray (j*u.cells)).run P o=.ok a o)/\bc w M a u x:=by
 obtain⟨R,c2,c3,rfl,U,V⟩:=jC L (List.getElem?_eq_getElem O)
 obtain⟨v,W,Y⟩:=tW (P:=P) q (pre:=R) (post:=c3) V
 exact⟨v,_,fun o=>by have:=W o;rw[U]at this;exact this,Y⟩
theorem nv(em:Bool):∀(d:Nat) (t:TypeId) (u:ag),cH P d t=some u->∀d',dJ P d' t=true->∀O,d'<=O->∀(w q:World) (M:Nat->Prop) (v:Value) (x:u.el),bc w M v u x->(Instr.checkKey em O t v).run P q=.ok () q
 |0,_,_,h=>by cases h
 |d+1,t,u,h=>by
  intro d' L O lt w q M v x Y
  cases d' with
  |zero=>cases L
  |succ d'=>
   obtain⟨O,rfl⟩:∃k,O=k+1:=⟨O-1,by omega⟩
   have lu:=h
   unfold dJ at L
   unfold cH at h
   rw[Instr.checkKey]
   split at h
   ·rename_i i k R o
    cases U:Nat.beq i.size 1<;>rw[U]at h<;>cases h
    obtain rfl:=cJ.1 Y
    simp[run_underlying o]
   ·rename_i i R o
    cases U:Nat.beq i.size 1<;>rw[U]at h<;>cases h
    obtain rfl:=dj.1 Y
    simp[run_underlying o]
   ·rename_i i R o
    cases U:Nat.beq i.size 1<;>rw[U]at h<;>cases h
    obtain⟨rfl,_⟩:=dV.1 Y
    simp[run_underlying o]
   ·rename_i i e R o
    rw[o]at L
    cases L
   ·rename_i i la R o
    rw[o]at L
    simp only[Bool.and_eq_true,Bool.not_eq_true']at L
    split at h
    ·rename_i v0 W
     cases U:Nat.beq i.size v0.cells<;>rw[U]at h<;>cases h
     have lj:=E0 W
     obtain⟨c,rfl,lk⟩:=(dK lj).1 Y
     simp only[Sem.run_bind,run_underlying o,Result.andThen_ok]
     rw[<-Array.forIn_toList]
     have V:∀f∈la.toList,∃a,f.name≠ "_" /\(∀q,(part f.type c.toArray f.offset).run P q=.ok a q)/\(Instr.checkKey em O f.type a).run P q=.ok () q:=by
      intro f li
      obtain⟨a,ll,lm,lb,lc,ln⟩:=Hr la.toList 0 u W [] c x rfl lk f li
      have ld:=List.all_eq_true.1 L.2 f li
      simp only[Bool.and_eq_true,bne_iff_ne,ne_eq]at ld
      exact⟨a,ld.1,fun q=>by have:=lc q;simpa using this,nv em d f.type ll lb d' ld.2 O (by omega) w q M a lm ln⟩
     generalize la.toList=Z at V
     induction Z with
     |nil=>simp
     |cons f Z le=>
      obtain⟨a,lo,lf,lg⟩:=V f List.mem_cons_self
      simp only[List.forIn_cons,Sem.run_bind,lo,ne_eq,not_false_eq_true,if_true,Result.andThen_ok,lf,lg,Sem.run_pure]
      exact le fun y lh=>V y (List.mem_cons_of_mem _ lh)
    ·cases h
   ·rename_i i lv R o
    rw[o]at L
    cases L
   ·rename_i i n e R o
    rw[o]at L
    split at h
    ·rename_i v0 W
     cases U:Nat.beq i.size (n*v0.cells)<;>rw[U]at h<;>cases h
     obtain⟨c,rfl,lp,lq⟩:=(dK (t:=.arr n v0) rfl).1 Y
     simp only[Sem.run_bind,run_underlying o,Result.andThen_ok]
     simp only[Std.Legacy.Range.forIn_eq_forIn_range',Std.Legacy.Range.size,Nat.sub_zero,Nat.add_one_sub_one,Nat.div_one]
     have V:∀j∈List.range' 0 n,∃a,(∀q,(part e c.toArray (j*v0.cells)).run P q=.ok a q)/\(Instr.checkKey em O e a).run P q=.ok () q:=by
      intro j lr
      have ls:j<n:=by simpa using lr
      obtain⟨a,y,lb,lc⟩:=MJ W lq j (by rw[lp];exact ls)
      exact⟨a,lb,nv em d e v0 W d' L O (by omega) w q M a y lc⟩
     generalize List.range' 0 n=Z at V
     induction Z with
     |nil=>simp
     |cons j Z le=>
      obtain⟨a,lf,lg⟩:=V j List.mem_cons_self
      simp only[List.forIn_cons,Sem.run_bind,eB W,Result.andThen_ok,lf,lg,Sem.run_pure]
      exact le fun y lh=>V y (List.mem_cons_of_mem _ lh)
    ·cases h
   ·rename_i i k e R o
    rw[o]at L
    cases L
   ·rename_i i a b c R o
    rw[o]at L
    cases L
   ·rename_i i e R o
    rw[o]at L
    cases L
   ·cases h
def fC{α o:Type}(eq:α->α->Bool)(key:α):List MapEntry->List (α×o)->Nat->Option (Nat×Value)
 |e::es,p::ps,i=>if eq key p.1 then some (i,e.val)else fC eq key es ps (i+1)
 |_,_,_=>none
theorem E3{d d':Nat}{q:TypeId}{u:ag}{β:Type}{U:Value->β->Prop}(L:cH P d q=some u)(O:dJ P d' q=true)(aj:d'<=10000){kv:Value}{key:u.el}(R:bc w M kv u key)(o:World):
  ∀(es:List MapEntry) (ps:List (u.el×β)) (i:Nat),dG (dI w' M' u) U es ps->(Instr.findAsking q kv es i).run P o=.ok (fC (aV u) key es ps i) o
 |[],[],i,_=>by simp[Instr.findAsking,fC]
 |[],_::_,_,h=>h.elim
 |_::_,[],_,h=>h.elim
 |e::es,p::ps,i,⟨V,_,W⟩=>by
  have Y:(Op.equal q kv e.key).run P o=.ok (aV u key p.1) o:=nY d q u L d' O 10000 aj w w' o M M' kv e.key key p.1 R V
  rw[Instr.findAsking,Sem.run_bind,Y]
  simp only[Result.andThen_ok,fC]
  cases Z:aV u key p.1 with
  |true=>simp
  |false=>simp only[Bool.false_eq_true,if_false];exact E3 L O aj R o es ps (i+1) W
theorem G7{o:TypeDesc}{u:ag}{β:Type}{L:Value->β->Prop}{kv:Value}{key:u.el}(q:∀(e:Value) (x:u.el),bc w' M' e u x->Instr.sameNow o kv e=some (aV u key x)):
  ∀(es:List MapEntry) (ps:List (u.el×β)) (i:Nat),dG (dI w' M' u) L es ps->Instr.findNow o kv es i=some (fC (aV u) key es ps i)
 |[],[],i,_=>rfl
 |[],_::_,_,h=>h.elim
 |_::_,[],_,h=>h.elim
 |e::es,p::ps,i,⟨O,_,R⟩=>by
  rw[Instr.findNow,q e.key p.1 O,fC]
  cases U:aV u key p.1 with
  |true=>simp
  |false=>simp only[Bool.false_eq_true,if_false];exact G7 q es ps (i+1) R
theorem Jb(a b:List UInt8):((⟨a.toArray⟩:ByteArray)==⟨b.toArray⟩)=eqStr a b:=by
 unfold eqStr
 rw[Bool.eq_iff_iff,MapKept.bytes_beq,beq_iff_eq]
 constructor
 ·intro e
  have:=congrArg (fun b:ByteArray=>b.data.toList) e
  simpa using this
 ·intro e;rw[e]
theorem sI{d d':Nat}{O:TypeId}{u:ag}{β:Type}{la:Value->β->Prop}(Z:cH P d O=some u)(R:dJ P d' O=true)(aj:d'<=10000){kv:Value}{key:u.el}(V:bc w M kv u key)(L:World)
  {es:List MapEntry}{ps:List (u.el×β)}(h:dG (dI w' M' u) la es ps):(Instr.findKey O kv es).run P L=.ok (fC (aV u) key es ps 0) L:=by
 have ask:=E3 Z R aj V L es ps 0 h
 have W:∀Y,P.underlying O=some Y->(∀(e:Value) (x:u.el),bc w' M' e u x->Instr.sameNow Y kv e=some (aV u key x))->(Instr.findKey O kv es).run P L=.ok (fC (aV u) key es ps 0) L:=by
  intro Y o lb
  exact MapKept.run_findKey o (G7 lb es ps 0 h)
 obtain⟨i,ld,le,q⟩:=cQ Z
 cases u with
 |int k=>
  obtain rfl:=cJ.1 V
  exact W _ q fun e x U=>by obtain rfl:=cJ.1 U;simp[Instr.sameNow,aV,Eh]
 |bool=>
  obtain rfl:=dj.1 V
  exact W _ q fun e x U=>by obtain rfl:=dj.1 U;simp[Instr.sameNow,aV,Da]
 |str=>
  obtain⟨rfl,_⟩:=dV.1 V
  refine W _ q fun e x U=>?_
  obtain⟨rfl,_⟩:=dV.1 U
  exact congrArg some (Jb key x)
 |unit=>obtain⟨lc,d2,o,_⟩:=q;rw[run_findKey_eq L (by rw[o]) kv es];exact ask
 |pair a b=>obtain⟨lc,d2,o,_⟩:=q;rw[run_findKey_eq L (by rw[o]) kv es];exact ask
 |arr n t=>obtain⟨e,d2,o,_⟩:=q;rw[run_findKey_eq L (by rw[o]) kv es];exact ask
 |ab t=>obtain⟨e,d2,o,_⟩:=q;cases d'<;>simp[dJ,o]at R
 |err=>obtain⟨lf,o⟩:=q;cases d'<;>simp[dJ,o]at R
 |ck=>rcases q with ⟨_,_,_,o⟩|⟨_,o⟩<;>cases d'<;>simp[dJ,o]at R
 |map a b=>obtain⟨k,e,d2,o,_⟩:=q;cases d'<;>simp[dJ,o]at R
 |ptr t=>exact q.elim
 |fn f t=>exact q.elim
 |cy n t=>exact q.elim
 |alt n t r=>exact q.elim
theorem uE{α o:Type}{eq:α->α->Bool}{key:α}{L:Value->α->Prop}{q:Value->o->Prop}:∀(es:List MapEntry) (ps:List (α×o)) (i:Nat),dG L q es ps->
  (fC eq key es ps i=none/\cD eq ps key=none)\/∃n e y,fC eq key es ps i=some (i+n,e.val)/\es[n]? =some e/\cD eq ps key=some y/\q e.val y
 |[],[],i,_=>.inl ⟨rfl,rfl⟩
 |[],_::_,_,h=>h.elim
 |_::_,[],_,h=>h.elim
 |e::es,p::ps,i,⟨la,O,R⟩=>by
  unfold fC cD
  cases lb:eq key p.1 with
  |true=>exact .inr ⟨0,e,p.2,by simp,rfl,by simp,O⟩
  |false=>
   simp only[Bool.false_eq_true,if_false]
   rcases uE es ps (i+1) R with h|⟨n,U,y,V,W,Y,Z⟩
   ·exact .inl h
   ·exact .inr ⟨n+1,U,y,by rw[V];congr 2;omega,by simpa using W,Y,Z⟩
theorem sk{α q:Type}{eq:α->α->Bool}{key:α}{o:Value->α->Prop}{L:Value->q->Prop}{kv vv:Value}{val:q}(O:o kv key)(R:L vv val):∀(es:List MapEntry) (ps:List (α×q)) (i:Nat),dG o L es ps->
  (fC eq key es ps i=none/\cU eq ps key val=ps++[(key,val)])\/∃n e p,fC eq key es ps i=some (i+n,e.val)/\es[n]? =some e/\o e.key p/\eq key p=true/\
   dG o L (es.modify n fun e=>{e with key:=kv,val:=vv}) (cU eq ps key val)
 |[],[],i,_=>.inl ⟨rfl,rfl⟩
 |[],_::_,_,h=>h.elim
 |_::_,[],_,h=>h.elim
 |e::es,p::ps,i,⟨U,W,V⟩=>by
  unfold fC cU
  cases Y:eq key p.1 with
  |true=>exact .inr ⟨0,e,p.1,by simp,rfl,U,Y,by simp only[if_true];exact⟨O,R,V⟩⟩
  |false=>
   simp only[Bool.false_eq_true,if_false]
   rcases sk O R es ps (i+1) V with ⟨Z,la⟩|⟨n,lb,lc,ld,le,lf,lg,lh⟩
   ·exact .inl ⟨Z,by rw[la];rfl⟩
   ·exact .inr ⟨n+1,lb,lc,by rw[ld];congr 2;omega,by simpa using le,lf,lg,⟨U,W,lh⟩⟩
theorem pE(kv vv:Value):∀(es:List MapEntry) (n:Nat),(es.modify n fun e=>{e with key:=kv,val:=vv}).map (·.born)=es.map (·.born)
 |[],n=>by cases n<;>rfl
 |e::es,0=>rfl
 |e::es,n+1=>by
  have:=pE kv vv es n
  simp only[List.modify_succ_cons,List.map_cons,this]
theorem sQ{α L:Type}{o:Value->α->Prop}{q:Value->L->Prop}:∀{es O:List MapEntry} {ps R:List (α×L)},dG o q es ps->dG o q O R->dG o q (es++O) (ps++R)
 |[],_,[],_,_,h=>h
 |[],_,_::_,_,h,_=>h.elim
 |_::_,_,[],_,h,_=>h.elim
 |_::_,_,_::_,_,⟨U,V,W⟩,h=>⟨U,V,sQ W h⟩
def plainCell:Value->Bool
 |.bool _=>true
 |.int _ _=>true
 |.string _=>true
 |_=>false
theorem Dw{α:Type}{f:List Value->α->Prop}{p:Value->Bool}(h:∀c x,f c x->∀u∈c,p u=true):∀{xs:List α} {cs:List Value},bL f cs xs->∀u∈cs,p u=true
 |[],_,o,u,hu=>by cases o;cases hu
 |_::_,_,⟨O,c2,e,q,L⟩,u,hu=>by
  subst e
  rcases List.mem_append.1 hu with hu|hu
  ·exact h _ _ q u hu
  ·exact Dw h L u hu
theorem Ez:∀(t:ag) {cs:List Value} {x:t.el},t.flat=true->aK w M t cs x->∀u∈cs,plainCell u=true:=by
 intro t
 induction t with
 |int k=>intro cs x _ h u hu;cases h;simp at hu;subst hu;rfl
 |bool=>intro cs x _ h u hu;cases h;simp at hu;subst hu;rfl
 |str=>intro cs x _ h u hu;cases h.1;simp at hu;subst hu;rfl
 |unit=>intro cs x _ h u hu;cases h;simp at hu
 |pair a b q L=>
  rintro cs x o ⟨W,c2,rfl,O,R⟩ u hu
  simp only[ag.flat,Bool.and_eq_true]at o
  rcases List.mem_append.1 hu with hu|hu
  ·exact q o.1 O u hu
  ·exact L o.2 R u hu
 |arr n t U=>intro cs x o h u hu;exact Dw (fun _ _ V=>U o V) h.2 u hu
 |ab t _=>intro cs x o;simp[ag.flat]at o
 |ptr t _=>intro cs x o;simp[ag.flat]at o
 |fn f t _=>intro cs x o;simp[ag.flat]at o
 |err=>intro cs x o;simp[ag.flat]at o
 |ck=>intro cs x o;simp[ag.flat]at o
 |cy n t _=>intro cs x o;simp[ag.flat]at o
 |alt n t r _ _=>intro cs x o;simp[ag.flat]at o
 |map k v _ _=>intro cs x o;simp[ag.flat]at o
theorem DF{u:Value}(h:plainCell u=true)(n:Nat):Instr.sameBits n u u=true:=by
 cases u<;>first|(simp[plainCell]at h;done)|simp[Instr.sameBits,MapKept.bytes_beq]
theorem IF(n:Nat):∀(l:List Value),(∀u∈l,plainCell u=true)->((l.zip l).all fun(x,y)=>Instr.sameBits n x y)=true
 |[],_=>rfl
 |u::l,h=>by
  rw[List.zip_cons_cons,List.all_cons,Bool.and_eq_true]
  exact⟨DF (h u List.mem_cons_self) n,IF n l fun x o=>h x (List.mem_cons_of_mem _ o)⟩
theorem Co{t:ag}{v:Value}{x:t.el}(o:t.flat=true)(h:bc w M v t x):Instr.sameBits 10000 v v=true:=by
 cases q:t.agg with
 |true=>
  obtain⟨L,rfl,O⟩:=(dK q).1 h
  rw[Instr.sameBits]
  simp only[beq_self_eq_true,Bool.true_and]
  exact IF 9999 L (Ez t o O)
 |false=>
  exact DF (Ez t o ((bA q).1 h) v (by simp)) _
theorem mM{mt V Z:TypeId}{d d':Nat}{u v:ag}(Y:P.underlying mt=some (.map V Z))(la:cH P d V=some u)(lb:dJ P d' V=true)(aj:d'<=10000)
  {z:Value}(lc:∀w,(zeroValue Z).run P w=.ok z w)(lj:∀w M,bc w M z v (bX v)){kv:Value}{key:u.el}(ld:bc w M kv u key){es:Array MapEntry}{ps:List (u.el×v.el)}
  (le:dG (dI w' M' u) (dI w' M' v) es.toList ps):
  ∃r,bc w' M' r v ((cD (aV u) ps key).getD (bX v))/\∀(o:World) (x:Value),((x=.map none/\es=#[])\/∃g R,x=.map (some g)/\o.heap[g]? =some (.map es R))->
   ∀ok,(Instr.lookup mt x kv ok).run P o=.ok (if ok then .tuple #[r,.bool (cD (aV u) ps key).isSome]else r) o:=by
 have lk:=fun o=>sI la lb aj ld o le
 have lf:=fun em o=>nv (P:=P) em d V u la d' lb 10000 aj w o M kv key ld
 have run:∀(r:Value) (o:World) (x:Value),((x=.map none/\es=#[])\/∃g R,x=.map (some g)/\o.heap[g]? =some (.map es R))->
   ((fC (aV u) key es.toList ps 0=none/\cD (aV u) ps key=none/\r=z)\/∃n y,fC (aV u) key es.toList ps 0=some (n,r)/\cD (aV u) ps key=some y)->
   ∀ok,(Instr.lookup mt x kv ok).run P o=.ok (if ok then .tuple #[r,.bool (cD (aV u) ps key).isSome]else r) o:=by
  intro r o x U lg ok
  have O:=lk o
  rcases U with ⟨rfl,rfl⟩|⟨g,R,rfl,ll⟩
  ·have W:=lf true o
   rcases lg with ⟨q,L,rfl⟩|⟨n,y,q,L⟩
   ·rw[q]at O
    unfold Instr.lookup
    simp only[Sem.run_bind,run_underlying Y,Result.andThen_ok,Sem.run_pure,show(#[]:Array MapEntry).isEmpty=true from rfl,W,O,lc,L]
    cases ok<;>simp
   ·simp[fC]at q
  ·have W:=lf es.isEmpty o
   have lh:(getObj g).run P o=.ok (.map es R) o:=by simp[getObj,Sem.run,ll]
   rcases lg with ⟨q,L,rfl⟩|⟨n,y,q,L⟩
   ·rw[q]at O
    unfold Instr.lookup
    simp only[Sem.run_bind,run_underlying Y,Result.andThen_ok,lh,Sem.run_pure,W,O,lc,L]
    cases ok<;>simp
   ·rw[q]at O
    unfold Instr.lookup
    simp only[Sem.run_bind,run_underlying Y,Result.andThen_ok,lh,Sem.run_pure,W,O,L]
    cases ok<;>simp
 rcases uE (eq:=aV u) (key:=key) es.toList ps 0 le with ⟨q,L⟩|⟨n,e,y,q,L,li,lm⟩
 ·exact⟨z,by rw[L];exact lj _ _,fun o x U=>run z o x U (.inl ⟨q,L,rfl⟩)⟩
 ·exact⟨e.val,by rw[li];exact lm,fun o x U=>run e.val o x U (.inr ⟨_,y,q,li⟩)⟩
theorem C9{mt q ln:TypeId}{d d':Nat}{u v:ag}(la:P.underlying mt=some (.map q ln))(lb:cH P d q=some u)(lc:dJ P d' q=true)(aj:d'<=10000)(ld:u.flat=true)
  {kv vv:Value}{key:u.el}{val:v.el}(o:bc w M kv u key)(le:bc w M vv v val){g:Nat}{es:Array MapEntry}{clock:Nat}{ps:List (u.el×v.el)}
  (lf:w.heap[g]? =some (.map es clock))(R:∀e∈es.toList,e.born<clock)(lg:(es.toList.map (·.born)).Nodup)(U:dG (dI w M u) (dI w M v) es.toList ps):
  ∃(L:Array MapEntry) (lh:Nat),(Instr.mapUpdate mt (.map (some g)) kv vv).run P w=.ok () {w with heap:=w.heap.setIfInBounds g (.map L lh)}/\
   (∀e∈L.toList,e.born<lh)/\(L.toList.map (·.born)).Nodup/\dG (dI w M u) (dI w M v) L.toList (cU (aV u) ps key val):=by
 have li:=nv (P:=P) false d q u lb d' lc 10000 aj w w M kv key o
 have O:=sI lb lc aj o w U
 have lj:(getObj g).run P w=.ok (.map es clock) w:=by simp[getObj,Sem.run,lf]
 have lk:∀aa,(setObj g aa).run P w=.ok () {w with heap:=w.heap.setIfInBounds g aa}:=fun aa=>by simp[setObj,Sem.run,lf]
 rcases sk (kv:=kv) (vv:=vv) (val:=val) (eq:=aV u) (key:=key) o le es.toList ps 0 U with ⟨V,W⟩|⟨n,e,lo,V,W,lp,lq,lr⟩
 ·rw[V]at O
  refine⟨es.push {key:=kv,val:=vv,born:=clock},clock+1,?_,?_,?_,?_⟩
  ·unfold Instr.mapUpdate
   simp only[Sem.run_bind,run_underlying la,Result.andThen_ok,lj,li,O,lk]
  ·intro e he
   rw[Array.toList_push]at he
   rcases List.mem_append.1 he with he|he
   ·exact Nat.lt_succ_of_lt (R e he)
   ·simp at he;subst he;exact Nat.lt_succ_self _
  ·rw[Array.toList_push,List.map_append,List.nodup_append]
   refine⟨lg,by simp,?_⟩
   intro a ls b lt lz
   simp at lt
   obtain⟨e,he,rfl⟩:=List.mem_map.1 ls
   have:=R e he
   omega
  ·rw[Array.toList_push,W]
   exact sQ U ⟨o,le,trivial⟩
 ·rw[V,Nat.zero_add]at O
  have lu:key=lo:=xW u lq
  subst lu
  have lv:e.key=kv:=kp ld lp o
  have lw:((es[n]?).map (·.key)).getD kv=kv:=by
   have:es[n]? =some e:=by rw[<-Array.getElem?_toList];exact W
   rw[this];simp[lv]
  have lx:∀Y,(Instr.keyThatStays kv kv).run P Y=.ok kv Y:=fun Y=>by
   unfold Instr.keyThatStays
   rw[if_pos (Co ld o)]
   rfl
  have Z:(es.modify n fun e=>{e with key:=kv,val:=vv}).toList=es.toList.modify n fun e=>{e with key:=kv,val:=vv}:=by simp
  refine⟨es.modify n fun e=>{e with key:=kv,val:=vv},clock,?_,?_,?_,?_⟩
  ·unfold Instr.mapUpdate
   simp only[Sem.run_bind,run_underlying la,Result.andThen_ok,lj,li,O,lw,lx,lk]
  ·intro x ll
   rw[Z]at ll
   have lm:x.born∈(es.toList.modify n fun e=>{e with key:=kv,val:=vv}).map (·.born):=List.mem_map.2 ⟨x,ll,rfl⟩
   rw[pE]at lm
   obtain⟨y,ly,e⟩:=List.mem_map.1 lm
   rw[<-e];exact R y ly
  ·rw[Z,pE];exact lg
  ·rw[Z];exact lr
end Go.Ev
namespace Go.Ev
open Go Go.RowKit
variable [bV]
structure di where
 aM:ao
 orc:List ak
 ob:List Prop
structure ED where
 k:ag
 v:ag
 ps:List (k.el×v.el)
def mapOf(st:af):ao->Option ED
 |.val (.map k v) x=>some ⟨k,v,(show Option (List (k.el×v.el))from x).getD []⟩
 |.iter b=>match look st.ad b with
  |some (.mp k v ps)=>some ⟨k,v,ps⟩
  |_=>none
 |_=>none
def rj(P:Program)(st:af)(mt:TypeId)(x k:Operand)(ok:Bool)(orc:List ak):Option di:=
 match(aO st x).bind (mapOf st),P.underlying mt,cY st k with
 |some o,some (.map L O),some key=>match ty P L,zeroV P O,key.as o.k with
  |some R,some U,some q=>match R.beq o.k&&U.beq o.v&&dJ P 16 L,ok with
   |true,true=>some ⟨.dq [⟨o.v,(cD (aV o.k) o.ps q).getD (bX o.v)⟩,⟨.bool,(cD (aV o.k) o.ps q).isSome⟩],orc,[]⟩
   |true,false=>some ⟨.val o.v ((cD (aV o.k) o.ps q).getD (bX o.v)),orc,[]⟩
   |false,_=>none
  |_,_,_=>none
 |_,_,_=>none
def lenOf(P:Program)(st:af)(s:ao)(t:TypeId):Option Int:=
 match s,ty P t with
 |.val .str s,some .str=>some (s.length:Int)
 |.val (.ab _) xs,some (.ab _)=>some (xs.length:Int)
 |.row r,some (.ab _)=>match look st.rw r with
  |some c=>some (c.xs.length:Int)
  |none=>none
 |s,some (.map _ _)=>match mapOf st s with
  |some o=>some (o.ps.length:Int)
  |none=>none
 |_,_=>none
def rZ(P:Program)(st:af)(t:TypeId)(u:ag):List (Nat×Operand)->u.el->Option u.el
 |[],x=>some x
 |(i,aa)::r,x=>
  match fieldInfo P t i,cY st aa with
  |some (off,o),some v=>match v.t.beq o,cb u x off v with
   |true,some y=>rZ P st t u r y
   |_,_=>none
  |_,_=>none
def dL(s:Option ao):Option Int:=
 match s with
 |some (.val (.int _) n)=>some n
 |_=>none
def o4(P:Program)(t:TypeId):Option (Nat×ag):=
 match P.underlying t with
 |some (.array n e)=>match ty P e with
  |some u=>some (n,u)
  |none=>none
 |_=>none
def r9(P:Program)(st:af)(src o:TypeId)(x:Operand)(orc:List ak):Option di:=
 match(aO st x).map (j5 st),P.underlying src,P.underlying o with
 |some (.val (.ab (.int .u8)) xs),some (.slice e),some .string=>match P.underlying e with
  |some (.int .u8)=>some ⟨.val .str (eQ xs),orc,[]⟩
  |_=>none
 |some (.val (.ab (.int .i32)) xs),some (.slice e),some .string=>match P.underlying e with
  |some (.int .i32)=>some ⟨.val .str (dC xs),orc,[(dC xs).length<=bq]⟩
  |_=>none
 |_,_,_=>none
def td(a:Option (Option (Nat×Int)))(u:Nat)(m:Int):Bool:=
 match a with
 |some (some (t,n))=>Nat.beq t u&&n==m
 |_=>false
def ne:Operand->Bool
 |.const .nilIface=>true
 |_=>false
def kW(P:Program)(o:BinOp)(t:TypeId)(y:Operand)(a b:ak):Option (Bool×List Prop):=
 match a,b with
 |⟨.err,a⟩,⟨.err,b⟩=>match P.underlying t,ne y with
  |some (.interface _),true=>neg o (Option.isNone (α:=Option (Nat×Int)) a) []
  |some (.interface _),false=>match(show Option (Option (Nat×Int))from b)with
   |some (some (u,m))=>match P.info? u,P.underlying u with
    |some i,some (.int _)=>bif i.comparable then neg o (td a u m) [(show Option (Option (Nat×Int))from a)≠some none]else none
    |_,_=>none
   |_=>none
  |_,_=>none
 |⟨.cy _ _,_⟩,⟨.err,_⟩=>match P.underlying t,ne y with
  |some (.interface _),true=>neg o false []
  |_,_=>none
 |_,_=>none
where
 neg (o:BinOp) (b:Bool) (ob:List Prop):Option (Bool×List Prop):=
  match o with
  |.eql=>some (b,ob)
  |.neq=>some (!b,ob)
  |_=>none
def qr(t:TypeId)(v:Option ak):Option (Option (Nat×Int)):=
 match v with
 |some ⟨.int k,n⟩=>bif fS k .i64 then some (some (t,n))else some none
 |_=>some none
def mkIf(t:TypeId)(v:Option ak):ao:=
 match v with
 |some ⟨u,y⟩=>bif u.agg then .val (.cy t u) y else .val .err (qr t v)
 |none=>.val .err (qr t v)
def Eo(P:Program)(st:af)(x:Operand)(a:TypeId)(ok:Bool)(orc:List ak):Option di:=
 match cY st x,P.underlying a with
 |some ⟨.cy n u,y⟩,some d=>match d with
  |.interface _=>none
  |_=>match Nat.beq n a,ok with
   |true,true=>some ⟨.dq [⟨u,y⟩,⟨.bool,true⟩],orc,[]⟩
   |true,false=>some ⟨.val u y,orc,[]⟩
   |false,true=>match zeroV P a with
    |some z=>some ⟨.dq [⟨z,bX z⟩,⟨.bool,false⟩],orc,[]⟩
    |none=>none
   |false,false=>none
 |_,_=>none
def qo(a b:Int):Int:=if b>a then b else a
def fA(a b:Int):Int:=if b<a then b else a
def s6(st:af)(fl:Bool)(args:List Operand):Option ak:=
 match args with
 |[x,y]=>match cY st x,cY st y with
  |some ⟨.int k,a⟩,some ⟨.int k',b⟩=>bif fS k k' then some ⟨.int k,bif fl then qo a b else fA a b⟩else none
  |_,_=>none
 |_=>none
def db(P:Program)(st:af)(aa:Op)(orc:List ak):Option di:=
 match aa with
 |.move x=>match aO st x with
  |some s=>some ⟨s,orc,[]⟩
  |none=>none
 |.assign x=>match aO st x with
  |some s=>some ⟨s,orc,[]⟩
  |none=>none
 |.pick c a b=>match cY st c with
  |some ⟨.bool,true⟩=>match aO st a with
   |some s=>some ⟨s,orc,[]⟩
   |none=>none
  |some ⟨.bool,false⟩=>match aO st b with
   |some s=>some ⟨s,orc,[]⟩
   |none=>none
  |_=>none
 |.binOp R t x y _=>match cY st x,cY st y with
  |some a,some b=>match bin P R t a b with
   |some (r,ob)=>some ⟨.val r.t r.x,orc,ob⟩
   |none=>match kW P R t y a b with
    |some (r,ob)=>some ⟨.val .bool r,orc,ob⟩
    |none=>none
  |_,_=>none
 |.unOp R _ x=>match cY st x with
  |some a=>match un R a with
   |some r=>some ⟨.val r.t r.x,orc,[]⟩
   |none=>none
  |none=>none
 |.convert src V x=>match cY st x with
  |some a=>match conv P src V a with
   |some r=>some ⟨.val r.t r.x,orc,[]⟩
   |none=>r9 P st src V x orc
  |none=>r9 P st src V x orc
 |.index t x i=>match cY st x,dL (aO st i),orc,P.underlying t with
  |some ⟨.str,s⟩,some n,⟨.int .u8,b⟩::orc',some .string=>some ⟨.val (.int .u8) b,orc',[fa s n=some b]⟩
  |some ⟨.arr k u,xs⟩,some n,v::orc',some (.array k' e)=>match Nat.beq k k',ty P e,v.as u with
   |true,some o,some y=>bif u.beq o then some ⟨.val u y,orc',[aq (show List u.el from xs) n=some y]⟩else none
   |_,_,_=>none
  |_,_,_,_=>none
 |.field t x f=>match cY st x,fieldInfo P t f with
  |some a,some (off,u)=>match a.t.agg,ct a.t a.x off u with
   |true,some y=>some ⟨.val u y,orc,[]⟩
   |_,_=>none
  |_,_=>none
 |.build t parts=>match ty P t,P.info? t with
  |some u,some i=>match i.zero,u.mZ with
   |some z,true=>match fi u z.cells.toList,rZ P st t u parts.toList (bX u)with
    |some [],some y=>some ⟨.val u y,orc,[]⟩
    |_,_=>none
   |_,_=>none
  |_,_=>none
 |.extract x i=>match aO st x with
  |some (.dq l)=>match l[i]? with
   |some v=>some ⟨.val v.t v.x,orc,[]⟩
   |none=>none
  |some (.fr l)=>match l[i]? with
   |some (.v v)=>some ⟨.val v.t v.x,orc,[]⟩
   |some (.r r)=>some ⟨match look st.ad r with
    |some (.cells _ _)=>.ptr r 0
    |some (.aP _ _ _)=>.dm r []
    |some _=>.iter r
    |none=>.row r,orc,[]⟩
   |some .a=>some ⟨.any,orc,[]⟩
   |none=>none
  |_=>none
 |.nilCheck x=>match aO st x with
  |some (.ptr b off)=>some ⟨.ptr b off,orc,[]⟩
  |some (.vptr t y)=>some ⟨.vptr t y,orc,[]⟩
  |some (.dA r i off L)=>some ⟨.dA r i off L,orc,[]⟩
  |some (.dm b p)=>some ⟨.dm b p,orc,[]⟩
  |_=>none
 |.fieldAddr t x f=>match aO st x,fieldInfo P t f with
  |some (.ptr b off),some (q,_)=>some ⟨.ptr b (off+q),orc,[]⟩
  |some (.vptr u y),some (q,U)=>match ct u y q U with
   |some z=>some ⟨.vptr U z,orc,[]⟩
   |none=>none
  |some (.dA r i off L),some (q,_)=>some ⟨.dA r i (off+q) L,orc,[]⟩
  |some (.dm b p),some (q,U)=>some ⟨.dm b (p++[.f q U]),orc,[]⟩
  |_,_=>none
 |.indexAddr t x i=>match aO st x,dL (aO st i),ty P t,orc with
  |some (.val (.ab u) xs),some n,some (.ab o),v::orc'=>match u.beq o,v.as u with
   |true,some y=>some ⟨.vptr u y,orc',[aq xs n=some y]⟩
   |_,_=>none
  |some (.row r),some n,some (.ab o),v::orc'=>match look st.rw r with
   |some c=>match c.t.beq o,v.as c.t with
    |true,some y=>some ⟨.dA r n 0 c.t.cells,orc',[aq c.xs n=some y]⟩
    |_,_=>none
   |none=>none
  |some (.vptr (.arr k u) xs),some n,some (.arr k' o),v::orc'=>match Nat.beq k k'&&u.beq o,v.as u with
   |true,some y=>some ⟨.vptr u y,orc',[aq (show List u.el from xs) n=some y]⟩
   |_,_=>none
  |some (.dm b p),some n,some (.arr O u),orc=>some ⟨.dm b (p++[.x n u.cells]),orc,[0<=n/\n<(O:Int)]⟩
  |some (.ptr b off),some n,some (.arr O u),orc=>bif decide (0<=n)&&decide (n<O)then some ⟨.ptr b (off+n.toNat*u.cells),orc,[]⟩else none
  |some (.dA r i0 W L),some n,some (.arr O u),orc=>match look st.rw r with
   |some c=>match c.t.beq u&&(i0==0&&(Nat.beq W 0&&Nat.beq L c.t.cells)),orc with
    |true,v::orc'=>match v.as c.t with
     |some y=>some ⟨.dA r n 0 c.t.cells,orc',[aq c.xs n=some y,c.xs.length=O]⟩
     |none=>none
    |true,[]=>none
    |false,orc=>bif decide (0<=n)&&decide (n<O)then some ⟨.dA r i0 (W+n.toNat*u.cells) L,orc,[]⟩else none
   |none=>none
  |_,_,_,_=>none
 |.load t x=>match aO st x,ty P t with
  |some (.vptr u y),some o=>match u.beq o,Nat.beq u.cells 0 with
   |true,false=>some ⟨.val u y,orc,[]⟩
   |_,_=>none
  |_,_=>none
 |.slice t x Y Z none=>match aO st x,orc with
  |some (.val .str s),⟨.str,r⟩::orc'=>match P.underlying t,pY st Y,oY st Z s.length with
   |some .string,some l,some h=>some ⟨.val .str r,orc',[dD s l h=some r]⟩
   |_,_,_=>none
  |some (.val (.ab u) xs),v::orc'=>match ty P t,pY st Y,oY st Z xs.length,v.as (.ab u)with
   |some (.ab o),some l,some h,some r=>bif u.beq o then some ⟨.val (.ab u) r,orc',[dD xs l h=some r]⟩else none
   |_,_,_,_=>none
  |_,_=>none
 |.call c=>match c with
  |{callee:=.builtin .len,args:=args,argTypes:=la}=>match args.toList,la.toList with
   |[x],[t]=>match aO st x with
    |some s=>match lenOf P st s t with
     |some n=>some ⟨.val (.int .i64) n,orc,[]⟩
     |none=>none
    |none=>none
   |_,_=>none
  |{callee:=.builtin .max,args:=args,.. }=>match s6 st true args.toList with
   |some r=>some ⟨.val r.t r.x,orc,[]⟩
   |none=>none
  |{callee:=.builtin .min,args:=args,.. }=>match s6 st false args.toList with
   |some r=>some ⟨.val r.t r.x,orc,[]⟩
   |none=>none
  |_=>none
 |.makeInterface t x=>bif P.concrete t then some ⟨mkIf t (cY st x),orc,[]⟩else none
 |.typeAssert x _ a ok=>Eo P st x a ok orc
 |.lookup mt x k ok=>rj P st mt x k ok orc
 |_=>none
where
 pY (st:af):Option Operand->Option Int
  |none=>some 0
  |some x=>dL (aO st x)
 oY (st:af):Option Operand->Nat->Option Int
  |none,n=>some (n:Int)
  |some x,_=>dL (aO st x)
variable {cx:bx} {m:Nat->Value} {st:af} {T:Array Value} {w w':World}
variable [ah cx]
theorem eR(h:an cx m st T w){x:Operand}{n:Int}(o:dL (aO st x)=some n):∃k,Act.eval ⟨T,ah.D cx⟩ x=.int k n:=by
 unfold dL at o
 split at o
 ·rename_i k L q
  cases o
  exact⟨k,cJ.1 (a8 h q)⟩
 ·cases o
theorem BU(h:an cx m st T w){v:Value}{s:ao}(o:aN w (ar cx m st.ids) m v s){L:ED}(q:mapOf st s=some L):
  (v=.map none/\L.ps=[])\/∃(g:Nat) (es:Array MapEntry) (O:Nat),v=.map (some g)/\w.heap[g]? =some (.map es O)/\dG (dI w (ar cx m st.ids) L.k) (dI w (ar cx m st.ids) L.v) es.toList L.ps:=by
 unfold mapOf at q
 split at q
 ·rename_i k v' x
  cases q
  have o:=(bA (t:=.map k v') rfl).1 o
  match x,o with
  |none,o=>
   have o:[v]=[Value.map none]:=o
   simp only[List.cons.injEq,and_true]at o
   exact .inl ⟨o,rfl⟩
  |some ps,⟨b,es,O,e,R,_,_,_,U⟩=>
   simp only[List.cons.injEq,and_true]at e
   exact .inr ⟨b,es,O,e,R,U⟩
 ·rename_i b
  split at q
  ·rename_i k v' ps V
   cases q
   obtain⟨g,W,_,es,O,R,_,_,U⟩:=h.box (aW V)
   have Y:v=m b:=o
   exact .inr ⟨g,es,O,by rw[Y,W];rfl,R,U⟩
  ·cases q
 ·cases q
theorem SR(h:an cx m st T w){v:Value}{s:ao}(O:aN w (ar cx m st.ids) m v s){n:Int}{t:TypeId}(o:lenOf cx.P st s t=some n){ty':TypeId}:
  ke cx.P w (Builtin.len_ #[t] ty' #[v]) (.int .i64 n):=by
 intro w' la
 unfold lenOf at o
 split at o
 ·rename_i l L
  cases o
  obtain⟨i,_,_,q⟩:=cQ L
  obtain⟨rfl,_⟩:=dV.1 O
  simp only at q
  have V:=gH l
  simp only[bytesOf]at V
  simp[Builtin.len_,run_underlying q,goInt,V]
 ·rename_i e xs lb L
  cases o
  obtain⟨i,_,_,lc,_,q,_⟩:=cQ L
  obtain⟨a,cap,cells,R,_⟩:=(bA (t:=.ab e) rfl).1 O
  simp only[List.cons.injEq,and_true]at R
  subst R
  simp[Builtin.len_,run_underlying q,goInt]
 ·rename_i r lb L
  split at o
  ·rename_i c R
   cases o
   obtain⟨i,_,_,lc,_,q,_⟩:=cQ L
   obtain⟨cells,ld,_⟩:=h.rows r c (aW R)
   have W:v=m r:=O
   rcases ld.2 with ⟨U,le⟩|⟨g,cap,cur,U,_⟩
   ·rw[W,U,le]
    simp[Builtin.len_,run_underlying q,goInt]
   ·rw[W,U]
    simp[Builtin.len_,run_underlying q,goInt]
  ·cases o
 ·rename_i lk ll L
  split at o
  ·rename_i lm lf
   cases o
   obtain⟨i,_,_,k,e,_,q,_,_⟩:=cQ L
   rcases BU h O lf with ⟨rfl,lg⟩|⟨g,es,lh,rfl,Y,li⟩
   ·rw[lg]
    simp[Builtin.len_,run_underlying q,goInt]
   ·have lj:w'.heap[g]? =some (.map es lh):=by rw[la.block g (fG Y)];exact Y
    have Z:=oP li
    rw[Array.length_toList]at Z
    simp[Builtin.len_,run_underlying q,goInt,getObj,Sem.run,lj,Z]
  ·cases o
 ·cases o
def dl(cx:bx)[ah cx](T:Array Value)(w:World)(aa:Oper)(v:Value):Prop:=∀w',Ext w w'->(execOp (Act.eval ⟨T,ah.D cx⟩) aa).run cx.P w'=.ok (.value v) w'
theorem dl.of{aa:Oper}{s:Sem Value}{v:Value}(o:execOp (Act.eval ⟨T,ah.D cx⟩) aa=(do pure (Next.value (<-s))))(q:ke cx.P w s v):dl cx T w aa v:=by
 intro w' L
 rw[o,Sem.run_bind,q w' L]
 rfl
theorem Pc{P:Program}{t:TypeId}{s:List UInt8}{n b:Int}{k:IntKind}(o:P.underlying t=some .string)(h:fa s n=some b):
  fF P (Instr.index t (.string (bytesOf s)) (.int k n)) (.int .u8 b):=by
 intro w'
 unfold fa at h
 split at h
 ·rename_i c q
  cases h
  obtain⟨L,O,R⟩:=gS q
  rw[run_index_string _ t _ k n o]
  have U:n<(bytesOf s).size:=by rw[gH];exact O
  rw[dif_pos ⟨L,U⟩]
  have:(bytesOf s)[n.toNat]'(by omega)=c:=by
   have V:(bytesOf s).data[n.toNat]? =some c:=by simpa[bytesOf]using R
   have:=(Array.getElem?_eq_some_iff.1 V).2
   exact this
  rw[this]
 ·cases h
theorem LQ{P:Program}{t:TypeId}{s r:List UInt8}{o q:Option Value}{l h:Int}(O:P.underlying t=some .string)
  (V:(o=none/\l=0)\/∃k,o=some (.int k l))(W:(q=none/\h=s.length)\/∃k,q=some (.int k h))(Y:dD s l h=some r):
  fF P (Instr.sliceAt t (.string (bytesOf s)) o q none) (.string (bytesOf r)):=by
 intro w'
 obtain⟨lf,lg,lh,rfl⟩:=qT Y
 have li:((bytesOf s).size:Int)=s.length:=by rw[gH]
 have Z:∀a b:Nat,(bytesOf s).extract a b=bytesOf ((s.take b).drop a):=by
  intro a b
  apply ByteArray.ext
  apply Array.ext'
  have:=Lib.extract_data (bytesOf s) a b
  rw[this]
  simp only[bytesOf]
  rw[List.drop_take]
 have la:Instr.sliceAt t (.string (bytesOf s)) o q none=(do match<-underlying t with
  |.array n lb=>
   let a<-Instr.sureAddr (.string (bytesOf s))
   let(l,h,m)<-Instr.sliceBounds false n n o q none
   let size<-sizeOf lb
   pure (.slice (some (if m=l then a else a.add (l*size))) (h-l) (m-l))
  |_=>Instr.slice t (.string (bytesOf s)) o q none):=rfl
 rw[la,Sem.run_bind,run_underlying O]
 simp only[Result.andThen_ok]
 have L:∀(x:Value) (k:IntKind) (n:Int) (y:Nat) (c:BoundsCode) (w:World),x=.int k n->0<=n->n<=y->(Instr.sliceBound x y c).run P w=.ok n.toNat w:=by
  rintro x k n y c w rfl lc ld
  simp[Instr.sliceBound,asIntOf,lc,ld]
 have le:(Instr.sliceBounds false (bytesOf s).size (bytesOf s).size o q none).run P w'=.ok (l.toNat,h.toNat,(bytesOf s).size) w':=by
  rcases V with ⟨rfl,rfl⟩|⟨R,rfl⟩<;>rcases W with ⟨rfl,rfl⟩|⟨U,rfl⟩
  ·simp[Instr.sliceBounds,gH]
  ·simp only[Instr.sliceBounds,Sem.run_bind,Sem.run_pure,Result.andThen_ok]
   rw[L _ U h _ _ _ rfl (by omega) (by omega)]
   simp
  ·simp only[Instr.sliceBounds,Sem.run_bind,Sem.run_pure,Result.andThen_ok]
   rw[L _ R l _ _ _ rfl (by omega) (by omega)]
   simp[gH]
  ·simp only[Instr.sliceBounds,Sem.run_bind,Sem.run_pure,Result.andThen_ok]
   rw[L _ U h _ _ _ rfl (by omega) (by omega)]
   simp only[Result.andThen_ok,Sem.run_bind]
   rw[L _ R l _ _ _ rfl (by omega) (by omega)]
   simp
 simp only[Instr.slice,Sem.run_bind,run_underlying O,Result.andThen_ok,Option.isSome_none,Bool.false_eq_true,if_false,Sem.run_pure,le,Z]
theorem P3{P:Program}{M:Nat->Prop}{t e:TypeId}{u:ag}{xs r:List u.el}{d:Nat}{v:Value}{o q:Option Value}{l h:Int}(la:P.underlying t=some (.slice e))(lj:cH P d e=some u)
  (lk:aK w M (.ab u) [v] xs)(ll:(o=none/\l=0)\/∃k,o=some (.int k l))(lm:(q=none/\h=xs.length)\/∃k,q=some (.int k h))(ln:dD xs l h=some r):
  ∃v',fF P (Instr.sliceAt t v o q none) v'/\aK w M (.ab u) [v'] r:=by
 obtain⟨lb,lH,lI,rfl⟩:=qT ln
 obtain⟨a,cap,cells,lc,lJ,lK,ld,lo,lp⟩:=lk
 simp only[List.cons.injEq,and_true]at lc
 subst lc
 have lq:Instr.sliceAt t (.slice a xs.length cap) o q none=(do match<-underlying t with
  |.array n lr=>
   let le<-Instr.sureAddr (.slice a xs.length cap)
   let(l,h,m)<-Instr.sliceBounds false n n o q none
   let size<-sizeOf lr
   pure (.slice (some (if m=l then le else le.add (l*size))) (h-l) (m-l))
  |_=>Instr.slice t (.slice a xs.length cap) o q none):=rfl
 have V:∀(x:Value) (k:IntKind) (n:Int) (y:Nat) (c:BoundsCode) (w:World),x=.int k n->0<=n->n<=y->(Instr.sliceBound x y c).run P w=.ok n.toNat w:=by
  rintro x k n y c w rfl ls lt
  simp[Instr.sliceBound,asIntOf,ls,lt]
 have lu:∀w',(Instr.sliceBounds true xs.length cap o q none).run P w'=.ok (l.toNat,h.toNat,cap) w':=by
  intro w'
  rcases ll with ⟨rfl,rfl⟩|⟨lf,rfl⟩<;>rcases lm with ⟨rfl,rfl⟩|⟨lg,rfl⟩
  ·simp[Instr.sliceBounds]
  ·simp only[Instr.sliceBounds,Sem.run_bind,Sem.run_pure,Result.andThen_ok]
   rw[V _ lg h _ _ _ rfl (by omega) (by omega)]
   simp
  ·simp only[Instr.sliceBounds,Sem.run_bind,Sem.run_pure,Result.andThen_ok]
   rw[V _ lf l _ _ _ rfl (by omega) (by omega)]
   simp
  ·simp only[Instr.sliceBounds,Sem.run_bind,Sem.run_pure,Result.andThen_ok]
   rw[V _ lg h _ _ _ rfl (by omega) (by omega)]
   simp only[Result.andThen_ok,Sem.run_bind]
   rw[V _ lf l _ _ _ rfl (by omega) (by omega)]
   simp
 have Z:((xs.take h.toNat).drop l.toNat).length=h.toNat-l.toNat:=by
  rw[List.length_drop,List.length_take];omega
 refine⟨.slice (if cap=l.toNat then a else a.map (·.add (l.toNat*u.cells))) (h.toNat-l.toNat) (cap-l.toNat),fun w'=>?_,?_⟩
 ·rw[lq,Sem.run_bind,run_underlying la]
  simp only[Result.andThen_ok,Instr.slice,Sem.run_bind,run_underlying la,lu,eB lj,Sem.run_pure]
 ·have split:∀(L:List u.el) (O:List Value) (n:Nat),bL (aK w M u) O L->n<=L.length->∃U c2,O=U++c2/\U.length=n*u.cells/\bL (aK w M u) U (L.take n)/\bL (aK w M u) c2 (L.drop n):=by
   intro L
   induction L with
   |nil=>
    intro O n W R
    have lb:n=0:=Nat.le_zero.1 R
    rw[lb]
    exact⟨[],O,rfl,by simp,rfl,W⟩
   |cons y L lv=>
    intro O n W R
    cases n with
    |zero=>exact⟨[],O,rfl,by simp,rfl,W⟩
    |succ n=>
     obtain⟨d1,d2,lw,lh,lx⟩:=W
     obtain⟨f1,f2,g1,g2,g3,g4⟩:=lv d2 n lx (by simpa using R)
     exact⟨d1++f1,f2,by rw[lw,g1];simp,by rw[List.length_append,b6 u lh,g2,Nat.succ_mul,Nat.add_comm],⟨d1,f1,rfl,lh,g3⟩,g4⟩
  obtain⟨U,c2,ly,lL,lz,_⟩:=split xs cells h.toNat lo (by omega)
  obtain⟨d1,d2,lA,lM,_,li⟩:=split (xs.take h.toNat) U l.toNat lz (by rw[List.length_take];omega)
  refine⟨(if cap=l.toNat then a else a.map (·.add (l.toNat*u.cells))),cap-l.toNat,d2,by rw[Z],by rw[Z];omega,by omega,?_,li,fun j v Y=>?_⟩
  ·intro R
   split at R
   ·have:=ld R;omega
   ·cases a with
    |none=>have:=ld rfl;omega
    |some a=>simp at R
  ·have lN:=(List.getElem?_eq_some_iff.1 Y).1
   have lB:cells[l.toNat*u.cells+j]? =some v:=by
    rw[ly,lA,List.append_assoc,List.getElem?_append_right (by omega),List.getElem?_append_left (by omega),<-Y]
    congr 1
    omega
   obtain⟨b,lC,lD,lE⟩:=lp _ _ lB
   subst lC
   split
   ·rename_i lO
    have lF:d2=[]:=by
     have:=hO (fun O x=>b6 u) _ _ li
     rw[Z]at this
     have lG:h.toNat-l.toNat=0:=by omega
     rw[lG,Nat.zero_mul]at this
     exact List.eq_nil_of_length_eq_zero this
    rw[lF]at Y
    simp at Y
   ·exact⟨_,rfl,by rw[add_add];exact lD,by rw[iC];exact lE⟩
theorem B9{P:Program}:∀(o:List Field),(∀f∈o,∃i,P.info? f.type=some i)->
  o.mapM (fun f=>(P.info? f.type).map fun i=>(f.offset,i.size))=some (o.map fun f=>(f.offset,P.cellsOf f.type))
 |[],_=>rfl
 |f::o,h=>by
  obtain⟨i,q⟩:=h f List.mem_cons_self
  rw[List.mapM_cons,B9 o (fun g L=>h g (List.mem_cons_of_mem _ L))]
  simp[q,Program.cellsOf]
theorem zV{P:Program}{d:Nat}:∀{q:List Field} {off:Nat} {u:ag},fieldsOf (cH P d) off q=some u->∀f∈q,∃i,P.info? f.type=some i
 |[],_,_,_,f,o=>by simp at o
 |fd::q,off,u,h,f,o=>by
  unfold fieldsOf at h
  cases L:Nat.beq fd.offset off with
  |false=>rw[L]at h;cases h
  |true=>
   rw[L,cond_true]at h
   split at h
   ·rename_i a O
    split at h
    ·rename_i b R
     rcases List.mem_cons.1 o with rfl|o
     ·obtain⟨i,U,_⟩:=cQ O;exact⟨i,U⟩
     ·exact zV R f o
    ·cases h
   ·cases h
theorem T8(o:List Value):∀(k:Nat) (pre post old:List Value),old.length=o.length->
  ((o.zipIdx k).foldl (fun q (x:Value×Nat)=>Array.setIfInBounds q (pre.length+x.2-k) x.1) (pre++old++post).toArray)=(pre++o++post).toArray:=by
 induction o with
 |nil=>intro k pre post old h;have:old=[]:=List.eq_nil_of_length_eq_zero h;subst this;rfl
 |cons v o L=>
  intro k pre post old h
  match old,h with
  |aa::old,h=>
   have h':old.length=o.length:=by simpa using h
   have O:Array.setIfInBounds (pre++(aa::old)++post).toArray (pre.length+k-k) v=((pre++[v])++old++post).toArray:=by
    rw[show pre.length+k-k=pre.length by omega]
    simp
   rw[List.zipIdx_cons,List.foldl_cons,O]
   have:=L (k+1) (pre++[v]) post old h'
   rw[List.length_append,List.length_singleton]at this
   have R:(fun(q:Array Value) (x:Value×Nat)=>Array.setIfInBounds q (pre.length+1+x.2-(k+1)) x.1)=(fun q x=>Array.setIfInBounds q (pre.length+x.2-k) x.1):=by
    funext q x
    congr 1
    omega
   rw[R]at this
   rw[this]
   simp
theorem rY(o pre post old:List Value)(h:old.length=o.length):
  (o.toArray.zipIdx.foldl (fun q (x:Value×Nat)=>Array.setIfInBounds q (pre.length+x.2) x.1) (pre++old++post).toArray)=(pre++o++post).toArray:=by
 have:=T8 o 0 pre post old h
 simpa using this
theorem Fr{P:Program}{t:TypeId}{u:ag}{lc:Array Field}(ld:P.underlying t=some (.struct lc))(h:an cx m st T w)(le:P=cx.P)
  {place:Nat->Option (Nat×Nat)}(U:∀i off o,fieldInfo P t i=some (off,o)->place i=some (off,o.cells)):
  ∀(parts:List (Nat×Operand)) (x y:u.el) (L:List Value),aK w (ar cx m st.ids) u L x->rZ P st t u parts x=some y->
   ∃O,Instr.fill place L.toArray (parts.map fun p=>(p.1,Act.eval ⟨T,ah.D cx⟩ p.2))=some O.toArray/\aK w (ar cx m st.ids) u O y
 |[],x,y,L,R,q=>by cases q;exact⟨L,rfl,R⟩
 |(i,aa)::r,x,y,L,R,q=>by
  unfold rZ at q
  split at q
  ·rename_i off o v lf lg
   split at q
   ·rename_i lh li lj
    have lk:=cK h lg
    have V:=iI lk
    obtain⟨W,c2,c3,rfl,Y,Z,ll⟩:=mU V u R lj
    have lm:v.t.cells=o.cells:=by rw[ag.eq_of_beq li]
    have la:(Act.eval ⟨T,ah.D cx⟩ aa).cells.toList.length=o.cells:=by rw[b6 v.t V,lm]
    have ln:(Act.eval ⟨T,ah.D cx⟩ aa).cells.size=o.cells:=by rw[<-la];simp
    obtain⟨O,lo,lp⟩:=Fr ld h le U r lh y _ ll q
    refine⟨O,?_,lp⟩
    rw[List.map_cons,Instr.fill,U i off o lf]
    have lq:¬(((Act.eval ⟨T,ah.D cx⟩ aa).cells.size≠o.cells||decide (off+(Act.eval ⟨T,ah.D cx⟩ aa).cells.size>(W++c2++c3).toArray.size))=true):=by
     simp only[ln,List.size_toArray,List.length_append,Y,Z,la]
     simp
    simp only[]
    rw[if_neg lq]
    have lb:=rY (Act.eval ⟨T,ah.D cx⟩ aa).cells.toList W c3 c2 Z
    rw[Y,Array.toArray_toList]at lb
    rw[lb]
    exact lo
   ·cases q
  ·cases q
end Go.Ev
namespace Go.Ev
open Go Go.RowKit
variable [bV]
variable {cx:bx} {m:Nat->Value} {st:af} {T:Array Value} {w w':World}
variable [ah cx]
theorem F4(h:an cx m st T w){o:Option Operand}{l:Int}(q:db.pY st o=some l):
  (o.map (Act.eval ⟨T,ah.D cx⟩)=none/\l=0)\/∃k,o.map (Act.eval ⟨T,ah.D cx⟩)=some (.int k l):=by
 cases o with
 |none=>cases q;exact .inl ⟨rfl,rfl⟩
 |some x=>obtain⟨k,L⟩:=eR h q;exact .inr ⟨k,by simp[L]⟩
theorem G5(h:an cx m st T w){o:Option Operand}{n:Nat}{l:Int}(q:db.oY st o n=some l):
  (o.map (Act.eval ⟨T,ah.D cx⟩)=none/\l=n)\/∃k,o.map (Act.eval ⟨T,ah.D cx⟩)=some (.int k l):=by
 cases o with
 |none=>cases q;exact .inl ⟨rfl,rfl⟩
 |some x=>obtain⟨k,L⟩:=eR h q;exact .inr ⟨k,by simp[L]⟩
theorem r8{M:Nat->Prop}{v:Value}{t:ag}{x:t.el}(h:aN w M m v (.vptr t x)):∃a,v=.pointer (some a)/\Holds w M a t x:=by
 obtain⟨a,cells,e,o,q⟩:=h
 exact⟨a,e,cells,o,q⟩
theorem uR{M:Nat->Prop}{a:Addr}{t:ag}{x:t.el}(h:Holds w M a t x):aN w M m (.pointer (some a)) (.vptr t x):=by
 obtain⟨cells,o,q⟩:=h
 exact⟨a,cells,rfl,o,q⟩
theorem Sd{α:Type}{s r:List α}{o q:Int}(h:dD s o q=some r):r.length<=s.length:=by
 obtain⟨_,_,_,rfl⟩:=qT h
 rw[List.length_drop,List.length_take]
 omega
theorem F5{cx:bx}{m:Nat->Value}{st:af}{T:Array Value}{w:World}(h:an cx m st T w){aa:Oper}{src W:TypeId}{x:Operand}(Y:aa.op=.convert src W x){orc:List ak}{O:di}(o:r9 cx.P st src W x orc=some O)(Z:bJ O.ob):
  ∃v,dl cx T w aa v/\aN w (ar cx m st.ids) m v O.aM:=by
 have key:∀s,(aO st x).map (j5 st)=some s->aN w (fun _=>False) m (Act.eval ⟨T,ah.D cx⟩ x) s:=by
  intro s q
  obtain⟨la,L,R⟩:=Option.map_eq_some_iff.1 q
  rw[<-R]
  exact DR h (a8 h L)
 unfold r9 at o
 split at o
 ·rename_i xs e U q aj
  split at o
  ·rename_i V
   cases o
   obtain⟨L,R⟩:=Sw q V aj (key _ U)
   exact⟨_,dl.of (by simp only[execOp,Y]) L,dV.2 ⟨rfl,R⟩⟩
  ·cases o
 ·rename_i xs e U q aj
  split at o
  ·rename_i V
   cases o
   have L:=Lt q V aj (key _ U)
   exact⟨_,dl.of (by simp only[execOp,Y]) L,dV.2 ⟨rfl,Nat.le_trans Z.1 oC⟩⟩
  ·cases o
 ·cases o
theorem Iu{y:Operand}(h:ne y=true):y=.const .nilIface:=by
 cases y with
 |const c=>cases c<;>first|rfl|(simp[ne]at h)
 |_=>simp[ne]at h
theorem FZ{P:Program}{t:TypeId}{ms}(o:P.underlying t=some (.interface ms))(w:World):(Op.equal t .nilIface .nilIface).run P w=.ok true w:=by
 unfold Op.equal Op.maxDepth
 rw[Op.equalIn]
 simp only[Sem.run_bind,run_underlying o,Result.andThen_ok]
 rfl
theorem mP{P:Program}{t u:TypeId}{v:Value}{ms}(o:P.underlying t=some (.interface ms))(w:World):(Op.equal t (.iface u v) .nilIface).run P w=.ok false w:=by
 unfold Op.equal Op.maxDepth
 rw[Op.equalIn]
 simp only[Sem.run_bind,run_underlying o,Result.andThen_ok]
 rfl
theorem G6{P:Program}{t u:TypeId}{v:Value}{ms}(o:P.underlying t=some (.interface ms))(w:World):(Op.equal t .nilIface (.iface u v)).run P w=.ok false w:=by
 unfold Op.equal Op.maxDepth
 rw[Op.equalIn]
 simp only[Sem.run_bind,run_underlying o,Result.andThen_ok]
 rfl
theorem mV{P:Program}{t:TypeId}{o q:Value}{b:Bool}(L:binOp .eql t o q=(do pure (.bool (<-Op.equal t o q))))(h:∀w,(Op.equal t o q).run P w=.ok b w)(w:World):(binOp .eql t o q).run P w=.ok (.bool b) w:=by
 rw[L,Sem.run_bind,h w];rfl
theorem nQ{P:Program}{t:TypeId}{o q:Value}{b:Bool}(L:binOp .neq t o q=(do pure (.bool (!(<-Op.equal t o q)))))(h:∀w,(Op.equal t o q).run P w=.ok b w)(w:World):(binOp .neq t o q).run P w=.ok (.bool (!b)) w:=by
 rw[L,Sem.run_bind,h w];rfl
theorem DY{P:Program}{M:Nat->Prop}{op:BinOp}{t:TypeId}{x y:ak}{L q:Value}{ox oy:Operand}{r:Bool}{ob:List Prop}(O:bc w M L x.t x.x)(R:bc w M q y.t y.x)
  (lc:oy=.const .nilIface->q=.nilIface)(h:kW P op t oy x y=some (r,ob))(le:bJ ob):
  ∃v,fF P (do eqGuard op t ox oy L q;binOp op t L q) v/\∀w M,bc w M v .bool r:=by
 have fin:∀(b:Bool) (W:List Prop),kW.neg op b W=some (r,ob)->(∀w,(eqGuard .eql t ox oy L q).run P w=.ok () w)->(∀w,(eqGuard .neq t ox oy L q).run P w=.ok () w)->
   (∀w,(binOp .eql t L q).run P w=.ok (.bool b) w)->(∀w,(binOp .neq t L q).run P w=.ok (.bool (!b)) w)->∃v,fF P (do eqGuard op t ox oy L q;binOp op t L q) v/\∀w M,bc w M v .bool r:=by
  intro b W h g1 g2 lf lg
  unfold kW.neg at h
  split at h
  ·cases h;exact⟨_,fun w=>by rw[Sem.run_bind,g1 w];exact lf w,fun _ _=>dj.2 rfl⟩
  ·cases h;exact⟨_,fun w=>by rw[Sem.run_bind,g2 w];exact lg w,fun _ _=>dj.2 rfl⟩
  ·cases h
 have W:∀(b:Bool) (aa:List Prop),kW.neg op b aa=some (r,ob)->ob=aa:=by
  intro b aa h
  unfold kW.neg at h
  split at h<;>cases h<;>rfl
 unfold kW at h
 split at h
 ·rename_i a b
  have O:=(bA (t:=.err) rfl).1 O
  have R:=(bA (t:=.err) rfl).1 R
  split at h
  ·rename_i ld o Y
   have U:=Iu Y
   have V:=lc U
   subst U
   subst V
   rcases O with ⟨rfl,e⟩|⟨rfl,u,v,e⟩|⟨u,n,rfl,e⟩<;>simp only[List.cons.injEq,and_true]at e<;>subst e
   ·exact fin _ _ h (fun w=>by cases ox<;>rfl) (fun w=>by cases ox<;>rfl) (mV rfl (FZ o)) (nQ rfl (FZ o))
   ·exact fin _ _ h (fun w=>rfl) (fun w=>rfl) (mV rfl (mP o)) (nQ rfl (mP o))
   ·exact fin _ _ h (fun w=>rfl) (fun w=>rfl) (mV rfl (mP o)) (nQ rfl (mP o))
  ·rename_i ld o Y
   split at h
   ·rename_i u m la
    have la:b=some (some (u,m)):=la
    subst la
    have R:q=.iface u (.int .i64 m):=by
     rcases R with ⟨e,_⟩|⟨e,_⟩|⟨Z,ll,e,V⟩
     ·cases e
     ·cases e
     ·cases e;simpa using V
    subst R
    split at h
    ·rename_i i k lh li
     cases lb:i.comparable with
     |false=>rw[lb]at h;cases h
     |true=>
      rw[lb,cond_true]at h
      have:=W _ _ h
      subst this
      have lj:=le.1
      have lk:∀w,(typeInfo u).run P w=.ok i w:=fun w=>run_typeInfo w lh
      rcases O with ⟨rfl,e⟩|⟨rfl,_⟩|⟨Z,n,rfl,e⟩
      ·simp only[List.cons.injEq,and_true]at e;subst e
       exact fin _ _ h (fun w=>rfl) (fun w=>rfl) (mV rfl (G6 o)) (nQ rfl (G6 o))
      ·exact absurd rfl lj
      ·simp only[List.cons.injEq,and_true]at e;subst e
       have key:∀w,(Op.equal t (.iface Z (.int .i64 n)) (.iface u (.int .i64 m))).run P w=.ok (td (some (some (Z,n))) u m) w:=by
        intro w
        unfold Op.equal Op.maxDepth
        rw[Op.equalIn]
        simp only[Sem.run_bind,run_underlying o,Result.andThen_ok]
        by_cases aY:Z=u
        ·subst aY
         simp only[ne_eq,not_true_eq_false,if_false,Sem.run_bind,lk,Result.andThen_ok,lb,Bool.not_true,Bool.false_eq_true]
         rw[run_equalIn_int (h:=li)]
         simp[td]
        ·simp[aY,td,Sem.run_pure]
       exact fin _ _ h (fun w=>rfl) (fun w=>rfl) (mV rfl key) (nQ rfl key)
    ·cases h
   ·cases h
  ·cases h
 ·rename_i n u a b
  have O:=(bA (t:=.cy n u) rfl).1 O
  split at h
  ·rename_i ld o Y
   have U:=Iu Y
   have V:=lc U
   subst U
   subst V
   obtain⟨v,e,_⟩:=O
   simp only[List.cons.injEq,and_true]at e
   subst e
   exact fin _ _ h (fun w=>rfl) (fun w=>rfl) (mV rfl (mP o)) (nQ rfl (mP o))
  ·cases h
 ·cases h
theorem DA(h:an cx m st T w){fl:Bool}{args:Array Operand}{r:ak}(o:s6 st fl args.toList=some r):
  ∃x y k a b,args=#[x,y]/\Act.eval ⟨T,ah.D cx⟩ x=.int k a/\Act.eval ⟨T,ah.D cx⟩ y=.int k b/\r=⟨.int k,bif fl then qo a b else fA a b⟩:=by
 unfold s6 at o
 split at o
 ·rename_i x y L
  split at o
  ·rename_i k a k' b O R
   cases q:fS k k' with
   |false=>rw[q]at o;cases o
   |true=>
    rw[q,cond_true]at o
    cases o
    obtain rfl:=kD q
    exact⟨x,y,k,a,b,by rw[<-Array.toArray_toList (xs:=args),L],cJ.1 (cK h O),cJ.1 (cK h R),rfl⟩
  ·cases o
 ·cases o
set_option maxHeartbeats 1000000 in
theorem yE(h:an cx m st T w){aa:Oper}{orc:List ak}{lN:di}(o:db cx.P st aa.op orc=some lN)(lc:bJ lN.ob):
  ∃v,dl cx T w aa v/\aN w (ar cx m st.ids) m v lN.aM:=by
 cases R:aa.op<;>rw[R]at o
 case move x=>
  simp only[db]at o
  split at o
  ·rename_i s ld
   cases o
   exact⟨_,fun w' _=>by simp[execOp,R],a8 h ld⟩
  ·cases o
 case assign x=>
  simp only[db]at o
  split at o
  ·rename_i s ld
   cases o
   exact⟨_,fun w' _=>by simp[execOp,R],a8 h ld⟩
  ·cases o
 case pick c a b=>
  simp only[db]at o
  split at o
  ·rename_i le
   have lO:=dj.1 (cK h le)
   split at o
   ·rename_i s ld
    cases o
    refine⟨_,fun w' _=>?_,a8 h ld⟩
    simp[execOp,R,lO,asBool]
   ·cases o
  ·rename_i le
   have lO:=dj.1 (cK h le)
   split at o
   ·rename_i s ld
    cases o
    refine⟨_,fun w' _=>?_,a8 h ld⟩
    simp[execOp,R,lO,asBool]
   ·cases o
  ·cases o
 case binOp ap t x y a5=>
  simp only[db]at o
  split at o
  ·rename_i a b lq U
   split at o
   ·rename_i r ob V
    cases o
    obtain⟨v,L,q⟩:=ww (ox:=x) (oy:=y) (cK h lq) (cK h U) V lc
    exact⟨v,dl.of (by simp only[execOp,R]) L.steady,q _ _⟩
   ·split at o
    ·rename_i r ob V
     cases o
     obtain⟨v,L,q⟩:=DY (ox:=x) (oy:=y) (cK h lq) (cK h U) (fun lm=>by subst lm;rfl) V lc
     exact⟨v,dl.of (by simp only[execOp,R]) L.steady,q _ _⟩
    ·cases o
  ·cases o
 case unOp ap t x=>
  simp only[db]at o
  split at o
  ·rename_i a lq
   split at o
   ·rename_i r V
    cases o
    obtain⟨v,L,q⟩:=Tr (P:=cx.P) (cK h lq) V
    exact⟨v,dl.of (by simp only[execOp,R]) L.steady,q _ _⟩
   ·cases o
  ·cases o
 case convert src a6 x=>
  simp only[db]at o
  split at o
  ·rename_i a lq
   split at o
   ·rename_i r V
    cases o
    obtain⟨v,L,q⟩:=RP (cK h lq) V
    exact⟨v,dl.of (by simp only[execOp,R]) L.steady,q _ _⟩
   ·exact F5 h R o lc
  ·exact F5 h R o lc
 case index t x i=>
  simp only[db]at o
  split at o
  ·rename_i s n b orc' O lb Z
   cases o
   obtain⟨k,li⟩:=eR h lb
   obtain⟨W,_⟩:=dV.1 (cK h O)
   refine⟨.int .u8 b,dl.of (s:=Instr.index t (.string (bytesOf s)) (.int k n)) (by simp only[execOp,R,W,li];rfl) (Pc Z lc.1).steady,cJ.2 rfl⟩
  ·rename_i k u xs n v orc' k' e O lb Z
   split at o
   ·rename_i lj y U lr lm
    cases ls:u.beq lj<;>rw[ls]at o<;>cases o
    obtain rfl:=Nat.eq_of_beq_eq_true U
    obtain rfl:=ag.eq_of_beq ls
    obtain⟨ly,aY⟩:=eR h lb
    obtain⟨lo,L,q⟩:=gS lc.1
    obtain⟨aq,W,lP,lQ⟩:=(dK (t:=.arr k u) rfl).1 (cK h O)
    obtain⟨lv,c2,c3,rfl,lf,V⟩:=jC lQ q
    obtain⟨r,lz,lR⟩:=tW lr (pre:=lv) (post:=c3) V
    refine⟨r,dl.of (s:=Instr.index t (.agg (lv++c2++c3).toArray) (.int ly n)) (by simp only[execOp,R,W,aY]) (fun w' _=>?_),lR⟩
    have lA:n<(k:Int):=by rw[<-lP];exact L
    simp only[Instr.index,asIntOf,Sem.run_bind,Sem.run_pure,Result.andThen_ok,run_underlying Z]
    rw[if_pos ⟨lo,lA⟩]
    simp only[Sem.run_bind,eB lr,Result.andThen_ok]
    have:=lz w'
    rw[lf]at this
    exact this
   ·cases o
  ·cases o
 case field t x f=>
  simp only[db]at o
  split at o
  ·rename_i a off u lq lg
   split at o
   ·rename_i y lH ln
    cases o
    obtain⟨r,L,q⟩:=Qr lg lH (cK h lq) ln
    exact⟨r,dl.of (by simp only[execOp,R]) L.steady,q⟩
   ·cases o
  ·cases o
 case build t parts=>
  simp only[db]at o
  split at o
  ·rename_i u i Y lb
   split at o
   ·rename_i z lk l7
    have lH:=ag.Rd l7
    split at o
    ·rename_i y au av
     cases o
     obtain⟨l8,l9,aw⟩:=HT (w:=w) (M:=ar cx m st.ids) u au
     rw[List.append_nil]at l9
     obtain⟨a7,a9,ba,lg⟩:=cQ Y
     have ax:∃lw d',cx.P.underlying t=some (.struct lw)/\fieldsOf (cH cx.P d') 0 lw.toList=some u:=by
      cases u<;>first|exact lg|(simp[ag.mZ]at l7)
     obtain⟨lw,d',lS,ay⟩:=ax
     obtain⟨ab,az,lR⟩:=Fr lS h rfl (place:=fun k=>(lw.map fun f=>(f.offset,cx.P.cellsOf f.type))[k]?) (fun k off lB aA=>by
      obtain⟨aB,bb,L,q,lI,lJ,aC⟩:=r4 aA
      have:aB=lw:=by rw[lS]at L;cases L;rfl
      subst this
      obtain⟨i3,aD,aE,_⟩:=cQ lI
      rw[Array.getElem?_map,q]
      simp[lJ,Program.cellsOf,aD,aE]) parts.toList (bX u) y l8 aw av
     refine⟨.agg ab.toArray,dl.of (by simp only[execOp,R]) (s:=Instr.build t (parts.map fun p=>(p.1,Act.eval ⟨T,ah.D cx⟩ p.2))) ?_,(dK lH).2 ⟨ab,rfl,lR⟩⟩
     intro w' _
     have aF:z.cells=l8.toArray:=by rw[<-l9]
     refine run_build w' t _ _ ?_
     unfold Program.built
     simp only[lb,lS,lk,B9 lw.toList (fun f lg=>zV ay f lg)]
     rw[aF,Array.toList_map,<-az]
     congr 1
     funext k
     simp
    ·cases o
   ·cases o
  ·cases o
 case extract x i=>
  simp only[db]at o
  split at o
  ·rename_i l O
   split at o
   ·rename_i v W
    cases o
    obtain⟨vs,lC,V⟩:=a8 h O
    have key:∀(vs:List Value) (l:List ak) (i:Nat) (u:ak),dB w (ar cx m st.ids) vs l->l[i]? =some u->∃v,vs[i]? =some v/\bc w (ar cx m st.ids) v u.t u.x:=by
     intro vs
     induction vs with
     |nil=>intro l i u V Y;cases l with
      |nil=>simp at Y
      |cons _ _=>exact V.elim
     |cons v vs lD=>intro l i u V Y;cases l with
      |nil=>exact V.elim
      |cons lj l=>cases i with
       |zero=>simp at Y;subst Y;exact⟨v,rfl,V.1⟩
       |succ i=>exact lD l i u V.2 (by simpa using Y)
    obtain⟨v',L,q⟩:=key vs l i v V W
    refine⟨v',fun w' _=>?_,q⟩
    simp only[execOp,R,lC,Instr.extract]
    rw[List.getElem?_toArray,L]
    rfl
   ·cases o
  ·rename_i l O
   have key:∀(vs:List Value) (l:List bQ) (i:Nat) (u:bQ),cM w (ar cx m st.ids) m vs l->l[i]? =some u->∃v,vs[i]? =some v/\(match u with|.v u=>bc w (ar cx m st.ids) v u.t u.x|.r r=>v=m r|.a=>True):=by
    intro vs
    induction vs with
    |nil=>intro l i u V Y;cases l with
     |nil=>simp at Y
     |cons _ _=>exact V.elim
    |cons v vs lD=>intro l i u V Y;cases l with
     |nil=>exact V.elim
     |cons lj l=>cases i with
      |zero=>simp at Y;subst Y;cases lj with
       |v _=>exact⟨v,rfl,V.1⟩
       |r _=>exact⟨v,rfl,V.1⟩
       |a=>exact⟨v,rfl,trivial⟩
      |succ i=>cases lj with
       |v _=>exact lD l i u V.2 (by simpa using Y)
       |r _=>exact lD l i u V.2 (by simpa using Y)
       |a=>exact lD l i u V (by simpa using Y)
   obtain⟨vs,lC,V⟩:=a8 h O
   split at o
   ·rename_i v W
    cases o
    obtain⟨v',L,q⟩:=key vs l i _ V W
    refine⟨v',fun w' _=>?_,q⟩
    simp only[execOp,R,lC,Instr.extract]
    rw[List.getElem?_toArray,L]
    rfl
   ·rename_i r W
    cases o
    obtain⟨v',L,q⟩:=key vs l i _ V W
    refine⟨v',fun w' _=>?_,?_⟩
    ·simp only[execOp,R,lC,Instr.extract]
     rw[List.getElem?_toArray,L]
     rfl
    ·show aN _ _ _ _ _
     split
     ·rename_i l e lf
      obtain⟨g,ln,_⟩:=h.box (aW lf)
      have q:v'=m r:=q
      exact⟨g,ln,q.trans ln⟩
     ·rename_i t x e lf
      obtain⟨g,ln,_⟩:=h.box (aW lf)
      have q:v'=m r:=q
      exact⟨g,ln,q.trans ln⟩
     ·exact q
     ·exact q
   ·rename_i W
    cases o
    obtain⟨v',L,_⟩:=key vs l i _ V W
    refine⟨v',fun w' _=>?_,trivial⟩
    simp only[execOp,R,lC,Instr.extract]
    rw[List.getElem?_toArray,L]
    rfl
   ·cases o
  ·cases o
 case nilCheck x=>
  simp only[db]at o
  split at o
  ·rename_i b off O
   cases o
   have W:=a8 h O
   obtain⟨g,L,q⟩:=W
   exact⟨_,fun w' _=>by simp only[execOp,R,q];rfl,g,L,q⟩
  ·rename_i t y O
   cases o
   have W:=a8 h O
   obtain⟨a,L,q⟩:=r8 W
   exact⟨_,fun w' _=>by simp only[execOp,R,L];rfl,L▸W⟩
  ·rename_i r i off lK O
   cases o
   have W:=a8 h O
   obtain⟨g,n,cap,L,q⟩:=W
   exact⟨_,fun w' _=>by simp only[execOp,R,q];rfl,g,n,cap,L,q⟩
  ·rename_i b p O
   cases o
   have W:=a8 h O
   obtain⟨g,L,q⟩:=W
   exact⟨_,fun w' _=>by simp only[execOp,R,q];rfl,g,L,q⟩
  ·cases o
 case fieldAddr t x f=>
  simp only[db]at o
  split at o
  ·rename_i b off lt lB O lg
   cases o
   obtain⟨g,L,q⟩:=a8 h O
   refine⟨.pointer (some ⟨g,off+lt,none⟩),dl.of (by simp only[execOp,R]) (s:=Instr.fieldAt t (Act.eval ⟨T,ah.D cx⟩ x) f) ?_,g,L,rfl⟩
   intro w' _
   rw[q,kO lg,fR]
  ·rename_i u y lt lB O lg
   split at o
   ·rename_i z lk
    cases o
    obtain⟨a,L,q⟩:=r8 (a8 h O)
    refine⟨.pointer (some (a.add lt)),dl.of (by simp only[execOp,R]) (s:=Instr.fieldAt t (Act.eval ⟨T,ah.D cx⟩ x) f) ?_,uR (q.part lk)⟩
    intro w' _
    rw[L,kO lg]
   ·cases o
  ·rename_i r i off lK lt lB O lg
   cases o
   obtain⟨g,n,cap,L,q⟩:=a8 h O
   refine⟨.pointer (some ⟨g,i.toNat*lK+(off+lt),none⟩),dl.of (by simp only[execOp,R]) (s:=Instr.fieldAt t (Act.eval ⟨T,ah.D cx⟩ x) f) ?_,g,n,cap,L,rfl⟩
   intro w' _
   rw[q,kO lg,fR,Nat.add_assoc]
  ·rename_i b p lt lB O lg
   cases o
   obtain⟨g,L,q⟩:=a8 h O
   refine⟨.pointer (some ⟨g,fp (p++[.f lt lB]),none⟩),dl.of (by simp only[execOp,R]) (s:=Instr.fieldAt t (Act.eval ⟨T,ah.D cx⟩ x) f) ?_,g,L,rfl⟩
   intro w' _
   rw[q,kO lg,fR,qD]
   rfl
  ·cases o
 case indexAddr t x i=>
  simp only[db]at o
  split at o
  ·rename_i u xs n lj v orc' O lb Z
   split at o
   ·rename_i y U lm
    cases o
    obtain⟨k,li⟩:=eR h lb
    obtain⟨lo,L,q⟩:=gS lc.1
    obtain⟨a,cap,cells,le,aG,_,aH,aI,lT⟩:=(bA (t:=.ab u) rfl).1 (a8 h O)
    simp only[List.cons.injEq,and_true]at le
    obtain⟨lv,c2,c3,rfl,lf,V⟩:=jC aI q
    obtain⟨_,_,_,lU,d',lr,lE⟩:=cQ Z
    obtain rfl:=ag.eq_of_beq U
    have lV:∃b,a=some b:=by
     cases a with
     |some b=>exact⟨b,rfl⟩
     |none=>
      have lI:cap=0:=aH rfl
      have lJ:(List.length xs:Int)<=cap:=by exact_mod_cast aG
      have aC:n<((List.length xs:Nat):Int):=L
      omega
    obtain⟨b,rfl⟩:=lV
    refine⟨.pointer (some (b.add (n.toNat*u.cells))),dl.of (by simp only[execOp,R]) (s:=Instr.indexAt t (Act.eval ⟨T,ah.D cx⟩ x) (Act.eval ⟨T,ah.D cx⟩ i)) ?_,?_⟩
    ·intro w' _
     have lA:n<((List.length xs:Nat):Int):=L
     simp only[le,li,Instr.indexAt,asIntOf,Sem.run_bind,Sem.run_pure,Result.andThen_ok,run_underlying lr]
     rw[if_pos ⟨lo,lA⟩]
     simp only[Sem.run_bind,eB lE,Result.andThen_ok,Sem.run_pure]
    ·refine uR ⟨c2,V,fun j v lF=>?_⟩
     have aJ:=(List.getElem?_eq_some_iff.1 lF).1
     have lW:(lv++c2++c3)[n.toNat*u.cells+j]? =some v:=by
      rw[List.append_assoc,List.getElem?_append_right (by omega),List.getElem?_append_left (by omega),<-lF]
      congr 1
      omega
     obtain⟨bd,lX,ls,lu⟩:=lT _ _ lW
     cases lX
     exact⟨by rw[add_add];exact ls,by rw[iC];exact lu⟩
   ·cases o
  ·rename_i r n lj v orc' O lb Z
   split at o
   ·rename_i c le
    split at o
    ·rename_i y U lm
     cases o
     obtain⟨k,li⟩:=eR h lb
     obtain⟨lo,L,q⟩:=gS lc.1
     obtain⟨_,_,_,lU,d',lr,lE⟩:=cQ Z
     have aK:cH cx.P d' lU=some c.t:=by rw[ag.eq_of_beq U];exact lE
     have W:Act.eval ⟨T,ah.D cx⟩ x=m r:=a8 h O
     obtain⟨cells,aL,_⟩:=h.rows r c (aW le)
     rcases aL.2 with ⟨la,lk⟩|⟨g,cap,cur,la,_⟩
     ·omega
     ·refine⟨.pointer (some ⟨g,n.toNat*c.t.cells+0,none⟩),dl.of (by simp only[execOp,R]) (s:=Instr.indexAt t (Act.eval ⟨T,ah.D cx⟩ x) (Act.eval ⟨T,ah.D cx⟩ i)) ?_,g,_,cap,la,rfl⟩
      intro w' _
      simp only[W,la,li,Instr.indexAt,asIntOf,Sem.run_bind,Sem.run_pure,Result.andThen_ok,run_underlying lr]
      rw[if_pos ⟨lo,L⟩]
      simp only[Sem.run_bind,eB aK,Result.andThen_ok,Sem.run_pure,fR,Nat.zero_add,Nat.add_zero]
    ·cases o
   ·cases o
  ·rename_i k u xs n k' lj v orc' O lb Z
   split at o
   ·rename_i y U lm
    cases o
    simp only[Bool.and_eq_true]at U
    obtain rfl:=Nat.eq_of_beq_eq_true U.1
    obtain rfl:=ag.eq_of_beq U.2
    obtain⟨ly,aY⟩:=eR h lb
    obtain⟨lo,L,q⟩:=gS lc.1
    obtain⟨_,_,_,e,d',Y,lp⟩:=cQ Z
    obtain⟨a,W,aq,⟨lP,lQ⟩,lT⟩:=r8 (a8 h O)
    obtain⟨lv,c2,c3,rfl,lf,V⟩:=jC lQ q
    refine⟨.pointer (some (a.add (n.toNat*u.cells))),dl.of (by simp only[execOp,R]) (s:=Instr.indexAt t (Act.eval ⟨T,ah.D cx⟩ x) (Act.eval ⟨T,ah.D cx⟩ i)) (fun w' _=>?_),?_⟩
    ·rw[W,aY]
     exact oU Y lp lo (by rw[<-lP];exact L) w'
    ·refine uR ⟨c2,V,fun j v lF=>?_⟩
     have aJ:=(List.getElem?_eq_some_iff.1 lF).1
     have lW:(lv++c2++c3)[n.toNat*u.cells+j]? =some v:=by
      rw[List.append_assoc,List.getElem?_append_right (by omega),List.getElem?_append_left (by omega),<-lF]
      congr 1
      omega
     obtain⟨ls,lu⟩:=lT _ _ lW
     exact⟨by rw[add_add];exact ls,by rw[iC];exact lu⟩
   ·cases o
  ·rename_i b p n lx u O lb Z
   cases o
   obtain⟨ly,aY⟩:=eR h lb
   obtain⟨_,_,_,e,d',Y,lp⟩:=cQ Z
   obtain⟨g,lY,lZ⟩:=a8 h O
   refine⟨.pointer (some ⟨g,fp (p++[.x n u.cells]),none⟩),dl.of (by simp only[execOp,R]) (s:=Instr.indexAt t (Act.eval ⟨T,ah.D cx⟩ x) (Act.eval ⟨T,ah.D cx⟩ i)) (fun w' _=>?_),g,lY,rfl⟩
   rw[lZ,aY,oU Y lp lc.1.1 lc.1.2 w',fR,qD]
   rfl
  ·rename_i b off n lx u O lb Z
   cases U:(decide (0<=n)&&decide (n<(lx:Int)))<;>rw[U]at o<;>cases o
   simp only[Bool.and_eq_true,decide_eq_true_eq]at U
   obtain⟨ly,aY⟩:=eR h lb
   obtain⟨_,_,_,e,d',Y,lp⟩:=cQ Z
   obtain⟨g,lY,lZ⟩:=a8 h O
   refine⟨.pointer (some ⟨g,off+n.toNat*u.cells,none⟩),dl.of (by simp only[execOp,R]) (s:=Instr.indexAt t (Act.eval ⟨T,ah.D cx⟩ x) (Act.eval ⟨T,ah.D cx⟩ i)) (fun w' _=>?_),g,lY,rfl⟩
   rw[lZ,aY,oU Y lp U.1 U.2 w',fR]
  ·rename_i r i0 aM lK n lx u O lb Z
   split at o
   ·rename_i c le
    split at o
    ·rename_i v aO U
     split at o
     ·rename_i y lm
      cases o
      simp only[Bool.and_eq_true,beq_iff_eq]at U
      obtain⟨lX,ls,lu,ad⟩:=U
      have lu:=Nat.eq_of_beq_eq_true lu
      have ad:=Nat.eq_of_beq_eq_true ad
      obtain⟨k,li⟩:=eR h lb
      obtain⟨lo,L,q⟩:=gS lc.1
      have l0:c.xs.length=lx:=lc.2.1
      obtain⟨_,_,_,e,d',Y,lp⟩:=cQ Z
      obtain rfl:=ag.eq_of_beq lX
      obtain⟨g,aP,cap,la,W⟩:=a8 h O
      have W:Act.eval ⟨T,ah.D cx⟩ x=.pointer (some ⟨g,0,none⟩):=by rw[W,ls,lu];simp
      refine⟨.pointer (some ⟨g,n.toNat*c.t.cells+0,none⟩),dl.of (by simp only[execOp,R]) (s:=Instr.indexAt t (Act.eval ⟨T,ah.D cx⟩ x) (Act.eval ⟨T,ah.D cx⟩ i)) (fun w' _=>?_),g,_,cap,la,rfl⟩
      have lA:n<(lx:Int):=by rw[<-l0];exact L
      rw[W,li,oU Y lp lo lA w',fR,Nat.zero_add,Nat.add_zero]
     ·cases o
    ·cases o
    ·rename_i aO be
     cases U:(decide (0<=n)&&decide (n<(lx:Int)))<;>rw[U]at o<;>cases o
     simp only[Bool.and_eq_true,decide_eq_true_eq]at U
     obtain⟨ly,aY⟩:=eR h lb
     obtain⟨_,_,_,e,d',Y,lp⟩:=cQ Z
     obtain⟨g,aP,cap,la,W⟩:=a8 h O
     refine⟨.pointer (some ⟨g,i0.toNat*lK+(aM+n.toNat*u.cells),none⟩),dl.of (by simp only[execOp,R]) (s:=Instr.indexAt t (Act.eval ⟨T,ah.D cx⟩ x) (Act.eval ⟨T,ah.D cx⟩ i)) (fun w' _=>?_),g,_,cap,la,rfl⟩
     rw[W,aY,oU Y lp U.1 U.2 w',fR,Nat.add_assoc]
   ·cases o
  ·cases o
 case load t x=>
  simp only[db]at o
  split at o
  ·rename_i u y lj O Z
   split at o
   ·rename_i U lk
    cases o
    obtain⟨a,L,q⟩:=r8 (a8 h O)
    have lz:0<u.cells:=Nat.pos_of_ne_zero (beq_false lk)
    obtain rfl:=ag.eq_of_beq U
    obtain⟨v,lI,lJ⟩:=Qc Z q lz
    refine⟨v,dl.of (by simp only[execOp,R]) (s:=Instr.loadAt t (Act.eval ⟨T,ah.D cx⟩ x)) ?_,lJ⟩
    intro w' ll
    simp only[Instr.loadAt,L,Instr.sureAddr,Sem.run_bind,Sem.run_pure,Result.andThen_ok]
    exact lI w' ll
   ·cases o
  ·cases o
 case slice t x bf lb fl=>
  cases fl with
  |some _=>simp only[db]at o;cases o
  |none=>
   simp only[db]at o
   split at o
   ·rename_i s r orc' O
    split at o
    ·rename_i l l3 Z lf l4
     cases o
     obtain⟨W,l0⟩:=dV.1 (a8 h O)
     have ld:=LQ Z (F4 h lf) (G5 h l4) lc.1
     refine⟨.string (bytesOf r),dl.of (by simp only[execOp,R,W];rfl) ld.steady,dV.2 ⟨rfl,?_⟩⟩
     exact Nat.le_trans (Sd lc.1) l0
    ·cases o
   ·rename_i u xs v orc' O
    split at o
    ·rename_i lj l l3 r Z lf l4 V
     cases U:u.beq lj with
     |false=>rw[U]at o;cases o
     |true=>
      rw[U]at o
      cases o
      obtain rfl:=ag.eq_of_beq U
      obtain⟨_,_,_,lU,d',lr,lE⟩:=cQ Z
      obtain⟨v',L,q⟩:=P3 lr lE ((bA (t:=.ab u) rfl).1 (a8 h O)) (F4 h lf) (G5 h l4) lc.1
      exact⟨v',dl.of (by simp only[execOp,R];rfl) L.steady,(bA (t:=.ab u) rfl).2 q⟩
    ·cases o
   ·cases o
 case call c=>
  simp only[db]at o
  split at o
  ·rename_i c' args lL
   split at o
   ·rename_i x t O Z
    split at o
    ·rename_i s ld
     split at o
     ·rename_i n la
      cases o
      have lf:=SR h (a8 h ld) la (ty':=aa.type)
      have lG:args=#[x]:=by rw[<-Array.toArray_toList (xs:=args),O]
      have ae:lL=#[t]:=by rw[<-Array.toArray_toList (xs:=lL),Z]
      subst lG
      subst ae
      refine⟨.int .i64 n,fun w' ll=>?_,cJ.2 rfl⟩
      simp only[execOp,R,resolve,invoke,builtin,Sem.run_bind,Sem.run_pure,Result.andThen_ok,List.map_toArray,List.map_cons,List.map_nil,lf w' ll]
     ·cases o
    ·cases o
   ·cases o
  ·rename_i args lL
   split at o
   ·rename_i r V
    cases o
    obtain⟨x,y,k,a,b,lG,O,lm,e⟩:=DA h V
    subst lG
    subst e
    refine⟨.int k (qo a b),fun w' ll=>?_,cJ.2 rfl⟩
    simp only[execOp,R,resolve,invoke,builtin,Sem.run_bind,Sem.run_pure,Result.andThen_ok,List.map_toArray,List.map_cons,List.map_nil,O,lm,run_max_int2]
    rfl
   ·cases o
  ·rename_i args lL
   split at o
   ·rename_i r V
    cases o
    obtain⟨x,y,k,a,b,lG,O,lm,e⟩:=DA h V
    subst lG
    subst e
    refine⟨.int k (fA a b),fun w' ll=>?_,cJ.2 rfl⟩
    simp only[execOp,R,resolve,invoke,builtin,Sem.run_bind,Sem.run_pure,Result.andThen_ok,List.map_toArray,List.map_cons,List.map_nil,O,lm,run_min_int2]
    rfl
   ·cases o
  ·cases o
 case makeInterface t x=>
  simp only[db]at o
  cases le:cx.P.concrete t with
  |false=>rw[le]at o;cases o
  |true=>
   rw[le,cond_true]at o
   cases o
   refine⟨_,dl.of (by simp only[execOp,R]) (s:=Instr.makeInterface t (Act.eval ⟨T,ah.D cx⟩ x)) (fun w' _=>run_makeInterface w' t _ le),?_⟩
   have key:∀s,s=ao.val .err (qr t (cY st x))->aN w (ar cx m st.ids) m (Value.iface t (Act.eval ⟨T,ah.D cx⟩ x)) s:=by
    rintro s rfl
    refine(bA (t:=.err) rfl).2 ?_
    unfold qr
    split
    ·rename_i k n O
     cases li:fS k .i64 with
     |true=>
      obtain rfl:=kD li
      have:=cJ.1 (cK h O)
      exact .inr (.inr ⟨t,n,rfl,by rw[this]⟩)
     |false=>exact .inr (.inl ⟨rfl,_,_,rfl⟩)
    ·exact .inr (.inl ⟨rfl,_,_,rfl⟩)
   unfold mkIf
   split
   ·rename_i u y O
    cases lH:u.agg with
    |true=>exact(bA (t:=.cy t u) rfl).2 ⟨_,rfl,cK h O⟩
    |false=>exact key _ (by rw[O];rfl)
   ·rename_i O
    exact key _ (by rw[O])
 case typeAssert x l5 a ok=>
  simp only[db]at o
  unfold Eo at o
  split at o
  ·rename_i n u y d O aj
   have W:=(bA (t:=.cy n u) rfl).1 (cK h O)
   obtain⟨v,e,W⟩:=W
   simp only[List.cons.injEq,and_true]at e
   split at o
   ·cases o
   ·rename_i l6
    split at o
    ·rename_i la
     have la:=Nat.eq_of_beq_eq_true la
     subst la
     cases o
     refine⟨.tuple #[v,.bool true],dl.of (by simp only[execOp,R]) (s:=Instr.typeAssert (Act.eval ⟨T,ah.D cx⟩ x) l5 n true) (fun w' _=>?_),[v,.bool true],rfl,W,dj.2 rfl,trivial⟩
     rw[e]
     unfold Instr.typeAssert
     cases d<;>first|(exact absurd rfl (l6 _))|(simp[run_underlying aj])
    ·rename_i la
     have la:=Nat.eq_of_beq_eq_true la
     subst la
     cases o
     refine⟨v,dl.of (by simp only[execOp,R]) (s:=Instr.typeAssert (Act.eval ⟨T,ah.D cx⟩ x) l5 n false) (fun w' _=>?_),W⟩
     rw[e]
     unfold Instr.typeAssert
     cases d<;>first|(exact absurd rfl (l6 _))|(simp[run_underlying aj])
    ·rename_i la
     split at o
     ·rename_i z lk
      cases o
      obtain⟨z0,_,aQ,aR⟩:=A0 lk
      refine⟨.tuple #[z0,.bool false],dl.of (by simp only[execOp,R]) (s:=Instr.typeAssert (Act.eval ⟨T,ah.D cx⟩ x) l5 a true) (fun w' _=>?_),[z0,.bool false],rfl,aR _ _,dj.2 rfl,trivial⟩
      rw[e]
      have lV:¬n=a:=fun l3=>by rw[l3,Nat.beq_refl]at la;cases la
      unfold Instr.typeAssert
      cases d<;>first|(exact absurd rfl (l6 _))|(simp[run_underlying aj,lV,aQ])
     ·cases o
    ·cases o
  ·cases o
 case lookup mt x k ok=>
  simp only[db]at o
  unfold rj at o
  split at o
  ·rename_i lh aS ae key O af li
   split at o
   ·rename_i aT aU lM ai aX aZ
    obtain⟨s,ld,a0⟩:=Option.bind_eq_some_iff.1 O
    have al:=cK h li
    have a1:=ak.cO aZ
    subst a1
    obtain⟨z,_,lk,am⟩:=A0 aX
    have fin:(aT.beq lh.k&&aU.beq lh.v&&dJ cx.P 16 aS)=true->∃r,bc w (ar cx m st.ids) r lh.v ((cD (aV lh.k) lh.ps lM).getD (bX lh.v))/\∀w',Ext w w'->∀ok,(Instr.lookup mt (Act.eval ⟨T,ah.D cx⟩ x) (Act.eval ⟨T,ah.D cx⟩ k) ok).run cx.P w'=.ok (if ok then .tuple #[r,.bool (cD (aV lh.k) lh.ps lM).isSome]else r) w':=by
     intro U
     simp only[Bool.and_eq_true]at U
     have a2:=ag.eq_of_beq U.1.1
     have a3:=ag.eq_of_beq U.1.2
     subst a2
     subst a3
     rcases BU h (a8 h ld) a0 with ⟨la,lz⟩|⟨g,es,a4,la,ln,V⟩
     ·obtain⟨r,L,q⟩:=mM (w':=w) (M':=ar cx m st.ids) (d:=iu) (d':=16) af ai U.2 (by decide) lk am al (es:=#[]) (ps:=lh.ps) (by rw[lz];trivial)
      exact⟨r,L,fun w' _=>q w' _ (.inl ⟨la,rfl⟩)⟩
     ·obtain⟨r,L,q⟩:=mM (d:=iu) (d':=16) af ai U.2 (by decide) lk am al V
      exact⟨r,L,fun w' ll=>q w' _ (.inr ⟨g,a4,la,by rw[ll.block g (fG ln)];exact ln⟩)⟩
    split at o
    ·rename_i U
     cases o
     obtain⟨r,L,q⟩:=fin U
     exact⟨.tuple #[r,.bool (cD (aV lh.k) lh.ps lM).isSome],dl.of (by simp only[execOp,R]) (fun w' ll=>q w' ll true),[r,.bool (cD (aV lh.k) lh.ps lM).isSome],rfl,L,dj.2 rfl,trivial⟩
    ·rename_i U
     cases o
     obtain⟨r,L,q⟩:=fin U
     exact⟨r,dl.of (by simp only[execOp,R]) (fun w' ll=>q w' ll false),L⟩
    ·cases o
   ·cases o
  ·cases o
 all_goals (simp only[db]at o;cases o)
end Go.Ev
namespace Go.Ev
open Go Go.RowKit
variable [bV]
variable {cx:bx} {m:Nat->Value} {st:af} {T:Array Value} {w w':World}
variable [ah cx]
def leaves:(t:ag)->t.el->List ao
 |.int k,n=>[.val (.int k) n]
 |.bool,b=>[.val .bool b]
 |.str,s=>[.val .str s]
 |.ab t,xs=>[.val (.ab t) xs]
 |.unit,_=>[]
 |.pair a b,x=>leaves a x.1++leaves b x.2
 |.ptr t,x=>[.val (.ptr t) x]
 |.fn f t,x=>[.val (.fn f t) x]
 |.err,x=>[.val .err x]
 |.ck,x=>[.val .ck x]
 |.cy n t,x=>[.val (.cy n t) x]
 |.alt n t r,x=>[.val (.alt n t r) x]
 |.arr _ t,xs=>List.flatMap (leaves t) xs
 |.map k v,x=>[.val (.map k v) x]
def gB(t:ag):List ao->Option (t.el×List ao)
 |.val u x::r=>match ak.as ⟨u,x⟩ t with
  |some y=>some (y,r)
  |none=>none
 |_=>none
def rM{α:Type}(f:List ao->Option (α×List ao)):Nat->List ao->Option (List α×List ao)
 |0,l=>some ([],l)
 |n+1,l=>match f l with
  |some (x,r)=>match rM f n r with
   |some (xs,o)=>some (x::xs,o)
   |none=>none
  |none=>none
def pack:(t:ag)->List ao->Option (t.el×List ao)
 |.unit,l=>some ((),l)
 |.pair a b,l=>match pack a l with
  |some (x,r)=>match pack b r with
   |some (y,o)=>some ((x,y),o)
   |none=>none
  |none=>none
 |.int k,l=>gB (.int k) l
 |.bool,l=>gB .bool l
 |.str,l=>gB .str l
 |.ab t,l=>gB (.ab t) l
 |.ptr t,l=>gB (.ptr t) l
 |.fn f t,l=>gB (.fn f t) l
 |.err,l=>gB .err l
 |.ck,l=>gB .ck l
 |.cy n t,l=>gB (.cy n t) l
 |.alt n t r,l=>gB (.alt n t r) l
 |.arr n t,l=>rM (pack t) n l
 |.map k v,l=>gB (.map k v) l
theorem jI{M:Nat->Prop}:∀{o c2:List Value} {l1 l2:List ao},cg w M m o l1->cg w M m c2 l2->cg w M m (o++c2) (l1++l2)
 |[],_,[],_,_,h=>h
 |[],_,_::_,_,h,_=>h.elim
 |_::_,_,[],_,h,_=>h.elim
 |_::_,_,_::_,_,⟨q,L⟩,h=>⟨q,jI L h⟩
theorem jW{M:Nat->Prop}:∀{c:List Value} {l:List ao},cg w M m c l->c.length=l.length
 |[],[],_=>rfl
 |[],_::_,h=>h.elim
 |_::_,[],h=>h.elim
 |_::_,_::_,⟨_,h⟩=>by simp[jW h]
theorem ij{M:Nat->Prop}:∀(n:Nat) {c:List Value} {l:List ao},cg w M m c l->cg w M m (c.take n) (l.take n)/\cg w M m (c.drop n) (l.drop n)
 |0,_,_,h=>⟨trivial,h⟩
 |n+1,[],[],_=>⟨trivial,trivial⟩
 |n+1,[],_::_,h=>h.elim
 |n+1,_::_,[],h=>h.elim
 |n+1,_::_,_::_,⟨q,o⟩=>⟨⟨q,(ij n o).1⟩,(ij n o).2⟩
theorem Io{M:Nat->Prop}{t:ag}(h:∀{cs:List Value} {x:t.el},aK w M t cs x->cg w M m cs (leaves t x)):∀{xs:List t.el} {cs:List Value},bL (aK w M t) cs xs->cg w M m cs (xs.flatMap (leaves t))
 |[],_,o=>by cases o;trivial
 |_::_,_,⟨O,c2,e,q,L⟩=>by subst e;rw[List.flatMap_cons];exact jI (h q) (Io h L)
theorem qh{M:Nat->Prop}:∀(t:ag) {cs:List Value} {x:t.el},aK w M t cs x->cg w M m cs (leaves t x):=by
 intro t
 induction t with
 |int k=>intro cs x h;cases h;exact⟨cJ.2 rfl,trivial⟩
 |bool=>intro cs x h;cases h;exact⟨dj.2 rfl,trivial⟩
 |str=>intro cs x h;obtain⟨L,O⟩:=h;cases L;exact⟨dV.2 ⟨rfl,O⟩,trivial⟩
 |ab t o=>intro cs x h;obtain⟨a,cap,cells,e,r⟩:=h;subst e;exact⟨(bA (t:=.ab t) rfl).2 ⟨a,cap,cells,rfl,r⟩,trivial⟩
 |unit=>intro cs x h;cases h;trivial
 |ptr t o=>intro cs x h;obtain⟨a,cells,e,r⟩:=h;subst e;exact⟨(bA (t:=.ptr t) rfl).2 ⟨a,cells,rfl,r⟩,trivial⟩
 |fn f t o=>intro cs x h;obtain⟨bs,e,r⟩:=h;subst e;exact⟨(bA (t:=.fn f t) rfl).2 ⟨bs,rfl,r⟩,trivial⟩
 |err=>intro cs x h;rcases h with ⟨q,e⟩|⟨q,t,v,e⟩|⟨t,n,q,e⟩<;>subst e;exact⟨(bA (t:=.err) rfl).2 (.inl ⟨q,rfl⟩),trivial⟩;exact⟨(bA (t:=.err) rfl).2 (.inr (.inl ⟨q,t,v,rfl⟩)),trivial⟩;exact⟨(bA (t:=.err) rfl).2 (.inr (.inr ⟨t,n,q,rfl⟩)),trivial⟩
 |ck=>intro cs x h;obtain⟨v,e,r⟩:=h;subst e;exact⟨(bA (t:=.ck) rfl).2 ⟨v,rfl,r⟩,trivial⟩
 |cy n t o=>intro cs x h;obtain⟨v,e,r⟩:=h;subst e;exact⟨(bA (t:=.cy n t) rfl).2 ⟨v,rfl,r⟩,trivial⟩
 |alt n t r _ _=>
  intro cs x h
  have R:=b6 (.alt n t r) h
  match cs,R,h with
  |[v],_,h=>exact⟨(bA (t:=.alt n t r) rfl).2 h,trivial⟩
 |arr n t o=>intro cs x h;exact Io o h.2
 |map k v _ _=>
  intro cs x h
  match x,h with
  |none,h=>have h:cs=[.map none]:=h;subst h;exact⟨(bA (t:=.map k v) rfl).2 rfl,trivial⟩
  |some ps,⟨b,es,U,e,r⟩=>subst e;exact⟨(bA (t:=.map k v) rfl).2 ⟨b,es,U,rfl,r⟩,trivial⟩
 |pair a b V W=>rintro cs x ⟨Y,c2,rfl,L,O⟩;exact jI (V L) (W O)
theorem iD{M:Nat->Prop}{t:ag}(L:t.agg=false){cs:List Value}{c r:List ao}{x:t.el}(h:cg w M m cs c)(o:gB t c=some (x,r)):
  ∃q c2,cs=q++c2/\aK w M t q x/\cg w M m c2 r:=by
 unfold gB at o
 split at o
 ·rename_i u y W
  split at o
  ·rename_i z O
   cases o
   have e:=ak.cO O
   match cs,h with
   |v::vs,⟨R,U⟩=>
    refine⟨[v],vs,rfl,?_,U⟩
    have V:bc w M v u y:=R
    cases e
    exact(bA L).1 V
   |[],h=>exact h.elim
  ·cases o
 ·cases o
theorem Fi{M:Nat->Prop}{t:ag}(h:∀{cs:List Value} {c r:List ao} {x:t.el},cg w M m cs c->pack t c=some (x,r)->∃o c2,cs=o++c2/\aK w M t o x/\cg w M m c2 r):
  ∀(n:Nat) {cs:List Value} {c r:List ao} {xs:List t.el},cg w M m cs c->rM (pack t) n c=some (xs,r)->∃o c2,cs=o++c2/\(xs.length=n/\bL (aK w M t) o xs)/\cg w M m c2 r
 |0,cs,c,r,xs,L,q=>by cases q;exact⟨[],cs,rfl,⟨rfl,rfl⟩,L⟩
 |n+1,cs,c,r,xs,L,q=>by
  unfold rM at q
  split at q
  ·rename_i y V O
   split at q
   ·rename_i W ch R
    cases q
    obtain⟨o,c2,rfl,g1,g2⟩:=h L O
    obtain⟨d1,d2,rfl,⟨g3,U⟩,g4⟩:=Fi h n g2 R
    exact⟨o++d1,d2,by simp,⟨by simp[g3],o,d1,rfl,g1,U⟩,g4⟩
   ·cases q
  ·cases q
theorem nD{M:Nat->Prop}:∀(t:ag) {cs:List Value} {c r:List ao} {x:t.el},cg w M m cs c->pack t c=some (x,r)->∃q c2,cs=q++c2/\aK w M t q x/\cg w M m c2 r:=by
 intro t
 induction t with
 |int k=>intro cs c r x h o;exact iD rfl h o
 |bool=>intro cs c r x h o;exact iD rfl h o
 |str=>intro cs c r x h o;exact iD rfl h o
 |ab t L=>intro cs c r x h o;exact iD rfl h o
 |unit=>intro cs c r x h o;cases o;exact⟨[],cs,rfl,rfl,h⟩
 |ptr t L=>intro cs c r x h o;exact iD rfl h o
 |fn f t L=>intro cs c r x h o;exact iD rfl h o
 |err=>intro cs c r x h o;exact iD rfl h o
 |ck=>intro cs c r x h o;exact iD rfl h o
 |cy n t L=>intro cs c r x h o;exact iD rfl h o
 |alt n t r _ _=>intro cs c r x h o;exact iD rfl h o
 |arr n t L=>intro cs c r x h o;exact Fi L n h o
 |map k v _ _=>intro cs c r x h o;exact iD rfl h o
 |pair a b O R=>
  intro cs c r x h o
  unfold pack at o
  split at o
  ·rename_i y W U
   split at o
   ·rename_i z ch V
    cases o
    obtain⟨q,c2,rfl,g1,g2⟩:=O h U
    obtain⟨d1,d2,rfl,g3,g4⟩:=R g2 V
    exact⟨q++d1,d2,by simp,⟨q,d1,rfl,g1,g3⟩,g4⟩
   ·cases o
  ·cases o
def pW(P:Program)(st:af)(t:TypeId)(x:Operand)(orc:List ak):Option di:=
 match aO st x,ty P t with
 |some (.ptr b off),some u=>match look st.ad b with
  |some (.cells c _)=>match u.agg with
   |true=>match pack u (c.drop off)with
    |some (y,_)=>some ⟨.val u y,orc,[]⟩
    |none=>none
   |false=>match c.drop off with
    |s::_=>some ⟨s,orc,[]⟩
    |[]=>none
  |_=>none
 |some (.dA r i off o),some u=>match look st.rw r,orc with
  |some c,v::orc'=>match v.as c.t,Nat.beq o c.t.cells,Nat.beq u.cells 0 with
   |some x,true,false=>match ct c.t x off u with
    |some y=>some ⟨.val u y,orc',[aq c.xs i=some x]⟩
    |none=>none
   |_,_,_=>none
  |_,_=>none
 |some (.dm b p),some u=>match look st.ad b with
  |some (.aP q x _)=>match iY q x p orc with
   |some (r,orc',ob)=>match r.as u,Nat.beq u.cells 0 with
    |some y,false=>some ⟨.val u y,orc',ob⟩
    |_,_=>none
   |none=>none
  |_=>none
 |_,_=>none
theorem Cb{w:World}{g:Nat}{aa:Obj}(h:w.heap[g]? =some aa):g<w.heap.size:=by
 rcases Nat.lt_or_ge g w.heap.size with o|o
 ·exact o
 ·rw[Array.getElem?_eq_none o]at h;cases h
theorem mz{w:World}{g:Nat}{cells:Array Value}{e:Nat}{iG:Nat×Nat}(h:w.heap[g]? =some (.cells cells e iG))(aa:Nat):w.cell? ⟨g,aa,none⟩=cells[aa]? :=by
 simp[World.cell?,h]
theorem io{P:Program}{tid d:Nat}{u:ag}(L:cH P d tid=some u){g off:Nat}{cells:Array Value}{e:Nat}{iG:Nat×Nat}{c:List Value}(R:w.heap[g]? =some (.cells cells e iG))
  (W:∀j v,c[j]? =some v->cells[off+j]? =some v)(o:c.length=u.cells)(la:u.agg=false->0<u.cells):
  ∃v,ke P w (loadVar tid ⟨g,off,none⟩) v/\(if u.agg then v=.agg c.toArray else c=[v]):=by
 have U:∀w',Ext w w'->∀j v,c[j]? =some v->w'.cell? ((⟨g,off,none⟩:Addr).add j)=some v:=by
  intro w' q j v Y
  rw[fR]
  have Z:w'.heap[g]? =some (.cells cells e iG):=by rw[q.block g (Cb R)];exact R
  rw[mz Z]
  exact W j v Y
 cases O:u.agg with
 |true=>
  refine⟨.agg c.toArray,fun w' q=>?_,by simp⟩
  unfold loadVar
  rw[Sem.run_bind,iV L,O]
  simp only[Result.andThen_ok,if_true,Sem.run_bind,eB L]
  rw[<-o,zt (U w' q)]
  rfl
 |false=>
  have lb:u.cells=1:=by cases u<;>first|rfl|(simp[ag.agg]at O)
  match c,o with
  |[v],_=>
   refine⟨v,fun w' q=>?_,by simp⟩
   have V:=U w' q 0 v rfl
   rw[add_zero]at V
   unfold loadVar
   rw[Sem.run_bind,iV L,O]
   simp only[Result.andThen_ok,Bool.false_eq_true,if_false]
   simp[load,Sem.run,V]
  |[],o=>simp at o;omega
  |_::_::_,o=>simp at o;omega
theorem EJ{α:Type}(a b c d e:List α)(j:Nat)(q:j<c.length):(a++(b++c++d)++e)[a.length+b.length+j]? =c[j]? :=by
 have o:a++(b++c++d)++e=(a++b)++(c++(d++e)):=by simp
 rw[o,List.getElem?_append_right (by rw[List.length_append];omega),List.getElem?_append_left (by rw[List.length_append];omega),List.length_append]
 congr 1
 omega
theorem vR(h:an cx m st T w){t:TypeId}{x:Operand}{orc:List ak}{li:di}(o:pW cx.P st t x orc=some li)(lp:bJ li.ob):
  ∃v,ke cx.P w (Instr.loadAt t (Act.eval ⟨T,ah.D cx⟩ x)) v/\aN w (ar cx m st.ids) m v li.aM:=by
 unfold pW at o
 split at o
 ·rename_i b off u Z W
  obtain⟨g,Y,la⟩:=a8 h Z
  have lj:Instr.loadAt t (Act.eval ⟨T,ah.D cx⟩ x)=loadVar t ⟨g,off,none⟩:=by rw[la];rfl
  rw[lj]
  split at o
  ·rename_i c lk
   obtain⟨lb,lc,_,cells,lg,ll⟩:=h.box (aW lk)
   have:lb=g:=by rw[Y]at lc;cases lc;rfl
   subst this
   obtain⟨_,aj⟩:=ij (w:=w) (m:=m) off ll
   split at o
   ·rename_i L
    split at o
    ·rename_i y r ld
     cases o
     obtain⟨le,c2,lf,R,_⟩:=nD u aj ld
     obtain⟨v,V,q⟩:=io (c:=le) W lg (fun j v O=>by
      have:(cells.toList.drop off)[j]? =some v:=by rw[lf,List.getElem?_append_left (List.getElem?_eq_some_iff.1 O).1];exact O
      rw[List.getElem?_drop]at this
      simpa using this) (b6 u R) (fun U=>by rw[L]at U;cases U)
     rw[L,if_pos rfl]at q
     exact⟨v,V,(dK L).2 ⟨le,q,R⟩⟩
    ·cases o
   ·rename_i L
    split at o
    ·rename_i s r lt
     cases o
     rw[lt]at aj
     match lf:cells.toList.drop off,aj with
     |v0::vs,⟨lq,_⟩=>
      have lu:u.cells=1:=by cases u<;>first|rfl|(simp[ag.agg]at L)
      obtain⟨v,V,q⟩:=io (c:=[v0]) W lg (fun j v O=>by
       have lv:j=0:=by have:=(List.getElem?_eq_some_iff.1 O).1;simpa using this
       subst lv
       simp at O
       subst O
       have:(cells.toList.drop off)[0]? =some v0:=by rw[lf];rfl
       rw[List.getElem?_drop]at this
       simpa using this) (by rw[lu];rfl) (fun _=>by omega)
      rw[L]at q
      simp at q
      subst q
      exact⟨v0,V,lq⟩
     |[],aj=>exact aj.elim
    ·cases o
  ·cases o
 ·rename_i r i off lw u Z W
  obtain⟨g,n,cap,Y,la⟩:=a8 h Z
  have lj:Instr.loadAt t (Act.eval ⟨T,ah.D cx⟩ x)=loadVar t ⟨g,i.toNat*lw+off,none⟩:=by rw[la];rfl
  rw[lj]
  split at o
  ·rename_i c v orc' lk
   split at o
   ·rename_i lx lq ly lm
    split at o
    ·rename_i y ln
     cases o
     obtain⟨lK,lL,lz⟩:=gS lp.1
     obtain⟨cells,lA,_,lB⟩:=h.rows r c (aW lk)
     have lC:=Nat.eq_of_beq_eq_true ly
     subst lC
     rcases lA.2 with ⟨U,_⟩|⟨lb,lM,cur,U,_,lD,_,_,_,lE⟩
     ·rw[Y]at U;cases U
     ·have:lb=g:=by rw[Y]at U;cases U;rfl
      subst this
      obtain⟨le,c2,c3,rfl,lr,R⟩:=jC lB lz
      obtain⟨d1,d2,d3,rfl,lF,lo⟩:=ml c.t R ln
      have ld:0<u.cells:=Nat.pos_of_ne_zero (beq_false lm)
      obtain⟨v',V,q⟩:=io (c:=d2) W lD (fun j v O=>by
       have ls:=(List.getElem?_eq_some_iff.1 O).1
       have lh:(cur.toList.take (c.xs.length*c.t.cells))[i.toNat*c.t.cells+off+j]? =some v:=by
        rw[lE,<-lr,<-lF,<-O]
        exact EJ le d1 d2 d3 c3 j ls
       rw[List.getElem?_take]at lh
       split at lh
       ·simpa using lh
       ·cases lh) (b6 u lo) (fun _=>ld)
      refine⟨v',V,?_⟩
      cases L:u.agg with
      |true=>rw[L,if_pos rfl]at q;exact(dK L).2 ⟨d2,q,lo⟩
      |false=>rw[L]at q;simp at q;subst q;exact(bA L).2 lo
    ·cases o
   ·cases o
  ·cases o
 ·rename_i b p u Z W
  obtain⟨g,Y,la⟩:=a8 h Z
  split at o
  ·rename_i lG lx e lH
   split at o
   ·rename_i r lN ob ld
    split at o
    ·rename_i y ln lm
     cases o
     obtain⟨lb,lc,_,cells,lg,ll⟩:=h.box (aW lH)
     have:lb=g:=by rw[Y]at lc;cases lc;rfl
     subst this
     obtain⟨le,c2,c3,lf,lr,R⟩:=sG p lG ll ld lp
     have lI:=ak.cO ln
     subst lI
     have lJ:0<u.cells:=Nat.pos_of_ne_zero (beq_false lm)
     obtain⟨v,V,q⟩:=io (off:=fp p) (c:=c2) W lg (fun j v O=>by
      have ls:=(List.getElem?_eq_some_iff.1 O).1
      rw[<-Array.getElem?_toList,lf,List.append_assoc,List.getElem?_append_right (by omega),List.getElem?_append_left (by omega),<-O]
      congr 1
      omega) (b6 u R) (fun _=>lJ)
     refine⟨v,by rw[la];exact V,?_⟩
     cases L:u.agg with
     |true=>rw[L,if_pos rfl]at q;exact(dK L).2 ⟨c2,q,R⟩
     |false=>rw[L]at q;simp at q;subst q;exact(bA L).2 R
    ·cases o
   ·cases o
  ·cases o
 ·cases o
def rA:Option bM->Bool
 |some (.bn _ _ _ _)=>true
 |_=>false
def pw:ao->Bool
 |.val t _=>!t.agg
 |.row _=>true
 |.clos _ _=>true
 |.ptr _ _=>true
 |.vptr _ _=>true
 |.osl _=>true
 |.iter _=>true
 |_=>false
def sC:Option bM->Bool
 |some (.mp _ _ _)=>true
 |_=>false
theorem Ew{M:Nat->Prop}{v:Value}{s:ao}(L:pw s=true)(q:∀r,s=.row r\/s=.osl r\/s=.iter r->v.oneCell'=true)(o:aN w M m v s):v.oneCell'=true/\v.cells=#[v]:=by
 cases s<;>simp only[pw,Bool.false_eq_true]at L
 case val t x=>
  have R:t.agg=false:=by simpa using L
  have U:=(bA R).1 o
  have O:=gh t U v (by simp)
  refine⟨O,?_⟩
  cases v<;>first|rfl|(simp[Value.oneCell']at O)
 case row r=>
  have:=q r (.inl rfl)
  refine⟨this,?_⟩
  cases v<;>first|rfl|(simp[Value.oneCell']at this)
 case osl b=>
  have:=q b (.inr (.inl rfl))
  refine⟨this,?_⟩
  cases v<;>first|rfl|(simp[Value.oneCell']at this)
 case iter b=>
  have:=q b (.inr (.inr rfl))
  refine⟨this,?_⟩
  cases v<;>first|rfl|(simp[Value.oneCell']at this)
 case clos f bs=>
  have e:v=_:=o
  subst e
  exact⟨rfl,rfl⟩
 case ptr b off=>obtain⟨g,_,e⟩:=o;subst e;exact⟨rfl,rfl⟩
 case vptr t x=>obtain⟨a,c,e,_⟩:=o;subst e;exact⟨rfl,rfl⟩
def pc(u:ag)(s:ao):Option (List ao):=
 match u.agg with
 |true=>match s with
  |.val t x=>bif t.beq u then some (leaves t x)else none
  |_=>none
 |false=>match s with
  |.val t x=>bif t.beq u then some [.val t x]else none
  |s=>bif pw s&&Nat.beq u.cells 1 then some [s]else none
theorem row_one(h:an cx m st T w){r:Nat}{c:cp}(q:(r,c)∈st.rw):(m r).oneCell'=true:=by
 obtain⟨cells,L,_⟩:=h.rows r c q
 rcases L.2 with ⟨o,_⟩|⟨g,cap,cur,o,_⟩<;>rw[o]<;>rfl
theorem HA{M:Nat->Prop}{v:Value}{s:ao}{u:ag}{l:List ao}(V:∀r,s=.row r\/s=.osl r\/s=.iter r->v.oneCell'=true)(L:aN w M m v s)(o:pc u s=some l):
  cg w M m v.cells.toList l/\(∀x∈v.cells.toList,x.oneCell'=true)/\v.cells.size=u.cells:=by
 unfold pc at o
 split at o
 ·rename_i W
  split at o
  ·rename_i t x
   cases q:t.beq u with
   |false=>rw[q]at o;cases o
   |true=>
    rw[q]at o
    cases o
    obtain rfl:=ag.eq_of_beq q
    have O:=iI L
    exact⟨qh t O,gh t O,by rw[<-b6 t O];simp⟩
  ·cases o
 ·rename_i W
  split at o
  ·rename_i t x
   cases q:t.beq u with
   |false=>rw[q]at o;cases o
   |true=>
    rw[q]at o
    cases o
    obtain rfl:=ag.eq_of_beq q
    have O:=iI L
    have U:=Ew (s:=.val t x) (by simp[pw,W]) V L
    refine⟨?_,gh t O,by rw[<-b6 t O];simp⟩
    rw[U.2]
    exact⟨L,trivial⟩
  ·rename_i Y _
   cases R:pw s&&Nat.beq u.cells 1 with
   |false=>rw[R]at o;cases o
   |true=>
    rw[R]at o
    cases o
    simp only[Bool.and_eq_true]at R
    have U:=Ew R.1 V L
    rw[U.2]
    exact⟨⟨L,trivial⟩,by simp[U.1],by rw[Nat.eq_of_beq_eq_true R.2];rfl⟩
theorem Dv(h:an cx m st T w){b:Nat}(o:rA (look st.ad b)=true){M:Nat->Prop}{v:Value}(O:aN w M m v (.osl b)):v.oneCell'=true:=by
 unfold rA at o
 split at o
 ·rename_i e k xs Y R
  obtain⟨g,_,_,aj,us,cells,U,V,_⟩:=h.boxes b _ (aW R)
  obtain⟨Z,q⟩:=O
  have W:v=aj:=by
   rw[U]at q
   simp only[Value.tuple.injEq,Array.mk.injEq,List.cons.injEq]at q
   exact q.1.symm
  rw[W]
  rcases V.2 with ⟨L,_⟩|⟨g,cap,cur,L,_⟩<;>rw[L]<;>rfl
 ·cases o
theorem Hq(h:an cx m st T w){b:Nat}(o:sC (look st.ad b)=true){M:Nat->Prop}{v:Value}(q:aN w M m v (.iter b)):v.oneCell'=true:=by
 unfold sC at o
 split at o
 ·rename_i L
  obtain⟨g,O,_⟩:=h.box (aW L)
  have q:v=m b:=q
  rw[q,O]
  rfl
 ·cases o
theorem iP(w:World)(g:Nat)(o:Array Value):Same w (w.setRow g o):=by
 refine{os:=rfl,tape:=rfl,output:=rfl,size:=?_,drawn:=fun _=>Nat.le_refl _}
 simp[World.setRow]
theorem kg{P:Program}{tid d:Nat}{u:ag}(O:cH P d tid=some u){g off:Nat}{cur:Array Value}{e:Nat}{v:Value}(R:w.heap[g]? =some (.cells cur e (0,0)))
  (o:v.cells.size=u.cells)(V:off+u.cells<=cur.size)(U:∀x∈v.cells.toList,x.oneCell'=true):
  (Instr.storeAt tid (.pointer (some ⟨g,off,none⟩)) v).run P w=.ok () (w.setRow g (cur.toList.take off++v.cells.toList++cur.toList.drop (off+u.cells)).toArray):=by
 have q:v.cells.toList.length=u.cells:=by rw[<-o];simp
 have L:=run_storeCells_at (P:=P) g off e v.cells.toList 0 cur w R (by rw[q];omega) U
 rw[q,Nat.add_zero]at L
 simp only[Instr.storeAt,Instr.sureAddr,Sem.run_bind,Sem.run_pure,Result.andThen_ok,storeVar,eB O,o,ne_eq,not_true_eq_false,if_false]
 exact L
def zF(P:Program)(st:af)(t:TypeId)(y:Operand):Option ao:=
 match y with
 |.const (.slice none 0 0)=>match ty P t with
  |some (.ab u)=>some (.val (.ab u) [])
  |_=>none
 |y=>aO st y
theorem nk(h:an cx m st T w){P:Program}{t:TypeId}{y:Operand}{s:ao}(o:zF P st t y=some s):aN w (ar cx m st.ids) m (Act.eval ⟨T,ah.D cx⟩ y) s:=by
 unfold zF at o
 split at o
 ·split at o
  ·rename_i u _
   cases o
   exact(bA (t:=.ab u) rfl).2 ⟨none,0,[],rfl,Nat.le_refl _,by decide,fun _=>rfl,rfl,fun j u q=>by simp at q⟩
  ·cases o
 ·exact a8 h o
def qC(P:Program)(st:af)(t:TypeId)(x y:Operand)(orc:List ak):Option (af×List ak×List Prop):=
 match aO st x,ty P t,zF P st t y with
 |some (.ptr b off),some u,some s=>match look st.ad b,pc u s,nr st s with
  |some (.cells c e),some l,true=>bif Nat.ble (off+u.cells) c.length then some (st.cL b (.cells (c.take off++l++c.drop (off+u.cells)) e),orc,[])else none
  |_,_,_=>none
 |some (.dA r i off O),some u,some (.val o z)=>match look st.rw r,orc with
  |some c,v::orc'=>match v.as c.t,Nat.beq O c.t.cells,o.beq u with
   |some q,true,true=>match cb c.t q off ⟨o,z⟩with
    |some R=>some (st.setRow r {c with xs:=c.xs.set i.toNat R},orc',[aq c.xs i=some q])
    |none=>none
   |_,_,_=>none
  |_,_=>none
 |some (.dm b p),some u,some (.val o z)=>match look st.ad b with
  |some (.aP L x e)=>match o.beq u,jo L x p orc ⟨o,z⟩with
   |true,some (y,orc',ob)=>some (st.cL b (.aP L y e),orc',ob)
   |_,_=>none
  |_=>none
 |_,_,_=>none
where
 nr (st:af):ao->Bool
  |.row r=>(look st.rw r).isSome
  |.osl b=>rA (look st.ad b)
  |.iter b=>sC (look st.ad b)
  |_=>true
end Go.Ev
namespace Go.Ev
open Go Go.RowKit
variable [bV]
variable {cx:bx} {m:Nat->Value} {st:af} {T:Array Value} {w w':World}
variable [ah cx]
theorem kU{M M':Nat->Prop}(o:∀b,b<w.heap.size->¬M b->w'.heap[b]? =w.heap[b]?)(q:∀b,b<w.heap.size->M' b->M b){c:List Value}{l:List ao}(h:cg w M m c l):cg w' M' m c l:=by
 have:=pg (f:=id) (fun v s L=>eN (m:=m) o q L) h
 simpa using this
theorem SU(h:an cx m st T w){t:TypeId}{x y:Operand}{orc orc':List ak}{st':af}{ob:List Prop}(o:qC cx.P st t x y orc=some (st',orc',ob))(lD:bJ ob):
  ∃w',(Instr.storeAt t (Act.eval ⟨T,ah.D cx⟩ x) (Act.eval ⟨T,ah.D cx⟩ y)).run cx.P w=.ok () w'/\an cx m st' T w':=by
 unfold qC at o
 split at o
 ·rename_i b off u s lf lg W
  obtain⟨g,U,lh⟩:=a8 h lf
  split at o
  ·rename_i c e l ls ld lq
   cases Y:Nat.ble (off+u.cells) c.length with
   |false=>rw[Y]at o;cases o
   |true=>
    rw[Y]at o
    cases o
    have lt:=Nat.le_of_ble_eq_true Y
    have O:=aW ls
    obtain⟨V,li,_,cells,lj,lk⟩:=h.box O
    have:V=g:=by rw[U]at li;cases li;rfl
    subst this
    have ll:b∈st.ids:=List.mem_append.2 (.inl (List.mem_map.2 ⟨_,O,rfl⟩))
    have lK:=jW lk
    have lL:∀r,s=.row r\/s=.osl r\/s=.iter r->(Act.eval ⟨T,ah.D cx⟩ y).oneCell'=true:=by
     rintro r (rfl|rfl|rfl)
     ·simp only[qC.nr]at lq
      obtain⟨c',lM⟩:=Option.isSome_iff_exists.1 lq
      rw[show Act.eval ⟨T,ah.D cx⟩ y=m r from nk h W]
      exact row_one h (aW lM)
     ·exact Dv h lq (nk h W)
     ·exact Hq h lq (nk h W)
    obtain⟨lN,lO,lP⟩:=HA lL (nk h W) ld
    have lm:off+u.cells<=cells.size:=by rw[<-Array.length_toList,lK];exact lt
    have Z:=kg (P:=cx.P) lg lj lP lm lO
    refine⟨_,by rw[lh];exact Z,?_⟩
    have R:Touch m w b (w.setRow V (cells.toList.take off++(Act.eval ⟨T,ah.D cx⟩ y).cells.toList++cells.toList.drop (off+u.cells)).toArray):=
     ⟨iP _ _ _,fun k lE ln=>setRow_other _ _ _ _ (fun e=>ln (by rw[U,e];rfl))⟩
    obtain⟨lo,_⟩:=iZ O h.keys (.cells (c.take off++l++c.drop (off+u.cells)) e)
    obtain⟨la,lb⟩:=an.fU (cx:=cx) ll R lo
    refine h.cL O R (g:=V) U ⟨_,setRow_heap _ _ _ _ _ _ lj,?_⟩
    simp only[]
    exact jI (jI (kU la lb (ij off lk).1) (kU la lb lN)) (kU la lb (ij (off+u.cells) lk).2)
  ·cases o
 ·rename_i r i off ai u L z lf lg W
  obtain⟨g,n,cap,U,lh⟩:=a8 h lf
  split at o
  ·rename_i c v lQ ls
   split at o
   ·rename_i lR aj lS Y
    split at o
    ·rename_i lT lU
     cases o
     obtain⟨al,am,lV⟩:=gS lD.1
     have O:=aW ls
     obtain⟨cells,lF,ao,lW⟩:=h.rows r c O
     have ll:r∈st.ids:=List.mem_append.2 (.inr (List.mem_map.2 ⟨_,O,rfl⟩))
     have lX:=Nat.eq_of_beq_eq_true lS
     subst lX
     obtain rfl:=ag.eq_of_beq Y
     have lu:bc w (ar cx m st.ids) (Act.eval ⟨T,ah.D cx⟩ y) L z:=nk h W
     have lc:=iI lu
     have le:=b6 L lc
     have lv:(Act.eval ⟨T,ah.D cx⟩ y).cells.size=L.cells:=by rw[<-le];simp
     rcases lF.2 with ⟨R,_⟩|⟨V,lY,cur,R,lZ,lG,lt,l0,l3,l4⟩
     ·rw[U]at R;cases R
     ·have:V=g:=by rw[U]at R;cases R;rfl
      subst this
      obtain⟨q,c2,c3,rfl,ld,lw,l5⟩:=oT lW lV
      obtain⟨d1,d2,d3,rfl,l6,lx,l7⟩:=mU (v:=⟨L,z⟩) lc c.t lw lU
      obtain⟨rest,lr⟩:∃rest,cur.toList=(q++(d1++d2++d3)++c3)++rest:=⟨cur.toList.drop (c.xs.length*c.t.cells),by rw[<-l4,List.take_append_drop]⟩
      have lH:(q++(d1++d2++d3)++c3).length=c.xs.length*c.t.cells:=lF.1
      have ly:i.toNat*c.t.cells+off=(q++d1).length:=by rw[List.length_append,ld,l6]
      have l8:cur.toList.length=(q++d1).length+d2.length+(d3++c3++rest).length:=by rw[lr];simp only[List.length_append];omega
      have lm:i.toNat*c.t.cells+off+L.cells<=cur.size:=by
       rw[<-Array.length_toList,l8,ly,<-le,lx]
       omega
      have Z:=kg (P:=cx.P) lg lG lv lm (gh L lc)
      have lz:cur.toList.take (i.toNat*c.t.cells+off)=q++d1:=by
       rw[lr,ly]
       have:q++(d1++d2++d3)++c3++rest=(q++d1)++(d2++d3++c3++rest):=by simp
       rw[this,List.take_left]
      have lA:cur.toList.drop (i.toNat*c.t.cells+off+L.cells)=d3++c3++rest:=by
       rw[lr,ly,<-le,<-lx,<-List.length_append]
       have:q++(d1++d2++d3)++c3++rest=(q++d1++d2)++(d3++c3++rest):=by simp
       rw[this,List.drop_left]
      rw[lz,lA]at Z
      refine⟨_,by rw[lh];exact Z,?_⟩
      have lI:Touch m w r (w.setRow V (q++d1++(Act.eval ⟨T,ah.D cx⟩ y).cells.toList++(d3++c3++rest)).toArray):=
       ⟨iP _ _ _,fun k lE ln=>setRow_other _ _ _ _ (fun e=>ln (by rw[U,e];rfl))⟩
      obtain⟨lo,_⟩:=k7 O h.keys {c with xs:=c.xs.set i.toNat lT}
      obtain⟨la,lb⟩:=an.fU (cx:=cx) ll lI lo
      have l9:=l5 _ _ l7
      have lJ:q++d1++(Act.eval ⟨T,ah.D cx⟩ y).cells.toList++(d3++c3++rest)=(q++(d1++(Act.eval ⟨T,ah.D cx⟩ y).cells.toList++d3)++c3)++rest:=by simp
      have lp:(q++(d1++(Act.eval ⟨T,ah.D cx⟩ y).cells.toList++d3)++c3).length=c.xs.length*c.t.cells:=by
       rw[<-lH];simp only[List.length_append,lx]
      refine h.setRow O lI (cells:=q++(d1++(Act.eval ⟨T,ah.D cx⟩ y).cells.toList++d3)++c3) ?_ (cP (fun _ _=>cq la lb c.t) l9)
      refine⟨by simp only[List.length_set];exact lp,.inr ⟨V,lY,_,by rw[R];simp only[List.length_set],lZ,setRow_heap _ _ _ _ _ _ lG,by simp only[List.length_set];exact lt,l0,?_,?_⟩⟩
      ·rw[List.size_toArray,lJ,List.length_append,lp,<-l3,<-Array.length_toList,lr,List.length_append,lH]
      ·simp only[List.length_set]
       rw[lJ,<-lp,List.take_left]
    ·cases o
   ·cases o
  ·cases o
 ·rename_i b p u L z lf lg aa
  have W:=aa
  obtain⟨g,U,lh⟩:=a8 h lf
  split at o
  ·rename_i lB lR e Y
   split at o
   ·rename_i ab lQ ap ad ae
    cases o
    obtain rfl:=ag.eq_of_beq ad
    have O:=aW Y
    obtain⟨V,li,_,cells,lj,lk⟩:=h.box O
    have:V=g:=by rw[U]at li;cases li;rfl
    subst this
    have ll:b∈st.ids:=List.mem_append.2 (.inl (List.mem_map.2 ⟨_,O,rfl⟩))
    have lu:bc w (ar cx m st.ids) (Act.eval ⟨T,ah.D cx⟩ y) L z:=nk h W
    have lc:=iI lu
    have le:=b6 L lc
    have lv:(Act.eval ⟨T,ah.D cx⟩ y).cells.size=L.cells:=by rw[<-le];simp
    obtain⟨q,c2,c3,lC,ld,lp,lw⟩:=uh (z:=⟨L,z⟩) lc p lB lk ae lD
    have lm:fp p+L.cells<=cells.size:=by
     rw[<-Array.length_toList,lC];simp only[List.length_append];omega
    have Z:=kg (P:=cx.P) lg lj lv lm (gh L lc)
    have lz:cells.toList.take (fp p)=q:=by rw[lC,<-ld,List.append_assoc,List.take_left]
    have lA:cells.toList.drop (fp p+L.cells)=c3:=by
     rw[lC,<-ld,<-le,<-lp,<-List.length_append,List.drop_left]
    rw[lz,lA]at Z
    refine⟨_,by rw[lh];exact Z,?_⟩
    have R:Touch m w b (w.setRow V (q++(Act.eval ⟨T,ah.D cx⟩ y).cells.toList++c3).toArray):=
     ⟨iP _ _ _,fun k lE ln=>setRow_other _ _ _ _ (fun e=>ln (by rw[U,e];rfl))⟩
    obtain⟨lo,_⟩:=iZ O h.keys (.aP lB ab e)
    obtain⟨la,lb⟩:=an.fU (cx:=cx) ll R lo
    refine h.cL O R (g:=V) U ⟨_,setRow_heap _ _ _ _ _ _ lj,?_⟩
    simp only[]
    exact cq la lb lB lw
   ·cases o
  ·cases o
 ·cases o
def pV(P:Program)(st:af)(t:TypeId)(x k v:Operand):Option af:=
 match aO st x,P.underlying t,cY st k,cY st v with
 |some (.iter b),some (.map L O),some R,some U=>match look st.ad b,ty P L,ty P O with
  |some (.mp o q ps),some V,some W=>match R.as o,U.as q,V.beq o&&W.beq q&&o.flat&&dJ P 16 L with
   |some y,some z,true=>some (st.cL b (.mp o q (cU (aV o) ps y z)))
   |_,_,_=>none
  |_,_,_=>none
 |_,_,_,_=>none
theorem MM(h:an cx m st T w){t:TypeId}{x k v:Operand}{st':af}(o:pV cx.P st t x k v=some st'):
  ∃w',(Instr.mapUpdate t (Act.eval ⟨T,ah.D cx⟩ x) (Act.eval ⟨T,ah.D cx⟩ k) (Act.eval ⟨T,ah.D cx⟩ v)).run cx.P w=.ok () w'/\an cx m st' T w':=by
 unfold pV at o
 split at o
 ·rename_i b ly lz lA lB lb lc ld le
  split at o
  ·rename_i lC lD ps O lf lg lh lE
   split at o
   ·rename_i y z li lj R
    cases o
    simp only[Bool.and_eq_true]at R
    obtain⟨⟨⟨lk,ll⟩,lm⟩,ln⟩:=R
    obtain rfl:=ag.eq_of_beq lk
    obtain rfl:=ag.eq_of_beq ll
    have lo:=ak.cO li
    subst lo
    have lp:=ak.cO lj
    subst lp
    have L:=aW lg
    obtain⟨g,q,_,es,lF,U,lq,lr,ls⟩:=h.box L
    have q:m b=.map (some g):=q
    have lt:Act.eval ⟨T,ah.D cx⟩ x=.map (some g):=by have:Act.eval ⟨T,ah.D cx⟩ x=m b:=a8 h lb;rw[this,q]
    obtain⟨V,W,lu,lv,ch,dw⟩:=C9 (d:=iu) (d':=16) lc lh ln (by decide) lm (cK h ld) (cK h le) U lq lr ls
    have Y:Touch m w b {w with heap:=w.heap.setIfInBounds g (.map V W)}:=
     ⟨⟨rfl,rfl,rfl,by simp,fun _=>Nat.le_refl _⟩,fun k _ lw=>by
      show(w.heap.setIfInBounds g _)[k]? =_
      rw[Array.getElem?_setIfInBounds_ne]
      intro e
      exact lw (by rw[q,e];rfl)⟩
    rw[lt]
    refine⟨_,lu,h.cL L Y (g:=g) q ?_⟩
    have lx:b∈st.ids:=List.mem_append.2 (.inl (List.mem_map.2 ⟨_,L,rfl⟩))
    obtain⟨Z,la⟩:=an.fU (cx:=cx) lx Y (ids:=(st.cL b (.mp O lf (cU (aV O) ps y z))).ids) (iZ L h.keys _).1
    refine⟨V,W,?_,lv,ch,ge (fun _ _ h=>cT Z la h) (fun _ _ h=>cT Z la h) dw⟩
    show(w.heap.setIfInBounds g _)[g]? =_
    rw[Array.getElem?_setIfInBounds_self_of_lt (fG U)]
   ·cases o
  ·cases o
 ·cases o
end Go.Ev
namespace Go.Ev
open Go Go.RowKit
variable [bV]
variable {P:Program} {w:World}
theorem D0(w:World)(aa:Obj):Same w (w.drew.alloc aa):=⟨rfl,rfl,rfl,by simp,fun _=>Nat.le_succ _⟩
theorem gL(w:World)(aa:Obj):Ext w (w.alloc aa):={os:=rfl,tape:=rfl,output:=rfl,size:=by simp,drawn:=by first|exact fun _=>Nat.le_refl _|exact fun _=>Nat.le_succ _,block:=fun b o=>Below.heap_alloc w aa b o}
theorem FL{e size m n:Nat}{z:Array Value}{xs o:List Value}(q:xs.length=n*size)(L:o.length=m*size)(R:z.size=size)(U:n+m<=maxLen)(old:Nat):
  (w.drew.alloc (.cells (xs.toArray++o.toArray++Builtin.zeroCells z (grownCap w (n+m) old e-(n+m))) e)).ownsRow 0 e size (.slice (some ⟨w.heap.size,0,none⟩) (n+m) (grownCap w (n+m) old e)) (n+m) (xs++o):=by
 have V:=grownCap_ge w (n+m) old e
 have W:grownCap w (n+m) old e<=maxLen:=grownCap_le_maxLen w (n+m) old e U
 have O:(xs++o).length=(n+m)*size:=by rw[List.length_append,q,L,Nat.add_mul]
 refine⟨O,.inr ⟨w.heap.size,_,_,rfl,Nat.zero_le _,heap_alloc_new w.drew _,V,W,?_,?_⟩⟩
 ·simp only[Array.size_append,List.size_toArray,size_zeroCells,R,q,L,<-Nat.add_mul]
  congr 1
  omega
 ·simp only[Array.toList_append,List.append_assoc]
  rw[<-List.append_assoc,<-O]
  exact List.take_left
theorem Gc(t u ty e:TypeId)(i:TypeInfo)(z:Value)(U:P.underlying t=some (.slice e))(hu:(∃R,P.underlying u=some (.slice R))\/P.underlying u=some .string)(V:P.info? e=some i)(lh:i.zero=some z)
  (li:z.cells.size=i.size)(x:Value)(m:Nat)(o:List Value)(W:Builtin.lenOf x=pure m)
  (lj:∀w',(∀b,b<w.heap.size->w'.heap[b]? =w.heap[b]?)->(Builtin.firstCells i.size m x).run P w'=.ok o.toArray w')
  (L:o.length=m*i.size)(lp:∀u∈o,u.oneCell'=true)(v:Value)(n:Nat)(xs:List Value)(lc:w.ownsRow 0 e i.size v n xs)
  (ld:n+m<=maxLen)(lk:(n+m)*i.bytes<=140737488355328):
  ∃v' w',(Builtin.append_ #[t,u] ty #[v,x]).run P w=.ok v' w'/\w'.ownsRow 0 e i.size v' (n+m) (xs++o)/\Same w w'/\
   (∀b,b<w.heap.size->aP v≠some b->w'.heap[b]? =w.heap[b]?)/\(∀g,aP v'=some g->aP v=some g\/(w.heap.size<=g/\g<w'.heap.size)):=by
 have lB:n+m<=9223372036854775807:=by simp only[maxLen]at ld;omega
 have ll:=lj w (fun _ _=>rfl)
 have lm:=lj w.drew (fun _ _=>rfl)
 have O:=lc.1
 rcases lc.2 with ⟨rfl,rfl⟩|⟨g,cap,cur,rfl,_,q,lC,lq,lr,ls⟩
 ·have lt:xs=[]:=List.eq_nil_of_length_eq_zero (by simpa using O)
  subst lt
  by_cases ln:m=0
  ·subst ln
   have lu:o=[]:=List.eq_nil_of_length_eq_zero (by simpa using L)
   subst lu
   refine⟨.slice none 0 0,w,?_,World.ownsRow_nil w 0 e i.size,⟨rfl,rfl,rfl,Nat.le_refl _,fun _=>Nat.le_refl _⟩,fun _ _ _=>rfl,fun g q=>by simp[aP]at q⟩
   rcases hu with ⟨R,hu⟩|hu<;>simp[Builtin.append_,run_underlying U,run_underlying hu,sizeOf,typeInfo,V,W,ll]
  ·have lv:0<m:=by omega
   have le:¬(9223372036854775807<(m:Int)):=by omega
   have lf:=growslice_fits (old:=0) (need:=m) (bytes:=i.bytes) lv (by simpa using lk)
   have lg:¬(281474976710656<Builtin.nextslicecap m 0*i.bytes):=by omega
   have Y:=FL (w:=w) (e:=e) O L li ld 0
   simp only[Nat.zero_add]at Y
   refine⟨.slice (some ⟨w.heap.size,0,none⟩) m (grownCap w m 0 e),w.drew.alloc (.cells (([]:List Value).toArray++o.toArray++Builtin.zeroCells z.cells (grownCap w m 0 e-m)) e),?_,by simpa using Y,D0 _ _,fun b Z _=>Below.heap_alloc w.drew _ b Z,fun g q=>.inr ?_⟩
   ·rcases hu with ⟨R,hu⟩|hu<;>
     simp[Builtin.append_,run_underlying U,run_underlying hu,sizeOf,typeInfo,zeroValue,V,lh,W,ln,le,lg,Question.forced,run_firstCells_none,lm,newRow,grownCap]
   ·simp[aP]at q
    subst q
    exact⟨Nat.le_refl _,by simp⟩
 ·by_cases la:n+m<=cap
  ·have lf:n*i.size+o.length<=cur.size:=by rw[L,lr,<-Nat.add_mul];exact Nat.mul_le_mul_right _ la
   have lo:=run_storeCells_at P g (n*i.size) e o 0 cur w q (by simpa using lf) lp
   simp only[Nat.add_zero]at lo
   refine⟨.slice (some ⟨g,0,none⟩) (n+m) cap,_,?_,⟨by rw[List.length_append,O,L,Nat.add_mul],.inr ⟨g,cap,_,rfl,Nat.zero_le _,setRow_heap w g cur (cur.toList.take (n*i.size)++o++cur.toList.drop (n*i.size+o.length)).toArray e (0,0) q,la,lq,?_,?_⟩⟩,
    iP _ _ _,fun b Z lw=>setRow_other _ _ _ _ (fun e=>lw (by rw[e];rfl)),fun lx lb=>.inl lb⟩
   ·rcases hu with ⟨R,hu⟩|hu<;>
     simp[Builtin.append_,run_underlying U,run_underlying hu,sizeOf,typeInfo,V,W,la,ll,Addr.add_lit,lo]
   ·simp only[List.size_toArray,List.length_append,List.length_take,List.length_drop,Array.length_toList]
    omega
   ·rw[ls]
    have ly:(xs++o).length=(n+m)*i.size:=by rw[List.length_append,O,L,Nat.add_mul]
    rw[<-ly]
    exact List.take_left
  ·have lz:∀j u,xs[j]? =some u->w.cell? ((⟨g,0,none⟩:Addr).add j)=some u:=lc.cells (g:=g) rfl
   have lf:=growslice_fits (old:=cap) (need:=n+m) (bytes:=i.bytes) (by omega) lk
   have le:¬(9223372036854775807<(n:Int)+(m:Int)):=by omega
   have lg:¬(281474976710656<Builtin.nextslicecap (n+m) cap*i.bytes):=by omega
   have lA:=run_firstCells_some (P:=P) w.drew i.size n ⟨g,0,none⟩ n cap xs O (by simpa using lz)
   have Y:=FL (w:=w) (e:=e) O L li ld cap
   refine⟨.slice (some ⟨w.heap.size,0,none⟩) (n+m) (grownCap w (n+m) cap e),_,?_,Y,D0 _ _,fun b Z _=>Below.heap_alloc w.drew _ b Z,fun lx lb=>.inr ?_⟩
   ·rcases hu with ⟨R,hu⟩|hu<;>
     simp[Builtin.append_,run_underlying U,run_underlying hu,sizeOf,typeInfo,zeroValue,V,lh,W,la,le,lg,Question.forced,lA,lm,newRow,grownCap]<;>
     rw[<-List.append_toArray,Array.append_assoc]
   ·simp[aP]at lb
    subst lb
    exact⟨Nat.le_refl _,by simp⟩
end Go.Ev
namespace Go.Ev
open Go Go.RowKit
variable [bV]
structure wu where
 aM:ao
 st:af
 orc:List ak
 ob:List Prop
def sF(P:Program)(t:TypeId):Option (TypeId×ag):=
 match P.info? t with
 |some i=>match i.zero with
  |some (.slice none 0 0)=>Hf P t
  |_=>none
 |none=>none
where
 Hf (P:Program) (t:TypeId):Option (TypeId×ag):=
  match P.underlying t with
  |some (.slice e)=>match ty P e with
   |some u=>bif Nat.beq u.cells 0 then none else some (e,u)
   |none=>none
  |_=>none
def nR(P:Program)(t:TypeId):Option (Nat×ag):=
 match P.info? t,o4 P t with
 |some i,some (n,.int k)=>match i.zero with
  |some (.agg o)=>match sW k n o.toList&&Nat.ble n maxLen with
   |true=>some (n,.int k)
   |false=>none
  |_=>none
 |_,_=>none
where
 sW (k:IntKind):Nat->List Value->Bool
  |0,[]=>true
  |n+1,.int k' x::l=>fS k k'&&(x==0&&sW k n l)
  |_,_=>false
def ve(P:Program)(t:TypeId):Option TypeId:=
 match P.info? t,P.underlying t with
 |some i,some (.struct o)=>match i.zero,o.toList with
  |some (.agg q),[_,f1]=>match q.toList,sF.Hf P f1.type with
   |[.pointer none,.slice none 0 0],some (e,.int .u8)=>some e
   |_,_=>none
  |_,_=>none
 |_,_=>none
def nr(st:af):ao->Bool
 |.row r=>(look st.rw r).isSome
 |.osl b=>rA (look st.ad b)
 |.iter b=>sC (look st.ad b)
 |_=>true
def k9(st:af)(u:ag):Nat->List (Nat×Operand)->Option (List u.el)
 |_,[]=>some []
 |k,(i,aa)::r=>match Nat.beq i k,cY st aa with
  |true,some v=>match v.as u,k9 st u (k+1) r with
   |some x,some xs=>some (x::xs)
   |_,_=>none
  |_,_=>none
def dE(P:Program)(t:TypeId):Option (TypeId×ag):=
 match P.underlying t with
 |some (.slice e)=>match ty P e with
  |some u=>bif Nat.beq u.cells 0 then none else some (e,u)
  |none=>none
 |_=>none
def pJ(P:Program)(st:af)(d:Nat)(t:TypeId):Operand->Option (Nat×cp)
 |.const (.slice none 0 0)=>match dE P t with
  |some (e,u)=>some (d,⟨e,u,[]⟩)
  |none=>none
 |x=>match aO st x with
  |some (.row r)=>match look st.rw r with
   |some c=>some (r,c)
   |none=>none
  |_=>none
def ee(s:List UInt8):List Int:=s.map fun b=>(b.toNat:Int)
def jQ(P:Program)(st:af)(u:ag)(t:TypeId)(x:Operand):Option (List u.el):=
 match aO st x with
 |some (.row r)=>match P.underlying t with
  |some (.slice _)=>match look st.rw r with
   |some c=>ak.as ⟨.ab c.t,c.xs⟩ (.ab u)
   |none=>none
  |_=>none
 |some (.val (.ab o) xs)=>match P.underlying t with
  |some (.slice _)=>ak.as ⟨.ab o,xs⟩ (.ab u)
  |_=>none
 |some (.val .str s)=>match P.underlying t with
  |some .string=>ak.as ⟨.ab (.int .u8),ee s⟩ (.ab u)
  |_=>none
 |_=>none
def kE(P:Program)(e:TypeId):Bool:=
 match P.info? e with
 |some i=>Nat.ble i.bytes 65536
 |none=>false
def iK(s:List UInt8)(p:Nat):Int:=((Utf8.decode (bytesOf s) p).1:Int)
def j6(s:List UInt8)(p:Nat):Nat:=(Utf8.decode (bytesOf s) p).2
def B1(st:af):Option Operand->Bool
 |none=>true
 |some x=>(dL (aO st x)).isSome
def jA(P:Program)(st:af)(aa:Oper)(d:Nat)(orc:List ak):Option wu:=
 match aa.op with
 |.move (.const (.slice none 0 0))=>match dE P aa.type with
  |some (e,u)=>some ⟨.row d,st.da d ⟨e,u,[]⟩,orc,[]⟩
  |none=>none
 |.assign (.const (.slice none 0 0))=>match dE P aa.type with
  |some (e,u)=>some ⟨.row d,st.da d ⟨e,u,[]⟩,orc,[]⟩
  |none=>none
 |.alloc t=>match nR P t with
  |some (n,u)=>some ⟨.dA d 0 0 u.cells,st.da d ⟨t,u,List.replicate n (bX u)⟩,orc,[]⟩
  |none=>match sF P t with
  |some (e,u)=>bif Nat.blt (d+1000000) dT then some ⟨.ptr d 0,(st.da (d+1000000) ⟨e,u,[]⟩).cN d (.cells ([ao.row (d+1000000)].map (ao.cW d)) t),orc,[]⟩else none
  |none=>match ve P t with
   |some e=>bif Nat.blt (d+1000000) dT then some ⟨.ptr d 0,(st.da (d+1000000) ⟨e,.int .u8,[]⟩).cN d (.cells [.eI d,.row (d+1000000)] t),orc,[]⟩else none
   |none=>match zeroOf P t with
   |some u=>bif rk u then some ⟨.dm d [],st.cN d (.aP u (bX u) t),orc,[]⟩else some ⟨.ptr d 0,st.cN d (.cells (leaves u (bX u)) t),orc,[]⟩
   |none=>none
 |.box t x=>match ty P t,aO st x with
  |some u,some s=>match pc u s,nr st s with
   |some l,true=>some ⟨.ptr d 0,st.cN d (.cells (l.map (ao.cW d)) t),orc,[]⟩
   |_,_=>none
  |_,_=>none
 |.buildSlice t n parts=>match dE P t with
  |some (e,u)=>match k9 st u 0 parts.toList with
   |some xs=>match Nat.beq xs.length n,Nat.ble (n*u.cells) 16777216,zeroOf P e with
    |true,true,some _=>some ⟨.row d,st.da d ⟨e,u,xs⟩,orc,[]⟩
    |_,_,_=>none
   |none=>none
  |none=>none
 |.build t parts=>match ty P t,P.underlying t,P.info? t with
  |some (.arr n u),some (.array _ e),some i=>match k9 st u 0 parts.toList,ty P e,i.zero with
   |some xs,some o,some z=>match Nat.beq xs.length n&&u.beq o&&Nat.beq z.cells.size (n*u.cells)with
    |true=>some ⟨.val (.arr n u) xs,st,orc,[]⟩
    |false=>none
   |_,_,_=>none
  |_,_,_=>none
 |.makeSlice t l c=>match dE P t,dL (aO st l),dL (aO st c)with
  |some (e,u),some n,some k=>match kE P e,zeroOf P e with
   |true,some o=>bif u.beq o then some ⟨.row d,st.da d ⟨e,u,List.replicate n.toNat (bX u)⟩,orc,[0<=n/\n<=k/\k<=(bq:Int)]⟩else none
   |_,_=>none
  |_,_,_=>none
 |.range t x=>match cY st x,P.underlying t with
  |some ⟨.str,s⟩,some .string=>some ⟨.iter d,st.cN d (.iter s 0),orc,[]⟩
  |some ⟨.map k v,y⟩,some (.map _ _)=>some ⟨.iter d,st.cN d (.cj k v ((show Option (List (k.el×v.el))from y).getD []) []),orc,[]⟩
  |_,_=>none
 |.makeMap t r=>match P.underlying t with
  |some (.map L O)=>match ty P L,ty P O with
   |some k,some v=>match k.flat&&dJ P 16 L&&B1 st r with
    |true=>some ⟨.iter d,st.cN d (.mp k v []),orc,[]⟩
    |false=>none
   |_,_=>none
  |_=>none
 |.next x false=>match aO st x with
  |some (.iter b)=>match look st.ad b with
   |some (.cj _ _ left _)=>some ⟨.dq [⟨.bool,false⟩],st,orc,[left=[]]⟩
   |_=>none
  |_=>none
 |.entry x=>match aO st x with
  |some (.iter b)=>match look st.ad b with
   |some (.cj k v _ [p])=>some ⟨.dq [⟨k,p.1⟩,⟨v,p.2⟩],st,orc,[]⟩
   |_=>none
  |_=>none
 |.next x true=>match aO st x,orc with
  |some (.iter b),⟨.bool,R⟩::orc'=>match look st.ad b with
   |some (.iter s p)=>match R with
    |true=>some ⟨.dq [⟨.bool,true⟩,⟨.int .i64,(p:Int)⟩,⟨.int .i32,iK s p⟩],st.cL b (.iter s (p+j6 s p)),orc',[p<s.length]⟩
    |false=>some ⟨.dq [⟨.bool,false⟩],st,orc',[s.length<=p]⟩
   |_=>none
  |_,_=>none
 |.convert src U x=>match cY st x,P.underlying src,dE P U with
  |some ⟨.str,s⟩,some .string,some (e,.int .i32)=>some ⟨.row d,st.da d ⟨e,.int .i32,eb s⟩,orc,[s.length<=bq]⟩
  |some ⟨.str,s⟩,some .string,some (_,.int .u8)=>some ⟨.val (.ab (.int .u8)) (ee s),st,orc,[]⟩
  |_,_,_=>none
 |.makeFunc (.func f) first eg=>match first.toList,jA.nN st eg.toList with
  |[],some bs=>some ⟨.clos f bs,st,orc,[]⟩
  |[x],some []=>match aO st x with
   |some (.ptr b 0)=>some ⟨.bW f b,st,orc,[]⟩
   |_=>none
  |_,_=>none
 |.slice t x none (some h) none=>match aO st x,dE P t,dL (aO st h)with
  |some (.row r),some (e,u),some n=>match look st.rw r with
   |some c=>match Nat.beq c.e e,c.t.beq u,Nat.blt r dT with
    |true,true,true=>some ⟨.row r,st.da r ⟨c.e,c.t,c.xs.take n.toNat⟩,orc,[0<=n/\n<=(c.xs.length:Int)]⟩
    |_,_,_=>none
   |none=>none
  |_,_,_=>none
 |.slice t x (some l) none none=>match aO st x,dL (aO st l),o4 P t,orc with
  |some (.dA r i0 V W),some n,some (Y,u),v::orc'=>match look st.rw r with
   |some c=>match c.t.beq u&&(i0==0&&(Nat.beq V 0&&Nat.beq W c.t.cells)),v.as (.ab c.t)with
    |true,some q=>some ⟨.val (.ab c.t) q,st.freeze r c,orc',[dD c.xs n (c.xs.length:Int)=some q,c.xs.length=Y]⟩
    |_,_=>none
   |none=>none
  |_,_,_,_=>none
 |.call c=>match c with
  |{callee:=.builtin .append,args:=args,argTypes:=Z}=>match args.toList,Z.toList with
   |[s,x],[t,la]=>match dE P t,pJ P st d t s with
    |some (e,u),some (r,c)=>match Nat.beq c.e e,c.t.beq u,kE P e,zeroOf P e,jQ P st c.t la x with
     |true,true,true,some o,some q=>bif u.beq o&&Nat.blt r dT then some ⟨.row r,st.da r ⟨c.e,c.t,c.xs++q⟩,orc,[c.xs.length+q.length<=bq]⟩else none
     |_,_,_,_,_=>none
    |_,_=>none
   |_,_=>none
  |_=>none
 |_=>none
where
 nN (st:af):List Operand->Option (List Nat)
  |[]=>some []
  |x::r=>match aO st x,nN st r with
   |some (.ptr b 0),some bs=>some (b::bs)
   |_,_=>none
variable {cx:bx} {m:Nat->Value} {st:af} {T:Array Value} {w w':World}
variable [ah cx]
theorem il{P:Program}{t:TypeId}{e:TypeId}{u:ag}(h:dE P t=some (e,u)):P.underlying t=some (.slice e)/\ty P e=some u/\0<u.cells:=by
 unfold dE at h
 split at h
 ·rename_i R q
  split at h
  ·rename_i L O
   cases o:Nat.beq L.cells 0 with
   |true=>rw[o]at h;cases h
   |false=>rw[o]at h;cases h;exact⟨q,O,Nat.pos_of_ne_zero (beq_false o)⟩
  ·cases h
 ·cases h
def dX(cx:bx)[ah cx](T:Array Value)(w:World)(aa:Oper)(r:wu):Prop:=
 ∃v w' aA,(execOp (Act.eval ⟨T,ah.D cx⟩) aa).run cx.P w=.ok (.value v) w'/\an cx aA r.st T w'/\aN w' (ar cx aA r.st.ids) aA v r.aM
theorem ca{aa:Oper}{s:Sem Value}{v:Value}(o:execOp (Act.eval ⟨T,ah.D cx⟩) aa=(do pure (Next.value (<-s))))(q:s.run cx.P w=.ok v w'):
  (execOp (Act.eval ⟨T,ah.D cx⟩) aa).run cx.P w=.ok (.value v) w':=by
 rw[o,Sem.run_bind,q]
 rfl
theorem mS(h:an cx m st T w):cx.w0.heap.size<=w.heap.size:=h.frame.size
theorem oJ(h:an cx m st T w){d:Nat}(aj:d<cx.n){cells:Array Value}{e:Nat}{l:List ao}(L:cg w (ar cx m st.ids) m cells.toList l):
  an cx (bt m d (.pointer (some ⟨w.heap.size,0,none⟩))) (st.cN d (.cells (l.map (ao.cW d)) e)) T (w.alloc (.cells cells e)):=by
 have q:cX cx m st w d (eP w.heap.size (.cells (l.map (ao.cW d)) e)) (w.alloc (.cells cells e)):=
  cX.fresh h d _ (gL _ _) fun g O=>by cases jE O;exact⟨Nat.le_refl _,by simp⟩
 have R:∀i,i∈(st.cN d (.cells (l.map (ao.cW d)) e)).ids->i=d\/i∈st.ids:=by
  intro i o
  rw[sx]at o
  rcases List.mem_cons.1 o with o|o
  ·exact .inl o
  ·exact .inr ((kr st d i).1 o).1
 refine h.cN aj q (.inl (mS h)) ⟨cells,heap_alloc_new w _,?_⟩
 exact pg (fun v s U=>uV d _ (eN q.keeps (q.mut R) U:aN _ (ar cx _ _) m v s)) L
theorem sM{r:Nat}{c:cp}:∀i,i∈(st.da r c).ids->i=r\/i∈st.ids:=by
 intro i o
 rcases(EE st r c i).1 o with o|o
 ·exact .inl o
 ·exact .inr ((kr st r i).1 o).1
theorem Kj(d:Nat):∀(t:ag) (x:t.el),(leaves t x).map (ao.cW d)=leaves t x:=by
 intro t
 induction t with
 |pair a b o q=>intro x;simp only[leaves,List.map_append,o,q]
 |arr n t L=>
  intro x
  show((x:List t.el).flatMap (leaves t)).map (ao.cW d)=(x:List t.el).flatMap (leaves t)
  induction(x:List t.el)with
  |nil=>rfl
  |cons y R O=>rw[List.flatMap_cons,List.map_append,L,O]
 |_=>intro x;rfl
theorem LC(h:an cx m st T w){aa:Oper}{d:Nat}(aj:d<cx.n){t:TypeId}{u:ag}(o:aa.op=.alloc t)(q:zeroOf cx.P t=some u){orc:List ak}:
  dX cx T w aa ⟨.ptr d 0,st.cN d (.cells (leaves u (bX u)) t),orc,[]⟩:=by
 obtain⟨i,z,U,L,V,O,R⟩:=iO q
 have:=oJ h aj (cells:=z.cells) (e:=t) (qh u (R w (ar cx m st.ids)))
 rw[Kj]at this
 refine⟨_,_,_,ca (s:=Instr.alloc t true (.tuple #[])) (by simp only[execOp,o]) ?_,this,w.heap.size,b7 _ _ _,rfl⟩
 simp[Instr.alloc,zeroValue,typeInfo,L,O,newVar,newRow]
theorem Ot(h:an cx m st T w){aa:Oper}{d:Nat}(aj:d<cx.n){t:TypeId}{u:ag}(o:aa.op=.alloc t)(q:zeroOf cx.P t=some u){orc:List ak}:
  dX cx T w aa ⟨.dm d [],st.cN d (.aP u (bX u) t),orc,[]⟩:=by
 obtain⟨i,z,W,L,Y,O,R⟩:=iO q
 have U:cX cx m st w d (eP w.heap.size (.aP u (bX u) t)) (w.alloc (.cells z.cells t)):=
  cX.fresh h d _ (gL _ _) fun g V=>by cases jE V;exact⟨Nat.le_refl _,by simp⟩
 refine⟨.pointer (some ⟨w.heap.size,0,none⟩),w.alloc (.cells z.cells t),_,ca (s:=Instr.alloc t true (.tuple #[])) (by simp only[execOp,o]) ?_,
  h.cN aj U (.inl h.frame.size) ⟨z.cells,heap_alloc_new w _,R _ _⟩,w.heap.size,by rw[b7];rfl,rfl⟩
 simp[Instr.alloc,zeroValue,typeInfo,L,O,newVar,newRow,Value.cells]
theorem OS(h:an cx m st T w){aa:Oper}{d:Nat}(aj:d<cx.n){t:TypeId}{u:ag}{x:Operand}{s:ao}{l:List ao}(L:aa.op=.box t x)(o:aO st x=some s)(O:pc u s=some l)(q:nr st s=true){orc:List ak}:
  dX cx T w aa ⟨.ptr d 0,st.cN d (.cells (l.map (ao.cW d)) t),orc,[]⟩:=by
 have R:∀r,s=.row r\/s=.osl r\/s=.iter r->(Act.eval ⟨T,ah.D cx⟩ x).oneCell'=true:=by
  rintro r (rfl|rfl|rfl)
  ·simp only[nr]at q
   obtain⟨c',U⟩:=Option.isSome_iff_exists.1 q
   rw[show Act.eval ⟨T,ah.D cx⟩ x=m r from a8 h o]
   exact row_one h (aW U)
  ·exact Dv h q (a8 h o)
  ·exact Hq h q (a8 h o)
 obtain⟨V,W,Y⟩:=HA R (a8 h o) O
 have:=oJ h aj (cells:=(Act.eval ⟨T,ah.D cx⟩ x).cells) (e:=t) V
 refine⟨_,_,_,ca (s:=Instr.box t (Act.eval ⟨T,ah.D cx⟩ x)) (by simp only[execOp,L]) ?_,this,w.heap.size,b7 _ _ _,rfl⟩
 simp[Instr.box,newVar,newRow]
theorem qs(h:an cx m st T w)(d:Nat)(R:d<cx.n\/d<dT){cur:Array Value}{cells:List Value}{e cap:Nat}{u:ag}{xs:List u.el}(w':World)(U:Ext w w')(L:w'.heap[w.heap.size]? =some (.cells cur e (0,0)))
  (V:xs.length<=cap)(W:cap<=maxLen)(Y:cur.size=cap*u.cells)(Z:cur.toList.take (xs.length*u.cells)=cells)(O:bL (aK w (ar cx m st.ids) u) cells xs):
  an cx (bt m d (.slice (some ⟨w.heap.size,0,none⟩) xs.length cap)) (st.da d ⟨e,u,xs⟩) T w':=by
 have o:cX cx m st w d (.slice (some ⟨w.heap.size,0,none⟩) xs.length cap) w':=
  cX.fresh h d _ U fun g q=>by cases q;exact⟨Nat.le_refl _,Cb L⟩
 have la:=hO (fun _ _=>b6 u) _ _ O
 refine h.da R o (fun g q=>by cases q;exact .inl (mS h)) ⟨la,.inr ⟨w.heap.size,cap,cur,rfl,Nat.zero_le _,L,V,W,Y,Z⟩⟩ (cP (fun _ _=>cq o.keeps (o.mut sM) u) O)
theorem ta(h:an cx m st T w)(d e:Nat)(q:d<cx.n\/d<dT)(u:ag):an cx (bt m d (.slice none 0 0)) (st.da d ⟨e,u,[]⟩) T w:=by
 have L:cX cx m st w d (.slice none 0 0) w:=cX.fresh h d _ (Ext.refl w) fun g o=>by cases o
 exact h.da q L (fun g o=>by cases o) (World.ownsRow_nil w 0 e u.cells) rfl
theorem QV(h:an cx m st T w){aa:Oper}{d:Nat}(aj:d<cx.n)(q:d+1000000<dT){t e:TypeId}{u:ag}(L:aa.op=.alloc t)(o:sF cx.P t=some (e,u)){orc:List ak}:
  dX cx T w aa ⟨.ptr d 0,(st.da (d+1000000) ⟨e,u,[]⟩).cN d (.cells ([ao.row (d+1000000)].map (ao.cW d)) t),orc,[]⟩:=by
 unfold sF at o
 split at o
 ·rename_i i O
  split at o
  ·rename_i R
   have U:=ta h (d+1000000) e (.inr q) u
   have:=oJ U aj (cells:=#[.slice none 0 0]) (e:=t) (l:=[ao.row (d+1000000)]) ⟨(b7 _ _ _).symm,trivial⟩
   refine⟨_,_,_,ca (s:=Instr.alloc t true (.tuple #[])) (by simp only[execOp,L]) ?_,this,w.heap.size,b7 _ _ _,rfl⟩
   simp[Instr.alloc,zeroValue,typeInfo,O,R,newVar,newRow,Value.cells]
  ·cases o
 ·cases o
theorem Q5(h:an cx m st T w){aa:Oper}{d:Nat}(aj:d<cx.n)(L:d+1000000<dT){t e:TypeId}(O:aa.op=.alloc t)(o:ve cx.P t=some e){orc:List ak}:
  dX cx T w aa ⟨.ptr d 0,(st.da (d+1000000) ⟨e,.int .u8,[]⟩).cN d (.cells [.eI d,.row (d+1000000)] t),orc,[]⟩:=by
 unfold ve at o
 split at o
 ·rename_i i lb R lc
  split at o
  ·rename_i U f0 f1 V ld
   split at o
   ·rename_i le W lf
    cases o
    have Y:U=#[.pointer none,.slice none 0 0]:=Array.ext' (by rw[W])
    have q:=ta h (d+1000000) e (.inr L) (.int .u8)
    have Z:cX cx (bt m (d+1000000) (.slice none 0 0)) (st.da (d+1000000) ⟨e,.int .u8,[]⟩) w d (eP w.heap.size (.cells [.eI d,.row (d+1000000)] t)) (w.alloc (.cells #[.pointer none,.slice none 0 0] t)):=
     cX.fresh q d _ (gL _ _) fun g la=>by cases jE la;exact⟨Nat.le_refl _,by simp⟩
    have:=q.cN aj Z (.inl (mS q)) ⟨#[.pointer none,.slice none 0 0],heap_alloc_new w _,.inl rfl,by
     show _=bt _ d _ (d+1000000)
     rw[cF _ _ (by omega),b7],trivial⟩
    refine⟨_,_,_,ca (s:=Instr.alloc t true (.tuple #[])) (by simp only[execOp,O]) ?_,this,w.heap.size,b7 _ _ _,rfl⟩
    simp[Instr.alloc,zeroValue,typeInfo,R,V,newVar,newRow,Value.cells,Y]
   ·cases o
  ·cases o
 ·cases o
theorem Hz{k:IntKind}:∀{n:Nat} {l:List Value},nR.sW k n l=true->l=List.replicate n (.int k 0)
 |0,[],_=>rfl
 |0,_::_,h=>by cases h
 |n+1,[],h=>by cases h
 |n+1,v::l,h=>by
  cases v<;>simp only[nR.sW,Bool.false_eq_true]at h
  simp only[Bool.and_eq_true,beq_iff_eq]at h
  obtain⟨o,q,L⟩:=h
  rw[<-kD o,q,Hz L]
  rfl
theorem Dc{M:Nat->Prop}{k:IntKind}:∀(n:Nat),bL (aK w M (.int k)) (List.replicate n (.int k 0)) (List.replicate n (bX (.int k)))
 |0=>rfl
 |n+1=>⟨[.int k 0],List.replicate n (.int k 0),rfl,rfl,Dc n⟩
theorem P4(h:an cx m st T w){aa:Oper}{d:Nat}(aj:d<cx.n){t:TypeId}{n:Nat}{u:ag}(U:aa.op=.alloc t)(o:nR cx.P t=some (n,u)){orc:List ak}:
  dX cx T w aa ⟨.dA d 0 0 u.cells,st.da d ⟨t,u,List.replicate n (bX u)⟩,orc,[]⟩:=by
 unfold nR at o
 split at o
 ·rename_i i Z k V la
  split at o
  ·rename_i q W
   split at o
   ·rename_i L
    cases o
    rw[Bool.and_eq_true]at L
    have O:=Hz L.1
    have Y:=Nat.le_of_ble_eq_true L.2
    have R:q.size=n:=by rw[<-Array.length_toList,O,List.length_replicate]
    have:=qs h d (.inl aj) (xs:=List.replicate n (bX (.int k))) (cells:=q.toList) (cur:=q) (u:=.int k) (e:=t) (cap:=n) (w.alloc (.cells q t)) (gL _ _) (heap_alloc_new w _) (by rw[List.length_replicate];exact Nat.le_refl _) Y (by rw[R];simp[ag.cells])
     (by rw[List.length_replicate];simp only[ag.cells,Nat.mul_one];rw[List.take_of_length_le (by rw[Array.length_toList,R];exact Nat.le_refl _)]) (by rw[O];exact Dc n)
    rw[List.length_replicate]at this
    refine⟨.pointer (some ⟨w.heap.size,0,none⟩),_,_,ca (s:=Instr.alloc t true (.tuple #[])) (by simp only[execOp,U]) ?_,this,w.heap.size,_,_,b7 _ _ _,by simp⟩
    simp[Instr.alloc,zeroValue,typeInfo,V,W,newVar,newRow,Value.cells]
   ·cases o
  ·cases o
 ·cases o
theorem DQ(h:an cx m st T w){aa:Oper}{d e:Nat}(aj:d<cx.n){u:ag}(o:aa.op=.move (.const (.slice none 0 0))\/aa.op=.assign (.const (.slice none 0 0))){orc:List ak}:
  dX cx T w aa ⟨.row d,st.da d ⟨e,u,[]⟩,orc,[]⟩:=by
 refine⟨.slice none 0 0,w,_,?_,ta h d e (.inl aj) u,(b7 _ _ _).symm⟩
 rcases o with o|o<;>simp[execOp,o,Act.eval]
theorem O0(h:an cx m st T w){aa:Oper}{d:Nat}(aj:d<cx.n){t:TypeId}{x:Operand}{s:List UInt8}(o:aa.op=.range t x)(q:cY st x=some ⟨.str,s⟩)(L:cx.P.underlying t=some .string){orc:List ak}:
  dX cx T w aa ⟨.iter d,st.cN d (.iter s 0),orc,[]⟩:=by
 obtain⟨O,_⟩:=dV.1 (cK h q)
 have R:cX cx m st w d (eP w.heap.size (.iter s 0)) (w.iter (bytesOf s) 0):=
  cX.fresh h d _ (gL _ _) fun g U=>by cases jE U;exact⟨Nat.le_refl _,by simp[World.iter]⟩
 refine⟨.pointer (some ⟨w.heap.size,0,none⟩),w.iter (bytesOf s) 0,_,ca (s:=Instr.range t (.string (bytesOf s))) (by simp only[execOp,o,O];rfl) (run_range_string _ _ _ L),
  h.cN aj R (.inl (mS h)) (World.iter_heap _ _ _),(b7 _ _ _).symm⟩
theorem I0(w:World)(g:Nat)(aa:Obj):Same w {w with heap:=w.heap.setIfInBounds g aa}:=⟨rfl,rfl,rfl,by simp,fun _=>Nat.le_refl _⟩
theorem MP(h:an cx m st T w){aa:Oper}{d:Nat}(aj:d<cx.n){t:TypeId}{x:Operand}{k v:ag}{y:(ag.map k v).el}{la lb:TypeId}(W:aa.op=.range t x)(lc:cY st x=some ⟨.map k v,y⟩)(Y:cx.P.underlying t=some (.map la lb)){orc:List ak}:
  dX cx T w aa ⟨.iter d,st.cN d (.cj k v ((show Option (List (k.el×v.el))from y).getD []) []),orc,[]⟩:=by
 have o:=(bA (t:=.map k v) rfl).1 (cK h lc)
 match y,o with
 |none,o=>
  have o:[Act.eval ⟨T,ah.D cx⟩ x]=[Value.map none]:=o
  simp only[List.cons.injEq,and_true]at o
  have q:cX cx m st w d (eP w.heap.size (.cj k v [] [])) (w.alloc (.mapIter none 0 #[] 0)):=
   cX.fresh h d _ (gL _ _) fun g R=>by cases jE R;exact⟨Nat.le_refl _,by simp⟩
  refine⟨.pointer (some ⟨w.heap.size,0,none⟩),w.alloc (.mapIter none 0 #[] 0),_,ca (s:=Instr.range t (.map none)) (by simp only[execOp,W,o]) ?_,
   h.cN aj q (.inl h.frame.size) (.inl ⟨heap_alloc_new w _,rfl,rfl⟩),?_⟩
  ·simp[Instr.range,run_underlying Y,newObj,Sem.run]
  ·show _=bt m d _ d
   rw[b7];rfl
 |some ps,⟨b,es,L,e,U,ld,le,lf,lg⟩=>
  simp only[List.cons.injEq,and_true]at e
  have Z:=fG U
  have q:cX cx m st w d (eP w.heap.size (.cj k v ps [])) (w.alloc (.mapIter (some b) L #[] L)):=
   cX.fresh h d _ (gL _ _) fun g R=>by cases jE R;exact⟨Nat.le_refl _,by simp⟩
  have V:=q.mut (ids:=(st.cN d (.cj k v ps [])).ids) (fun i O=>by rcases List.mem_cons.1 O with O|O;exact .inl O;exact .inr ((kr st d i).1 O).1)
  refine⟨.pointer (some ⟨w.heap.size,0,none⟩),w.alloc (.mapIter (some b) L #[] L),_,ca (s:=Instr.range t (.map (some b))) (by simp only[execOp,W,e]) ?_,
   h.cN aj q (.inl h.frame.size) (.inr ⟨b,es,L,#[],heap_alloc_new w _,?_,fun lh=>ld (V b Z lh),le,lf,?_,.inl rfl⟩),?_⟩
  ·simp[Instr.range,run_underlying Y,newObj,getObj,Sem.run,U]
  ·rw[Below.heap_alloc w _ b Z];exact U
  ·have li:es.toList.filter (fun e=>!(#[]:Array Nat).contains e.born)=es.toList:=List.filter_eq_self.2 fun a _=>by simp
   rw[li]
   exact ge (fun _ _ h=>cT q.keeps V h) (fun _ _ h=>cT q.keeps V h) lg
  ·show _=bt m d _ d
   rw[b7];rfl
theorem KE(h:an cx m st T w){aa:Oper}{d:Nat}(aj:d<cx.n){t:TypeId}{r:Option Operand}{k v:ag}{q L:TypeId}(O:aa.op=.makeMap t r)(R:cx.P.underlying t=some (.map q L))(o:B1 st r=true){orc:List ak}:
  dX cx T w aa ⟨.iter d,st.cN d (.mp k v []),orc,[]⟩:=by
 have U:cX cx m st w d (eP w.heap.size (.mp k v [])) (w.alloc (.map #[] 0)):=
  cX.fresh h d _ (gL _ _) fun g V=>by cases jE V;exact⟨Nat.le_refl _,by simp⟩
 refine⟨.map (some w.heap.size),w.alloc (.map #[] 0),_,ca (s:=Instr.makeMap t (r.map (Act.eval ⟨T,ah.D cx⟩))) (by simp only[execOp,O]) ?_,
  h.cN aj U (.inl h.frame.size) ⟨#[],0,heap_alloc_new w _,fun e W=>by simp at W,by simp,trivial⟩,?_⟩
 ·cases r with
  |none=>rfl
  |some x=>
   unfold B1 at o
   obtain⟨n,Y⟩:=Option.isSome_iff_exists.1 o
   obtain⟨k',Z⟩:=eR h Y
   simp[Instr.makeMap,run_underlying R,Z,asInt,asIntOf,newObj,Sem.run]
 ·show _=bt m d _ d
  rw[b7];rfl
theorem IG(h:an cx m st T w){aa:Oper}{x:Operand}{b:Nat}{k v:ag}{left last:List (k.el×v.el)}(q:aa.op=.next x false)(R:aO st x=some (.iter b))(U:look st.ad b=some (.cj k v left last))(V:left=[]){orc:List ak}{ob:List Prop}:
  dX cx T w aa ⟨.dq [⟨.bool,false⟩],st,orc,ob⟩:=by
 subst V
 obtain⟨g,W,_,Y⟩:=h.box (aW U)
 have L:Act.eval ⟨T,ah.D cx⟩ x=.pointer (some ⟨g,0,none⟩):=by have:Act.eval ⟨T,ah.D cx⟩ x=m b:=a8 h R;rw[this,W];rfl
 rcases Y with ⟨o,_⟩|⟨le,es,O,seen,o,Z,_,la,lf,lb,_⟩
 ·refine⟨.tuple #[.bool false],w,m,ca (s:=Instr.next (.pointer (some ⟨g,0,none⟩)) false aa.type) (by simp only[execOp,q,L]) ?_,h,⟨[.bool false],rfl,dj.2 rfl,trivial⟩⟩
  simp[Instr.next,getObj,Sem.run,o]
 ·have lc:es.toList.filter (fun e=>!seen.contains e.born)=[]:=List.eq_nil_of_length_eq_zero (by rw[oP lb];rfl)
  refine⟨.tuple #[.bool false],w,m,ca (s:=Instr.next (.pointer (some ⟨g,0,none⟩)) false aa.type) (by simp only[execOp,q,L]) ?_,h,⟨[.bool false],rfl,dj.2 rfl,trivial⟩⟩
  have ld:es.filter (fun e=>!seen.contains e.born)=#[]:=by
   apply Array.toList_inj.1
   rw[Array.toList_filter]
   exact lc
  simp only[Instr.next,getObj,Sem.run_bind,Sem.run,o,Z,Result.andThen,next_test_false seen es O O la (Nat.le_refl _),Bool.false_eq_true,if_false,ld]
  simp[choose,Sem.run,Question.forced]
theorem find_born:∀(l:List MapEntry) (e:MapEntry),(l.map (·.born)).Nodup->e∈l->l.find? (fun x=>x.born==e.born)=some e
 |[],e,_,he=>by cases he
 |x::l,e,q,he=>by
  rw[List.map_cons,List.nodup_cons]at q
  rw[List.find?_cons]
  by_cases o:x.born=e.born
  ·rw[show(x.born==e.born)=true from beq_iff_eq.2 o]
   rcases List.mem_cons.1 he with he|he
   ·rw[he]
   ·exact absurd (List.mem_map.2 ⟨e,he,o.symm⟩) q.1
  ·rw[show(x.born==e.born)=false from beq_eq_false_iff_ne.2 o]
   rcases List.mem_cons.1 he with he|he
   ·exact absurd (by rw[he]) o
   ·exact find_born l e q.2 he
theorem Kn(h:an cx m st T w){aa:Oper}{x:Operand}{b:Nat}{k v:ag}{left:List (k.el×v.el)}{p:k.el×v.el}(L:aa.op=.entry x)(O:aO st x=some (.iter b))(R:look st.ad b=some (.cj k v left [p])){orc:List ak}:
  dX cx T w aa ⟨.dq [⟨k,p.1⟩,⟨v,p.2⟩],st,orc,[]⟩:=by
 obtain⟨g,U,_,V⟩:=h.box (aW R)
 have W:Act.eval ⟨T,ah.D cx⟩ x=.pointer (some ⟨g,0,none⟩):=by have:Act.eval ⟨T,ah.D cx⟩ x=m b:=a8 h O;rw[this,U];rfl
 rcases V with ⟨_,_,o⟩|⟨lc,es,ld,seen,o,Y,_,le,Z,lf,q⟩
 ·cases o
 ·rcases q with q|⟨e,lg,la,a2,a3,a4,a5⟩
  ·cases q
  ·cases la
   refine⟨.tuple #[e.key,e.val],w,m,ca (s:=Instr.entry (.pointer (some ⟨g,0,none⟩))) (by simp only[execOp,L,W]) ?_,h,⟨[e.key,e.val],rfl,a4,a5,trivial⟩⟩
   have lb:es.find? (fun x=>x.born==e.born)=some e:=by rw[<-Array.find?_toList];exact find_born es.toList e Z a2
   simp[Instr.entry,getObj,Sem.run,o,Y,a3,lb]
theorem FI(h:an cx m st T w){aa:Oper}{x:Operand}{b p:Nat}{s:List UInt8}(O:aa.op=.next x true)(V:aO st x=some (.iter b))(W:look st.ad b=some (.iter s p)){orc:List ak}:
  (p<s.length->dX cx T w aa ⟨.dq [⟨.bool,true⟩,⟨.int .i64,(p:Int)⟩,⟨.int .i32,iK s p⟩],st.cL b (.iter s (p+j6 s p)),orc,[p<s.length]⟩)/\
  (s.length<=p->dX cx T w aa ⟨.dq [⟨.bool,false⟩],st,orc,[s.length<=p]⟩):=by
 have R:Act.eval ⟨T,ah.D cx⟩ x=m b:=a8 h V
 have U:=aW W
 obtain⟨g,o,_,q⟩:=h.box U
 have q:w.heap[g]? =some (.stringIter (bytesOf s) p):=q
 have o:m b=.pointer (some ⟨g,0,none⟩):=o
 constructor
 ·intro Y
  have L:p<(bytesOf s).size:=by rw[gH];exact Y
  have Z:Touch m w b {w with heap:=w.heap.setIfInBounds g (.stringIter (bytesOf s) (p+j6 s p))}:=
   ⟨I0 _ _ _,fun k _ la=>by
    show(w.heap.setIfInBounds g _)[k]? =_
    rw[Array.getElem?_setIfInBounds_ne]
    intro e
    exact la (by rw[o,e];rfl)⟩
  refine⟨.tuple #[.bool true,.int .i64 p,.int .i32 (iK s p)],_,m,ca (s:=Instr.next (.pointer (some ⟨g,0,none⟩)) true aa.type) (by simp only[execOp,O,R,o]) ?_,
   h.cL U Z (g:=g) o ?_,⟨[.bool true,.int .i64 p,.int .i32 (iK s p)],rfl,dj.2 rfl,cJ.2 rfl,cJ.2 rfl,trivial⟩⟩
  ·simp[Instr.next,getObj,setObj,Sem.run,q,L,goInt,iK,j6]
  ·show(w.heap.setIfInBounds g _)[g]? =_
   rw[Array.getElem?_setIfInBounds_self_of_lt (Cb q)]
 ·intro lb
  have L:¬p<(bytesOf s).size:=by rw[gH];omega
  refine⟨.tuple #[.bool false],w,m,ca (s:=Instr.next (.pointer (some ⟨g,0,none⟩)) true aa.type) (by simp only[execOp,O,R,o]) ?_,h,⟨[.bool false],rfl,dj.2 rfl,trivial⟩⟩
  simp[Instr.next,getObj,Sem.run,q,L]
end Go.Ev
