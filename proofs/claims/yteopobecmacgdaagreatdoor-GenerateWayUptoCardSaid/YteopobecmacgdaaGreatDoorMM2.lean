/- Maps on plain data: what is looked up, what is written. -/
import Derived.Test.YteopobecmacgdaaGreatDoorMM1
import Derived.WideKeyRuns
import Derived.MapKept
import Derived.Laws.IdiomRangeMap
set_option linter.unusedSectionVars false
set_option linter.unusedVariables false
set_option linter.unusedSimpArgs false
namespace Go.Ev
open Go Go.RowKit
variable [b8]
variable {P:Program} {w w':World} {M M':Nat->Prop}
theorem Gn{α:Type}{f g:List Value->α->Prop}(h:∀c c' x,f c x->g c' x->c=c'):∀{xs:List α} {cs O:List Value},bL f cs xs->bL g O xs->cs=O
 |[],_,_,o,q=>by cases o;cases q;rfl
 |_::_,_,_,⟨a,b,ae,o,q⟩,⟨c,d,R,U,W⟩=>by rw[ae,R,h _ _ _ o U,Gn h q W]
theorem Kk{w w':World}{M M':Nat->Prop}:∀(t:ag) {cs q:List Value} {x:t.el},t.flat=true->aJ w M t cs x->aJ w' M' t q x->cs=q:=by
 intro t
 induction t with
 |int k=>intro cs q x _ h h';rw[h,h']
 |bool=>intro cs q x _ h h';rw[h,h']
 |str=>intro cs q x _ h h';rw[h.1,h'.1]
 |unit=>intro cs q x _ h h';rw[h,h']
 |pair a b W X=>
  rintro cs q x o ⟨c1,c2,rfl,R,U⟩ ⟨d1,d2,rfl,Y,Z⟩
  simp only[ag.flat,Bool.and_eq_true]at o
  rw[W o.1 R Y,X o.2 U Z]
 |ab t O=>intro cs q x o;simp[ag.flat]at o
 |ptr t O=>intro cs q x o;simp[ag.flat]at o
 |fn f t O=>intro cs q x o;simp[ag.flat]at o
 |err=>intro cs q x o;simp[ag.flat]at o
 |ck=>intro cs q x o;simp[ag.flat]at o
 |cE=>intro cs q x o;simp[ag.flat]at o
 |cB n t _=>intro cs q x o;simp[ag.flat]at o
 |alt n t r _ _=>intro cs q x o;simp[ag.flat]at o
 |map k v _ _=>intro cs q x o;simp[ag.flat]at o
 |arr n t O=>intro cs q x o h h';exact Gn (f:=aJ w M t) (g:=aJ w' M' t) (fun _ _ _ R U=>O o R U) h.2 h'.2
theorem oh{w w':World}{M M':Nat->Prop}{t:ag}{v v':Value}{x:t.el}(q:t.flat=true)(h:ba w M v t x)(h':ba w' M' v' t x):v=v':=by
 cases o:t.agg with
 |true=>
  obtain⟨cs,rfl,O⟩:=(eh o).1 h
  obtain⟨U,rfl,R⟩:=(eh o).1 h'
  rw[Kk t q O R]
 |false=>
  have:=Kk t q ((bA o).1 h) ((bA o).1 h')
  simpa using this
theorem uR{P:Program}{t e:TypeId}{len d:Nat}{u:ag}{n:Int}{k:IntKind}{a:Addr}(o:P.underlying t=some (.array len e))(q:cN P d e=some u)(O:0<=n)(R:n<(len:Int))(w':World):
  (Instr.indexAt t (.pointer (some a)) (.int k n)).run P w'=.ok (.pointer (some (a.add (n.toNat*u.cells)))) w':=by
 simp only[Instr.indexAt,asIntOf,Sem.run_bind,Sem.run_pure,Result.andThen_ok,run_underlying o,Instr.sureAddr]
 rw[if_pos ⟨O,R⟩]
 simp only[Sem.run_bind,fa q,Result.andThen_ok,Sem.run_pure]
theorem AZ{P:Program}{w:World}{M:Nat->Prop}{d:Nat}{t:TypeId}{u:ag}(q:cN P d t=some u){pre c post:List Value}{x:u.el}(U:aJ w M u c x):
  ∃v,(∀O,(part t (pre++c++post).toArray pre.length).run P O=.ok v O)/\ba w M v u x:=by
 obtain⟨v,o,Y⟩:=sw (P:=P) q (pre:=pre) (post:=post) U w
 refine⟨v,fun O=>?_,Y⟩
 have W:=cf u U
 cases R:u.agg with
 |true=>
  unfold part at o⊢
  rw[Sem.run_bind,k2 q,R]at o⊢
  simp only[Result.andThen_ok,if_true,Sem.run_bind,fa q,Sem.run_pure]at o⊢
  injection o with o
  rw[o]
 |false=>
  unfold part at o⊢
  rw[Sem.run_bind,k2 q,R]at o⊢
  simp only[Result.andThen_ok,Bool.false_eq_true,if_false]at o⊢
  have Z:u.cells=1:=by cases u<;>first|rfl|(simp[ag.agg]at R)
  rw[Z]at W
  match c,W with
  |[v0],_=>
   have e:(pre++[v0]++post).toArray[pre.length]? =some v0:=by simp
   rw[e]at o⊢
   have:v0=v:=by
    have X:(pure v0:Sem Value).run P w=.ok v w:=o
    rw[Sem.run_pure]at X
    injection X
   rw[<-this]
   rfl
def zeroOf(P:Program)(t:TypeId):Option ag:=
 match ty P t,P.info? t with
 |some u,some i=>match i.zero with
  |some z=>match fD u z.cells.toList with
   |some []=>some u
   |_=>none
  |none=>none
 |_,_=>none
theorem kg{P:Program}{t:TypeId}{u:ag}(h:zeroOf P t=some u):∃i z,ty P t=some u/\P.info? t=some i/\i.size=u.cells/\i.zero=some z/\∀w M,aJ w M u z.cells.toList (b9 u):=by
 unfold zeroOf at h
 split at h
 ·rename_i Y i o hi
  split at h
  ·rename_i z O
   split at h
   ·rename_i R
    cases h
    obtain⟨Z,q,U,_⟩:=dk o
    rw[hi]at q
    cases q
    refine⟨i,z,o,hi,U,O,fun w M=>?_⟩
    obtain⟨c,W,X⟩:=LF (w:=w) (M:=M) u R
    rw[W,List.append_nil]
    exact X
   ·cases h
  ·cases h
 ·cases h
/-! Parts by steps. -/
def kL:(t:ag)->t.el->List nQ->List al->Option (al×List al×List Prop)
 |t,x,[],orc=>some (⟨t,x⟩,orc,[])
 |t,x,.f off u::p,orc=>match cM t x off u with
  |some y=>kL u y p orc
  |none=>none
 |.arr _ u,xs,.x j o::p,v::orc=>match Nat.beq o u.cells,v.as u with
  |true,some y=>match kL u y p orc with
   |some (r,aa,ob)=>some (r,aa,(aB (show List u.el from xs) j=some y)::ob)
   |none=>none
  |_,_=>none
 |_,_,.x _ _::_,_=>none
def mL:(t:ag)->t.el->List nQ->List al->al->Option (t.el×List al×List Prop)
 |t,_,[],orc,z=>match z.as t with
  |some y=>some (y,orc,[])
  |none=>none
 |t,x,.f off u::p,orc,z=>match cM t x off u with
  |some y=>match mL u y p orc z with
   |some (o,aa,ob)=>match cm t x off ⟨u,o⟩with
    |some x'=>some (x',aa,ob)
    |none=>none
   |none=>none
  |none=>none
 |.arr _ u,xs,.x j q::p,v::orc,z=>match Nat.beq q u.cells,v.as u with
  |true,some y=>match mL u y p orc z with
   |some (o,aa,ob)=>some (List.set (show List u.el from xs) j.toNat o,aa,(aB (show List u.el from xs) j=some y)::ob)
   |none=>none
  |_,_=>none
 |_,_,.x _ _::_,_,_=>none
theorem zA:∀(p:List nQ) (t:ag) {cs:List Value} {x:t.el} {orc orc':List al} {r:al} {ob:List Prop},aJ w M t cs x->kL t x p orc=some (r,orc',ob)->bP ob->
  ∃c1 c2 c3,cs=c1++c2++c3/\c1.length=gc p/\aJ w M r.t c2 r.x
 |[],t,cs,x,orc,orc',r,ob,h,o,_=>by
  simp only[kL]at o
  cases o
  exact⟨[],cs,[],by simp,rfl,h⟩
 |.f off u::p,t,cs,x,orc,orc',r,ob,h,o,q=>by
  simp only[kL]at o
  split at o
  ·rename_i y W
   obtain⟨c1,c2,c3,rfl,O,R⟩:=pQ t h W
   obtain⟨d1,d2,d3,rfl,ai,U⟩:=zA p u R o q
   exact⟨c1++d1,d2,d3++c3,by simp,by rw[List.length_append,O,ai];rfl,U⟩
  ·cases o
 |.x j la::p,t,cs,x,orc,orc',r,ob,h,o,q=>by
  cases t with
  |arr n u=>
   cases orc with
   |nil=>simp[kL]at o
   |cons v orc=>
    simp only[kL]at o
    split at o
    ·rename_i y X lb
     split at o
     ·rename_i lc aa ld Y
      cases o
      obtain⟨le,lf,R⟩:=jq q.1
      obtain⟨c1,c2,c3,rfl,O,U⟩:=mF h.2 R
      obtain⟨d1,d2,d3,rfl,ai,Z⟩:=zA p u U Y q.2
      exact⟨c1++d1,d2,d3++c3,by simp,by rw[List.length_append,O,ai,<-Nat.eq_of_beq_eq_true X];rfl,Z⟩
     ·cases o
    ·cases o
  |_=>simp[kL]at o
theorem DD{z:al}{q:List Value}(O:aJ w M z.t q z.x):∀(p:List nQ) (t:ag) {cs:List Value} {x:t.el} {orc orc':List al} {y:t.el} {ob:List Prop},aJ w M t cs x->mL t x p orc z=some (y,orc',ob)->bP ob->
  ∃c1 c2 c3,cs=c1++c2++c3/\c1.length=gc p/\c2.length=q.length/\aJ w M t (c1++q++c3) y
 |[],t,cs,x,orc,orc',y,ob,h,o,_=>by
  simp only[mL]at o
  split at o
  ·rename_i lq ld
   cases o
   have e:=al.dj ld
   subst e
   exact⟨[],cs,[],by simp,rfl,by rw[cf t h,cf t O],by simpa using O⟩
  ·cases o
 |.f off u::p,t,cs,x,orc,orc',y,ob,h,o,R=>by
  simp only[mL]at o
  split at o
  ·rename_i le lf
   split at o
   ·rename_i X aa lg Y
    split at o
    ·rename_i x' lh
     cases o
     obtain⟨c1,c2,c3,e,U,Z⟩:=pQ t h lf
     obtain⟨d1,d2,d3,lc,ai,W,la⟩:=DD O p u Z Y R
     obtain⟨aC,aA,bW,li,lj,lk,lb⟩:=qx (v:=⟨u,X⟩) la t h lh
     have ll:c2.length=(d1++q++d3).length:=by rw[lc];simp only[List.length_append,W]
     have e4:aC=c1/\aA=c2/\bW=c3:=by
      have lm:aC++(aA++bW)=c1++(c2++c3):=by rw[<-List.append_assoc,<-List.append_assoc,<-li,<-e]
      obtain⟨ln,a2⟩:=List.append_inj lm (by rw[lj,U])
      obtain⟨a3,a4⟩:=List.append_inj a2 (by rw[lk,ll])
      exact⟨ln,a3,a4⟩
     obtain⟨rfl,rfl,rfl⟩:=e4
     subst lc
     refine⟨aC++d1,d2,d3++bW,by rw[e];simp,by rw[List.length_append,U,ai];rfl,W,?_⟩
     have:aC++d1++q++(d3++bW)=aC++(d1++q++d3)++bW:=by simp
     rw[this]
     exact lb
    ·cases o
   ·cases o
  ·cases o
 |.x j lr::p,t,cs,x,orc,orc',y,ob,h,o,R=>by
  cases t with
  |arr n u=>
   cases orc with
   |nil=>simp[mL]at o
   |cons v orc=>
    simp only[mL]at o
    split at o
    ·rename_i le lo ls
     split at o
     ·rename_i X aa lg Y
      cases o
      obtain⟨lt,lu,Z⟩:=jq R.1
      obtain⟨c1,c2,c3,rfl,U,la,lp⟩:=sk h.2 Z
      obtain⟨d1,d2,d3,rfl,ai,W,lb⟩:=DD O p u la Y R.2
      refine⟨c1++d1,d2,d3++c3,by simp,by rw[List.length_append,U,ai,<-Nat.eq_of_beq_eq_true lo];rfl,W,?_,?_⟩
      ·exact(@List.length_set _ (show List u.el from x) j.toNat X).trans h.1
      ·have:=lp _ _ lb
       simpa using this
     ·cases o
    ·cases o
  |_=>simp[mL]at o
def zN:ag->Bool
 |.arr _ _=>true
 |.pair a b=>zN a||zN b
 |_=>false
def ya(z:Value)(u:ag):Bool:=
 match z with
 |.agg _=>u.agg
 |_=>!u.agg
def zeroV(P:Program)(t:TypeId):Option ag:=
 match zeroOf P t,P.info? t with
 |some u,some i=>match i.zero with
  |some z=>bif ya z u then some u else none
  |none=>none
 |_,_=>none
theorem As{P:Program}{t:TypeId}{u:ag}(h:zeroV P t=some u):∃z,ty P t=some u/\(∀w,(zeroValue t).run P w=.ok z w)/\∀w M,ba w M z u (b9 u):=by
 unfold zeroV at h
 split at h
 ·rename_i Y i Z hi
  split at h
  ·rename_i z R
   cases O:ya z Y<;>rw[O]at h<;>cases h
   obtain⟨la,o,lb,U,_,W,lc⟩:=kg Z
   have ae:la=i:=by rw[hi]at U;cases U;rfl
   subst ae
   have ld:o=z:=by rw[R]at W;cases W;rfl
   subst ld
   refine⟨o,lb,fun w=>by simp[zeroValue,typeInfo,hi,R],fun w M=>?_⟩
   have X:=lc w M
   cases q:u.agg with
   |true=>
    cases o<;>simp only[ya,q,Bool.not_true,Bool.false_eq_true]at O
    rename_i cs
    exact(eh q).2 ⟨cs.toList,by simp,X⟩
   |false=>
    refine(bA q).2 ?_
    cases o<;>first|exact X|(simp[ya,q]at O)
  ·cases h
 ·cases h
def bS{α β:Type}(eq:α->α->Bool):List (α×β)->α->Option β
 |[],_=>none
 |p::ps,k=>if eq k p.1 then some p.2 else bS eq ps k
def cl{α β:Type}(eq:α->α->Bool):List (α×β)->α->β->List (α×β)
 |[],k,v=>[(k,v)]
 |p::ps,k,v=>if eq k p.1 then(k,v)::ps else p::cl eq ps k v
theorem GW{α:Type}{f:α->α->Bool}(h:∀x y,f x y=true->x=y):∀{xs q:List α},kT f xs q=true->xs=q
 |[],[],_=>rfl
 |[],_::_,o=>by cases o
 |_::_,[],o=>by cases o
 |x::xs,y::q,o=>by
  simp only[kT,Bool.and_eq_true]at o
  rw[h x y o.1,GW h o.2]
theorem BF:∀(t:ag) {x y:t.el},aV t x y=true->x=y:=by
 intro t
 induction t with
 |int k=>intro x y h;exact eq_of_beq (α:=Int) h
 |bool=>intro x y h;exact eq_of_beq (α:=Bool) h
 |str=>intro x y h;exact eq_of_beq (α:=List UInt8) h
 |unit=>intro x y _;rfl
 |pair a b o q=>
  intro x y h
  simp only[aV,Bool.and_eq_true]at h
  exact Prod.ext (o h.1) (q h.2)
 |arr n t O=>intro x y h;exact GW (fun _ _=>O) h
 |ab t _=>intro x y h;cases h
 |ptr t _=>intro x y h;cases h
 |fn f t _=>intro x y h;cases h
 |err=>intro x y h;cases h
 |ck=>intro x y h;cases h
 |cE=>intro x y h;cases h
 |cB n t _=>intro x y h;cases h
 |alt n t r _ _=>intro x y h;cases h
 |map k v _ _=>intro x y h;cases h
theorem MO{d:Nat}:∀(ap:List Field) (off:Nat) (u:ag),fieldsOf (cN P d) off ap=some u->∀(pre c:List Value) (x:u.el),pre.length=off->aJ w M u c x->
  ∀f∈ap,∃(a:Value) (O:ag) (Y:O.el),cN P d f.type=some O/\(∀q,(part f.type (pre++c).toArray f.offset).run P q=.ok a q)/\ba w M a O Y
 |[],off,u,h,pre,c,x,_,_,f,o=>by cases o
 |fd::ap,off,u,h,pre,c,x,U,Z,f,o=>by
  unfold fieldsOf at h
  cases R:Nat.beq fd.offset off with
  |false=>rw[R]at h;cases h
  |true=>
   have la:=Nat.eq_of_beq_eq_true R
   rw[R,cond_true]at h
   split at h
   ·rename_i a W
    split at h
    ·rename_i b lb
     cases h
     obtain⟨c1,c2,rfl,X,cS⟩:=Z
     rcases List.mem_cons.1 o with rfl|o
     ·obtain⟨v,ae,lc⟩:=AZ (P:=P) W (pre:=pre) (post:=c2) X
      refine⟨v,a,x.1,W,fun q=>?_,lc⟩
      have:=ae q
      rw[List.append_assoc,U,<-la]at this
      exact this
     ·have:=MO ap (off+a.cells) b lb (pre++c1) c2 x.2 (by rw[List.length_append,U,cf a X]) cS f o
      rw[List.append_assoc]at this
      exact this
    ·cases h
   ·cases h
theorem RK{d:Nat}{e:TypeId}{u:ag}(q:cN P d e=some u){c:List Value}{xs:List u.el}(O:bL (aJ w M u) c xs)(j:Nat)(R:j<xs.length):
  ∃(a:Value) (x:u.el),(∀o,(part e c.toArray (j*u.cells)).run P o=.ok a o)/\ba w M a u x:=by
 obtain⟨c1,c2,c3,rfl,U,W⟩:=mF O (List.getElem?_eq_getElem R)
 obtain⟨v,ae,X⟩:=AZ (P:=P) q (pre:=c1) (post:=c3) W
 exact⟨v,_,fun o=>by have:=ae o;rw[U]at this;exact this,X⟩
theorem qM(em:Bool):∀(d:Nat) (t:TypeId) (u:ag),cN P d t=some u->∀d',ed P d' t=true->∀R,d'<=R->∀(w q:World) (M:Nat->Prop) (v:Value) (x:u.el),ba w M v u x->(Instr.checkKey em R t v).run P q=.ok () q
 |0,_,_,h=>by cases h
 |d+1,t,u,h=>by
  intro d' O R lq w q M v x Y
  cases d' with
  |zero=>cases O
  |succ d'=>
   obtain⟨R,rfl⟩:∃k,R=k+1:=⟨R-1,by omega⟩
   have lr:=h
   unfold ed at O
   unfold cN at h
   rw[Instr.checkKey]
   split at h
   ·rename_i i k hi o
    cases U:Nat.beq i.size 1<;>rw[U]at h<;>cases h
    obtain rfl:=da.1 Y
    simp[run_underlying o]
   ·rename_i i hi o
    cases U:Nat.beq i.size 1<;>rw[U]at h<;>cases h
    obtain rfl:=dF.1 Y
    simp[run_underlying o]
   ·rename_i i hi o
    cases U:Nat.beq i.size 1<;>rw[U]at h<;>cases h
    obtain⟨rfl,_⟩:=eO.1 Y
    simp[run_underlying o]
   ·rename_i i e hi o
    rw[o]at O
    cases O
   ·rename_i i ap hi o
    rw[o]at O
    simp only[Bool.and_eq_true,Bool.not_eq_true']at O
    split at h
    ·rename_i v0 X
     cases U:Nat.beq i.size v0.cells<;>rw[U]at h<;>cases h
     have lg:=KA X
     obtain⟨c,rfl,lh⟩:=(eh lg).1 Y
     simp only[Sem.run_bind,run_underlying o,Result.andThen_ok]
     rw[<-Array.forIn_toList]
     have W:∀f∈ap.toList,∃a,f.name≠ "_" /\(∀q,(part f.type c.toArray f.offset).run P q=.ok a q)/\(Instr.checkKey em R f.type a).run P q=.ok () q:=by
      intro f lf
      obtain⟨a,li,lj,Z,la,lk⟩:=MO ap.toList 0 u X [] c x rfl lh f lf
      have lb:=List.all_eq_true.1 O.2 f lf
      simp only[Bool.and_eq_true,bne_iff_ne,ne_eq]at lb
      exact⟨a,lb.1,fun q=>by have:=la q;simpa using this,qM em d f.type li Z d' lb.2 R (by omega) w q M a lj lk⟩
     generalize ap.toList=L at W
     induction L with
     |nil=>simp
     |cons f L lc=>
      obtain⟨a,ll,ar,ld⟩:=W f List.mem_cons_self
      simp only[List.forIn_cons,Sem.run_bind,ll,ne_eq,not_false_eq_true,if_true,Result.andThen_ok,ar,ld,Sem.run_pure]
      exact lc fun y le=>W y (List.mem_cons_of_mem _ le)
    ·cases h
   ·rename_i i ls hi o
    rw[o]at O
    cases O
   ·rename_i i n e hi o
    rw[o]at O
    split at h
    ·rename_i v0 X
     cases U:Nat.beq i.size (n*v0.cells)<;>rw[U]at h<;>cases h
     obtain⟨c,rfl,lm,ln⟩:=(eh (t:=.arr n v0) rfl).1 Y
     simp only[Sem.run_bind,run_underlying o,Result.andThen_ok]
     simp only[Std.Legacy.Range.forIn_eq_forIn_range',Std.Legacy.Range.size,Nat.sub_zero,Nat.add_one_sub_one,Nat.div_one]
     have W:∀j∈List.range' 0 n,∃a,(∀q,(part e c.toArray (j*v0.cells)).run P q=.ok a q)/\(Instr.checkKey em R e a).run P q=.ok () q:=by
      intro j lo
      have lp:j<n:=by simpa using lo
      obtain⟨a,y,Z,la⟩:=RK X ln j (by rw[lm];exact lp)
      exact⟨a,Z,qM em d e v0 X d' O R (by omega) w q M a y la⟩
     generalize List.range' 0 n=L at W
     induction L with
     |nil=>simp
     |cons j L lc=>
      obtain⟨a,ar,ld⟩:=W j List.mem_cons_self
      simp only[List.forIn_cons,Sem.run_bind,fa X,Result.andThen_ok,ar,ld,Sem.run_pure]
      exact lc fun y le=>W y (List.mem_cons_of_mem _ le)
    ·cases h
   ·rename_i i k e hi o
    rw[o]at O
    cases O
   ·rename_i i a b c hi o
    rw[o]at O
    cases O
   ·rename_i i e hi o
    rw[o]at O
    cases O
   ·cases h
def gH{α β:Type}(eq:α->α->Bool)(key:α):List MapEntry->List (α×β)->Nat->Option (Nat×Value)
 |e::es,p::ps,i=>if eq key p.1 then some (i,e.val)else gH eq key es ps (i+1)
 |_,_,_=>none
theorem GL{d d':Nat}{q:TypeId}{u:ag}{β:Type}{W:Value->β->Prop}(O:cN P d q=some u)(R:ed P d' q=true)(ai:d'<=10000){kv:Value}{key:u.el}(U:ba w M kv u key)(o:World):
  ∀(es:List MapEntry) (ps:List (u.el×β)) (i:Nat),ep (eD w' M' u) W es ps->(Instr.findAsking q kv es i).run P o=.ok (gH (aV u) key es ps i) o
 |[],[],i,_=>by simp[Instr.findAsking,gH]
 |[],_::_,_,h=>h.elim
 |_::_,[],_,h=>h.elim
 |e::es,p::ps,i,⟨X,_,Y⟩=>by
  have Z:(Op.equal q kv e.key).run P o=.ok (aV u key p.1) o:=u9 d q u O d' R 10000 ai w w' o M M' kv e.key key p.1 U X
  rw[Instr.findAsking,Sem.run_bind,Z]
  simp only[Result.andThen_ok,gH]
  cases la:aV u key p.1 with
  |true=>simp
  |false=>simp only[Bool.false_eq_true,if_false];exact GL O R ai U o es ps (i+1) Y
theorem Iz{o:TypeDesc}{u:ag}{β:Type}{O:Value->β->Prop}{kv:Value}{key:u.el}(q:∀(e:Value) (x:u.el),ba w' M' e u x->Instr.sameNow o kv e=some (aV u key x)):
  ∀(es:List MapEntry) (ps:List (u.el×β)) (i:Nat),ep (eD w' M' u) O es ps->Instr.findNow o kv es i=some (gH (aV u) key es ps i)
 |[],[],i,_=>rfl
 |[],_::_,_,h=>h.elim
 |_::_,[],_,h=>h.elim
 |e::es,p::ps,i,⟨R,_,U⟩=>by
  rw[Instr.findNow,q e.key p.1 R,gH]
  cases W:aV u key p.1 with
  |true=>simp
  |false=>simp only[Bool.false_eq_true,if_false];exact Iz q es ps (i+1) U
theorem OT(a b:List UInt8):((⟨a.toArray⟩:ByteArray)==⟨b.toArray⟩)=eqStr a b:=by
 unfold eqStr
 rw[Bool.eq_iff_iff,MapKept.bytes_beq,beq_iff_eq]
 constructor
 ·intro e
  have:=congrArg (fun b:ByteArray=>b.data.toList) e
  simpa using this
 ·intro e;rw[e]
theorem xC{d d':Nat}{U:TypeId}{u:ag}{β:Type}{lb:Value->β->Prop}(la:cN P d U=some u)(R:ed P d' U=true)(ai:d'<=10000){kv:Value}{key:u.el}(X:ba w M kv u key)(O:World)
  {es:List MapEntry}{ps:List (u.el×β)}(h:ep (eD w' M' u) lb es ps):(Instr.findKey U kv es).run P O=.ok (gH (aV u) key es ps 0) O:=by
 have ask:=GL la R ai X O es ps 0 h
 have Y:∀Z,P.underlying U=some Z->(∀(e:Value) (x:u.el),ba w' M' e u x->Instr.sameNow Z kv e=some (aV u key x))->(Instr.findKey U kv es).run P O=.ok (gH (aV u) key es ps 0) O:=by
  intro Z o lc
  exact MapKept.run_findKey o (Iz lc es ps 0 h)
 obtain⟨i,hi,ld,q⟩:=dk la
 cases u with
 |int k=>
  obtain rfl:=da.1 X
  exact Y _ q fun e x W=>by obtain rfl:=da.1 W;simp[Instr.sameNow,aV,LI]
 |bool=>
  obtain rfl:=dF.1 X
  exact Y _ q fun e x W=>by obtain rfl:=dF.1 W;simp[Instr.sameNow,aV,Gk]
 |str=>
  obtain⟨rfl,_⟩:=eO.1 X
  refine Y _ q fun e x W=>?_
  obtain⟨rfl,_⟩:=eO.1 W
  exact congrArg some (OT key x)
 |unit=>obtain⟨ap,d2,o,_⟩:=q;rw[run_findKey_eq O (by rw[o]) kv es];exact ask
 |pair a b=>obtain⟨ap,d2,o,_⟩:=q;rw[run_findKey_eq O (by rw[o]) kv es];exact ask
 |arr n t=>obtain⟨e,d2,o,_⟩:=q;rw[run_findKey_eq O (by rw[o]) kv es];exact ask
 |ab t=>obtain⟨e,d2,o,_⟩:=q;cases d'<;>simp[ed,o]at R
 |err=>obtain⟨le,o⟩:=q;cases d'<;>simp[ed,o]at R
 |ck=>rcases q with ⟨_,_,_,o⟩|⟨_,o⟩<;>cases d'<;>simp[ed,o]at R
 |cE=>obtain⟨_,_,_,o⟩:=q;cases d'<;>simp[ed,o]at R
 |map a b=>obtain⟨k,e,d2,o,_⟩:=q;cases d'<;>simp[ed,o]at R
 |ptr t=>exact q.elim
 |fn f t=>exact q.elim
 |cB n t=>exact q.elim
 |alt n t r=>exact q.elim
theorem FY{α β:Type}{eq:α->α->Bool}{key:α}{q:Value->α->Prop}{o:Value->β->Prop}:∀(es:List MapEntry) (ps:List (α×β)) (i:Nat),ep q o es ps->
  (gH eq key es ps i=none/\bS eq ps key=none)\/∃n e y,gH eq key es ps i=some (i+n,e.val)/\es[n]? =some e/\bS eq ps key=some y/\o e.val y
 |[],[],i,_=>.inl ⟨rfl,rfl⟩
 |[],_::_,_,h=>h.elim
 |_::_,[],_,h=>h.elim
 |e::es,p::ps,i,⟨Y,O,R⟩=>by
  unfold gH bS
  cases Z:eq key p.1 with
  |true=>exact .inr ⟨0,e,p.2,by simp,rfl,by simp,O⟩
  |false=>
   simp only[Bool.false_eq_true,if_false]
   rcases FY es ps (i+1) R with h|⟨n,U,y,ae,W,X,e4⟩
   ·exact .inl h
   ·exact .inr ⟨n+1,U,y,by rw[ae];congr 2;omega,by simpa using W,X,e4⟩
theorem xW{α β:Type}{eq:α->α->Bool}{key:α}{o:Value->α->Prop}{q:Value->β->Prop}{kv vv:Value}{val:β}(O:o kv key)(R:q vv val):∀(es:List MapEntry) (ps:List (α×β)) (i:Nat),ep o q es ps->
  (gH eq key es ps i=none/\cl eq ps key val=ps++[(key,val)])\/∃n e p,gH eq key es ps i=some (i+n,e.val)/\es[n]? =some e/\o e.key p/\eq key p=true/\
   ep o q (es.modify n fun e=>{e with key:=kv,val:=vv}) (cl eq ps key val)
 |[],[],i,_=>.inl ⟨rfl,rfl⟩
 |[],_::_,_,h=>h.elim
 |_::_,[],_,h=>h.elim
 |e::es,p::ps,i,⟨U,X,W⟩=>by
  unfold gH cl
  cases Y:eq key p.1 with
  |true=>exact .inr ⟨0,e,p.1,by simp,rfl,U,Y,by simp only[if_true];exact⟨O,R,W⟩⟩
  |false=>
   simp only[Bool.false_eq_true,if_false]
   rcases xW O R es ps (i+1) W with ⟨Z,la⟩|⟨n,lb,lc,ae,ld,le,e4,lf⟩
   ·exact .inl ⟨Z,by rw[la];rfl⟩
   ·exact .inr ⟨n+1,lb,lc,by rw[ae];congr 2;omega,by simpa using ld,le,e4,⟨U,X,lf⟩⟩
theorem tC(kv vv:Value):∀(es:List MapEntry) (n:Nat),(es.modify n fun e=>{e with key:=kv,val:=vv}).map (·.born)=es.map (·.born)
 |[],n=>by cases n<;>rfl
 |e::es,0=>rfl
 |e::es,n+1=>by
  have:=tC kv vv es n
  simp only[List.modify_succ_cons,List.map_cons,this]
theorem xS{α β:Type}{o:Value->α->Prop}{q:Value->β->Prop}:∀{es O:List MapEntry} {ps R:List (α×β)},ep o q es ps->ep o q O R->ep o q (es++O) (ps++R)
 |[],_,[],_,_,h=>h
 |[],_,_::_,_,h,_=>h.elim
 |_::_,_,[],_,h,_=>h.elim
 |_::_,_,_::_,_,⟨U,W,X⟩,h=>⟨U,W,xS X h⟩
def plainCell:Value->Bool
 |.bool _=>true
 |.int _ _=>true
 |.string _=>true
 |_=>false
theorem L4{α:Type}{f:List Value->α->Prop}{p:Value->Bool}(h:∀c x,f c x->∀u∈c,p u=true):∀{xs:List α} {cs:List Value},bL f cs xs->∀u∈cs,p u=true
 |[],_,o,u,hu=>by cases o;cases hu
 |_::_,_,⟨c1,c2,e,q,O⟩,u,hu=>by
  subst e
  rcases List.mem_append.1 hu with hu|hu
  ·exact h _ _ q u hu
  ·exact L4 h O u hu
theorem G5:∀(t:ag) {cs:List Value} {x:t.el},t.flat=true->aJ w M t cs x->∀u∈cs,plainCell u=true:=by
 intro t
 induction t with
 |int k=>intro cs x _ h u hu;cases h;simp at hu;subst hu;rfl
 |bool=>intro cs x _ h u hu;cases h;simp at hu;subst hu;rfl
 |str=>intro cs x _ h u hu;cases h.1;simp at hu;subst hu;rfl
 |unit=>intro cs x _ h u hu;cases h;simp at hu
 |pair a b q O=>
  rintro cs x o ⟨c1,c2,rfl,R,U⟩ u hu
  simp only[ag.flat,Bool.and_eq_true]at o
  rcases List.mem_append.1 hu with hu|hu
  ·exact q o.1 R u hu
  ·exact O o.2 U u hu
 |arr n t W=>intro cs x o h u hu;exact L4 (fun _ _ X=>W o X) h.2 u hu
 |ab t _=>intro cs x o;simp[ag.flat]at o
 |ptr t _=>intro cs x o;simp[ag.flat]at o
 |fn f t _=>intro cs x o;simp[ag.flat]at o
 |err=>intro cs x o;simp[ag.flat]at o
 |ck=>intro cs x o;simp[ag.flat]at o
 |cE=>intro cs x o;simp[ag.flat]at o
 |cB n t _=>intro cs x o;simp[ag.flat]at o
 |alt n t r _ _=>intro cs x o;simp[ag.flat]at o
 |map k v _ _=>intro cs x o;simp[ag.flat]at o
theorem F7{u:Value}(h:plainCell u=true)(n:Nat):Instr.sameBits n u u=true:=by
 cases u<;>first|(simp[plainCell]at h;done)|simp[Instr.sameBits,MapKept.bytes_beq]
theorem Hu(n:Nat):∀(l:List Value),(∀u∈l,plainCell u=true)->((l.zip l).all fun(x,y)=>Instr.sameBits n x y)=true
 |[],_=>rfl
 |u::l,h=>by
  rw[List.zip_cons_cons,List.all_cons,Bool.and_eq_true]
  exact⟨F7 (h u List.mem_cons_self) n,Hu n l fun x o=>h x (List.mem_cons_of_mem _ o)⟩
theorem Ci{t:ag}{v:Value}{x:t.el}(o:t.flat=true)(h:ba w M v t x):Instr.sameBits 10000 v v=true:=by
 cases q:t.agg with
 |true=>
  obtain⟨cs,rfl,O⟩:=(eh q).1 h
  rw[Instr.sameBits]
  simp only[beq_self_eq_true,Bool.true_and]
  exact Hu 9999 cs (G5 t o O)
 |false=>
  exact F7 (G5 t o ((bA q).1 h) v (by simp)) _
theorem rk{mt W Z:TypeId}{d d':Nat}{u v:ag}(Y:P.underlying mt=some (.map W Z))(la:cN P d W=some u)(lb:ed P d' W=true)(ai:d'<=10000)
  {z:Value}(lc:∀w,(zeroValue Z).run P w=.ok z w)(lj:∀w M,ba w M z v (b9 v)){kv:Value}{key:u.el}(ld:ba w M kv u key){es:Array MapEntry}{ps:List (u.el×v.el)}
  (le:ep (eD w' M' u) (eD w' M' v) es.toList ps):
  ∃r,ba w' M' r v ((bS (aV u) ps key).getD (b9 v))/\∀(o:World) (x:Value),((x=.map none/\es=#[])\/∃g R,x=.map (some g)/\o.heap[g]? =some (.map es R))->
   ∀ok,(Instr.lookup mt x kv ok).run P o=.ok (if ok then .tuple #[r,.bool (bS (aV u) ps key).isSome]else r) o:=by
 have lk:=fun o=>xC la lb ai ld o le
 have lf:=fun em o=>qM (P:=P) em d W u la d' lb 10000 ai w o M kv key ld
 have run:∀(r:Value) (o:World) (x:Value),((x=.map none/\es=#[])\/∃g R,x=.map (some g)/\o.heap[g]? =some (.map es R))->
   ((gH (aV u) key es.toList ps 0=none/\bS (aV u) ps key=none/\r=z)\/∃n y,gH (aV u) key es.toList ps 0=some (n,r)/\bS (aV u) ps key=some y)->
   ∀ok,(Instr.lookup mt x kv ok).run P o=.ok (if ok then .tuple #[r,.bool (bS (aV u) ps key).isSome]else r) o:=by
  intro r o x U lg ok
  have O:=lk o
  rcases U with ⟨rfl,rfl⟩|⟨g,R,rfl,ll⟩
  ·have X:=lf true o
   rcases lg with ⟨ae,q,rfl⟩|⟨n,y,ae,q⟩
   ·rw[ae]at O
    unfold Instr.lookup
    simp only[Sem.run_bind,run_underlying Y,Result.andThen_ok,Sem.run_pure,show(#[]:Array MapEntry).isEmpty=true from rfl,X,O,lc,q]
    cases ok<;>simp
   ·simp[gH]at ae
  ·have X:=lf es.isEmpty o
   have lh:(getObj g).run P o=.ok (.map es R) o:=by simp[getObj,Sem.run,ll]
   rcases lg with ⟨ae,q,rfl⟩|⟨n,y,ae,q⟩
   ·rw[ae]at O
    unfold Instr.lookup
    simp only[Sem.run_bind,run_underlying Y,Result.andThen_ok,lh,Sem.run_pure,X,O,lc,q]
    cases ok<;>simp
   ·rw[ae]at O
    unfold Instr.lookup
    simp only[Sem.run_bind,run_underlying Y,Result.andThen_ok,lh,Sem.run_pure,X,O,q]
    cases ok<;>simp
 rcases FY (eq:=aV u) (key:=key) es.toList ps 0 le with ⟨ae,q⟩|⟨n,e,y,ae,q,li,e4⟩
 ·exact⟨z,by rw[q];exact lj _ _,fun o x U=>run z o x U (.inl ⟨ae,q,rfl⟩)⟩
 ·exact⟨e.val,by rw[li];exact e4,fun o x U=>run e.val o x U (.inr ⟨_,y,ae,li⟩)⟩
theorem Jm{mt q ln:TypeId}{d d':Nat}{u v:ag}(la:P.underlying mt=some (.map q ln))(lb:cN P d q=some u)(lc:ed P d' q=true)(ai:d'<=10000)(ld:u.flat=true)
  {kv vv:Value}{key:u.el}{val:v.el}(o:ba w M kv u key)(le:ba w M vv v val){g:Nat}{es:Array MapEntry}{clock:Nat}{ps:List (u.el×v.el)}
  (lf:w.heap[g]? =some (.map es clock))(U:∀e∈es.toList,e.born<clock)(lg:(es.toList.map (·.born)).Nodup)(W:ep (eD w M u) (eD w M v) es.toList ps):
  ∃(O:Array MapEntry) (lh:Nat),(Instr.mapUpdate mt (.map (some g)) kv vv).run P w=.ok () {w with heap:=w.heap.setIfInBounds g (.map O lh)}/\
   (∀e∈O.toList,e.born<lh)/\(O.toList.map (·.born)).Nodup/\ep (eD w M u) (eD w M v) O.toList (cl (aV u) ps key val):=by
 have li:=qM (P:=P) false d q u lb d' lc 10000 ai w w M kv key o
 have R:=xC lb lc ai o w W
 have lj:(getObj g).run P w=.ok (.map es clock) w:=by simp[getObj,Sem.run,lf]
 have lk:∀aa,(setObj g aa).run P w=.ok () {w with heap:=w.heap.setIfInBounds g aa}:=fun aa=>by simp[setObj,Sem.run,lf]
 rcases xW (kv:=kv) (vv:=vv) (val:=val) (eq:=aV u) (key:=key) o le es.toList ps 0 W with ⟨ae,X⟩|⟨n,e,lo,ae,X,lp,e4,lq⟩
 ·rw[ae]at R
  refine⟨es.push {key:=kv,val:=vv,born:=clock},clock+1,?_,?_,?_,?_⟩
  ·unfold Instr.mapUpdate
   simp only[Sem.run_bind,run_underlying la,Result.andThen_ok,lj,li,R,lk]
  ·intro e he
   rw[Array.toList_push]at he
   rcases List.mem_append.1 he with he|he
   ·exact Nat.lt_succ_of_lt (U e he)
   ·simp at he;subst he;exact Nat.lt_succ_self _
  ·rw[Array.toList_push,List.map_append,List.nodup_append]
   refine⟨lg,by simp,?_⟩
   intro a lr b ls ly
   simp at ls
   obtain⟨e,he,rfl⟩:=List.mem_map.1 lr
   have:=U e he
   omega
  ·rw[Array.toList_push,X]
   exact xS W ⟨o,le,trivial⟩
 ·rw[ae,Nat.zero_add]at R
  have lt:key=lo:=BF u e4
  subst lt
  have lu:e.key=kv:=oh ld lp o
  have lv:((es[n]?).map (·.key)).getD kv=kv:=by
   have:es[n]? =some e:=by rw[<-Array.getElem?_toList];exact X
   rw[this];simp[lu]
  have lw:∀Y,(Instr.keyThatStays kv kv).run P Y=.ok kv Y:=fun Y=>by
   unfold Instr.keyThatStays
   rw[if_pos (Ci ld o)]
   rfl
  have Z:(es.modify n fun e=>{e with key:=kv,val:=vv}).toList=es.toList.modify n fun e=>{e with key:=kv,val:=vv}:=by simp
  refine⟨es.modify n fun e=>{e with key:=kv,val:=vv},clock,?_,?_,?_,?_⟩
  ·unfold Instr.mapUpdate
   simp only[Sem.run_bind,run_underlying la,Result.andThen_ok,lj,li,R,lv,lw,lk]
  ·intro x ll
   rw[Z]at ll
   have lm:x.born∈(es.toList.modify n fun e=>{e with key:=kv,val:=vv}).map (·.born):=List.mem_map.2 ⟨x,ll,rfl⟩
   rw[tC]at lm
   obtain⟨y,lx,e⟩:=List.mem_map.1 lm
   rw[<-e];exact U y lx
  ·rw[Z,tC];exact lg
  ·rw[Z];exact lq
end Go.Ev
namespace Go.Ev
open Go Go.RowKit
variable [b8]
structure ew where
 aU:ao
 orc:List al
 ob:List Prop
structure LU where
 k:ag
 v:ag
 ps:List (k.el×v.el)
def mapOf(st:af):ao->Option LU
 |.val (.map k v) x=>some ⟨k,v,(show Option (List (k.el×v.el))from x).getD []⟩
 |.iter b=>match look st.ad b with
  |some (.mp k v ps)=>some ⟨k,v,ps⟩
  |_=>none
 |_=>none
def yt(P:Program)(st:af)(mt:TypeId)(x k:Operand)(ok:Bool)(orc:List al):Option ew:=
 match(aS st x).bind (mapOf st),P.underlying mt,dC st k with
 |some cO,some (.map q O),some key=>match ty P q,zeroV P O,key.as cO.k with
  |some R,some U,some o=>match R.beq cO.k&&U.beq cO.v&&ed P 16 q,ok with
   |true,true=>some ⟨.dI [⟨cO.v,(bS (aV cO.k) cO.ps o).getD (b9 cO.v)⟩,⟨.bool,(bS (aV cO.k) cO.ps o).isSome⟩],orc,[]⟩
   |true,false=>some ⟨.val cO.v ((bS (aV cO.k) cO.ps o).getD (b9 cO.v)),orc,[]⟩
   |false,_=>none
  |_,_,_=>none
 |_,_,_=>none
def lenOf(P:Program)(st:af)(s:ao)(t:TypeId):Option Int:=
 match s,ty P t with
 |.val .str s,some .str=>some (s.length:Int)
 |.val (.ab _) xs,some (.ab _)=>some (xs.length:Int)
 |.row r,some (.ab _)=>match look st.rw r with
  |some c=>some (c.xs.length:Int)
  |none=>none
 |s,some (.map _ _)=>match mapOf st s with
  |some cO=>some (cO.ps.length:Int)
  |none=>none
 |_,_=>none
def xj(P:Program)(st:af)(t:TypeId)(u:ag):List (Nat×Operand)->u.el->Option u.el
 |[],x=>some x
 |(i,aa)::r,x=>
  match fieldInfo P t i,dC st aa with
  |some (off,o),some v=>match v.t.beq o,cm u x off v with
   |true,some y=>xj P st t u r y
   |_,_=>none
  |_,_=>none
def eA(s:Option ao):Option Int:=
 match s with
 |some (.val (.int _) n)=>some n
 |_=>none
def se(P:Program)(t:TypeId):Option (Nat×ag):=
 match P.underlying t with
 |some (.array n e)=>match ty P e with
  |some u=>some (n,u)
  |none=>none
 |_=>none
def wU(P:Program)(st:af)(src o:TypeId)(x:Operand)(orc:List al):Option ew:=
 match(aS st x).map (mZ st),P.underlying src,P.underlying o with
 |some (.val (.ab (.int .u8)) xs),some (.slice e),some .string=>match P.underlying e with
  |some (.int .u8)=>some ⟨.val .str (fl xs),orc,[]⟩
  |_=>none
 |some (.val (.ab (.int .i32)) xs),some (.slice e),some .string=>match P.underlying e with
  |some (.int .i32)=>some ⟨.val .str (cz xs),orc,[(cz xs).length<=bC]⟩
  |_=>none
 |_,_,_=>none
def vZ(a:Option (Option (Nat×Int)))(u:Nat)(m:Int):Bool:=
 match a with
 |some (some (t,n))=>Nat.beq t u&&n==m
 |_=>false
def rt:Operand->Bool
 |.const .nilIface=>true
 |_=>false
def pd(P:Program)(o:BinOp)(t:TypeId)(y:Operand)(a b:al):Option (Bool×List Prop):=
 match a,b with
 |⟨.err,a⟩,⟨.err,b⟩=>match P.underlying t,rt y with
  |some (.interface _),true=>neg o (Option.isNone (α:=Option (Nat×Int)) a) []
  |some (.interface _),false=>match(show Option (Option (Nat×Int))from b)with
   |some (some (u,m))=>match P.info? u,P.underlying u with
    |some i,some (.int _)=>bif i.comparable then neg o (vZ a u m) [(show Option (Option (Nat×Int))from a)≠some none]else none
    |_,_=>none
   |_=>none
  |_,_=>none
 |⟨.cB _ _,_⟩,⟨.err,_⟩=>match P.underlying t,rt y with
  |some (.interface _),true=>neg o false []
  |_,_=>none
 |_,_=>none
where
 neg (o:BinOp) (b:Bool) (ob:List Prop):Option (Bool×List Prop):=
  match o with
  |.eql=>some (b,ob)
  |.neq=>some (!b,ob)
  |_=>none
def xB(t:TypeId)(v:Option al):Option (Option (Nat×Int)):=
 match v with
 |some ⟨.int k,n⟩=>bif gN k .i64 then some (some (t,n))else some none
 |_=>some none
def mkIf(t:TypeId)(v:Option al):ao:=
 match v with
 |some ⟨u,y⟩=>bif u.agg then .val (.cB t u) y else .val .err (xB t v)
 |none=>.val .err (xB t v)
def Ly(P:Program)(st:af)(x:Operand)(a:TypeId)(ok:Bool)(orc:List al):Option ew:=
 match dC st x,P.underlying a with
 |some ⟨.cB n u,y⟩,some d=>match d with
  |.interface _=>none
  |_=>match Nat.beq n a,ok with
   |true,true=>some ⟨.dI [⟨u,y⟩,⟨.bool,true⟩],orc,[]⟩
   |true,false=>some ⟨.val u y,orc,[]⟩
   |false,true=>match zeroV P a with
    |some z=>some ⟨.dI [⟨z,b9 z⟩,⟨.bool,false⟩],orc,[]⟩
    |none=>none
   |false,false=>none
 |_,_=>none
def pi(a b:Int):Int:=if b>a then b else a
def iT(a b:Int):Int:=if b<a then b else a
def z8(st:af)(mj:Bool)(args:List Operand):Option al:=
 match args with
 |[x,y]=>match dC st x,dC st y with
  |some ⟨.int k,a⟩,some ⟨.int k',b⟩=>bif gN k k' then some ⟨.int k,bif mj then pi a b else iT a b⟩else none
  |_,_=>none
 |_=>none
def dA(P:Program)(st:af)(aa:Op)(orc:List al):Option ew:=
 match aa with
 |.move x=>match aS st x with
  |some s=>some ⟨s,orc,[]⟩
  |none=>none
 |.assign x=>match aS st x with
  |some s=>some ⟨s,orc,[]⟩
  |none=>none
 |.pick c a b=>match dC st c with
  |some ⟨.bool,true⟩=>match aS st a with
   |some s=>some ⟨s,orc,[]⟩
   |none=>none
  |some ⟨.bool,false⟩=>match aS st b with
   |some s=>some ⟨s,orc,[]⟩
   |none=>none
  |_=>none
 |.binOp R t x y _=>match dC st x,dC st y with
  |some a,some b=>match bin P R t a b with
   |some (r,ob)=>some ⟨.val r.t r.x,orc,ob⟩
   |none=>match pd P R t y a b with
    |some (r,ob)=>some ⟨.val .bool r,orc,ob⟩
    |none=>none
  |_,_=>none
 |.unOp R _ x=>match dC st x with
  |some a=>match un R a with
   |some r=>some ⟨.val r.t r.x,orc,[]⟩
   |none=>none
  |none=>none
 |.convert src W x=>match dC st x with
  |some a=>match conv P src W a with
   |some r=>some ⟨.val r.t r.x,orc,[]⟩
   |none=>wU P st src W x orc
  |none=>wU P st src W x orc
 |.index t x i=>match dC st x,eA (aS st i),orc,P.underlying t with
  |some ⟨.str,s⟩,some n,⟨.int .u8,b⟩::orc',some .string=>some ⟨.val (.int .u8) b,orc',[ft s n=some b]⟩
  |some ⟨.arr k u,xs⟩,some n,v::orc',some (.array k' e)=>match Nat.beq k k',ty P e,v.as u with
   |true,some o,some y=>bif u.beq o then some ⟨.val u y,orc',[aB (show List u.el from xs) n=some y]⟩else none
   |_,_,_=>none
  |_,_,_,_=>none
 |.field t x f=>match dC st x,fieldInfo P t f with
  |some a,some (off,u)=>match a.t.agg,cM a.t a.x off u with
   |true,some y=>some ⟨.val u y,orc,[]⟩
   |_,_=>none
  |_,_=>none
 |.build t parts=>match ty P t,P.info? t with
  |some u,some i=>match i.zero,u.pW with
   |some z,true=>match fD u z.cells.toList,xj P st t u parts.toList (b9 u)with
    |some [],some y=>some ⟨.val u y,orc,[]⟩
    |_,_=>none
   |_,_=>none
  |_,_=>none
 |.extract x i=>match aS st x with
  |some (.dI l)=>match l[i]? with
   |some v=>some ⟨.val v.t v.x,orc,[]⟩
   |none=>none
  |some (.gu l)=>match l[i]? with
   |some (.v v)=>some ⟨.val v.t v.x,orc,[]⟩
   |some (.r r)=>some ⟨match look st.ad r with
    |some (.cells _ _)=>.ptr r 0
    |some (.aY _ _ _)=>.dW r []
    |some _=>.iter r
    |none=>.row r,orc,[]⟩
   |some .a=>some ⟨.any,orc,[]⟩
   |none=>none
  |_=>none
 |.nilCheck x=>match aS st x with
  |some (.ptr b off)=>some ⟨.ptr b off,orc,[]⟩
  |some (.vptr t y)=>some ⟨.vptr t y,orc,[]⟩
  |some (.dU r i off O)=>some ⟨.dU r i off O,orc,[]⟩
  |some (.dW b p)=>some ⟨.dW b p,orc,[]⟩
  |_=>none
 |.fieldAddr t x f=>match aS st x,fieldInfo P t f with
  |some (.ptr b off),some (q,_)=>some ⟨.ptr b (off+q),orc,[]⟩
  |some (.vptr u y),some (q,U)=>match cM u y q U with
   |some z=>some ⟨.vptr U z,orc,[]⟩
   |none=>none
  |some (.dU r i off O),some (q,_)=>some ⟨.dU r i (off+q) O,orc,[]⟩
  |some (.dW b p),some (q,U)=>some ⟨.dW b (p++[.f q U]),orc,[]⟩
  |_,_=>none
 |.indexAddr t x i=>match aS st x,eA (aS st i),ty P t,orc with
  |some (.val (.ab u) xs),some n,some (.ab o),v::orc'=>match u.beq o,v.as u with
   |true,some y=>some ⟨.vptr u y,orc',[aB xs n=some y]⟩
   |_,_=>none
  |some (.row r),some n,some (.ab o),v::orc'=>match look st.rw r with
   |some c=>match c.t.beq o,v.as c.t with
    |true,some y=>some ⟨.dU r n 0 c.t.cells,orc',[aB c.xs n=some y]⟩
    |_,_=>none
   |none=>none
  |some (.vptr (.arr k u) xs),some n,some (.arr k' o),v::orc'=>match Nat.beq k k'&&u.beq o,v.as u with
   |true,some y=>some ⟨.vptr u y,orc',[aB (show List u.el from xs) n=some y]⟩
   |_,_=>none
  |some (.dW b p),some n,some (.arr len u),orc=>some ⟨.dW b (p++[.x n u.cells]),orc,[0<=n/\n<(len:Int)]⟩
  |some (.ptr b off),some n,some (.arr len u),orc=>bif decide (0<=n)&&decide (n<len)then some ⟨.ptr b (off+n.toNat*u.cells),orc,[]⟩else none
  |some (.dU r i0 X O),some n,some (.arr len u),orc=>match look st.rw r with
   |some c=>match c.t.beq u&&(i0==0&&(Nat.beq X 0&&Nat.beq O c.t.cells)),orc with
    |true,v::orc'=>match v.as c.t with
     |some y=>some ⟨.dU r n 0 c.t.cells,orc',[aB c.xs n=some y,c.xs.length=len]⟩
     |none=>none
    |true,[]=>none
    |false,orc=>bif decide (0<=n)&&decide (n<len)then some ⟨.dU r i0 (X+n.toNat*u.cells) O,orc,[]⟩else none
   |none=>none
  |_,_,_,_=>none
 |.load t x=>match aS st x,ty P t with
  |some (.vptr u y),some o=>match u.beq o,Nat.beq u.cells 0 with
   |true,false=>some ⟨.val u y,orc,[]⟩
   |_,_=>none
  |_,_=>none
 |.slice t x Y hi none=>match aS st x,orc with
  |some (.val .str s),⟨.str,r⟩::orc'=>match P.underlying t,r9 st Y,sm st hi s.length with
   |some .string,some l,some h=>some ⟨.val .str r,orc',[dz s l h=some r]⟩
   |_,_,_=>none
  |some (.val (.ab u) xs),v::orc'=>match ty P t,r9 st Y,sm st hi xs.length,v.as (.ab u)with
   |some (.ab o),some l,some h,some r=>bif u.beq o then some ⟨.val (.ab u) r,orc',[dz xs l h=some r]⟩else none
   |_,_,_,_=>none
  |_,_=>none
 |.call c=>match c with
  |{callee:=.builtin .len,args:=args,argTypes:=Z}=>match args.toList,Z.toList with
   |[x],[t]=>match aS st x with
    |some s=>match lenOf P st s t with
     |some n=>some ⟨.val (.int .i64) n,orc,[]⟩
     |none=>none
    |none=>none
   |_,_=>none
  |{callee:=.builtin .max,args:=args,.. }=>match z8 st true args.toList with
   |some r=>some ⟨.val r.t r.x,orc,[]⟩
   |none=>none
  |{callee:=.builtin .min,args:=args,.. }=>match z8 st false args.toList with
   |some r=>some ⟨.val r.t r.x,orc,[]⟩
   |none=>none
  |_=>none
 |.makeInterface t x=>bif P.concrete t then some ⟨mkIf t (dC st x),orc,[]⟩else none
 |.typeAssert x _ a ok=>Ly P st x a ok orc
 |.lookup mt x k ok=>yt P st mt x k ok orc
 |_=>none
where
 r9 (st:af):Option Operand->Option Int
  |none=>some 0
  |some x=>eA (aS st x)
 sm (st:af):Option Operand->Nat->Option Int
  |none,n=>some (n:Int)
  |some x,_=>eA (aS st x)
variable {cx:bI} {m:Nat->Value} {st:af} {T:Array Value} {w w':World}
variable [ah cx]
theorem fx(h:an cx m st T w){x:Operand}{n:Int}(o:eA (aS st x)=some n):∃k,Act.eval ⟨T,ah.D cx⟩ x=.int k n:=by
 unfold eA at o
 split at o
 ·rename_i k O q
  cases o
  exact⟨k,da.1 (bf h q)⟩
 ·cases o
theorem C3(h:an cx m st T w){v:Value}{s:ao}(o:aT w (av cx m st.ids) m v s){cO:LU}(q:mapOf st s=some cO):
  (v=.map none/\cO.ps=[])\/∃(g:Nat) (es:Array MapEntry) (O:Nat),v=.map (some g)/\w.heap[g]? =some (.map es O)/\ep (eD w (av cx m st.ids) cO.k) (eD w (av cx m st.ids) cO.v) es.toList cO.ps:=by
 unfold mapOf at q
 split at q
 ·rename_i k v' x
  cases q
  have o:=(bA (t:=.map k v') rfl).1 o
  match x,o with
  |none,o=>
   have o:[v]=[Value.map none]:=o
   simp only[List.cons.injEq,and_true]at o
   exact .inl ⟨o,rfl⟩
  |some ps,⟨b,es,O,e,R,_,_,_,U⟩=>
   simp only[List.cons.injEq,and_true]at e
   exact .inr ⟨b,es,O,e,R,U⟩
 ·rename_i b
  split at q
  ·rename_i k v' ps W
   cases q
   obtain⟨g,ae,_,es,O,R,_,_,U⟩:=h.box (bc W)
   have X:v=m b:=o
   exact .inr ⟨g,es,O,by rw[X,ae];rfl,R,U⟩
  ·cases q
 ·cases q
theorem Vv(h:an cx m st T w){v:Value}{s:ao}(R:aT w (av cx m st.ids) m v s){n:Int}{t:TypeId}(o:lenOf cx.P st s t=some n){ty':TypeId}:
  nE cx.P w (Builtin.len_ #[t] ty' #[v]) (.int .i64 n):=by
 intro w' lb
 unfold lenOf at o
 split at o
 ·rename_i l O
  cases o
  obtain⟨i,_,_,q⟩:=dk O
  obtain⟨rfl,_⟩:=eO.1 R
  simp only at q
  have X:=iL l
  simp only[bytesOf]at X
  simp[Builtin.len_,run_underlying q,goInt,X]
 ·rename_i e xs lc O
  cases o
  obtain⟨i,_,_,ld,_,q,_⟩:=dk O
  obtain⟨a,cap,cells,U,_⟩:=(bA (t:=.ab e) rfl).1 R
  simp only[List.cons.injEq,and_true]at U
  subst U
  simp[Builtin.len_,run_underlying q,goInt]
 ·rename_i r lc O
  split at o
  ·rename_i c U
   cases o
   obtain⟨i,_,_,ld,_,q,_⟩:=dk O
   obtain⟨cells,le,_⟩:=h.rows r c (bc U)
   have Y:v=m r:=R
   rcases le.2 with ⟨W,lf⟩|⟨g,cap,cur,W,_⟩
   ·rw[Y,W,lf]
    simp[Builtin.len_,run_underlying q,goInt]
   ·rw[Y,W]
    simp[Builtin.len_,run_underlying q,goInt]
  ·cases o
 ·rename_i ll lm O
  split at o
  ·rename_i cO lg
   cases o
   obtain⟨i,_,_,k,e,_,q,_,_⟩:=dk O
   rcases C3 h R lg with ⟨rfl,lh⟩|⟨g,es,li,rfl,Z,lj⟩
   ·rw[lh]
    simp[Builtin.len_,run_underlying q,goInt]
   ·have lk:w'.heap[g]? =some (.map es li):=by rw[lb.block g (gx Z)];exact Z
    have la:=uc lj
    rw[Array.length_toList]at la
    simp[Builtin.len_,run_underlying q,goInt,getObj,Sem.run,lk,la]
  ·cases o
 ·cases o
def dG(cx:bI)[ah cx](T:Array Value)(w:World)(aa:Oper)(v:Value):Prop:=∀w',Ext w w'->(execOp (Act.eval ⟨T,ah.D cx⟩) aa).run cx.P w'=.ok (.value v) w'
theorem dG.of{aa:Oper}{s:Sem Value}{v:Value}(o:execOp (Act.eval ⟨T,ah.D cx⟩) aa=(do pure (Next.value (<-s))))(q:nE cx.P w s v):dG cx T w aa v:=by
 intro w' O
 rw[o,Sem.run_bind,q w' O]
 rfl
theorem TO{P:Program}{t:TypeId}{s:List UInt8}{n b:Int}{k:IntKind}(o:P.underlying t=some .string)(h:ft s n=some b):
  gJ P (Instr.index t (.string (bytesOf s)) (.int k n)) (.int .u8 b):=by
 intro w'
 unfold ft at h
 split at h
 ·rename_i c q
  cases h
  obtain⟨O,R,U⟩:=jq q
  rw[run_index_string _ t _ k n o]
  have W:n<(bytesOf s).size:=by rw[iL];exact R
  rw[dif_pos ⟨O,W⟩]
  have:(bytesOf s)[n.toNat]'(by omega)=c:=by
   have X:(bytesOf s).data[n.toNat]? =some c:=by simpa[bytesOf]using U
   have:=(Array.getElem?_eq_some_iff.1 X).2
   exact this
  rw[this]
 ·cases h
theorem XS{P:Program}{t:TypeId}{s r:List UInt8}{o hi:Option Value}{l h:Int}(O:P.underlying t=some .string)
  (R:(o=none/\l=0)\/∃k,o=some (.int k l))(U:(hi=none/\h=s.length)\/∃k,hi=some (.int k h))(W:dz s l h=some r):
  gJ P (Instr.sliceAt t (.string (bytesOf s)) o hi none) (.string (bytesOf r)):=by
 intro w'
 obtain⟨ld,le,lf,rfl⟩:=yG W
 have lg:((bytesOf s).size:Int)=s.length:=by rw[iL]
 have X:∀a b:Nat,(bytesOf s).extract a b=bytesOf ((s.take b).drop a):=by
  intro a b
  apply ByteArray.ext
  apply Array.ext'
  have:=Lib.extract_data (bytesOf s) a b
  rw[this]
  simp only[bytesOf]
  rw[List.drop_take]
 have Y:Instr.sliceAt t (.string (bytesOf s)) o hi none=(do match<-underlying t with
  |.array n Z=>
   let a<-Instr.sureAddr (.string (bytesOf s))
   let(l,h,m)<-Instr.sliceBounds false n n o hi none
   let size<-sizeOf Z
   pure (.slice (some (if m=l then a else a.add (l*size))) (h-l) (m-l))
  |_=>Instr.slice t (.string (bytesOf s)) o hi none):=rfl
 rw[Y,Sem.run_bind,run_underlying O]
 simp only[Result.andThen_ok]
 have q:∀(x:Value) (k:IntKind) (n:Int) (y:Nat) (c:BoundsCode) (w:World),x=.int k n->0<=n->n<=y->(Instr.sliceBound x y c).run P w=.ok n.toNat w:=by
  rintro x k n y c w rfl la lb
  simp[Instr.sliceBound,asIntOf,la,lb]
 have lc:(Instr.sliceBounds false (bytesOf s).size (bytesOf s).size o hi none).run P w'=.ok (l.toNat,h.toNat,(bytesOf s).size) w':=by
  rcases R with ⟨rfl,rfl⟩|⟨aC,rfl⟩<;>rcases U with ⟨rfl,rfl⟩|⟨aA,rfl⟩
  ·simp[Instr.sliceBounds,iL]
  ·simp only[Instr.sliceBounds,Sem.run_bind,Sem.run_pure,Result.andThen_ok]
   rw[q _ aA h _ _ _ rfl (by omega) (by omega)]
   simp
  ·simp only[Instr.sliceBounds,Sem.run_bind,Sem.run_pure,Result.andThen_ok]
   rw[q _ aC l _ _ _ rfl (by omega) (by omega)]
   simp[iL]
  ·simp only[Instr.sliceBounds,Sem.run_bind,Sem.run_pure,Result.andThen_ok]
   rw[q _ aA h _ _ _ rfl (by omega) (by omega)]
   simp only[Result.andThen_ok,Sem.run_bind]
   rw[q _ aC l _ _ _ rfl (by omega) (by omega)]
   simp
 simp only[Instr.slice,Sem.run_bind,run_underlying O,Result.andThen_ok,Option.isSome_none,Bool.false_eq_true,if_false,Sem.run_pure,lc,X]
theorem WS{P:Program}{M:Nat->Prop}{t e:TypeId}{u:ag}{xs r:List u.el}{d:Nat}{v:Value}{o hi:Option Value}{l h:Int}(Y:P.underlying t=some (.slice e))(lf:cN P d e=some u)
  (lg:aJ w M (.ab u) [v] xs)(lh:(o=none/\l=0)\/∃k,o=some (.int k l))(li:(hi=none/\h=xs.length)\/∃k,hi=some (.int k h))(lj:dz xs l h=some r):
  ∃v',gJ P (Instr.sliceAt t v o hi none) v'/\aJ w M (.ab u) [v'] r:=by
 obtain⟨Z,lC,lD,rfl⟩:=yG lj
 obtain⟨a,cap,cells,la,lE,lF,lb,lk,ll⟩:=lg
 simp only[List.cons.injEq,and_true]at la
 subst la
 have lm:Instr.sliceAt t (.slice a xs.length cap) o hi none=(do match<-underlying t with
  |.array n ln=>
   let lc<-Instr.sureAddr (.slice a xs.length cap)
   let(l,h,m)<-Instr.sliceBounds false n n o hi none
   let size<-sizeOf ln
   pure (.slice (some (if m=l then lc else lc.add (l*size))) (h-l) (m-l))
  |_=>Instr.slice t (.slice a xs.length cap) o hi none):=rfl
 have R:∀(x:Value) (k:IntKind) (n:Int) (y:Nat) (c:BoundsCode) (w:World),x=.int k n->0<=n->n<=y->(Instr.sliceBound x y c).run P w=.ok n.toNat w:=by
  rintro x k n y c w rfl lo lp
  simp[Instr.sliceBound,asIntOf,lo,lp]
 have lq:∀w',(Instr.sliceBounds true xs.length cap o hi none).run P w'=.ok (l.toNat,h.toNat,cap) w':=by
  intro w'
  rcases lh with ⟨rfl,rfl⟩|⟨aC,rfl⟩<;>rcases li with ⟨rfl,rfl⟩|⟨aA,rfl⟩
  ·simp[Instr.sliceBounds]
  ·simp only[Instr.sliceBounds,Sem.run_bind,Sem.run_pure,Result.andThen_ok]
   rw[R _ aA h _ _ _ rfl (by omega) (by omega)]
   simp
  ·simp only[Instr.sliceBounds,Sem.run_bind,Sem.run_pure,Result.andThen_ok]
   rw[R _ aC l _ _ _ rfl (by omega) (by omega)]
   simp
  ·simp only[Instr.sliceBounds,Sem.run_bind,Sem.run_pure,Result.andThen_ok]
   rw[R _ aA h _ _ _ rfl (by omega) (by omega)]
   simp only[Result.andThen_ok,Sem.run_bind]
   rw[R _ aC l _ _ _ rfl (by omega) (by omega)]
   simp
 have X:((xs.take h.toNat).drop l.toNat).length=h.toNat-l.toNat:=by
  rw[List.length_drop,List.length_take];omega
 refine⟨.slice (if cap=l.toNat then a else a.map (·.add (l.toNat*u.cells))) (h.toNat-l.toNat) (cap-l.toNat),fun w'=>?_,?_⟩
 ·rw[lm,Sem.run_bind,run_underlying Y]
  simp only[Result.andThen_ok,Instr.slice,Sem.run_bind,run_underlying Y,lq,fa lf,Sem.run_pure]
 ·have split:∀(q:List u.el) (cs:List Value) (n:Nat),bL (aJ w M u) cs q->n<=q.length->∃c1 c2,cs=c1++c2/\c1.length=n*u.cells/\bL (aJ w M u) c1 (q.take n)/\bL (aJ w M u) c2 (q.drop n):=by
   intro q
   induction q with
   |nil=>
    intro cs n U O
    have Z:n=0:=Nat.le_zero.1 O
    rw[Z]
    exact⟨[],cs,rfl,by simp,rfl,U⟩
   |cons y q lr=>
    intro cs n U O
    cases n with
    |zero=>exact⟨[],cs,rfl,by simp,rfl,U⟩
    |succ n=>
     obtain⟨d1,d2,ae,ld,ls⟩:=U
     obtain⟨f1,f2,g1,g2,g3,g4⟩:=lr d2 n ls (by simpa using O)
     exact⟨d1++f1,f2,by rw[ae,g1];simp,by rw[List.length_append,cf u ld,g2,Nat.succ_mul,Nat.add_comm],⟨d1,f1,rfl,ld,g3⟩,g4⟩
  obtain⟨c1,c2,lt,lG,lu,_⟩:=split xs cells h.toNat lk (by omega)
  obtain⟨d1,d2,lv,lH,_,le⟩:=split (xs.take h.toNat) c1 l.toNat lu (by rw[List.length_take];omega)
  refine⟨(if cap=l.toNat then a else a.map (·.add (l.toNat*u.cells))),cap-l.toNat,d2,by rw[X],by rw[X];omega,by omega,?_,le,fun j v W=>?_⟩
  ·intro O
   split at O
   ·have:=lb O;omega
   ·cases a with
    |none=>have:=lb rfl;omega
    |some a=>simp at O
  ·have lI:=(List.getElem?_eq_some_iff.1 W).1
   have lw:cells[l.toNat*u.cells+j]? =some v:=by
    rw[lt,lv,List.append_assoc,List.getElem?_append_right (by omega),List.getElem?_append_left (by omega),<-W]
    congr 1
    omega
   obtain⟨b,lx,ly,lz⟩:=ll _ _ lw
   subst lx
   split
   ·rename_i lJ
    have lA:d2=[]:=by
     have:=jw (fun cs x=>cf u) _ _ le
     rw[X]at this
     have lB:h.toNat-l.toNat=0:=by omega
     rw[lB,Nat.zero_mul]at this
     exact List.eq_nil_of_length_eq_zero this
    rw[lA]at W
    simp at W
   ·exact⟨_,rfl,by rw[add_add];exact ly,by rw[jQ];exact lz⟩
theorem Dw{P:Program}:∀(ap:List Field),(∀f∈ap,∃i,P.info? f.type=some i)->
  ap.mapM (fun f=>(P.info? f.type).map fun i=>(f.offset,i.size))=some (ap.map fun f=>(f.offset,P.cellsOf f.type))
 |[],_=>rfl
 |f::ap,h=>by
  obtain⟨i,hi⟩:=h f List.mem_cons_self
  rw[List.mapM_cons,Dw ap (fun g o=>h g (List.mem_cons_of_mem _ o))]
  simp[hi,Program.cellsOf]
theorem DT{P:Program}{d:Nat}:∀{ap:List Field} {off:Nat} {u:ag},fieldsOf (cN P d) off ap=some u->∀f∈ap,∃i,P.info? f.type=some i
 |[],_,_,_,f,o=>by simp at o
 |fd::ap,off,u,h,f,o=>by
  unfold fieldsOf at h
  cases q:Nat.beq fd.offset off with
  |false=>rw[q]at h;cases h
  |true=>
   rw[q,cond_true]at h
   split at h
   ·rename_i a O
    split at h
    ·rename_i b R
     rcases List.mem_cons.1 o with rfl|o
     ·obtain⟨i,hi,_⟩:=dk O;exact⟨i,hi⟩
     ·exact DT R f o
    ·cases h
   ·cases h
theorem NH(o:List Value):∀(k:Nat) (pre post old:List Value),old.length=o.length->
  ((o.zipIdx k).foldl (fun cs (x:Value×Nat)=>Array.setIfInBounds cs (pre.length+x.2-k) x.1) (pre++old++post).toArray)=(pre++o++post).toArray:=by
 induction o with
 |nil=>intro k pre post old h;have:old=[]:=List.eq_nil_of_length_eq_zero h;subst this;rfl
 |cons v o q=>
  intro k pre post old h
  match old,h with
  |aa::old,h=>
   have h':old.length=o.length:=by simpa using h
   have eC:Array.setIfInBounds (pre++(aa::old)++post).toArray (pre.length+k-k) v=((pre++[v])++old++post).toArray:=by
    rw[show pre.length+k-k=pre.length by omega]
    simp
   rw[List.zipIdx_cons,List.foldl_cons,eC]
   have:=q (k+1) (pre++[v]) post old h'
   rw[List.length_append,List.length_singleton]at this
   have ae:(fun(cs:Array Value) (x:Value×Nat)=>Array.setIfInBounds cs (pre.length+1+x.2-(k+1)) x.1)=(fun cs x=>Array.setIfInBounds cs (pre.length+x.2-k) x.1):=by
    funext cs x
    congr 1
    omega
   rw[ae]at this
   rw[this]
   simp
theorem xI(o pre post old:List Value)(h:old.length=o.length):
  (o.toArray.zipIdx.foldl (fun cs (x:Value×Nat)=>Array.setIfInBounds cs (pre.length+x.2) x.1) (pre++old++post).toArray)=(pre++o++post).toArray:=by
 have:=NH o 0 pre post old h
 simpa using this
theorem ML{P:Program}{t:TypeId}{u:ag}{ap:Array Field}(lb:P.underlying t=some (.struct ap))(h:an cx m st T w)(lc:P=cx.P)
  {place:Nat->Option (Nat×Nat)}(U:∀i off o,fieldInfo P t i=some (off,o)->place i=some (off,o.cells)):
  ∀(parts:List (Nat×Operand)) (x y:u.el) (cs:List Value),aJ w (av cx m st.ids) u cs x->xj P st t u parts x=some y->
   ∃O,Instr.fill place cs.toArray (parts.map fun p=>(p.1,Act.eval ⟨T,ah.D cx⟩ p.2))=some O.toArray/\aJ w (av cx m st.ids) u O y
 |[],x,y,cs,R,q=>by cases q;exact⟨cs,rfl,R⟩
 |(i,aa)::r,x,y,cs,R,q=>by
  unfold xj at q
  split at q
  ·rename_i off o v ld le
   split at q
   ·rename_i lf lg lh
    have li:=di h le
    have W:=j7 li
    obtain⟨c1,c2,c3,rfl,X,Y,lj⟩:=qx W u R lh
    have lk:v.t.cells=o.cells:=by rw[ag.eq_of_beq lg]
    have Z:(Act.eval ⟨T,ah.D cx⟩ aa).cells.toList.length=o.cells:=by rw[cf v.t W,lk]
    have ll:(Act.eval ⟨T,ah.D cx⟩ aa).cells.size=o.cells:=by rw[<-Z];simp
    obtain⟨O,lm,ln⟩:=ML lb h lc U r lf y _ lj q
    refine⟨O,?_,ln⟩
    rw[List.map_cons,Instr.fill,U i off o ld]
    have lo:¬(((Act.eval ⟨T,ah.D cx⟩ aa).cells.size≠o.cells||decide (off+(Act.eval ⟨T,ah.D cx⟩ aa).cells.size>(c1++c2++c3).toArray.size))=true):=by
     simp only[ll,List.size_toArray,List.length_append,X,Y,Z]
     simp
    simp only[]
    rw[if_neg lo]
    have la:=xI (Act.eval ⟨T,ah.D cx⟩ aa).cells.toList c1 c3 c2 Y
    rw[X,Array.toArray_toList]at la
    rw[la]
    exact lm
   ·cases q
  ·cases q
end Go.Ev
namespace Go.Ev
open Go Go.RowKit
variable [b8]
variable {cx:bI} {m:Nat->Value} {st:af} {T:Array Value} {w w':World}
variable [ah cx]
theorem JN(h:an cx m st T w){o:Option Operand}{l:Int}(q:dA.r9 st o=some l):
  (o.map (Act.eval ⟨T,ah.D cx⟩)=none/\l=0)\/∃k,o.map (Act.eval ⟨T,ah.D cx⟩)=some (.int k l):=by
 cases o with
 |none=>cases q;exact .inl ⟨rfl,rfl⟩
 |some x=>obtain⟨k,O⟩:=fx h q;exact .inr ⟨k,by simp[O]⟩
theorem Lm(h:an cx m st T w){hi:Option Operand}{n:Nat}{l:Int}(o:dA.sm st hi n=some l):
  (hi.map (Act.eval ⟨T,ah.D cx⟩)=none/\l=n)\/∃k,hi.map (Act.eval ⟨T,ah.D cx⟩)=some (.int k l):=by
 cases hi with
 |none=>cases o;exact .inl ⟨rfl,rfl⟩
 |some x=>obtain⟨k,q⟩:=fx h o;exact .inr ⟨k,by simp[q]⟩
theorem wN{M:Nat->Prop}{v:Value}{t:ag}{x:t.el}(h:aT w M m v (.vptr t x)):∃a,v=.pointer (some a)/\Holds w M a t x:=by
 obtain⟨a,cells,e,o,q⟩:=h
 exact⟨a,e,cells,o,q⟩
theorem B4{M:Nat->Prop}{a:Addr}{t:ag}{x:t.el}(h:Holds w M a t x):aT w M m (.pointer (some a)) (.vptr t x):=by
 obtain⟨cells,o,q⟩:=h
 exact⟨a,cells,rfl,o,q⟩
theorem PA{α:Type}{s r:List α}{o hi:Int}(h:dz s o hi=some r):r.length<=s.length:=by
 obtain⟨_,_,_,rfl⟩:=yG h
 rw[List.length_drop,List.length_take]
 omega
theorem HS{cx:bI}{m:Nat->Value}{st:af}{T:Array Value}{w:World}(h:an cx m st T w){aa:Oper}{src Y:TypeId}{x:Operand}(Z:aa.op=.convert src Y x){orc:List al}{R:ew}(o:wU cx.P st src Y x orc=some R)(la:bP R.ob):
  ∃v,dG cx T w aa v/\aT w (av cx m st.ids) m v R.aU:=by
 have key:∀s,(aS st x).map (mZ st)=some s->aT w (fun _=>False) m (Act.eval ⟨T,ah.D cx⟩ x) s:=by
  intro s q
  obtain⟨lb,O,U⟩:=Option.map_eq_some_iff.1 q
  rw[<-U]
  exact Js h (bf h O)
 unfold wU at o
 split at o
 ·rename_i xs e W q ai
  split at o
  ·rename_i X
   cases o
   obtain⟨O,U⟩:=T9 q X ai (key _ W)
   exact⟨_,dG.of (by simp only[execOp,Z]) O,eO.2 ⟨rfl,U⟩⟩
  ·cases o
 ·rename_i xs e W q ai
  split at o
  ·rename_i X
   cases o
   have O:=WY q X ai (key _ W)
   exact⟨_,dG.of (by simp only[execOp,Z]) O,eO.2 ⟨rfl,Nat.le_trans la.1 yo⟩⟩
  ·cases o
 ·cases o
theorem Jj{y:Operand}(h:rt y=true):y=.const .nilIface:=by
 cases y with
 |const c=>cases c<;>first|rfl|(simp[rt]at h)
 |_=>simp[rt]at h
theorem G6{P:Program}{t:TypeId}{ms}(o:P.underlying t=some (.interface ms))(w:World):(Op.equal t .nilIface .nilIface).run P w=.ok true w:=by
 unfold Op.equal Op.maxDepth
 rw[Op.equalIn]
 simp only[Sem.run_bind,run_underlying o,Result.andThen_ok]
 rfl
theorem qn{P:Program}{t u:TypeId}{v:Value}{ms}(o:P.underlying t=some (.interface ms))(w:World):(Op.equal t (.iface u v) .nilIface).run P w=.ok false w:=by
 unfold Op.equal Op.maxDepth
 rw[Op.equalIn]
 simp only[Sem.run_bind,run_underlying o,Result.andThen_ok]
 rfl
theorem LR{P:Program}{t u:TypeId}{v:Value}{ms}(o:P.underlying t=some (.interface ms))(w:World):(Op.equal t .nilIface (.iface u v)).run P w=.ok false w:=by
 unfold Op.equal Op.maxDepth
 rw[Op.equalIn]
 simp only[Sem.run_bind,run_underlying o,Result.andThen_ok]
 rfl
theorem rs{P:Program}{t:TypeId}{o q:Value}{b:Bool}(O:binOp .eql t o q=(do pure (.bool (<-Op.equal t o q))))(h:∀w,(Op.equal t o q).run P w=.ok b w)(w:World):(binOp .eql t o q).run P w=.ok (.bool b) w:=by
 rw[O,Sem.run_bind,h w];rfl
theorem qA{P:Program}{t:TypeId}{o q:Value}{b:Bool}(O:binOp .neq t o q=(do pure (.bool (!(<-Op.equal t o q)))))(h:∀w,(Op.equal t o q).run P w=.ok b w)(w:World):(binOp .neq t o q).run P w=.ok (.bool (!b)) w:=by
 rw[O,Sem.run_bind,h w];rfl
theorem Jo{P:Program}{M:Nat->Prop}{op:BinOp}{t:TypeId}{x y:al}{O q:Value}{ox oy:Operand}{r:Bool}{ob:List Prop}(R:ba w M O x.t x.x)(U:ba w M q y.t y.x)
  (lc:oy=.const .nilIface->q=.nilIface)(h:pd P op t oy x y=some (r,ob))(le:bP ob):
  ∃v,gJ P (do eqGuard op t ox oy O q;binOp op t O q) v/\∀w M,ba w M v .bool r:=by
 have fin:∀(b:Bool) (X:List Prop),pd.neg op b X=some (r,ob)->(∀w,(eqGuard .eql t ox oy O q).run P w=.ok () w)->(∀w,(eqGuard .neq t ox oy O q).run P w=.ok () w)->
   (∀w,(binOp .eql t O q).run P w=.ok (.bool b) w)->(∀w,(binOp .neq t O q).run P w=.ok (.bool (!b)) w)->∃v,gJ P (do eqGuard op t ox oy O q;binOp op t O q) v/\∀w M,ba w M v .bool r:=by
  intro b X h g1 g2 lf lg
  unfold pd.neg at h
  split at h
  ·cases h;exact⟨_,fun w=>by rw[Sem.run_bind,g1 w];exact lf w,fun _ _=>dF.2 rfl⟩
  ·cases h;exact⟨_,fun w=>by rw[Sem.run_bind,g2 w];exact lg w,fun _ _=>dF.2 rfl⟩
  ·cases h
 have X:∀(b:Bool) (aa:List Prop),pd.neg op b aa=some (r,ob)->ob=aa:=by
  intro b aa h
  unfold pd.neg at h
  split at h<;>cases h<;>rfl
 unfold pd at h
 split at h
 ·rename_i a b
  have R:=(bA (t:=.err) rfl).1 R
  have U:=(bA (t:=.err) rfl).1 U
  split at h
  ·rename_i ld o Y
   have ae:=Jj Y
   have W:=lc ae
   subst ae
   subst W
   rcases R with ⟨rfl,e⟩|⟨rfl,u,v,e⟩|⟨u,n,rfl,e⟩<;>simp only[List.cons.injEq,and_true]at e<;>subst e
   ·exact fin _ _ h (fun w=>by cases ox<;>rfl) (fun w=>by cases ox<;>rfl) (rs rfl (G6 o)) (qA rfl (G6 o))
   ·exact fin _ _ h (fun w=>rfl) (fun w=>rfl) (rs rfl (qn o)) (qA rfl (qn o))
   ·exact fin _ _ h (fun w=>rfl) (fun w=>rfl) (rs rfl (qn o)) (qA rfl (qn o))
  ·rename_i ld o Y
   split at h
   ·rename_i u m la
    have la:b=some (some (u,m)):=la
    subst la
    have U:q=.iface u (.int .i64 m):=by
     rcases U with ⟨e,_⟩|⟨e,_⟩|⟨Z,lk,e,W⟩
     ·cases e
     ·cases e
     ·cases e;simpa using W
    subst U
    split at h
    ·rename_i i k hi lh
     cases lb:i.comparable with
     |false=>rw[lb]at h;cases h
     |true=>
      rw[lb,cond_true]at h
      have:=X _ _ h
      subst this
      have li:=le.1
      have lj:∀w,(typeInfo u).run P w=.ok i w:=fun w=>run_typeInfo w hi
      rcases R with ⟨rfl,e⟩|⟨rfl,_⟩|⟨Z,n,rfl,e⟩
      ·simp only[List.cons.injEq,and_true]at e;subst e
       exact fin _ _ h (fun w=>rfl) (fun w=>rfl) (rs rfl (LR o)) (qA rfl (LR o))
      ·exact absurd rfl li
      ·simp only[List.cons.injEq,and_true]at e;subst e
       have key:∀w,(Op.equal t (.iface Z (.int .i64 n)) (.iface u (.int .i64 m))).run P w=.ok (vZ (some (some (Z,n))) u m) w:=by
        intro w
        unfold Op.equal Op.maxDepth
        rw[Op.equalIn]
        simp only[Sem.run_bind,run_underlying o,Result.andThen_ok]
        by_cases aM:Z=u
        ·subst aM
         simp only[ne_eq,not_true_eq_false,if_false,Sem.run_bind,lj,Result.andThen_ok,lb,Bool.not_true,Bool.false_eq_true]
         rw[run_equalIn_int (h:=lh)]
         simp[vZ]
        ·simp[aM,vZ,Sem.run_pure]
       exact fin _ _ h (fun w=>rfl) (fun w=>rfl) (rs rfl key) (qA rfl key)
    ·cases h
   ·cases h
  ·cases h
 ·rename_i n u a b
  have R:=(bA (t:=.cB n u) rfl).1 R
  split at h
  ·rename_i ld o Y
   have ae:=Jj Y
   have W:=lc ae
   subst ae
   subst W
   obtain⟨v,e,_⟩:=R
   simp only[List.cons.injEq,and_true]at e
   subst e
   exact fin _ _ h (fun w=>rfl) (fun w=>rfl) (rs rfl (qn o)) (qA rfl (qn o))
  ·cases h
 ·cases h
theorem JT(h:an cx m st T w){mj:Bool}{args:Array Operand}{r:al}(o:z8 st mj args.toList=some r):
  ∃x y k a b,args=#[x,y]/\Act.eval ⟨T,ah.D cx⟩ x=.int k a/\Act.eval ⟨T,ah.D cx⟩ y=.int k b/\r=⟨.int k,bif mj then pi a b else iT a b⟩:=by
 unfold z8 at o
 split at o
 ·rename_i x y O
  split at o
  ·rename_i k a k' b R U
   cases q:gN k k' with
   |false=>rw[q]at o;cases o
   |true=>
    rw[q,cond_true]at o
    cases o
    obtain rfl:=nq q
    exact⟨x,y,k,a,b,by rw[<-Array.toArray_toList (xs:=args),O],da.1 (di h R),da.1 (di h U),rfl⟩
  ·cases o
 ·cases o
set_option maxHeartbeats 1000000 in
theorem EG(h:an cx m st T w){aa:Oper}{orc:List al}{lJ:ew}(o:dA cx.P st aa.op orc=some lJ)(lc:bP lJ.ob):
  ∃v,dG cx T w aa v/\aT w (av cx m st.ids) m v lJ.aU:=by
 cases U:aa.op<;>rw[U]at o
 case move x=>
  simp only[dA]at o
  split at o
  ·rename_i s ld
   cases o
   exact⟨_,fun w' _=>by simp[execOp,U],bf h ld⟩
  ·cases o
 case assign x=>
  simp only[dA]at o
  split at o
  ·rename_i s ld
   cases o
   exact⟨_,fun w' _=>by simp[execOp,U],bf h ld⟩
  ·cases o
 case pick c a b=>
  simp only[dA]at o
  split at o
  ·rename_i le
   have lK:=dF.1 (di h le)
   split at o
   ·rename_i s ld
    cases o
    refine⟨_,fun w' _=>?_,bf h ld⟩
    simp[execOp,U,lK,asBool]
   ·cases o
  ·rename_i le
   have lK:=dF.1 (di h le)
   split at o
   ·rename_i s ld
    cases o
    refine⟨_,fun w' _=>?_,bf h ld⟩
    simp[execOp,U,lK,asBool]
   ·cases o
  ·cases o
 case binOp aj t x y a0=>
  simp only[dA]at o
  split at o
  ·rename_i a b lp W
   split at o
   ·rename_i r ob X
    cases o
    obtain⟨v,O,q⟩:=Cc (ox:=x) (oy:=y) (di h lp) (di h W) X lc
    exact⟨v,dG.of (by simp only[execOp,U]) O.steady,q _ _⟩
   ·split at o
    ·rename_i r ob X
     cases o
     obtain⟨v,O,q⟩:=Jo (ox:=x) (oy:=y) (di h lp) (di h W) (fun ll=>by subst ll;rfl) X lc
     exact⟨v,dG.of (by simp only[execOp,U]) O.steady,q _ _⟩
    ·cases o
  ·cases o
 case unOp aj t x=>
  simp only[dA]at o
  split at o
  ·rename_i a lp
   split at o
   ·rename_i r X
    cases o
    obtain⟨v,O,q⟩:=Ov (P:=cx.P) (di h lp) X
    exact⟨v,dG.of (by simp only[execOp,U]) O.steady,q _ _⟩
   ·cases o
  ·cases o
 case convert src a1 x=>
  simp only[dA]at o
  split at o
  ·rename_i a lp
   split at o
   ·rename_i r X
    cases o
    obtain⟨v,O,q⟩:=Xd (di h lp) X
    exact⟨v,dG.of (by simp only[execOp,U]) O.steady,q _ _⟩
   ·exact HS h U o lc
  ·exact HS h U o lc
 case index t x i=>
  simp only[dA]at o
  split at o
  ·rename_i s n b orc' R hi la
   cases o
   obtain⟨k,lh⟩:=fx h hi
   obtain⟨Y,_⟩:=eO.1 (di h R)
   refine⟨.int .u8 b,dG.of (s:=Instr.index t (.string (bytesOf s)) (.int k n)) (by simp only[execOp,U,Y,lh];rfl) (TO la lc.1).steady,da.2 rfl⟩
  ·rename_i k u xs n v orc' k' e R hi la
   split at o
   ·rename_i li y W lq ll
    cases lr:u.beq li<;>rw[lr]at o<;>cases o
    obtain rfl:=Nat.eq_of_beq_eq_true W
    obtain rfl:=ag.eq_of_beq lr
    obtain⟨lu,aM⟩:=fx h hi
    obtain⟨ln,O,q⟩:=jq lc.1
    obtain⟨cs,Y,lL,lM⟩:=(eh (t:=.arr k u) rfl).1 (di h R)
    obtain⟨c1,c2,c3,rfl,lf,X⟩:=mF lM q
    obtain⟨r,lv,lN⟩:=AZ lq (pre:=c1) (post:=c3) X
    refine⟨r,dG.of (s:=Instr.index t (.agg (c1++c2++c3).toArray) (.int lu n)) (by simp only[execOp,U,Y,aM]) (fun w' _=>?_),lN⟩
    have lw:n<(k:Int):=by rw[<-lL];exact O
    simp only[Instr.index,asIntOf,Sem.run_bind,Sem.run_pure,Result.andThen_ok,run_underlying la]
    rw[if_pos ⟨ln,lw⟩]
    simp only[Sem.run_bind,fa lq,Result.andThen_ok]
    have:=lv w'
    rw[lf]at this
    exact this
   ·cases o
  ·cases o
 case field t x f=>
  simp only[dA]at o
  split at o
  ·rename_i a off u lp lg
   split at o
   ·rename_i y lD lm
    cases o
    obtain⟨r,O,q⟩:=S8 lg lD (di h lp) lm
    exact⟨r,dG.of (by simp only[execOp,U]) O.steady,q⟩
   ·cases o
  ·cases o
 case build t parts=>
  simp only[dA]at o
  split at o
  ·rename_i u i Z hi
   split at o
   ·rename_i z lj l3
    have lD:=ag.PV l3
    split at o
    ·rename_i y ak am
     cases o
     obtain⟨l4,l5,aq⟩:=LF (w:=w) (M:=av cx m st.ids) u ak
     rw[List.append_nil]at l5
     obtain⟨a2,a3,a4,lg⟩:=dk Z
     have ar:∃ap d',cx.P.underlying t=some (.struct ap)/\fieldsOf (cN cx.P d') 0 ap.toList=some u:=by
      cases u<;>first|exact lg|(simp[ag.pW]at l3)
     obtain⟨ap,d',lO,au⟩:=ar
     obtain⟨l6,aw,lN⟩:=ML lO h rfl (place:=fun k=>(ap.map fun f=>(f.offset,cx.P.cellsOf f.type))[k]?) (fun k off lx ax=>by
      obtain⟨ay,a5,O,q,lE,lF,az⟩:=wI ax
      have:ay=ap:=by rw[lO]at O;cases O;rfl
      subst this
      obtain⟨i3,aA,aB,_⟩:=dk lE
      rw[Array.getElem?_map,q]
      simp[lF,Program.cellsOf,aA,aB]) parts.toList (b9 u) y l4 aq am
     refine⟨.agg l6.toArray,dG.of (by simp only[execOp,U]) (s:=Instr.build t (parts.map fun p=>(p.1,Act.eval ⟨T,ah.D cx⟩ p.2))) ?_,(eh lD).2 ⟨l6,rfl,lN⟩⟩
     intro w' _
     have aC:z.cells=l4.toArray:=by rw[<-l5]
     refine run_build w' t _ _ ?_
     unfold Program.built
     simp only[hi,lO,lj,Dw ap.toList (fun f lg=>DT au f lg)]
     rw[aC,Array.toList_map,<-aw]
     congr 1
     funext k
     simp
    ·cases o
   ·cases o
  ·cases o
 case extract x i=>
  simp only[dA]at o
  split at o
  ·rename_i l R
   split at o
   ·rename_i v Y
    cases o
    obtain⟨vs,ly,X⟩:=bf h R
    have key:∀(vs:List Value) (l:List al) (i:Nat) (u:al),dQ w (av cx m st.ids) vs l->l[i]? =some u->∃v,vs[i]? =some v/\ba w (av cx m st.ids) v u.t u.x:=by
     intro vs
     induction vs with
     |nil=>intro l i u X Z;cases l with
      |nil=>simp at Z
      |cons _ _=>exact X.elim
     |cons v vs lz=>intro l i u X Z;cases l with
      |nil=>exact X.elim
      |cons li l=>cases i with
       |zero=>simp at Z;subst Z;exact⟨v,rfl,X.1⟩
       |succ i=>exact lz l i u X.2 (by simpa using Z)
    obtain⟨v',O,q⟩:=key vs l i v X Y
    refine⟨v',fun w' _=>?_,q⟩
    simp only[execOp,U,ly,Instr.extract]
    rw[List.getElem?_toArray,O]
    rfl
   ·cases o
  ·rename_i l R
   have key:∀(vs:List Value) (l:List bV) (i:Nat) (u:bV),de w (av cx m st.ids) m vs l->l[i]? =some u->∃v,vs[i]? =some v/\(match u with|.v u=>ba w (av cx m st.ids) v u.t u.x|.r r=>v=m r|.a=>True):=by
    intro vs
    induction vs with
    |nil=>intro l i u X Z;cases l with
     |nil=>simp at Z
     |cons _ _=>exact X.elim
    |cons v vs lz=>intro l i u X Z;cases l with
     |nil=>exact X.elim
     |cons li l=>cases i with
      |zero=>simp at Z;subst Z;cases li with
       |v _=>exact⟨v,rfl,X.1⟩
       |r _=>exact⟨v,rfl,X.1⟩
       |a=>exact⟨v,rfl,trivial⟩
      |succ i=>cases li with
       |v _=>exact lz l i u X.2 (by simpa using Z)
       |r _=>exact lz l i u X.2 (by simpa using Z)
       |a=>exact lz l i u X (by simpa using Z)
   obtain⟨vs,ly,X⟩:=bf h R
   split at o
   ·rename_i v Y
    cases o
    obtain⟨v',O,q⟩:=key vs l i _ X Y
    refine⟨v',fun w' _=>?_,q⟩
    simp only[execOp,U,ly,Instr.extract]
    rw[List.getElem?_toArray,O]
    rfl
   ·rename_i r Y
    cases o
    obtain⟨v',O,q⟩:=key vs l i _ X Y
    refine⟨v',fun w' _=>?_,?_⟩
    ·simp only[execOp,U,ly,Instr.extract]
     rw[List.getElem?_toArray,O]
     rfl
    ·show aT _ _ _ _ _
     split
     ·rename_i l e lf
      obtain⟨g,lm,_⟩:=h.box (bc lf)
      have q:v'=m r:=q
      exact⟨g,lm,q.trans lm⟩
     ·rename_i t x e lf
      obtain⟨g,lm,_⟩:=h.box (bc lf)
      have q:v'=m r:=q
      exact⟨g,lm,q.trans lm⟩
     ·exact q
     ·exact q
   ·rename_i Y
    cases o
    obtain⟨v',O,_⟩:=key vs l i _ X Y
    refine⟨v',fun w' _=>?_,trivial⟩
    simp only[execOp,U,ly,Instr.extract]
    rw[List.getElem?_toArray,O]
    rfl
   ·cases o
  ·cases o
 case nilCheck x=>
  simp only[dA]at o
  split at o
  ·rename_i b off R
   cases o
   have Y:=bf h R
   obtain⟨g,O,q⟩:=Y
   exact⟨_,fun w' _=>by simp only[execOp,U,q];rfl,g,O,q⟩
  ·rename_i t y R
   cases o
   have Y:=bf h R
   obtain⟨a,O,q⟩:=wN Y
   exact⟨_,fun w' _=>by simp only[execOp,U,O];rfl,O▸Y⟩
  ·rename_i r i off lG R
   cases o
   have Y:=bf h R
   obtain⟨g,n,cap,O,q⟩:=Y
   exact⟨_,fun w' _=>by simp only[execOp,U,q];rfl,g,n,cap,O,q⟩
  ·rename_i b p R
   cases o
   have Y:=bf h R
   obtain⟨g,O,q⟩:=Y
   exact⟨_,fun w' _=>by simp only[execOp,U,q];rfl,g,O,q⟩
  ·cases o
 case fieldAddr t x f=>
  simp only[dA]at o
  split at o
  ·rename_i b off ls lx R lg
   cases o
   obtain⟨g,O,q⟩:=bf h R
   refine⟨.pointer (some ⟨g,off+ls,none⟩),dG.of (by simp only[execOp,U]) (s:=Instr.fieldAt t (Act.eval ⟨T,ah.D cx⟩ x) f) ?_,g,O,rfl⟩
   intro w' _
   rw[q,nn lg,gU]
  ·rename_i u y ls lx R lg
   split at o
   ·rename_i z lj
    cases o
    obtain⟨a,O,q⟩:=wN (bf h R)
    refine⟨.pointer (some (a.add ls)),dG.of (by simp only[execOp,U]) (s:=Instr.fieldAt t (Act.eval ⟨T,ah.D cx⟩ x) f) ?_,B4 (q.part lj)⟩
    intro w' _
    rw[O,nn lg]
   ·cases o
  ·rename_i r i off lG ls lx R lg
   cases o
   obtain⟨g,n,cap,O,q⟩:=bf h R
   refine⟨.pointer (some ⟨g,i.toNat*lG+(off+ls),none⟩),dG.of (by simp only[execOp,U]) (s:=Instr.fieldAt t (Act.eval ⟨T,ah.D cx⟩ x) f) ?_,g,n,cap,O,rfl⟩
   intro w' _
   rw[q,nn lg,gU,Nat.add_assoc]
  ·rename_i b p ls lx R lg
   cases o
   obtain⟨g,O,q⟩:=bf h R
   refine⟨.pointer (some ⟨g,gc (p++[.f ls lx]),none⟩),dG.of (by simp only[execOp,U]) (s:=Instr.fieldAt t (Act.eval ⟨T,ah.D cx⟩ x) f) ?_,g,O,rfl⟩
   intro w' _
   rw[q,nn lg,gU,z6]
   rfl
  ·cases o
 case indexAddr t x i=>
  simp only[dA]at o
  split at o
  ·rename_i u xs n li v orc' R hi la
   split at o
   ·rename_i y W ll
    cases o
    obtain⟨k,lh⟩:=fx h hi
    obtain⟨ln,O,q⟩:=jq lc.1
    obtain⟨a,cap,cells,le,aD,_,aE,aF,lP⟩:=(bA (t:=.ab u) rfl).1 (bf h R)
    simp only[List.cons.injEq,and_true]at le
    obtain⟨c1,c2,c3,rfl,lf,X⟩:=mF aF q
    obtain⟨_,_,_,lQ,d',lq,lA⟩:=dk la
    obtain rfl:=ag.eq_of_beq W
    have lR:∃b,a=some b:=by
     cases a with
     |some b=>exact⟨b,rfl⟩
     |none=>
      have lE:cap=0:=aE rfl
      have lF:(List.length xs:Int)<=cap:=by exact_mod_cast aD
      have az:n<((List.length xs:Nat):Int):=O
      omega
    obtain⟨b,rfl⟩:=lR
    refine⟨.pointer (some (b.add (n.toNat*u.cells))),dG.of (by simp only[execOp,U]) (s:=Instr.indexAt t (Act.eval ⟨T,ah.D cx⟩ x) (Act.eval ⟨T,ah.D cx⟩ i)) ?_,?_⟩
    ·intro w' _
     have lw:n<((List.length xs:Nat):Int):=O
     simp only[le,lh,Instr.indexAt,asIntOf,Sem.run_bind,Sem.run_pure,Result.andThen_ok,run_underlying lq]
     rw[if_pos ⟨ln,lw⟩]
     simp only[Sem.run_bind,fa lA,Result.andThen_ok,Sem.run_pure]
    ·refine B4 ⟨c2,X,fun j v lB=>?_⟩
     have aG:=(List.getElem?_eq_some_iff.1 lB).1
     have lS:(c1++c2++c3)[n.toNat*u.cells+j]? =some v:=by
      rw[List.append_assoc,List.getElem?_append_right (by omega),List.getElem?_append_left (by omega),<-lB]
      congr 1
      omega
     obtain⟨a6,lT,lr,lt⟩:=lP _ _ lS
     cases lT
     exact⟨by rw[add_add];exact lr,by rw[jQ];exact lt⟩
   ·cases o
  ·rename_i r n li v orc' R hi la
   split at o
   ·rename_i c le
    split at o
    ·rename_i y W ll
     cases o
     obtain⟨k,lh⟩:=fx h hi
     obtain⟨ln,O,q⟩:=jq lc.1
     obtain⟨_,_,_,lQ,d',lq,lA⟩:=dk la
     have aH:cN cx.P d' lQ=some c.t:=by rw[ag.eq_of_beq W];exact lA
     have Y:Act.eval ⟨T,ah.D cx⟩ x=m r:=bf h R
     obtain⟨cells,aI,_⟩:=h.rows r c (bc le)
     rcases aI.2 with ⟨lb,lj⟩|⟨g,cap,cur,lb,_⟩
     ·omega
     ·refine⟨.pointer (some ⟨g,n.toNat*c.t.cells+0,none⟩),dG.of (by simp only[execOp,U]) (s:=Instr.indexAt t (Act.eval ⟨T,ah.D cx⟩ x) (Act.eval ⟨T,ah.D cx⟩ i)) ?_,g,_,cap,lb,rfl⟩
      intro w' _
      simp only[Y,lb,lh,Instr.indexAt,asIntOf,Sem.run_bind,Sem.run_pure,Result.andThen_ok,run_underlying lq]
      rw[if_pos ⟨ln,O⟩]
      simp only[Sem.run_bind,fa aH,Result.andThen_ok,Sem.run_pure,gU,Nat.zero_add,Nat.add_zero]
    ·cases o
   ·cases o
  ·rename_i k u xs n k' li v orc' R hi la
   split at o
   ·rename_i y W ll
    cases o
    simp only[Bool.and_eq_true]at W
    obtain rfl:=Nat.eq_of_beq_eq_true W.1
    obtain rfl:=ag.eq_of_beq W.2
    obtain⟨lu,aM⟩:=fx h hi
    obtain⟨ln,O,q⟩:=jq lc.1
    obtain⟨_,_,_,e,d',Z,lo⟩:=dk la
    obtain⟨a,Y,cs,⟨lL,lM⟩,lP⟩:=wN (bf h R)
    obtain⟨c1,c2,c3,rfl,lf,X⟩:=mF lM q
    refine⟨.pointer (some (a.add (n.toNat*u.cells))),dG.of (by simp only[execOp,U]) (s:=Instr.indexAt t (Act.eval ⟨T,ah.D cx⟩ x) (Act.eval ⟨T,ah.D cx⟩ i)) (fun w' _=>?_),?_⟩
    ·rw[Y,aM]
     exact uR Z lo ln (by rw[<-lL];exact O) w'
    ·refine B4 ⟨c2,X,fun j v lB=>?_⟩
     have aG:=(List.getElem?_eq_some_iff.1 lB).1
     have lS:(c1++c2++c3)[n.toNat*u.cells+j]? =some v:=by
      rw[List.append_assoc,List.getElem?_append_right (by omega),List.getElem?_append_left (by omega),<-lB]
      congr 1
      omega
     obtain⟨lr,lt⟩:=lP _ _ lS
     exact⟨by rw[add_add];exact lr,by rw[jQ];exact lt⟩
   ·cases o
  ·rename_i b p n len u R hi la
   cases o
   obtain⟨lu,aM⟩:=fx h hi
   obtain⟨_,_,_,e,d',Z,lo⟩:=dk la
   obtain⟨g,lU,lV⟩:=bf h R
   refine⟨.pointer (some ⟨g,gc (p++[.x n u.cells]),none⟩),dG.of (by simp only[execOp,U]) (s:=Instr.indexAt t (Act.eval ⟨T,ah.D cx⟩ x) (Act.eval ⟨T,ah.D cx⟩ i)) (fun w' _=>?_),g,lU,rfl⟩
   rw[lV,aM,uR Z lo lc.1.1 lc.1.2 w',gU,z6]
   rfl
  ·rename_i b off n len u R hi la
   cases W:(decide (0<=n)&&decide (n<(len:Int)))<;>rw[W]at o<;>cases o
   simp only[Bool.and_eq_true,decide_eq_true_eq]at W
   obtain⟨lu,aM⟩:=fx h hi
   obtain⟨_,_,_,e,d',Z,lo⟩:=dk la
   obtain⟨g,lU,lV⟩:=bf h R
   refine⟨.pointer (some ⟨g,off+n.toNat*u.cells,none⟩),dG.of (by simp only[execOp,U]) (s:=Instr.indexAt t (Act.eval ⟨T,ah.D cx⟩ x) (Act.eval ⟨T,ah.D cx⟩ i)) (fun w' _=>?_),g,lU,rfl⟩
   rw[lV,aM,uR Z lo W.1 W.2 w',gU]
  ·rename_i r i0 aJ lG n len u R hi la
   split at o
   ·rename_i c le
    split at o
    ·rename_i v aK W
     split at o
     ·rename_i y ll
      cases o
      simp only[Bool.and_eq_true,beq_iff_eq]at W
      obtain⟨lT,lr,lt,l7⟩:=W
      have lt:=Nat.eq_of_beq_eq_true lt
      have l7:=Nat.eq_of_beq_eq_true l7
      obtain⟨k,lh⟩:=fx h hi
      obtain⟨ln,O,q⟩:=jq lc.1
      have lW:c.xs.length=len:=lc.2.1
      obtain⟨_,_,_,e,d',Z,lo⟩:=dk la
      obtain rfl:=ag.eq_of_beq lT
      obtain⟨g,aL,cap,lb,Y⟩:=bf h R
      have Y:Act.eval ⟨T,ah.D cx⟩ x=.pointer (some ⟨g,0,none⟩):=by rw[Y,lr,lt];simp
      refine⟨.pointer (some ⟨g,n.toNat*c.t.cells+0,none⟩),dG.of (by simp only[execOp,U]) (s:=Instr.indexAt t (Act.eval ⟨T,ah.D cx⟩ x) (Act.eval ⟨T,ah.D cx⟩ i)) (fun w' _=>?_),g,_,cap,lb,rfl⟩
      have lw:n<(len:Int):=by rw[<-lW];exact O
      rw[Y,lh,uR Z lo ln lw w',gU,Nat.zero_add,Nat.add_zero]
     ·cases o
    ·cases o
    ·rename_i aK a7
     cases W:(decide (0<=n)&&decide (n<(len:Int)))<;>rw[W]at o<;>cases o
     simp only[Bool.and_eq_true,decide_eq_true_eq]at W
     obtain⟨lu,aM⟩:=fx h hi
     obtain⟨_,_,_,e,d',Z,lo⟩:=dk la
     obtain⟨g,aL,cap,lb,Y⟩:=bf h R
     refine⟨.pointer (some ⟨g,i0.toNat*lG+(aJ+n.toNat*u.cells),none⟩),dG.of (by simp only[execOp,U]) (s:=Instr.indexAt t (Act.eval ⟨T,ah.D cx⟩ x) (Act.eval ⟨T,ah.D cx⟩ i)) (fun w' _=>?_),g,_,cap,lb,rfl⟩
     rw[Y,aM,uR Z lo W.1 W.2 w',gU,Nat.add_assoc]
   ·cases o
  ·cases o
 case load t x=>
  simp only[dA]at o
  split at o
  ·rename_i u y li R la
   split at o
   ·rename_i W lj
    cases o
    obtain⟨a,O,q⟩:=wN (bf h R)
    have lv:0<u.cells:=Nat.pos_of_ne_zero (beq_false lj)
    obtain rfl:=ag.eq_of_beq W
    obtain⟨v,lE,lF⟩:=OQ la q lv
    refine⟨v,dG.of (by simp only[execOp,U]) (s:=Instr.loadAt t (Act.eval ⟨T,ah.D cx⟩ x)) ?_,lF⟩
    intro w' lk
    simp only[Instr.loadAt,O,Instr.sureAddr,Sem.run_bind,Sem.run_pure,Result.andThen_ok]
    exact lE w' lk
   ·cases o
  ·cases o
 case slice t x a8 hi mj=>
  cases mj with
  |some _=>simp only[dA]at o;cases o
  |none=>
   simp only[dA]at o
   split at o
   ·rename_i s r orc' R
    split at o
    ·rename_i l lX la lf lY
     cases o
     obtain⟨Y,lW⟩:=eO.1 (bf h R)
     have ld:=XS la (JN h lf) (Lm h lY) lc.1
     refine⟨.string (bytesOf r),dG.of (by simp only[execOp,U,Y];rfl) ld.steady,eO.2 ⟨rfl,?_⟩⟩
     exact Nat.le_trans (PA lc.1) lW
    ·cases o
   ·rename_i u xs v orc' R
    split at o
    ·rename_i li l lX r la lf lY X
     cases W:u.beq li with
     |false=>rw[W]at o;cases o
     |true=>
      rw[W]at o
      cases o
      obtain rfl:=ag.eq_of_beq W
      obtain⟨_,_,_,lQ,d',lq,lA⟩:=dk la
      obtain⟨v',O,q⟩:=WS lq lA ((bA (t:=.ab u) rfl).1 (bf h R)) (JN h lf) (Lm h lY) lc.1
      exact⟨v',dG.of (by simp only[execOp,U];rfl) O.steady,(bA (t:=.ab u) rfl).2 q⟩
    ·cases o
   ·cases o
 case call c=>
  simp only[dA]at o
  split at o
  ·rename_i c' args lH
   split at o
   ·rename_i x t R la
    split at o
    ·rename_i s ld
     split at o
     ·rename_i n lb
      cases o
      have lf:=Vv h (bf h ld) lb (ty':=aa.type)
      have lC:args=#[x]:=by rw[<-Array.toArray_toList (xs:=args),R]
      have l8:lH=#[t]:=by rw[<-Array.toArray_toList (xs:=lH),la]
      subst lC
      subst l8
      refine⟨.int .i64 n,fun w' lk=>?_,da.2 rfl⟩
      simp only[execOp,U,resolve,invoke,builtin,Sem.run_bind,Sem.run_pure,Result.andThen_ok,List.map_toArray,List.map_cons,List.map_nil,lf w' lk]
     ·cases o
    ·cases o
   ·cases o
  ·rename_i args lH
   split at o
   ·rename_i r X
    cases o
    obtain⟨x,y,k,a,b,lC,R,ll,e⟩:=JT h X
    subst lC
    subst e
    refine⟨.int k (pi a b),fun w' lk=>?_,da.2 rfl⟩
    simp only[execOp,U,resolve,invoke,builtin,Sem.run_bind,Sem.run_pure,Result.andThen_ok,List.map_toArray,List.map_cons,List.map_nil,R,ll,run_max_int2]
    rfl
   ·cases o
  ·rename_i args lH
   split at o
   ·rename_i r X
    cases o
    obtain⟨x,y,k,a,b,lC,R,ll,e⟩:=JT h X
    subst lC
    subst e
    refine⟨.int k (iT a b),fun w' lk=>?_,da.2 rfl⟩
    simp only[execOp,U,resolve,invoke,builtin,Sem.run_bind,Sem.run_pure,Result.andThen_ok,List.map_toArray,List.map_cons,List.map_nil,R,ll,run_min_int2]
    rfl
   ·cases o
  ·cases o
 case makeInterface t x=>
  simp only[dA]at o
  cases le:cx.P.concrete t with
  |false=>rw[le]at o;cases o
  |true=>
   rw[le,cond_true]at o
   cases o
   refine⟨_,dG.of (by simp only[execOp,U]) (s:=Instr.makeInterface t (Act.eval ⟨T,ah.D cx⟩ x)) (fun w' _=>run_makeInterface w' t _ le),?_⟩
   have key:∀s,s=ao.val .err (xB t (dC st x))->aT w (av cx m st.ids) m (Value.iface t (Act.eval ⟨T,ah.D cx⟩ x)) s:=by
    rintro s rfl
    refine(bA (t:=.err) rfl).2 ?_
    unfold xB
    split
    ·rename_i k n R
     cases lh:gN k .i64 with
     |true=>
      obtain rfl:=nq lh
      have:=da.1 (di h R)
      exact .inr (.inr ⟨t,n,rfl,by rw[this]⟩)
     |false=>exact .inr (.inl ⟨rfl,_,_,rfl⟩)
    ·exact .inr (.inl ⟨rfl,_,_,rfl⟩)
   unfold mkIf
   split
   ·rename_i u y R
    cases lD:u.agg with
    |true=>exact(bA (t:=.cB t u) rfl).2 ⟨_,rfl,di h R⟩
    |false=>exact key _ (by rw[R];rfl)
   ·rename_i R
    exact key _ (by rw[R])
 case typeAssert x lZ a ok=>
  simp only[dA]at o
  unfold Ly at o
  split at o
  ·rename_i n u y d R ai
   have Y:=(bA (t:=.cB n u) rfl).1 (di h R)
   obtain⟨v,e,Y⟩:=Y
   simp only[List.cons.injEq,and_true]at e
   split at o
   ·cases o
   ·rename_i l0
    split at o
    ·rename_i lb
     have lb:=Nat.eq_of_beq_eq_true lb
     subst lb
     cases o
     refine⟨.tuple #[v,.bool true],dG.of (by simp only[execOp,U]) (s:=Instr.typeAssert (Act.eval ⟨T,ah.D cx⟩ x) lZ n true) (fun w' _=>?_),[v,.bool true],rfl,Y,dF.2 rfl,trivial⟩
     rw[e]
     unfold Instr.typeAssert
     cases d<;>first|(exact absurd rfl (l0 _))|(simp[run_underlying ai])
    ·rename_i lb
     have lb:=Nat.eq_of_beq_eq_true lb
     subst lb
     cases o
     refine⟨v,dG.of (by simp only[execOp,U]) (s:=Instr.typeAssert (Act.eval ⟨T,ah.D cx⟩ x) lZ n false) (fun w' _=>?_),Y⟩
     rw[e]
     unfold Instr.typeAssert
     cases d<;>first|(exact absurd rfl (l0 _))|(simp[run_underlying ai])
    ·rename_i lb
     split at o
     ·rename_i z lj
      cases o
      obtain⟨z0,_,aN,aO⟩:=As lj
      refine⟨.tuple #[z0,.bool false],dG.of (by simp only[execOp,U]) (s:=Instr.typeAssert (Act.eval ⟨T,ah.D cx⟩ x) lZ a true) (fun w' _=>?_),[z0,.bool false],rfl,aO _ _,dF.2 rfl,trivial⟩
      rw[e]
      have lR:¬n=a:=fun lX=>by rw[lX,Nat.beq_refl]at lb;cases lb
      unfold Instr.typeAssert
      cases d<;>first|(exact absurd rfl (l0 _))|(simp[run_underlying ai,lR,aN])
     ·cases o
    ·cases o
  ·cases o
 case lookup mt x k ok=>
  simp only[dA]at o
  unfold yt at o
  split at o
  ·rename_i cO aP l8 key R l9 lh
   split at o
   ·rename_i aQ aR lI ab aS aU
    obtain⟨s,ld,aW⟩:=Option.bind_eq_some_iff.1 R
    have ad:=di h lh
    have aX:=al.dj aU
    subst aX
    obtain⟨z,_,lj,af⟩:=As aS
    have fin:(aQ.beq cO.k&&aR.beq cO.v&&ed cx.P 16 aP)=true->∃r,ba w (av cx m st.ids) r cO.v ((bS (aV cO.k) cO.ps lI).getD (b9 cO.v))/\∀w',Ext w w'->∀ok,(Instr.lookup mt (Act.eval ⟨T,ah.D cx⟩ x) (Act.eval ⟨T,ah.D cx⟩ k) ok).run cx.P w'=.ok (if ok then .tuple #[r,.bool (bS (aV cO.k) cO.ps lI).isSome]else r) w':=by
     intro W
     simp only[Bool.and_eq_true]at W
     have ae:=ag.eq_of_beq W.1.1
     have aY:=ag.eq_of_beq W.1.2
     subst ae
     subst aY
     rcases C3 h (bf h ld) aW with ⟨lb,lv⟩|⟨g,es,aZ,lb,lm,X⟩
     ·obtain⟨r,O,q⟩:=rk (w':=w) (M':=av cx m st.ids) (d:=jA) (d':=16) l9 ab W.2 (by decide) lj af ad (es:=#[]) (ps:=cO.ps) (by rw[lv];trivial)
      exact⟨r,O,fun w' _=>q w' _ (.inl ⟨lb,rfl⟩)⟩
     ·obtain⟨r,O,q⟩:=rk (d:=jA) (d':=16) l9 ab W.2 (by decide) lj af ad X
      exact⟨r,O,fun w' lk=>q w' _ (.inr ⟨g,aZ,lb,by rw[lk.block g (gx lm)];exact lm⟩)⟩
    split at o
    ·rename_i W
     cases o
     obtain⟨r,O,q⟩:=fin W
     exact⟨.tuple #[r,.bool (bS (aV cO.k) cO.ps lI).isSome],dG.of (by simp only[execOp,U]) (fun w' lk=>q w' lk true),[r,.bool (bS (aV cO.k) cO.ps lI).isSome],rfl,O,dF.2 rfl,trivial⟩
    ·rename_i W
     cases o
     obtain⟨r,O,q⟩:=fin W
     exact⟨r,dG.of (by simp only[execOp,U]) (fun w' lk=>q w' lk false),O⟩
    ·cases o
   ·cases o
  ·cases o
 all_goals (simp only[dA]at o;cases o)
end Go.Ev
namespace Go.Ev
open Go Go.RowKit
variable [b8]
variable {cx:bI} {m:Nat->Value} {st:af} {T:Array Value} {w w':World}
variable [ah cx]
def leaves:(t:ag)->t.el->List ao
 |.int k,n=>[.val (.int k) n]
 |.bool,b=>[.val .bool b]
 |.str,s=>[.val .str s]
 |.ab t,xs=>[.val (.ab t) xs]
 |.unit,_=>[]
 |.pair a b,x=>leaves a x.1++leaves b x.2
 |.ptr t,x=>[.val (.ptr t) x]
 |.fn f t,x=>[.val (.fn f t) x]
 |.err,x=>[.val .err x]
 |.ck,x=>[.val .ck x]
 |.cE,x=>[.val .cE x]
 |.cB n t,x=>[.val (.cB n t) x]
 |.alt n t r,x=>[.val (.alt n t r) x]
 |.arr _ t,xs=>List.flatMap (leaves t) xs
 |.map k v,x=>[.val (.map k v) x]
def iu(t:ag):List ao->Option (t.el×List ao)
 |.val u x::r=>match al.as ⟨u,x⟩ t with
  |some y=>some (y,r)
  |none=>none
 |_=>none
def zF{α:Type}(f:List ao->Option (α×List ao)):Nat->List ao->Option (List α×List ao)
 |0,l=>some ([],l)
 |n+1,l=>match f l with
  |some (x,r)=>match zF f n r with
   |some (xs,o)=>some (x::xs,o)
   |none=>none
  |none=>none
def pack:(t:ag)->List ao->Option (t.el×List ao)
 |.unit,l=>some ((),l)
 |.pair a b,l=>match pack a l with
  |some (x,r)=>match pack b r with
   |some (y,o)=>some ((x,y),o)
   |none=>none
  |none=>none
 |.int k,l=>iu (.int k) l
 |.bool,l=>iu .bool l
 |.str,l=>iu .str l
 |.ab t,l=>iu (.ab t) l
 |.ptr t,l=>iu (.ptr t) l
 |.fn f t,l=>iu (.fn f t) l
 |.err,l=>iu .err l
 |.ck,l=>iu .ck l
 |.cE,l=>iu .cE l
 |.cB n t,l=>iu (.cB n t) l
 |.alt n t r,l=>iu (.alt n t r) l
 |.arr n t,l=>zF (pack t) n l
 |.map k v,l=>iu (.map k v) l
theorem mu{M:Nat->Prop}:∀{c1 c2:List Value} {l1 l2:List ao},ct w M m c1 l1->ct w M m c2 l2->ct w M m (c1++c2) (l1++l2)
 |[],_,[],_,_,h=>h
 |[],_,_::_,_,h,_=>h.elim
 |_::_,_,[],_,h,_=>h.elim
 |_::_,_,_::_,_,⟨o,q⟩,h=>⟨o,mu q h⟩
theorem mv{M:Nat->Prop}:∀{c:List Value} {l:List ao},ct w M m c l->c.length=l.length
 |[],[],_=>rfl
 |[],_::_,h=>h.elim
 |_::_,[],h=>h.elim
 |_::_,_::_,⟨_,h⟩=>by simp[mv h]
theorem jm{M:Nat->Prop}:∀(n:Nat) {c:List Value} {l:List ao},ct w M m c l->ct w M m (c.take n) (l.take n)/\ct w M m (c.drop n) (l.drop n)
 |0,_,_,h=>⟨trivial,h⟩
 |n+1,[],[],_=>⟨trivial,trivial⟩
 |n+1,[],_::_,h=>h.elim
 |n+1,_::_,[],h=>h.elim
 |n+1,_::_,_::_,⟨q,o⟩=>⟨⟨q,(jm n o).1⟩,(jm n o).2⟩
theorem I6{M:Nat->Prop}{t:ag}(h:∀{cs:List Value} {x:t.el},aJ w M t cs x->ct w M m cs (leaves t x)):∀{xs:List t.el} {cs:List Value},bL (aJ w M t) cs xs->ct w M m cs (xs.flatMap (leaves t))
 |[],_,o=>by cases o;trivial
 |_::_,_,⟨c1,c2,e,q,O⟩=>by subst e;rw[List.flatMap_cons];exact mu (h q) (I6 h O)
theorem xM{M:Nat->Prop}:∀(t:ag) {cs:List Value} {x:t.el},aJ w M t cs x->ct w M m cs (leaves t x):=by
 intro t
 induction t with
 |int k=>intro cs x h;cases h;exact⟨da.2 rfl,trivial⟩
 |bool=>intro cs x h;cases h;exact⟨dF.2 rfl,trivial⟩
 |str=>intro cs x h;obtain⟨O,R⟩:=h;cases O;exact⟨eO.2 ⟨rfl,R⟩,trivial⟩
 |ab t o=>intro cs x h;obtain⟨a,cap,cells,e,r⟩:=h;subst e;exact⟨(bA (t:=.ab t) rfl).2 ⟨a,cap,cells,rfl,r⟩,trivial⟩
 |unit=>intro cs x h;cases h;trivial
 |ptr t o=>intro cs x h;obtain⟨a,cells,e,r⟩:=h;subst e;exact⟨(bA (t:=.ptr t) rfl).2 ⟨a,cells,rfl,r⟩,trivial⟩
 |fn f t o=>intro cs x h;obtain⟨bs,e,r⟩:=h;subst e;exact⟨(bA (t:=.fn f t) rfl).2 ⟨bs,rfl,r⟩,trivial⟩
 |err=>intro cs x h;rcases h with ⟨q,e⟩|⟨q,t,v,e⟩|⟨t,n,q,e⟩<;>subst e;exact⟨(bA (t:=.err) rfl).2 (.inl ⟨q,rfl⟩),trivial⟩;exact⟨(bA (t:=.err) rfl).2 (.inr (.inl ⟨q,t,v,rfl⟩)),trivial⟩;exact⟨(bA (t:=.err) rfl).2 (.inr (.inr ⟨t,n,q,rfl⟩)),trivial⟩
 |ck=>intro cs x h;obtain⟨v,e,r⟩:=h;subst e;exact⟨(bA (t:=.ck) rfl).2 ⟨v,rfl,r⟩,trivial⟩
 |cE=>intro cs x h;cases h;exact⟨(bA (t:=.cE) rfl).2 rfl,trivial⟩
 |cB n t o=>intro cs x h;obtain⟨v,e,r⟩:=h;subst e;exact⟨(bA (t:=.cB n t) rfl).2 ⟨v,rfl,r⟩,trivial⟩
 |alt n t r _ _=>
  intro cs x h
  have U:=cf (.alt n t r) h
  match cs,U,h with
  |[v],_,h=>exact⟨(bA (t:=.alt n t r) rfl).2 h,trivial⟩
 |arr n t o=>intro cs x h;exact I6 o h.2
 |map k v _ _=>
  intro cs x h
  match x,h with
  |none,h=>have h:cs=[.map none]:=h;subst h;exact⟨(bA (t:=.map k v) rfl).2 rfl,trivial⟩
  |some ps,⟨b,es,W,e,r⟩=>subst e;exact⟨(bA (t:=.map k v) rfl).2 ⟨b,es,W,rfl,r⟩,trivial⟩
 |pair a b X Y=>rintro cs x ⟨c1,c2,rfl,O,R⟩;exact mu (X O) (Y R)
theorem jB{M:Nat->Prop}{t:ag}(q:t.agg=false){cs:List Value}{c r:List ao}{x:t.el}(h:ct w M m cs c)(o:iu t c=some (x,r)):
  ∃c1 c2,cs=c1++c2/\aJ w M t c1 x/\ct w M m c2 r:=by
 unfold iu at o
 split at o
 ·rename_i u y X
  split at o
  ·rename_i z O
   cases o
   have e:=al.dj O
   match cs,h with
   |v::vs,⟨R,U⟩=>
    refine⟨[v],vs,rfl,?_,U⟩
    have W:ba w M v u y:=R
    cases e
    exact(bA q).1 W
   |[],h=>exact h.elim
  ·cases o
 ·cases o
theorem GF{M:Nat->Prop}{t:ag}(h:∀{cs:List Value} {c r:List ao} {x:t.el},ct w M m cs c->pack t c=some (x,r)->∃c1 c2,cs=c1++c2/\aJ w M t c1 x/\ct w M m c2 r):
  ∀(n:Nat) {cs:List Value} {c r:List ao} {xs:List t.el},ct w M m cs c->zF (pack t) n c=some (xs,r)->∃c1 c2,cs=c1++c2/\(xs.length=n/\bL (aJ w M t) c1 xs)/\ct w M m c2 r
 |0,cs,c,r,xs,q,o=>by cases o;exact⟨[],cs,rfl,⟨rfl,rfl⟩,q⟩
 |n+1,cs,c,r,xs,q,o=>by
  unfold zF at o
  split at o
  ·rename_i y W O
   split at o
   ·rename_i X cS R
    cases o
    obtain⟨c1,c2,rfl,g1,g2⟩:=h q O
    obtain⟨d1,d2,rfl,⟨g3,U⟩,g4⟩:=GF h n g2 R
    exact⟨c1++d1,d2,by simp,⟨by simp[g3],c1,d1,rfl,g1,U⟩,g4⟩
   ·cases o
  ·cases o
theorem rh{M:Nat->Prop}:∀(t:ag) {cs:List Value} {c r:List ao} {x:t.el},ct w M m cs c->pack t c=some (x,r)->∃c1 c2,cs=c1++c2/\aJ w M t c1 x/\ct w M m c2 r:=by
 intro t
 induction t with
 |int k=>intro cs c r x h o;exact jB rfl h o
 |bool=>intro cs c r x h o;exact jB rfl h o
 |str=>intro cs c r x h o;exact jB rfl h o
 |ab t q=>intro cs c r x h o;exact jB rfl h o
 |unit=>intro cs c r x h o;cases o;exact⟨[],cs,rfl,rfl,h⟩
 |ptr t q=>intro cs c r x h o;exact jB rfl h o
 |fn f t q=>intro cs c r x h o;exact jB rfl h o
 |err=>intro cs c r x h o;exact jB rfl h o
 |ck=>intro cs c r x h o;exact jB rfl h o
 |cE=>intro cs c r x h o;exact jB rfl h o
 |cB n t q=>intro cs c r x h o;exact jB rfl h o
 |alt n t r _ _=>intro cs c r x h o;exact jB rfl h o
 |arr n t q=>intro cs c r x h o;exact GF q n h o
 |map k v _ _=>intro cs c r x h o;exact jB rfl h o
 |pair a b O R=>
  intro cs c r x h o
  unfold pack at o
  split at o
  ·rename_i y X U
   split at o
   ·rename_i z cS W
    cases o
    obtain⟨c1,c2,rfl,g1,g2⟩:=O h U
    obtain⟨d1,d2,rfl,g3,g4⟩:=R g2 W
    exact⟨c1++d1,d2,by simp,⟨c1,d1,rfl,g1,g3⟩,g4⟩
   ·cases o
  ·cases o
def tR(P:Program)(st:af)(t:TypeId)(x:Operand)(orc:List al):Option ew:=
 match aS st x,ty P t with
 |some (.ptr b off),some u=>match look st.ad b with
  |some (.cells c _)=>match u.agg with
   |true=>match pack u (c.drop off)with
    |some (y,_)=>some ⟨.val u y,orc,[]⟩
    |none=>none
   |false=>match c.drop off with
    |s::_=>some ⟨s,orc,[]⟩
    |[]=>none
  |_=>none
 |some (.dU r i off o),some u=>match look st.rw r,orc with
  |some c,v::orc'=>match v.as c.t,Nat.beq o c.t.cells,Nat.beq u.cells 0 with
   |some x,true,false=>match cM c.t x off u with
    |some y=>some ⟨.val u y,orc',[aB c.xs i=some x]⟩
    |none=>none
   |_,_,_=>none
  |_,_=>none
 |some (.dW b p),some u=>match look st.ad b with
  |some (.aY q x _)=>match kL q x p orc with
   |some (r,orc',ob)=>match r.as u,Nat.beq u.cells 0 with
    |some y,false=>some ⟨.val u y,orc',ob⟩
    |_,_=>none
   |none=>none
  |_=>none
 |_,_=>none
theorem Ej{w:World}{g:Nat}{aa:Obj}(h:w.heap[g]? =some aa):g<w.heap.size:=by
 rcases Nat.lt_or_ge g w.heap.size with o|o
 ·exact o
 ·rw[Array.getElem?_eq_none o]at h;cases h
theorem pR{w:World}{g:Nat}{cells:Array Value}{e:Nat}{fr:Nat×Nat}(h:w.heap[g]? =some (.cells cells e fr))(aa:Nat):w.cell? ⟨g,aa,none⟩=cells[aa]? :=by
 simp[World.cell?,h]
theorem jJ{P:Program}{tid d:Nat}{u:ag}(O:cN P d tid=some u){g off:Nat}{cells:Array Value}{e:Nat}{fr:Nat×Nat}{c:List Value}(U:w.heap[g]? =some (.cells cells e fr))
  (Y:∀j v,c[j]? =some v->cells[off+j]? =some v)(o:c.length=u.cells)(lb:u.agg=false->0<u.cells):
  ∃v,nE P w (loadVar tid ⟨g,off,none⟩) v/\(if u.agg then v=.agg c.toArray else c=[v]):=by
 have W:∀w',Ext w w'->∀j v,c[j]? =some v->w'.cell? ((⟨g,off,none⟩:Addr).add j)=some v:=by
  intro w' q j v Z
  rw[gU]
  have la:w'.heap[g]? =some (.cells cells e fr):=by rw[q.block g (Ej U)];exact U
  rw[pR la]
  exact Y j v Z
 cases R:u.agg with
 |true=>
  refine⟨.agg c.toArray,fun w' q=>?_,by simp⟩
  unfold loadVar
  rw[Sem.run_bind,k2 O,R]
  simp only[Result.andThen_ok,if_true,Sem.run_bind,fa O]
  rw[<-o,Cs (W w' q)]
  rfl
 |false=>
  have lc:u.cells=1:=by cases u<;>first|rfl|(simp[ag.agg]at R)
  match c,o with
  |[v],_=>
   refine⟨v,fun w' q=>?_,by simp⟩
   have X:=W w' q 0 v rfl
   rw[add_zero]at X
   unfold loadVar
   rw[Sem.run_bind,k2 O,R]
   simp only[Result.andThen_ok,Bool.false_eq_true,if_false]
   simp[load,Sem.run,X]
  |[],o=>simp at o;omega
  |_::_::_,o=>simp at o;omega
theorem Nl{α:Type}(a b c d e:List α)(j:Nat)(o:j<c.length):(a++(b++c++d)++e)[a.length+b.length+j]? =c[j]? :=by
 have ae:a++(b++c++d)++e=(a++b)++(c++(d++e)):=by simp
 rw[ae,List.getElem?_append_right (by rw[List.length_append];omega),List.getElem?_append_left (by rw[List.length_append];omega),List.length_append]
 congr 1
 omega
theorem Cr(h:an cx m st T w){t:TypeId}{x:Operand}{orc:List al}{lh:ew}(o:tR cx.P st t x orc=some lh)(ln:bP lh.ob):
  ∃v,nE cx.P w (Instr.loadAt t (Act.eval ⟨T,ah.D cx⟩ x)) v/\aT w (av cx m st.ids) m v lh.aU:=by
 unfold tR at o
 split at o
 ·rename_i b off u la Y
  obtain⟨g,Z,lb⟩:=bf h la
  have li:Instr.loadAt t (Act.eval ⟨T,ah.D cx⟩ x)=loadVar t ⟨g,off,none⟩:=by rw[lb];rfl
  rw[li]
  split at o
  ·rename_i c lj
   obtain⟨lc,ae,_,cells,lf,e4⟩:=h.box (bc lj)
   have:lc=g:=by rw[Z]at ae;cases ae;rfl
   subst this
   obtain⟨_,ai⟩:=jm (w:=w) (m:=m) off e4
   split at o
   ·rename_i O
    split at o
    ·rename_i y r ld
     cases o
     obtain⟨c1,c2,le,U,_⟩:=rh u ai ld
     obtain⟨v,X,q⟩:=jJ (c:=c1) Y lf (fun j v R=>by
      have:(cells.toList.drop off)[j]? =some v:=by rw[le,List.getElem?_append_left (List.getElem?_eq_some_iff.1 R).1];exact R
      rw[List.getElem?_drop]at this
      simpa using this) (cf u U) (fun W=>by rw[O]at W;cases W)
     rw[O,if_pos rfl]at q
     exact⟨v,X,(eh O).2 ⟨c1,q,U⟩⟩
    ·cases o
   ·rename_i O
    split at o
    ·rename_i s r lr
     cases o
     rw[lr]at ai
     match le:cells.toList.drop off,ai with
     |v0::vs,⟨lo,_⟩=>
      have ls:u.cells=1:=by cases u<;>first|rfl|(simp[ag.agg]at O)
      obtain⟨v,X,q⟩:=jJ (c:=[v0]) Y lf (fun j v R=>by
       have lt:j=0:=by have:=(List.getElem?_eq_some_iff.1 R).1;simpa using this
       subst lt
       simp at R
       subst R
       have:(cells.toList.drop off)[0]? =some v0:=by rw[le];rfl
       rw[List.getElem?_drop]at this
       simpa using this) (by rw[ls];rfl) (fun _=>by omega)
      rw[O]at q
      simp at q
      subst q
      exact⟨v0,X,lo⟩
     |[],ai=>exact ai.elim
    ·cases o
  ·cases o
 ·rename_i r i off lu u la Y
  obtain⟨g,n,cap,Z,lb⟩:=bf h la
  have li:Instr.loadAt t (Act.eval ⟨T,ah.D cx⟩ x)=loadVar t ⟨g,i.toNat*lu+off,none⟩:=by rw[lb];rfl
  rw[li]
  split at o
  ·rename_i c v orc' lj
   split at o
   ·rename_i lv lo lw lk
    split at o
    ·rename_i y ll
     cases o
     obtain⟨lI,lJ,lx⟩:=jq ln.1
     obtain⟨cells,ly,_,lz⟩:=h.rows r c (bc lj)
     have lA:=Nat.eq_of_beq_eq_true lw
     subst lA
     rcases ly.2 with ⟨W,_⟩|⟨lc,lK,cur,W,_,lB,_,_,_,lC⟩
     ·rw[Z]at W;cases W
     ·have:lc=g:=by rw[Z]at W;cases W;rfl
      subst this
      obtain⟨c1,c2,c3,rfl,lp,U⟩:=mF lz lx
      obtain⟨d1,d2,d3,rfl,lD,lm⟩:=pQ c.t U ll
      have ld:0<u.cells:=Nat.pos_of_ne_zero (beq_false lk)
      obtain⟨v',X,q⟩:=jJ (c:=d2) Y lB (fun j v R=>by
       have lq:=(List.getElem?_eq_some_iff.1 R).1
       have lg:(cur.toList.take (c.xs.length*c.t.cells))[i.toNat*c.t.cells+off+j]? =some v:=by
        rw[lC,<-lp,<-lD,<-R]
        exact Nl c1 d1 d2 d3 c3 j lq
       rw[List.getElem?_take]at lg
       split at lg
       ·simpa using lg
       ·cases lg) (cf u lm) (fun _=>ld)
      refine⟨v',X,?_⟩
      cases O:u.agg with
      |true=>rw[O,if_pos rfl]at q;exact(eh O).2 ⟨d2,q,lm⟩
      |false=>rw[O]at q;simp at q;subst q;exact(bA O).2 lm
    ·cases o
   ·cases o
  ·cases o
 ·rename_i b p u la Y
  obtain⟨g,Z,lb⟩:=bf h la
  split at o
  ·rename_i lE lv e lF
   split at o
   ·rename_i r lL ob ld
    split at o
    ·rename_i y ll lk
     cases o
     obtain⟨lc,ae,_,cells,lf,e4⟩:=h.box (bc lF)
     have:lc=g:=by rw[Z]at ae;cases ae;rfl
     subst this
     obtain⟨c1,c2,c3,le,lp,U⟩:=zA p lE e4 ld ln
     have lG:=al.dj ll
     subst lG
     have lH:0<u.cells:=Nat.pos_of_ne_zero (beq_false lk)
     obtain⟨v,X,q⟩:=jJ (off:=gc p) (c:=c2) Y lf (fun j v R=>by
      have lq:=(List.getElem?_eq_some_iff.1 R).1
      rw[<-Array.getElem?_toList,le,List.append_assoc,List.getElem?_append_right (by omega),List.getElem?_append_left (by omega),<-R]
      congr 1
      omega) (cf u U) (fun _=>lH)
     refine⟨v,by rw[lb];exact X,?_⟩
     cases O:u.agg with
     |true=>rw[O,if_pos rfl]at q;exact(eh O).2 ⟨c2,q,U⟩
     |false=>rw[O]at q;simp at q;subst q;exact(bA O).2 U
    ·cases o
   ·cases o
  ·cases o
 ·cases o
def wx:Option bQ->Bool
 |some (.bu _ _ _ _)=>true
 |_=>false
def uF:ao->Bool
 |.val t _=>!t.agg
 |.row _=>true
 |.clos _ _=>true
 |.ptr _ _=>true
 |.vptr _ _=>true
 |.osl _=>true
 |.iter _=>true
 |_=>false
def wi:Option bQ->Bool
 |some (.mp _ _ _)=>true
 |_=>false
theorem MM{M:Nat->Prop}{v:Value}{s:ao}(O:uF s=true)(q:∀r,s=.row r\/s=.osl r\/s=.iter r->v.oneCell'=true)(o:aT w M m v s):v.oneCell'=true/\v.cells=#[v]:=by
 cases s<;>simp only[uF,Bool.false_eq_true]at O
 case val t x=>
  have U:t.agg=false:=by simpa using O
  have W:=(bA U).1 o
  have R:=hZ t W v (by simp)
  refine⟨R,?_⟩
  cases v<;>first|rfl|(simp[Value.oneCell']at R)
 case row r=>
  have:=q r (.inl rfl)
  refine⟨this,?_⟩
  cases v<;>first|rfl|(simp[Value.oneCell']at this)
 case osl b=>
  have:=q b (.inr (.inl rfl))
  refine⟨this,?_⟩
  cases v<;>first|rfl|(simp[Value.oneCell']at this)
 case iter b=>
  have:=q b (.inr (.inr rfl))
  refine⟨this,?_⟩
  cases v<;>first|rfl|(simp[Value.oneCell']at this)
 case clos f bs=>
  have e:v=_:=o
  subst e
  exact⟨rfl,rfl⟩
 case ptr b off=>obtain⟨g,_,e⟩:=o;subst e;exact⟨rfl,rfl⟩
 case vptr t x=>obtain⟨a,c,e,_⟩:=o;subst e;exact⟨rfl,rfl⟩
def sH(u:ag)(s:ao):Option (List ao):=
 match u.agg with
 |true=>match s with
  |.val t x=>bif t.beq u then some (leaves t x)else none
  |_=>none
 |false=>match s with
  |.val t x=>bif t.beq u then some [.val t x]else none
  |s=>bif uF s&&Nat.beq u.cells 1 then some [s]else none
theorem row_one(h:an cx m st T w){r:Nat}{c:cG}(q:(r,c)∈st.rw):(m r).oneCell'=true:=by
 obtain⟨cells,O,_⟩:=h.rows r c q
 rcases O.2 with ⟨o,_⟩|⟨g,cap,cur,o,_⟩<;>rw[o]<;>rfl
theorem Jw{M:Nat->Prop}{v:Value}{s:ao}{u:ag}{l:List ao}(X:∀r,s=.row r\/s=.osl r\/s=.iter r->v.oneCell'=true)(O:aT w M m v s)(o:sH u s=some l):
  ct w M m v.cells.toList l/\(∀x∈v.cells.toList,x.oneCell'=true)/\v.cells.size=u.cells:=by
 unfold sH at o
 split at o
 ·rename_i Y
  split at o
  ·rename_i t x
   cases q:t.beq u with
   |false=>rw[q]at o;cases o
   |true=>
    rw[q]at o
    cases o
    obtain rfl:=ag.eq_of_beq q
    have R:=j7 O
    exact⟨xM t R,hZ t R,by rw[<-cf t R];simp⟩
  ·cases o
 ·rename_i Y
  split at o
  ·rename_i t x
   cases q:t.beq u with
   |false=>rw[q]at o;cases o
   |true=>
    rw[q]at o
    cases o
    obtain rfl:=ag.eq_of_beq q
    have R:=j7 O
    have W:=MM (s:=.val t x) (by simp[uF,Y]) X O
    refine⟨?_,hZ t R,by rw[<-cf t R];simp⟩
    rw[W.2]
    exact⟨O,trivial⟩
  ·rename_i Z _
   cases U:uF s&&Nat.beq u.cells 1 with
   |false=>rw[U]at o;cases o
   |true=>
    rw[U]at o
    cases o
    simp only[Bool.and_eq_true]at U
    have W:=MM U.1 X O
    rw[W.2]
    exact⟨⟨O,trivial⟩,by simp[W.1],by rw[Nat.eq_of_beq_eq_true U.2];rfl⟩
theorem Lx(h:an cx m st T w){b:Nat}(o:wx (look st.ad b)=true){M:Nat->Prop}{v:Value}(R:aT w M m v (.osl b)):v.oneCell'=true:=by
 unfold wx at o
 split at o
 ·rename_i e k xs X U
  obtain⟨g,_,_,ai,us,cells,ae,W,_⟩:=h.boxes b _ (bc U)
  obtain⟨Y,q⟩:=R
  have e4:v=ai:=by
   rw[ae]at q
   simp only[Value.tuple.injEq,Array.mk.injEq,List.cons.injEq]at q
   exact q.1.symm
  rw[e4]
  rcases W.2 with ⟨O,_⟩|⟨g,cap,cur,O,_⟩<;>rw[O]<;>rfl
 ·cases o
theorem LZ(h:an cx m st T w){b:Nat}(o:wi (look st.ad b)=true){M:Nat->Prop}{v:Value}(q:aT w M m v (.iter b)):v.oneCell'=true:=by
 unfold wi at o
 split at o
 ·rename_i O
  obtain⟨g,ae,_⟩:=h.box (bc O)
  have q:v=m b:=q
  rw[q,ae]
  rfl
 ·cases o
theorem kZ(w:World)(g:Nat)(cs:Array Value):Same w (w.setRow g cs):=by
 refine{os:=rfl,tape:=rfl,output:=rfl,size:=?_,drawn:=fun _=>Nat.le_refl _}
 simp[World.setRow]
theorem oa{P:Program}{tid d:Nat}{u:ag}(R:cN P d tid=some u){g off:Nat}{cur:Array Value}{e:Nat}{v:Value}(U:w.heap[g]? =some (.cells cur e (0,0)))
  (o:v.cells.size=u.cells)(X:off+u.cells<=cur.size)(W:∀x∈v.cells.toList,x.oneCell'=true):
  (Instr.storeAt tid (.pointer (some ⟨g,off,none⟩)) v).run P w=.ok () (w.setRow g (cur.toList.take off++v.cells.toList++cur.toList.drop (off+u.cells)).toArray):=by
 have q:v.cells.toList.length=u.cells:=by rw[<-o];simp
 have O:=run_storeCells_at (P:=P) g off e v.cells.toList 0 cur w U (by rw[q];omega) W
 rw[q,Nat.add_zero]at O
 simp only[Instr.storeAt,Instr.sureAddr,Sem.run_bind,Sem.run_pure,Result.andThen_ok,storeVar,fa R,o,ne_eq,not_true_eq_false,if_false]
 exact O
def DA(P:Program)(st:af)(t:TypeId)(y:Operand):Option ao:=
 match y with
 |.const (.slice none 0 0)=>match ty P t with
  |some (.ab u)=>some (.val (.ab u) [])
  |_=>none
 |y=>aS st y
theorem rA(h:an cx m st T w){P:Program}{t:TypeId}{y:Operand}{s:ao}(o:DA P st t y=some s):aT w (av cx m st.ids) m (Act.eval ⟨T,ah.D cx⟩ y) s:=by
 unfold DA at o
 split at o
 ·split at o
  ·rename_i u _
   cases o
   exact(bA (t:=.ab u) rfl).2 ⟨none,0,[],rfl,Nat.le_refl _,by decide,fun _=>rfl,rfl,fun j u q=>by simp at q⟩
  ·cases o
 ·exact bf h o
def wX(P:Program)(st:af)(t:TypeId)(x y:Operand)(orc:List al):Option (af×List al×List Prop):=
 match aS st x,ty P t,DA P st t y with
 |some (.ptr b off),some u,some s=>match look st.ad b,sH u s,qv st s with
  |some (.cells c e),some l,true=>bif Nat.ble (off+u.cells) c.length then some (st.dd b (.cells (c.take off++l++c.drop (off+u.cells)) e),orc,[])else none
  |_,_,_=>none
 |some (.dU r i off R),some u,some (.val o z)=>match look st.rw r,orc with
  |some c,v::orc'=>match v.as c.t,Nat.beq R c.t.cells,o.beq u with
   |some q,true,true=>match cm c.t q off ⟨o,z⟩with
    |some U=>some (st.setRow r {c with xs:=c.xs.set i.toNat U},orc',[aB c.xs i=some q])
    |none=>none
   |_,_,_=>none
  |_,_=>none
 |some (.dW b p),some u,some (.val o z)=>match look st.ad b with
  |some (.aY O x e)=>match o.beq u,mL O x p orc ⟨o,z⟩with
   |true,some (y,orc',ob)=>some (st.dd b (.aY O y e),orc',ob)
   |_,_=>none
  |_=>none
 |_,_,_=>none
where
 qv (st:af):ao->Bool
  |.row r=>(look st.rw r).isSome
  |.osl b=>wx (look st.ad b)
  |.iter b=>wi (look st.ad b)
  |_=>true
end Go.Ev
namespace Go.Ev
open Go Go.RowKit
variable [b8]
variable {cx:bI} {m:Nat->Value} {st:af} {T:Array Value} {w w':World}
variable [ah cx]
theorem oq{M M':Nat->Prop}(o:∀b,b<w.heap.size->¬M b->w'.heap[b]? =w.heap[b]?)(q:∀b,b<w.heap.size->M' b->M b){c:List Value}{l:List ao}(h:ct w M m c l):ct w' M' m c l:=by
 have:=vk (f:=id) (fun v s O=>fE (m:=m) o q O) h
 simpa using this
theorem Ue(h:an cx m st T w){t:TypeId}{x y:Operand}{orc orc':List al}{st':af}{ob:List Prop}(o:wX cx.P st t x y orc=some (st',orc',ob))(lB:bP ob):
  ∃w',(Instr.storeAt t (Act.eval ⟨T,ah.D cx⟩ x) (Act.eval ⟨T,ah.D cx⟩ y)).run cx.P w=.ok () w'/\an cx m st' T w':=by
 unfold wX at o
 split at o
 ·rename_i b off u s lf lg X
  obtain⟨g,U,lh⟩:=bf h lf
  split at o
  ·rename_i c e l lq ld lo
   cases Y:Nat.ble (off+u.cells) c.length with
   |false=>rw[Y]at o;cases o
   |true=>
    rw[Y]at o
    cases o
    have lr:=Nat.le_of_ble_eq_true Y
    have O:=bc lq
    obtain⟨W,ae,_,cells,li,e4⟩:=h.box O
    have:W=g:=by rw[U]at ae;cases ae;rfl
    subst this
    have lj:b∈st.ids:=List.mem_append.2 (.inl (List.mem_map.2 ⟨_,O,rfl⟩))
    have lI:=mv e4
    have lJ:∀r,s=.row r\/s=.osl r\/s=.iter r->(Act.eval ⟨T,ah.D cx⟩ y).oneCell'=true:=by
     rintro r (rfl|rfl|rfl)
     ·simp only[wX.qv]at lo
      obtain⟨c',lK⟩:=Option.isSome_iff_exists.1 lo
      rw[show Act.eval ⟨T,ah.D cx⟩ y=m r from rA h X]
      exact row_one h (bc lK)
     ·exact Lx h lo (rA h X)
     ·exact LZ h lo (rA h X)
    obtain⟨aC,aA,bW⟩:=Jw lJ (rA h X) ld
    have lk:off+u.cells<=cells.size:=by rw[<-Array.length_toList,lI];exact lr
    have Z:=oa (P:=cx.P) lg li bW lk aA
    refine⟨_,by rw[lh];exact Z,?_⟩
    have R:Touch m w b (w.setRow W (cells.toList.take off++(Act.eval ⟨T,ah.D cx⟩ y).cells.toList++cells.toList.drop (off+u.cells)).toArray):=
     ⟨kZ _ _ _,fun k lC ll=>setRow_other _ _ _ _ (fun e=>ll (by rw[U,e];rfl))⟩
    obtain⟨lm,_⟩:=ko O h.keys (.cells (c.take off++l++c.drop (off+u.cells)) e)
    obtain⟨la,lb⟩:=an.ia (cx:=cx) lj R lm
    refine h.dd O R (g:=W) U ⟨_,setRow_heap _ _ _ _ _ _ li,?_⟩
    simp only[]
    exact mu (mu (oq la lb (jm off e4).1) (oq la lb aC)) (oq la lb (jm (off+u.cells) e4).2)
  ·cases o
 ·rename_i r i off l9 u q z lf lg X
  obtain⟨g,n,cap,U,lh⟩:=bf h lf
  split at o
  ·rename_i c v lL lq
   split at o
   ·rename_i lM aa lN Y
    split at o
    ·rename_i lO lP
     cases o
     obtain⟨ab,ad,lQ⟩:=jq lB.1
     have O:=bc lq
     obtain⟨cells,lD,ai,lR⟩:=h.rows r c O
     have lj:r∈st.ids:=List.mem_append.2 (.inr (List.mem_map.2 ⟨_,O,rfl⟩))
     have lS:=Nat.eq_of_beq_eq_true lN
     subst lS
     obtain rfl:=ag.eq_of_beq Y
     have ls:ba w (av cx m st.ids) (Act.eval ⟨T,ah.D cx⟩ y) q z:=rA h X
     have lc:=j7 ls
     have le:=cf q lc
     have lt:(Act.eval ⟨T,ah.D cx⟩ y).cells.size=q.cells:=by rw[<-le];simp
     rcases lD.2 with ⟨R,_⟩|⟨W,lT,cur,R,lU,lE,lr,lV,lW,lX⟩
     ·rw[U]at R;cases R
     ·have:W=g:=by rw[U]at R;cases R;rfl
      subst this
      obtain⟨c1,c2,c3,rfl,ld,lu,lY⟩:=sk lR lQ
      obtain⟨d1,d2,d3,rfl,lZ,lv,l0⟩:=qx (v:=⟨q,z⟩) lc c.t lu lP
      obtain⟨rest,lp⟩:∃rest,cur.toList=(c1++(d1++d2++d3)++c3)++rest:=⟨cur.toList.drop (c.xs.length*c.t.cells),by rw[<-lX,List.take_append_drop]⟩
      have lF:(c1++(d1++d2++d3)++c3).length=c.xs.length*c.t.cells:=lD.1
      have lw:i.toNat*c.t.cells+off=(c1++d1).length:=by rw[List.length_append,ld,lZ]
      have l3:cur.toList.length=(c1++d1).length+d2.length+(d3++c3++rest).length:=by rw[lp];simp only[List.length_append];omega
      have lk:i.toNat*c.t.cells+off+q.cells<=cur.size:=by
       rw[<-Array.length_toList,l3,lw,<-le,lv]
       omega
      have Z:=oa (P:=cx.P) lg lE lt lk (hZ q lc)
      have lx:cur.toList.take (i.toNat*c.t.cells+off)=c1++d1:=by
       rw[lp,lw]
       have:c1++(d1++d2++d3)++c3++rest=(c1++d1)++(d2++d3++c3++rest):=by simp
       rw[this,List.take_left]
      have ly:cur.toList.drop (i.toNat*c.t.cells+off+q.cells)=d3++c3++rest:=by
       rw[lp,lw,<-le,<-lv,<-List.length_append]
       have:c1++(d1++d2++d3)++c3++rest=(c1++d1++d2)++(d3++c3++rest):=by simp
       rw[this,List.drop_left]
      rw[lx,ly]at Z
      refine⟨_,by rw[lh];exact Z,?_⟩
      have lG:Touch m w r (w.setRow W (c1++d1++(Act.eval ⟨T,ah.D cx⟩ y).cells.toList++(d3++c3++rest)).toArray):=
       ⟨kZ _ _ _,fun k lC ll=>setRow_other _ _ _ _ (fun e=>ll (by rw[U,e];rfl))⟩
      obtain⟨lm,_⟩:=ou O h.keys {c with xs:=c.xs.set i.toNat lO}
      obtain⟨la,lb⟩:=an.ia (cx:=cx) lj lG lm
      have l4:=lY _ _ l0
      have lH:c1++d1++(Act.eval ⟨T,ah.D cx⟩ y).cells.toList++(d3++c3++rest)=(c1++(d1++(Act.eval ⟨T,ah.D cx⟩ y).cells.toList++d3)++c3)++rest:=by simp
      have ln:(c1++(d1++(Act.eval ⟨T,ah.D cx⟩ y).cells.toList++d3)++c3).length=c.xs.length*c.t.cells:=by
       rw[<-lF];simp only[List.length_append,lv]
      refine h.setRow O lG (cells:=c1++(d1++(Act.eval ⟨T,ah.D cx⟩ y).cells.toList++d3)++c3) ?_ (dy (fun _ _=>cI la lb c.t) l4)
      refine⟨by simp only[List.length_set];exact ln,.inr ⟨W,lT,_,by rw[R];simp only[List.length_set],lU,setRow_heap _ _ _ _ _ _ lE,by simp only[List.length_set];exact lr,lV,?_,?_⟩⟩
      ·rw[List.size_toArray,lH,List.length_append,ln,<-lW,<-Array.length_toList,lp,List.length_append,lF]
      ·simp only[List.length_set]
       rw[lH,<-ln,List.take_left]
    ·cases o
   ·cases o
  ·cases o
 ·rename_i b p u q z lf lg l5
  have X:=l5
  obtain⟨g,U,lh⟩:=bf h lf
  split at o
  ·rename_i lz lM e Y
   split at o
   ·rename_i l6 lL aj l7 l8
    cases o
    obtain rfl:=ag.eq_of_beq l7
    have O:=bc Y
    obtain⟨W,ae,_,cells,li,e4⟩:=h.box O
    have:W=g:=by rw[U]at ae;cases ae;rfl
    subst this
    have lj:b∈st.ids:=List.mem_append.2 (.inl (List.mem_map.2 ⟨_,O,rfl⟩))
    have ls:ba w (av cx m st.ids) (Act.eval ⟨T,ah.D cx⟩ y) q z:=rA h X
    have lc:=j7 ls
    have le:=cf q lc
    have lt:(Act.eval ⟨T,ah.D cx⟩ y).cells.size=q.cells:=by rw[<-le];simp
    obtain⟨c1,c2,c3,lA,ld,ln,lu⟩:=DD (z:=⟨q,z⟩) lc p lz e4 l8 lB
    have lk:gc p+q.cells<=cells.size:=by
     rw[<-Array.length_toList,lA];simp only[List.length_append];omega
    have Z:=oa (P:=cx.P) lg li lt lk (hZ q lc)
    have lx:cells.toList.take (gc p)=c1:=by rw[lA,<-ld,List.append_assoc,List.take_left]
    have ly:cells.toList.drop (gc p+q.cells)=c3:=by
     rw[lA,<-ld,<-le,<-ln,<-List.length_append,List.drop_left]
    rw[lx,ly]at Z
    refine⟨_,by rw[lh];exact Z,?_⟩
    have R:Touch m w b (w.setRow W (c1++(Act.eval ⟨T,ah.D cx⟩ y).cells.toList++c3).toArray):=
     ⟨kZ _ _ _,fun k lC ll=>setRow_other _ _ _ _ (fun e=>ll (by rw[U,e];rfl))⟩
    obtain⟨lm,_⟩:=ko O h.keys (.aY lz l6 e)
    obtain⟨la,lb⟩:=an.ia (cx:=cx) lj R lm
    refine h.dd O R (g:=W) U ⟨_,setRow_heap _ _ _ _ _ _ li,?_⟩
    simp only[]
    exact cI la lb lz lu
   ·cases o
  ·cases o
 ·cases o
def uI(P:Program)(st:af)(t:TypeId)(x k v:Operand):Option af:=
 match aS st x,P.underlying t,dC st k,dC st v with
 |some (.iter b),some (.map O R),some U,some W=>match look st.ad b,ty P O,ty P R with
  |some (.mp o q ps),some X,some Y=>match U.as o,W.as q,X.beq o&&Y.beq q&&o.flat&&ed P 16 O with
   |some y,some z,true=>some (st.dd b (.mp o q (cl (aV o) ps y z)))
   |_,_,_=>none
  |_,_,_=>none
 |_,_,_,_=>none
theorem Vj(h:an cx m st T w){t:TypeId}{x k v:Operand}{st':af}(o:uI cx.P st t x k v=some st'):
  ∃w',(Instr.mapUpdate t (Act.eval ⟨T,ah.D cx⟩ x) (Act.eval ⟨T,ah.D cx⟩ k) (Act.eval ⟨T,ah.D cx⟩ v)).run cx.P w=.ok () w'/\an cx m st' T w':=by
 unfold uI at o
 split at o
 ·rename_i b ly lz lA lB lb lc ld le
  split at o
  ·rename_i lC lD ps O lf lg lh lE
   split at o
   ·rename_i y z li lj R
    cases o
    simp only[Bool.and_eq_true]at R
    obtain⟨⟨⟨lk,ll⟩,lm⟩,ln⟩:=R
    obtain rfl:=ag.eq_of_beq lk
    obtain rfl:=ag.eq_of_beq ll
    have lo:=al.dj li
    subst lo
    have lp:=al.dj lj
    subst lp
    have q:=bc lg
    obtain⟨g,ae,_,es,lF,U,lq,lr,ls⟩:=h.box q
    have ae:m b=.map (some g):=ae
    have lt:Act.eval ⟨T,ah.D cx⟩ x=.map (some g):=by have:Act.eval ⟨T,ah.D cx⟩ x=m b:=bf h lb;rw[this,ae]
    obtain⟨W,X,lu,lv,cS,eU⟩:=Jm (d:=jA) (d':=16) lc lh ln (by decide) lm (di h ld) (di h le) U lq lr ls
    have Y:Touch m w b {w with heap:=w.heap.setIfInBounds g (.map W X)}:=
     ⟨⟨rfl,rfl,rfl,by simp,fun _=>Nat.le_refl _⟩,fun k _ lw=>by
      show(w.heap.setIfInBounds g _)[k]? =_
      rw[Array.getElem?_setIfInBounds_ne]
      intro e
      exact lw (by rw[ae,e];rfl)⟩
    rw[lt]
    refine⟨_,lu,h.dd q Y (g:=g) ae ?_⟩
    have lx:b∈st.ids:=List.mem_append.2 (.inl (List.mem_map.2 ⟨_,q,rfl⟩))
    obtain⟨Z,la⟩:=an.ia (cx:=cx) lx Y (ids:=(st.dd b (.mp O lf (cl (aV O) ps y z))).ids) (ko q h.keys _).1
    refine⟨W,X,?_,lv,cS,ic (fun _ _ h=>dt Z la h) (fun _ _ h=>dt Z la h) eU⟩
    show(w.heap.setIfInBounds g _)[g]? =_
    rw[Array.getElem?_setIfInBounds_self_of_lt (gx U)]
   ·cases o
  ·cases o
 ·cases o
end Go.Ev
namespace Go.Ev
open Go Go.RowKit
variable [b8]
variable {P:Program} {w:World}
theorem HT(w:World)(aa:Obj):Same w (w.drew.alloc aa):=⟨rfl,rfl,rfl,by simp,fun _=>Nat.le_succ _⟩
theorem iU(w:World)(aa:Obj):Ext w (w.alloc aa):={os:=rfl,tape:=rfl,output:=rfl,size:=by simp,drawn:=by first|exact fun _=>Nat.le_refl _|exact fun _=>Nat.le_succ _,block:=fun b o=>Below.heap_alloc w aa b o}
theorem L6{e size m n:Nat}{z:Array Value}{xs o:List Value}(q:xs.length=n*size)(O:o.length=m*size)(U:z.size=size)(W:n+m<=maxLen)(old:Nat):
  (w.drew.alloc (.cells (xs.toArray++o.toArray++Builtin.zeroCells z (grownCap w (n+m) old e-(n+m))) e)).ownsRow 0 e size (.slice (some ⟨w.heap.size,0,none⟩) (n+m) (grownCap w (n+m) old e)) (n+m) (xs++o):=by
 have X:=grownCap_ge w (n+m) old e
 have Y:grownCap w (n+m) old e<=maxLen:=grownCap_le_maxLen w (n+m) old e W
 have R:(xs++o).length=(n+m)*size:=by rw[List.length_append,q,O,Nat.add_mul]
 refine⟨R,.inr ⟨w.heap.size,_,_,rfl,Nat.zero_le _,heap_alloc_new w.drew _,X,Y,?_,?_⟩⟩
 ·simp only[Array.size_append,List.size_toArray,size_zeroCells,U,q,O,<-Nat.add_mul]
  congr 1
  omega
 ·simp only[Array.toList_append,List.append_assoc]
  rw[<-List.append_assoc,<-R]
  exact List.take_left
theorem GN(t u ty e:TypeId)(i:TypeInfo)(z:Value)(W:P.underlying t=some (.slice e))(hu:(∃U,P.underlying u=some (.slice U))\/P.underlying u=some .string)(hi:P.info? e=some i)(lh:i.zero=some z)
  (li:z.cells.size=i.size)(x:Value)(m:Nat)(o:List Value)(X:Builtin.lenOf x=pure m)
  (lj:∀w',(∀b,b<w.heap.size->w'.heap[b]? =w.heap[b]?)->(Builtin.firstCells i.size m x).run P w'=.ok o.toArray w')
  (O:o.length=m*i.size)(lp:∀u∈o,u.oneCell'=true)(v:Value)(n:Nat)(xs:List Value)(lc:w.ownsRow 0 e i.size v n xs)
  (ld:n+m<=maxLen)(lk:(n+m)*i.bytes<=140737488355328):
  ∃v' w',(Builtin.append_ #[t,u] ty #[v,x]).run P w=.ok v' w'/\w'.ownsRow 0 e i.size v' (n+m) (xs++o)/\Same w w'/\
   (∀b,b<w.heap.size->aY v≠some b->w'.heap[b]? =w.heap[b]?)/\(∀g,aY v'=some g->aY v=some g\/(w.heap.size<=g/\g<w'.heap.size)):=by
 have lB:n+m<=9223372036854775807:=by simp only[maxLen]at ld;omega
 have ll:=lj w (fun _ _=>rfl)
 have lm:=lj w.drew (fun _ _=>rfl)
 have R:=lc.1
 rcases lc.2 with ⟨rfl,rfl⟩|⟨g,cap,cur,rfl,_,q,lC,lq,lr,ls⟩
 ·have lt:xs=[]:=List.eq_nil_of_length_eq_zero (by simpa using R)
  subst lt
  by_cases ln:m=0
  ·subst ln
   have lu:o=[]:=List.eq_nil_of_length_eq_zero (by simpa using O)
   subst lu
   refine⟨.slice none 0 0,w,?_,World.ownsRow_nil w 0 e i.size,⟨rfl,rfl,rfl,Nat.le_refl _,fun _=>Nat.le_refl _⟩,fun _ _ _=>rfl,fun g q=>by simp[aY]at q⟩
   rcases hu with ⟨U,hu⟩|hu<;>simp[Builtin.append_,run_underlying W,run_underlying hu,sizeOf,typeInfo,hi,X,ll]
  ·have lv:0<m:=by omega
   have le:¬(9223372036854775807<(m:Int)):=by omega
   have lf:=growslice_fits (old:=0) (need:=m) (bytes:=i.bytes) lv (by simpa using lk)
   have lg:¬(281474976710656<Builtin.nextslicecap m 0*i.bytes):=by omega
   have Y:=L6 (w:=w) (e:=e) R O li ld 0
   simp only[Nat.zero_add]at Y
   refine⟨.slice (some ⟨w.heap.size,0,none⟩) m (grownCap w m 0 e),w.drew.alloc (.cells (([]:List Value).toArray++o.toArray++Builtin.zeroCells z.cells (grownCap w m 0 e-m)) e),?_,by simpa using Y,HT _ _,fun b Z _=>Below.heap_alloc w.drew _ b Z,fun g q=>.inr ?_⟩
   ·rcases hu with ⟨U,hu⟩|hu<;>
     simp[Builtin.append_,run_underlying W,run_underlying hu,sizeOf,typeInfo,zeroValue,hi,lh,X,ln,le,lg,Question.forced,run_firstCells_none,lm,newRow,grownCap]
   ·simp[aY]at q
    subst q
    exact⟨Nat.le_refl _,by simp⟩
 ·by_cases la:n+m<=cap
  ·have lf:n*i.size+o.length<=cur.size:=by rw[O,lr,<-Nat.add_mul];exact Nat.mul_le_mul_right _ la
   have lo:=run_storeCells_at P g (n*i.size) e o 0 cur w q (by simpa using lf) lp
   simp only[Nat.add_zero]at lo
   refine⟨.slice (some ⟨g,0,none⟩) (n+m) cap,_,?_,⟨by rw[List.length_append,R,O,Nat.add_mul],.inr ⟨g,cap,_,rfl,Nat.zero_le _,setRow_heap w g cur (cur.toList.take (n*i.size)++o++cur.toList.drop (n*i.size+o.length)).toArray e (0,0) q,la,lq,?_,?_⟩⟩,
    kZ _ _ _,fun b Z lw=>setRow_other _ _ _ _ (fun e=>lw (by rw[e];rfl)),fun lx lb=>.inl lb⟩
   ·rcases hu with ⟨U,hu⟩|hu<;>
     simp[Builtin.append_,run_underlying W,run_underlying hu,sizeOf,typeInfo,hi,X,la,ll,Addr.add_lit,lo]
   ·simp only[List.size_toArray,List.length_append,List.length_take,List.length_drop,Array.length_toList]
    omega
   ·rw[ls]
    have ly:(xs++o).length=(n+m)*i.size:=by rw[List.length_append,R,O,Nat.add_mul]
    rw[<-ly]
    exact List.take_left
  ·have lz:∀j u,xs[j]? =some u->w.cell? ((⟨g,0,none⟩:Addr).add j)=some u:=lc.cells (g:=g) rfl
   have lf:=growslice_fits (old:=cap) (need:=n+m) (bytes:=i.bytes) (by omega) lk
   have le:¬(9223372036854775807<(n:Int)+(m:Int)):=by omega
   have lg:¬(281474976710656<Builtin.nextslicecap (n+m) cap*i.bytes):=by omega
   have lA:=run_firstCells_some (P:=P) w.drew i.size n ⟨g,0,none⟩ n cap xs R (by simpa using lz)
   have Y:=L6 (w:=w) (e:=e) R O li ld cap
   refine⟨.slice (some ⟨w.heap.size,0,none⟩) (n+m) (grownCap w (n+m) cap e),_,?_,Y,HT _ _,fun b Z _=>Below.heap_alloc w.drew _ b Z,fun lx lb=>.inr ?_⟩
   ·rcases hu with ⟨U,hu⟩|hu<;>
     simp[Builtin.append_,run_underlying W,run_underlying hu,sizeOf,typeInfo,zeroValue,hi,lh,X,la,le,lg,Question.forced,lA,lm,newRow,grownCap]<;>
     rw[<-List.append_toArray,Array.append_assoc]
   ·simp[aY]at lb
    subst lb
    exact⟨Nat.le_refl _,by simp⟩
end Go.Ev
namespace Go.Ev
open Go Go.RowKit
variable [b8]
structure Ax where
 aU:ao
 st:af
 orc:List al
 ob:List Prop
def ye(P:Program)(t:TypeId):Option (TypeId×ag):=
 match P.info? t with
 |some i=>match i.zero with
  |some (.slice none 0 0)=>Il P t
  |_=>none
 |none=>none
where
 Il (P:Program) (t:TypeId):Option (TypeId×ag):=
  match P.underlying t with
  |some (.slice e)=>match ty P e with
   |some u=>bif Nat.beq u.cells 0 then none else some (e,u)
   |none=>none
  |_=>none
def uP(P:Program)(t:TypeId):Option (Nat×ag):=
 match P.info? t,se P t with
 |some i,some (n,.int k)=>match i.zero with
  |some (.agg cs)=>match zp k n cs.toList&&Nat.ble n maxLen with
   |true=>some (n,.int k)
   |false=>none
  |_=>none
 |_,_=>none
where
 zp (k:IntKind):Nat->List Value->Bool
  |0,[]=>true
  |n+1,.int k' x::l=>gN k k'&&(x==0&&zp k n l)
  |_,_=>false
def EP(P:Program)(t:TypeId):Option TypeId:=
 match P.info? t,P.underlying t with
 |some i,some (.struct ap)=>match i.zero,ap.toList with
  |some (.agg cs),[_,f1]=>match cs.toList,ye.Il P f1.type with
   |[.pointer none,.slice none 0 0],some (e,.int .u8)=>some e
   |_,_=>none
  |_,_=>none
 |_,_=>none
def qv(st:af):ao->Bool
 |.row r=>(look st.rw r).isSome
 |.osl b=>wx (look st.ad b)
 |.iter b=>wi (look st.ad b)
 |_=>true
def oL(st:af)(u:ag):Nat->List (Nat×Operand)->Option (List u.el)
 |_,[]=>some []
 |k,(i,aa)::r=>match Nat.beq i k,CJ st aa with
  |true,some v=>match v.as u,oL st u (k+1) r with
   |some x,some xs=>some (x::xs)
   |_,_=>none
  |_,_=>none
def dY(P:Program)(t:TypeId):Option (TypeId×ag):=
 match P.underlying t with
 |some (.slice e)=>match ty P e with
  |some u=>bif Nat.beq u.cells 0 then none else some (e,u)
  |none=>none
 |_=>none
def vE(P:Program)(st:af)(d:Nat)(t:TypeId):Operand->Option (Nat×cG)
 |.const (.slice none 0 0)=>match dY P t with
  |some (e,u)=>some (d,⟨e,u,[]⟩)
  |none=>none
 |x=>match aS st x with
  |some (.row r)=>match look st.rw r with
   |some c=>some (r,c)
   |none=>none
  |_=>none
def dB(s:List UInt8):List Int:=s.map fun b=>(b.toNat:Int)
def mS(P:Program)(st:af)(u:ag)(t:TypeId)(x:Operand):Option (List u.el):=
 match aS st x with
 |some (.row r)=>match P.underlying t with
  |some (.slice _)=>match look st.rw r with
   |some c=>al.as ⟨.ab c.t,c.xs⟩ (.ab u)
   |none=>none
  |_=>none
 |some (.val (.ab o) xs)=>match P.underlying t with
  |some (.slice _)=>al.as ⟨.ab o,xs⟩ (.ab u)
  |_=>none
 |some (.val .str s)=>match P.underlying t with
  |some .string=>al.as ⟨.ab (.int .u8),dB s⟩ (.ab u)
  |_=>none
 |_=>none
def oe(P:Program)(e:TypeId):Bool:=
 match P.info? e with
 |some i=>Nat.ble i.bytes 65536
 |none=>false
def gE(s:List UInt8)(p:Nat):Int:=((Utf8.decode (bytesOf s) p).1:Int)
def ji(s:List UInt8)(p:Nat):Nat:=(Utf8.decode (bytesOf s) p).2
def ED(st:af):Option Operand->Bool
 |none=>true
 |some x=>(eA (aS st x)).isSome
def mc(P:Program)(st:af)(aa:Oper)(d:Nat)(orc:List al):Option Ax:=
 match aa.op with
 |.move (.const (.slice none 0 0))=>match dY P aa.type with
  |some (e,u)=>some ⟨.row d,st.dq d ⟨e,u,[]⟩,orc,[]⟩
  |none=>none
 |.assign (.const (.slice none 0 0))=>match dY P aa.type with
  |some (e,u)=>some ⟨.row d,st.dq d ⟨e,u,[]⟩,orc,[]⟩
  |none=>none
 |.alloc t=>match uP P t with
  |some (n,u)=>some ⟨.dU d 0 0 u.cells,st.dq d ⟨t,u,List.replicate n (b9 u)⟩,orc,[]⟩
  |none=>match ye P t with
  |some (e,u)=>bif Nat.blt (d+1000000) eG then some ⟨.ptr d 0,(st.dq (d+1000000) ⟨e,u,[]⟩).dn d (.cells ([ao.row (d+1000000)].map (ao.dv d)) t),orc,[]⟩else none
  |none=>match EP P t with
   |some e=>bif Nat.blt (d+1000000) eG then some ⟨.ptr d 0,(st.dq (d+1000000) ⟨e,.int .u8,[]⟩).dn d (.cells [.fp d,.row (d+1000000)] t),orc,[]⟩else none
   |none=>match zeroOf P t with
   |some u=>bif zN u then some ⟨.dW d [],st.dn d (.aY u (b9 u) t),orc,[]⟩else some ⟨.ptr d 0,st.dn d (.cells (leaves u (b9 u)) t),orc,[]⟩
   |none=>none
 |.box t x=>match ty P t,aS st x with
  |some u,some s=>match sH u s,qv st s with
   |some l,true=>some ⟨.ptr d 0,st.dn d (.cells (l.map (ao.dv d)) t),orc,[]⟩
   |_,_=>none
  |_,_=>none
 |.buildSlice t n parts=>match dY P t with
  |some (e,u)=>match oL st u 0 parts.toList with
   |some xs=>match Nat.beq xs.length n,Nat.ble (n*u.cells) 16777216,zeroOf P e with
    |true,true,some _=>some ⟨.row d,st.dq d ⟨e,u,xs⟩,orc,[]⟩
    |_,_,_=>none
   |none=>none
  |none=>none
 |.build t parts=>match ty P t,P.underlying t,P.info? t with
  |some (.arr n u),some (.array _ e),some i=>match oL st u 0 parts.toList,ty P e,i.zero with
   |some xs,some o,some z=>match Nat.beq xs.length n&&u.beq o&&Nat.beq z.cells.size (n*u.cells)with
    |true=>some ⟨.val (.arr n u) xs,st,orc,[]⟩
    |false=>none
   |_,_,_=>none
  |_,_,_=>none
 |.makeSlice t l c=>match dY P t,eA (aS st l),eA (aS st c)with
  |some (e,u),some n,some k=>match oe P e,zeroOf P e with
   |true,some o=>bif u.beq o then some ⟨.row d,st.dq d ⟨e,u,List.replicate n.toNat (b9 u)⟩,orc,[0<=n/\n<=k/\k<=(bC:Int)]⟩else none
   |_,_=>none
  |_,_,_=>none
 |.range t x=>match dC st x,P.underlying t with
  |some ⟨.str,s⟩,some .string=>some ⟨.iter d,st.dn d (.iter s 0),orc,[]⟩
  |some ⟨.map k v,y⟩,some (.map _ _)=>some ⟨.iter d,st.dn d (.cu k v ((show Option (List (k.el×v.el))from y).getD []) []),orc,[]⟩
  |_,_=>none
 |.makeMap t r=>match P.underlying t with
  |some (.map O R)=>match ty P O,ty P R with
   |some k,some v=>match k.flat&&ed P 16 O&&ED st r with
    |true=>some ⟨.iter d,st.dn d (.mp k v []),orc,[]⟩
    |false=>none
   |_,_=>none
  |_=>none
 |.next x false=>match aS st x with
  |some (.iter b)=>match look st.ad b with
   |some (.cu _ _ left _)=>some ⟨.dI [⟨.bool,false⟩],st,orc,[left=[]]⟩
   |_=>none
  |_=>none
 |.entry x=>match aS st x with
  |some (.iter b)=>match look st.ad b with
   |some (.cu k v _ [p])=>some ⟨.dI [⟨k,p.1⟩,⟨v,p.2⟩],st,orc,[]⟩
   |_=>none
  |_=>none
 |.next x true=>match aS st x,orc with
  |some (.iter b),⟨.bool,U⟩::orc'=>match look st.ad b with
   |some (.iter s p)=>match U with
    |true=>some ⟨.dI [⟨.bool,true⟩,⟨.int .i64,(p:Int)⟩,⟨.int .i32,gE s p⟩],st.dd b (.iter s (p+ji s p)),orc',[p<s.length]⟩
    |false=>some ⟨.dI [⟨.bool,false⟩],st,orc',[s.length<=p]⟩
   |_=>none
  |_,_=>none
 |.convert src W x=>match dC st x,P.underlying src,dY P W with
  |some ⟨.str,s⟩,some .string,some (e,.int .i32)=>some ⟨.row d,st.dq d ⟨e,.int .i32,dS s⟩,orc,[]⟩
  |some ⟨.str,s⟩,some .string,some (_,.int .u8)=>some ⟨.val (.ab (.int .u8)) (dB s),st,orc,[]⟩
  |_,_,_=>none
 |.makeFunc (.func f) first eX=>match first.toList,mc.rH st eX.toList with
  |[],some bs=>some ⟨.clos f bs,st,orc,[]⟩
  |[x],some []=>match aS st x with
   |some (.ptr b 0)=>some ⟨.ca f b,st,orc,[]⟩
   |_=>none
  |_,_=>none
 |.slice t x none (some h) none=>match aS st x,dY P t,eA (aS st h)with
  |some (.row r),some (e,u),some n=>match look st.rw r with
   |some c=>match Nat.beq c.e e,c.t.beq u,Nat.blt r eG with
    |true,true,true=>some ⟨.row r,st.dq r ⟨c.e,c.t,c.xs.take n.toNat⟩,orc,[0<=n/\n<=(c.xs.length:Int)]⟩
    |_,_,_=>none
   |none=>none
  |_,_,_=>none
 |.slice t x (some l) none none=>match aS st x,eA (aS st l),se P t,orc with
  |some (.dU r i0 X Y),some n,some (len,u),v::orc'=>match look st.rw r with
   |some c=>match c.t.beq u&&(i0==0&&(Nat.beq X 0&&Nat.beq Y c.t.cells)),v.as (.ab c.t)with
    |true,some q=>some ⟨.val (.ab c.t) q,st.freeze r c,orc',[dz c.xs n (c.xs.length:Int)=some q,c.xs.length=len]⟩
    |_,_=>none
   |none=>none
  |_,_,_,_=>none
 |.call c=>match c with
  |{callee:=.builtin .append,args:=args,argTypes:=Z}=>match args.toList,Z.toList with
   |[s,x],[t,la]=>match dY P t,vE P st d t s with
    |some (e,u),some (r,c)=>match Nat.beq c.e e,c.t.beq u,oe P e,zeroOf P e,mS P st c.t la x with
     |true,true,true,some o,some q=>bif u.beq o&&Nat.blt r eG then some ⟨.row r,st.dq r ⟨c.e,c.t,c.xs++q⟩,orc,[c.xs.length+q.length<=bC]⟩else none
     |_,_,_,_,_=>none
    |_,_=>none
   |_,_=>none
  |_=>none
 |_=>none
where
 rH (st:af):List Operand->Option (List Nat)
  |[]=>some []
  |x::r=>match aS st x,rH st r with
   |some (.ptr b 0),some bs=>some (b::bs)
   |_,_=>none
variable {cx:bI} {m:Nat->Value} {st:af} {T:Array Value} {w w':World}
variable [ah cx]
theorem jz{P:Program}{t:TypeId}{e:TypeId}{u:ag}(h:dY P t=some (e,u)):P.underlying t=some (.slice e)/\ty P e=some u/\0<u.cells:=by
 unfold dY at h
 split at h
 ·rename_i U q
  split at h
  ·rename_i O R
   cases o:Nat.beq O.cells 0 with
   |true=>rw[o]at h;cases h
   |false=>rw[o]at h;cases h;exact⟨q,R,Nat.pos_of_ne_zero (beq_false o)⟩
  ·cases h
 ·cases h
def eS(cx:bI)[ah cx](T:Array Value)(w:World)(aa:Oper)(r:Ax):Prop:=
 ∃v w' aI,(execOp (Act.eval ⟨T,ah.D cx⟩) aa).run cx.P w=.ok (.value v) w'/\an cx aI r.st T w'/\aT w' (av cx aI r.st.ids) aI v r.aU
theorem cn{aa:Oper}{s:Sem Value}{v:Value}(o:execOp (Act.eval ⟨T,ah.D cx⟩) aa=(do pure (Next.value (<-s))))(q:s.run cx.P w=.ok v w'):
  (execOp (Act.eval ⟨T,ah.D cx⟩) aa).run cx.P w=.ok (.value v) w':=by
 rw[o,Sem.run_bind,q]
 rfl
theorem pX(h:an cx m st T w):cx.w0.heap.size<=w.heap.size:=h.frame.size
theorem vA(h:an cx m st T w){d:Nat}(ai:d<cx.n){cells:Array Value}{e:Nat}{l:List ao}(q:ct w (av cx m st.ids) m cells.toList l):
  an cx (bG m d (.pointer (some ⟨w.heap.size,0,none⟩))) (st.dn d (.cells (l.map (ao.dv d)) e)) T (w.alloc (.cells cells e)):=by
 have o:dw cx m st w d (fC w.heap.size (.cells (l.map (ao.dv d)) e)) (w.alloc (.cells cells e)):=
  dw.fresh h d _ (iU _ _) fun g O=>by cases mB O;exact⟨Nat.le_refl _,by simp⟩
 have R:∀i,i∈(st.dn d (.cells (l.map (ao.dv d)) e)).ids->i=d\/i∈st.ids:=by
  intro i hi
  rw[w6]at hi
  rcases List.mem_cons.1 hi with hi|hi
  ·exact .inl hi
  ·exact .inr ((nV st d i).1 hi).1
 refine h.dn ai o (.inl (pX h)) ⟨cells,heap_alloc_new w _,?_⟩
 exact vk (fun v s U=>Ce d _ (fE o.keeps (o.mut R) U:aT _ (av cx _ _) m v s)) q
theorem wd{r:Nat}{c:cG}:∀i,i∈(st.dq r c).ids->i=r\/i∈st.ids:=by
 intro i hi
 rcases(Hn st r c i).1 hi with hi|hi
 ·exact .inl hi
 ·exact .inr ((nV st r i).1 hi).1
theorem XA(d:Nat):∀(t:ag) (x:t.el),(leaves t x).map (ao.dv d)=leaves t x:=by
 intro t
 induction t with
 |pair a b o q=>intro x;simp only[leaves,List.map_append,o,q]
 |arr n t O=>
  intro x
  show((x:List t.el).flatMap (leaves t)).map (ao.dv d)=(x:List t.el).flatMap (leaves t)
  induction(x:List t.el)with
  |nil=>rfl
  |cons y U R=>rw[List.flatMap_cons,List.map_append,O,R]
 |_=>intro x;rfl
theorem U5(h:an cx m st T w){aa:Oper}{d:Nat}(ai:d<cx.n){t:TypeId}{u:ag}(o:aa.op=.alloc t)(q:zeroOf cx.P t=some u){orc:List al}:
  eS cx T w aa ⟨.ptr d 0,st.dn d (.cells (leaves u (b9 u)) t),orc,[]⟩:=by
 obtain⟨i,z,U,hi,W,O,R⟩:=kg q
 have:=vA h ai (cells:=z.cells) (e:=t) (xM u (R w (av cx m st.ids)))
 rw[XA]at this
 refine⟨_,_,_,cn (s:=Instr.alloc t true (.tuple #[])) (by simp only[execOp,o]) ?_,this,w.heap.size,b7 _ _ _,rfl⟩
 simp[Instr.alloc,zeroValue,typeInfo,hi,O,newVar,newRow]
theorem QE(h:an cx m st T w){aa:Oper}{d:Nat}(ai:d<cx.n){t:TypeId}{u:ag}(o:aa.op=.alloc t)(q:zeroOf cx.P t=some u){orc:List al}:
  eS cx T w aa ⟨.dW d [],st.dn d (.aY u (b9 u) t),orc,[]⟩:=by
 obtain⟨i,z,X,hi,Y,O,R⟩:=kg q
 have U:dw cx m st w d (fC w.heap.size (.aY u (b9 u) t)) (w.alloc (.cells z.cells t)):=
  dw.fresh h d _ (iU _ _) fun g W=>by cases mB W;exact⟨Nat.le_refl _,by simp⟩
 refine⟨.pointer (some ⟨w.heap.size,0,none⟩),w.alloc (.cells z.cells t),_,cn (s:=Instr.alloc t true (.tuple #[])) (by simp only[execOp,o]) ?_,
  h.dn ai U (.inl h.frame.size) ⟨z.cells,heap_alloc_new w _,R _ _⟩,w.heap.size,by rw[b7];rfl,rfl⟩
 simp[Instr.alloc,zeroValue,typeInfo,hi,O,newVar,newRow,Value.cells]
theorem WU(h:an cx m st T w){aa:Oper}{d:Nat}(ai:d<cx.n){t:TypeId}{u:ag}{x:Operand}{s:ao}{l:List ao}(O:aa.op=.box t x)(o:aS st x=some s)(R:sH u s=some l)(q:qv st s=true){orc:List al}:
  eS cx T w aa ⟨.ptr d 0,st.dn d (.cells (l.map (ao.dv d)) t),orc,[]⟩:=by
 have U:∀r,s=.row r\/s=.osl r\/s=.iter r->(Act.eval ⟨T,ah.D cx⟩ x).oneCell'=true:=by
  rintro r (rfl|rfl|rfl)
  ·simp only[qv]at q
   obtain⟨c',W⟩:=Option.isSome_iff_exists.1 q
   rw[show Act.eval ⟨T,ah.D cx⟩ x=m r from bf h o]
   exact row_one h (bc W)
  ·exact Lx h q (bf h o)
  ·exact LZ h q (bf h o)
 obtain⟨aC,aA,bW⟩:=Jw U (bf h o) R
 have:=vA h ai (cells:=(Act.eval ⟨T,ah.D cx⟩ x).cells) (e:=t) aC
 refine⟨_,_,_,cn (s:=Instr.box t (Act.eval ⟨T,ah.D cx⟩ x)) (by simp only[execOp,O]) ?_,this,w.heap.size,b7 _ _ _,rfl⟩
 simp[Instr.box,newVar,newRow]
theorem r7(h:an cx m st T w)(d:Nat)(U:d<cx.n\/d<eG){cur:Array Value}{cells:List Value}{e cap:Nat}{u:ag}{xs:List u.el}(w':World)(W:Ext w w')(O:w'.heap[w.heap.size]? =some (.cells cur e (0,0)))
  (X:xs.length<=cap)(Y:cap<=maxLen)(Z:cur.size=cap*u.cells)(la:cur.toList.take (xs.length*u.cells)=cells)(R:bL (aJ w (av cx m st.ids) u) cells xs):
  an cx (bG m d (.slice (some ⟨w.heap.size,0,none⟩) xs.length cap)) (st.dq d ⟨e,u,xs⟩) T w':=by
 have o:dw cx m st w d (.slice (some ⟨w.heap.size,0,none⟩) xs.length cap) w':=
  dw.fresh h d _ W fun g q=>by cases q;exact⟨Nat.le_refl _,Ej O⟩
 have lb:=jw (fun _ _=>cf u) _ _ R
 refine h.dq U o (fun g q=>by cases q;exact .inl (pX h)) ⟨lb,.inr ⟨w.heap.size,cap,cur,rfl,Nat.zero_le _,O,X,Y,Z,la⟩⟩ (dy (fun _ _=>cI o.keeps (o.mut wd) u) R)
theorem tU(h:an cx m st T w)(d e:Nat)(q:d<cx.n\/d<eG)(u:ag):an cx (bG m d (.slice none 0 0)) (st.dq d ⟨e,u,[]⟩) T w:=by
 have O:dw cx m st w d (.slice none 0 0) w:=dw.fresh h d _ (Ext.refl w) fun g o=>by cases o
 exact h.dq q O (fun g o=>by cases o) (World.ownsRow_nil w 0 e u.cells) rfl
theorem S9(h:an cx m st T w){aa:Oper}{d:Nat}(ai:d<cx.n)(q:d+1000000<eG){t e:TypeId}{u:ag}(O:aa.op=.alloc t)(o:ye cx.P t=some (e,u)){orc:List al}:
  eS cx T w aa ⟨.ptr d 0,(st.dq (d+1000000) ⟨e,u,[]⟩).dn d (.cells ([ao.row (d+1000000)].map (ao.dv d)) t),orc,[]⟩:=by
 unfold ye at o
 split at o
 ·rename_i i hi
  split at o
  ·rename_i R
   have U:=tU h (d+1000000) e (.inr q) u
   have:=vA U ai (cells:=#[.slice none 0 0]) (e:=t) (l:=[ao.row (d+1000000)]) ⟨(b7 _ _ _).symm,trivial⟩
   refine⟨_,_,_,cn (s:=Instr.alloc t true (.tuple #[])) (by simp only[execOp,O]) ?_,this,w.heap.size,b7 _ _ _,rfl⟩
   simp[Instr.alloc,zeroValue,typeInfo,hi,R,newVar,newRow,Value.cells]
  ·cases o
 ·cases o
theorem Ny(h:an cx m st T w){aa:Oper}{d:Nat}(ai:d<cx.n)(O:d+1000000<eG){t e:TypeId}(R:aa.op=.alloc t)(o:EP cx.P t=some e){orc:List al}:
  eS cx T w aa ⟨.ptr d 0,(st.dq (d+1000000) ⟨e,.int .u8,[]⟩).dn d (.cells [.fp d,.row (d+1000000)] t),orc,[]⟩:=by
 unfold EP at o
 split at o
 ·rename_i i ap hi la
  split at o
  ·rename_i cs f0 f1 U lb
   split at o
   ·rename_i lc W ld
    cases o
    have X:cs=#[.pointer none,.slice none 0 0]:=Array.ext' (by rw[W])
    have q:=tU h (d+1000000) e (.inr O) (.int .u8)
    have Y:dw cx (bG m (d+1000000) (.slice none 0 0)) (st.dq (d+1000000) ⟨e,.int .u8,[]⟩) w d (fC w.heap.size (.cells [.fp d,.row (d+1000000)] t)) (w.alloc (.cells #[.pointer none,.slice none 0 0] t)):=
     dw.fresh q d _ (iU _ _) fun g Z=>by cases mB Z;exact⟨Nat.le_refl _,by simp⟩
    have:=q.dn ai Y (.inl (pX q)) ⟨#[.pointer none,.slice none 0 0],heap_alloc_new w _,.inl rfl,by
     show _=bG _ d _ (d+1000000)
     rw[cX _ _ (by omega),b7],trivial⟩
    refine⟨_,_,_,cn (s:=Instr.alloc t true (.tuple #[])) (by simp only[execOp,R]) ?_,this,w.heap.size,b7 _ _ _,rfl⟩
    simp[Instr.alloc,zeroValue,typeInfo,hi,U,newVar,newRow,Value.cells,X]
   ·cases o
  ·cases o
 ·cases o
theorem MY{k:IntKind}:∀{n:Nat} {l:List Value},uP.zp k n l=true->l=List.replicate n (.int k 0)
 |0,[],_=>rfl
 |0,_::_,h=>by cases h
 |n+1,[],h=>by cases h
 |n+1,v::l,h=>by
  cases v<;>simp only[uP.zp,Bool.false_eq_true]at h
  simp only[Bool.and_eq_true,beq_iff_eq]at h
  obtain⟨o,q,O⟩:=h
  rw[<-nq o,q,MY O]
  rfl
theorem Jy{M:Nat->Prop}{k:IntKind}:∀(n:Nat),bL (aJ w M (.int k)) (List.replicate n (.int k 0)) (List.replicate n (b9 (.int k)))
 |0=>rfl
 |n+1=>⟨[.int k 0],List.replicate n (.int k 0),rfl,rfl,Jy n⟩
theorem Q2(h:an cx m st T w){aa:Oper}{d:Nat}(ai:d<cx.n){t:TypeId}{n:Nat}{u:ag}(U:aa.op=.alloc t)(o:uP cx.P t=some (n,u)){orc:List al}:
  eS cx T w aa ⟨.dU d 0 0 u.cells,st.dq d ⟨t,u,List.replicate n (b9 u)⟩,orc,[]⟩:=by
 unfold uP at o
 split at o
 ·rename_i i Y k hi Z
  split at o
  ·rename_i cs W
   split at o
   ·rename_i q
    cases o
    rw[Bool.and_eq_true]at q
    have O:=MY q.1
    have X:=Nat.le_of_ble_eq_true q.2
    have R:cs.size=n:=by rw[<-Array.length_toList,O,List.length_replicate]
    have:=r7 h d (.inl ai) (xs:=List.replicate n (b9 (.int k))) (cells:=cs.toList) (cur:=cs) (u:=.int k) (e:=t) (cap:=n) (w.alloc (.cells cs t)) (iU _ _) (heap_alloc_new w _) (by rw[List.length_replicate];exact Nat.le_refl _) X (by rw[R];simp[ag.cells])
     (by rw[List.length_replicate];simp only[ag.cells,Nat.mul_one];rw[List.take_of_length_le (by rw[Array.length_toList,R];exact Nat.le_refl _)]) (by rw[O];exact Jy n)
    rw[List.length_replicate]at this
    refine⟨.pointer (some ⟨w.heap.size,0,none⟩),_,_,cn (s:=Instr.alloc t true (.tuple #[])) (by simp only[execOp,U]) ?_,this,w.heap.size,_,_,b7 _ _ _,by simp⟩
    simp[Instr.alloc,zeroValue,typeInfo,hi,W,newVar,newRow,Value.cells]
   ·cases o
  ·cases o
 ·cases o
theorem Nf(h:an cx m st T w){aa:Oper}{d e:Nat}(ai:d<cx.n){u:ag}(o:aa.op=.move (.const (.slice none 0 0))\/aa.op=.assign (.const (.slice none 0 0))){orc:List al}:
  eS cx T w aa ⟨.row d,st.dq d ⟨e,u,[]⟩,orc,[]⟩:=by
 refine⟨.slice none 0 0,w,_,?_,tU h d e (.inl ai) u,(b7 _ _ _).symm⟩
 rcases o with o|o<;>simp[execOp,o,Act.eval]
theorem QH(h:an cx m st T w){aa:Oper}{d:Nat}(ai:d<cx.n){t:TypeId}{x:Operand}{s:List UInt8}(o:aa.op=.range t x)(q:dC st x=some ⟨.str,s⟩)(O:cx.P.underlying t=some .string){orc:List al}:
  eS cx T w aa ⟨.iter d,st.dn d (.iter s 0),orc,[]⟩:=by
 obtain⟨R,_⟩:=eO.1 (di h q)
 have U:dw cx m st w d (fC w.heap.size (.iter s 0)) (w.iter (bytesOf s) 0):=
  dw.fresh h d _ (iU _ _) fun g W=>by cases mB W;exact⟨Nat.le_refl _,by simp[World.iter]⟩
 refine⟨.pointer (some ⟨w.heap.size,0,none⟩),w.iter (bytesOf s) 0,_,cn (s:=Instr.range t (.string (bytesOf s))) (by simp only[execOp,o,R];rfl) (run_range_string _ _ _ O),
  h.dn ai U (.inl (pX h)) (World.iter_heap _ _ _),(b7 _ _ _).symm⟩
theorem Vu(w:World)(g:Nat)(aa:Obj):Same w {w with heap:=w.heap.setIfInBounds g aa}:=⟨rfl,rfl,rfl,by simp,fun _=>Nat.le_refl _⟩
theorem Tg(h:an cx m st T w){aa:Oper}{d:Nat}(ai:d<cx.n){t:TypeId}{x:Operand}{k v:ag}{y:(ag.map k v).el}{la lb:TypeId}(X:aa.op=.range t x)(lc:dC st x=some ⟨.map k v,y⟩)(Y:cx.P.underlying t=some (.map la lb)){orc:List al}:
  eS cx T w aa ⟨.iter d,st.dn d (.cu k v ((show Option (List (k.el×v.el))from y).getD []) []),orc,[]⟩:=by
 have o:=(bA (t:=.map k v) rfl).1 (di h lc)
 match y,o with
 |none,o=>
  have o:[Act.eval ⟨T,ah.D cx⟩ x]=[Value.map none]:=o
  simp only[List.cons.injEq,and_true]at o
  have q:dw cx m st w d (fC w.heap.size (.cu k v [] [])) (w.alloc (.mapIter none 0 #[] 0)):=
   dw.fresh h d _ (iU _ _) fun g R=>by cases mB R;exact⟨Nat.le_refl _,by simp⟩
  refine⟨.pointer (some ⟨w.heap.size,0,none⟩),w.alloc (.mapIter none 0 #[] 0),_,cn (s:=Instr.range t (.map none)) (by simp only[execOp,X,o]) ?_,
   h.dn ai q (.inl h.frame.size) (.inl ⟨heap_alloc_new w _,rfl,rfl⟩),?_⟩
  ·simp[Instr.range,run_underlying Y,newObj,Sem.run]
  ·show _=bG m d _ d
   rw[b7];rfl
 |some ps,⟨b,es,O,e,U,ld,le,lf,lg⟩=>
  simp only[List.cons.injEq,and_true]at e
  have Z:=gx U
  have q:dw cx m st w d (fC w.heap.size (.cu k v ps [])) (w.alloc (.mapIter (some b) O #[] O)):=
   dw.fresh h d _ (iU _ _) fun g R=>by cases mB R;exact⟨Nat.le_refl _,by simp⟩
  have W:=q.mut (ids:=(st.dn d (.cu k v ps [])).ids) (fun i hi=>by rcases List.mem_cons.1 hi with hi|hi;exact .inl hi;exact .inr ((nV st d i).1 hi).1)
  refine⟨.pointer (some ⟨w.heap.size,0,none⟩),w.alloc (.mapIter (some b) O #[] O),_,cn (s:=Instr.range t (.map (some b))) (by simp only[execOp,X,e]) ?_,
   h.dn ai q (.inl h.frame.size) (.inr ⟨b,es,O,#[],heap_alloc_new w _,?_,fun lh=>ld (W b Z lh),le,lf,?_,.inl rfl⟩),?_⟩
  ·simp[Instr.range,run_underlying Y,newObj,getObj,Sem.run,U]
  ·rw[Below.heap_alloc w _ b Z];exact U
  ·have li:es.toList.filter (fun e=>!(#[]:Array Nat).contains e.born)=es.toList:=List.filter_eq_self.2 fun a _=>by simp
   rw[li]
   exact ic (fun _ _ h=>dt q.keeps W h) (fun _ _ h=>dt q.keeps W h) lg
  ·show _=bG m d _ d
   rw[b7];rfl
theorem Vq(h:an cx m st T w){aa:Oper}{d:Nat}(ai:d<cx.n){t:TypeId}{r:Option Operand}{k v:ag}{q O:TypeId}(R:aa.op=.makeMap t r)(U:cx.P.underlying t=some (.map q O))(o:ED st r=true){orc:List al}:
  eS cx T w aa ⟨.iter d,st.dn d (.mp k v []),orc,[]⟩:=by
 have W:dw cx m st w d (fC w.heap.size (.mp k v [])) (w.alloc (.map #[] 0)):=
  dw.fresh h d _ (iU _ _) fun g X=>by cases mB X;exact⟨Nat.le_refl _,by simp⟩
 refine⟨.map (some w.heap.size),w.alloc (.map #[] 0),_,cn (s:=Instr.makeMap t (r.map (Act.eval ⟨T,ah.D cx⟩))) (by simp only[execOp,R]) ?_,
  h.dn ai W (.inl h.frame.size) ⟨#[],0,heap_alloc_new w _,fun e Y=>by simp at Y,by simp,trivial⟩,?_⟩
 ·cases r with
  |none=>rfl
  |some x=>
   unfold ED at o
   obtain⟨n,Z⟩:=Option.isSome_iff_exists.1 o
   obtain⟨k',la⟩:=fx h Z
   simp[Instr.makeMap,run_underlying U,la,asInt,asIntOf,newObj,Sem.run]
 ·show _=bG m d _ d
  rw[b7];rfl
theorem M1(h:an cx m st T w){aa:Oper}{x:Operand}{b:Nat}{k v:ag}{left last:List (k.el×v.el)}(q:aa.op=.next x false)(U:aS st x=some (.iter b))(W:look st.ad b=some (.cu k v left last))(X:left=[]){orc:List al}{ob:List Prop}:
  eS cx T w aa ⟨.dI [⟨.bool,false⟩],st,orc,ob⟩:=by
 subst X
 obtain⟨g,ae,_,Y⟩:=h.box (bc W)
 have O:Act.eval ⟨T,ah.D cx⟩ x=.pointer (some ⟨g,0,none⟩):=by have:Act.eval ⟨T,ah.D cx⟩ x=m b:=bf h U;rw[this,ae];rfl
 rcases Y with ⟨o,_⟩|⟨le,es,R,seen,o,Z,_,la,lf,lb,_⟩
 ·refine⟨.tuple #[.bool false],w,m,cn (s:=Instr.next (.pointer (some ⟨g,0,none⟩)) false aa.type) (by simp only[execOp,q,O]) ?_,h,⟨[.bool false],rfl,dF.2 rfl,trivial⟩⟩
  simp[Instr.next,getObj,Sem.run,o]
 ·have lc:es.toList.filter (fun e=>!seen.contains e.born)=[]:=List.eq_nil_of_length_eq_zero (by rw[uc lb];rfl)
  refine⟨.tuple #[.bool false],w,m,cn (s:=Instr.next (.pointer (some ⟨g,0,none⟩)) false aa.type) (by simp only[execOp,q,O]) ?_,h,⟨[.bool false],rfl,dF.2 rfl,trivial⟩⟩
  have ld:es.filter (fun e=>!seen.contains e.born)=#[]:=by
   apply Array.toList_inj.1
   rw[Array.toList_filter]
   exact lc
  simp only[Instr.next,getObj,Sem.run_bind,Sem.run,o,Z,Result.andThen,next_test_false seen es R R la (Nat.le_refl _),Bool.false_eq_true,if_false,ld]
  simp[choose,Sem.run,Question.forced]
theorem find_born:∀(l:List MapEntry) (e:MapEntry),(l.map (·.born)).Nodup->e∈l->l.find? (fun x=>x.born==e.born)=some e
 |[],e,_,he=>by cases he
 |x::l,e,q,he=>by
  rw[List.map_cons,List.nodup_cons]at q
  rw[List.find?_cons]
  by_cases o:x.born=e.born
  ·rw[show(x.born==e.born)=true from beq_iff_eq.2 o]
   rcases List.mem_cons.1 he with he|he
   ·rw[he]
   ·exact absurd (List.mem_map.2 ⟨e,he,o.symm⟩) q.1
  ·rw[show(x.born==e.born)=false from beq_eq_false_iff_ne.2 o]
   rcases List.mem_cons.1 he with he|he
   ·exact absurd (by rw[he]) o
   ·exact find_born l e q.2 he
theorem TX(h:an cx m st T w){aa:Oper}{x:Operand}{b:Nat}{k v:ag}{left:List (k.el×v.el)}{p:k.el×v.el}(O:aa.op=.entry x)(R:aS st x=some (.iter b))(U:look st.ad b=some (.cu k v left [p])){orc:List al}:
  eS cx T w aa ⟨.dI [⟨k,p.1⟩,⟨v,p.2⟩],st,orc,[]⟩:=by
 obtain⟨g,ae,_,W⟩:=h.box (bc U)
 have X:Act.eval ⟨T,ah.D cx⟩ x=.pointer (some ⟨g,0,none⟩):=by have:Act.eval ⟨T,ah.D cx⟩ x=m b:=bf h R;rw[this,ae];rfl
 rcases W with ⟨_,_,o⟩|⟨lc,es,ld,seen,o,Y,_,le,Z,lf,q⟩
 ·cases o
 ·rcases q with q|⟨e,lg,la,a2,a3,a4,a5⟩
  ·cases q
  ·cases la
   refine⟨.tuple #[e.key,e.val],w,m,cn (s:=Instr.entry (.pointer (some ⟨g,0,none⟩))) (by simp only[execOp,O,X]) ?_,h,⟨[e.key,e.val],rfl,a4,a5,trivial⟩⟩
   have lb:es.find? (fun x=>x.born==e.born)=some e:=by rw[<-Array.find?_toList];exact find_born es.toList e Z a2
   simp[Instr.entry,getObj,Sem.run,o,Y,a3,lb]
theorem In(h:an cx m st T w){aa:Oper}{x:Operand}{b p:Nat}{s:List UInt8}(R:aa.op=.next x true)(X:aS st x=some (.iter b))(Y:look st.ad b=some (.iter s p)){orc:List al}:
  (p<s.length->eS cx T w aa ⟨.dI [⟨.bool,true⟩,⟨.int .i64,(p:Int)⟩,⟨.int .i32,gE s p⟩],st.dd b (.iter s (p+ji s p)),orc,[p<s.length]⟩)/\
  (s.length<=p->eS cx T w aa ⟨.dI [⟨.bool,false⟩],st,orc,[s.length<=p]⟩):=by
 have U:Act.eval ⟨T,ah.D cx⟩ x=m b:=bf h X
 have W:=bc Y
 obtain⟨g,o,_,q⟩:=h.box W
 have q:w.heap[g]? =some (.stringIter (bytesOf s) p):=q
 have o:m b=.pointer (some ⟨g,0,none⟩):=o
 constructor
 ·intro Z
  have O:p<(bytesOf s).size:=by rw[iL];exact Z
  have la:Touch m w b {w with heap:=w.heap.setIfInBounds g (.stringIter (bytesOf s) (p+ji s p))}:=
   ⟨Vu _ _ _,fun k _ lb=>by
    show(w.heap.setIfInBounds g _)[k]? =_
    rw[Array.getElem?_setIfInBounds_ne]
    intro e
    exact lb (by rw[o,e];rfl)⟩
  refine⟨.tuple #[.bool true,.int .i64 p,.int .i32 (gE s p)],_,m,cn (s:=Instr.next (.pointer (some ⟨g,0,none⟩)) true aa.type) (by simp only[execOp,R,U,o]) ?_,
   h.dd W la (g:=g) o ?_,⟨[.bool true,.int .i64 p,.int .i32 (gE s p)],rfl,dF.2 rfl,da.2 rfl,da.2 rfl,trivial⟩⟩
  ·simp[Instr.next,getObj,setObj,Sem.run,q,O,goInt,gE,ji]
  ·show(w.heap.setIfInBounds g _)[g]? =_
   rw[Array.getElem?_setIfInBounds_self_of_lt (Ej q)]
 ·intro lc
  have O:¬p<(bytesOf s).size:=by rw[iL];omega
  refine⟨.tuple #[.bool false],w,m,cn (s:=Instr.next (.pointer (some ⟨g,0,none⟩)) true aa.type) (by simp only[execOp,R,U,o]) ?_,h,⟨[.bool false],rfl,dF.2 rfl,trivial⟩⟩
  simp[Instr.next,getObj,Sem.run,q,O]
end Go.Ev
