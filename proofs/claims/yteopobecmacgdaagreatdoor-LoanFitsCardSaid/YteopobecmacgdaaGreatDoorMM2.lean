/- Maps on plain data: what is looked up, what is written. -/
import Derived.Test.YteopobecmacgdaaGreatDoorMM1
import Derived.WideKeyRuns
import Derived.MapKept
import Derived.Laws.IdiomRangeMap
set_option linter.unusedSectionVars false
set_option linter.unusedVariables false
set_option linter.unusedSimpArgs false
namespace Go.Ev
open Go Go.RowKit
variable [b8]
variable {P:Program} {w w':World} {M M':Nat->Prop}
theorem Lp{α:Type}{f g:List Value->α->Prop}(h:∀c c' x,f c x->g c' x->c=c'):∀{xs:List α} {cs L:List Value},bM f cs xs->bM g L xs->cs=L
 |[],_,_,o,q=>by cases o;cases q;rfl
 |_::_,_,_,⟨a,b,O,o,q⟩,⟨c,d,R,U,W⟩=>by rw[O,R,h _ _ _ o U,Lp h q W]
theorem LK{w w':World}{M M':Nat->Prop}:∀(t:ag) {cs q:List Value} {x:t.el},t.flat=true->aH w M t cs x->aH w' M' t q x->cs=q:=by
 intro t
 induction t with
 |int k=>intro cs q x _ h h';rw[h,h']
 |bool=>intro cs q x _ h h';rw[h,h']
 |str=>intro cs q x _ h h';rw[h.1,h'.1]
 |unit=>intro cs q x _ h h';rw[h,h']
 |pair a b U W=>
  rintro cs q x o ⟨la,c2,rfl,O,R⟩ ⟨d1,d2,rfl,Y,Z⟩
  simp only[ag.flat,Bool.and_eq_true]at o
  rw[U o.1 O Y,W o.2 R Z]
 |ab t L=>intro cs q x o;simp[ag.flat]at o
 |ptr t L=>intro cs q x o;simp[ag.flat]at o
 |fn f t L=>intro cs q x o;simp[ag.flat]at o
 |err=>intro cs q x o;simp[ag.flat]at o
 |cy=>intro cs q x o;simp[ag.flat]at o
 |cL n t _=>intro cs q x o;simp[ag.flat]at o
 |alt n t r _ _=>intro cs q x o;simp[ag.flat]at o
 |map k v _ _=>intro cs q x o;simp[ag.flat]at o
 |arr n t L=>intro cs q x o h h';exact Lp (f:=aH w M t) (g:=aH w' M' t) (fun _ _ _ O R=>L o O R) h.2 h'.2
theorem kS{w w':World}{M M':Nat->Prop}{t:ag}{v v':Value}{x:t.el}(q:t.flat=true)(h:ba w M v t x)(h':ba w' M' v' t x):v=v':=by
 cases o:t.agg with
 |true=>
  obtain⟨R,rfl,L⟩:=(dS o).1 h
  obtain⟨U,rfl,O⟩:=(dS o).1 h'
  rw[LK t q L O]
 |false=>
  have:=LK t q ((bD o).1 h) ((bD o).1 h')
  simpa using this
theorem rd{P:Program}{t e:TypeId}{len d:Nat}{u:ag}{n:Int}{k:IntKind}{a:Addr}(o:P.underlying t=some (.array len e))(q:cG P d e=some u)(L:0<=n)(O:n<(len:Int))(w':World):
  (Instr.indexAt t (.pointer (some a)) (.int k n)).run P w'=.ok (.pointer (some (a.add (n.toNat*u.cells)))) w':=by
 simp only[Instr.indexAt,asIntOf,Sem.run_bind,Sem.run_pure,Result.andThen_ok,run_underlying o,Instr.sureAddr]
 rw[if_pos ⟨L,O⟩]
 simp only[Sem.run_bind,eK q,Result.andThen_ok,Sem.run_pure]
theorem zF{P:Program}{w:World}{M:Nat->Prop}{d:Nat}{t:TypeId}{u:ag}(q:cG P d t=some u){pre c post:List Value}{x:u.el}(R:aH w M u c x):
  ∃v,(∀L,(part t (pre++c++post).toArray pre.length).run P L=.ok v L)/\ba w M v u x:=by
 obtain⟨v,o,Y⟩:=pN (P:=P) q (pre:=pre) (post:=post) R w
 refine⟨v,fun L=>?_,Y⟩
 have U:=cf u R
 cases O:u.agg with
 |true=>
  unfold part at o⊢
  rw[Sem.run_bind,jx q,O]at o⊢
  simp only[Result.andThen_ok,if_true,Sem.run_bind,eK q,Sem.run_pure]at o⊢
  injection o with o
  rw[o]
 |false=>
  unfold part at o⊢
  rw[Sem.run_bind,jx q,O]at o⊢
  simp only[Result.andThen_ok,Bool.false_eq_true,if_false]at o⊢
  have Z:u.cells=1:=by cases u<;>first|rfl|(simp[ag.agg]at O)
  rw[Z]at U
  match c,U with
  |[v0],_=>
   have e:(pre++[v0]++post).toArray[pre.length]? =some v0:=by simp
   rw[e]at o⊢
   have:v0=v:=by
    have W:(pure v0:Sem Value).run P w=.ok v w:=o
    rw[Sem.run_pure]at W
    injection W
   rw[<-this]
   rfl
def zeroOf(P:Program)(t:TypeId):Option ag:=
 match ty P t,P.info? t with
 |some u,some i=>match i.zero with
  |some z=>match fz u z.cells.toList with
   |some []=>some u
   |_=>none
  |none=>none
 |_,_=>none
theorem iV{P:Program}{t:TypeId}{u:ag}(h:zeroOf P t=some u):∃i z,ty P t=some u/\P.info? t=some i/\i.size=u.cells/\i.zero=some z/\∀w M,aH w M u z.cells.toList (ca u):=by
 unfold zeroOf at h
 split at h
 ·rename_i Z i o q
  split at h
  ·rename_i z O
   split at h
   ·rename_i R
    cases h
    obtain⟨la,L,U,_⟩:=da o
    rw[q]at L
    cases L
    refine⟨i,z,o,q,U,O,fun w M=>?_⟩
    obtain⟨c,W,Y⟩:=Ko (w:=w) (M:=M) u R
    rw[W,List.append_nil]
    exact Y
   ·cases h
  ·cases h
 ·cases h
/-! Parts by steps. -/
def jM:(t:ag)->t.el->List mC->List ak->Option (ak×List ak×List Prop)
 |t,x,[],orc=>some (⟨t,x⟩,orc,[])
 |t,x,.f off u::p,orc=>match cI t x off u with
  |some y=>jM u y p orc
  |none=>none
 |.arr _ u,xs,.x j o::p,v::orc=>match Nat.beq o u.cells,v.as u with
  |true,some y=>match jM u y p orc with
   |some (r,aa,ob)=>some (r,aa,(aq (show List u.el from xs) j=some y)::ob)
   |none=>none
  |_,_=>none
 |_,_,.x _ _::_,_=>none
def kg:(t:ag)->t.el->List mC->List ak->ak->Option (t.el×List ak×List Prop)
 |t,_,[],orc,z=>match z.as t with
  |some y=>some (y,orc,[])
  |none=>none
 |t,x,.f off u::p,orc,z=>match cI t x off u with
  |some y=>match kg u y p orc z with
   |some (o,aa,ob)=>match cp t x off ⟨u,o⟩with
    |some x'=>some (x',aa,ob)
    |none=>none
   |none=>none
  |none=>none
 |.arr _ u,xs,.x j q::p,v::orc,z=>match Nat.beq q u.cells,v.as u with
  |true,some y=>match kg u y p orc z with
   |some (o,aa,ob)=>some (List.set (show List u.el from xs) j.toNat o,aa,(aq (show List u.el from xs) j=some y)::ob)
   |none=>none
  |_,_=>none
 |_,_,.x _ _::_,_,_=>none
theorem vi:∀(p:List mC) (t:ag) {cs:List Value} {x:t.el} {orc orc':List ak} {r:ak} {ob:List Prop},aH w M t cs x->jM t x p orc=some (r,orc',ob)->bO ob->
  ∃q c2 c3,cs=q++c2++c3/\q.length=fL p/\aH w M r.t c2 r.x
 |[],t,cs,x,orc,orc',r,ob,h,o,_=>by
  simp only[jM]at o
  cases o
  exact⟨[],cs,[],by simp,rfl,h⟩
 |.f off u::p,t,cs,x,orc,orc',r,ob,h,o,L=>by
  simp only[jM]at o
  split at o
  ·rename_i y W
   obtain⟨q,c2,c3,rfl,O,R⟩:=nD t h W
   obtain⟨d1,d2,d3,rfl,ah,U⟩:=vi p u R o L
   exact⟨q++d1,d2,d3++c3,by simp,by rw[List.length_append,O,ah];rfl,U⟩
  ·cases o
 |.x j lb::p,t,cs,x,orc,orc',r,ob,h,o,L=>by
  cases t with
  |arr n u=>
   cases orc with
   |nil=>simp[jM]at o
   |cons v orc=>
    simp only[jM]at o
    split at o
    ·rename_i y Y lc
     split at o
     ·rename_i ld aa le Z
      cases o
      obtain⟨lf,lg,R⟩:=iC L.1
      obtain⟨q,c2,c3,rfl,O,U⟩:=kq h.2 R
      obtain⟨d1,d2,d3,rfl,ah,la⟩:=vi p u U Z L.2
      exact⟨q++d1,d2,d3++c3,by simp,by rw[List.length_append,O,ah,<-Nat.eq_of_beq_eq_true Y];rfl,la⟩
     ·cases o
    ·cases o
  |_=>simp[jM]at o
theorem yy{z:ak}{L:List Value}(U:aH w M z.t L z.x):∀(p:List mC) (t:ag) {cs:List Value} {x:t.el} {orc orc':List ak} {y:t.el} {ob:List Prop},aH w M t cs x->kg t x p orc z=some (y,orc',ob)->bO ob->
  ∃q c2 c3,cs=q++c2++c3/\q.length=fL p/\c2.length=L.length/\aH w M t (q++L++c3) y
 |[],t,cs,x,orc,orc',y,ob,h,o,_=>by
  simp only[kg]at o
  split at o
  ·rename_i lv lh
   cases o
   have e:=ak.dd lh
   subst e
   exact⟨[],cs,[],by simp,rfl,by rw[cf t h,cf t U],by simpa using U⟩
  ·cases o
 |.f off u::p,t,cs,x,orc,orc',y,ob,h,o,W=>by
  simp only[kg]at o
  split at o
  ·rename_i li lj
   split at o
   ·rename_i la aa lk lb
    split at o
    ·rename_i x' ll
     cases o
     obtain⟨q,c2,c3,e,Y,lc⟩:=nD t h lj
     obtain⟨d1,d2,d3,lf,ah,Z,ld⟩:=yy U p u lc lb W
     obtain⟨O,lg,R,lm,ln,lo,le⟩:=pb (v:=⟨u,la⟩) ld t h ll
     have lp:c2.length=(d1++L++d3).length:=by rw[lf];simp only[List.length_append,Z]
     have lq:O=q/\lg=c2/\R=c3:=by
      have lr:O++(lg++R)=q++(c2++c3):=by rw[<-List.append_assoc,<-List.append_assoc,<-lm,<-e]
      obtain⟨ls,a2⟩:=List.append_inj lr (by rw[ln,Y])
      obtain⟨a3,a4⟩:=List.append_inj a2 (by rw[lo,lp])
      exact⟨ls,a3,a4⟩
     obtain⟨rfl,rfl,rfl⟩:=lq
     subst lf
     refine⟨O++d1,d2,d3++R,by rw[e];simp,by rw[List.length_append,Y,ah];rfl,Z,?_⟩
     have:O++d1++L++(d3++R)=O++(d1++L++d3)++R:=by simp
     rw[this]
     exact le
    ·cases o
   ·cases o
  ·cases o
 |.x j lw::p,t,cs,x,orc,orc',y,ob,h,o,W=>by
  cases t with
  |arr n u=>
   cases orc with
   |nil=>simp[kg]at o
   |cons v orc=>
    simp only[kg]at o
    split at o
    ·rename_i li lt lx
     split at o
     ·rename_i la aa lk lb
      cases o
      obtain⟨ly,lz,lc⟩:=iC W.1
      obtain⟨q,c2,c3,rfl,Y,ld,lu⟩:=pg h.2 lc
      obtain⟨d1,d2,d3,rfl,ah,Z,le⟩:=yy U p u ld lb W.2
      refine⟨q++d1,d2,d3++c3,by simp,by rw[List.length_append,Y,ah,<-Nat.eq_of_beq_eq_true lt];rfl,Z,?_,?_⟩
      ·exact(@List.length_set _ (show List u.el from x) j.toNat la).trans h.1
      ·have:=lu _ _ le
       simpa using this
     ·cases o
    ·cases o
  |_=>simp[kg]at o
def uB:ag->Bool
 |.arr _ _=>true
 |.pair a b=>uB a||uB b
 |_=>false
def tK(z:Value)(u:ag):Bool:=
 match z with
 |.agg _=>u.agg
 |_=>!u.agg
def zeroV(P:Program)(t:TypeId):Option ag:=
 match zeroOf P t,P.info? t with
 |some u,some i=>match i.zero with
  |some z=>bif tK z u then some u else none
  |none=>none
 |_,_=>none
theorem CD{P:Program}{t:TypeId}{u:ag}(h:zeroV P t=some u):∃z,ty P t=some u/\(∀w,(zeroValue t).run P w=.ok z w)/\∀w M,ba w M z u (ca u):=by
 unfold zeroV at h
 split at h
 ·rename_i Z i la O
  split at h
  ·rename_i z R
   cases L:tK z Z<;>rw[L]at h<;>cases h
   obtain⟨lb,o,lc,U,_,W,ld⟩:=iV la
   have le:lb=i:=by rw[O]at U;cases U;rfl
   subst le
   have lf:o=z:=by rw[R]at W;cases W;rfl
   subst lf
   refine⟨o,lc,fun w=>by simp[zeroValue,typeInfo,O,R],fun w M=>?_⟩
   have Y:=ld w M
   cases q:u.agg with
   |true=>
    cases o<;>simp only[tK,q,Bool.not_true,Bool.false_eq_true]at L
    rename_i lg
    exact(dS q).2 ⟨lg.toList,by simp,Y⟩
   |false=>
    refine(bD q).2 ?_
    cases o<;>first|exact Y|(simp[tK,q]at L)
  ·cases h
 ·cases h
def bL{α β:Type}(eq:α->α->Bool):List (α×β)->α->Option β
 |[],_=>none
 |p::ps,k=>if eq k p.1 then some p.2 else bL eq ps k
def cm{α β:Type}(eq:α->α->Bool):List (α×β)->α->β->List (α×β)
 |[],k,v=>[(k,v)]
 |p::ps,k,v=>if eq k p.1 then(k,v)::ps else p::cm eq ps k v
theorem H0{α:Type}{f:α->α->Bool}(h:∀x y,f x y=true->x=y):∀{xs q:List α},jA f xs q=true->xs=q
 |[],[],_=>rfl
 |[],_::_,o=>by cases o
 |_::_,[],o=>by cases o
 |x::xs,y::q,o=>by
  simp only[jA,Bool.and_eq_true]at o
  rw[h x y o.1,H0 h o.2]
theorem z8:∀(t:ag) {x y:t.el},aQ t x y=true->x=y:=by
 intro t
 induction t with
 |int k=>intro x y h;exact eq_of_beq (α:=Int) h
 |bool=>intro x y h;exact eq_of_beq (α:=Bool) h
 |str=>intro x y h;exact eq_of_beq (α:=List UInt8) h
 |unit=>intro x y _;rfl
 |pair a b o q=>
  intro x y h
  simp only[aQ,Bool.and_eq_true]at h
  exact Prod.ext (o h.1) (q h.2)
 |arr n t L=>intro x y h;exact H0 (fun _ _=>L) h
 |ab t _=>intro x y h;cases h
 |ptr t _=>intro x y h;cases h
 |fn f t _=>intro x y h;cases h
 |err=>intro x y h;cases h
 |cy=>intro x y h;cases h
 |cL n t _=>intro x y h;cases h
 |alt n t r _ _=>intro x y h;cases h
 |map k v _ _=>intro x y h;cases h
theorem FF{d:Nat}:∀(q:List Field) (off:Nat) (u:ag),fieldsOf (cG P d) off q=some u->∀(pre c:List Value) (x:u.el),pre.length=off->aH w M u c x->
  ∀f∈q,∃(a:Value) (O:ag) (Z:O.el),cG P d f.type=some O/\(∀L,(part f.type (pre++c).toArray f.offset).run P L=.ok a L)/\ba w M a O Z
 |[],off,u,h,pre,c,x,_,_,f,o=>by cases o
 |fd::q,off,u,h,pre,c,x,U,la,f,o=>by
  unfold fieldsOf at h
  cases R:Nat.beq fd.offset off with
  |false=>rw[R]at h;cases h
  |true=>
   have lb:=Nat.eq_of_beq_eq_true R
   rw[R,cond_true]at h
   split at h
   ·rename_i a W
    split at h
    ·rename_i b lc
     cases h
     obtain⟨ld,c2,rfl,Y,bW⟩:=la
     rcases List.mem_cons.1 o with rfl|o
     ·obtain⟨v,le,lf⟩:=zF (P:=P) W (pre:=pre) (post:=c2) Y
      refine⟨v,a,x.1,W,fun L=>?_,lf⟩
      have:=le L
      rw[List.append_assoc,U,<-lb]at this
      exact this
     ·have:=FF q (off+a.cells) b lc (pre++ld) c2 x.2 (by rw[List.length_append,U,cf a Y]) bW f o
      rw[List.append_assoc]at this
      exact this
    ·cases h
   ·cases h
theorem Me{d:Nat}{e:TypeId}{u:ag}(q:cG P d e=some u){c:List Value}{xs:List u.el}(L:bM (aH w M u) c xs)(j:Nat)(O:j<xs.length):
  ∃(a:Value) (x:u.el),(∀o,(part e c.toArray (j*u.cells)).run P o=.ok a o)/\ba w M a u x:=by
 obtain⟨R,c2,c3,rfl,U,W⟩:=kq L (List.getElem?_eq_getElem O)
 obtain⟨v,Y,Z⟩:=zF (P:=P) q (pre:=R) (post:=c3) W
 exact⟨v,_,fun o=>by have:=Y o;rw[U]at this;exact this,Z⟩
theorem nT(em:Bool):∀(d:Nat) (t:TypeId) (u:ag),cG P d t=some u->∀d',dX P d' t=true->∀O,d'<=O->∀(w q:World) (M:Nat->Prop) (v:Value) (x:u.el),ba w M v u x->(Instr.checkKey em O t v).run P q=.ok () q
 |0,_,_,h=>by cases h
 |d+1,t,u,h=>by
  intro d' L O lu w q M v x Z
  cases d' with
  |zero=>cases L
  |succ d'=>
   obtain⟨O,rfl⟩:∃k,O=k+1:=⟨O-1,by omega⟩
   have lv:=h
   unfold dX at L
   unfold cG at h
   rw[Instr.checkKey]
   split at h
   ·rename_i i k R o
    cases U:Nat.beq i.size 1<;>rw[U]at h<;>cases h
    obtain rfl:=cV.1 Z
    simp[run_underlying o]
   ·rename_i i R o
    cases U:Nat.beq i.size 1<;>rw[U]at h<;>cases h
    obtain rfl:=dB.1 Z
    simp[run_underlying o]
   ·rename_i i R o
    cases U:Nat.beq i.size 1<;>rw[U]at h<;>cases h
    obtain⟨rfl,_⟩:=eG.1 Z
    simp[run_underlying o]
   ·rename_i i e R o
    rw[o]at L
    cases L
   ·rename_i i lb R o
    rw[o]at L
    simp only[Bool.and_eq_true,Bool.not_eq_true']at L
    split at h
    ·rename_i v0 Y
     cases U:Nat.beq i.size v0.cells<;>rw[U]at h<;>cases h
     have lk:=Hs Y
     obtain⟨c,rfl,ll⟩:=(dS lk).1 Z
     simp only[Sem.run_bind,run_underlying o,Result.andThen_ok]
     rw[<-Array.forIn_toList]
     have W:∀f∈lb.toList,∃a,f.name≠ "_" /\(∀q,(part f.type c.toArray f.offset).run P q=.ok a q)/\(Instr.checkKey em O f.type a).run P q=.ok () q:=by
      intro f lj
      obtain⟨a,lm,ln,lc,ld,lo⟩:=FF lb.toList 0 u Y [] c x rfl ll f lj
      have le:=List.all_eq_true.1 L.2 f lj
      simp only[Bool.and_eq_true,bne_iff_ne,ne_eq]at le
      exact⟨a,le.1,fun q=>by have:=ld q;simpa using this,nT em d f.type lm lc d' le.2 O (by omega) w q M a ln lo⟩
     generalize lb.toList=la at W
     induction la with
     |nil=>simp
     |cons f la lf=>
      obtain⟨a,lp,lg,lh⟩:=W f List.mem_cons_self
      simp only[List.forIn_cons,Sem.run_bind,lp,ne_eq,not_false_eq_true,if_true,Result.andThen_ok,lg,lh,Sem.run_pure]
      exact lf fun y li=>W y (List.mem_cons_of_mem _ li)
    ·cases h
   ·rename_i i lw R o
    rw[o]at L
    cases L
   ·rename_i i n e R o
    rw[o]at L
    split at h
    ·rename_i v0 Y
     cases U:Nat.beq i.size (n*v0.cells)<;>rw[U]at h<;>cases h
     obtain⟨c,rfl,lq,lr⟩:=(dS (t:=.arr n v0) rfl).1 Z
     simp only[Sem.run_bind,run_underlying o,Result.andThen_ok]
     simp only[Std.Legacy.Range.forIn_eq_forIn_range',Std.Legacy.Range.size,Nat.sub_zero,Nat.add_one_sub_one,Nat.div_one]
     have W:∀j∈List.range' 0 n,∃a,(∀q,(part e c.toArray (j*v0.cells)).run P q=.ok a q)/\(Instr.checkKey em O e a).run P q=.ok () q:=by
      intro j ls
      have lt:j<n:=by simpa using ls
      obtain⟨a,y,lc,ld⟩:=Me Y lr j (by rw[lq];exact lt)
      exact⟨a,lc,nT em d e v0 Y d' L O (by omega) w q M a y ld⟩
     generalize List.range' 0 n=la at W
     induction la with
     |nil=>simp
     |cons j la lf=>
      obtain⟨a,lg,lh⟩:=W j List.mem_cons_self
      simp only[List.forIn_cons,Sem.run_bind,eK Y,Result.andThen_ok,lg,lh,Sem.run_pure]
      exact lf fun y li=>W y (List.mem_cons_of_mem _ li)
    ·cases h
   ·rename_i i k e R o
    rw[o]at L
    cases L
   ·rename_i i a b c R o
    rw[o]at L
    cases L
   ·rename_i i e R o
    rw[o]at L
    cases L
   ·cases h
def fZ{α β:Type}(eq:α->α->Bool)(key:α):List MapEntry->List (α×β)->Nat->Option (Nat×Value)
 |e::es,p::ps,i=>if eq key p.1 then some (i,e.val)else fZ eq key es ps (i+1)
 |_,_,_=>none
theorem Kb{d d':Nat}{q:TypeId}{u:ag}{β:Type}{U:Value->β->Prop}(L:cG P d q=some u)(O:dX P d' q=true)(ah:d'<=10000){kv:Value}{key:u.el}(R:ba w M kv u key)(o:World):
  ∀(es:List MapEntry) (ps:List (u.el×β)) (i:Nat),dQ (dW w' M' u) U es ps->(Instr.findAsking q kv es i).run P o=.ok (fZ (aQ u) key es ps i) o
 |[],[],i,_=>by simp[Instr.findAsking,fZ]
 |[],_::_,_,h=>h.elim
 |_::_,[],_,h=>h.elim
 |e::es,p::ps,i,⟨W,_,Y⟩=>by
  have Z:(Op.equal q kv e.key).run P o=.ok (aQ u key p.1) o:=rC d q u L d' O 10000 ah w w' o M M' kv e.key key p.1 R W
  rw[Instr.findAsking,Sem.run_bind,Z]
  simp only[Result.andThen_ok,fZ]
  cases la:aQ u key p.1 with
  |true=>simp
  |false=>simp only[Bool.false_eq_true,if_false];exact Kb L O ah R o es ps (i+1) Y
theorem FA{o:TypeDesc}{u:ag}{β:Type}{L:Value->β->Prop}{kv:Value}{key:u.el}(q:∀(e:Value) (x:u.el),ba w' M' e u x->Instr.sameNow o kv e=some (aQ u key x)):
  ∀(es:List MapEntry) (ps:List (u.el×β)) (i:Nat),dQ (dW w' M' u) L es ps->Instr.findNow o kv es i=some (fZ (aQ u) key es ps i)
 |[],[],i,_=>rfl
 |[],_::_,_,h=>h.elim
 |_::_,[],_,h=>h.elim
 |e::es,p::ps,i,⟨O,_,R⟩=>by
  rw[Instr.findNow,q e.key p.1 O,fZ]
  cases U:aQ u key p.1 with
  |true=>simp
  |false=>simp only[Bool.false_eq_true,if_false];exact FA q es ps (i+1) R
theorem Vx(a b:List UInt8):((⟨a.toArray⟩:ByteArray)==⟨b.toArray⟩)=eqStr a b:=by
 unfold eqStr
 rw[Bool.eq_iff_iff,MapKept.bytes_beq,beq_iff_eq]
 constructor
 ·intro e
  have:=congrArg (fun b:ByteArray=>b.data.toList) e
  simpa using this
 ·intro e;rw[e]
theorem tF{d d':Nat}{O:TypeId}{u:ag}{β:Type}{lb:Value->β->Prop}(la:cG P d O=some u)(R:dX P d' O=true)(ah:d'<=10000){kv:Value}{key:u.el}(W:ba w M kv u key)(L:World)
  {es:List MapEntry}{ps:List (u.el×β)}(h:dQ (dW w' M' u) lb es ps):(Instr.findKey O kv es).run P L=.ok (fZ (aQ u) key es ps 0) L:=by
 have ask:=Kb la R ah W L es ps 0 h
 have Y:∀Z,P.underlying O=some Z->(∀(e:Value) (x:u.el),ba w' M' e u x->Instr.sameNow Z kv e=some (aQ u key x))->(Instr.findKey O kv es).run P L=.ok (fZ (aQ u) key es ps 0) L:=by
  intro Z o lc
  exact MapKept.run_findKey o (FA lc es ps 0 h)
 obtain⟨i,le,lf,q⟩:=da la
 cases u with
 |int k=>
  obtain rfl:=cV.1 W
  exact Y _ q fun e x U=>by obtain rfl:=cV.1 U;simp[Instr.sameNow,aQ,Fg]
 |bool=>
  obtain rfl:=dB.1 W
  exact Y _ q fun e x U=>by obtain rfl:=dB.1 U;simp[Instr.sameNow,aQ,H2]
 |str=>
  obtain⟨rfl,_⟩:=eG.1 W
  refine Y _ q fun e x U=>?_
  obtain⟨rfl,_⟩:=eG.1 U
  exact congrArg some (Vx key x)
 |unit=>obtain⟨ld,d2,o,_⟩:=q;rw[run_findKey_eq L (by rw[o]) kv es];exact ask
 |pair a b=>obtain⟨ld,d2,o,_⟩:=q;rw[run_findKey_eq L (by rw[o]) kv es];exact ask
 |arr n t=>obtain⟨e,d2,o,_⟩:=q;rw[run_findKey_eq L (by rw[o]) kv es];exact ask
 |ab t=>obtain⟨e,d2,o,_⟩:=q;cases d'<;>simp[dX,o]at R
 |err=>obtain⟨lg,o⟩:=q;cases d'<;>simp[dX,o]at R
 |cy=>rcases q with ⟨_,_,_,o⟩|⟨_,o⟩<;>cases d'<;>simp[dX,o]at R
 |map a b=>obtain⟨k,e,d2,o,_⟩:=q;cases d'<;>simp[dX,o]at R
 |ptr t=>exact q.elim
 |fn f t=>exact q.elim
 |cL n t=>exact q.elim
 |alt n t r=>exact q.elim
theorem EC{α β:Type}{eq:α->α->Bool}{key:α}{q:Value->α->Prop}{o:Value->β->Prop}:∀(es:List MapEntry) (ps:List (α×β)) (i:Nat),dQ q o es ps->
  (fZ eq key es ps i=none/\bL eq ps key=none)\/∃n e y,fZ eq key es ps i=some (i+n,e.val)/\es[n]? =some e/\bL eq ps key=some y/\o e.val y
 |[],[],i,_=>.inl ⟨rfl,rfl⟩
 |[],_::_,_,h=>h.elim
 |_::_,[],_,h=>h.elim
 |e::es,p::ps,i,⟨la,L,O⟩=>by
  unfold fZ bL
  cases lb:eq key p.1 with
  |true=>exact .inr ⟨0,e,p.2,by simp,rfl,by simp,L⟩
  |false=>
   simp only[Bool.false_eq_true,if_false]
   rcases EC es ps (i+1) O with h|⟨n,R,y,U,W,Y,Z⟩
   ·exact .inl h
   ·exact .inr ⟨n+1,R,y,by rw[U];congr 2;omega,by simpa using W,Y,Z⟩
theorem r8{α β:Type}{eq:α->α->Bool}{key:α}{o:Value->α->Prop}{q:Value->β->Prop}{kv vv:Value}{val:β}(L:o kv key)(O:q vv val):∀(es:List MapEntry) (ps:List (α×β)) (i:Nat),dQ o q es ps->
  (fZ eq key es ps i=none/\cm eq ps key val=ps++[(key,val)])\/∃n e p,fZ eq key es ps i=some (i+n,e.val)/\es[n]? =some e/\o e.key p/\eq key p=true/\
   dQ o q (es.modify n fun e=>{e with key:=kv,val:=vv}) (cm eq ps key val)
 |[],[],i,_=>.inl ⟨rfl,rfl⟩
 |[],_::_,_,h=>h.elim
 |_::_,[],_,h=>h.elim
 |e::es,p::ps,i,⟨R,W,U⟩=>by
  unfold fZ cm
  cases Y:eq key p.1 with
  |true=>exact .inr ⟨0,e,p.1,by simp,rfl,R,Y,by simp only[if_true];exact⟨L,O,U⟩⟩
  |false=>
   simp only[Bool.false_eq_true,if_false]
   rcases r8 L O es ps (i+1) U with ⟨Z,la⟩|⟨n,lb,lc,ld,le,lf,lg,lh⟩
   ·exact .inl ⟨Z,by rw[la];rfl⟩
   ·exact .inr ⟨n+1,lb,lc,by rw[ld];congr 2;omega,by simpa using le,lf,lg,⟨R,W,lh⟩⟩
theorem pV(kv vv:Value):∀(es:List MapEntry) (n:Nat),(es.modify n fun e=>{e with key:=kv,val:=vv}).map (·.born)=es.map (·.born)
 |[],n=>by cases n<;>rfl
 |e::es,0=>rfl
 |e::es,n+1=>by
  have:=pV kv vv es n
  simp only[List.modify_succ_cons,List.map_cons,this]
theorem rK{α β:Type}{o:Value->α->Prop}{q:Value->β->Prop}:∀{es L:List MapEntry} {ps O:List (α×β)},dQ o q es ps->dQ o q L O->dQ o q (es++L) (ps++O)
 |[],_,[],_,_,h=>h
 |[],_,_::_,_,h,_=>h.elim
 |_::_,_,[],_,h,_=>h.elim
 |_::_,_,_::_,_,⟨R,U,W⟩,h=>⟨R,U,rK W h⟩
def plainCell:Value->Bool
 |.bool _=>true
 |.int _ _=>true
 |.string _=>true
 |_=>false
theorem H9{α:Type}{f:List Value->α->Prop}{p:Value->Bool}(h:∀c x,f c x->∀u∈c,p u=true):∀{xs:List α} {cs:List Value},bM f cs xs->∀u∈cs,p u=true
 |[],_,o,u,hu=>by cases o;cases hu
 |_::_,_,⟨O,c2,e,q,L⟩,u,hu=>by
  subst e
  rcases List.mem_append.1 hu with hu|hu
  ·exact h _ _ q u hu
  ·exact H9 h L u hu
theorem G8:∀(t:ag) {cs:List Value} {x:t.el},t.flat=true->aH w M t cs x->∀u∈cs,plainCell u=true:=by
 intro t
 induction t with
 |int k=>intro cs x _ h u hu;cases h;simp at hu;subst hu;rfl
 |bool=>intro cs x _ h u hu;cases h;simp at hu;subst hu;rfl
 |str=>intro cs x _ h u hu;cases h.1;simp at hu;subst hu;rfl
 |unit=>intro cs x _ h u hu;cases h;simp at hu
 |pair a b q L=>
  rintro cs x o ⟨Y,c2,rfl,O,R⟩ u hu
  simp only[ag.flat,Bool.and_eq_true]at o
  rcases List.mem_append.1 hu with hu|hu
  ·exact q o.1 O u hu
  ·exact L o.2 R u hu
 |arr n t U=>intro cs x o h u hu;exact H9 (fun _ _ W=>U o W) h.2 u hu
 |ab t _=>intro cs x o;simp[ag.flat]at o
 |ptr t _=>intro cs x o;simp[ag.flat]at o
 |fn f t _=>intro cs x o;simp[ag.flat]at o
 |err=>intro cs x o;simp[ag.flat]at o
 |cy=>intro cs x o;simp[ag.flat]at o
 |cL n t _=>intro cs x o;simp[ag.flat]at o
 |alt n t r _ _=>intro cs x o;simp[ag.flat]at o
 |map k v _ _=>intro cs x o;simp[ag.flat]at o
theorem GH{u:Value}(h:plainCell u=true)(n:Nat):Instr.sameBits n u u=true:=by
 cases u<;>first|(simp[plainCell]at h;done)|simp[Instr.sameBits,MapKept.bytes_beq]
theorem JN(n:Nat):∀(l:List Value),(∀u∈l,plainCell u=true)->((l.zip l).all fun(x,y)=>Instr.sameBits n x y)=true
 |[],_=>rfl
 |u::l,h=>by
  rw[List.zip_cons_cons,List.all_cons,Bool.and_eq_true]
  exact⟨GH (h u List.mem_cons_self) n,JN n l fun x o=>h x (List.mem_cons_of_mem _ o)⟩
theorem AY{t:ag}{v:Value}{x:t.el}(o:t.flat=true)(h:ba w M v t x):Instr.sameBits 10000 v v=true:=by
 cases q:t.agg with
 |true=>
  obtain⟨L,rfl,O⟩:=(dS q).1 h
  rw[Instr.sameBits]
  simp only[beq_self_eq_true,Bool.true_and]
  exact JN 9999 L (G8 t o O)
 |false=>
  exact GH (G8 t o ((bD q).1 h) v (by simp)) _
theorem ou{mt W la:TypeId}{d d':Nat}{u v:ag}(Z:P.underlying mt=some (.map W la))(lb:cG P d W=some u)(lc:dX P d' W=true)(ah:d'<=10000)
  {z:Value}(ld:∀w,(zeroValue la).run P w=.ok z w)(lk:∀w M,ba w M z v (ca v)){kv:Value}{key:u.el}(le:ba w M kv u key){es:Array MapEntry}{ps:List (u.el×v.el)}
  (lf:dQ (dW w' M' u) (dW w' M' v) es.toList ps):
  ∃r,ba w' M' r v ((bL (aQ u) ps key).getD (ca v))/\∀(o:World) (x:Value),((x=.map none/\es=#[])\/∃g R,x=.map (some g)/\o.heap[g]? =some (.map es R))->
   ∀ok,(Instr.lookup mt x kv ok).run P o=.ok (if ok then .tuple #[r,.bool (bL (aQ u) ps key).isSome]else r) o:=by
 have ll:=fun o=>tF lb lc ah le o lf
 have lg:=fun em o=>nT (P:=P) em d W u lb d' lc 10000 ah w o M kv key le
 have run:∀(r:Value) (o:World) (x:Value),((x=.map none/\es=#[])\/∃g R,x=.map (some g)/\o.heap[g]? =some (.map es R))->
   ((fZ (aQ u) key es.toList ps 0=none/\bL (aQ u) ps key=none/\r=z)\/∃n y,fZ (aQ u) key es.toList ps 0=some (n,r)/\bL (aQ u) ps key=some y)->
   ∀ok,(Instr.lookup mt x kv ok).run P o=.ok (if ok then .tuple #[r,.bool (bL (aQ u) ps key).isSome]else r) o:=by
  intro r o x U lh ok
  have O:=ll o
  rcases U with ⟨rfl,rfl⟩|⟨g,R,rfl,lm⟩
  ·have Y:=lg true o
   rcases lh with ⟨q,L,rfl⟩|⟨n,y,q,L⟩
   ·rw[q]at O
    unfold Instr.lookup
    simp only[Sem.run_bind,run_underlying Z,Result.andThen_ok,Sem.run_pure,show(#[]:Array MapEntry).isEmpty=true from rfl,Y,O,ld,L]
    cases ok<;>simp
   ·simp[fZ]at q
  ·have Y:=lg es.isEmpty o
   have li:(getObj g).run P o=.ok (.map es R) o:=by simp[getObj,Sem.run,lm]
   rcases lh with ⟨q,L,rfl⟩|⟨n,y,q,L⟩
   ·rw[q]at O
    unfold Instr.lookup
    simp only[Sem.run_bind,run_underlying Z,Result.andThen_ok,li,Sem.run_pure,Y,O,ld,L]
    cases ok<;>simp
   ·rw[q]at O
    unfold Instr.lookup
    simp only[Sem.run_bind,run_underlying Z,Result.andThen_ok,li,Sem.run_pure,Y,O,L]
    cases ok<;>simp
 rcases EC (eq:=aQ u) (key:=key) es.toList ps 0 lf with ⟨q,L⟩|⟨n,e,y,q,L,lj,ln⟩
 ·exact⟨z,by rw[L];exact lk _ _,fun o x U=>run z o x U (.inl ⟨q,L,rfl⟩)⟩
 ·exact⟨e.val,by rw[lj];exact ln,fun o x U=>run e.val o x U (.inr ⟨_,y,q,lj⟩)⟩
theorem JS{mt q lo:TypeId}{d d':Nat}{u v:ag}(lb:P.underlying mt=some (.map q lo))(lc:cG P d q=some u)(ld:dX P d' q=true)(ah:d'<=10000)(le:u.flat=true)
  {kv vv:Value}{key:u.el}{val:v.el}(o:ba w M kv u key)(lf:ba w M vv v val){g:Nat}{es:Array MapEntry}{clock:Nat}{ps:List (u.el×v.el)}
  (lg:w.heap[g]? =some (.map es clock))(R:∀e∈es.toList,e.born<clock)(lh:(es.toList.map (·.born)).Nodup)(U:dQ (dW w M u) (dW w M v) es.toList ps):
  ∃(L:Array MapEntry) (li:Nat),(Instr.mapUpdate mt (.map (some g)) kv vv).run P w=.ok () {w with heap:=w.heap.setIfInBounds g (.map L li)}/\
   (∀e∈L.toList,e.born<li)/\(L.toList.map (·.born)).Nodup/\dQ (dW w M u) (dW w M v) L.toList (cm (aQ u) ps key val):=by
 have lj:=nT (P:=P) false d q u lc d' ld 10000 ah w w M kv key o
 have O:=tF lc ld ah o w U
 have lk:(getObj g).run P w=.ok (.map es clock) w:=by simp[getObj,Sem.run,lg]
 have ll:∀aa,(setObj g aa).run P w=.ok () {w with heap:=w.heap.setIfInBounds g aa}:=fun aa=>by simp[setObj,Sem.run,lg]
 rcases r8 (kv:=kv) (vv:=vv) (val:=val) (eq:=aQ u) (key:=key) o lf es.toList ps 0 U with ⟨W,Y⟩|⟨n,e,lp,W,Y,lq,lr,ls⟩
 ·rw[W]at O
  refine⟨es.push {key:=kv,val:=vv,born:=clock},clock+1,?_,?_,?_,?_⟩
  ·unfold Instr.mapUpdate
   simp only[Sem.run_bind,run_underlying lb,Result.andThen_ok,lk,lj,O,ll]
  ·intro e he
   rw[Array.toList_push]at he
   rcases List.mem_append.1 he with he|he
   ·exact Nat.lt_succ_of_lt (R e he)
   ·simp at he;subst he;exact Nat.lt_succ_self _
  ·rw[Array.toList_push,List.map_append,List.nodup_append]
   refine⟨lh,by simp,?_⟩
   intro a lt b lu lA
   simp at lu
   obtain⟨e,he,rfl⟩:=List.mem_map.1 lt
   have:=R e he
   omega
  ·rw[Array.toList_push,Y]
   exact rK U ⟨o,lf,trivial⟩
 ·rw[W,Nat.zero_add]at O
  have lv:key=lp:=z8 u lr
  subst lv
  have lw:e.key=kv:=kS le lq o
  have lx:((es[n]?).map (·.key)).getD kv=kv:=by
   have:es[n]? =some e:=by rw[<-Array.getElem?_toList];exact Y
   rw[this];simp[lw]
  have ly:∀Z,(Instr.keyThatStays kv kv).run P Z=.ok kv Z:=fun Z=>by
   unfold Instr.keyThatStays
   rw[if_pos (AY le o)]
   rfl
  have la:(es.modify n fun e=>{e with key:=kv,val:=vv}).toList=es.toList.modify n fun e=>{e with key:=kv,val:=vv}:=by simp
  refine⟨es.modify n fun e=>{e with key:=kv,val:=vv},clock,?_,?_,?_,?_⟩
  ·unfold Instr.mapUpdate
   simp only[Sem.run_bind,run_underlying lb,Result.andThen_ok,lk,lj,O,lx,ly,ll]
  ·intro x lm
   rw[la]at lm
   have ln:x.born∈(es.toList.modify n fun e=>{e with key:=kv,val:=vv}).map (·.born):=List.mem_map.2 ⟨x,lm,rfl⟩
   rw[pV]at ln
   obtain⟨y,lz,e⟩:=List.mem_map.1 ln
   rw[<-e];exact R y lz
  ·rw[la,pV];exact lh
  ·rw[la];exact ls
end Go.Ev
namespace Go.Ev
open Go Go.RowKit
variable [b8]
structure dw where
 aO:ao
 orc:List ak
 ob:List Prop
structure E6 where
 k:ag
 v:ag
 ps:List (k.el×v.el)
def mapOf(st:af):ao->Option E6
 |.val (.map k v) x=>some ⟨k,v,(show Option (List (k.el×v.el))from x).getD []⟩
 |.iter b=>match look st.ad b with
  |some (.mp k v ps)=>some ⟨k,v,ps⟩
  |_=>none
 |_=>none
def vB(P:Program)(st:af)(mt:TypeId)(x k:Operand)(ok:Bool)(orc:List ak):Option dw:=
 match(aR st x).bind (mapOf st),P.underlying mt,dm st k with
 |some bH,some (.map q L),some key=>match ty P q,zeroV P L,key.as bH.k with
  |some O,some R,some o=>match O.beq bH.k&&R.beq bH.v&&dX P 16 q,ok with
   |true,true=>some ⟨.dD [⟨bH.v,(bL (aQ bH.k) bH.ps o).getD (ca bH.v)⟩,⟨.bool,(bL (aQ bH.k) bH.ps o).isSome⟩],orc,[]⟩
   |true,false=>some ⟨.val bH.v ((bL (aQ bH.k) bH.ps o).getD (ca bH.v)),orc,[]⟩
   |false,_=>none
  |_,_,_=>none
 |_,_,_=>none
def lenOf(P:Program)(st:af)(s:ao)(t:TypeId):Option Int:=
 match s,ty P t with
 |.val .str s,some .str=>some (s.length:Int)
 |.val (.ab _) xs,some (.ab _)=>some (xs.length:Int)
 |.row r,some (.ab _)=>match look st.rw r with
  |some c=>some (c.xs.length:Int)
  |none=>none
 |s,some (.map _ _)=>match mapOf st s with
  |some bH=>some (bH.ps.length:Int)
  |none=>none
 |_,_=>none
def tQ(P:Program)(st:af)(t:TypeId)(u:ag):List (Nat×Operand)->u.el->Option u.el
 |[],x=>some x
 |(i,aa)::r,x=>
  match fieldInfo P t i,dm st aa with
  |some (off,o),some v=>match v.t.beq o,cp u x off v with
   |true,some y=>tQ P st t u r y
   |_,_=>none
  |_,_=>none
def dV(s:Option ao):Option Int:=
 match s with
 |some (.val (.int _) n)=>some n
 |_=>none
def pS(P:Program)(t:TypeId):Option (Nat×ag):=
 match P.underlying t with
 |some (.array n e)=>match ty P e with
  |some u=>some (n,u)
  |none=>none
 |_=>none
def uy(P:Program)(st:af)(src o:TypeId)(x:Operand)(orc:List ak):Option dw:=
 match(aR st x).map (mm st),P.underlying src,P.underlying o with
 |some (.val (.ab (.int .u8)) xs),some (.slice e),some .string=>match P.underlying e with
  |some (.int .u8)=>some ⟨.val .str (fa xs),orc,[]⟩
  |_=>none
 |some (.val (.ab (.int .i32)) xs),some (.slice e),some .string=>match P.underlying e with
  |some (.int .i32)=>some ⟨.val .str (cS xs),orc,[(cS xs).length<=br]⟩
  |_=>none
 |_,_,_=>none
def tS(a:Option (Option (Nat×Int)))(u:Nat)(m:Int):Bool:=
 match a with
 |some (some (t,n))=>Nat.beq t u&&n==m
 |_=>false
def oL:Operand->Bool
 |.const .nilIface=>true
 |_=>false
def nL(P:Program)(o:BinOp)(t:TypeId)(y:Operand)(a b:ak):Option (Bool×List Prop):=
 match a,b with
 |⟨.err,a⟩,⟨.err,b⟩=>match P.underlying t,oL y with
  |some (.interface _),true=>neg o (Option.isNone (α:=Option (Nat×Int)) a) []
  |some (.interface _),false=>match(show Option (Option (Nat×Int))from b)with
   |some (some (u,m))=>match P.info? u,P.underlying u with
    |some i,some (.int _)=>bif i.comparable then neg o (tS a u m) [(show Option (Option (Nat×Int))from a)≠some none]else none
    |_,_=>none
   |_=>none
  |_,_=>none
 |⟨.cL _ _,_⟩,⟨.err,_⟩=>match P.underlying t,oL y with
  |some (.interface _),true=>neg o false []
  |_,_=>none
 |_,_=>none
where
 neg (o:BinOp) (b:Bool) (ob:List Prop):Option (Bool×List Prop):=
  match o with
  |.eql=>some (b,ob)
  |.neq=>some (!b,ob)
  |_=>none
def sa(t:TypeId)(v:Option ak):Option (Option (Nat×Int)):=
 match v with
 |some ⟨.int k,n⟩=>bif gh k .i64 then some (some (t,n))else some none
 |_=>some none
def mkIf(t:TypeId)(v:Option ak):ao:=
 match v with
 |some ⟨u,y⟩=>bif u.agg then .val (.cL t u) y else .val .err (sa t v)
 |none=>.val .err (sa t v)
def G3(P:Program)(st:af)(x:Operand)(a:TypeId)(ok:Bool)(orc:List ak):Option dw:=
 match dm st x,P.underlying a with
 |some ⟨.cL n u,y⟩,some d=>match d with
  |.interface _=>none
  |_=>match Nat.beq n a,ok with
   |true,true=>some ⟨.dD [⟨u,y⟩,⟨.bool,true⟩],orc,[]⟩
   |true,false=>some ⟨.val u y,orc,[]⟩
   |false,true=>match zeroV P a with
    |some z=>some ⟨.dD [⟨z,ca z⟩,⟨.bool,false⟩],orc,[]⟩
    |none=>none
   |false,false=>none
 |_,_=>none
def sd(a b:Int):Int:=if b>a then b else a
def ga(a b:Int):Int:=if b<a then b else a
def uo(st:af)(fO:Bool)(args:List Operand):Option ak:=
 match args with
 |[x,y]=>match dm st x,dm st y with
  |some ⟨.int k,a⟩,some ⟨.int k',b⟩=>bif gh k k' then some ⟨.int k,bif fO then sd a b else ga a b⟩else none
  |_,_=>none
 |_=>none
def dv(P:Program)(st:af)(aa:Op)(orc:List ak):Option dw:=
 match aa with
 |.move x=>match aR st x with
  |some s=>some ⟨s,orc,[]⟩
  |none=>none
 |.assign x=>match aR st x with
  |some s=>some ⟨s,orc,[]⟩
  |none=>none
 |.pick c a b=>match dm st c with
  |some ⟨.bool,true⟩=>match aR st a with
   |some s=>some ⟨s,orc,[]⟩
   |none=>none
  |some ⟨.bool,false⟩=>match aR st b with
   |some s=>some ⟨s,orc,[]⟩
   |none=>none
  |_=>none
 |.binOp R t x y _=>match dm st x,dm st y with
  |some a,some b=>match bin P R t a b with
   |some (r,ob)=>some ⟨.val r.t r.x,orc,ob⟩
   |none=>match nL P R t y a b with
    |some (r,ob)=>some ⟨.val .bool r,orc,ob⟩
    |none=>none
  |_,_=>none
 |.unOp R _ x=>match dm st x with
  |some a=>match un R a with
   |some r=>some ⟨.val r.t r.x,orc,[]⟩
   |none=>none
  |none=>none
 |.convert src W x=>match dm st x with
  |some a=>match conv P src W a with
   |some r=>some ⟨.val r.t r.x,orc,[]⟩
   |none=>uy P st src W x orc
  |none=>uy P st src W x orc
 |.index t x i=>match dm st x,dV (aR st i),orc,P.underlying t with
  |some ⟨.str,s⟩,some n,⟨.int .u8,b⟩::orc',some .string=>some ⟨.val (.int .u8) b,orc',[dZ s n=some b]⟩
  |some ⟨.arr k u,xs⟩,some n,v::orc',some (.array k' e)=>match Nat.beq k k',ty P e,v.as u with
   |true,some o,some y=>bif u.beq o then some ⟨.val u y,orc',[aq (show List u.el from xs) n=some y]⟩else none
   |_,_,_=>none
  |_,_,_,_=>none
 |.field t x f=>match dm st x,fieldInfo P t f with
  |some a,some (off,u)=>match a.t.agg,cI a.t a.x off u with
   |true,some y=>some ⟨.val u y,orc,[]⟩
   |_,_=>none
  |_,_=>none
 |.build t parts=>match ty P t,P.info? t with
  |some u,some i=>match i.zero,u.n9 with
   |some z,true=>match fz u z.cells.toList,tQ P st t u parts.toList (ca u)with
    |some [],some y=>some ⟨.val u y,orc,[]⟩
    |_,_=>none
   |_,_=>none
  |_,_=>none
 |.extract x i=>match aR st x with
  |some (.dD l)=>match l[i]? with
   |some v=>some ⟨.val v.t v.x,orc,[]⟩
   |none=>none
  |some (.fM l)=>match l[i]? with
   |some (.v v)=>some ⟨.val v.t v.x,orc,[]⟩
   |some (.r r)=>some ⟨match look st.ad r with
    |some (.cells _ _)=>.ptr r 0
    |some (.aT _ _ _)=>.dz r []
    |some _=>.iter r
    |none=>.row r,orc,[]⟩
   |some .a=>some ⟨.any,orc,[]⟩
   |none=>none
  |_=>none
 |.nilCheck x=>match aR st x with
  |some (.ptr b off)=>some ⟨.ptr b off,orc,[]⟩
  |some (.vptr t y)=>some ⟨.vptr t y,orc,[]⟩
  |some (.dN r i off L)=>some ⟨.dN r i off L,orc,[]⟩
  |some (.dz b p)=>some ⟨.dz b p,orc,[]⟩
  |_=>none
 |.fieldAddr t x f=>match aR st x,fieldInfo P t f with
  |some (.ptr b off),some (q,_)=>some ⟨.ptr b (off+q),orc,[]⟩
  |some (.vptr u y),some (q,U)=>match cI u y q U with
   |some z=>some ⟨.vptr U z,orc,[]⟩
   |none=>none
  |some (.dN r i off L),some (q,_)=>some ⟨.dN r i (off+q) L,orc,[]⟩
  |some (.dz b p),some (q,U)=>some ⟨.dz b (p++[.f q U]),orc,[]⟩
  |_,_=>none
 |.indexAddr t x i=>match aR st x,dV (aR st i),ty P t,orc with
  |some (.val (.ab u) xs),some n,some (.ab o),v::orc'=>match u.beq o,v.as u with
   |true,some y=>some ⟨.vptr u y,orc',[aq xs n=some y]⟩
   |_,_=>none
  |some (.row r),some n,some (.ab o),v::orc'=>match look st.rw r with
   |some c=>match c.t.beq o,v.as c.t with
    |true,some y=>some ⟨.dN r n 0 c.t.cells,orc',[aq c.xs n=some y]⟩
    |_,_=>none
   |none=>none
  |some (.vptr (.arr k u) xs),some n,some (.arr k' o),v::orc'=>match Nat.beq k k'&&u.beq o,v.as u with
   |true,some y=>some ⟨.vptr u y,orc',[aq (show List u.el from xs) n=some y]⟩
   |_,_=>none
  |some (.dz b p),some n,some (.arr O u),orc=>some ⟨.dz b (p++[.x n u.cells]),orc,[0<=n/\n<(O:Int)]⟩
  |some (.ptr b off),some n,some (.arr O u),orc=>bif decide (0<=n)&&decide (n<O)then some ⟨.ptr b (off+n.toNat*u.cells),orc,[]⟩else none
  |some (.dN r i0 Y L),some n,some (.arr O u),orc=>match look st.rw r with
   |some c=>match c.t.beq u&&(i0==0&&(Nat.beq Y 0&&Nat.beq L c.t.cells)),orc with
    |true,v::orc'=>match v.as c.t with
     |some y=>some ⟨.dN r n 0 c.t.cells,orc',[aq c.xs n=some y,c.xs.length=O]⟩
     |none=>none
    |true,[]=>none
    |false,orc=>bif decide (0<=n)&&decide (n<O)then some ⟨.dN r i0 (Y+n.toNat*u.cells) L,orc,[]⟩else none
   |none=>none
  |_,_,_,_=>none
 |.load t x=>match aR st x,ty P t with
  |some (.vptr u y),some o=>match u.beq o,Nat.beq u.cells 0 with
   |true,false=>some ⟨.val u y,orc,[]⟩
   |_,_=>none
  |_,_=>none
 |.slice t x Z la none=>match aR st x,orc with
  |some (.val .str s),⟨.str,r⟩::orc'=>match P.underlying t,rb st Z,pt st la s.length with
   |some .string,some l,some h=>some ⟨.val .str r,orc',[dx s l h=some r]⟩
   |_,_,_=>none
  |some (.val (.ab u) xs),v::orc'=>match ty P t,rb st Z,pt st la xs.length,v.as (.ab u)with
   |some (.ab o),some l,some h,some r=>bif u.beq o then some ⟨.val (.ab u) r,orc',[dx xs l h=some r]⟩else none
   |_,_,_,_=>none
  |_,_=>none
 |.call c=>match c with
  |{callee:=.builtin .len,args:=args,argTypes:=lb}=>match args.toList,lb.toList with
   |[x],[t]=>match aR st x with
    |some s=>match lenOf P st s t with
     |some n=>some ⟨.val (.int .i64) n,orc,[]⟩
     |none=>none
    |none=>none
   |_,_=>none
  |{callee:=.builtin .max,args:=args,.. }=>match uo st true args.toList with
   |some r=>some ⟨.val r.t r.x,orc,[]⟩
   |none=>none
  |{callee:=.builtin .min,args:=args,.. }=>match uo st false args.toList with
   |some r=>some ⟨.val r.t r.x,orc,[]⟩
   |none=>none
  |_=>none
 |.makeInterface t x=>bif P.concrete t then some ⟨mkIf t (dm st x),orc,[]⟩else none
 |.typeAssert x _ a ok=>G3 P st x a ok orc
 |.lookup mt x k ok=>vB P st mt x k ok orc
 |_=>none
where
 rb (st:af):Option Operand->Option Int
  |none=>some 0
  |some x=>dV (aR st x)
 pt (st:af):Option Operand->Nat->Option Int
  |none,n=>some (n:Int)
  |some x,_=>dV (aR st x)
variable {cx:bB} {m:Nat->Value} {st:af} {T:Array Value} {w w':World}
variable [ai cx]
theorem fe(h:an cx m st T w){x:Operand}{n:Int}(o:dV (aR st x)=some n):∃k,Act.eval ⟨T,ai.D cx⟩ x=.int k n:=by
 unfold dV at o
 split at o
 ·rename_i k L q
  cases o
  exact⟨k,cV.1 (be h q)⟩
 ·cases o
theorem Az(h:an cx m st T w){v:Value}{s:ao}(o:aS w (ar cx m st.ids) m v s){bH:E6}(q:mapOf st s=some bH):
  (v=.map none/\bH.ps=[])\/∃(g:Nat) (es:Array MapEntry) (L:Nat),v=.map (some g)/\w.heap[g]? =some (.map es L)/\dQ (dW w (ar cx m st.ids) bH.k) (dW w (ar cx m st.ids) bH.v) es.toList bH.ps:=by
 unfold mapOf at q
 split at q
 ·rename_i k v' x
  cases q
  have o:=(bD (t:=.map k v') rfl).1 o
  match x,o with
  |none,o=>
   have o:[v]=[Value.map none]:=o
   simp only[List.cons.injEq,and_true]at o
   exact .inl ⟨o,rfl⟩
  |some ps,⟨b,es,L,e,O,_,_,_,R⟩=>
   simp only[List.cons.injEq,and_true]at e
   exact .inr ⟨b,es,L,e,O,R⟩
 ·rename_i b
  split at q
  ·rename_i k v' ps U
   cases q
   obtain⟨g,W,_,es,L,O,_,_,R⟩:=h.box (a8 U)
   have Y:v=m b:=o
   exact .inr ⟨g,es,L,by rw[Y,W];rfl,O,R⟩
  ·cases q
 ·cases q
theorem Pn(h:an cx m st T w){v:Value}{s:ao}(O:aS w (ar cx m st.ids) m v s){n:Int}{t:TypeId}(o:lenOf cx.P st s t=some n){ty':TypeId}:
  my cx.P w (Builtin.len_ #[t] ty' #[v]) (.int .i64 n):=by
 intro w' lb
 unfold lenOf at o
 split at o
 ·rename_i l L
  cases o
  obtain⟨i,_,_,q⟩:=da L
  obtain⟨rfl,_⟩:=eG.1 O
  simp only at q
  have W:=gY l
  simp only[bytesOf]at W
  simp[Builtin.len_,run_underlying q,goInt,W]
 ·rename_i e xs lc L
  cases o
  obtain⟨i,_,_,ld,_,q,_⟩:=da L
  obtain⟨a,cap,cells,R,_⟩:=(bD (t:=.ab e) rfl).1 O
  simp only[List.cons.injEq,and_true]at R
  subst R
  simp[Builtin.len_,run_underlying q,goInt]
 ·rename_i r lc L
  split at o
  ·rename_i c R
   cases o
   obtain⟨i,_,_,ld,_,q,_⟩:=da L
   obtain⟨cells,le,_⟩:=h.rows r c (a8 R)
   have Y:v=m r:=O
   rcases le.2 with ⟨U,lf⟩|⟨g,cap,cur,U,_⟩
   ·rw[Y,U,lf]
    simp[Builtin.len_,run_underlying q,goInt]
   ·rw[Y,U]
    simp[Builtin.len_,run_underlying q,goInt]
  ·cases o
 ·rename_i ll lm L
  split at o
  ·rename_i bH lg
   cases o
   obtain⟨i,_,_,k,e,_,q,_,_⟩:=da L
   rcases Az h O lg with ⟨rfl,lh⟩|⟨g,es,li,rfl,Z,lj⟩
   ·rw[lh]
    simp[Builtin.len_,run_underlying q,goInt]
   ·have lk:w'.heap[g]? =some (.map es li):=by rw[lb.block g (fV Z)];exact Z
    have la:=po lj
    rw[Array.length_toList]at la
    simp[Builtin.len_,run_underlying q,goInt,getObj,Sem.run,lk,la]
  ·cases o
 ·cases o
def dC(cx:bB)[ai cx](T:Array Value)(w:World)(aa:Oper)(v:Value):Prop:=∀w',Ext w w'->(execOp (Act.eval ⟨T,ai.D cx⟩) aa).run cx.P w'=.ok (.value v) w'
theorem dC.of{aa:Oper}{s:Sem Value}{v:Value}(o:execOp (Act.eval ⟨T,ai.D cx⟩) aa=(do pure (Next.value (<-s))))(q:my cx.P w s v):dC cx T w aa v:=by
 intro w' L
 rw[o,Sem.run_bind,q w' L]
 rfl
theorem Qk{P:Program}{t:TypeId}{s:List UInt8}{n b:Int}{k:IntKind}(o:P.underlying t=some .string)(h:dZ s n=some b):
  gb P (Instr.index t (.string (bytesOf s)) (.int k n)) (.int .u8 b):=by
 intro w'
 unfold dZ at h
 split at h
 ·rename_i c q
  cases h
  obtain⟨L,O,R⟩:=iC q
  rw[run_index_string _ t _ k n o]
  have U:n<(bytesOf s).size:=by rw[gY];exact O
  rw[dif_pos ⟨L,U⟩]
  have:(bytesOf s)[n.toNat]'(by omega)=c:=by
   have W:(bytesOf s).data[n.toNat]? =some c:=by simpa[bytesOf]using R
   have:=(Array.getElem?_eq_some_iff.1 W).2
   exact this
  rw[this]
 ·cases h
theorem TJ{P:Program}{t:TypeId}{s r:List UInt8}{o q:Option Value}{l h:Int}(O:P.underlying t=some .string)
  (W:(o=none/\l=0)\/∃k,o=some (.int k l))(Y:(q=none/\h=s.length)\/∃k,q=some (.int k h))(Z:dx s l h=some r):
  gb P (Instr.sliceAt t (.string (bytesOf s)) o q none) (.string (bytesOf r)):=by
 intro w'
 obtain⟨lg,lh,li,rfl⟩:=r3 Z
 have lj:((bytesOf s).size:Int)=s.length:=by rw[gY]
 have la:∀a b:Nat,(bytesOf s).extract a b=bytesOf ((s.take b).drop a):=by
  intro a b
  apply ByteArray.ext
  apply Array.ext'
  have:=Lib.extract_data (bytesOf s) a b
  rw[this]
  simp only[bytesOf]
  rw[List.drop_take]
 have lb:Instr.sliceAt t (.string (bytesOf s)) o q none=(do match<-underlying t with
  |.array n lc=>
   let a<-Instr.sureAddr (.string (bytesOf s))
   let(l,h,m)<-Instr.sliceBounds false n n o q none
   let size<-sizeOf lc
   pure (.slice (some (if m=l then a else a.add (l*size))) (h-l) (m-l))
  |_=>Instr.slice t (.string (bytesOf s)) o q none):=rfl
 rw[lb,Sem.run_bind,run_underlying O]
 simp only[Result.andThen_ok]
 have L:∀(x:Value) (k:IntKind) (n:Int) (y:Nat) (c:BoundsCode) (w:World),x=.int k n->0<=n->n<=y->(Instr.sliceBound x y c).run P w=.ok n.toNat w:=by
  rintro x k n y c w rfl ld le
  simp[Instr.sliceBound,asIntOf,ld,le]
 have lf:(Instr.sliceBounds false (bytesOf s).size (bytesOf s).size o q none).run P w'=.ok (l.toNat,h.toNat,(bytesOf s).size) w':=by
  rcases W with ⟨rfl,rfl⟩|⟨R,rfl⟩<;>rcases Y with ⟨rfl,rfl⟩|⟨U,rfl⟩
  ·simp[Instr.sliceBounds,gY]
  ·simp only[Instr.sliceBounds,Sem.run_bind,Sem.run_pure,Result.andThen_ok]
   rw[L _ U h _ _ _ rfl (by omega) (by omega)]
   simp
  ·simp only[Instr.sliceBounds,Sem.run_bind,Sem.run_pure,Result.andThen_ok]
   rw[L _ R l _ _ _ rfl (by omega) (by omega)]
   simp[gY]
  ·simp only[Instr.sliceBounds,Sem.run_bind,Sem.run_pure,Result.andThen_ok]
   rw[L _ U h _ _ _ rfl (by omega) (by omega)]
   simp only[Result.andThen_ok,Sem.run_bind]
   rw[L _ R l _ _ _ rfl (by omega) (by omega)]
   simp
 simp only[Instr.slice,Sem.run_bind,run_underlying O,Result.andThen_ok,Option.isSome_none,Bool.false_eq_true,if_false,Sem.run_pure,lf,la]
theorem UX{P:Program}{M:Nat->Prop}{t e:TypeId}{u:ag}{xs r:List u.el}{d:Nat}{v:Value}{o q:Option Value}{l h:Int}(lb:P.underlying t=some (.slice e))(lk:cG P d e=some u)
  (ll:aH w M (.ab u) [v] xs)(lm:(o=none/\l=0)\/∃k,o=some (.int k l))(ln:(q=none/\h=xs.length)\/∃k,q=some (.int k h))(lo:dx xs l h=some r):
  ∃v',gb P (Instr.sliceAt t v o q none) v'/\aH w M (.ab u) [v'] r:=by
 obtain⟨lc,lI,lJ,rfl⟩:=r3 lo
 obtain⟨a,cap,cells,ld,lK,lL,le,lp,lq⟩:=ll
 simp only[List.cons.injEq,and_true]at ld
 subst ld
 have lr:Instr.sliceAt t (.slice a xs.length cap) o q none=(do match<-underlying t with
  |.array n ls=>
   let lf<-Instr.sureAddr (.slice a xs.length cap)
   let(l,h,m)<-Instr.sliceBounds false n n o q none
   let size<-sizeOf ls
   pure (.slice (some (if m=l then lf else lf.add (l*size))) (h-l) (m-l))
  |_=>Instr.slice t (.slice a xs.length cap) o q none):=rfl
 have W:∀(x:Value) (k:IntKind) (n:Int) (y:Nat) (c:BoundsCode) (w:World),x=.int k n->0<=n->n<=y->(Instr.sliceBound x y c).run P w=.ok n.toNat w:=by
  rintro x k n y c w rfl lt lu
  simp[Instr.sliceBound,asIntOf,lt,lu]
 have lv:∀w',(Instr.sliceBounds true xs.length cap o q none).run P w'=.ok (l.toNat,h.toNat,cap) w':=by
  intro w'
  rcases lm with ⟨rfl,rfl⟩|⟨lg,rfl⟩<;>rcases ln with ⟨rfl,rfl⟩|⟨lh,rfl⟩
  ·simp[Instr.sliceBounds]
  ·simp only[Instr.sliceBounds,Sem.run_bind,Sem.run_pure,Result.andThen_ok]
   rw[W _ lh h _ _ _ rfl (by omega) (by omega)]
   simp
  ·simp only[Instr.sliceBounds,Sem.run_bind,Sem.run_pure,Result.andThen_ok]
   rw[W _ lg l _ _ _ rfl (by omega) (by omega)]
   simp
  ·simp only[Instr.sliceBounds,Sem.run_bind,Sem.run_pure,Result.andThen_ok]
   rw[W _ lh h _ _ _ rfl (by omega) (by omega)]
   simp only[Result.andThen_ok,Sem.run_bind]
   rw[W _ lg l _ _ _ rfl (by omega) (by omega)]
   simp
 have la:((xs.take h.toNat).drop l.toNat).length=h.toNat-l.toNat:=by
  rw[List.length_drop,List.length_take];omega
 refine⟨.slice (if cap=l.toNat then a else a.map (·.add (l.toNat*u.cells))) (h.toNat-l.toNat) (cap-l.toNat),fun w'=>?_,?_⟩
 ·rw[lr,Sem.run_bind,run_underlying lb]
  simp only[Result.andThen_ok,Instr.slice,Sem.run_bind,run_underlying lb,lv,eK lk,Sem.run_pure]
 ·have split:∀(L:List u.el) (O:List Value) (n:Nat),bM (aH w M u) O L->n<=L.length->∃U c2,O=U++c2/\U.length=n*u.cells/\bM (aH w M u) U (L.take n)/\bM (aH w M u) c2 (L.drop n):=by
   intro L
   induction L with
   |nil=>
    intro O n Y R
    have lc:n=0:=Nat.le_zero.1 R
    rw[lc]
    exact⟨[],O,rfl,by simp,rfl,Y⟩
   |cons y L lw=>
    intro O n Y R
    cases n with
    |zero=>exact⟨[],O,rfl,by simp,rfl,Y⟩
    |succ n=>
     obtain⟨d1,d2,lx,li,ly⟩:=Y
     obtain⟨f1,f2,g1,g2,g3,g4⟩:=lw d2 n ly (by simpa using R)
     exact⟨d1++f1,f2,by rw[lx,g1];simp,by rw[List.length_append,cf u li,g2,Nat.succ_mul,Nat.add_comm],⟨d1,f1,rfl,li,g3⟩,g4⟩
  obtain⟨U,c2,lz,lM,lA,_⟩:=split xs cells h.toNat lp (by omega)
  obtain⟨d1,d2,lB,lN,_,lj⟩:=split (xs.take h.toNat) U l.toNat lA (by rw[List.length_take];omega)
  refine⟨(if cap=l.toNat then a else a.map (·.add (l.toNat*u.cells))),cap-l.toNat,d2,by rw[la],by rw[la];omega,by omega,?_,lj,fun j v Z=>?_⟩
  ·intro R
   split at R
   ·have:=le R;omega
   ·cases a with
    |none=>have:=le rfl;omega
    |some a=>simp at R
  ·have lO:=(List.getElem?_eq_some_iff.1 Z).1
   have lC:cells[l.toNat*u.cells+j]? =some v:=by
    rw[lz,lB,List.append_assoc,List.getElem?_append_right (by omega),List.getElem?_append_left (by omega),<-Z]
    congr 1
    omega
   obtain⟨b,lD,lE,lF⟩:=lq _ _ lC
   subst lD
   split
   ·rename_i lP
    have lG:d2=[]:=by
     have:=iq (fun O x=>cf u) _ _ lj
     rw[la]at this
     have lH:h.toNat-l.toNat=0:=by omega
     rw[lH,Nat.zero_mul]at this
     exact List.eq_nil_of_length_eq_zero this
    rw[lG]at Z
    simp at Z
   ·exact⟨_,rfl,by rw[add_add];exact lE,by rw[jo];exact lF⟩
theorem Ad{P:Program}:∀(o:List Field),(∀f∈o,∃i,P.info? f.type=some i)->
  o.mapM (fun f=>(P.info? f.type).map fun i=>(f.offset,i.size))=some (o.map fun f=>(f.offset,P.cellsOf f.type))
 |[],_=>rfl
 |f::o,h=>by
  obtain⟨i,q⟩:=h f List.mem_cons_self
  rw[List.mapM_cons,Ad o (fun g L=>h g (List.mem_cons_of_mem _ L))]
  simp[q,Program.cellsOf]
theorem Ap{P:Program}{d:Nat}:∀{q:List Field} {off:Nat} {u:ag},fieldsOf (cG P d) off q=some u->∀f∈q,∃i,P.info? f.type=some i
 |[],_,_,_,f,o=>by simp at o
 |fd::q,off,u,h,f,o=>by
  unfold fieldsOf at h
  cases L:Nat.beq fd.offset off with
  |false=>rw[L]at h;cases h
  |true=>
   rw[L,cond_true]at h
   split at h
   ·rename_i a O
    split at h
    ·rename_i b R
     rcases List.mem_cons.1 o with rfl|o
     ·obtain⟨i,U,_⟩:=da O;exact⟨i,U⟩
     ·exact Ap R f o
    ·cases h
   ·cases h
theorem T0(o:List Value):∀(k:Nat) (pre post old:List Value),old.length=o.length->
  ((o.zipIdx k).foldl (fun q (x:Value×Nat)=>Array.setIfInBounds q (pre.length+x.2-k) x.1) (pre++old++post).toArray)=(pre++o++post).toArray:=by
 induction o with
 |nil=>intro k pre post old h;have:old=[]:=List.eq_nil_of_length_eq_zero h;subst this;rfl
 |cons v o L=>
  intro k pre post old h
  match old,h with
  |aa::old,h=>
   have h':old.length=o.length:=by simpa using h
   have O:Array.setIfInBounds (pre++(aa::old)++post).toArray (pre.length+k-k) v=((pre++[v])++old++post).toArray:=by
    rw[show pre.length+k-k=pre.length by omega]
    simp
   rw[List.zipIdx_cons,List.foldl_cons,O]
   have:=L (k+1) (pre++[v]) post old h'
   rw[List.length_append,List.length_singleton]at this
   have R:(fun(q:Array Value) (x:Value×Nat)=>Array.setIfInBounds q (pre.length+1+x.2-(k+1)) x.1)=(fun q x=>Array.setIfInBounds q (pre.length+x.2-k) x.1):=by
    funext q x
    congr 1
    omega
   rw[R]at this
   rw[this]
   simp
theorem uX(o pre post old:List Value)(h:old.length=o.length):
  (o.toArray.zipIdx.foldl (fun q (x:Value×Nat)=>Array.setIfInBounds q (pre.length+x.2) x.1) (pre++old++post).toArray)=(pre++o++post).toArray:=by
 have:=T0 o 0 pre post old h
 simpa using this
theorem HH{P:Program}{t:TypeId}{u:ag}{ld:Array Field}(le:P.underlying t=some (.struct ld))(h:an cx m st T w)(lf:P=cx.P)
  {place:Nat->Option (Nat×Nat)}(U:∀i off o,fieldInfo P t i=some (off,o)->place i=some (off,o.cells)):
  ∀(parts:List (Nat×Operand)) (x y:u.el) (L:List Value),aH w (ar cx m st.ids) u L x->tQ P st t u parts x=some y->
   ∃O,Instr.fill place L.toArray (parts.map fun p=>(p.1,Act.eval ⟨T,ai.D cx⟩ p.2))=some O.toArray/\aH w (ar cx m st.ids) u O y
 |[],x,y,L,R,q=>by cases q;exact⟨L,rfl,R⟩
 |(i,aa)::r,x,y,L,R,q=>by
  unfold tQ at q
  split at q
  ·rename_i off o v lg lh
   split at q
   ·rename_i li lj lk
    have ll:=cW h lh
    have W:=jd ll
    obtain⟨Y,c2,c3,rfl,Z,la,lm⟩:=pb W u R lk
    have ln:v.t.cells=o.cells:=by rw[ag.eq_of_beq lj]
    have lb:(Act.eval ⟨T,ai.D cx⟩ aa).cells.toList.length=o.cells:=by rw[cf v.t W,ln]
    have lo:(Act.eval ⟨T,ai.D cx⟩ aa).cells.size=o.cells:=by rw[<-lb];simp
    obtain⟨O,lp,lq⟩:=HH le h lf U r li y _ lm q
    refine⟨O,?_,lq⟩
    rw[List.map_cons,Instr.fill,U i off o lg]
    have lr:¬(((Act.eval ⟨T,ai.D cx⟩ aa).cells.size≠o.cells||decide (off+(Act.eval ⟨T,ai.D cx⟩ aa).cells.size>(Y++c2++c3).toArray.size))=true):=by
     simp only[lo,List.size_toArray,List.length_append,Z,la,lb]
     simp
    simp only[]
    rw[if_neg lr]
    have lc:=uX (Act.eval ⟨T,ai.D cx⟩ aa).cells.toList Y c3 c2 la
    rw[Z,Array.toArray_toList]at lc
    rw[lc]
    exact lp
   ·cases q
  ·cases q
end Go.Ev
namespace Go.Ev
open Go Go.RowKit
variable [b8]
variable {cx:bB} {m:Nat->Value} {st:af} {T:Array Value} {w w':World}
variable [ai cx]
theorem IP(h:an cx m st T w){o:Option Operand}{l:Int}(q:dv.rb st o=some l):
  (o.map (Act.eval ⟨T,ai.D cx⟩)=none/\l=0)\/∃k,o.map (Act.eval ⟨T,ai.D cx⟩)=some (.int k l):=by
 cases o with
 |none=>cases q;exact .inl ⟨rfl,rfl⟩
 |some x=>obtain⟨k,L⟩:=fe h q;exact .inr ⟨k,by simp[L]⟩
theorem Kl(h:an cx m st T w){o:Option Operand}{n:Nat}{l:Int}(q:dv.pt st o n=some l):
  (o.map (Act.eval ⟨T,ai.D cx⟩)=none/\l=n)\/∃k,o.map (Act.eval ⟨T,ai.D cx⟩)=some (.int k l):=by
 cases o with
 |none=>cases q;exact .inl ⟨rfl,rfl⟩
 |some x=>obtain⟨k,L⟩:=fe h q;exact .inr ⟨k,by simp[L]⟩
theorem vF{M:Nat->Prop}{v:Value}{t:ag}{x:t.el}(h:aS w M m v (.vptr t x)):∃a,v=.pointer (some a)/\Holds w M a t x:=by
 obtain⟨a,cells,e,o,q⟩:=h
 exact⟨a,e,cells,o,q⟩
theorem EL{M:Nat->Prop}{a:Addr}{t:ag}{x:t.el}(h:Holds w M a t x):aS w M m (.pointer (some a)) (.vptr t x):=by
 obtain⟨cells,o,q⟩:=h
 exact⟨a,cells,rfl,o,q⟩
theorem Ql{α:Type}{s r:List α}{o q:Int}(h:dx s o q=some r):r.length<=s.length:=by
 obtain⟨_,_,_,rfl⟩:=r3 h
 rw[List.length_drop,List.length_take]
 omega
theorem Kx{cx:bB}{m:Nat->Value}{st:af}{T:Array Value}{w:World}(h:an cx m st T w){aa:Oper}{src Y:TypeId}{x:Operand}(Z:aa.op=.convert src Y x){orc:List ak}{O:dw}(o:uy cx.P st src Y x orc=some O)(la:bO O.ob):
  ∃v,dC cx T w aa v/\aS w (ar cx m st.ids) m v O.aO:=by
 have key:∀s,(aR st x).map (mm st)=some s->aS w (fun _=>False) m (Act.eval ⟨T,ai.D cx⟩ x) s:=by
  intro s q
  obtain⟨lb,L,R⟩:=Option.map_eq_some_iff.1 q
  rw[<-R]
  exact Fi h (be h L)
 unfold uy at o
 split at o
 ·rename_i xs e U q ah
  split at o
  ·rename_i W
   cases o
   obtain⟨L,R⟩:=Ua q W ah (key _ U)
   exact⟨_,dC.of (by simp only[execOp,Z]) L,eG.2 ⟨rfl,R⟩⟩
  ·cases o
 ·rename_i xs e U q ah
  split at o
  ·rename_i W
   cases o
   have L:=OT q W ah (key _ U)
   exact⟨_,dC.of (by simp only[execOp,Z]) L,eG.2 ⟨rfl,Nat.le_trans la.1 qc⟩⟩
  ·cases o
 ·cases o
theorem JD{y:Operand}(h:oL y=true):y=.const .nilIface:=by
 cases y with
 |const c=>cases c<;>first|rfl|(simp[oL]at h)
 |_=>simp[oL]at h
theorem Gp{P:Program}{t:TypeId}{ms}(o:P.underlying t=some (.interface ms))(w:World):(Op.equal t .nilIface .nilIface).run P w=.ok true w:=by
 unfold Op.equal Op.maxDepth
 rw[Op.equalIn]
 simp only[Sem.run_bind,run_underlying o,Result.andThen_ok]
 rfl
theorem oI{P:Program}{t u:TypeId}{v:Value}{ms}(o:P.underlying t=some (.interface ms))(w:World):(Op.equal t (.iface u v) .nilIface).run P w=.ok false w:=by
 unfold Op.equal Op.maxDepth
 rw[Op.equalIn]
 simp only[Sem.run_bind,run_underlying o,Result.andThen_ok]
 rfl
theorem Jd{P:Program}{t u:TypeId}{v:Value}{ms}(o:P.underlying t=some (.interface ms))(w:World):(Op.equal t .nilIface (.iface u v)).run P w=.ok false w:=by
 unfold Op.equal Op.maxDepth
 rw[Op.equalIn]
 simp only[Sem.run_bind,run_underlying o,Result.andThen_ok]
 rfl
theorem o5{P:Program}{t:TypeId}{o q:Value}{b:Bool}(L:binOp .eql t o q=(do pure (.bool (<-Op.equal t o q))))(h:∀w,(Op.equal t o q).run P w=.ok b w)(w:World):(binOp .eql t o q).run P w=.ok (.bool b) w:=by
 rw[L,Sem.run_bind,h w];rfl
theorem nR{P:Program}{t:TypeId}{o q:Value}{b:Bool}(L:binOp .neq t o q=(do pure (.bool (!(<-Op.equal t o q)))))(h:∀w,(Op.equal t o q).run P w=.ok b w)(w:World):(binOp .neq t o q).run P w=.ok (.bool (!b)) w:=by
 rw[L,Sem.run_bind,h w];rfl
theorem GS{P:Program}{M:Nat->Prop}{op:BinOp}{t:TypeId}{x y:ak}{L q:Value}{ox oy:Operand}{r:Bool}{ob:List Prop}(O:ba w M L x.t x.x)(R:ba w M q y.t y.x)
  (ld:oy=.const .nilIface->q=.nilIface)(h:nL P op t oy x y=some (r,ob))(lf:bO ob):
  ∃v,gb P (do eqGuard op t ox oy L q;binOp op t L q) v/\∀w M,ba w M v .bool r:=by
 have fin:∀(b:Bool) (Y:List Prop),nL.neg op b Y=some (r,ob)->(∀w,(eqGuard .eql t ox oy L q).run P w=.ok () w)->(∀w,(eqGuard .neq t ox oy L q).run P w=.ok () w)->
   (∀w,(binOp .eql t L q).run P w=.ok (.bool b) w)->(∀w,(binOp .neq t L q).run P w=.ok (.bool (!b)) w)->∃v,gb P (do eqGuard op t ox oy L q;binOp op t L q) v/\∀w M,ba w M v .bool r:=by
  intro b Y h g1 g2 lg lh
  unfold nL.neg at h
  split at h
  ·cases h;exact⟨_,fun w=>by rw[Sem.run_bind,g1 w];exact lg w,fun _ _=>dB.2 rfl⟩
  ·cases h;exact⟨_,fun w=>by rw[Sem.run_bind,g2 w];exact lh w,fun _ _=>dB.2 rfl⟩
  ·cases h
 have Y:∀(b:Bool) (aa:List Prop),nL.neg op b aa=some (r,ob)->ob=aa:=by
  intro b aa h
  unfold nL.neg at h
  split at h<;>cases h<;>rfl
 unfold nL at h
 split at h
 ·rename_i a b
  have O:=(bD (t:=.err) rfl).1 O
  have R:=(bD (t:=.err) rfl).1 R
  split at h
  ·rename_i le o Z
   have U:=JD Z
   have W:=ld U
   subst U
   subst W
   rcases O with ⟨rfl,e⟩|⟨rfl,u,v,e⟩|⟨u,n,rfl,e⟩<;>simp only[List.cons.injEq,and_true]at e<;>subst e
   ·exact fin _ _ h (fun w=>by cases ox<;>rfl) (fun w=>by cases ox<;>rfl) (o5 rfl (Gp o)) (nR rfl (Gp o))
   ·exact fin _ _ h (fun w=>rfl) (fun w=>rfl) (o5 rfl (oI o)) (nR rfl (oI o))
   ·exact fin _ _ h (fun w=>rfl) (fun w=>rfl) (o5 rfl (oI o)) (nR rfl (oI o))
  ·rename_i le o Z
   split at h
   ·rename_i u m lb
    have lb:b=some (some (u,m)):=lb
    subst lb
    have R:q=.iface u (.int .i64 m):=by
     rcases R with ⟨e,_⟩|⟨e,_⟩|⟨la,lm,e,W⟩
     ·cases e
     ·cases e
     ·cases e;simpa using W
    subst R
    split at h
    ·rename_i i k li lj
     cases lc:i.comparable with
     |false=>rw[lc]at h;cases h
     |true=>
      rw[lc,cond_true]at h
      have:=Y _ _ h
      subst this
      have lk:=lf.1
      have ll:∀w,(typeInfo u).run P w=.ok i w:=fun w=>run_typeInfo w li
      rcases O with ⟨rfl,e⟩|⟨rfl,_⟩|⟨la,n,rfl,e⟩
      ·simp only[List.cons.injEq,and_true]at e;subst e
       exact fin _ _ h (fun w=>rfl) (fun w=>rfl) (o5 rfl (Jd o)) (nR rfl (Jd o))
      ·exact absurd rfl lk
      ·simp only[List.cons.injEq,and_true]at e;subst e
       have key:∀w,(Op.equal t (.iface la (.int .i64 n)) (.iface u (.int .i64 m))).run P w=.ok (tS (some (some (la,n))) u m) w:=by
        intro w
        unfold Op.equal Op.maxDepth
        rw[Op.equalIn]
        simp only[Sem.run_bind,run_underlying o,Result.andThen_ok]
        by_cases aK:la=u
        ·subst aK
         simp only[ne_eq,not_true_eq_false,if_false,Sem.run_bind,ll,Result.andThen_ok,lc,Bool.not_true,Bool.false_eq_true]
         rw[run_equalIn_int (h:=lj)]
         simp[tS]
        ·simp[aK,tS,Sem.run_pure]
       exact fin _ _ h (fun w=>rfl) (fun w=>rfl) (o5 rfl key) (nR rfl key)
    ·cases h
   ·cases h
  ·cases h
 ·rename_i n u a b
  have O:=(bD (t:=.cL n u) rfl).1 O
  split at h
  ·rename_i le o Z
   have U:=JD Z
   have W:=ld U
   subst U
   subst W
   obtain⟨v,e,_⟩:=O
   simp only[List.cons.injEq,and_true]at e
   subst e
   exact fin _ _ h (fun w=>rfl) (fun w=>rfl) (o5 rfl (oI o)) (nR rfl (oI o))
  ·cases h
 ·cases h
theorem K1(h:an cx m st T w){fO:Bool}{args:Array Operand}{r:ak}(o:uo st fO args.toList=some r):
  ∃x y k a b,args=#[x,y]/\Act.eval ⟨T,ai.D cx⟩ x=.int k a/\Act.eval ⟨T,ai.D cx⟩ y=.int k b/\r=⟨.int k,bif fO then sd a b else ga a b⟩:=by
 unfold uo at o
 split at o
 ·rename_i x y L
  split at o
  ·rename_i k a k' b O R
   cases q:gh k k' with
   |false=>rw[q]at o;cases o
   |true=>
    rw[q,cond_true]at o
    cases o
    obtain rfl:=mr q
    exact⟨x,y,k,a,b,by rw[<-Array.toArray_toList (xs:=args),L],cV.1 (cW h O),cV.1 (cW h R),rfl⟩
  ·cases o
 ·cases o
set_option maxHeartbeats 1000000 in
theorem ya(h:an cx m st T w){aa:Oper}{orc:List ak}{lN:dw}(o:dv cx.P st aa.op orc=some lN)(ld:bO lN.ob):
  ∃v,dC cx T w aa v/\aS w (ar cx m st.ids) m v lN.aO:=by
 cases R:aa.op<;>rw[R]at o
 case move x=>
  simp only[dv]at o
  split at o
  ·rename_i s le
   cases o
   exact⟨_,fun w' _=>by simp[execOp,R],be h le⟩
  ·cases o
 case assign x=>
  simp only[dv]at o
  split at o
  ·rename_i s le
   cases o
   exact⟨_,fun w' _=>by simp[execOp,R],be h le⟩
  ·cases o
 case pick c a b=>
  simp only[dv]at o
  split at o
  ·rename_i lf
   have lO:=dB.1 (cW h lf)
   split at o
   ·rename_i s le
    cases o
    refine⟨_,fun w' _=>?_,be h le⟩
    simp[execOp,R,lO,asBool]
   ·cases o
  ·rename_i lf
   have lO:=dB.1 (cW h lf)
   split at o
   ·rename_i s le
    cases o
    refine⟨_,fun w' _=>?_,be h le⟩
    simp[execOp,R,lO,asBool]
   ·cases o
  ·cases o
 case binOp ap t x y a4=>
  simp only[dv]at o
  split at o
  ·rename_i a b lq U
   split at o
   ·rename_i r ob W
    cases o
    obtain⟨v,L,q⟩:=zN (ox:=x) (oy:=y) (cW h lq) (cW h U) W ld
    exact⟨v,dC.of (by simp only[execOp,R]) L.steady,q _ _⟩
   ·split at o
    ·rename_i r ob W
     cases o
     obtain⟨v,L,q⟩:=GS (ox:=x) (oy:=y) (cW h lq) (cW h U) (fun lm=>by subst lm;rfl) W ld
     exact⟨v,dC.of (by simp only[execOp,R]) L.steady,q _ _⟩
    ·cases o
  ·cases o
 case unOp ap t x=>
  simp only[dv]at o
  split at o
  ·rename_i a lq
   split at o
   ·rename_i r W
    cases o
    obtain⟨v,L,q⟩:=Sk (P:=cx.P) (cW h lq) W
    exact⟨v,dC.of (by simp only[execOp,R]) L.steady,q _ _⟩
   ·cases o
  ·cases o
 case convert src a5 x=>
  simp only[dv]at o
  split at o
  ·rename_i a lq
   split at o
   ·rename_i r W
    cases o
    obtain⟨v,L,q⟩:=Nh (cW h lq) W
    exact⟨v,dC.of (by simp only[execOp,R]) L.steady,q _ _⟩
   ·exact Kx h R o ld
  ·exact Kx h R o ld
 case index t x i=>
  simp only[dv]at o
  split at o
  ·rename_i s n b orc' O lc la
   cases o
   obtain⟨k,li⟩:=fe h lc
   obtain⟨Y,_⟩:=eG.1 (cW h O)
   refine⟨.int .u8 b,dC.of (s:=Instr.index t (.string (bytesOf s)) (.int k n)) (by simp only[execOp,R,Y,li];rfl) (Qk la ld.1).steady,cV.2 rfl⟩
  ·rename_i k u xs n v orc' k' e O lc la
   split at o
   ·rename_i lj y U lr lm
    cases ls:u.beq lj<;>rw[ls]at o<;>cases o
    obtain rfl:=Nat.eq_of_beq_eq_true U
    obtain rfl:=ag.eq_of_beq ls
    obtain⟨ly,aK⟩:=fe h lc
    obtain⟨lo,L,q⟩:=iC ld.1
    obtain⟨aq,Y,lP,lQ⟩:=(dS (t:=.arr k u) rfl).1 (cW h O)
    obtain⟨lv,c2,c3,rfl,lg,W⟩:=kq lQ q
    obtain⟨r,lz,lR⟩:=zF lr (pre:=lv) (post:=c3) W
    refine⟨r,dC.of (s:=Instr.index t (.agg (lv++c2++c3).toArray) (.int ly n)) (by simp only[execOp,R,Y,aK]) (fun w' _=>?_),lR⟩
    have lA:n<(k:Int):=by rw[<-lP];exact L
    simp only[Instr.index,asIntOf,Sem.run_bind,Sem.run_pure,Result.andThen_ok,run_underlying la]
    rw[if_pos ⟨lo,lA⟩]
    simp only[Sem.run_bind,eK lr,Result.andThen_ok]
    have:=lz w'
    rw[lg]at this
    exact this
   ·cases o
  ·cases o
 case field t x f=>
  simp only[dv]at o
  split at o
  ·rename_i a off u lq lh
   split at o
   ·rename_i y lH ln
    cases o
    obtain⟨r,L,q⟩:=Tj lh lH (cW h lq) ln
    exact⟨r,dC.of (by simp only[execOp,R]) L.steady,q⟩
   ·cases o
  ·cases o
 case build t parts=>
  simp only[dv]at o
  split at o
  ·rename_i u i Z lc
   split at o
   ·rename_i z lk l7
    have lH:=ag.VG l7
    split at o
    ·rename_i y au av
     cases o
     obtain⟨l8,l9,aw⟩:=Ko (w:=w) (M:=ar cx m st.ids) u au
     rw[List.append_nil]at l9
     obtain⟨a6,a7,a9,lh⟩:=da Z
     have ax:∃lw d',cx.P.underlying t=some (.struct lw)/\fieldsOf (cG cx.P d') 0 lw.toList=some u:=by
      cases u<;>first|exact lh|(simp[ag.n9]at l7)
     obtain⟨lw,d',lS,ay⟩:=ax
     obtain⟨ab,az,lR⟩:=HH lS h rfl (place:=fun k=>(lw.map fun f=>(f.offset,cx.P.cellsOf f.type))[k]?) (fun k off lB aA=>by
      obtain⟨aB,bb,L,q,lI,lJ,aC⟩:=tg aA
      have:aB=lw:=by rw[lS]at L;cases L;rfl
      subst this
      obtain⟨i3,aD,aE,_⟩:=da lI
      rw[Array.getElem?_map,q]
      simp[lJ,Program.cellsOf,aD,aE]) parts.toList (ca u) y l8 aw av
     refine⟨.agg ab.toArray,dC.of (by simp only[execOp,R]) (s:=Instr.build t (parts.map fun p=>(p.1,Act.eval ⟨T,ai.D cx⟩ p.2))) ?_,(dS lH).2 ⟨ab,rfl,lR⟩⟩
     intro w' _
     have aF:z.cells=l8.toArray:=by rw[<-l9]
     refine run_build w' t _ _ ?_
     unfold Program.built
     simp only[lc,lS,lk,Ad lw.toList (fun f lh=>Ap ay f lh)]
     rw[aF,Array.toList_map,<-az]
     congr 1
     funext k
     simp
    ·cases o
   ·cases o
  ·cases o
 case extract x i=>
  simp only[dv]at o
  split at o
  ·rename_i l O
   split at o
   ·rename_i v Y
    cases o
    obtain⟨vs,lC,W⟩:=be h O
    have key:∀(vs:List Value) (l:List ak) (i:Nat) (u:ak),dL w (ar cx m st.ids) vs l->l[i]? =some u->∃v,vs[i]? =some v/\ba w (ar cx m st.ids) v u.t u.x:=by
     intro vs
     induction vs with
     |nil=>intro l i u W Z;cases l with
      |nil=>simp at Z
      |cons _ _=>exact W.elim
     |cons v vs lD=>intro l i u W Z;cases l with
      |nil=>exact W.elim
      |cons lj l=>cases i with
       |zero=>simp at Z;subst Z;exact⟨v,rfl,W.1⟩
       |succ i=>exact lD l i u W.2 (by simpa using Z)
    obtain⟨v',L,q⟩:=key vs l i v W Y
    refine⟨v',fun w' _=>?_,q⟩
    simp only[execOp,R,lC,Instr.extract]
    rw[List.getElem?_toArray,L]
    rfl
   ·cases o
  ·rename_i l O
   have key:∀(vs:List Value) (l:List bV) (i:Nat) (u:bV),cX w (ar cx m st.ids) m vs l->l[i]? =some u->∃v,vs[i]? =some v/\(match u with|.v u=>ba w (ar cx m st.ids) v u.t u.x|.r r=>v=m r|.a=>True):=by
    intro vs
    induction vs with
    |nil=>intro l i u W Z;cases l with
     |nil=>simp at Z
     |cons _ _=>exact W.elim
    |cons v vs lD=>intro l i u W Z;cases l with
     |nil=>exact W.elim
     |cons lj l=>cases i with
      |zero=>simp at Z;subst Z;cases lj with
       |v _=>exact⟨v,rfl,W.1⟩
       |r _=>exact⟨v,rfl,W.1⟩
       |a=>exact⟨v,rfl,trivial⟩
      |succ i=>cases lj with
       |v _=>exact lD l i u W.2 (by simpa using Z)
       |r _=>exact lD l i u W.2 (by simpa using Z)
       |a=>exact lD l i u W (by simpa using Z)
   obtain⟨vs,lC,W⟩:=be h O
   split at o
   ·rename_i v Y
    cases o
    obtain⟨v',L,q⟩:=key vs l i _ W Y
    refine⟨v',fun w' _=>?_,q⟩
    simp only[execOp,R,lC,Instr.extract]
    rw[List.getElem?_toArray,L]
    rfl
   ·rename_i r Y
    cases o
    obtain⟨v',L,q⟩:=key vs l i _ W Y
    refine⟨v',fun w' _=>?_,?_⟩
    ·simp only[execOp,R,lC,Instr.extract]
     rw[List.getElem?_toArray,L]
     rfl
    ·show aS _ _ _ _ _
     split
     ·rename_i l e lg
      obtain⟨g,ln,_⟩:=h.box (a8 lg)
      have q:v'=m r:=q
      exact⟨g,ln,q.trans ln⟩
     ·rename_i t x e lg
      obtain⟨g,ln,_⟩:=h.box (a8 lg)
      have q:v'=m r:=q
      exact⟨g,ln,q.trans ln⟩
     ·exact q
     ·exact q
   ·rename_i Y
    cases o
    obtain⟨v',L,_⟩:=key vs l i _ W Y
    refine⟨v',fun w' _=>?_,trivial⟩
    simp only[execOp,R,lC,Instr.extract]
    rw[List.getElem?_toArray,L]
    rfl
   ·cases o
  ·cases o
 case nilCheck x=>
  simp only[dv]at o
  split at o
  ·rename_i b off O
   cases o
   have Y:=be h O
   obtain⟨g,L,q⟩:=Y
   exact⟨_,fun w' _=>by simp only[execOp,R,q];rfl,g,L,q⟩
  ·rename_i t y O
   cases o
   have Y:=be h O
   obtain⟨a,L,q⟩:=vF Y
   exact⟨_,fun w' _=>by simp only[execOp,R,L];rfl,L▸Y⟩
  ·rename_i r i off lK O
   cases o
   have Y:=be h O
   obtain⟨g,n,cap,L,q⟩:=Y
   exact⟨_,fun w' _=>by simp only[execOp,R,q];rfl,g,n,cap,L,q⟩
  ·rename_i b p O
   cases o
   have Y:=be h O
   obtain⟨g,L,q⟩:=Y
   exact⟨_,fun w' _=>by simp only[execOp,R,q];rfl,g,L,q⟩
  ·cases o
 case fieldAddr t x f=>
  simp only[dv]at o
  split at o
  ·rename_i b off lt lB O lh
   cases o
   obtain⟨g,L,q⟩:=be h O
   refine⟨.pointer (some ⟨g,off+lt,none⟩),dC.of (by simp only[execOp,R]) (s:=Instr.fieldAt t (Act.eval ⟨T,ai.D cx⟩ x) f) ?_,g,L,rfl⟩
   intro w' _
   rw[q,k7 lh,gl]
  ·rename_i u y lt lB O lh
   split at o
   ·rename_i z lk
    cases o
    obtain⟨a,L,q⟩:=vF (be h O)
    refine⟨.pointer (some (a.add lt)),dC.of (by simp only[execOp,R]) (s:=Instr.fieldAt t (Act.eval ⟨T,ai.D cx⟩ x) f) ?_,EL (q.part lk)⟩
    intro w' _
    rw[L,k7 lh]
   ·cases o
  ·rename_i r i off lK lt lB O lh
   cases o
   obtain⟨g,n,cap,L,q⟩:=be h O
   refine⟨.pointer (some ⟨g,i.toNat*lK+(off+lt),none⟩),dC.of (by simp only[execOp,R]) (s:=Instr.fieldAt t (Act.eval ⟨T,ai.D cx⟩ x) f) ?_,g,n,cap,L,rfl⟩
   intro w' _
   rw[q,k7 lh,gl,Nat.add_assoc]
  ·rename_i b p lt lB O lh
   cases o
   obtain⟨g,L,q⟩:=be h O
   refine⟨.pointer (some ⟨g,fL (p++[.f lt lB]),none⟩),dC.of (by simp only[execOp,R]) (s:=Instr.fieldAt t (Act.eval ⟨T,ai.D cx⟩ x) f) ?_,g,L,rfl⟩
   intro w' _
   rw[q,k7 lh,gl,rX]
   rfl
  ·cases o
 case indexAddr t x i=>
  simp only[dv]at o
  split at o
  ·rename_i u xs n lj v orc' O lc la
   split at o
   ·rename_i y U lm
    cases o
    obtain⟨k,li⟩:=fe h lc
    obtain⟨lo,L,q⟩:=iC ld.1
    obtain⟨a,cap,cells,lf,aG,_,aH,aI,lT⟩:=(bD (t:=.ab u) rfl).1 (be h O)
    simp only[List.cons.injEq,and_true]at lf
    obtain⟨lv,c2,c3,rfl,lg,W⟩:=kq aI q
    obtain⟨_,_,_,lU,d',lr,lE⟩:=da la
    obtain rfl:=ag.eq_of_beq U
    have lV:∃b,a=some b:=by
     cases a with
     |some b=>exact⟨b,rfl⟩
     |none=>
      have lI:cap=0:=aH rfl
      have lJ:(List.length xs:Int)<=cap:=by exact_mod_cast aG
      have aC:n<((List.length xs:Nat):Int):=L
      omega
    obtain⟨b,rfl⟩:=lV
    refine⟨.pointer (some (b.add (n.toNat*u.cells))),dC.of (by simp only[execOp,R]) (s:=Instr.indexAt t (Act.eval ⟨T,ai.D cx⟩ x) (Act.eval ⟨T,ai.D cx⟩ i)) ?_,?_⟩
    ·intro w' _
     have lA:n<((List.length xs:Nat):Int):=L
     simp only[lf,li,Instr.indexAt,asIntOf,Sem.run_bind,Sem.run_pure,Result.andThen_ok,run_underlying lr]
     rw[if_pos ⟨lo,lA⟩]
     simp only[Sem.run_bind,eK lE,Result.andThen_ok,Sem.run_pure]
    ·refine EL ⟨c2,W,fun j v lF=>?_⟩
     have aJ:=(List.getElem?_eq_some_iff.1 lF).1
     have lW:(lv++c2++c3)[n.toNat*u.cells+j]? =some v:=by
      rw[List.append_assoc,List.getElem?_append_right (by omega),List.getElem?_append_left (by omega),<-lF]
      congr 1
      omega
     obtain⟨bc,lX,ls,lu⟩:=lT _ _ lW
     cases lX
     exact⟨by rw[add_add];exact ls,by rw[jo];exact lu⟩
   ·cases o
  ·rename_i r n lj v orc' O lc la
   split at o
   ·rename_i c lf
    split at o
    ·rename_i y U lm
     cases o
     obtain⟨k,li⟩:=fe h lc
     obtain⟨lo,L,q⟩:=iC ld.1
     obtain⟨_,_,_,lU,d',lr,lE⟩:=da la
     have aL:cG cx.P d' lU=some c.t:=by rw[ag.eq_of_beq U];exact lE
     have Y:Act.eval ⟨T,ai.D cx⟩ x=m r:=be h O
     obtain⟨cells,aM,_⟩:=h.rows r c (a8 lf)
     rcases aM.2 with ⟨lb,lk⟩|⟨g,cap,cur,lb,_⟩
     ·omega
     ·refine⟨.pointer (some ⟨g,n.toNat*c.t.cells+0,none⟩),dC.of (by simp only[execOp,R]) (s:=Instr.indexAt t (Act.eval ⟨T,ai.D cx⟩ x) (Act.eval ⟨T,ai.D cx⟩ i)) ?_,g,_,cap,lb,rfl⟩
      intro w' _
      simp only[Y,lb,li,Instr.indexAt,asIntOf,Sem.run_bind,Sem.run_pure,Result.andThen_ok,run_underlying lr]
      rw[if_pos ⟨lo,L⟩]
      simp only[Sem.run_bind,eK aL,Result.andThen_ok,Sem.run_pure,gl,Nat.zero_add,Nat.add_zero]
    ·cases o
   ·cases o
  ·rename_i k u xs n k' lj v orc' O lc la
   split at o
   ·rename_i y U lm
    cases o
    simp only[Bool.and_eq_true]at U
    obtain rfl:=Nat.eq_of_beq_eq_true U.1
    obtain rfl:=ag.eq_of_beq U.2
    obtain⟨ly,aK⟩:=fe h lc
    obtain⟨lo,L,q⟩:=iC ld.1
    obtain⟨_,_,_,e,d',Z,lp⟩:=da la
    obtain⟨a,Y,aq,⟨lP,lQ⟩,lT⟩:=vF (be h O)
    obtain⟨lv,c2,c3,rfl,lg,W⟩:=kq lQ q
    refine⟨.pointer (some (a.add (n.toNat*u.cells))),dC.of (by simp only[execOp,R]) (s:=Instr.indexAt t (Act.eval ⟨T,ai.D cx⟩ x) (Act.eval ⟨T,ai.D cx⟩ i)) (fun w' _=>?_),?_⟩
    ·rw[Y,aK]
     exact rd Z lp lo (by rw[<-lP];exact L) w'
    ·refine EL ⟨c2,W,fun j v lF=>?_⟩
     have aJ:=(List.getElem?_eq_some_iff.1 lF).1
     have lW:(lv++c2++c3)[n.toNat*u.cells+j]? =some v:=by
      rw[List.append_assoc,List.getElem?_append_right (by omega),List.getElem?_append_left (by omega),<-lF]
      congr 1
      omega
     obtain⟨ls,lu⟩:=lT _ _ lW
     exact⟨by rw[add_add];exact ls,by rw[jo];exact lu⟩
   ·cases o
  ·rename_i b p n lx u O lc la
   cases o
   obtain⟨ly,aK⟩:=fe h lc
   obtain⟨_,_,_,e,d',Z,lp⟩:=da la
   obtain⟨g,lY,lZ⟩:=be h O
   refine⟨.pointer (some ⟨g,fL (p++[.x n u.cells]),none⟩),dC.of (by simp only[execOp,R]) (s:=Instr.indexAt t (Act.eval ⟨T,ai.D cx⟩ x) (Act.eval ⟨T,ai.D cx⟩ i)) (fun w' _=>?_),g,lY,rfl⟩
   rw[lZ,aK,rd Z lp ld.1.1 ld.1.2 w',gl,rX]
   rfl
  ·rename_i b off n lx u O lc la
   cases U:(decide (0<=n)&&decide (n<(lx:Int)))<;>rw[U]at o<;>cases o
   simp only[Bool.and_eq_true,decide_eq_true_eq]at U
   obtain⟨ly,aK⟩:=fe h lc
   obtain⟨_,_,_,e,d',Z,lp⟩:=da la
   obtain⟨g,lY,lZ⟩:=be h O
   refine⟨.pointer (some ⟨g,off+n.toNat*u.cells,none⟩),dC.of (by simp only[execOp,R]) (s:=Instr.indexAt t (Act.eval ⟨T,ai.D cx⟩ x) (Act.eval ⟨T,ai.D cx⟩ i)) (fun w' _=>?_),g,lY,rfl⟩
   rw[lZ,aK,rd Z lp U.1 U.2 w',gl]
  ·rename_i r i0 aN lK n lx u O lc la
   split at o
   ·rename_i c lf
    split at o
    ·rename_i v aO U
     split at o
     ·rename_i y lm
      cases o
      simp only[Bool.and_eq_true,beq_iff_eq]at U
      obtain⟨lX,ls,lu,ad⟩:=U
      have lu:=Nat.eq_of_beq_eq_true lu
      have ad:=Nat.eq_of_beq_eq_true ad
      obtain⟨k,li⟩:=fe h lc
      obtain⟨lo,L,q⟩:=iC ld.1
      have l0:c.xs.length=lx:=ld.2.1
      obtain⟨_,_,_,e,d',Z,lp⟩:=da la
      obtain rfl:=ag.eq_of_beq lX
      obtain⟨g,aP,cap,lb,Y⟩:=be h O
      have Y:Act.eval ⟨T,ai.D cx⟩ x=.pointer (some ⟨g,0,none⟩):=by rw[Y,ls,lu];simp
      refine⟨.pointer (some ⟨g,n.toNat*c.t.cells+0,none⟩),dC.of (by simp only[execOp,R]) (s:=Instr.indexAt t (Act.eval ⟨T,ai.D cx⟩ x) (Act.eval ⟨T,ai.D cx⟩ i)) (fun w' _=>?_),g,_,cap,lb,rfl⟩
      have lA:n<(lx:Int):=by rw[<-l0];exact L
      rw[Y,li,rd Z lp lo lA w',gl,Nat.zero_add,Nat.add_zero]
     ·cases o
    ·cases o
    ·rename_i aO bd
     cases U:(decide (0<=n)&&decide (n<(lx:Int)))<;>rw[U]at o<;>cases o
     simp only[Bool.and_eq_true,decide_eq_true_eq]at U
     obtain⟨ly,aK⟩:=fe h lc
     obtain⟨_,_,_,e,d',Z,lp⟩:=da la
     obtain⟨g,aP,cap,lb,Y⟩:=be h O
     refine⟨.pointer (some ⟨g,i0.toNat*lK+(aN+n.toNat*u.cells),none⟩),dC.of (by simp only[execOp,R]) (s:=Instr.indexAt t (Act.eval ⟨T,ai.D cx⟩ x) (Act.eval ⟨T,ai.D cx⟩ i)) (fun w' _=>?_),g,_,cap,lb,rfl⟩
     rw[Y,aK,rd Z lp U.1 U.2 w',gl,Nat.add_assoc]
   ·cases o
  ·cases o
 case load t x=>
  simp only[dv]at o
  split at o
  ·rename_i u y lj O la
   split at o
   ·rename_i U lk
    cases o
    obtain⟨a,L,q⟩:=vF (be h O)
    have lz:0<u.cells:=Nat.pos_of_ne_zero (beq_false lk)
    obtain rfl:=ag.eq_of_beq U
    obtain⟨v,lI,lJ⟩:=S5 la q lz
    refine⟨v,dC.of (by simp only[execOp,R]) (s:=Instr.loadAt t (Act.eval ⟨T,ai.D cx⟩ x)) ?_,lJ⟩
    intro w' ll
    simp only[Instr.loadAt,L,Instr.sureAddr,Sem.run_bind,Sem.run_pure,Result.andThen_ok]
    exact lI w' ll
   ·cases o
  ·cases o
 case slice t x bf lc fO=>
  cases fO with
  |some _=>simp only[dv]at o;cases o
  |none=>
   simp only[dv]at o
   split at o
   ·rename_i s r orc' O
    split at o
    ·rename_i l l3 la lg l4
     cases o
     obtain⟨Y,l0⟩:=eG.1 (be h O)
     have le:=TJ la (IP h lg) (Kl h l4) ld.1
     refine⟨.string (bytesOf r),dC.of (by simp only[execOp,R,Y];rfl) le.steady,eG.2 ⟨rfl,?_⟩⟩
     exact Nat.le_trans (Ql ld.1) l0
    ·cases o
   ·rename_i u xs v orc' O
    split at o
    ·rename_i lj l l3 r la lg l4 W
     cases U:u.beq lj with
     |false=>rw[U]at o;cases o
     |true=>
      rw[U]at o
      cases o
      obtain rfl:=ag.eq_of_beq U
      obtain⟨_,_,_,lU,d',lr,lE⟩:=da la
      obtain⟨v',L,q⟩:=UX lr lE ((bD (t:=.ab u) rfl).1 (be h O)) (IP h lg) (Kl h l4) ld.1
      exact⟨v',dC.of (by simp only[execOp,R];rfl) L.steady,(bD (t:=.ab u) rfl).2 q⟩
    ·cases o
   ·cases o
 case call c=>
  simp only[dv]at o
  split at o
  ·rename_i c' args lL
   split at o
   ·rename_i x t O la
    split at o
    ·rename_i s le
     split at o
     ·rename_i n lb
      cases o
      have lg:=Pn h (be h le) lb (ty':=aa.type)
      have lG:args=#[x]:=by rw[<-Array.toArray_toList (xs:=args),O]
      have ae:lL=#[t]:=by rw[<-Array.toArray_toList (xs:=lL),la]
      subst lG
      subst ae
      refine⟨.int .i64 n,fun w' ll=>?_,cV.2 rfl⟩
      simp only[execOp,R,resolve,invoke,builtin,Sem.run_bind,Sem.run_pure,Result.andThen_ok,List.map_toArray,List.map_cons,List.map_nil,lg w' ll]
     ·cases o
    ·cases o
   ·cases o
  ·rename_i args lL
   split at o
   ·rename_i r W
    cases o
    obtain⟨x,y,k,a,b,lG,O,lm,e⟩:=K1 h W
    subst lG
    subst e
    refine⟨.int k (sd a b),fun w' ll=>?_,cV.2 rfl⟩
    simp only[execOp,R,resolve,invoke,builtin,Sem.run_bind,Sem.run_pure,Result.andThen_ok,List.map_toArray,List.map_cons,List.map_nil,O,lm,run_max_int2]
    rfl
   ·cases o
  ·rename_i args lL
   split at o
   ·rename_i r W
    cases o
    obtain⟨x,y,k,a,b,lG,O,lm,e⟩:=K1 h W
    subst lG
    subst e
    refine⟨.int k (ga a b),fun w' ll=>?_,cV.2 rfl⟩
    simp only[execOp,R,resolve,invoke,builtin,Sem.run_bind,Sem.run_pure,Result.andThen_ok,List.map_toArray,List.map_cons,List.map_nil,O,lm,run_min_int2]
    rfl
   ·cases o
  ·cases o
 case makeInterface t x=>
  simp only[dv]at o
  cases lf:cx.P.concrete t with
  |false=>rw[lf]at o;cases o
  |true=>
   rw[lf,cond_true]at o
   cases o
   refine⟨_,dC.of (by simp only[execOp,R]) (s:=Instr.makeInterface t (Act.eval ⟨T,ai.D cx⟩ x)) (fun w' _=>run_makeInterface w' t _ lf),?_⟩
   have key:∀s,s=ao.val .err (sa t (dm st x))->aS w (ar cx m st.ids) m (Value.iface t (Act.eval ⟨T,ai.D cx⟩ x)) s:=by
    rintro s rfl
    refine(bD (t:=.err) rfl).2 ?_
    unfold sa
    split
    ·rename_i k n O
     cases li:gh k .i64 with
     |true=>
      obtain rfl:=mr li
      have:=cV.1 (cW h O)
      exact .inr (.inr ⟨t,n,rfl,by rw[this]⟩)
     |false=>exact .inr (.inl ⟨rfl,_,_,rfl⟩)
    ·exact .inr (.inl ⟨rfl,_,_,rfl⟩)
   unfold mkIf
   split
   ·rename_i u y O
    cases lH:u.agg with
    |true=>exact(bD (t:=.cL t u) rfl).2 ⟨_,rfl,cW h O⟩
    |false=>exact key _ (by rw[O];rfl)
   ·rename_i O
    exact key _ (by rw[O])
 case typeAssert x l5 a ok=>
  simp only[dv]at o
  unfold G3 at o
  split at o
  ·rename_i n u y d O ah
   have Y:=(bD (t:=.cL n u) rfl).1 (cW h O)
   obtain⟨v,e,Y⟩:=Y
   simp only[List.cons.injEq,and_true]at e
   split at o
   ·cases o
   ·rename_i l6
    split at o
    ·rename_i lb
     have lb:=Nat.eq_of_beq_eq_true lb
     subst lb
     cases o
     refine⟨.tuple #[v,.bool true],dC.of (by simp only[execOp,R]) (s:=Instr.typeAssert (Act.eval ⟨T,ai.D cx⟩ x) l5 n true) (fun w' _=>?_),[v,.bool true],rfl,Y,dB.2 rfl,trivial⟩
     rw[e]
     unfold Instr.typeAssert
     cases d<;>first|(exact absurd rfl (l6 _))|(simp[run_underlying ah])
    ·rename_i lb
     have lb:=Nat.eq_of_beq_eq_true lb
     subst lb
     cases o
     refine⟨v,dC.of (by simp only[execOp,R]) (s:=Instr.typeAssert (Act.eval ⟨T,ai.D cx⟩ x) l5 n false) (fun w' _=>?_),Y⟩
     rw[e]
     unfold Instr.typeAssert
     cases d<;>first|(exact absurd rfl (l6 _))|(simp[run_underlying ah])
    ·rename_i lb
     split at o
     ·rename_i z lk
      cases o
      obtain⟨z0,_,aR,aT⟩:=CD lk
      refine⟨.tuple #[z0,.bool false],dC.of (by simp only[execOp,R]) (s:=Instr.typeAssert (Act.eval ⟨T,ai.D cx⟩ x) l5 a true) (fun w' _=>?_),[z0,.bool false],rfl,aT _ _,dB.2 rfl,trivial⟩
      rw[e]
      have lV:¬n=a:=fun l3=>by rw[l3,Nat.beq_refl]at lb;cases lb
      unfold Instr.typeAssert
      cases d<;>first|(exact absurd rfl (l6 _))|(simp[run_underlying ah,lV,aR])
     ·cases o
    ·cases o
  ·cases o
 case lookup mt x k ok=>
  simp only[dv]at o
  unfold vB at o
  split at o
  ·rename_i bH aU ae key O af li
   split at o
   ·rename_i aV aW lM aj aX aY
    obtain⟨s,le,aZ⟩:=Option.bind_eq_some_iff.1 O
    have al:=cW h li
    have a0:=ak.dd aY
    subst a0
    obtain⟨z,_,lk,am⟩:=CD aX
    have fin:(aV.beq bH.k&&aW.beq bH.v&&dX cx.P 16 aU)=true->∃r,ba w (ar cx m st.ids) r bH.v ((bL (aQ bH.k) bH.ps lM).getD (ca bH.v))/\∀w',Ext w w'->∀ok,(Instr.lookup mt (Act.eval ⟨T,ai.D cx⟩ x) (Act.eval ⟨T,ai.D cx⟩ k) ok).run cx.P w'=.ok (if ok then .tuple #[r,.bool (bL (aQ bH.k) bH.ps lM).isSome]else r) w':=by
     intro U
     simp only[Bool.and_eq_true]at U
     have a1:=ag.eq_of_beq U.1.1
     have a2:=ag.eq_of_beq U.1.2
     subst a1
     subst a2
     rcases Az h (be h le) aZ with ⟨lb,lz⟩|⟨g,es,a3,lb,ln,W⟩
     ·obtain⟨r,L,q⟩:=ou (w':=w) (M':=ar cx m st.ids) (d:=iy) (d':=16) af aj U.2 (by decide) lk am al (es:=#[]) (ps:=bH.ps) (by rw[lz];trivial)
      exact⟨r,L,fun w' _=>q w' _ (.inl ⟨lb,rfl⟩)⟩
     ·obtain⟨r,L,q⟩:=ou (d:=iy) (d':=16) af aj U.2 (by decide) lk am al W
      exact⟨r,L,fun w' ll=>q w' _ (.inr ⟨g,a3,lb,by rw[ll.block g (fV ln)];exact ln⟩)⟩
    split at o
    ·rename_i U
     cases o
     obtain⟨r,L,q⟩:=fin U
     exact⟨.tuple #[r,.bool (bL (aQ bH.k) bH.ps lM).isSome],dC.of (by simp only[execOp,R]) (fun w' ll=>q w' ll true),[r,.bool (bL (aQ bH.k) bH.ps lM).isSome],rfl,L,dB.2 rfl,trivial⟩
    ·rename_i U
     cases o
     obtain⟨r,L,q⟩:=fin U
     exact⟨r,dC.of (by simp only[execOp,R]) (fun w' ll=>q w' ll false),L⟩
    ·cases o
   ·cases o
  ·cases o
 all_goals (simp only[dv]at o;cases o)
end Go.Ev
namespace Go.Ev
open Go Go.RowKit
variable [b8]
variable {cx:bB} {m:Nat->Value} {st:af} {T:Array Value} {w w':World}
variable [ai cx]
def leaves:(t:ag)->t.el->List ao
 |.int k,n=>[.val (.int k) n]
 |.bool,b=>[.val .bool b]
 |.str,s=>[.val .str s]
 |.ab t,xs=>[.val (.ab t) xs]
 |.unit,_=>[]
 |.pair a b,x=>leaves a x.1++leaves b x.2
 |.ptr t,x=>[.val (.ptr t) x]
 |.fn f t,x=>[.val (.fn f t) x]
 |.err,x=>[.val .err x]
 |.cy,x=>[.val .cy x]
 |.cL n t,x=>[.val (.cL n t) x]
 |.alt n t r,x=>[.val (.alt n t r) x]
 |.arr _ t,xs=>List.flatMap (leaves t) xs
 |.map k v,x=>[.val (.map k v) x]
def ik(t:ag):List ao->Option (t.el×List ao)
 |.val u x::r=>match ak.as ⟨u,x⟩ t with
  |some y=>some (y,r)
  |none=>none
 |_=>none
def vE{α:Type}(f:List ao->Option (α×List ao)):Nat->List ao->Option (List α×List ao)
 |0,l=>some ([],l)
 |n+1,l=>match f l with
  |some (x,r)=>match vE f n r with
   |some (xs,o)=>some (x::xs,o)
   |none=>none
  |none=>none
def pack:(t:ag)->List ao->Option (t.el×List ao)
 |.unit,l=>some ((),l)
 |.pair a b,l=>match pack a l with
  |some (x,r)=>match pack b r with
   |some (y,o)=>some ((x,y),o)
   |none=>none
  |none=>none
 |.int k,l=>ik (.int k) l
 |.bool,l=>ik .bool l
 |.str,l=>ik .str l
 |.ab t,l=>ik (.ab t) l
 |.ptr t,l=>ik (.ptr t) l
 |.fn f t,l=>ik (.fn f t) l
 |.err,l=>ik .err l
 |.cy,l=>ik .cy l
 |.cL n t,l=>ik (.cL n t) l
 |.alt n t r,l=>ik (.alt n t r) l
 |.arr n t,l=>vE (pack t) n l
 |.map k v,l=>ik (.map k v) l
theorem jX{M:Nat->Prop}:∀{o c2:List Value} {l1 l2:List ao},ct w M m o l1->ct w M m c2 l2->ct w M m (o++c2) (l1++l2)
 |[],_,[],_,_,h=>h
 |[],_,_::_,_,h,_=>h.elim
 |_::_,_,[],_,h,_=>h.elim
 |_::_,_,_::_,_,⟨q,L⟩,h=>⟨q,jX L h⟩
theorem kz{M:Nat->Prop}:∀{c:List Value} {l:List ao},ct w M m c l->c.length=l.length
 |[],[],_=>rfl
 |[],_::_,h=>h.elim
 |_::_,[],h=>h.elim
 |_::_,_::_,⟨_,h⟩=>by simp[kz h]
theorem iw{M:Nat->Prop}:∀(n:Nat) {c:List Value} {l:List ao},ct w M m c l->ct w M m (c.take n) (l.take n)/\ct w M m (c.drop n) (l.drop n)
 |0,_,_,h=>⟨trivial,h⟩
 |n+1,[],[],_=>⟨trivial,trivial⟩
 |n+1,[],_::_,h=>h.elim
 |n+1,_::_,[],h=>h.elim
 |n+1,_::_,_::_,⟨q,o⟩=>⟨⟨q,(iw n o).1⟩,(iw n o).2⟩
theorem IR{M:Nat->Prop}{t:ag}(h:∀{cs:List Value} {x:t.el},aH w M t cs x->ct w M m cs (leaves t x)):∀{xs:List t.el} {cs:List Value},bM (aH w M t) cs xs->ct w M m cs (xs.flatMap (leaves t))
 |[],_,o=>by cases o;trivial
 |_::_,_,⟨O,c2,e,q,L⟩=>by subst e;rw[List.flatMap_cons];exact jX (h q) (IR h L)
theorem u6{M:Nat->Prop}:∀(t:ag) {cs:List Value} {x:t.el},aH w M t cs x->ct w M m cs (leaves t x):=by
 intro t
 induction t with
 |int k=>intro cs x h;cases h;exact⟨cV.2 rfl,trivial⟩
 |bool=>intro cs x h;cases h;exact⟨dB.2 rfl,trivial⟩
 |str=>intro cs x h;obtain⟨L,O⟩:=h;cases L;exact⟨eG.2 ⟨rfl,O⟩,trivial⟩
 |ab t o=>intro cs x h;obtain⟨a,cap,cells,e,r⟩:=h;subst e;exact⟨(bD (t:=.ab t) rfl).2 ⟨a,cap,cells,rfl,r⟩,trivial⟩
 |unit=>intro cs x h;cases h;trivial
 |ptr t o=>intro cs x h;obtain⟨a,cells,e,r⟩:=h;subst e;exact⟨(bD (t:=.ptr t) rfl).2 ⟨a,cells,rfl,r⟩,trivial⟩
 |fn f t o=>intro cs x h;obtain⟨bs,e,r⟩:=h;subst e;exact⟨(bD (t:=.fn f t) rfl).2 ⟨bs,rfl,r⟩,trivial⟩
 |err=>intro cs x h;rcases h with ⟨q,e⟩|⟨q,t,v,e⟩|⟨t,n,q,e⟩<;>subst e;exact⟨(bD (t:=.err) rfl).2 (.inl ⟨q,rfl⟩),trivial⟩;exact⟨(bD (t:=.err) rfl).2 (.inr (.inl ⟨q,t,v,rfl⟩)),trivial⟩;exact⟨(bD (t:=.err) rfl).2 (.inr (.inr ⟨t,n,q,rfl⟩)),trivial⟩
 |cy=>intro cs x h;obtain⟨v,e,r⟩:=h;subst e;exact⟨(bD (t:=.cy) rfl).2 ⟨v,rfl,r⟩,trivial⟩
 |cL n t o=>intro cs x h;obtain⟨v,e,r⟩:=h;subst e;exact⟨(bD (t:=.cL n t) rfl).2 ⟨v,rfl,r⟩,trivial⟩
 |alt n t r _ _=>
  intro cs x h
  have R:=cf (.alt n t r) h
  match cs,R,h with
  |[v],_,h=>exact⟨(bD (t:=.alt n t r) rfl).2 h,trivial⟩
 |arr n t o=>intro cs x h;exact IR o h.2
 |map k v _ _=>
  intro cs x h
  match x,h with
  |none,h=>have h:cs=[.map none]:=h;subst h;exact⟨(bD (t:=.map k v) rfl).2 rfl,trivial⟩
  |some ps,⟨b,es,U,e,r⟩=>subst e;exact⟨(bD (t:=.map k v) rfl).2 ⟨b,es,U,rfl,r⟩,trivial⟩
 |pair a b W Y=>rintro cs x ⟨Z,c2,rfl,L,O⟩;exact jX (W L) (Y O)
theorem iU{M:Nat->Prop}{t:ag}(L:t.agg=false){cs:List Value}{c r:List ao}{x:t.el}(h:ct w M m cs c)(o:ik t c=some (x,r)):
  ∃q c2,cs=q++c2/\aH w M t q x/\ct w M m c2 r:=by
 unfold ik at o
 split at o
 ·rename_i u y Y
  split at o
  ·rename_i z O
   cases o
   have e:=ak.dd O
   match cs,h with
   |v::vs,⟨R,U⟩=>
    refine⟨[v],vs,rfl,?_,U⟩
    have W:ba w M v u y:=R
    cases e
    exact(bD L).1 W
   |[],h=>exact h.elim
  ·cases o
 ·cases o
theorem Gv{M:Nat->Prop}{t:ag}(h:∀{cs:List Value} {c r:List ao} {x:t.el},ct w M m cs c->pack t c=some (x,r)->∃o c2,cs=o++c2/\aH w M t o x/\ct w M m c2 r):
  ∀(n:Nat) {cs:List Value} {c r:List ao} {xs:List t.el},ct w M m cs c->vE (pack t) n c=some (xs,r)->∃o c2,cs=o++c2/\(xs.length=n/\bM (aH w M t) o xs)/\ct w M m c2 r
 |0,cs,c,r,xs,L,q=>by cases q;exact⟨[],cs,rfl,⟨rfl,rfl⟩,L⟩
 |n+1,cs,c,r,xs,L,q=>by
  unfold vE at q
  split at q
  ·rename_i y W O
   split at q
   ·rename_i Y bW R
    cases q
    obtain⟨o,c2,rfl,g1,g2⟩:=h L O
    obtain⟨d1,d2,rfl,⟨g3,U⟩,g4⟩:=Gv h n g2 R
    exact⟨o++d1,d2,by simp,⟨by simp[g3],o,d1,rfl,g1,U⟩,g4⟩
   ·cases q
  ·cases q
theorem oP{M:Nat->Prop}:∀(t:ag) {cs:List Value} {c r:List ao} {x:t.el},ct w M m cs c->pack t c=some (x,r)->∃q c2,cs=q++c2/\aH w M t q x/\ct w M m c2 r:=by
 intro t
 induction t with
 |int k=>intro cs c r x h o;exact iU rfl h o
 |bool=>intro cs c r x h o;exact iU rfl h o
 |str=>intro cs c r x h o;exact iU rfl h o
 |ab t L=>intro cs c r x h o;exact iU rfl h o
 |unit=>intro cs c r x h o;cases o;exact⟨[],cs,rfl,rfl,h⟩
 |ptr t L=>intro cs c r x h o;exact iU rfl h o
 |fn f t L=>intro cs c r x h o;exact iU rfl h o
 |err=>intro cs c r x h o;exact iU rfl h o
 |cy=>intro cs c r x h o;exact iU rfl h o
 |cL n t L=>intro cs c r x h o;exact iU rfl h o
 |alt n t r _ _=>intro cs c r x h o;exact iU rfl h o
 |arr n t L=>intro cs c r x h o;exact Gv L n h o
 |map k v _ _=>intro cs c r x h o;exact iU rfl h o
 |pair a b O R=>
  intro cs c r x h o
  unfold pack at o
  split at o
  ·rename_i y Y U
   split at o
   ·rename_i z bW W
    cases o
    obtain⟨q,c2,rfl,g1,g2⟩:=O h U
    obtain⟨d1,d2,rfl,g3,g4⟩:=R g2 W
    exact⟨q++d1,d2,by simp,⟨q,d1,rfl,g1,g3⟩,g4⟩
   ·cases o
  ·cases o
def pI(P:Program)(st:af)(t:TypeId)(x:Operand)(orc:List ak):Option dw:=
 match aR st x,ty P t with
 |some (.ptr b off),some u=>match look st.ad b with
  |some (.cells c _)=>match u.agg with
   |true=>match pack u (c.drop off)with
    |some (y,_)=>some ⟨.val u y,orc,[]⟩
    |none=>none
   |false=>match c.drop off with
    |s::_=>some ⟨s,orc,[]⟩
    |[]=>none
  |_=>none
 |some (.dN r i off o),some u=>match look st.rw r,orc with
  |some c,v::orc'=>match v.as c.t,Nat.beq o c.t.cells,Nat.beq u.cells 0 with
   |some x,true,false=>match cI c.t x off u with
    |some y=>some ⟨.val u y,orc',[aq c.xs i=some x]⟩
    |none=>none
   |_,_,_=>none
  |_,_=>none
 |some (.dz b p),some u=>match look st.ad b with
  |some (.aT q x _)=>match jM q x p orc with
   |some (r,orc',ob)=>match r.as u,Nat.beq u.cells 0 with
    |some y,false=>some ⟨.val u y,orc',ob⟩
    |_,_=>none
   |none=>none
  |_=>none
 |_,_=>none
theorem wN{w:World}{g:Nat}{aa:Obj}(h:w.heap[g]? =some aa):g<w.heap.size:=by
 rcases Nat.lt_or_ge g w.heap.size with o|o
 ·exact o
 ·rw[Array.getElem?_eq_none o]at h;cases h
theorem mX{w:World}{g:Nat}{cells:Array Value}{e:Nat}{az:Nat×Nat}(h:w.heap[g]? =some (.cells cells e az))(aa:Nat):w.cell? ⟨g,aa,none⟩=cells[aa]? :=by
 simp[World.cell?,h]
theorem jm{P:Program}{tid d:Nat}{u:ag}(L:cG P d tid=some u){g off:Nat}{cells:Array Value}{e:Nat}{az:Nat×Nat}{c:List Value}(R:w.heap[g]? =some (.cells cells e az))
  (Y:∀j v,c[j]? =some v->cells[off+j]? =some v)(o:c.length=u.cells)(lb:u.agg=false->0<u.cells):
  ∃v,my P w (loadVar tid ⟨g,off,none⟩) v/\(if u.agg then v=.agg c.toArray else c=[v]):=by
 have U:∀w',Ext w w'->∀j v,c[j]? =some v->w'.cell? ((⟨g,off,none⟩:Addr).add j)=some v:=by
  intro w' q j v Z
  rw[gl]
  have la:w'.heap[g]? =some (.cells cells e az):=by rw[q.block g (wN R)];exact R
  rw[mX la]
  exact Y j v Z
 cases O:u.agg with
 |true=>
  refine⟨.agg c.toArray,fun w' q=>?_,by simp⟩
  unfold loadVar
  rw[Sem.run_bind,jx L,O]
  simp only[Result.andThen_ok,if_true,Sem.run_bind,eK L]
  rw[<-o,xB (U w' q)]
  rfl
 |false=>
  have lc:u.cells=1:=by cases u<;>first|rfl|(simp[ag.agg]at O)
  match c,o with
  |[v],_=>
   refine⟨v,fun w' q=>?_,by simp⟩
   have W:=U w' q 0 v rfl
   rw[add_zero]at W
   unfold loadVar
   rw[Sem.run_bind,jx L,O]
   simp only[Result.andThen_ok,Bool.false_eq_true,if_false]
   simp[load,Sem.run,W]
  |[],o=>simp at o;omega
  |_::_::_,o=>simp at o;omega
theorem KL{α:Type}(a b c d e:List α)(j:Nat)(q:j<c.length):(a++(b++c++d)++e)[a.length+b.length+j]? =c[j]? :=by
 have o:a++(b++c++d)++e=(a++b)++(c++(d++e)):=by simp
 rw[o,List.getElem?_append_right (by rw[List.length_append];omega),List.getElem?_append_left (by rw[List.length_append];omega),List.length_append]
 congr 1
 omega
theorem ER(h:an cx m st T w){t:TypeId}{x:Operand}{orc:List ak}{lj:dw}(o:pI cx.P st t x orc=some lj)(lq:bO lj.ob):
  ∃v,my cx.P w (Instr.loadAt t (Act.eval ⟨T,ai.D cx⟩ x)) v/\aS w (ar cx m st.ids) m v lj.aO:=by
 unfold pI at o
 split at o
 ·rename_i b off u la Y
  obtain⟨g,Z,lb⟩:=be h la
  have lk:Instr.loadAt t (Act.eval ⟨T,ai.D cx⟩ x)=loadVar t ⟨g,off,none⟩:=by rw[lb];rfl
  rw[lk]
  split at o
  ·rename_i c ll
   obtain⟨lc,ld,_,cells,lh,lm⟩:=h.box (a8 ll)
   have:lc=g:=by rw[Z]at ld;cases ld;rfl
   subst this
   obtain⟨_,ah⟩:=iw (w:=w) (m:=m) off lm
   split at o
   ·rename_i L
    split at o
    ·rename_i y r le
     cases o
     obtain⟨lf,c2,lg,R,_⟩:=oP u ah le
     obtain⟨v,W,q⟩:=jm (c:=lf) Y lh (fun j v O=>by
      have:(cells.toList.drop off)[j]? =some v:=by rw[lg,List.getElem?_append_left (List.getElem?_eq_some_iff.1 O).1];exact O
      rw[List.getElem?_drop]at this
      simpa using this) (cf u R) (fun U=>by rw[L]at U;cases U)
     rw[L,if_pos rfl]at q
     exact⟨v,W,(dS L).2 ⟨lf,q,R⟩⟩
    ·cases o
   ·rename_i L
    split at o
    ·rename_i s r lu
     cases o
     rw[lu]at ah
     match lg:cells.toList.drop off,ah with
     |v0::vs,⟨lr,_⟩=>
      have lv:u.cells=1:=by cases u<;>first|rfl|(simp[ag.agg]at L)
      obtain⟨v,W,q⟩:=jm (c:=[v0]) Y lh (fun j v O=>by
       have lw:j=0:=by have:=(List.getElem?_eq_some_iff.1 O).1;simpa using this
       subst lw
       simp at O
       subst O
       have:(cells.toList.drop off)[0]? =some v0:=by rw[lg];rfl
       rw[List.getElem?_drop]at this
       simpa using this) (by rw[lv];rfl) (fun _=>by omega)
      rw[L]at q
      simp at q
      subst q
      exact⟨v0,W,lr⟩
     |[],ah=>exact ah.elim
    ·cases o
  ·cases o
 ·rename_i r i off lx u la Y
  obtain⟨g,n,cap,Z,lb⟩:=be h la
  have lk:Instr.loadAt t (Act.eval ⟨T,ai.D cx⟩ x)=loadVar t ⟨g,i.toNat*lx+off,none⟩:=by rw[lb];rfl
  rw[lk]
  split at o
  ·rename_i c v orc' ll
   split at o
   ·rename_i ly lr lz ln
    split at o
    ·rename_i y lo
     cases o
     obtain⟨lL,lM,lA⟩:=iC lq.1
     obtain⟨cells,lB,_,lC⟩:=h.rows r c (a8 ll)
     have lD:=Nat.eq_of_beq_eq_true lz
     subst lD
     rcases lB.2 with ⟨U,_⟩|⟨lc,lN,cur,U,_,lE,_,_,_,lF⟩
     ·rw[Z]at U;cases U
     ·have:lc=g:=by rw[Z]at U;cases U;rfl
      subst this
      obtain⟨lf,c2,c3,rfl,ls,R⟩:=kq lC lA
      obtain⟨d1,d2,d3,rfl,lG,lp⟩:=nD c.t R lo
      have le:0<u.cells:=Nat.pos_of_ne_zero (beq_false ln)
      obtain⟨v',W,q⟩:=jm (c:=d2) Y lE (fun j v O=>by
       have lt:=(List.getElem?_eq_some_iff.1 O).1
       have li:(cur.toList.take (c.xs.length*c.t.cells))[i.toNat*c.t.cells+off+j]? =some v:=by
        rw[lF,<-ls,<-lG,<-O]
        exact KL lf d1 d2 d3 c3 j lt
       rw[List.getElem?_take]at li
       split at li
       ·simpa using li
       ·cases li) (cf u lp) (fun _=>le)
      refine⟨v',W,?_⟩
      cases L:u.agg with
      |true=>rw[L,if_pos rfl]at q;exact(dS L).2 ⟨d2,q,lp⟩
      |false=>rw[L]at q;simp at q;subst q;exact(bD L).2 lp
    ·cases o
   ·cases o
  ·cases o
 ·rename_i b p u la Y
  obtain⟨g,Z,lb⟩:=be h la
  split at o
  ·rename_i lH ly e lI
   split at o
   ·rename_i r lO ob le
    split at o
    ·rename_i y lo ln
     cases o
     obtain⟨lc,ld,_,cells,lh,lm⟩:=h.box (a8 lI)
     have:lc=g:=by rw[Z]at ld;cases ld;rfl
     subst this
     obtain⟨lf,c2,c3,lg,ls,R⟩:=vi p lH lm le lq
     have lJ:=ak.dd lo
     subst lJ
     have lK:0<u.cells:=Nat.pos_of_ne_zero (beq_false ln)
     obtain⟨v,W,q⟩:=jm (off:=fL p) (c:=c2) Y lh (fun j v O=>by
      have lt:=(List.getElem?_eq_some_iff.1 O).1
      rw[<-Array.getElem?_toList,lg,List.append_assoc,List.getElem?_append_right (by omega),List.getElem?_append_left (by omega),<-O]
      congr 1
      omega) (cf u R) (fun _=>lK)
     refine⟨v,by rw[lb];exact W,?_⟩
     cases L:u.agg with
     |true=>rw[L,if_pos rfl]at q;exact(dS L).2 ⟨c2,q,R⟩
     |false=>rw[L]at q;simp at q;subst q;exact(bD L).2 R
    ·cases o
   ·cases o
  ·cases o
 ·cases o
def vh:Option bT->Bool
 |some (.bp _ _ _ _)=>true
 |_=>false
def qd:ao->Bool
 |.val t _=>!t.agg
 |.row _=>true
 |.clos _ _=>true
 |.ptr _ _=>true
 |.vptr _ _=>true
 |.osl _=>true
 |.iter _=>true
 |_=>false
def sy:Option bT->Bool
 |some (.mp _ _ _)=>true
 |_=>false
theorem GF{M:Nat->Prop}{v:Value}{s:ao}(L:qd s=true)(q:∀r,s=.row r\/s=.osl r\/s=.iter r->v.oneCell'=true)(o:aS w M m v s):v.oneCell'=true/\v.cells=#[v]:=by
 cases s<;>simp only[qd,Bool.false_eq_true]at L
 case val t x=>
  have R:t.agg=false:=by simpa using L
  have U:=(bD R).1 o
  have O:=gy t U v (by simp)
  refine⟨O,?_⟩
  cases v<;>first|rfl|(simp[Value.oneCell']at O)
 case row r=>
  have:=q r (.inl rfl)
  refine⟨this,?_⟩
  cases v<;>first|rfl|(simp[Value.oneCell']at this)
 case osl b=>
  have:=q b (.inr (.inl rfl))
  refine⟨this,?_⟩
  cases v<;>first|rfl|(simp[Value.oneCell']at this)
 case iter b=>
  have:=q b (.inr (.inr rfl))
  refine⟨this,?_⟩
  cases v<;>first|rfl|(simp[Value.oneCell']at this)
 case clos f bs=>
  have e:v=_:=o
  subst e
  exact⟨rfl,rfl⟩
 case ptr b off=>obtain⟨g,_,e⟩:=o;subst e;exact⟨rfl,rfl⟩
 case vptr t x=>obtain⟨a,c,e,_⟩:=o;subst e;exact⟨rfl,rfl⟩
def qX(u:ag)(s:ao):Option (List ao):=
 match u.agg with
 |true=>match s with
  |.val t x=>bif t.beq u then some (leaves t x)else none
  |_=>none
 |false=>match s with
  |.val t x=>bif t.beq u then some [.val t x]else none
  |s=>bif qd s&&Nat.beq u.cells 1 then some [s]else none
theorem row_one(h:an cx m st T w){r:Nat}{c:cE}(q:(r,c)∈st.rw):(m r).oneCell'=true:=by
 obtain⟨cells,L,_⟩:=h.rows r c q
 rcases L.2 with ⟨o,_⟩|⟨g,cap,cur,o,_⟩<;>rw[o]<;>rfl
theorem K8{M:Nat->Prop}{v:Value}{s:ao}{u:ag}{l:List ao}(W:∀r,s=.row r\/s=.osl r\/s=.iter r->v.oneCell'=true)(L:aS w M m v s)(o:qX u s=some l):
  ct w M m v.cells.toList l/\(∀x∈v.cells.toList,x.oneCell'=true)/\v.cells.size=u.cells:=by
 unfold qX at o
 split at o
 ·rename_i Y
  split at o
  ·rename_i t x
   cases q:t.beq u with
   |false=>rw[q]at o;cases o
   |true=>
    rw[q]at o
    cases o
    obtain rfl:=ag.eq_of_beq q
    have O:=jd L
    exact⟨u6 t O,gy t O,by rw[<-cf t O];simp⟩
  ·cases o
 ·rename_i Y
  split at o
  ·rename_i t x
   cases q:t.beq u with
   |false=>rw[q]at o;cases o
   |true=>
    rw[q]at o
    cases o
    obtain rfl:=ag.eq_of_beq q
    have O:=jd L
    have U:=GF (s:=.val t x) (by simp[qd,Y]) W L
    refine⟨?_,gy t O,by rw[<-cf t O];simp⟩
    rw[U.2]
    exact⟨L,trivial⟩
  ·rename_i Z _
   cases R:qd s&&Nat.beq u.cells 1 with
   |false=>rw[R]at o;cases o
   |true=>
    rw[R]at o
    cases o
    simp only[Bool.and_eq_true]at R
    have U:=GF R.1 W L
    rw[U.2]
    exact⟨⟨L,trivial⟩,by simp[U.1],by rw[Nat.eq_of_beq_eq_true R.2];rfl⟩
theorem KH(h:an cx m st T w){b:Nat}(o:vh (look st.ad b)=true){M:Nat->Prop}{v:Value}(O:aS w M m v (.osl b)):v.oneCell'=true:=by
 unfold vh at o
 split at o
 ·rename_i e k xs Z R
  obtain⟨g,_,_,ah,us,cells,U,W,_⟩:=h.boxes b _ (a8 R)
  obtain⟨la,q⟩:=O
  have Y:v=ah:=by
   rw[U]at q
   simp only[Value.tuple.injEq,Array.mk.injEq,List.cons.injEq]at q
   exact q.1.symm
  rw[Y]
  rcases W.2 with ⟨L,_⟩|⟨g,cap,cur,L,_⟩<;>rw[L]<;>rfl
 ·cases o
theorem Hy(h:an cx m st T w){b:Nat}(o:sy (look st.ad b)=true){M:Nat->Prop}{v:Value}(q:aS w M m v (.iter b)):v.oneCell'=true:=by
 unfold sy at o
 split at o
 ·rename_i L
  obtain⟨g,O,_⟩:=h.box (a8 L)
  have q:v=m b:=q
  rw[q,O]
  rfl
 ·cases o
theorem jP(w:World)(g:Nat)(o:Array Value):Same w (w.setRow g o):=by
 refine{os:=rfl,tape:=rfl,output:=rfl,size:=?_,drawn:=fun _=>Nat.le_refl _}
 simp[World.setRow]
theorem mf{P:Program}{tid d:Nat}{u:ag}(O:cG P d tid=some u){g off:Nat}{cur:Array Value}{e:Nat}{v:Value}(R:w.heap[g]? =some (.cells cur e (0,0)))
  (o:v.cells.size=u.cells)(W:off+u.cells<=cur.size)(U:∀x∈v.cells.toList,x.oneCell'=true):
  (Instr.storeAt tid (.pointer (some ⟨g,off,none⟩)) v).run P w=.ok () (w.setRow g (cur.toList.take off++v.cells.toList++cur.toList.drop (off+u.cells)).toArray):=by
 have q:v.cells.toList.length=u.cells:=by rw[<-o];simp
 have L:=run_storeCells_at (P:=P) g off e v.cells.toList 0 cur w R (by rw[q];omega) U
 rw[q,Nat.add_zero]at L
 simp only[Instr.storeAt,Instr.sureAddr,Sem.run_bind,Sem.run_pure,Result.andThen_ok,storeVar,eK O,o,ne_eq,not_true_eq_false,if_false]
 exact L
def Av(P:Program)(st:af)(t:TypeId)(y:Operand):Option ao:=
 match y with
 |.const (.slice none 0 0)=>match ty P t with
  |some (.ab u)=>some (.val (.ab u) [])
  |_=>none
 |y=>aR st y
theorem oo(h:an cx m st T w){P:Program}{t:TypeId}{y:Operand}{s:ao}(o:Av P st t y=some s):aS w (ar cx m st.ids) m (Act.eval ⟨T,ai.D cx⟩ y) s:=by
 unfold Av at o
 split at o
 ·split at o
  ·rename_i u _
   cases o
   exact(bD (t:=.ab u) rfl).2 ⟨none,0,[],rfl,Nat.le_refl _,by decide,fun _=>rfl,rfl,fun j u q=>by simp at q⟩
  ·cases o
 ·exact be h o
def r9(P:Program)(st:af)(t:TypeId)(x y:Operand)(orc:List ak):Option (af×List ak×List Prop):=
 match aR st x,ty P t,Av P st t y with
 |some (.ptr b off),some u,some s=>match look st.ad b,qX u s,nU st s with
  |some (.cells c e),some l,true=>bif Nat.ble (off+u.cells) c.length then some (st.cY b (.cells (c.take off++l++c.drop (off+u.cells)) e),orc,[])else none
  |_,_,_=>none
 |some (.dN r i off O),some u,some (.val o z)=>match look st.rw r,orc with
  |some c,v::orc'=>match v.as c.t,Nat.beq O c.t.cells,o.beq u with
   |some q,true,true=>match cp c.t q off ⟨o,z⟩with
    |some R=>some (st.setRow r {c with xs:=c.xs.set i.toNat R},orc',[aq c.xs i=some q])
    |none=>none
   |_,_,_=>none
  |_,_=>none
 |some (.dz b p),some u,some (.val o z)=>match look st.ad b with
  |some (.aT L x e)=>match o.beq u,kg L x p orc ⟨o,z⟩with
   |true,some (y,orc',ob)=>some (st.cY b (.aT L y e),orc',ob)
   |_,_=>none
  |_=>none
 |_,_,_=>none
where
 nU (st:af):ao->Bool
  |.row r=>(look st.rw r).isSome
  |.osl b=>vh (look st.ad b)
  |.iter b=>sy (look st.ad b)
  |_=>true
end Go.Ev
namespace Go.Ev
open Go Go.RowKit
variable [b8]
variable {cx:bB} {m:Nat->Value} {st:af} {T:Array Value} {w w':World}
variable [ai cx]
theorem nI{M M':Nat->Prop}(o:∀b,b<w.heap.size->¬M b->w'.heap[b]? =w.heap[b]?)(q:∀b,b<w.heap.size->M' b->M b){c:List Value}{l:List ao}(h:ct w M m c l):ct w' M' m c l:=by
 have:=pc (f:=id) (fun v s L=>fh (m:=m) o q L) h
 simpa using this
theorem O7(h:an cx m st T w){t:TypeId}{x y:Operand}{orc orc':List ak}{st':af}{ob:List Prop}(o:r9 cx.P st t x y orc=some (st',orc',ob))(lE:bO ob):
  ∃w',(Instr.storeAt t (Act.eval ⟨T,ai.D cx⟩ x) (Act.eval ⟨T,ai.D cx⟩ y)).run cx.P w=.ok () w'/\an cx m st' T w':=by
 unfold r9 at o
 split at o
 ·rename_i b off u s lg lh Y
  obtain⟨g,U,li⟩:=be h lg
  split at o
  ·rename_i c e l lt le lr
   cases Z:Nat.ble (off+u.cells) c.length with
   |false=>rw[Z]at o;cases o
   |true=>
    rw[Z]at o
    cases o
    have lu:=Nat.le_of_ble_eq_true Z
    have O:=a8 lt
    obtain⟨W,lj,_,cells,lk,ll⟩:=h.box O
    have:W=g:=by rw[U]at lj;cases lj;rfl
    subst this
    have lm:b∈st.ids:=List.mem_append.2 (.inl (List.mem_map.2 ⟨_,O,rfl⟩))
    have lL:=kz ll
    have lM:∀r,s=.row r\/s=.osl r\/s=.iter r->(Act.eval ⟨T,ai.D cx⟩ y).oneCell'=true:=by
     rintro r (rfl|rfl|rfl)
     ·simp only[r9.nU]at lr
      obtain⟨c',lN⟩:=Option.isSome_iff_exists.1 lr
      rw[show Act.eval ⟨T,ai.D cx⟩ y=m r from oo h Y]
      exact row_one h (a8 lN)
     ·exact KH h lr (oo h Y)
     ·exact Hy h lr (oo h Y)
    obtain⟨lO,lP,lQ⟩:=K8 lM (oo h Y) le
    have ln:off+u.cells<=cells.size:=by rw[<-Array.length_toList,lL];exact lu
    have la:=mf (P:=cx.P) lh lk lQ ln lP
    refine⟨_,by rw[li];exact la,?_⟩
    have R:Touch m w b (w.setRow W (cells.toList.take off++(Act.eval ⟨T,ai.D cx⟩ y).cells.toList++cells.toList.drop (off+u.cells)).toArray):=
     ⟨jP _ _ _,fun k lF lo=>setRow_other _ _ _ _ (fun e=>lo (by rw[U,e];rfl))⟩
    obtain⟨lp,_⟩:=jC O h.keys (.cells (c.take off++l++c.drop (off+u.cells)) e)
    obtain⟨lb,lc⟩:=an.gw (cx:=cx) lm R lp
    refine h.cY O R (g:=W) U ⟨_,setRow_heap _ _ _ _ _ _ lk,?_⟩
    simp only[]
    exact jX (jX (nI lb lc (iw off ll).1) (nI lb lc lO)) (nI lb lc (iw (off+u.cells) ll).2)
  ·cases o
 ·rename_i r i off aj u L z lg lh Y
  obtain⟨g,n,cap,U,li⟩:=be h lg
  split at o
  ·rename_i c v lR lt
   split at o
   ·rename_i lS al lT Z
    split at o
    ·rename_i lU lV
     cases o
     obtain⟨am,ao,lW⟩:=iC lE.1
     have O:=a8 lt
     obtain⟨cells,lG,ap,lX⟩:=h.rows r c O
     have lm:r∈st.ids:=List.mem_append.2 (.inr (List.mem_map.2 ⟨_,O,rfl⟩))
     have lY:=Nat.eq_of_beq_eq_true lT
     subst lY
     obtain rfl:=ag.eq_of_beq Z
     have lv:ba w (ar cx m st.ids) (Act.eval ⟨T,ai.D cx⟩ y) L z:=oo h Y
     have ld:=jd lv
     have lf:=cf L ld
     have lw:(Act.eval ⟨T,ai.D cx⟩ y).cells.size=L.cells:=by rw[<-lf];simp
     rcases lG.2 with ⟨R,_⟩|⟨W,lZ,cur,R,l0,lH,lu,l3,l4,l5⟩
     ·rw[U]at R;cases R
     ·have:W=g:=by rw[U]at R;cases R;rfl
      subst this
      obtain⟨q,c2,c3,rfl,le,lx,l6⟩:=pg lX lW
      obtain⟨d1,d2,d3,rfl,l7,ly,l8⟩:=pb (v:=⟨L,z⟩) ld c.t lx lV
      obtain⟨rest,ls⟩:∃rest,cur.toList=(q++(d1++d2++d3)++c3)++rest:=⟨cur.toList.drop (c.xs.length*c.t.cells),by rw[<-l5,List.take_append_drop]⟩
      have lI:(q++(d1++d2++d3)++c3).length=c.xs.length*c.t.cells:=lG.1
      have lz:i.toNat*c.t.cells+off=(q++d1).length:=by rw[List.length_append,le,l7]
      have l9:cur.toList.length=(q++d1).length+d2.length+(d3++c3++rest).length:=by rw[ls];simp only[List.length_append];omega
      have ln:i.toNat*c.t.cells+off+L.cells<=cur.size:=by
       rw[<-Array.length_toList,l9,lz,<-lf,ly]
       omega
      have la:=mf (P:=cx.P) lh lH lw ln (gy L ld)
      have lA:cur.toList.take (i.toNat*c.t.cells+off)=q++d1:=by
       rw[ls,lz]
       have:q++(d1++d2++d3)++c3++rest=(q++d1)++(d2++d3++c3++rest):=by simp
       rw[this,List.take_left]
      have lB:cur.toList.drop (i.toNat*c.t.cells+off+L.cells)=d3++c3++rest:=by
       rw[ls,lz,<-lf,<-ly,<-List.length_append]
       have:q++(d1++d2++d3)++c3++rest=(q++d1++d2)++(d3++c3++rest):=by simp
       rw[this,List.drop_left]
      rw[lA,lB]at la
      refine⟨_,by rw[li];exact la,?_⟩
      have lJ:Touch m w r (w.setRow W (q++d1++(Act.eval ⟨T,ai.D cx⟩ y).cells.toList++(d3++c3++rest)).toArray):=
       ⟨jP _ _ _,fun k lF lo=>setRow_other _ _ _ _ (fun e=>lo (by rw[U,e];rfl))⟩
      obtain⟨lp,_⟩:=ni O h.keys {c with xs:=c.xs.set i.toNat lU}
      obtain⟨lb,lc⟩:=an.gw (cx:=cx) lm lJ lp
      have aa:=l6 _ _ l8
      have lK:q++d1++(Act.eval ⟨T,ai.D cx⟩ y).cells.toList++(d3++c3++rest)=(q++(d1++(Act.eval ⟨T,ai.D cx⟩ y).cells.toList++d3)++c3)++rest:=by simp
      have lq:(q++(d1++(Act.eval ⟨T,ai.D cx⟩ y).cells.toList++d3)++c3).length=c.xs.length*c.t.cells:=by
       rw[<-lI];simp only[List.length_append,ly]
      refine h.setRow O lJ (cells:=q++(d1++(Act.eval ⟨T,ai.D cx⟩ y).cells.toList++d3)++c3) ?_ (di (fun _ _=>cC lb lc c.t) aa)
      refine⟨by simp only[List.length_set];exact lq,.inr ⟨W,lZ,_,by rw[R];simp only[List.length_set],l0,setRow_heap _ _ _ _ _ _ lH,by simp only[List.length_set];exact lu,l3,?_,?_⟩⟩
      ·rw[List.size_toArray,lK,List.length_append,lq,<-l4,<-Array.length_toList,ls,List.length_append,lI]
      ·simp only[List.length_set]
       rw[lK,<-lq,List.take_left]
    ·cases o
   ·cases o
  ·cases o
 ·rename_i b p u L z lg lh ab
  have Y:=ab
  obtain⟨g,U,li⟩:=be h lg
  split at o
  ·rename_i lC lS e Z
   split at o
   ·rename_i ad lR aq ae ah
    cases o
    obtain rfl:=ag.eq_of_beq ae
    have O:=a8 Z
    obtain⟨W,lj,_,cells,lk,ll⟩:=h.box O
    have:W=g:=by rw[U]at lj;cases lj;rfl
    subst this
    have lm:b∈st.ids:=List.mem_append.2 (.inl (List.mem_map.2 ⟨_,O,rfl⟩))
    have lv:ba w (ar cx m st.ids) (Act.eval ⟨T,ai.D cx⟩ y) L z:=oo h Y
    have ld:=jd lv
    have lf:=cf L ld
    have lw:(Act.eval ⟨T,ai.D cx⟩ y).cells.size=L.cells:=by rw[<-lf];simp
    obtain⟨q,c2,c3,lD,le,lq,lx⟩:=yy (z:=⟨L,z⟩) ld p lC ll ah lE
    have ln:fL p+L.cells<=cells.size:=by
     rw[<-Array.length_toList,lD];simp only[List.length_append];omega
    have la:=mf (P:=cx.P) lh lk lw ln (gy L ld)
    have lA:cells.toList.take (fL p)=q:=by rw[lD,<-le,List.append_assoc,List.take_left]
    have lB:cells.toList.drop (fL p+L.cells)=c3:=by
     rw[lD,<-le,<-lf,<-lq,<-List.length_append,List.drop_left]
    rw[lA,lB]at la
    refine⟨_,by rw[li];exact la,?_⟩
    have R:Touch m w b (w.setRow W (q++(Act.eval ⟨T,ai.D cx⟩ y).cells.toList++c3).toArray):=
     ⟨jP _ _ _,fun k lF lo=>setRow_other _ _ _ _ (fun e=>lo (by rw[U,e];rfl))⟩
    obtain⟨lp,_⟩:=jC O h.keys (.aT lC ad e)
    obtain⟨lb,lc⟩:=an.gw (cx:=cx) lm R lp
    refine h.cY O R (g:=W) U ⟨_,setRow_heap _ _ _ _ _ _ lk,?_⟩
    simp only[]
    exact cC lb lc lC lx
   ·cases o
  ·cases o
 ·cases o
def rJ(P:Program)(st:af)(t:TypeId)(x k v:Operand):Option af:=
 match aR st x,P.underlying t,dm st k,dm st v with
 |some (.iter b),some (.map L O),some R,some U=>match look st.ad b,ty P L,ty P O with
  |some (.mp o q ps),some W,some Y=>match R.as o,U.as q,W.beq o&&Y.beq q&&o.flat&&dX P 16 L with
   |some y,some z,true=>some (st.cY b (.mp o q (cm (aQ o) ps y z)))
   |_,_,_=>none
  |_,_,_=>none
 |_,_,_,_=>none
theorem Uy(h:an cx m st T w){t:TypeId}{x k v:Operand}{st':af}(o:rJ cx.P st t x k v=some st'):
  ∃w',(Instr.mapUpdate t (Act.eval ⟨T,ai.D cx⟩ x) (Act.eval ⟨T,ai.D cx⟩ k) (Act.eval ⟨T,ai.D cx⟩ v)).run cx.P w=.ok () w'/\an cx m st' T w':=by
 unfold rJ at o
 split at o
 ·rename_i b lz lA lB lC lc ld le lf
  split at o
  ·rename_i lD lE ps O lg lh li lF
   split at o
   ·rename_i y z lj lk R
    cases o
    simp only[Bool.and_eq_true]at R
    obtain⟨⟨⟨ll,lm⟩,ln⟩,lo⟩:=R
    obtain rfl:=ag.eq_of_beq ll
    obtain rfl:=ag.eq_of_beq lm
    have lp:=ak.dd lj
    subst lp
    have lq:=ak.dd lk
    subst lq
    have L:=a8 lh
    obtain⟨g,q,_,es,lG,U,lr,ls,lt⟩:=h.box L
    have q:m b=.map (some g):=q
    have lu:Act.eval ⟨T,ai.D cx⟩ x=.map (some g):=by have:Act.eval ⟨T,ai.D cx⟩ x=m b:=be h lc;rw[this,q]
    obtain⟨W,Y,lv,lw,bW,dJ⟩:=JS (d:=iy) (d':=16) ld li lo (by decide) ln (cW h le) (cW h lf) U lr ls lt
    have Z:Touch m w b {w with heap:=w.heap.setIfInBounds g (.map W Y)}:=
     ⟨⟨rfl,rfl,rfl,by simp,fun _=>Nat.le_refl _⟩,fun k _ lx=>by
      show(w.heap.setIfInBounds g _)[k]? =_
      rw[Array.getElem?_setIfInBounds_ne]
      intro e
      exact lx (by rw[q,e];rfl)⟩
    rw[lu]
    refine⟨_,lv,h.cY L Z (g:=g) q ?_⟩
    have ly:b∈st.ids:=List.mem_append.2 (.inl (List.mem_map.2 ⟨_,L,rfl⟩))
    obtain⟨la,lb⟩:=an.gw (cx:=cx) ly Z (ids:=(st.cY b (.mp O lg (cm (aQ O) ps y z))).ids) (jC L h.keys _).1
    refine⟨W,Y,?_,lw,bW,gJ (fun _ _ h=>dc la lb h) (fun _ _ h=>dc la lb h) dJ⟩
    show(w.heap.setIfInBounds g _)[g]? =_
    rw[Array.getElem?_setIfInBounds_self_of_lt (fV U)]
   ·cases o
  ·cases o
 ·cases o
end Go.Ev
namespace Go.Ev
open Go Go.RowKit
variable [b8]
variable {P:Program} {w:World}
theorem F7(w:World)(aa:Obj):Same w (w.drew.alloc aa):=⟨rfl,rfl,rfl,by simp,fun _=>Nat.le_succ _⟩
theorem hY(w:World)(aa:Obj):Ext w (w.alloc aa):={os:=rfl,tape:=rfl,output:=rfl,size:=by simp,drawn:=by first|exact fun _=>Nat.le_refl _|exact fun _=>Nat.le_succ _,block:=fun b o=>Below.heap_alloc w aa b o}
theorem KX{e size m n:Nat}{z:Array Value}{xs o:List Value}(q:xs.length=n*size)(L:o.length=m*size)(R:z.size=size)(U:n+m<=maxLen)(old:Nat):
  (w.drew.alloc (.cells (xs.toArray++o.toArray++Builtin.zeroCells z (grownCap w (n+m) old e-(n+m))) e)).ownsRow 0 e size (.slice (some ⟨w.heap.size,0,none⟩) (n+m) (grownCap w (n+m) old e)) (n+m) (xs++o):=by
 have W:=grownCap_ge w (n+m) old e
 have Y:grownCap w (n+m) old e<=maxLen:=grownCap_le_maxLen w (n+m) old e U
 have O:(xs++o).length=(n+m)*size:=by rw[List.length_append,q,L,Nat.add_mul]
 refine⟨O,.inr ⟨w.heap.size,_,_,rfl,Nat.zero_le _,heap_alloc_new w.drew _,W,Y,?_,?_⟩⟩
 ·simp only[Array.size_append,List.size_toArray,size_zeroCells,R,q,L,<-Nat.add_mul]
  congr 1
  omega
 ·simp only[Array.toList_append,List.append_assoc]
  rw[<-List.append_assoc,<-O]
  exact List.take_left
theorem Lr(t u ty e:TypeId)(i:TypeInfo)(z:Value)(U:P.underlying t=some (.slice e))(hu:(∃R,P.underlying u=some (.slice R))\/P.underlying u=some .string)(W:P.info? e=some i)(li:i.zero=some z)
  (lj:z.cells.size=i.size)(x:Value)(m:Nat)(o:List Value)(Y:Builtin.lenOf x=pure m)
  (lk:∀w',(∀b,b<w.heap.size->w'.heap[b]? =w.heap[b]?)->(Builtin.firstCells i.size m x).run P w'=.ok o.toArray w')
  (L:o.length=m*i.size)(lq:∀u∈o,u.oneCell'=true)(v:Value)(n:Nat)(xs:List Value)(ld:w.ownsRow 0 e i.size v n xs)
  (le:n+m<=maxLen)(ll:(n+m)*i.bytes<=140737488355328):
  ∃v' w',(Builtin.append_ #[t,u] ty #[v,x]).run P w=.ok v' w'/\w'.ownsRow 0 e i.size v' (n+m) (xs++o)/\Same w w'/\
   (∀b,b<w.heap.size->aT v≠some b->w'.heap[b]? =w.heap[b]?)/\(∀g,aT v'=some g->aT v=some g\/(w.heap.size<=g/\g<w'.heap.size)):=by
 have lC:n+m<=9223372036854775807:=by simp only[maxLen]at le;omega
 have lm:=lk w (fun _ _=>rfl)
 have ln:=lk w.drew (fun _ _=>rfl)
 have O:=ld.1
 rcases ld.2 with ⟨rfl,rfl⟩|⟨g,cap,cur,rfl,_,q,lD,lr,ls,lt⟩
 ·have lu:xs=[]:=List.eq_nil_of_length_eq_zero (by simpa using O)
  subst lu
  by_cases lo:m=0
  ·subst lo
   have lv:o=[]:=List.eq_nil_of_length_eq_zero (by simpa using L)
   subst lv
   refine⟨.slice none 0 0,w,?_,World.ownsRow_nil w 0 e i.size,⟨rfl,rfl,rfl,Nat.le_refl _,fun _=>Nat.le_refl _⟩,fun _ _ _=>rfl,fun g q=>by simp[aT]at q⟩
   rcases hu with ⟨R,hu⟩|hu<;>simp[Builtin.append_,run_underlying U,run_underlying hu,sizeOf,typeInfo,W,Y,lm]
  ·have lw:0<m:=by omega
   have lf:¬(9223372036854775807<(m:Int)):=by omega
   have lg:=growslice_fits (old:=0) (need:=m) (bytes:=i.bytes) lw (by simpa using ll)
   have lh:¬(281474976710656<Builtin.nextslicecap m 0*i.bytes):=by omega
   have Z:=KX (w:=w) (e:=e) O L lj le 0
   simp only[Nat.zero_add]at Z
   refine⟨.slice (some ⟨w.heap.size,0,none⟩) m (grownCap w m 0 e),w.drew.alloc (.cells (([]:List Value).toArray++o.toArray++Builtin.zeroCells z.cells (grownCap w m 0 e-m)) e),?_,by simpa using Z,F7 _ _,fun b la _=>Below.heap_alloc w.drew _ b la,fun g q=>.inr ?_⟩
   ·rcases hu with ⟨R,hu⟩|hu<;>
     simp[Builtin.append_,run_underlying U,run_underlying hu,sizeOf,typeInfo,zeroValue,W,li,Y,lo,lf,lh,Question.forced,run_firstCells_none,ln,newRow,grownCap]
   ·simp[aT]at q
    subst q
    exact⟨Nat.le_refl _,by simp⟩
 ·by_cases lb:n+m<=cap
  ·have lg:n*i.size+o.length<=cur.size:=by rw[L,ls,<-Nat.add_mul];exact Nat.mul_le_mul_right _ lb
   have lp:=run_storeCells_at P g (n*i.size) e o 0 cur w q (by simpa using lg) lq
   simp only[Nat.add_zero]at lp
   refine⟨.slice (some ⟨g,0,none⟩) (n+m) cap,_,?_,⟨by rw[List.length_append,O,L,Nat.add_mul],.inr ⟨g,cap,_,rfl,Nat.zero_le _,setRow_heap w g cur (cur.toList.take (n*i.size)++o++cur.toList.drop (n*i.size+o.length)).toArray e (0,0) q,lb,lr,?_,?_⟩⟩,
    jP _ _ _,fun b la lx=>setRow_other _ _ _ _ (fun e=>lx (by rw[e];rfl)),fun ly lc=>.inl lc⟩
   ·rcases hu with ⟨R,hu⟩|hu<;>
     simp[Builtin.append_,run_underlying U,run_underlying hu,sizeOf,typeInfo,W,Y,lb,lm,Addr.add_lit,lp]
   ·simp only[List.size_toArray,List.length_append,List.length_take,List.length_drop,Array.length_toList]
    omega
   ·rw[lt]
    have lz:(xs++o).length=(n+m)*i.size:=by rw[List.length_append,O,L,Nat.add_mul]
    rw[<-lz]
    exact List.take_left
  ·have lA:∀j u,xs[j]? =some u->w.cell? ((⟨g,0,none⟩:Addr).add j)=some u:=ld.cells (g:=g) rfl
   have lg:=growslice_fits (old:=cap) (need:=n+m) (bytes:=i.bytes) (by omega) ll
   have lf:¬(9223372036854775807<(n:Int)+(m:Int)):=by omega
   have lh:¬(281474976710656<Builtin.nextslicecap (n+m) cap*i.bytes):=by omega
   have lB:=run_firstCells_some (P:=P) w.drew i.size n ⟨g,0,none⟩ n cap xs O (by simpa using lA)
   have Z:=KX (w:=w) (e:=e) O L lj le cap
   refine⟨.slice (some ⟨w.heap.size,0,none⟩) (n+m) (grownCap w (n+m) cap e),_,?_,Z,F7 _ _,fun b la _=>Below.heap_alloc w.drew _ b la,fun ly lc=>.inr ?_⟩
   ·rcases hu with ⟨R,hu⟩|hu<;>
     simp[Builtin.append_,run_underlying U,run_underlying hu,sizeOf,typeInfo,zeroValue,W,li,Y,lb,lf,lh,Question.forced,lB,ln,newRow,grownCap]<;>
     rw[<-List.append_toArray,Array.append_assoc]
   ·simp[aT]at lc
    subst lc
    exact⟨Nat.le_refl _,by simp⟩
end Go.Ev
namespace Go.Ev
open Go Go.RowKit
variable [b8]
structure w8 where
 aO:ao
 st:af
 orc:List ak
 ob:List Prop
def vm(P:Program)(t:TypeId):Option (TypeId×ag):=
 match P.info? t with
 |some i=>match i.zero with
  |some (.slice none 0 0)=>FY P t
  |_=>none
 |none=>none
where
 FY (P:Program) (t:TypeId):Option (TypeId×ag):=
  match P.underlying t with
  |some (.slice e)=>match ty P e with
   |some u=>bif Nat.beq u.cells 0 then none else some (e,u)
   |none=>none
  |_=>none
def qm(P:Program)(t:TypeId):Option (Nat×ag):=
 match P.info? t,pS P t with
 |some i,some (n,.int k)=>match i.zero with
  |some (.agg o)=>match sl k n o.toList&&Nat.ble n maxLen with
   |true=>some (n,.int k)
   |false=>none
  |_=>none
 |_,_=>none
where
 sl (k:IntKind):Nat->List Value->Bool
  |0,[]=>true
  |n+1,.int k' x::l=>gh k k'&&(x==0&&sl k n l)
  |_,_=>false
def BZ(P:Program)(t:TypeId):Option TypeId:=
 match P.info? t,P.underlying t with
 |some i,some (.struct o)=>match i.zero,o.toList with
  |some (.agg q),[_,f1]=>match q.toList,vm.FY P f1.type with
   |[.pointer none,.slice none 0 0],some (e,.int .u8)=>some e
   |_,_=>none
  |_,_=>none
 |_,_=>none
def nU(st:af):ao->Bool
 |.row r=>(look st.rw r).isSome
 |.osl b=>vh (look st.ad b)
 |.iter b=>sy (look st.ad b)
 |_=>true
def mV(st:af)(u:ag):Nat->List (Nat×Operand)->Option (List u.el)
 |_,[]=>some []
 |k,(i,aa)::r=>match Nat.beq i k,dm st aa with
  |true,some v=>match v.as u,mV st u (k+1) r with
   |some x,some xs=>some (x::xs)
   |_,_=>none
  |_,_=>none
def dO(P:Program)(t:TypeId):Option (TypeId×ag):=
 match P.underlying t with
 |some (.slice e)=>match ty P e with
  |some u=>bif Nat.beq u.cells 0 then none else some (e,u)
  |none=>none
 |_=>none
def rG(P:Program)(st:af)(d:Nat)(t:TypeId):Operand->Option (Nat×cE)
 |.const (.slice none 0 0)=>match dO P t with
  |some (e,u)=>some (d,⟨e,u,[]⟩)
  |none=>none
 |x=>match aR st x with
  |some (.row r)=>match look st.rw r with
   |some c=>some (r,c)
   |none=>none
  |_=>none
def eH(s:List UInt8):List Int:=s.map fun b=>(b.toNat:Int)
def kJ(P:Program)(st:af)(u:ag)(t:TypeId)(x:Operand):Option (List u.el):=
 match aR st x with
 |some (.row r)=>match P.underlying t with
  |some (.slice _)=>match look st.rw r with
   |some c=>ak.as ⟨.ab c.t,c.xs⟩ (.ab u)
   |none=>none
  |_=>none
 |some (.val (.ab o) xs)=>match P.underlying t with
  |some (.slice _)=>ak.as ⟨.ab o,xs⟩ (.ab u)
  |_=>none
 |some (.val .str s)=>match P.underlying t with
  |some .string=>ak.as ⟨.ab (.int .u8),eH s⟩ (.ab u)
  |_=>none
 |_=>none
def mw(P:Program)(e:TypeId):Bool:=
 match P.info? e with
 |some i=>Nat.ble i.bytes 65536
 |none=>false
def gd(s:List UInt8)(p:Nat):Int:=((Utf8.decode (bytesOf s) p).1:Int)
def iX(s:List UInt8)(p:Nat):Nat:=(Utf8.decode (bytesOf s) p).2
def Bv(st:af):Option Operand->Bool
 |none=>true
 |some x=>(dV (aR st x)).isSome
def jY(P:Program)(st:af)(aa:Oper)(d:Nat)(orc:List ak):Option w8:=
 match aa.op with
 |.move (.const (.slice none 0 0))=>match dO P aa.type with
  |some (e,u)=>some ⟨.row d,st.dn d ⟨e,u,[]⟩,orc,[]⟩
  |none=>none
 |.assign (.const (.slice none 0 0))=>match dO P aa.type with
  |some (e,u)=>some ⟨.row d,st.dn d ⟨e,u,[]⟩,orc,[]⟩
  |none=>none
 |.alloc t=>match qm P t with
  |some (n,u)=>some ⟨.dN d 0 0 u.cells,st.dn d ⟨t,u,List.replicate n (ca u)⟩,orc,[]⟩
  |none=>match vm P t with
  |some (e,u)=>bif Nat.blt (d+1000000) ep then some ⟨.ptr d 0,(st.dn (d+1000000) ⟨e,u,[]⟩).db d (.cells ([ao.row (d+1000000)].map (ao.dl d)) t),orc,[]⟩else none
  |none=>match BZ P t with
   |some e=>bif Nat.blt (d+1000000) ep then some ⟨.ptr d 0,(st.dn (d+1000000) ⟨e,.int .u8,[]⟩).db d (.cells [.eX d,.row (d+1000000)] t),orc,[]⟩else none
   |none=>match zeroOf P t with
   |some u=>bif uB u then some ⟨.dz d [],st.db d (.aT u (ca u) t),orc,[]⟩else some ⟨.ptr d 0,st.db d (.cells (leaves u (ca u)) t),orc,[]⟩
   |none=>none
 |.box t x=>match ty P t,aR st x with
  |some u,some s=>match qX u s,nU st s with
   |some l,true=>some ⟨.ptr d 0,st.db d (.cells (l.map (ao.dl d)) t),orc,[]⟩
   |_,_=>none
  |_,_=>none
 |.buildSlice t n parts=>match dO P t with
  |some (e,u)=>match mV st u 0 parts.toList with
   |some xs=>match Nat.beq xs.length n,Nat.ble (n*u.cells) 16777216,zeroOf P e with
    |true,true,some _=>some ⟨.row d,st.dn d ⟨e,u,xs⟩,orc,[]⟩
    |_,_,_=>none
   |none=>none
  |none=>none
 |.build t parts=>match ty P t,P.underlying t,P.info? t with
  |some (.arr n u),some (.array _ e),some i=>match mV st u 0 parts.toList,ty P e,i.zero with
   |some xs,some o,some z=>match Nat.beq xs.length n&&u.beq o&&Nat.beq z.cells.size (n*u.cells)with
    |true=>some ⟨.val (.arr n u) xs,st,orc,[]⟩
    |false=>none
   |_,_,_=>none
  |_,_,_=>none
 |.makeSlice t l c=>match dO P t,dV (aR st l),dV (aR st c)with
  |some (e,u),some n,some k=>match mw P e,zeroOf P e with
   |true,some o=>bif u.beq o then some ⟨.row d,st.dn d ⟨e,u,List.replicate n.toNat (ca u)⟩,orc,[0<=n/\n<=k/\k<=(br:Int)]⟩else none
   |_,_=>none
  |_,_,_=>none
 |.range t x=>match dm st x,P.underlying t with
  |some ⟨.str,s⟩,some .string=>some ⟨.iter d,st.db d (.iter s 0),orc,[]⟩
  |some ⟨.map k v,y⟩,some (.map _ _)=>some ⟨.iter d,st.db d (.cv k v ((show Option (List (k.el×v.el))from y).getD []) []),orc,[]⟩
  |_,_=>none
 |.makeMap t r=>match P.underlying t with
  |some (.map L O)=>match ty P L,ty P O with
   |some k,some v=>match k.flat&&dX P 16 L&&Bv st r with
    |true=>some ⟨.iter d,st.db d (.mp k v []),orc,[]⟩
    |false=>none
   |_,_=>none
  |_=>none
 |.next x false=>match aR st x with
  |some (.iter b)=>match look st.ad b with
   |some (.cv _ _ left _)=>some ⟨.dD [⟨.bool,false⟩],st,orc,[left=[]]⟩
   |_=>none
  |_=>none
 |.entry x=>match aR st x with
  |some (.iter b)=>match look st.ad b with
   |some (.cv k v _ [p])=>some ⟨.dD [⟨k,p.1⟩,⟨v,p.2⟩],st,orc,[]⟩
   |_=>none
  |_=>none
 |.next x true=>match aR st x,orc with
  |some (.iter b),⟨.bool,R⟩::orc'=>match look st.ad b with
   |some (.iter s p)=>match R with
    |true=>some ⟨.dD [⟨.bool,true⟩,⟨.int .i64,(p:Int)⟩,⟨.int .i32,gd s p⟩],st.cY b (.iter s (p+iX s p)),orc',[p<s.length]⟩
    |false=>some ⟨.dD [⟨.bool,false⟩],st,orc',[s.length<=p]⟩
   |_=>none
  |_,_=>none
 |.convert src U x=>match dm st x,P.underlying src,dO P U with
  |some ⟨.str,s⟩,some .string,some (e,.int .i32)=>some ⟨.row d,st.dn d ⟨e,.int .i32,eB s⟩,orc,[s.length<=br]⟩
  |some ⟨.str,s⟩,some .string,some (_,.int .u8)=>some ⟨.val (.ab (.int .u8)) (eH s),st,orc,[]⟩
  |_,_,_=>none
 |.makeFunc (.func f) first eJ=>match first.toList,jY.nZ st eJ.toList with
  |[],some bs=>some ⟨.clos f bs,st,orc,[]⟩
  |[x],some []=>match aR st x with
   |some (.ptr b 0)=>some ⟨.b9 f b,st,orc,[]⟩
   |_=>none
  |_,_=>none
 |.slice t x none (some h) none=>match aR st x,dO P t,dV (aR st h)with
  |some (.row r),some (e,u),some n=>match look st.rw r with
   |some c=>match Nat.beq c.e e,c.t.beq u,Nat.blt r ep with
    |true,true,true=>some ⟨.row r,st.dn r ⟨c.e,c.t,c.xs.take n.toNat⟩,orc,[0<=n/\n<=(c.xs.length:Int)]⟩
    |_,_,_=>none
   |none=>none
  |_,_,_=>none
 |.slice t x (some l) none none=>match aR st x,dV (aR st l),pS P t,orc with
  |some (.dN r i0 W Y),some n,some (Z,u),v::orc'=>match look st.rw r with
   |some c=>match c.t.beq u&&(i0==0&&(Nat.beq W 0&&Nat.beq Y c.t.cells)),v.as (.ab c.t)with
    |true,some q=>some ⟨.val (.ab c.t) q,st.freeze r c,orc',[dx c.xs n (c.xs.length:Int)=some q,c.xs.length=Z]⟩
    |_,_=>none
   |none=>none
  |_,_,_,_=>none
 |.call c=>match c with
  |{callee:=.builtin .append,args:=args,argTypes:=la}=>match args.toList,la.toList with
   |[s,x],[t,lb]=>match dO P t,rG P st d t s with
    |some (e,u),some (r,c)=>match Nat.beq c.e e,c.t.beq u,mw P e,zeroOf P e,kJ P st c.t lb x with
     |true,true,true,some o,some q=>bif u.beq o&&Nat.blt r ep then some ⟨.row r,st.dn r ⟨c.e,c.t,c.xs++q⟩,orc,[c.xs.length+q.length<=br]⟩else none
     |_,_,_,_,_=>none
    |_,_=>none
   |_,_=>none
  |_=>none
 |_=>none
where
 nZ (st:af):List Operand->Option (List Nat)
  |[]=>some []
  |x::r=>match aR st x,nZ st r with
   |some (.ptr b 0),some bs=>some (b::bs)
   |_,_=>none
variable {cx:bB} {m:Nat->Value} {st:af} {T:Array Value} {w w':World}
variable [ai cx]
theorem iM{P:Program}{t:TypeId}{e:TypeId}{u:ag}(h:dO P t=some (e,u)):P.underlying t=some (.slice e)/\ty P e=some u/\0<u.cells:=by
 unfold dO at h
 split at h
 ·rename_i R q
  split at h
  ·rename_i L O
   cases o:Nat.beq L.cells 0 with
   |true=>rw[o]at h;cases h
   |false=>rw[o]at h;cases h;exact⟨q,O,Nat.pos_of_ne_zero (beq_false o)⟩
  ·cases h
 ·cases h
def eA(cx:bB)[ai cx](T:Array Value)(w:World)(aa:Oper)(r:w8):Prop:=
 ∃v w' ay,(execOp (Act.eval ⟨T,ai.D cx⟩) aa).run cx.P w=.ok (.value v) w'/\an cx ay r.st T w'/\aS w' (ar cx ay r.st.ids) ay v r.aO
theorem cn{aa:Oper}{s:Sem Value}{v:Value}(o:execOp (Act.eval ⟨T,ai.D cx⟩) aa=(do pure (Next.value (<-s))))(q:s.run cx.P w=.ok v w'):
  (execOp (Act.eval ⟨T,ai.D cx⟩) aa).run cx.P w=.ok (.value v) w':=by
 rw[o,Sem.run_bind,q]
 rfl
theorem oJ(h:an cx m st T w):cx.w0.heap.size<=w.heap.size:=h.frame.size
theorem qN(h:an cx m st T w){d:Nat}(ah:d<cx.n){cells:Array Value}{e:Nat}{l:List ao}(L:ct w (ar cx m st.ids) m cells.toList l):
  an cx (bx m d (.pointer (some ⟨w.heap.size,0,none⟩))) (st.db d (.cells (l.map (ao.dl d)) e)) T (w.alloc (.cells cells e)):=by
 have q:dk cx m st w d (eZ w.heap.size (.cells (l.map (ao.dl d)) e)) (w.alloc (.cells cells e)):=
  dk.fresh h d _ (hY _ _) fun g O=>by cases jU O;exact⟨Nat.le_refl _,by simp⟩
 have R:∀i,i∈(st.db d (.cells (l.map (ao.dl d)) e)).ids->i=d\/i∈st.ids:=by
  intro i o
  rw[sP]at o
  rcases List.mem_cons.1 o with o|o
  ·exact .inl o
  ·exact .inr ((mq st d i).1 o).1
 refine h.db ah q (.inl (oJ h)) ⟨cells,heap_alloc_new w _,?_⟩
 exact pc (fun v s U=>Da d _ (fh q.keeps (q.mut R) U:aS _ (ar cx _ _) m v s)) L
theorem sx{r:Nat}{c:cE}:∀i,i∈(st.dn r c).ids->i=r\/i∈st.ids:=by
 intro i o
 rcases(JG st r c i).1 o with o|o
 ·exact .inl o
 ·exact .inr ((mq st r i).1 o).1
theorem PP(d:Nat):∀(t:ag) (x:t.el),(leaves t x).map (ao.dl d)=leaves t x:=by
 intro t
 induction t with
 |pair a b o q=>intro x;simp only[leaves,List.map_append,o,q]
 |arr n t L=>
  intro x
  show((x:List t.el).flatMap (leaves t)).map (ao.dl d)=(x:List t.el).flatMap (leaves t)
  induction(x:List t.el)with
  |nil=>rfl
  |cons y R O=>rw[List.flatMap_cons,List.map_append,L,O]
 |_=>intro x;rfl
theorem MG(h:an cx m st T w){aa:Oper}{d:Nat}(ah:d<cx.n){t:TypeId}{u:ag}(o:aa.op=.alloc t)(q:zeroOf cx.P t=some u){orc:List ak}:
  eA cx T w aa ⟨.ptr d 0,st.db d (.cells (leaves u (ca u)) t),orc,[]⟩:=by
 obtain⟨i,z,U,L,W,O,R⟩:=iV q
 have:=qN h ah (cells:=z.cells) (e:=t) (u6 u (R w (ar cx m st.ids)))
 rw[PP]at this
 refine⟨_,_,_,cn (s:=Instr.alloc t true (.tuple #[])) (by simp only[execOp,o]) ?_,this,w.heap.size,cd _ _ _,rfl⟩
 simp[Instr.alloc,zeroValue,typeInfo,L,O,newVar,newRow]
theorem Q7(h:an cx m st T w){aa:Oper}{d:Nat}(ah:d<cx.n){t:TypeId}{u:ag}(o:aa.op=.alloc t)(q:zeroOf cx.P t=some u){orc:List ak}:
  eA cx T w aa ⟨.dz d [],st.db d (.aT u (ca u) t),orc,[]⟩:=by
 obtain⟨i,z,Y,L,Z,O,R⟩:=iV q
 have U:dk cx m st w d (eZ w.heap.size (.aT u (ca u) t)) (w.alloc (.cells z.cells t)):=
  dk.fresh h d _ (hY _ _) fun g W=>by cases jU W;exact⟨Nat.le_refl _,by simp⟩
 refine⟨.pointer (some ⟨w.heap.size,0,none⟩),w.alloc (.cells z.cells t),_,cn (s:=Instr.alloc t true (.tuple #[])) (by simp only[execOp,o]) ?_,
  h.db ah U (.inl h.frame.size) ⟨z.cells,heap_alloc_new w _,R _ _⟩,w.heap.size,by rw[cd];rfl,rfl⟩
 simp[Instr.alloc,zeroValue,typeInfo,L,O,newVar,newRow,Value.cells]
theorem Tz(h:an cx m st T w){aa:Oper}{d:Nat}(ah:d<cx.n){t:TypeId}{u:ag}{x:Operand}{s:ao}{l:List ao}(L:aa.op=.box t x)(o:aR st x=some s)(O:qX u s=some l)(q:nU st s=true){orc:List ak}:
  eA cx T w aa ⟨.ptr d 0,st.db d (.cells (l.map (ao.dl d)) t),orc,[]⟩:=by
 have R:∀r,s=.row r\/s=.osl r\/s=.iter r->(Act.eval ⟨T,ai.D cx⟩ x).oneCell'=true:=by
  rintro r (rfl|rfl|rfl)
  ·simp only[nU]at q
   obtain⟨c',U⟩:=Option.isSome_iff_exists.1 q
   rw[show Act.eval ⟨T,ai.D cx⟩ x=m r from be h o]
   exact row_one h (a8 U)
  ·exact KH h q (be h o)
  ·exact Hy h q (be h o)
 obtain⟨W,Y,Z⟩:=K8 R (be h o) O
 have:=qN h ah (cells:=(Act.eval ⟨T,ai.D cx⟩ x).cells) (e:=t) W
 refine⟨_,_,_,cn (s:=Instr.box t (Act.eval ⟨T,ai.D cx⟩ x)) (by simp only[execOp,L]) ?_,this,w.heap.size,cd _ _ _,rfl⟩
 simp[Instr.box,newVar,newRow]
theorem tR(h:an cx m st T w)(d:Nat)(R:d<cx.n\/d<ep){cur:Array Value}{cells:List Value}{e cap:Nat}{u:ag}{xs:List u.el}(w':World)(U:Ext w w')(L:w'.heap[w.heap.size]? =some (.cells cur e (0,0)))
  (W:xs.length<=cap)(Y:cap<=maxLen)(Z:cur.size=cap*u.cells)(la:cur.toList.take (xs.length*u.cells)=cells)(O:bM (aH w (ar cx m st.ids) u) cells xs):
  an cx (bx m d (.slice (some ⟨w.heap.size,0,none⟩) xs.length cap)) (st.dn d ⟨e,u,xs⟩) T w':=by
 have o:dk cx m st w d (.slice (some ⟨w.heap.size,0,none⟩) xs.length cap) w':=
  dk.fresh h d _ U fun g q=>by cases q;exact⟨Nat.le_refl _,wN L⟩
 have lb:=iq (fun _ _=>cf u) _ _ O
 refine h.dn R o (fun g q=>by cases q;exact .inl (oJ h)) ⟨lb,.inr ⟨w.heap.size,cap,cur,rfl,Nat.zero_le _,L,W,Y,Z,la⟩⟩ (di (fun _ _=>cC o.keeps (o.mut sx) u) O)
theorem vk(h:an cx m st T w)(d e:Nat)(q:d<cx.n\/d<ep)(u:ag):an cx (bx m d (.slice none 0 0)) (st.dn d ⟨e,u,[]⟩) T w:=by
 have L:dk cx m st w d (.slice none 0 0) w:=dk.fresh h d _ (Ext.refl w) fun g o=>by cases o
 exact h.dn q L (fun g o=>by cases o) (World.ownsRow_nil w 0 e u.cells) rfl
theorem U2(h:an cx m st T w){aa:Oper}{d:Nat}(ah:d<cx.n)(q:d+1000000<ep){t e:TypeId}{u:ag}(L:aa.op=.alloc t)(o:vm cx.P t=some (e,u)){orc:List ak}:
  eA cx T w aa ⟨.ptr d 0,(st.dn (d+1000000) ⟨e,u,[]⟩).db d (.cells ([ao.row (d+1000000)].map (ao.dl d)) t),orc,[]⟩:=by
 unfold vm at o
 split at o
 ·rename_i i O
  split at o
  ·rename_i R
   have U:=vk h (d+1000000) e (.inr q) u
   have:=qN U ah (cells:=#[.slice none 0 0]) (e:=t) (l:=[ao.row (d+1000000)]) ⟨(cd _ _ _).symm,trivial⟩
   refine⟨_,_,_,cn (s:=Instr.alloc t true (.tuple #[])) (by simp only[execOp,L]) ?_,this,w.heap.size,cd _ _ _,rfl⟩
   simp[Instr.alloc,zeroValue,typeInfo,O,R,newVar,newRow,Value.cells]
  ·cases o
 ·cases o
theorem PQ(h:an cx m st T w){aa:Oper}{d:Nat}(ah:d<cx.n)(L:d+1000000<ep){t e:TypeId}(O:aa.op=.alloc t)(o:BZ cx.P t=some e){orc:List ak}:
  eA cx T w aa ⟨.ptr d 0,(st.dn (d+1000000) ⟨e,.int .u8,[]⟩).db d (.cells [.eX d,.row (d+1000000)] t),orc,[]⟩:=by
 unfold BZ at o
 split at o
 ·rename_i i lc R ld
  split at o
  ·rename_i U f0 f1 W le
   split at o
   ·rename_i lf Y lg
    cases o
    have Z:U=#[.pointer none,.slice none 0 0]:=Array.ext' (by rw[Y])
    have q:=vk h (d+1000000) e (.inr L) (.int .u8)
    have la:dk cx (bx m (d+1000000) (.slice none 0 0)) (st.dn (d+1000000) ⟨e,.int .u8,[]⟩) w d (eZ w.heap.size (.cells [.eX d,.row (d+1000000)] t)) (w.alloc (.cells #[.pointer none,.slice none 0 0] t)):=
     dk.fresh q d _ (hY _ _) fun g lb=>by cases jU lb;exact⟨Nat.le_refl _,by simp⟩
    have:=q.db ah la (.inl (oJ q)) ⟨#[.pointer none,.slice none 0 0],heap_alloc_new w _,.inl rfl,by
     show _=bx _ d _ (d+1000000)
     rw[cR _ _ (by omega),cd],trivial⟩
    refine⟨_,_,_,cn (s:=Instr.alloc t true (.tuple #[])) (by simp only[execOp,O]) ?_,this,w.heap.size,cd _ _ _,rfl⟩
    simp[Instr.alloc,zeroValue,typeInfo,R,W,newVar,newRow,Value.cells,Z]
   ·cases o
  ·cases o
 ·cases o
theorem H4{k:IntKind}:∀{n:Nat} {l:List Value},qm.sl k n l=true->l=List.replicate n (.int k 0)
 |0,[],_=>rfl
 |0,_::_,h=>by cases h
 |n+1,[],h=>by cases h
 |n+1,v::l,h=>by
  cases v<;>simp only[qm.sl,Bool.false_eq_true]at h
  simp only[Bool.and_eq_true,beq_iff_eq]at h
  obtain⟨o,q,L⟩:=h
  rw[<-mr o,q,H4 L]
  rfl
theorem Kn{M:Nat->Prop}{k:IntKind}:∀(n:Nat),bM (aH w M (.int k)) (List.replicate n (.int k 0)) (List.replicate n (ca (.int k)))
 |0=>rfl
 |n+1=>⟨[.int k 0],List.replicate n (.int k 0),rfl,rfl,Kn n⟩
theorem Rk(h:an cx m st T w){aa:Oper}{d:Nat}(ah:d<cx.n){t:TypeId}{n:Nat}{u:ag}(U:aa.op=.alloc t)(o:qm cx.P t=some (n,u)){orc:List ak}:
  eA cx T w aa ⟨.dN d 0 0 u.cells,st.dn d ⟨t,u,List.replicate n (ca u)⟩,orc,[]⟩:=by
 unfold qm at o
 split at o
 ·rename_i i la k W lb
  split at o
  ·rename_i q Y
   split at o
   ·rename_i L
    cases o
    rw[Bool.and_eq_true]at L
    have O:=H4 L.1
    have Z:=Nat.le_of_ble_eq_true L.2
    have R:q.size=n:=by rw[<-Array.length_toList,O,List.length_replicate]
    have:=tR h d (.inl ah) (xs:=List.replicate n (ca (.int k))) (cells:=q.toList) (cur:=q) (u:=.int k) (e:=t) (cap:=n) (w.alloc (.cells q t)) (hY _ _) (heap_alloc_new w _) (by rw[List.length_replicate];exact Nat.le_refl _) Z (by rw[R];simp[ag.cells])
     (by rw[List.length_replicate];simp only[ag.cells,Nat.mul_one];rw[List.take_of_length_le (by rw[Array.length_toList,R];exact Nat.le_refl _)]) (by rw[O];exact Kn n)
    rw[List.length_replicate]at this
    refine⟨.pointer (some ⟨w.heap.size,0,none⟩),_,_,cn (s:=Instr.alloc t true (.tuple #[])) (by simp only[execOp,U]) ?_,this,w.heap.size,_,_,cd _ _ _,by simp⟩
    simp[Instr.alloc,zeroValue,typeInfo,W,Y,newVar,newRow,Value.cells]
   ·cases o
  ·cases o
 ·cases o
theorem Ik(h:an cx m st T w){aa:Oper}{d e:Nat}(ah:d<cx.n){u:ag}(o:aa.op=.move (.const (.slice none 0 0))\/aa.op=.assign (.const (.slice none 0 0))){orc:List ak}:
  eA cx T w aa ⟨.row d,st.dn d ⟨e,u,[]⟩,orc,[]⟩:=by
 refine⟨.slice none 0 0,w,_,?_,vk h d e (.inl ah) u,(cd _ _ _).symm⟩
 rcases o with o|o<;>simp[execOp,o,Act.eval]
theorem Xb(h:an cx m st T w){aa:Oper}{d:Nat}(ah:d<cx.n){t:TypeId}{x:Operand}{s:List UInt8}(o:aa.op=.range t x)(q:dm st x=some ⟨.str,s⟩)(L:cx.P.underlying t=some .string){orc:List ak}:
  eA cx T w aa ⟨.iter d,st.db d (.iter s 0),orc,[]⟩:=by
 obtain⟨O,_⟩:=eG.1 (cW h q)
 have R:dk cx m st w d (eZ w.heap.size (.iter s 0)) (w.iter (bytesOf s) 0):=
  dk.fresh h d _ (hY _ _) fun g U=>by cases jU U;exact⟨Nat.le_refl _,by simp[World.iter]⟩
 refine⟨.pointer (some ⟨w.heap.size,0,none⟩),w.iter (bytesOf s) 0,_,cn (s:=Instr.range t (.string (bytesOf s))) (by simp only[execOp,o,O];rfl) (run_range_string _ _ _ L),
  h.db ah R (.inl (oJ h)) (World.iter_heap _ _ _),(cd _ _ _).symm⟩
theorem VU(w:World)(g:Nat)(aa:Obj):Same w {w with heap:=w.heap.setIfInBounds g aa}:=⟨rfl,rfl,rfl,by simp,fun _=>Nat.le_refl _⟩
theorem Ve(h:an cx m st T w){aa:Oper}{d:Nat}(ah:d<cx.n){t:TypeId}{x:Operand}{k v:ag}{y:(ag.map k v).el}{lb lc:TypeId}(Y:aa.op=.range t x)(ld:dm st x=some ⟨.map k v,y⟩)(Z:cx.P.underlying t=some (.map lb lc)){orc:List ak}:
  eA cx T w aa ⟨.iter d,st.db d (.cv k v ((show Option (List (k.el×v.el))from y).getD []) []),orc,[]⟩:=by
 have o:=(bD (t:=.map k v) rfl).1 (cW h ld)
 match y,o with
 |none,o=>
  have o:[Act.eval ⟨T,ai.D cx⟩ x]=[Value.map none]:=o
  simp only[List.cons.injEq,and_true]at o
  have q:dk cx m st w d (eZ w.heap.size (.cv k v [] [])) (w.alloc (.mapIter none 0 #[] 0)):=
   dk.fresh h d _ (hY _ _) fun g R=>by cases jU R;exact⟨Nat.le_refl _,by simp⟩
  refine⟨.pointer (some ⟨w.heap.size,0,none⟩),w.alloc (.mapIter none 0 #[] 0),_,cn (s:=Instr.range t (.map none)) (by simp only[execOp,Y,o]) ?_,
   h.db ah q (.inl h.frame.size) (.inl ⟨heap_alloc_new w _,rfl,rfl⟩),?_⟩
  ·simp[Instr.range,run_underlying Z,newObj,Sem.run]
  ·show _=bx m d _ d
   rw[cd];rfl
 |some ps,⟨b,es,L,e,U,le,lf,lg,lh⟩=>
  simp only[List.cons.injEq,and_true]at e
  have la:=fV U
  have q:dk cx m st w d (eZ w.heap.size (.cv k v ps [])) (w.alloc (.mapIter (some b) L #[] L)):=
   dk.fresh h d _ (hY _ _) fun g R=>by cases jU R;exact⟨Nat.le_refl _,by simp⟩
  have W:=q.mut (ids:=(st.db d (.cv k v ps [])).ids) (fun i O=>by rcases List.mem_cons.1 O with O|O;exact .inl O;exact .inr ((mq st d i).1 O).1)
  refine⟨.pointer (some ⟨w.heap.size,0,none⟩),w.alloc (.mapIter (some b) L #[] L),_,cn (s:=Instr.range t (.map (some b))) (by simp only[execOp,Y,e]) ?_,
   h.db ah q (.inl h.frame.size) (.inr ⟨b,es,L,#[],heap_alloc_new w _,?_,fun li=>le (W b la li),lf,lg,?_,.inl rfl⟩),?_⟩
  ·simp[Instr.range,run_underlying Z,newObj,getObj,Sem.run,U]
  ·rw[Below.heap_alloc w _ b la];exact U
  ·have lj:es.toList.filter (fun e=>!(#[]:Array Nat).contains e.born)=es.toList:=List.filter_eq_self.2 fun a _=>by simp
   rw[lj]
   exact gJ (fun _ _ h=>dc q.keeps W h) (fun _ _ h=>dc q.keeps W h) lh
  ·show _=bx m d _ d
   rw[cd];rfl
theorem VL(h:an cx m st T w){aa:Oper}{d:Nat}(ah:d<cx.n){t:TypeId}{r:Option Operand}{k v:ag}{q L:TypeId}(O:aa.op=.makeMap t r)(R:cx.P.underlying t=some (.map q L))(o:Bv st r=true){orc:List ak}:
  eA cx T w aa ⟨.iter d,st.db d (.mp k v []),orc,[]⟩:=by
 have U:dk cx m st w d (eZ w.heap.size (.mp k v [])) (w.alloc (.map #[] 0)):=
  dk.fresh h d _ (hY _ _) fun g W=>by cases jU W;exact⟨Nat.le_refl _,by simp⟩
 refine⟨.map (some w.heap.size),w.alloc (.map #[] 0),_,cn (s:=Instr.makeMap t (r.map (Act.eval ⟨T,ai.D cx⟩))) (by simp only[execOp,O]) ?_,
  h.db ah U (.inl h.frame.size) ⟨#[],0,heap_alloc_new w _,fun e Y=>by simp at Y,by simp,trivial⟩,?_⟩
 ·cases r with
  |none=>rfl
  |some x=>
   unfold Bv at o
   obtain⟨n,Z⟩:=Option.isSome_iff_exists.1 o
   obtain⟨k',la⟩:=fe h Z
   simp[Instr.makeMap,run_underlying R,la,asInt,asIntOf,newObj,Sem.run]
 ·show _=bx m d _ d
  rw[cd];rfl
theorem He(h:an cx m st T w){aa:Oper}{x:Operand}{b:Nat}{k v:ag}{left last:List (k.el×v.el)}(q:aa.op=.next x false)(R:aR st x=some (.iter b))(U:look st.ad b=some (.cv k v left last))(W:left=[]){orc:List ak}{ob:List Prop}:
  eA cx T w aa ⟨.dD [⟨.bool,false⟩],st,orc,ob⟩:=by
 subst W
 obtain⟨g,Y,_,Z⟩:=h.box (a8 U)
 have L:Act.eval ⟨T,ai.D cx⟩ x=.pointer (some ⟨g,0,none⟩):=by have:Act.eval ⟨T,ai.D cx⟩ x=m b:=be h R;rw[this,Y];rfl
 rcases Z with ⟨o,_⟩|⟨lf,es,O,seen,o,la,_,lb,lg,lc,_⟩
 ·refine⟨.tuple #[.bool false],w,m,cn (s:=Instr.next (.pointer (some ⟨g,0,none⟩)) false aa.type) (by simp only[execOp,q,L]) ?_,h,⟨[.bool false],rfl,dB.2 rfl,trivial⟩⟩
  simp[Instr.next,getObj,Sem.run,o]
 ·have ld:es.toList.filter (fun e=>!seen.contains e.born)=[]:=List.eq_nil_of_length_eq_zero (by rw[po lc];rfl)
  refine⟨.tuple #[.bool false],w,m,cn (s:=Instr.next (.pointer (some ⟨g,0,none⟩)) false aa.type) (by simp only[execOp,q,L]) ?_,h,⟨[.bool false],rfl,dB.2 rfl,trivial⟩⟩
  have le:es.filter (fun e=>!seen.contains e.born)=#[]:=by
   apply Array.toList_inj.1
   rw[Array.toList_filter]
   exact ld
  simp only[Instr.next,getObj,Sem.run_bind,Sem.run,o,la,Result.andThen,next_test_false seen es O O lb (Nat.le_refl _),Bool.false_eq_true,if_false,le]
  simp[choose,Sem.run,Question.forced]
theorem find_born:∀(l:List MapEntry) (e:MapEntry),(l.map (·.born)).Nodup->e∈l->l.find? (fun x=>x.born==e.born)=some e
 |[],e,_,he=>by cases he
 |x::l,e,q,he=>by
  rw[List.map_cons,List.nodup_cons]at q
  rw[List.find?_cons]
  by_cases o:x.born=e.born
  ·rw[show(x.born==e.born)=true from beq_iff_eq.2 o]
   rcases List.mem_cons.1 he with he|he
   ·rw[he]
   ·exact absurd (List.mem_map.2 ⟨e,he,o.symm⟩) q.1
  ·rw[show(x.born==e.born)=false from beq_eq_false_iff_ne.2 o]
   rcases List.mem_cons.1 he with he|he
   ·exact absurd (by rw[he]) o
   ·exact find_born l e q.2 he
theorem U5(h:an cx m st T w){aa:Oper}{x:Operand}{b:Nat}{k v:ag}{left:List (k.el×v.el)}{p:k.el×v.el}(L:aa.op=.entry x)(O:aR st x=some (.iter b))(R:look st.ad b=some (.cv k v left [p])){orc:List ak}:
  eA cx T w aa ⟨.dD [⟨k,p.1⟩,⟨v,p.2⟩],st,orc,[]⟩:=by
 obtain⟨g,U,_,W⟩:=h.box (a8 R)
 have Y:Act.eval ⟨T,ai.D cx⟩ x=.pointer (some ⟨g,0,none⟩):=by have:Act.eval ⟨T,ai.D cx⟩ x=m b:=be h O;rw[this,U];rfl
 rcases W with ⟨_,_,o⟩|⟨ld,es,le,seen,o,Z,_,lf,la,lg,q⟩
 ·cases o
 ·rcases q with q|⟨e,lh,lb,a2,a3,a4,a5⟩
  ·cases q
  ·cases lb
   refine⟨.tuple #[e.key,e.val],w,m,cn (s:=Instr.entry (.pointer (some ⟨g,0,none⟩))) (by simp only[execOp,L,Y]) ?_,h,⟨[e.key,e.val],rfl,a4,a5,trivial⟩⟩
   have lc:es.find? (fun x=>x.born==e.born)=some e:=by rw[<-Array.find?_toList];exact find_born es.toList e la a2
   simp[Instr.entry,getObj,Sem.run,o,Z,a3,lc]
theorem KW(h:an cx m st T w){aa:Oper}{x:Operand}{b p:Nat}{s:List UInt8}(O:aa.op=.next x true)(W:aR st x=some (.iter b))(Y:look st.ad b=some (.iter s p)){orc:List ak}:
  (p<s.length->eA cx T w aa ⟨.dD [⟨.bool,true⟩,⟨.int .i64,(p:Int)⟩,⟨.int .i32,gd s p⟩],st.cY b (.iter s (p+iX s p)),orc,[p<s.length]⟩)/\
  (s.length<=p->eA cx T w aa ⟨.dD [⟨.bool,false⟩],st,orc,[s.length<=p]⟩):=by
 have R:Act.eval ⟨T,ai.D cx⟩ x=m b:=be h W
 have U:=a8 Y
 obtain⟨g,o,_,q⟩:=h.box U
 have q:w.heap[g]? =some (.stringIter (bytesOf s) p):=q
 have o:m b=.pointer (some ⟨g,0,none⟩):=o
 constructor
 ·intro Z
  have L:p<(bytesOf s).size:=by rw[gY];exact Z
  have la:Touch m w b {w with heap:=w.heap.setIfInBounds g (.stringIter (bytesOf s) (p+iX s p))}:=
   ⟨VU _ _ _,fun k _ lb=>by
    show(w.heap.setIfInBounds g _)[k]? =_
    rw[Array.getElem?_setIfInBounds_ne]
    intro e
    exact lb (by rw[o,e];rfl)⟩
  refine⟨.tuple #[.bool true,.int .i64 p,.int .i32 (gd s p)],_,m,cn (s:=Instr.next (.pointer (some ⟨g,0,none⟩)) true aa.type) (by simp only[execOp,O,R,o]) ?_,
   h.cY U la (g:=g) o ?_,⟨[.bool true,.int .i64 p,.int .i32 (gd s p)],rfl,dB.2 rfl,cV.2 rfl,cV.2 rfl,trivial⟩⟩
  ·simp[Instr.next,getObj,setObj,Sem.run,q,L,goInt,gd,iX]
  ·show(w.heap.setIfInBounds g _)[g]? =_
   rw[Array.getElem?_setIfInBounds_self_of_lt (wN q)]
 ·intro lc
  have L:¬p<(bytesOf s).size:=by rw[gY];omega
  refine⟨.tuple #[.bool false],w,m,cn (s:=Instr.next (.pointer (some ⟨g,0,none⟩)) true aa.type) (by simp only[execOp,O,R,o]) ?_,h,⟨[.bool false],rfl,dB.2 rfl,trivial⟩⟩
  simp[Instr.next,getObj,Sem.run,q,L]
end Go.Ev
