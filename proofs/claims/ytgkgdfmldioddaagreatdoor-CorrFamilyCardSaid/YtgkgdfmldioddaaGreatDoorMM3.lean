/- Calls by contracts; one operation; lists of operations; regions. -/
import Derived.Test.YtgkgdfmldioddaaGreatDoorMM2
import Derived.Deep.Quiet
set_option linter.unusedSectionVars false
set_option linter.unusedVariables false
set_option linter.unusedSimpArgs false
namespace Go.Ev
open Go Go.RowKit
variable [b6]
variable {cx:bB} {m:Nat->Value} {st:ae} {T:Array Value} {w w':World}
structure jT where
 flat:Bool
 io:Nat
 gF:List ag
 rel:List aj->List aj->Prop
def oQ(w:World)(M:Nat->Prop)(v:Value):List aj->Prop
 |[]=>True
 |[u]=>a8 w M v u.t u.x
 |l=>∃vs:List Value,v=.tuple vs.toArray/\eZ w M vs l
structure aY(P:Program)(G:World->Prop)(f:Nat)(F:jT):Prop where
 enters:∀args w,(callFunc f args).run P w=.ok (.enter f args) w
 shape:∀o ar,F.rel o ar->ar.length=F.io/\(F.flat=true->∀u∈ar,u.t.flat=true)
 calls:∀(w:World) (M:Nat->Prop) (vs:List Value) (o ar:List aj),G w->(∀b,M b->b<w.heap.size)->F.rel o ar->eZ w M vs o->
  Calls P f vs.toArray w fun e w'=>∃v,e=.returned v/\oQ w' M v ar/\Ext w w'
structure Env where
 P:Program
 G:World->Prop
 n:Nat
 fns:List (Nat×jT)
structure br(E:Env)(cx:bB):Prop where
 P:cx.P=E.P
 n:cx.n=E.n
 tq:∀w,Frame cx.bC w cx.X->E.G w
 fns:∀f F,(f,F)∈E.fns->aY E.P E.G f F
def rY(st:ae)(b off:Nat)(u:ag):Option aj:=
 match look st.ad b with
 |some (.cells l _)=>match pack u ((l.drop off).map (nE st))with
  |some (x,_)=>some ⟨.ptr u,x⟩
  |none=>none
 |_=>none
def pb(st:ae):List Nat->List ag->Option (List aj)
 |[],[]=>some []
 |b::o,u::us=>match rY st b 0 u,pb st o us with
  |some v,some vs=>some (v::vs)
  |_,_=>none
 |_,_=>none
def pairUp:List aj->aj
 |[]=>⟨.unit,()⟩
 |u::us=>⟨.pair u.t (pairUp us).t,(u.x,(pairUp us).x)⟩
def th:(t:ag)->t.el->Option (List aj)
 |.unit,_=>some []
 |.pair a b,x=>match th b x.2 with
  |some l=>some (⟨a,x.1⟩::l)
  |none=>none
 |_,_=>none
def BR(E:Env)(st:ae)(flat:Bool)(t:TypeId)(x:Operand):Option aj:=
 match x with
 |.const (.slice none 0 0)=>match ed E.P t with
  |some (_,u)=>some ⟨.ab u,[]⟩
  |none=>none
 |x=>match aP st x with
  |some (.val t y)=>some ⟨t,y⟩
  |some (.vptr t y)=>some ⟨.ptr t,y⟩
  |some (.row r)=>match flat,look st.rw r with
   |true,some c=>some ⟨.ab c.t,c.xs⟩
   |_,_=>none
  |some (.iter b)=>match flat,look st.ad b with
   |true,some (.mp k v ps)=>some ⟨.map k v,some ps⟩
   |_,_=>none
  |some (.ptr b off)=>match flat,E.P.underlying t with
   |true,some (.pointer e)=>match ty E.P e with
    |some u=>rY st b off u
    |none=>none
   |_,_=>none
  |some (.dE b p)=>match flat,look st.ad b with
   |true,some (.aO o y _)=>match mj o y p []with
    |some (r,_,[])=>some ⟨.ptr r.t,r.x⟩
    |_=>none
   |_,_=>none
  |some (.clos f O)=>match flat,look E.fns f with
   |true,some F=>match pb st O F.gF with
    |some l=>some ⟨.fn f (pairUp l).t,(pairUp l).x⟩
    |none=>none
   |_,_=>none
  |_=>none
def tN(E:Env)(st:ae)(flat:Bool):List TypeId->List Operand->Option (List aj)
 |[],[]=>some []
 |t::o,x::xs=>match BR E st flat t x,tN E st flat o xs with
  |some v,some vs=>some (v::vs)
  |_,_=>none
 |_,_=>none
def u6:List aj->ak
 |[]=>.any
 |[u]=>.val u.t u.x
 |l=>.dP l
def tJ(E:Env)(st:ae)(x:Operand):Option (Nat×jT×List aj):=
 match aP st x with
 |some (.clos f o)=>match look E.fns f with
  |some F=>match o with
   |[]=>some (f,F,[])
   |o=>match F.flat,pb st o F.gF with
    |true,some l=>some (f,F,l)
    |_,_=>none
  |none=>none
 |some (.val (.fn f t) y)=>match look E.fns f,th t y with
  |some F,some l=>match l.all (fun u=>!u.t.agg)with
   |true=>some (f,F,l)
   |false=>none
  |_,_=>none
 |_=>none
def nP(E:Env)(st:ae)(c:Call)(orc:List aj):Option dG:=
 match c.callee with
 |.value x=>match tJ E st x with
  |some (_,F,l)=>match tN E st F.flat c.argTypes.toList c.args.toList with
   |some o=>bif Nat.ble F.io orc.length then some ⟨u6 (orc.take F.io),orc.drop F.io,[F.rel (o++l) (orc.take F.io)]⟩else none
   |none=>none
  |none=>none
 |_=>none
theorem K5(h:am cx m st T w):∀{c:List Value} {l:List ak},cA w (ap cx m st.ids) m c l->cA w (fun _=>False) m c (l.map (nE st))
 |[],[],_=>trivial
 |[],_::_,h=>h.elim
 |_::_,[],h=>h.elim
 |_::_,_::_,⟨h1,o⟩=>⟨Ls h h1,K5 h o⟩
theorem KV(h:am cx m st T w){b off:Nat}{u:ag}{v:aj}(o:rY st b off u=some v){x:Value}(Z:∃g,m b=.pointer (some ⟨g,0,none⟩)/\x=.pointer (some ⟨g,off,none⟩)):
  a8 w (fun _=>False) x v.t v.x:=by
 unfold rY at o
 split at o
 ·rename_i l la
  split at o
  ·rename_i y r lc
   cases o
   obtain⟨g,ld,rfl⟩:=Z
   obtain⟨O,U,_,cells,lf,lg⟩:=h.box (aX la)
   have:O=g:=by rw[ld]at U;cases U;rfl
   subst this
   obtain⟨_,af⟩:=jU off lg
   obtain⟨c1,c2,lh,li,_⟩:=yJ u (K5 h af) lc
   refine(bZ (t:=.ptr u) rfl).2 ⟨_,c1,rfl,li,fun j v W=>⟨?_,fun h=>h⟩⟩
   have Y:(cells.toList.drop off)[j]? =some v:=by rw[lh,List.getElem?_append_left (List.getElem?_eq_some_iff.1 W).1];exact W
   rw[List.getElem?_drop]at Y
   have lj:(⟨O,off,none⟩:Addr).add j=⟨O,off+j,none⟩:=by unfold Addr.add;split<;>simp_all
   rw[lj,vo lf]
   simpa using Y
  ·cases o
 ·cases o
theorem B9(h:am cx m st T w):∀{O:List Nat} {us:List ag} {l:List aj},(∀b∈O,∀c e,look st.ad b=some (.cells c e)->∃g,m b=.pointer (some ⟨g,0,none⟩))->pb st O us=some l->eZ w (fun _=>False) (O.map m) l
 |[],[],_,_,o=>by cases o;trivial
 |[],_::_,_,_,o=>by cases o
 |_::_,[],_,_,o=>by cases o
 |b::O,u::us,l,U,o=>by
  unfold pb at o
  split at o
  ·rename_i v vs h1 Y
   cases o
   refine⟨KV h h1 ?_,B9 h (fun b Z=>U b (List.mem_cons_of_mem _ Z)) Y⟩
   unfold rY at h1
   split at h1
   ·rename_i c e la
    obtain⟨g,W⟩:=U b List.mem_cons_self c e la
    exact⟨g,W,W⟩
   ·cases h1
  ·cases o
theorem Ch(h:am cx m st T w){b:Nat}{c:List ak}{e:Nat}(o:look st.ad b=some (.cells c e)):∃g,m b=.pointer (some ⟨g,0,none⟩):=by
 obtain⟨g,O,_⟩:=h.box (aX o)
 exact⟨g,O⟩
theorem Hk{w:World}{M:Nat->Prop}:∀{vs:List Value} {l:List aj},(∀u∈l,u.t.agg=false)->eZ w M vs l->aF w M (pairUp l).t vs (pairUp l).x
 |[],[],_,_=>rfl
 |[],_::_,_,h=>h.elim
 |_::_,[],_,h=>h.elim
 |v::vs,u::us,o,⟨h1,O⟩=>⟨[v],vs,rfl,(bZ (o u List.mem_cons_self)).1 h1,Hk (fun x U=>o x (List.mem_cons_of_mem _ U)) O⟩
theorem LV:∀{U:List Nat} {us:List ag} {l:List aj},pb st U us=some l->∀u∈l,u.t.agg=false
 |[],[],_,o=>by cases o;simp
 |[],_::_,_,o=>by cases o
 |_::_,[],_,o=>by cases o
 |b::U,u::us,l,o=>by
  unfold pb at o
  split at o
  ·rename_i v vs h1 W
   cases o
   intro x O
   rcases List.mem_cons.1 O with rfl|O
   ·unfold rY at h1
    split at h1
    ·split at h1
     ·cases h1;rfl
     ·cases h1
    ·cases h1
   ·exact LV W x O
  ·cases o
theorem HG{w:World}{M:Nat->Prop}:∀(t:ag) {vs:List Value} {x:t.el} {l:List aj},th t x=some l->aF w M t vs x->∃us,eZ w M us l/\(∀u∈l,u.t.agg=false->True)/\(l.all (fun u=>!u.t.agg)=true->us=vs)
 |.unit,vs,x,l,o,h=>by cases o;cases h;exact⟨[],trivial,fun _ _ _=>trivial,fun _=>rfl⟩
 |.pair a b,vs,x,l,o,⟨c1,c2,e,h1,Z⟩=>by
  unfold th at o
  split at o
  ·rename_i ld la
   cases o
   obtain⟨us,W,_,lc⟩:=HG b la Z
   cases O:a.agg with
   |true=>exact⟨.agg c1.toArray::us,⟨(eA O).2 ⟨c1,rfl,h1⟩,W⟩,fun _ _ _=>trivial,fun U=>by simp[O]at U⟩
   |false=>
    have Y:=ch a h1
    have:a.cells=1:=by cases a<;>first|rfl|(simp[ag.agg]at O)
    rw[this]at Y
    match c1,Y with
    |[v],_=>
     refine⟨v::us,⟨(bZ O).2 h1,W⟩,fun _ _ _=>trivial,fun U=>?_⟩
     rw[List.all_cons,Bool.and_eq_true]at U
     rw[e,lc U.2]
     rfl
  ·cases o
 |.int _,_,_,_,o,_=>by cases o
 |.bool,_,_,_,o,_=>by cases o
 |.str,_,_,_,o,_=>by cases o
 |.ab _,_,_,_,o,_=>by cases o
 |.ptr _,_,_,_,o,_=>by cases o
 |.fn _ _,_,_,_,o,_=>by cases o
 |.err,_,_,_,o,_=>by cases o
 |.cV,_,_,_,o,_=>by cases o
theorem WV{E:Env}(lx:cx.P=E.P)(h:am cx m st T w){flat:Bool}{t:TypeId}{x:Operand}{v:aj}(o:BR E st flat t x=some v):
  a8 w (fun b=>flat=false/\ap cx m st.ids b) (Act.eval ⟨T,[]⟩ x) v.t v.x:=by
 have W:∀b,b<w.heap.size->¬ap cx m st.ids b->w.heap[b]? =w.heap[b]? :=fun _ _ _=>rfl
 have Y:∀b,b<w.heap.size->(flat=false/\ap cx m st.ids b)->ap cx m st.ids b:=fun _ _ h=>h.2
 have lh:∀b,b<w.heap.size->¬False->w.heap[b]? =w.heap[b]? :=fun _ _ _=>rfl
 have li:∀b,b<w.heap.size->(true=false/\ap cx m st.ids b)->False:=fun _ _ h=>by cases h.1
 unfold BR at o
 split at o
 ·split at o
  ·rename_i e u ll
   cases o
   refine(bZ (t:=.ab u) rfl).2 ⟨none,0,[],rfl,Nat.le_refl _,by decide,fun _=>rfl,rfl,fun j v lc=>by simp at lc⟩
  ·cases o
 ·split at o
  ·rename_i ld y O
   cases o
   have:=aW h O
   exact dh W Y this
  ·rename_i ld y O
   cases o
   have:=fV W Y (aW h O)
   obtain⟨a,cells,e,r⟩:=this
   rw[e]
   exact(bZ (t:=.ptr ld) rfl).2 ⟨a,cells,rfl,r⟩
  ·rename_i r O
   split at o
   ·rename_i c Z
    cases o
    have la:Act.eval ⟨T,[]⟩ x=m r:=aW h O
    rw[la]
    refine(bZ (t:=.ab c.t) rfl).2 (h.yM (aX Z) (fun b _ U=>U.2) fun g _ U=>?_)
    simp at U
   ·cases o
  ·rename_i b O
   split at o
   ·rename_i k v' ps Z
    cases o
    have la:Act.eval ⟨T,[]⟩ x=m b:=aW h O
    obtain⟨g,lf,_,es,clock,h1,lm,ln,lo⟩:=h.box (aX Z)
    rw[la,lf]
    refine(bZ (t:=.map k v') rfl).2 ⟨g,es,clock,rfl,h1,(fun U:true=false/\ap cx m st.ids g=>by cases U.1),lm,ln,gH (fun _ _ h=>dh W Y h) (fun _ _ h=>dh W Y h) lo⟩
   ·cases o
  ·rename_i b off O
   split at o
   ·rename_i e ll
    split at o
    ·rename_i u ly
     exact dh lh li (KV h o (aW h O))
    ·cases o
   ·cases o
  ·rename_i b p O
   split at o
   ·rename_i ld y e U
    split at o
    ·rename_i r aa lp
     cases o
     obtain⟨g,lq,lr⟩:=aW h O
     obtain⟨lj,lf,_,cells,lt,lu⟩:=h.box (aX U)
     have:lj=g:=by rw[lq]at lf;cases lf;rfl
     subst this
     obtain⟨c1,c2,c3,lv,lg,lw⟩:=xd p ld lu lp trivial
     rw[lr]
     refine(bZ (t:=.ptr r.t) rfl).2 ⟨⟨lj,gx p,none⟩,c2,rfl,cB W Y r.t lw,fun j v lc=>⟨?_,fun U=>by cases U.1⟩⟩
     have lz:=(List.getElem?_eq_some_iff.1 lc).1
     rw[gL,vo lt,<-Array.getElem?_toList,lv,List.append_assoc,List.getElem?_append_right (by omega),List.getElem?_append_left (by omega),<-lc]
     congr 1
     omega
    ·cases o
   ·cases o
  ·rename_i f lk O
   split at o
   ·rename_i F lA
    split at o
    ·rename_i l lg
     cases o
     have la:Act.eval ⟨T,[]⟩ x=.func (.func f) #[] (lk.map m).toArray:=aW h O
     rw[la]
     refine(bZ (t:=.fn f (pairUp l).t) rfl).2 ⟨lk.map m,rfl,?_⟩
     exact cB lh li _ (Hk (LV lg) (B9 h (fun b _ c e Z=>Ch h Z) lg))
    ·cases o
   ·cases o
  ·cases o
theorem H6{E:Env}(O:cx.P=E.P)(h:am cx m st T w){flat:Bool}:∀{U:List TypeId} {xs:List Operand} {vs:List aj},tN E st flat U xs=some vs->
  eZ w (fun b=>flat=false/\ap cx m st.ids b) (xs.map (Act.eval ⟨T,[]⟩)) vs
 |[],[],_,o=>by cases o;trivial
 |[],_::_,_,o=>by cases o
 |_::_,[],_,o=>by cases o
 |t::U,x::xs,vs,o=>by
  unfold tN at o
  split at o
  ·rename_i v Y h1 W
   cases o
   exact⟨WV O h h1,H6 O h W⟩
  ·cases o
theorem IF{M:Nat->Prop}:∀{a b:List Value} {l r:List aj},eZ w M a l->eZ w M b r->eZ w M (a++b) (l++r)
 |[],_,[],_,_,h=>h
 |[],_,_::_,_,h,_=>h.elim
 |_::_,_,[],_,h,_=>h.elim
 |_::_,_,_::_,_,⟨h1,o⟩,h=>⟨h1,IF o h⟩
theorem TE{E:Env}(h:am cx m st T w){x:Operand}{f:Nat}{F:jT}{l:List aj}(o:tJ E st x=some (f,F,l)):
  look E.fns f=some F/\∃O:List Value,Act.eval ⟨T,[]⟩ x=.func (.func f) #[] O.toArray/\∃us,us=O/\eZ w (fun b=>F.flat=false/\ap cx m st.ids b) us l:=by
 have ld:∀b,b<w.heap.size->¬ap cx m st.ids b->w.heap[b]? =w.heap[b]? :=fun _ _ _=>rfl
 have lf:∀b,b<w.heap.size->¬False->w.heap[b]? =w.heap[b]? :=fun _ _ _=>rfl
 unfold tJ at o
 split at o
 ·rename_i la O Z
  have U:Act.eval ⟨T,[]⟩ x=.func (.func la) #[] (O.map m).toArray:=aW h Z
  split at o
  ·rename_i lk W
   split at o
   ·cases o
    exact⟨W,[],U,[],rfl,trivial⟩
   ·split at o
    ·rename_i lg lc
     cases o
     refine⟨W,_,U,_,rfl,tI lf (fun b _ Y=>?_) (B9 h (fun b _ c e o=>Ch h o) lc)⟩
     rw[lg]at Y
     cases Y.1
    ·cases o
  ·cases o
 ·rename_i la t y Z
  split at o
  ·rename_i W lc
   split at o
   ·cases o
    have U:a8 w (ap cx m st.ids) (Act.eval ⟨T,[]⟩ x) (.fn f t) y:=aW h Z
    obtain⟨O,e,lh⟩:=(bZ (t:=.fn f t) rfl).1 U
    simp only[List.cons.injEq,and_true]at e
    obtain⟨us,li,_,lj⟩:=HG t ‹th t y=some l› lh
    refine⟨W,O,e,us,lj ‹_›,tI ld (fun b _ Y=>Y.2) li⟩
   ·cases o
  ·cases o
 ·cases o
theorem zI{w w':World}{M M':Nat->Prop}:∀{vs:List Value} {l:List aj},(∀u∈l,u.t.flat=true)->eZ w M vs l->eZ w' M' vs l
 |[],[],_,_=>trivial
 |[],_::_,_,h=>h.elim
 |_::_,[],_,h=>h.elim
 |_::_,u::_,o,⟨h1,O⟩=>⟨wq (o u List.mem_cons_self) h1,zI (fun x U=>o x (List.mem_cons_of_mem _ U)) O⟩
theorem Oi{M:Nat->Prop}{v:Value}:∀{l:List aj},oQ w M v l->aQ w M m v (u6 l)
 |[],_=>trivial
 |[_],h=>h
 |_::_::_,h=>h
theorem S9{w w':World}{M M':Nat->Prop}{v:Value}:∀{l:List aj},(∀u∈l,u.t.flat=true)->oQ w M v l->oQ w' M' v l
 |[],_,_=>trivial
 |[u],o,h=>wq (o u List.mem_cons_self) h
 |_::_::_,o,⟨vs,e,h⟩=>⟨vs,e,zI o h⟩
theorem yY{c:Call}{aa:Oper}{f:Nat}{x:Operand}{o:List Value}(U:aa.op=.call c)(O:c.callee=.value x)(W:Act.eval ⟨T,[]⟩ x=.func (.func f) #[] o.toArray)
  (Y:∀args w,(callFunc f args).run cx.P w=.ok (.enter f args) w)(w:World):
  (execOp (Act.eval ⟨T,[]⟩) aa).run cx.P w=.ok (.enter f (c.args.toList.map (Act.eval ⟨T,[]⟩)++o).toArray) w:=by
 obtain⟨la,args,lc⟩:=c
 simp only at O
 subst O
 have Z:#[]++args.map (Act.eval ⟨T,[]⟩)++o.toArray=(args.toList.map (Act.eval ⟨T,[]⟩)++o).toArray:=by
  apply Array.ext'
  simp
 simp only[execOp,U,resolve,W,Deferred.ofValue,Sem.run_bind,Sem.run_pure,Result.andThen_ok,invoke]
 rw[Z]
 simp[Y]
theorem tk{E:Env}(O:br E cx)(h:am cx m st T w){aa:Oper}{c:Call}(lc:aa.op=.call c){orc:List aj}{r:dG}(o:nP E st c orc=some r)(Z:bJ r.ob):
  ∃f args,(∀w,(execOp (Act.eval ⟨T,[]⟩) aa).run cx.P w=.ok (.enter f args) w)/\
   Calls cx.P f args w fun e w'=>∃v,e=.returned v/\Ext w w'/\aQ w' (ap cx m st.ids) m v r.aJ:=by
 unfold nP at o
 split at o
 ·rename_i x ld
  split at o
  ·rename_i f F l lf
   split at o
   ·rename_i ln has
    cases U:Nat.ble F.io orc.length with
    |false=>rw[U]at o;cases o
    |true=>
     rw[U]at o
     cases o
     obtain⟨lg,lo,lh,us,e,li⟩:=TE h lf
     subst e
     have W:=O.fns f F (aX lg)
     rw[<-O.P]at W
     have lj:=IF (H6 O.P h has) li
     have lk:=W.calls w (fun b=>F.flat=false/\ap cx m st.ids b) _ _ _ (O.tq w h.frame) (fun b U=>h.Ej U.2) Z.1 lj
     refine⟨f,_,yY lc ld lh W.enters,lk.mono ?_⟩
     rintro e w' ⟨v,ll,Y,lm⟩
     refine⟨v,ll,lm,Oi ?_⟩
     cases la:F.flat with
     |true=>exact S9 ((W.shape _ _ Z.1).2 la) Y
     |false=>
      rw[la]at Y
      have:(fun b=>false=false/\ap cx m st.ids b)=ap cx m st.ids:=by funext b;simp
      rw[this]at Y
      exact Y
   ·cases o
  ·cases o
 ·cases o
def H5(st:ae)(x:Operand):ae:=
 match aP st x with
 |some (.row r)=>match look st.rw r with
  |some c=>st.freeze r c
  |none=>st
 |some (.iter b)=>match look st.ad b with
  |some (.mp k v ps)=>st.gA b k v ps
  |_=>st
 |_=>st
def iC:ae->List Operand->ae
 |st,[]=>st
 |st,x::xs=>iC (H5 st x) xs
def iD(E:Env):Op->List Operand
 |.range _ x=>[x]
 |.slice _ x (some _) _ none=>[x]
 |.build _ ps=>ps.toList.map (·.2)
 |.buildSlice _ _ ps=>ps.toList.map (·.2)
 |.call c=>match c.callee with
  |.value (.func f)=>match look E.fns f with
   |some F=>bif F.flat then[]else c.args.toList
   |none=>c.args.toList
  |_=>[]
 |_=>[]
theorem ve:∀{l:List Operand} {st:ae},am cx m st T w->am cx m (iC st l) T w
 |[],_,h=>h
 |x::xs,st,h=>by
  refine ve (l:=xs) ?_
  unfold H5
  split
  ·split
   ·rename_i c o;exact h.freeze (aX o)
   ·exact h
  ·split
   ·rename_i k v ps o;exact h.gA (aX o)
   ·exact h
  ·exact h
def pU(E:Env)(o:ae)(aa:Oper)(orc:List aj):Option (ae×List aj×List Prop):=
 match aa.dst with
 |none=>match aa.op with
  |.store t x y=>zf E.P o t x y orc
  |.mapUpdate t x k v=>match uh E.P (iC o [v]) t x k v with
   |some st1=>some (st1,orc,[])
   |none=>none
  |.call c=>match nP E (iC o (iD E aa.op)) c orc with
   |some r=>some (iC o (iD E aa.op),r.orc,r.ob)
   |none=>none
  |_=>none
 |some d=>match Nat.blt d E.n with
  |true=>match dD E.P (iC o (iD E aa.op)) aa.op orc with
   |some r=>some ((iC o (iD E aa.op)).put d r.aJ,r.orc,r.ob)
   |none=>match aa.op with
    |.load t x=>match vr E.P o t x orc with
     |some r=>some (o.put d r.aJ,r.orc,r.ob)
     |none=>none
    |.call c=>match nP E (iC o (iD E aa.op)) c orc with
     |some r=>some ((iC o (iD E aa.op)).put d r.aJ,r.orc,r.ob)
     |none=>match mY E.P o aa d orc with
      |some r=>some (r.st.put d r.aJ,r.orc,r.ob)
      |none=>none
    |_=>match mY E.P (iC o (iD E aa.op)) aa d orc with
     |some r=>some (r.st.put d r.aJ,r.orc,r.ob)
     |none=>none
  |false=>none
theorem gT{aa:Oper}{v:Value}{K:Act->World->Prop}{Q:Exit->Act->World->Prop}(o:(execOp (Act.eval ⟨T,[]⟩) aa).run cx.P w=.ok (.value v) w')(O:K (Act.put ⟨T,[]⟩ aa.dst v) w'):
  aa.wp cx.P ⟨T,[]⟩ w K Q:=by
 unfold Oper.wp
 rw[o]
 exact O
theorem uB{E:Env}(W:br E cx)(h:R cx st T w){aa:Oper}{orc:List aj}{st':ae}{orc':List aj}{ob:List Prop}(o:pU E st aa orc=some (st',orc',ob))(Y:bJ ob)
  {K:Act->World->Prop}{Q:Exit->Act->World->Prop}(ld:∀lq w',R cx st' lq w'->K ⟨lq,[]⟩ w'):aa.wp cx.P ⟨T,[]⟩ w K Q:=by
 obtain⟨m,Z⟩:=h
 unfold pU at o
 split at o
 ·rename_i af
  split at o
  ·rename_i t x y O
   rw[<-W.P]at o
   obtain⟨w',la,lk⟩:=Uo Z o Y
   unfold Oper.wp
   have lf:(execOp (Act.eval ⟨T,[]⟩) aa).run cx.P w=.ok .skip w':=by
    simp only[execOp,O,Sem.run_bind,la,Result.andThen_ok,Sem.run_pure]
   rw[lf]
   show K (Act.put ⟨T,[]⟩ aa.dst undef) w'
   rw[af]
   exact ld T w' ⟨m,lk⟩
  ·rename_i t x k v O
   split at o
   ·rename_i st1 lr
    cases o
    have U:=ve (l:=[v]) Z
    rw[<-W.P]at lr
    obtain⟨w',la,lk⟩:=Wu U lr
    unfold Oper.wp
    have lf:(execOp (Act.eval ⟨T,[]⟩) aa).run cx.P w=.ok .skip w':=by
     simp only[execOp,O,Sem.run_bind,la,Result.andThen_ok,Sem.run_pure]
    rw[lf]
    show K (Act.put ⟨T,[]⟩ aa.dst undef) w'
    rw[af]
    exact ld T w' ⟨m,lk⟩
   ·cases o
  ·rename_i c O
   split at o
   ·rename_i r lg
    cases o
    have U:=ve (l:=iD E aa.op) Z
    obtain⟨f,args,la,ll⟩:=tk W U O lg Y
    unfold Oper.wp
    rw[la w]
    refine ll.mono ?_
    rintro e w' ⟨v,rfl,lm,_⟩
    show K (Act.put ⟨T,[]⟩ aa.dst v) w'
    rw[af]
    exact ld T w' ⟨m,U.ext lm⟩
   ·cases o
  ·cases o
 ·rename_i d af
  split at o
  ·rename_i lv
   have li:d<cx.n:=by rw[W.n];exact cG lv
   have U:=ve (l:=iD E aa.op) Z
   have fin:∀(v:Value) (w':World) (aA:Nat->Value) (lj:ae) (aJ:ak),(execOp (Act.eval ⟨T,[]⟩) aa).run cx.P w=.ok (.value v) w'->am cx aA lj T w'->aQ w' (ap cx aA lj.ids) aA v aJ->lj.put d aJ=st'->aa.wp cx.P ⟨T,[]⟩ w K Q:=by
    intro v w' aA lj aJ lf ln lc e
    refine gT lf ?_
    rw[af]
    exact ld _ _ ⟨aA,e▸ln.put li lc⟩
   have lw:∀(c:Call) (r:dG),aa.op=.call c->nP E (iC st (iD E aa.op)) c orc=some r->bJ r.ob->(iC st (iD E aa.op)).put d r.aJ=st'->aa.wp cx.P ⟨T,[]⟩ w K Q:=by
    intro c r O lg Y e
    obtain⟨f,args,la,ll⟩:=tk W U O lg Y
    unfold Oper.wp
    rw[la w]
    refine ll.mono ?_
    rintro ly w' ⟨v,rfl,lm,lc⟩
    show K (Act.put ⟨T,[]⟩ aa.dst v) w'
    rw[af]
    exact ld _ _ ⟨m,e▸(U.ext lm).put li lc⟩
   split at o
   ·rename_i r lt
    cases o
    rw[<-W.P]at lt
    obtain⟨v,lx,lc⟩:=Co U lt Y
    exact fin v w m _ _ (lx w (Ext.refl w)) U lc rfl
   ·split at o
    ·rename_i t x O
     split at o
     ·rename_i r lu
      cases o
      rw[<-W.P]at lu
      obtain⟨v,ln,lc⟩:=FF Z lu Y
      exact fin v w m _ _ (ct (by simp only[execOp,O]) (ln w (Ext.refl w))) Z lc rfl
     ·cases o
    ·rename_i c O
     split at o
     ·rename_i r lg
      cases o
      exact lw c r O lg Y rfl
     ·split at o
      ·rename_i r lh
       cases o
       rw[<-W.P]at lh
       obtain⟨v,w',aA,h1,lo,lp⟩:=GZ Z li lh Y
       exact fin v w' aA _ _ h1 lo lp rfl
      ·cases o
    ·split at o
     ·rename_i r lh
      cases o
      rw[<-W.P]at lh
      obtain⟨v,w',aA,h1,lo,lp⟩:=GZ U li lh Y
      exact fin v w' aA _ _ h1 lo lp rfl
     ·cases o
  ·cases o
def zU(E:Env)(st:ae)(aa:Oper)(orc:List aj):Option (ae×List aj×List Prop):=
 match aa.op,orc with
 |.slice _ x none (some _) none,⟨.unit,_⟩::orc'=>pU E (iC st [x]) aa orc'
 |_,_=>pU E st aa orc
theorem Wo{E:Env}(O:br E cx)(h:R cx st T w){aa:Oper}{orc:List aj}{st':ae}{orc':List aj}{ob:List Prop}(o:zU E st aa orc=some (st',orc',ob))(U:bJ ob)
  {K:Act->World->Prop}{Q:Exit->Act->World->Prop}(W:∀Y w',R cx st' Y w'->K ⟨Y,[]⟩ w'):aa.wp cx.P ⟨T,[]⟩ w K Q:=by
 unfold zU at o
 split at o
 ·obtain⟨m,Z⟩:=h
  exact uB O ⟨m,ve Z⟩ o U W
 ·exact uB O h o U W
end Go.Ev
namespace Go.Ev
open Go Go.RowKit
variable [b6]
variable {cx:bB} {m:Nat->Value} {st st':ae} {T:Array Value} {w w':World}
theorem yB{M:Nat->Prop}{k:eT}:∀{xs:List (Option k.el)} {us o:List Value} {i:Nat} {x:k.el},ik w M k xs us o->xs[i]? =some (some x)->∃u,us[i]? =some u/\o[i]? =some u/\kQ w M u k x
 |[],[],[],i,x,_,h=>by simp at h
 |none::xs,_::us,_::o,0,x,_,h=>by simp at h
 |some y::xs,u::us,W::o,0,x,⟨h1,U,_⟩,h=>by
  simp at h
  subst h
  exact⟨u,rfl,by rw[h1];rfl,U⟩
 |none::xs,_::us,_::o,i+1,x,⟨_,h⟩,O=>by
  obtain⟨u,a,b,c⟩:=yB (i:=i) h (by simpa using O)
  exact⟨u,by simpa using a,by simpa using b,c⟩
 |some y::xs,_::us,_::o,i+1,x,⟨_,_,h⟩,O=>by
  obtain⟨u,a,b,c⟩:=yB (i:=i) h (by simpa using O)
  exact⟨u,by simpa using a,by simpa using b,c⟩
theorem yx{M M':Nat->Prop}{k:eT}(W:∀b,b<w.heap.size->¬M b->w'.heap[b]? =w.heap[b]?)(Y:∀b,b<w.heap.size->M' b->M b){x':k.el}{lc:Value}(la:kQ w' M' lc k x'):
  ∀{xs:List (Option k.el)} {us U:List Value} {i:Nat},(∀j v,j≠i->U[j]? =some v->∀b,aO v=some b->w'.heap[b]? =w.heap[b]?)->ik w M k xs us U->ik w' M' k (xs.set i (some x')) (us.set i lc) (U.set i lc)
 |[],[],[],_,_,_=>trivial
 |none::xs,_::us,_::U,0,O,⟨_,h⟩=>⟨rfl,la,qQ W Y (fun u ld b o=>by
   obtain⟨j,Z⟩:=List.getElem?_of_mem ld
   exact O (j+1) u (by omega) (by simpa using Z) b o) h⟩
 |some y::xs,_::us,_::U,0,O,⟨_,_,h⟩=>⟨rfl,la,qQ W Y (fun u ld b o=>by
   obtain⟨j,Z⟩:=List.getElem?_of_mem ld
   exact O (j+1) u (by omega) (by simpa using Z) b o) h⟩
 |none::xs,_::us,_::U,i+1,O,⟨h1,h⟩=>⟨h1,yx W Y la (fun j v Z lf b o=>O (j+1) v (by omega) (by simpa using lf) b o) h⟩
 |some y::xs,u::us,lg::U,i+1,O,⟨h1,lh,h⟩=>⟨h1,If W Y (fun b o=>O 0 lg (by omega) rfl b (by rw[h1];exact o)) lh,yx W Y la (fun j v Z lf b o=>O (j+1) v (by omega) (by simpa using lf) b o) h⟩
theorem Ee{M:Nat->Prop}{k:eT}:∀{xs:List (Option k.el)} {us o:List Value} {i:Nat},ik w M k xs us o->ik w M k (xs.set i none) us (o.set i undef)
 |[],[],[],_,_=>trivial
 |none::xs,_::us,_::o,0,⟨_,h⟩=>⟨rfl,h⟩
 |some y::xs,_::us,_::o,0,⟨_,_,h⟩=>⟨rfl,h⟩
 |none::xs,_::us,_::o,i+1,⟨h1,h⟩=>⟨h1,Ee h⟩
 |some y::xs,u::us,U::o,i+1,⟨h1,O,h⟩=>⟨h1,O,Ee h⟩
theorem qI{us:List Value}{b:Nat}:b∈us.filterMap aO↔∃(j:Nat) (v:Value),us[j]? =some v/\aO v=some b:=by
 rw[List.mem_filterMap]
 constructor
 ·rintro⟨v,O,h⟩
  obtain⟨j,o⟩:=List.getElem?_of_mem O
  exact⟨j,v,o,h⟩
 ·rintro⟨j,v,o,h⟩
  exact⟨v,List.mem_of_getElem? o,h⟩
theorem CS:∀{us:List Value} {i j:Nat} {u v:Value} {b:Nat},(us.filterMap aO).Nodup->us[i]? =some u->us[j]? =some v->i≠j->aO u=some b->aO v≠some b
 |[],i,j,u,v,b,_,h,_,_,_=>by simp at h
 |x::us,0,0,u,v,b,_,_,_,Y,_=>absurd rfl Y
 |x::us,0,j+1,u,v,b,o,O,U,_,W=>by
  simp at O
  subst O
  rw[List.filterMap_cons,W,List.nodup_cons]at o
  intro Z
  exact o.1 (qI.2 ⟨j,v,by simpa using U,Z⟩)
 |x::us,i+1,0,u,v,b,o,O,U,_,W=>by
  simp at U
  subst U
  intro Z
  rw[List.filterMap_cons,Z,List.nodup_cons]at o
  exact o.1 (qI.2 ⟨i,u,by simpa using O,W⟩)
 |x::us,i+1,j+1,u,v,b,o,O,U,Y,W=>by
  have la:(us.filterMap aO).Nodup:=by
   rw[List.filterMap_cons]at o
   split at o
   ·exact o
   ·exact(List.nodup_cons.1 o).2
  exact CS la (by simpa using O) (by simpa using U) (fun e=>Y (by rw[e])) W
theorem DS:∀{us:List Value} {i:Nat} {u:Value},(us.filterMap aO).Nodup->(∀b,aO u=some b->∀j v,j≠i->us[j]? =some v->aO v≠some b)->((us.set i u).filterMap aO).Nodup
 |[],_,_,h,_=>h
 |x::us,0,u,o,W=>by
  have Y:(us.filterMap aO).Nodup:=by
   rw[List.filterMap_cons]at o
   split at o
   ·exact o
   ·exact(List.nodup_cons.1 o).2
  rw[List.set_cons_zero,List.filterMap_cons]
  split
  ·exact Y
  ·rename_i b O
   refine List.nodup_cons.2 ⟨fun Z=>?_,Y⟩
   obtain⟨j,v,h1,la⟩:=qI.1 Z
   exact W b O (j+1) v (by omega) (by simpa using h1) la
 |x::us,i+1,u,o,W=>by
  have Y:(us.filterMap aO).Nodup:=by
   rw[List.filterMap_cons]at o
   split at o
   ·exact o
   ·exact(List.nodup_cons.1 o).2
  have lc:=DS (i:=i) (u:=u) Y (fun b O j v ld U=>W b O (j+1) v (by omega) (by simpa using U))
  rw[List.set_cons_succ,List.filterMap_cons]
  split
  ·exact lc
  ·rename_i b O
   refine List.nodup_cons.2 ⟨fun Z=>?_,lc⟩
   rw[List.mem_filterMap]at Z
   obtain⟨v,U,la⟩:=Z
   rcases List.mem_or_eq_of_mem_set U with U|rfl
   ·rw[List.filterMap_cons,O,List.nodup_cons]at o
    exact o.1 (List.mem_filterMap.2 ⟨v,U,la⟩)
   ·exact W b la 0 x (by omega) rfl O
theorem am.aT(h:am cx m st T w){b e:Nat}{k:eT}{xs:List (Option k.el)}(la:look st.ad b=some (.aT e k xs)):
  ∃g cap us o cur,m b=.tuple (.slice (some ⟨g,0,none⟩) xs.length cap::o).toArray/\(∀U,own (m b) U->cx.bC.heap.size<=U\/cx.X U)/\w.ownsRow 0 e 1 (.slice (some ⟨g,0,none⟩) xs.length cap) xs.length us/\
   w.heap[g]? =some (.cells cur e (0,0))/\xs.length<=cap/\cap<=maxLen/\cur.size=cap/\cur.toList.take xs.length=us/\ik w (ap cx m st.ids) k xs us o/\(g::o.filterMap aO).Nodup:=by
 obtain⟨g,_,lc,n,cap,us,o,h1,W,ld,lf⟩:=h.boxes b _ (aX la)
 rcases W.2 with ⟨O,_⟩|⟨U,lj,cur,O,_,lg,lh,li,Y,Z⟩
 ·cases O
 ·have lk:=O
  simp only[Value.slice.injEq,Option.some.injEq,Addr.mk.injEq,and_true]at O
  obtain⟨rfl,rfl,rfl⟩:=O
  rw[Nat.mul_one]at Y Z
  exact⟨g,cap,us,o,cur,h1,lc,W,lg,lh,li,Y,Z,ld,lf⟩
def ak.sP(b:Nat):ak->ak
 |.osl c=>.osl c
 |.gc c i=>.gc c i
 |s=>bif s.refs b then .any else s
theorem NX{M:Nat->Prop}{b:Nat}{r v2:Value}{us W:List Value}(h1:m b=.tuple (r::us).toArray)(Z:v2=.tuple (r::W).toArray){v:Value}{s:ak}(h:aQ w M m v s):aQ w M (bo m b v2) v (s.sP b):=by
 have o:∀s:ak,aQ w M m v s->aQ w M (bo m b v2) v (bif s.refs b then .any else s):=by
  intro s la
  cases lc:s.refs b with
  |true=>trivial
  |false=>exact yv lc la
 cases s with
 |osl c=>
  by_cases e:c=b
  ·subst e
   obtain⟨U,O⟩:=h
   refine⟨W,?_⟩
   rw[b9,Z]
   rw[h1]at O
   simp only[Value.tuple.injEq,Array.mk.injEq,List.cons.injEq]at O
   rw[O.1]
  ·obtain⟨U,O⟩:=h
   exact⟨U,by rw[cN _ _ e];exact O⟩
 |gc c i=>
  by_cases e:c=b
  ·subst e
   obtain⟨g,n,cap,U,O,Y⟩:=h
   refine⟨g,n,cap,W,?_,Y⟩
   rw[b9,Z]
   rw[h1]at O
   simp only[Value.tuple.injEq,Array.mk.injEq,List.cons.injEq]at O
   rw[O.1]
  ·obtain⟨g,n,cap,U,O,Y⟩:=h
   exact⟨g,n,cap,U,by rw[cN _ _ e];exact O,Y⟩
 |any=>exact o _ h
 |undef=>exact o _ h
 |val t x=>exact o _ h
 |dP l=>exact o _ h
 |gn l=>exact o _ h
 |ptr a aa=>exact o _ h
 |fw a=>exact o _ h
 |vptr t x=>exact o _ h
 |row r=>exact o _ h
 |dV r i aa z=>exact o _ h
 |clos f ld=>exact o _ h
 |iter a=>exact o _ h
 |dE a p=>exact o _ h
 |sub a i=>exact o _ h
 |bX f b=>exact o _ h
 |dW b i aa s=>exact o _ h
 |fD b i j aa s=>exact o _ h
 |af n=>exact o _ h
 |eH l=>exact o _ h
def ae.ia(st:ae)(b c:Nat)(c2:bL):ae:=
 {ab:=st.ab.map fun p=>(p.1,p.2.sP b),ad:=(b,c2)::((del (del st.ad b) c).map fun p=>(p.1,p.2.map (ak.sP b))),rw:=st.rw}
theorem am.ia(h:am cx m st T w){b c:Nat}{lM lN c2:bL}(lF:(b,lM)∈st.ad)(lG:(c,lN)∈st.ad)(lY:b<cx.n){r v2:Value}{us lO:List Value}(h1:m b=.tuple (r::us).toArray)(lP:v2=.tuple (r::lO).toArray){g:Nat}(lp:Touch m w b w')
  (lx:∀o,own v2 o->own (m b) o\/own (m c) o)(lQ:iR v2 g c2)(lR:ig w' (ap cx (bo m b v2) (st.ia b c c2).ids) (bo m b v2) v2 g c2):am cx (bo m b v2) (st.ia b c c2) T w':=by
 have ld:b∈st.ids:=List.mem_append.2 (.inl (List.mem_map.2 ⟨_,lF,rfl⟩))
 have ly:c∈st.ids:=List.mem_append.2 (.inl (List.mem_map.2 ⟨_,lG,rfl⟩))
 have lq:∀c',(b,c')∉st.rw:=fun c' O=>(List.nodup_append.1 h.keys).2.2 b (List.mem_map.2 ⟨_,lF,rfl⟩) b (List.mem_map.2 ⟨_,O,rfl⟩) rfl
 have lS:∀c',(c,c')∉st.rw:=fun c' O=>(List.nodup_append.1 h.keys).2.2 c (List.mem_map.2 ⟨_,lG,rfl⟩) c (List.mem_map.2 ⟨_,O,rfl⟩) rfl
 have lz:∀i,i∈(st.ia b c c2).ids->i∈st.ids/\(i=b\/(i≠b/\i≠c)):=by
  intro i Z
  rcases List.mem_append.1 Z with Z|Z
  ·obtain⟨⟨j,s⟩,Y,rfl⟩:=List.mem_map.1 Z
   rcases List.mem_cons.1 Y with Y|Y
   ·cases Y;exact⟨ld,.inl rfl⟩
   ·obtain⟨⟨lj,lr⟩,ln,lg⟩:=List.mem_map.1 Y
    cases lg
    obtain⟨lh,lt⟩:=cP.1 ln
    obtain⟨lk,ll⟩:=cP.1 lh
    exact⟨List.mem_append.2 (.inl (List.mem_map.2 ⟨_,lk,rfl⟩)),.inr ⟨ll,lt⟩⟩
  ·obtain⟨⟨j,s⟩,Y,rfl⟩:=List.mem_map.1 Z
   exact⟨List.mem_append.2 (.inr (List.mem_map.2 ⟨_,Y,rfl⟩)),.inr ⟨fun e=>lq s (by rw[<-e];exact Y),fun e=>lS s (by rw[<-e];exact Y)⟩⟩
 have lc:∀{i:Nat},i≠b->bo m b v2 i=m i:=fun lu=>cN _ _ lu
 have lA:∀o,o<w.heap.size->¬ap cx m st.ids o->w'.heap[o]? =w.heap[o]? :=fun o la lT=>lp.block o la fun e=>lT (.inr ⟨b,ld,e⟩)
 have lB:∀o,o<w.heap.size->ap cx (bo m b v2) (st.ia b c c2).ids o->ap cx m st.ids o:=by
  rintro o _ (lU|⟨i,Z,W⟩)
  ·exact .inl lU
  ·obtain⟨lh,lt⟩:=lz i Z
   by_cases e:i=b
   ·subst e
    rw[b9]at W
    rcases lx o W with O|O
    ·exact .inr ⟨i,ld,O⟩
    ·exact .inr ⟨c,ly,O⟩
   ·rw[lc e]at W
    exact .inr ⟨i,lh,W⟩
 have lH:∀v s,aQ w (ap cx m st.ids) m v s->aQ w' (ap cx (bo m b v2) (st.ia b c c2).ids) (bo m b v2) v (s.sP b):=fun v s lm=>NX h1 lP (fV lA lB lm)
 refine{size:=h.size,frame:=h.AZ ld lp,outer:=h.outer,cI:=fun i aJ Z=>?_,boxes:=fun j c' U=>?_,rows:=fun j c' U=>?_,apart:=fun i j Z U lu o W la=>?_,keys:=?_,fixed:=fun j c' U lV lC=>?_,kept:=fun j c' U lC hk=>?_}
 rotate_right
 ·rw[lc (fun e=>lq c' (by rw[<-e];exact U))]
  exact h.kept j c' U lC hk
 ·obtain⟨⟨j,s⟩,Y,lg⟩:=List.mem_map.1 Z
  cases lg
  obtain⟨v,lv,a2⟩:=h.cI j s Y
  exact⟨v,lv,lH v s a2⟩
 ·rcases List.mem_cons.1 U with U|U
  ·cases U
   rw[b9]
   refine⟨g,lQ,fun o la=>?_,lR⟩
   rcases lx o la with O|O
   ·exact(h.lt ld O).2
   ·exact(h.lt ly O).2
  ·obtain⟨⟨lj,lr⟩,ln,lg⟩:=List.mem_map.1 U
   cases lg
   obtain⟨lh,lt⟩:=cP.1 ln
   obtain⟨lk,ll⟩:=cP.1 lh
   obtain⟨o,lo,lD,lE⟩:=h.boxes lj lr lk
   rw[lc ll]
   have lf:lj∈st.ids:=List.mem_append.2 (.inl (List.mem_map.2 ⟨_,lk,rfl⟩))
   exact⟨o,kU.2 lo,lD,kj lA lB (ix lo) (fun lI lJ=>lp.block lI (h.lt lf lJ).1 fun e=>h.apart b lj ld lf (fun e=>ll e.symm) lI e lJ) lH lE⟩
 ·obtain⟨cells,lo,lD,lE⟩:=h.rows j c' U
  have lw:j≠b:=fun e=>lq c' (by rw[<-e];exact U)
  have lf:j∈st.ids:=List.mem_append.2 (.inr (List.mem_map.2 ⟨_,U,rfl⟩))
  rw[lc lw]
  refine⟨cells,⟨lo.1,?_⟩,lD,dx (fun _ _=>cB lA lB c'.t) lE⟩
  rcases lo.2 with O|⟨o,cap,cur,lm,lW,O,rest⟩
  ·exact .inl O
  ·have W:own (m j) o:=by rw[lm];exact hq rfl
   exact .inr ⟨o,cap,cur,lm,lW,by rw[lp.block o (h.lt lf W).1 fun e=>h.apart b j ld lf (fun e=>lw e.symm) o e W];exact O,rest⟩
 ·obtain⟨lv,a2⟩:=lz i Z
  obtain⟨lK,li⟩:=lz j U
  have key:∀{j:Nat},j∈st.ids->j≠b->j≠c->own v2 o->own (m j) o->False:=by
   intro j lf lw lX lm W
   rcases lx o lm with O|O
   ·exact h.apart b j ld lf (fun e=>lw e.symm) o O W
   ·exact h.apart c j ly lf (fun e=>lX e.symm) o O W
  rcases a2 with rfl|⟨a2,a3⟩
  ·rcases li with rfl|⟨li,lL⟩
   ·exact lu rfl
   ·rw[b9]at W
    rw[lc li]at la
    exact key lK li lL W la
  ·rcases li with rfl|⟨li,lL⟩
   ·rw[b9]at la
    rw[lc a2]at W
    exact key lv a2 a3 la W
   ·rw[lc a2]at W
    rw[lc li]at la
    exact h.apart i j lv lK lu o W la
 ·have hk:(st.ia b c c2).ids=b::(((del (del st.ad b) c).map (·.1))++st.rw.map (·.1)):=by
   show(b::((del (del st.ad b) c).map fun p=>(p.1,p.2.map (ak.sP b))).map (·.1))++st.rw.map (·.1)=_
   simp[List.map_map,Function.comp_def]
  rw[hk]
  refine List.nodup_cons.2 ⟨fun O=>?_,?_⟩
  ·rcases List.mem_append.1 O with O|O
   ·obtain⟨⟨j,s⟩,Y,e⟩:=List.mem_map.1 O
    exact(cP.1 (cP.1 Y).1).2 e
   ·obtain⟨⟨j,s⟩,Y,e⟩:=List.mem_map.1 O
    exact lq s (by rw[<-e];exact Y)
  ·rw[mJ,mJ]
   exact h.keys.sublist (List.Sublist.append (List.filter_sublist.trans List.filter_sublist) (List.Sublist.refl _))
 ·rcases List.mem_cons.1 U with U|U
  ·cases U;omega
  ·obtain⟨⟨lj,lr⟩,ln,lg⟩:=List.mem_map.1 U
   cases lg
   obtain⟨lh,lt⟩:=cP.1 ln
   obtain⟨lk,ll⟩:=cP.1 lh
   rw[lc ll]
   exact h.fixed lj lr lk (ni.symm.trans lV) lC
def ak.tA(r:Nat):ak->ak
 |.row b=>bif Nat.beq b r then .osl r else .row b
 |s=>bif s.refs r then .any else s
def ae.kI(st:ae)(r:Nat)(c2:bL):ae:=
 {ab:=st.ab.map fun p=>(p.1,p.2.tA r),ad:=(r,c2)::(st.ad.map fun p=>(p.1,p.2.map (ak.tA r))),rw:=del st.rw r}
theorem PF{M:Nat->Prop}{b:Nat}{v2:Value}{U:List Value}(W:v2=.tuple (m b::U).toArray){v:Value}{s:ak}(h:aQ w M m v s):aQ w M (bo m b v2) v (s.tA b):=by
 have o:∀s:ak,aQ w M m v s->aQ w M (bo m b v2) v (bif s.refs b then .any else s):=by
  intro s Y
  cases O:s.refs b with
  |true=>trivial
  |false=>exact yv O Y
 cases s with
 |row r=>
  show aQ _ _ _ _ (bif Nat.beq r b then .osl b else .row r)
  cases O:Nat.beq r b with
  |true=>
   have e:=Nat.eq_of_beq_eq_true O
   subst e
   have Z:v=m r:=h
   exact⟨U,by rw[b9,W,Z]⟩
  |false=>exact yv O h
 |osl c=>exact o _ h
 |gc c i=>exact o _ h
 |any=>exact o _ h
 |undef=>exact o _ h
 |val t x=>exact o _ h
 |dP l=>exact o _ h
 |gn l=>exact o _ h
 |ptr a aa=>exact o _ h
 |fw a=>exact o _ h
 |vptr t x=>exact o _ h
 |dV r i aa z=>exact o _ h
 |clos f la=>exact o _ h
 |iter a=>exact o _ h
 |dE a p=>exact o _ h
 |sub a i=>exact o _ h
 |bX f b=>exact o _ h
 |dW b i aa s=>exact o _ h
 |fD b i j aa s=>exact o _ h
 |af n=>exact o _ h
 |eH l=>exact o _ h
theorem Jy{M:Nat->Prop}{k v:ag}:∀{n:Nat} {cells:List Value},bD (aF w M (.map k v)) cells (List.replicate n none)->cells=List.replicate n (.map none)
 |0,_,h=>h
 |n+1,_,⟨c1,c2,e,h1,o⟩=>by
  have h1:c1=[Value.map none]:=h1
  rw[e,h1,Jy o]
  rfl
theorem KJ{M:Nat->Prop}{k v:ag}:∀(n:Nat),ik w M (.mp k v) ((List.replicate n none).map some) (List.replicate n (.map none)) (List.replicate n (.map none))
 |0=>trivial
 |n+1=>⟨rfl,rfl,KJ n⟩
theorem am.kI(h:am cx m st T w){r e n:Nat}{k v:ag}(lm:(r,(⟨e,.map k v,List.replicate n none⟩:cw))∈st.rw)(lQ:0<n)(lR:r<cx.n):∃aA,am cx aA (st.kI r (.aT e (.mp k v) ((List.replicate n none).map some))) T w:=by
 obtain⟨cells,li,lF,lG⟩:=h.rows r _ lm
 have lH:r∈st.ids:=List.mem_append.2 (.inr (List.mem_map.2 ⟨_,lm,rfl⟩))
 have lI:=Jy lG
 subst lI
 have lz:List.length (α:=(ag.map k v).el) (List.replicate n none)=n:=List.length_replicate
 simp only at li lz
 rw[lz]at li
 have lJ:=li
 rcases li.2 with ⟨_,lS⟩|⟨g,cap,cur,lj,lT,W,rest⟩
 ·omega
 generalize lK:bL.aT e (.mp k v) ((List.replicate n none).map some)=c2
 have ld:∀{i:Nat} {v2:Value},i≠r->bo m r v2 i=m i:=fun ln=>cN _ _ ln
 obtain⟨v2,lk⟩:∃v2,v2=Value.tuple (m r::List.replicate n (.map none)).toArray:=⟨_,rfl⟩
 have lA:∀o,own v2 o↔own (m r) o:=by
  intro o
  rw[lk,dj,lj]
  constructor
  ·rintro(W|⟨u,lf,lB⟩)
   ·exact hq W
   ·rw[List.eq_of_mem_replicate lf]at lB;cases lB
  ·intro W;exact .inl W
 have lo:∀c',(r,c')∉st.ad:=fun c' W=>(List.nodup_append.1 h.keys).2.2 r (List.mem_map.2 ⟨_,W,rfl⟩) r (List.mem_map.2 ⟨_,lm,rfl⟩) rfl
 have lp:∀i,i∈(st.kI r c2).ids->i∈st.ids:=by
  intro i Y
  rcases List.mem_append.1 Y with Y|Y
  ·obtain⟨⟨j,s⟩,O,rfl⟩:=List.mem_map.1 Y
   rcases List.mem_cons.1 O with O|O
   ·cases O;exact lH
   ·obtain⟨⟨lg,lc⟩,Z,la⟩:=List.mem_map.1 O
    cases la
    exact List.mem_append.2 (.inl (List.mem_map.2 ⟨_,Z,rfl⟩))
  ·obtain⟨⟨j,s⟩,O,rfl⟩:=List.mem_map.1 Y
   exact List.mem_append.2 (.inr (List.mem_map.2 ⟨_,(cP.1 O).1,rfl⟩))
 have lq:∀i o,own (bo m r v2 i) o↔own (m i) o:=by
  intro i o
  by_cases lC:i=r
  ·subst lC;rw[b9];exact lA o
  ·rw[ld lC]
 have lr:∀o,o<w.heap.size->¬ap cx m st.ids o->w.heap[o]? =w.heap[o]? :=fun _ _ _=>rfl
 have lt:∀o,o<w.heap.size->ap cx (bo m r v2) (st.kI r c2).ids o->ap cx m st.ids o:=by
  rintro o _ (lL|⟨i,Y,lu⟩)
  ·exact .inl lL
  ·exact .inr ⟨i,lp i Y,(lq i o).1 lu⟩
 have lM:∀j c',(j,c')∈(st.kI r c2).rw->cx.n<=j->eM<=j->bo m r v2 j=cx.m0 j:=by
  intro j c' U lv hk
  obtain⟨O,lh⟩:=cP.1 U
  rw[ld lh]
  exact h.kept j c' O lv hk
 have lD:∀u s,aQ w (ap cx m st.ids) m u s->aQ w (ap cx (bo m r v2) (st.kI r c2).ids) (bo m r v2) u (s.tA r):=fun u s lf=>PF lk (fV lr lt lf)
 refine⟨bo m r v2,{size:=h.size,frame:=h.frame,outer:=h.outer,cI:=fun i aJ Y=>?_,boxes:=fun j c' U=>?_,rows:=fun j c' U=>?_,apart:=fun i j Y U ln o lu lw=>h.apart i j (lp i Y) (lp j U) ln o ((lq i o).1 lu) ((lq j o).1 lw),keys:=?_,fixed:=fun j c' U lN lv=>?_,kept:=lM}⟩
 ·obtain⟨⟨j,s⟩,O,la⟩:=List.mem_map.1 Y
  cases la
  obtain⟨u,lO,a2⟩:=h.cI j s O
  exact⟨u,lO,lD u s a2⟩
 ·rcases List.mem_cons.1 U with U|U
  ·cases U
   rw[b9,<-lK,lk,lj]
   have lP:((List.replicate n (none:Option (List (k.el×v.el)))).map some).length=n:=by simp
   refine⟨g,⟨n,cap,_,rfl⟩,fun o lw=>lF o ((lA o).1 (by rw[lk,lj];exact lw)),n,cap,List.replicate n (.map none),List.replicate n (.map none),rfl,?_,KJ n,?_⟩
   ·have lE:=lJ
    rw[lj]at lE
    show World.ownsRow w 0 e 1 _ (List.length ((List.replicate n none).map some)) _
    rw[lP]
    exact lE
   ·have:(List.replicate n (Value.map none)).filterMap aO=[]:=by
     rw[List.filterMap_eq_nil_iff]
     intro u lf
     rw[List.eq_of_mem_replicate lf]
     rfl
    rw[this]
    simp
  ·obtain⟨⟨lg,lc⟩,Z,la⟩:=List.mem_map.1 U
   cases la
   obtain⟨o,ll,lx,ly⟩:=h.boxes lg lc Z
   have lh:lg≠r:=fun e=>lo lc (by rw[<-e];exact Z)
   rw[ld lh]
   exact⟨o,kU.2 ll,lx,kj lr lt (ix ll) (fun _ _=>rfl) lD ly⟩
 ·obtain⟨O,lh⟩:=cP.1 U
  obtain⟨cells,ll,lx,ly⟩:=h.rows j c' O
  rw[ld lh]
  exact⟨cells,ll,lx,dx (fun _ _=>cB lr lt c'.t) ly⟩
 ·have hk:(st.kI r c2).ids=r::(st.ad.map (·.1)++(del st.rw r).map (·.1)):=by
   show(r::(st.ad.map fun p=>(p.1,p.2.map (ak.tA r))).map (·.1))++(del st.rw r).map (·.1)=_
   simp[List.map_map,Function.comp_def]
  rw[hk]
  refine List.nodup_cons.2 ⟨fun W=>?_,?_⟩
  ·rcases List.mem_append.1 W with W|W
   ·obtain⟨⟨j,s⟩,O,e⟩:=List.mem_map.1 W
    exact lo s (by rw[<-e];exact O)
   ·obtain⟨⟨j,s⟩,O,e⟩:=List.mem_map.1 W
    exact(cP.1 O).2 e
  ·rw[mJ]
   exact h.keys.sublist (List.Sublist.append (List.Sublist.refl _) List.filter_sublist)
 ·rcases List.mem_cons.1 U with U|U
  ·cases U;omega
  ·obtain⟨⟨lg,lc⟩,Z,la⟩:=List.mem_map.1 U
   cases la
   rw[ld (fun e=>lo lc (by rw[<-e];exact Z))]
   exact h.fixed lg lc Z (ni.symm.trans lN) lv
theorem am.Wf(h:am cx m st T w){r e n:Nat}{k v:ag}{xs:List (ag.map k v).el}(o:(r,(⟨e,.map k v,xs⟩:cw))∈st.rw)(O:xs=List.replicate n (show(ag.map k v).el from none))(U:0<n)(W:r<cx.n):
  ∃aA,am cx aA (st.kI r (.aT e (.mp k v) (show List (Option (eT.mp k v).el)from List.map some xs))) T w:=by
 subst O
 exact h.kI o U W
theorem JH(Z:am cx m st T w){b e:Nat}{n:Int}{k:eT}{xs:List (Option k.el)}{y:k.el}(ld:look st.ad b=some (.aT e k xs))(lf:xs[n.toNat]? =some (some y)){x:Operand}(lg:aP st x=some (.gc b n))
  {t:TypeId}{u:ag}(lh:ty cx.P t=some u)(li:u.cells=1)(lj:u.agg=false):
  ∃g cap us o,m b=.tuple (.slice (some ⟨g,0,none⟩) xs.length cap::o).toArray/\(g::o.filterMap aO).Nodup/\ik w (ap cx m st.ids) k xs us o/\w.ownsRow 0 e 1 (.slice (some ⟨g,0,none⟩) xs.length cap) xs.length us/\
   ∃v,us[n.toNat]? =some v/\o[n.toNat]? =some v/\kQ w (ap cx m st.ids) v k y/\(Instr.loadAt t (Act.eval ⟨T,[]⟩ x)).run cx.P w=.ok v w:=by
 obtain⟨g,cap,us,o,cur,la,_,lk,ll,lu,lv,lw,lm,lc,ln⟩:=Z.aT ld
 obtain⟨g2,lx,ly,lz,U,a2⟩:=aW Z lg
 rw[la]at U
 have:g2=g:=by
  simp only[Value.tuple.injEq,Array.mk.injEq,List.cons.injEq,Value.slice.injEq,Option.some.injEq,Addr.mk.injEq]at U
  exact U.1.1.1.symm
 subst this
 obtain⟨v,O,lo,lp⟩:=yB lc lf
 refine⟨g2,cap,us,o,la,ln,lc,lk,v,O,lo,lp,?_⟩
 have lq:Instr.loadAt t (Act.eval ⟨T,[]⟩ x)=loadVar t ⟨g2,n.toNat,none⟩:=by rw[a2];rfl
 rw[lq]
 obtain⟨v',lr,W⟩:=jS (c:=[v]) lh ll (fun j v2 Y=>by
  have lt:j=0:=by have:=(List.getElem?_eq_some_iff.1 Y).1;simpa using this
  subst lt
  simp at Y
  subst Y
  rw[<-lm,List.getElem?_take]at O
  split at O
  ·simpa using O
  ·cases O) (by rw[li];rfl) (fun _=>by omega)
 rw[lj]at W
 simp at W
 subst W
 exact lr w (Ext.refl w)
theorem Jb(U:am cx m st T w){b e:Nat}{n:Int}{k:eT}{xs:List (Option k.el)}{y:k.el}(lc:look st.ad b=some (.aT e k xs))(ld:xs[n.toNat]? =some (some y)){x:Operand}(lf:aP st x=some (.sub b n)):
  ∃g cap us o,m b=.tuple (.slice (some ⟨g,0,none⟩) xs.length cap::o).toArray/\(g::o.filterMap aO).Nodup/\ik w (ap cx m st.ids) k xs us o/\w.ownsRow 0 e 1 (.slice (some ⟨g,0,none⟩) xs.length cap) xs.length us/\
   us[n.toNat]? =some (Act.eval ⟨T,[]⟩ x)/\o[n.toNat]? =some (Act.eval ⟨T,[]⟩ x)/\kQ w (ap cx m st.ids) (Act.eval ⟨T,[]⟩ x) k y:=by
 obtain⟨g,cap,us,o,cur,W,_,lg,lk,ll,lm,ln,lo,Y,lh⟩:=U.aT lc
 obtain⟨cY,Z,O,a2⟩:=aW U lf
 rw[W]at O
 have:Z=o:=by
  simp only[Value.tuple.injEq,Array.mk.injEq,List.cons.injEq]at O
  exact O.2.symm
 subst this
 obtain⟨v,li,la,lj⟩:=yB Y ld
 rw[a2]at la
 cases la
 exact⟨g,cap,us,Z,W,lh,Y,lg,li,a2,lj⟩
def Dy(E:Env)(st:ae)(aa:Oper)(orc:List aj):Option (ae×List aj×List Prop):=
 match aa.dst with
 |some d=>match Nat.blt d E.n with
  |true=>match aa.op with
   |.indexAddr t x i=>match aP st x,eG (aP st i),ty E.P t with
    |some (.osl b),some n,some (.ab u)=>match look st.ad b,Nat.beq u.cells 1 with
     |some (.aT _ _ xs),true=>some (st.put d (.gc b n),orc,[0<=n/\n<(xs.length:Int)])
     |_,_=>none
    |_,_,_=>none
   |.load t x=>match aP st x,ty E.P t with
    |some (.gc b n),some u=>match look st.ad b,Nat.beq u.cells 1&&!u.agg,orc with
     |some (.aT e (.mp k v) xs),true,⟨.unit,_⟩::a::orc'=>match a.as (.map k v),Nat.blt b E.n with
      |some y,true=>some ((st.ia b b (.aT e (.mp k v) (xs.set n.toNat none))).put d (.val (.map k v) y),orc',[xs[n.toNat]? =some (some (show(eT.mp k v).el from y))])
      |_,_=>none
     |some (.aT _ (.mp k v) xs),true,a::orc'=>match a.as (.map k v)with
      |some y=>some (st.put d (.sub b n),orc',[xs[n.toNat]? =some (some (show(eT.mp k v).el from y))])
      |none=>none
     |_,_,_=>none
    |_,_=>none
   |.call {callee:=.builtin .len,args:=args,argTypes:=O}=>match args.toList,O.toList with
    |[x],[t]=>match aP st x,ty E.P t with
     |some (.sub b n),some (.map _ _)=>match look st.ad b,orc with
      |some (.aT _ (.mp k v) xs),a::orc'=>match a.as (.map k v)with
       |some y=>some (st.put d (.val (.int .i64) ((Option.getD (α:=List (k.el×v.el)) y []).length:Int)),orc',[xs[n.toNat]? =some (some (show(eT.mp k v).el from y))])
       |none=>none
      |_,_=>none
     |_,_=>none
    |_,_=>none
   |.makeSlice _ _ _=>match orc with
    |⟨.unit,_⟩::orc'=>match pU E st aa orc' with
     |some (st1,U,ob)=>match look st1.rw d,Nat.beq d d with
      |some ⟨e,.map k v,xs⟩,true=>some (st1.kI d (.aT e (.mp k v) (show List (Option (eT.mp k v).el)from List.map some xs)),U,(xs=List.replicate xs.length (show(ag.map k v).el from none)/\0<xs.length)::ob)
      |_,_=>none
     |none=>none
    |_=>none
   |_=>none
  |false=>none
 |none=>match aa.op with
  |.mapUpdate t x W Y=>match aP st x,E.P.underlying t,dA st W,dA st Y with
   |some (.sub b n),some (.map o Z),some kv,some vv=>match look st.ad b,ty E.P o,ty E.P Z,orc with
    |some (.aT e (.mp k v) xs),some la,some lc,a::orc'=>match kv.as k,vv.as v,k.beq la&&(v.beq lc&&(k.flat&&eD E.P 16 o)),a.as (.map k v)with
     |some y,some z,true,some (some ps)=>some (st.db b (.aT e (.mp k v) (xs.set n.toNat (some (show(eT.mp k v).el from some (cb (aD k) ps y z))))),orc',[xs[n.toNat]? =some (some (show(eT.mp k v).el from some ps))])
     |_,_,_,_=>none
    |_,_,_,_=>none
   |_,_,_,_=>none
  |.store t x y=>match aP st x,aP st y,ty E.P t with
   |some (.gc b n),some (.iter c),some u=>match look st.ad b,look st.ad c,Nat.beq u.cells 1&&(!u.agg&&Nat.blt b E.n)with
    |some (.aT e (.mp k v) xs),some (.mp k' v' ps),true=>match(⟨.map k' v',some ps⟩:aj).as (.map k v)with
     |some y=>some (st.ia b c (.aT e (.mp k v) (xs.set n.toNat (some (show(eT.mp k v).el from y)))),orc,[0<=n/\n<(xs.length:Int)])
     |none=>none
    |_,_,_=>none
   |_,_,_=>none
  |_=>none
theorem TJ{E:Env}(lu:br E cx)(h:R cx st T w){aa:Oper}{orc:List aj}{st':ae}{orc':List aj}{ob:List Prop}(o:Dy E st aa orc=some (st',orc',ob))(ly:bJ ob)
  {K:Act->World->Prop}{Q:Exit->Act->World->Prop}(lG:∀lV w',R cx st' lV w'->K ⟨lV,[]⟩ w'):aa.wp cx.P ⟨T,[]⟩ w K Q:=by
 obtain⟨m,Y⟩:=h
 unfold Dy at o
 split at o
 ·rename_i d af
  split at o
  case h_2=>cases o
  rename_i aS
  have lI:d<cx.n:=by rw[lu.n];exact cG aS
  have fin:∀(v:Value) (w':World) (aA:Nat->Value) (lW:ae) (aJ:ak),(execOp (Act.eval ⟨T,[]⟩) aa).run cx.P w=.ok (.value v) w'->am cx aA lW T w'->aQ w' (ap cx aA lW.ids) aA v aJ->lW.put d aJ=st'->aa.wp cx.P ⟨T,[]⟩ w K Q:=by
   intro v w' aA lW aJ lC lJ l5 e
   refine gT lC ?_
   rw[af]
   exact lG _ _ ⟨aA,e▸lJ.put lI l5⟩
  split at o
  ·rename_i t x i ll
   split at o
   case h_2=>cases o
   rename_i b n u lh Z li
   split at o
   case h_2=>cases o
   rename_i e k xs ld lf
   cases o
   rw[<-lu.P]at li
   have lf:=Nat.eq_of_beq_eq_true lf
   obtain⟨g,cap,us,lc,cur,la,_⟩:=Y.aT ld
   obtain⟨aU,lg⟩:=aW Y lh
   rw[la]at lg
   have lz:Act.eval ⟨T,[]⟩ x=.slice (some ⟨g,0,none⟩) xs.length cap:=by
    simp only[Value.tuple.injEq,Array.mk.injEq,List.cons.injEq]at lg
    exact lg.1.symm
   obtain⟨bD,hk⟩:=fN Y Z
   obtain⟨_,_,_,bE,d2,aV,aY⟩:=dn li
   refine fin (.pointer (some ⟨g,n.toNat,none⟩)) w m _ (.gc b n) (ct (s:=Instr.indexAt t (Act.eval ⟨T,[]⟩ x) (Act.eval ⟨T,[]⟩ i)) (by simp only[execOp,ll]) ?_) Y ⟨g,xs.length,cap,lc,la,rfl⟩ rfl
   have l6:(⟨g,0,none⟩:Addr).add (n.toNat*1)=⟨g,n.toNat,none⟩:=by rw[gL];simp
   rw[lz,hk]
   simp only[Instr.indexAt,asIntOf,Sem.run_bind,Sem.run_pure,Result.andThen_ok,run_underlying aV]
   rw[if_pos ly.1]
   simp only[Sem.run_bind,ff aY,Result.andThen_ok,Sem.run_pure,lf,l6]
  ·rename_i t x ll
   split at o
   case h_2=>cases o
   rename_i b n u lh li
   rw[<-lu.P]at li
   split at o
   ·rename_i e k v xs aZ a lX ld lf
    simp only[Bool.and_eq_true,Bool.not_eq_true']at lf
    split at o
    case h_2=>cases o
    rename_i y lY lK
    cases o
    have lK:b<cx.n:=by rw[lu.n];exact cG lK
    obtain⟨g,cap,us,lc,la,lg,lz,lH,l7,l8,lm,lj,lv⟩:=JH Y ld ly.1 lh li (Nat.eq_of_beq_eq_true lf.1) lf.2
    have lp:=aX ld
    have lk:b∈st.ids:=List.mem_append.2 (.inl (List.mem_map.2 ⟨_,lp,rfl⟩))
    have lL:∀u∈lc.set n.toNat undef,u∈lc\/u=undef:=fun u W=>List.mem_or_eq_of_mem_set W
    have lA:∀U,own (.tuple (.slice (some ⟨g,0,none⟩) xs.length cap::lc.set n.toNat undef).toArray) U->own (m b) U\/own (m b) U:=by
     intro U O
     rw[la]
     rcases dj.1 O with O|⟨u,W,O⟩
     ·exact .inl (dj.2 (.inl O))
     ·rcases lL u W with W|rfl
      ·exact .inl (dj.2 (.inr ⟨u,W,O⟩))
      ·cases O
    obtain⟨v2,lq⟩:∃v2,v2=Value.tuple (.slice (some ⟨g,0,none⟩) xs.length cap::lc.set n.toNat undef).toArray:=⟨_,rfl⟩
    rw[<-lq]at lA
    have lB:∀i,i∈(st.ia b b (.aT e (.mp k v) (xs.set n.toNat none))).ids->i∈st.ids:=by
     intro i Z
     rcases List.mem_append.1 Z with Z|Z
     ·obtain⟨⟨j,s⟩,ln,rfl⟩:=List.mem_map.1 Z
      rcases List.mem_cons.1 ln with ln|ln
      ·cases ln;exact lk
      ·obtain⟨⟨a0,a1⟩,l9,ab⟩:=List.mem_map.1 ln
       cases ab
       exact List.mem_append.2 (.inl (List.mem_map.2 ⟨_,(cP.1 (cP.1 l9).1).1,rfl⟩))
     ·exact List.mem_append.2 (.inr Z)
    have lD:∀U,U<w.heap.size->ap cx (bo m b v2) (st.ia b b (.aT e (.mp k v) (xs.set n.toNat none))).ids U->ap cx m st.ids U:=by
     intro U _ O
     rcases O with lM|⟨i,Z,O⟩
     ·exact .inl lM
     ·by_cases lw:i=b
      ·subst lw
       rw[b9]at O
       exact .inr ⟨i,lk,(lA U O).elim id id⟩
      ·rw[cN _ _ lw]at O
       exact .inr ⟨i,lB i Z,O⟩
    have ad:=Y.ia (c2:=.aT e (.mp k v) (xs.set n.toNat none)) lp lp lK la lq ⟨⟨rfl,rfl,rfl,Nat.le_refl _,fun _=>Nat.le_refl _⟩,fun _ _ _=>rfl⟩ lA ⟨xs.length,cap,_,lq⟩
     ⟨xs.length,cap,us,lc.set n.toNat undef,lq,by rw[List.length_set];exact lH,qQ (fun _ _ _=>rfl) lD (fun _ _ _ _=>rfl) (Ee lz),by
      have lJ:=DS (i:=n.toNat) (u:=undef) (List.nodup_cons.1 lg).2 (fun b ld=>by cases ld)
      refine List.nodup_cons.2 ⟨fun lB=>?_,lJ⟩
      obtain⟨u,W,O⟩:=List.mem_filterMap.1 lB
      rcases lL u W with W|rfl
      ·exact(List.nodup_cons.1 lg).1 (List.mem_filterMap.2 ⟨u,W,O⟩)
      ·cases O⟩
    refine fin l7 w _ _ (.val (.map k v) y) (ct (by simp only[execOp,ll]) lv) ad ?_ rfl
    refine(bZ (t:=.map k v) rfl).2 ?_
    match y,lj with
    |none,lj=>
     have lj:l7=.map none:=lj
     show[l7]=[Value.map none]
     rw[lj]
    |some ps,⟨r,es,clock,lo,h1,lN,lO,lE⟩=>
     have aE:own (m b) r:=by rw[la];exact dj.2 (.inr ⟨_,List.mem_of_getElem? lm,by rw[lo];rfl⟩)
     refine⟨r,es,clock,by rw[lo],h1,?_,lN,lO,gH (fun _ _ h=>dh (fun _ _ _=>rfl) lD h) (fun _ _ h=>dh (fun _ _ _=>rfl) lD h) lE⟩
     rintro(lM|⟨i,Z,O⟩)
     ·have a3:=Y.outer r lM
      rcases(Y.lt lk aE).2 with aT|aT
      ·omega
      ·exact a3.2 aT
     ·by_cases lw:i=b
      ·subst lw
       rw[b9,lq]at O
       rcases dj.1 O with O|⟨u,W,O⟩
       ·cases O
        exact(List.nodup_cons.1 lg).1 (qI.2 ⟨_,_,lm,by rw[lo];rfl⟩)
       ·obtain⟨j,lx⟩:=List.getElem?_of_mem W
        rw[List.getElem?_set]at lx
        split at lx
        ·split at lx
         ·cases lx;cases O
         ·cases lx
        ·rename_i lF
         exact CS (List.nodup_cons.1 lg).2 lm lx lF (by rw[lo];rfl) O
      ·rw[cN _ _ lw]at O
       exact Y.apart b i lk (lB i Z) (fun e=>lw e.symm) r aE O
   ·rename_i e k v xs a lX _ ld lf
    simp only[Bool.and_eq_true,Bool.not_eq_true']at lf
    split at o
    case h_2=>cases o
    rename_i y lY
    cases o
    obtain⟨g,cap,us,lc,la,_,_,_,v0,_,lm,_,lv⟩:=JH Y ld ly.1 lh li (Nat.eq_of_beq_eq_true lf.1) lf.2
    exact fin v0 w m _ (.sub b n) (ct (by simp only[execOp,ll]) lv) Y ⟨_,lc,la,lm⟩ rfl
   ·cases o
  ·rename_i args aF ll
   split at o
   case h_2=>cases o
   rename_i x t lY a4
   split at o
   case h_2=>cases o
   rename_i b n a5 bF lh li
   split at o
   case h_2=>cases o
   rename_i e k v xs a lX ld
   split at o
   case h_2=>cases o
   rename_i y lZ
   cases o
   rw[<-lu.P]at li
   obtain⟨g,cap,us,lc,la,_,_,_,_,_,lj⟩:=Jb Y ld ly.1 lh
   obtain⟨i,_,_,bG,lg,_,aG,_,_⟩:=dn li
   have l6:args=#[x]:=by rw[<-Array.toArray_toList (xs:=args),lY]
   have aH:aF=#[t]:=by rw[<-Array.toArray_toList (xs:=aF),a4]
   subst l6
   subst aH
   refine fin (.int .i64 ((Option.getD (α:=List (k.el×v.el)) y []).length:Int)) w m _ (.val (.int .i64) _) ?_ Y (cZ.2 rfl) rfl
   simp only[execOp,ll,resolve,invoke,builtin,Sem.run_bind,Sem.run_pure,Result.andThen_ok,List.map_toArray,List.map_cons,List.map_nil]
   generalize Act.eval ⟨T,[]⟩ x=a6 at lj
   match y,lj with
   |none,lj=>
    have lj:a6=.map none:=lj
    rw[lj]
    simp[Builtin.len_,run_underlying aG,goInt]
   |some ps,⟨r,es,clock,lo,h1,_,_,lE⟩=>
    rw[lo]
    have aI:=ue lE
    rw[Array.length_toList]at aI
    simp[Builtin.len_,run_underlying aG,goInt,getObj,Sem.run,h1,aI]
  ·rename_i ll
   split at o
   case h_2=>cases o
   rename_i aZ lX
   split at o
   case h_2=>cases o
   rename_i st1 bH bI h1
   split at o
   case h_2=>cases o
   rename_i e k v xs lC _
   cases o
   refine uB lu ⟨m,Y⟩ h1 ly.2 fun lV w' ah=>?_
   obtain⟨m1,a7⟩:=ah
   obtain⟨⟨a8,a9⟩,_⟩:=ly
   obtain⟨m2,ba⟩:=a7.Wf (aX lC) a8 a9 lI
   exact lG lV w' ⟨m2,ba⟩
  ·cases o
 ·rename_i af
  split at o
  ·rename_i t x bK bL ll
   split at o
   case h_2=>cases o
   rename_i b n a5 aH kv vv lh aK hk l5
   split at o
   case h_2=>cases o
   rename_i e k v xs bM bN a lX ld aL bb
   split at o
   case h_2=>cases o
   rename_i y z ps lZ bc lr lY
   cases o
   simp only[Bool.and_eq_true]at lr
   obtain⟨bd,be,bf,aM⟩:=lr
   obtain rfl:=ag.eq_of_beq bd
   obtain rfl:=ag.eq_of_beq be
   have bg:=aj.dC lZ
   subst bg
   have bh:=aj.dC bc
   subst bh
   rw[<-lu.P]at aK aL bb aM
   obtain⟨g,cap,us,lc,la,lg,lz,lH,l8,lm,r,es,clock,lo,h1,lN,lO,lE⟩:=Jb Y ld ly.1 lh
   obtain⟨lP,lQ,lv,bi,cY,fh⟩:=H8 (d:=jp) (d':=16) aK aL aM (by decide) bf (df Y hk) (df Y l5) h1 lN lO lE
   have lp:=aX ld
   have lA:own (m b) r:=by rw[la];exact dj.2 (.inr ⟨_,List.mem_of_getElem? lm,by rw[lo];rfl⟩)
   have lR:Touch m w b {w with heap:=w.heap.setIfInBounds r (.map lP lQ)}:=
    ⟨⟨rfl,rfl,rfl,by simp,fun _=>Nat.le_refl _⟩,fun k _ lF=>by
     show(w.heap.setIfInBounds r _)[k]? =_
     rw[Array.getElem?_setIfInBounds_ne]
     intro e
     exact lF (by rw[<-e];exact lA)⟩
   have lk:b∈st.ids:=List.mem_append.2 (.inl (List.mem_map.2 ⟨_,lp,rfl⟩))
   generalize lS:xs.set n.toNat (some (show(eT.mp k v).el from some (cb (aD k) ps y z)))=lt at lG
   obtain⟨ai,an⟩:=am.ic (cx:=cx) lk lR (ids:=(st.db b (.aT e (.mp k v) lt)).ids) (kM lp Y.keys _).1
   have bj:g≠r:=fun e=>(List.nodup_cons.1 lg).1 (qI.2 ⟨_,_,lm,by rw[lo,e];rfl⟩)
   rw[lo]at l8 lm
   have ao:lt.length=xs.length:=by rw[<-lS,List.length_set]
   have ah:am cx m (st.db b (.aT e (.mp k v) lt)) T {w with heap:=w.heap.setIfInBounds r (.map lP lQ)}:=by
    refine Y.db lp lR (g:=g) ⟨xs.length,cap,lc,la⟩ ⟨xs.length,cap,us,lc,la,?_,?_,lg⟩
    ·rw[ao]
     refine⟨lH.1,?_⟩
     rcases lH.2 with lr|⟨U,bk,cur,aN,bl,lr,rest⟩
     ·exact .inl lr
     ·refine .inr ⟨U,bk,cur,aN,bl,?_,rest⟩
      show(w.heap.setIfInBounds r _)[U]? =_
      rw[Array.getElem?_setIfInBounds_ne (by rintro rfl;cases aN;exact bj rfl)]
      exact lr
    ·have Z:kQ {w with heap:=w.heap.setIfInBounds r (.map lP lQ)} (ap cx m (st.db b (.aT e (.mp k v) lt)).ids) (.map (some r)) (.mp k v) (some (cb (aD k) ps y z)):=by
      refine⟨r,lP,lQ,rfl,?_,bi,cY,gH (fun _ _ h=>dh ai an h) (fun _ _ h=>dh ai an h) fh⟩
      show(w.heap.setIfInBounds r _)[r]? =_
      rw[Array.getElem?_setIfInBounds_self_of_lt (gD h1)]
     have l0:=yx ai an Z (i:=n.toNat) (fun j u lx W aq l3=>by
      show(w.heap.setIfInBounds r _)[aq]? =_
      rw[Array.getElem?_setIfInBounds_ne]
      rintro rfl
      exact CS (List.nodup_cons.1 lg).2 lm W (fun e=>lx e.symm) rfl l3) lz
     have f1:us.set n.toNat (.map (some r))=us:=by
      obtain⟨lI,ar⟩:=List.getElem?_eq_some_iff.1 l8
      rw[<-ar,List.set_getElem_self]
     have f2:lc.set n.toNat (.map (some r))=lc:=by
      obtain⟨lI,ar⟩:=List.getElem?_eq_some_iff.1 lm
      rw[<-ar,List.set_getElem_self]
     rw[f1,f2]at l0
     rw[<-lS]
     exact l0
   unfold Oper.wp
   have lC:(execOp (Act.eval ⟨T,[]⟩) aa).run cx.P w=.ok .skip {w with heap:=w.heap.setIfInBounds r (.map lP lQ)}:=by
    simp only[execOp,ll,Sem.run_bind,lo,lv,Result.andThen_ok,Sem.run_pure]
   rw[lC]
   show K (Act.put ⟨T,[]⟩ aa.dst undef) _
   rw[af]
   exact lG T _ ⟨m,ah⟩
  ·rename_i t x y ll
   split at o
   case h_2=>cases o
   rename_i b n c u lh lZ li
   split at o
   case h_2=>cases o
   rename_i e k v xs k' v' ps ld lf az
   split at o
   case h_2=>cases o
   rename_i bO bm
   cases o
   simp only[Bool.and_eq_true,Bool.not_eq_true']at az
   obtain⟨lT,bP,bn⟩:=az
   have lT:=Nat.eq_of_beq_eq_true lT
   have lK:b<cx.n:=by rw[lu.n];exact cG bn
   rw[<-lu.P]at li
   obtain⟨g,cap,us,lc,cur,la,_,lg,lz,lH,bp,au,bq,bs,av⟩:=Y.aT ld
   obtain⟨g2,bQ,bR,aU,aw,a2⟩:=aW Y lh
   rw[la]at aw
   have:g2=g:=by
    simp only[Value.tuple.injEq,Array.mk.injEq,List.cons.injEq,Value.slice.injEq,Option.some.injEq,Addr.mk.injEq]at aw
    exact aw.1.1.1.symm
   subst this
   have lp:=aX ld
   have ax:=aX lf
   have lk:b∈st.ids:=List.mem_append.2 (.inl (List.mem_map.2 ⟨_,lp,rfl⟩))
   have ay:c∈st.ids:=List.mem_append.2 (.inl (List.mem_map.2 ⟨_,ax,rfl⟩))
   have aO:b≠c:=by
    rintro rfl
    rw[ld]at lf
    cases lf
   have bt:=aj.dC bm
   cases bt
   obtain⟨r,f1,_,es,clock,h1,lN,lO,lE⟩:=Y.box ax
   have f1:m c=.map (some r):=f1
   have bu:Act.eval ⟨T,[]⟩ y=.map (some r):=by have:Act.eval ⟨T,[]⟩ y=m c:=aW Y lZ;rw[this,f1]
   have aB:own (m c) r:=by rw[f1];exact hq rfl
   have aP:own (m b) g2:=by rw[la];exact dj.2 (.inl rfl)
   have aR:r≠g2:=fun e=>Y.apart b c lk ay aO g2 aP (by rw[<-e];exact aB)
   obtain⟨bS,_⟩:=ly
   have lI:n.toNat<xs.length:=by omega
   have bv:n.toNat+u.cells<=cur.size:=by rw[lT,au];omega
   have lv:=nm (P:=cx.P) (v:=.map (some r)) li lz (by rw[lT];rfl) bv (fun x lh=>by simp[Value.cells]at lh;subst lh;rfl)
   have bw:cur.toList.take n.toNat++(Value.map (some r)).cells.toList++cur.toList.drop (n.toNat+u.cells)=cur.toList.set n.toNat (.map (some r)):=by
    rw[List.set_eq_take_append_cons_drop,if_pos (by rw[Array.length_toList,au];omega),lT]
    simp[Value.cells]
   rw[bw]at lv
   generalize l4:w.setRow g2 (cur.toList.set n.toNat (.map (some r))).toArray=lU at lv
   have lR:Touch m w b lU:=by rw[<-l4];exact⟨ml _ _ _,fun k hk lF=>setRow_other _ _ _ _ (fun e=>lF (by rw[e];exact aP))⟩
   obtain⟨v2,lq⟩:∃v2,v2=Value.tuple (.slice (some ⟨g2,0,none⟩) xs.length cap::lc.set n.toNat (.map (some r))).toArray:=⟨_,rfl⟩
   have lL:∀u∈lc.set n.toNat (.map (some r)),u∈lc\/u=.map (some r):=fun u W=>List.mem_or_eq_of_mem_set W
   have lA:∀U,own v2 U->own (m b) U\/own (m c) U:=by
    intro U O
    rw[lq]at O
    rcases dj.1 O with O|⟨u,W,O⟩
    ·exact .inl (by rw[la];exact dj.2 (.inl O))
    ·rcases lL u W with W|rfl
     ·exact .inl (by rw[la];exact dj.2 (.inr ⟨u,W,O⟩))
     ·cases O;exact .inr aB
   generalize lS:xs.set n.toNat (some (show(eT.mp k v).el from some ps))=lt at lG
   have ao:lt.length=xs.length:=by rw[<-lS,List.length_set]
   have lB:∀i,i∈(st.ia b c (.aT e (.mp k v) lt)).ids->i∈st.ids:=by
    intro i Z
    rcases List.mem_append.1 Z with Z|Z
    ·obtain⟨⟨j,s⟩,ln,rfl⟩:=List.mem_map.1 Z
     rcases List.mem_cons.1 ln with ln|ln
     ·cases ln;exact lk
     ·obtain⟨⟨a0,a1⟩,l9,ab⟩:=List.mem_map.1 ln
      cases ab
      exact List.mem_append.2 (.inl (List.mem_map.2 ⟨_,(cP.1 (cP.1 l9).1).1,rfl⟩))
    ·exact List.mem_append.2 (.inr Z)
   have aC:∀U,U<w.heap.size->¬ap cx m st.ids U->lU.heap[U]? =w.heap[U]? :=fun U bx bz=>lR.block U bx fun e=>bz (.inr ⟨b,lk,e⟩)
   have lD:∀U,U<w.heap.size->ap cx (bo m b v2) (st.ia b c (.aT e (.mp k v) lt)).ids U->ap cx m st.ids U:=by
    intro U _ O
    rcases O with lM|⟨i,Z,O⟩
    ·exact .inl lM
    ·by_cases lw:i=b
     ·subst lw
      rw[b9]at O
      rcases lA U O with lr|lr
      ·exact .inr ⟨i,lk,lr⟩
      ·exact .inr ⟨c,ay,lr⟩
     ·rw[cN _ _ lw]at O
      exact .inr ⟨i,lB i Z,O⟩
   have bA:∀U,own (m b) U->U≠g2->lU.heap[U]? =w.heap[U]? :=fun U _ lF=>by rw[<-l4];exact setRow_other _ _ _ _ lF
   have Z:kQ lU (ap cx (bo m b v2) (st.ia b c (.aT e (.mp k v) lt)).ids) (.map (some r)) (.mp k v) (some ps):=
    ⟨r,es,clock,rfl,by rw[<-l4,setRow_other _ _ _ _ aR];exact h1,lN,lO,gH (fun _ _ h=>dh aC lD h) (fun _ _ h=>dh aC lD h) lE⟩
   have l0:=yx aC lD Z (i:=n.toNat) (fun j u lx W aq l3=>by
    refine bA aq (by rw[la];exact dj.2 (.inr ⟨u,List.mem_of_getElem? W,l3⟩)) ?_
    rintro rfl
    exact(List.nodup_cons.1 av).1 (qI.2 ⟨_,_,W,l3⟩)) bs
   have ad:=Y.ia (c2:=.aT e (.mp k v) lt) lp ax lK la lq lR lA ⟨xs.length,cap,_,lq⟩ ⟨xs.length,cap,us.set n.toNat (.map (some r)),lc.set n.toNat (.map (some r)),lq,by
     rw[ao]
     refine⟨by rw[List.length_set];exact lg.1,.inr ⟨g2,cap,_,rfl,Nat.zero_le _,by rw[<-l4];exact setRow_heap _ _ _ _ _ _ lz,lH,bp,?_,?_⟩⟩
     ·simp[au]
     ·rw[Nat.mul_one,<-bq,List.take_set],by rw[<-lS];exact l0,by
     have lJ:=DS (i:=n.toNat) (u:=.map (some r)) (List.nodup_cons.1 av).2 (fun bT bB j u _ W bC=>by
      cases bB
      exact Y.apart b c lk ay aO r (by rw[la];exact dj.2 (.inr ⟨u,List.mem_of_getElem? W,bC⟩)) aB)
     refine List.nodup_cons.2 ⟨fun lB=>?_,lJ⟩
     obtain⟨u,W,O⟩:=List.mem_filterMap.1 lB
     rcases lL u W with W|rfl
     ·exact(List.nodup_cons.1 av).1 (List.mem_filterMap.2 ⟨u,W,O⟩)
     ·cases O;exact aR rfl⟩
   unfold Oper.wp
   have lC:(execOp (Act.eval ⟨T,[]⟩) aa).run cx.P w=.ok .skip lU:=by
    simp only[execOp,ll,Sem.run_bind,bu,a2,lv,Result.andThen_ok,Sem.run_pure]
   rw[lC]
   show K (Act.put ⟨T,[]⟩ aa.dst undef) _
   rw[af]
   exact lG T _ ⟨_,ad⟩
  ·cases o
def Cn(E:Env)(st:ae)(aa:Oper)(orc:List aj):Option (ae×List aj×List Prop):=
 match Dy E st aa orc with
 |some r=>some r
 |none=>zU E st aa orc
theorem SS{E:Env}(O:br E cx)(h:R cx st T w){aa:Oper}{orc:List aj}{st':ae}{orc':List aj}{ob:List Prop}(o:Cn E st aa orc=some (st',orc',ob))(U:bJ ob)
  {K:Act->World->Prop}{Q:Exit->Act->World->Prop}(W:∀Y w',R cx st' Y w'->K ⟨Y,[]⟩ w'):aa.wp cx.P ⟨T,[]⟩ w K Q:=by
 unfold Cn at o
 split at o
 ·rename_i r Z
  cases o
  exact TJ O h Z U W
 ·exact Wo O h o U W
end Go.Ev
namespace Go.Ev
open Go Go.RowKit
variable [b6]
variable {cx:bB} {m:Nat->Value} {st st':ae} {T:Array Value} {w w':World}
/-! Copying, clearing. -/
theorem Kf{α:Type}{f:List Value->α->Prop}:∀{O U:List α} {c1 c2:List Value},bD f c1 O->bD f c2 U->bD f (c1++c2) (O++U)
 |[],_,_,_,h1,o=>by cases h1;exact o
 |y::W,_,_,_,⟨d1,d2,e,g1,g2⟩,o=>by subst e;exact⟨d1,_,by simp,g1,Kf g2 o⟩
theorem DZ{M:Nat->Prop}{u:ag}:∀{xs:List u.el} {cs:List Value},bD (aF w M u) cs xs->∀v∈cs,v.oneCell'=true
 |[],cs,O,v,o=>by cases O;simp at o
 |y::W,cs,⟨c1,c2,e,h1,U⟩,v,o=>by
  subst e
  rcases List.mem_append.1 o with o|o
  ·exact jK u h1 v o
  ·exact DZ U v o
theorem am.over(h:am cx m st T w){r:Nat}{c:cw}(O:(r,c)∈st.rw){o:List c.t.el}{news:List Value}(la:bD (aF w (ap cx m st.ids) c.t) news o)(lc:o.length<=c.xs.length){g:Nat}{n cap:Nat}{cur:Array Value}
  (U:m r=.slice (some ⟨g,0,none⟩) n cap)(ld:w.heap[g]? =some (.cells cur c.e (0,0))):
  am cx m (st.setRow r {c with xs:=o++c.xs.drop o.length}) T (w.setRow g (news++cur.toList.drop news.length).toArray):=by
 obtain⟨cells,lf,lw,ll⟩:=h.rows r c O
 have lm:r∈st.ids:=List.mem_append.2 (.inr (List.mem_map.2 ⟨_,O,rfl⟩))
 rcases lf.2 with ⟨lg,_⟩|⟨lx,ly,lz,Z,ln,lh,li,lo,lj,lp⟩
 ·rw[U]at lg;cases lg
 rw[U]at Z
 simp only[Value.slice.injEq,Option.some.injEq,Addr.mk.injEq,and_true]at Z
 obtain⟨rfl,rfl,rfl⟩:=Z
 rw[ld]at lh
 cases lh
 have W:news.length=o.length*c.t.cells:=jq (fun _ _=>ch c.t) _ _ la
 have lq:cells.length=c.xs.length*c.t.cells:=lf.1
 have lk:Touch m w r (w.setRow g (news++cur.toList.drop news.length).toArray):=
  ⟨ml _ _ _,fun k hk lr=>setRow_other _ _ _ _ (fun e=>lr (by rw[U,e];exact hq rfl))⟩
 obtain⟨lt,_⟩:=o0 O h.keys {c with xs:=o++c.xs.drop o.length}
 obtain⟨lu,lv⟩:=am.ic (cx:=cx) lm lk lt
 have Y:(o++c.xs.drop o.length).length=c.xs.length:=by rw[List.length_append,List.length_drop];omega
 have lA:o.length*c.t.cells<=c.xs.length*c.t.cells:=Nat.mul_le_mul_right _ lc
 have lB:c.xs.length*c.t.cells<=cur.size:=by rw[lj];exact Nat.mul_le_mul_right _ li
 refine h.setRow O lk (cells:=news++cells.drop news.length) ?_ (dx (fun _ _=>cB lu lv c.t) (Kf la (by rw[W];exact Bp o.length ll lc)))
 refine⟨by simp only[Y];rw[List.length_append,List.length_drop,lq,W];omega,.inr ⟨g,cap,_,by simp only[Y];exact U,ln,setRow_heap _ _ _ _ _ _ ld,by simp only[Y];exact li,lo,?_,?_⟩⟩
 ·have e:cur.toList.length=cur.size:=Array.length_toList
  rw[List.size_toArray,List.length_append,List.length_drop,e,W,<-lj]
  omega
 ·simp only[Y]
  rw[<-lp,List.drop_take,List.take_append,List.take_of_length_le (by omega),W]
/-! Structs whose fields own things. -/
theorem zx{M:Nat->Prop}:∀{vs:List Value} {l:List bQ},dd w M m vs l->vs.length=l.length
 |[],[],_=>rfl
 |[],_::_,h=>h.elim
 |_::_,[],h=>h.elim
 |_::_,.v _::_,⟨_,h⟩=>by simp[zx h]
 |_::_,.r _::_,⟨_,h⟩=>by simp[zx h]
 |_::vs,.a::l,h=>by simp[zx (vs:=vs) (l:=l) h]
theorem sW{M:Nat->Prop}:∀{v1 v2:List Value} {l1 l2:List bQ},dd w M m v1 l1->dd w M m v2 l2->dd w M m (v1++v2) (l1++l2)
 |[],_,[],_,_,h=>h
 |[],_,_::_,_,h,_=>h.elim
 |_::_,_,[],_,h,_=>h.elim
 |_::_,_,.v _::_,_,⟨h1,o⟩,h=>⟨h1,sW o h⟩
 |_::_,_,.r _::_,_,⟨h1,o⟩,h=>⟨h1,sW o h⟩
 |_::vs,_,.a::l,_,o,h=>sW (v1:=vs) (l1:=l) o h
theorem nu{M:Nat->Prop}:∀(n:Nat) {vs:List Value} {l:List bQ},dd w M m vs l->dd w M m (vs.take n) (l.take n)/\dd w M m (vs.drop n) (l.drop n)
 |0,vs,l,h=>⟨trivial,h⟩
 |n+1,[],[],_=>⟨trivial,trivial⟩
 |n+1,[],_::_,h=>h.elim
 |n+1,_::_,[],h=>h.elim
 |n+1,_::_,.v _::_,⟨h1,o⟩=>⟨⟨h1,(nu n o).1⟩,(nu n o).2⟩
 |n+1,_::_,.r _::_,⟨h1,o⟩=>⟨⟨h1,(nu n o).1⟩,(nu n o).2⟩
 |n+1,_::vs,.a::l,h=>⟨(nu n (vs:=vs) (l:=l) h).1,(nu n (vs:=vs) (l:=l) h).2⟩
theorem Gw{M:Nat->Prop}:∀(vs:List Value),dd w M m vs (List.replicate vs.length .a)
 |[]=>trivial
 |_::vs=>Gw vs
def xY:List ak->Option (List bQ)
 |[]=>some []
 |.val t x::l=>match xY l with
  |some r=>some (.v ⟨t,x⟩::r)
  |none=>none
 |_=>none
theorem Jh{M:Nat->Prop}:∀{vs:List Value} {l:List ak} {r:List bQ},xY l=some r->cA w M m vs l->dd w M m vs r
 |[],[],_,h,_=>by cases h;trivial
 |_::_,[],_,_,o=>o.elim
 |[],_::_,_,_,o=>o.elim
 |v::vs,s::l,r,h,⟨h1,O⟩=>by
  unfold xY at h
  split at h
  ·rename_i e;cases e
  ·rename_i t x W e
   cases e
   split at h
   ·rename_i Y U;cases h;exact⟨h1,Jh U O⟩
   ·cases h
  ·cases h
def Ey(st:ae)(u:ag)(s:ak):Option (List bQ):=
 match s with
 |.val t x=>match t.beq u with
  |true=>xY (leaves t x)
  |false=>none
 |.row r=>match Nat.beq u.cells 1,look st.rw r with
  |true,some _=>some [.r r]
  |_,_=>none
 |.iter b=>match Nat.beq u.cells 1,look st.ad b with
  |true,some (.mp _ _ _)=>some [.r b]
  |_,_=>none
 |_=>none
theorem TT(h:am cx m st T w){u:ag}{s:ak}{c:List bQ}{v:Value}(o:Ey st u s=some c)(U:aQ w (ap cx m st.ids) m v s):
  dd w (ap cx m st.ids) m v.cells.toList c/\v.cells.size=u.cells:=by
 unfold Ey at o
 split at o
 ·rename_i t x
  split at o
  ·rename_i O
   obtain rfl:=ag.eq_of_beq O
   have h1:=mi U
   exact⟨Jh o (Dw t h1),by rw[<-ch t h1];simp⟩
  ·cases o
 ·rename_i r
  split at o
  ·rename_i c' O Y
   cases o
   have e:v=m r:=U
   have h1:=row_one h (aX Y)
   have W:v.cells=#[v]:=by rw[e];cases Z:m r<;>first|rfl|(rw[Z]at h1;simp[Value.oneCell']at h1)
   rw[W]
   exact⟨⟨e,trivial⟩,by rw[Nat.eq_of_beq_eq_true O];rfl⟩
  ·cases o
 ·rename_i b
  split at o
  ·rename_i k v' ps O la
   cases o
   have e:v=m b:=U
   obtain⟨g,lc,_⟩:=h.box (aX la)
   have W:v.cells=#[v]:=by rw[e,lc];rfl
   rw[W]
   exact⟨⟨e,trivial⟩,by rw[Nat.eq_of_beq_eq_true O];rfl⟩
  ·cases o
 ·cases o
def xB(P:Program)(st:ae)(t:TypeId):List (Nat×Operand)->List bQ->Option (List bQ)
 |[],l=>some l
 |(i,x)::r,l=>match fieldInfo P t i,aP st x with
  |some (off,u),some s=>match Ey st u s,Nat.ble (off+u.cells) l.length with
   |some c,true=>xB P st t r (l.take off++c++l.drop (off+u.cells))
   |_,_=>none
  |_,_=>none
theorem FP{t:TypeId}{lg:Array Field}(lh:cx.P.underlying t=some (.struct lg))(h:am cx m st T w)
  {place:Nat->Option (Nat×Nat)}(la:∀i off O,fieldInfo cx.P t i=some (off,O)->place i=some (off,O.cells)):
  ∀(parts:List (Nat×Operand)) (l W:List bQ) (o:List Value),dd w (ap cx m st.ids) m o l->xB cx.P st t parts l=some W->
   ∃Z,Instr.fill place o.toArray (parts.map fun p=>(p.1,Act.eval ⟨T,[]⟩ p.2))=some Z.toArray/\dd w (ap cx m st.ids) m Z W
 |[],l,W,o,Y,U=>by cases U;exact⟨o,rfl,Y⟩
 |(i,aa)::r,l,W,o,Y,U=>by
  unfold xB at U
  split at U
  ·rename_i off O s li lj
   split at U
   ·rename_i c lk lc
    have lc:=Nat.le_of_ble_eq_true lc
    obtain⟨ll,ld⟩:=TT h lk (aW h lj)
    have lu:=zx Y
    have lm:(Act.eval ⟨T,[]⟩ aa).cells.toList.length=O.cells:=by rw[Array.length_toList,ld]
    have ln:o=o.take off++(o.drop off).take O.cells++o.drop (off+O.cells):=by
     rw[List.append_assoc,<-List.drop_drop,List.take_append_drop,List.take_append_drop]
    have lo:(o.take off).length=off:=by rw[List.length_take];omega
    have lp:((o.drop off).take O.cells).length=O.cells:=by rw[List.length_take,List.length_drop];omega
    obtain⟨Z,lq,lr⟩:=FP lh h la r _ W (o.take off++(Act.eval ⟨T,[]⟩ aa).cells.toList++o.drop (off+O.cells)) (sW (sW (nu off Y).1 ll) (nu (off+O.cells) Y).2) U
    refine⟨Z,?_,lr⟩
    rw[List.map_cons,Instr.fill,la i off O li]
    have lt:¬(((Act.eval ⟨T,[]⟩ aa).cells.size≠O.cells||decide (off+(Act.eval ⟨T,[]⟩ aa).cells.size>o.toArray.size))=true):=by
     simp only[ld,List.size_toArray]
     simp
     omega
    simp only[]
    rw[if_neg lt]
    have lf:=xI (Act.eval ⟨T,[]⟩ aa).cells.toList (o.take off) (o.drop (off+O.cells)) ((o.drop off).take O.cells) (by rw[lp,lm])
    rw[<-ln,lo,Array.toArray_toList]at lf
    rw[lf]
    exact lq
   ·cases U
  ·cases U
def bQ.aJ(st:ae):bQ->ak
 |.v u=>.val u.t u.x
 |.r b=>match look st.ad b with
  |some (.cells _ _)=>.ptr b 0
  |some _=>.iter b
  |none=>.row b
 |.a=>.any
theorem xK(h:am cx m st T w):∀{vs:List Value} {l:List bQ},dd w (ap cx m st.ids) m vs l->cA w (ap cx m st.ids) m vs (l.map (bQ.aJ st))
 |[],[],_=>trivial
 |[],_::_,h=>h.elim
 |_::_,[],h=>h.elim
 |_::_,.v _::_,⟨h1,o⟩=>⟨h1,xK h o⟩
 |v::_,.r b::_,⟨h1,o⟩=>by
  refine⟨?_,xK h o⟩
  show aQ _ _ _ _ (match look st.ad b with
   |some (.cells _ _)=>.ptr b 0
   |some _=>.iter b
   |none=>.row b)
  split
  ·rename_i l e U
   obtain⟨g,O,_⟩:=h.box (aX U)
   exact⟨g,O,by rw[h1];exact O⟩
  ·exact h1
  ·exact h1
 |_::vs,.a::l,o=>⟨trivial,xK (vs:=vs) (l:=l) h o⟩
def PO(r:Nat)(n:Int):ak->ak
 |.row b=>bif Nat.beq b r then .af n else .row b
 |s=>s
def KE(st:ae)(a r:Nat)(n:Int):ae:={st with ab:=st.ab.map fun p=>bif Nat.beq p.1 a then p else(p.1,PO r n p.2)}
theorem UG(h:am cx m st T w){a r:Nat}{c:cw}(Z:(r,c)∈st.rw):am cx m (KE st a r (c.xs.length:Int)) T w:=
 {h with
  cI:=fun i aJ la=>by
   obtain⟨⟨j,s⟩,lc,o⟩:=List.mem_map.1 la
   obtain⟨v,h1,O⟩:=h.cI j s lc
   cases W:Nat.beq j a with
   |true=>
    simp only[W,cond_true]at o
    cases o
    exact⟨v,h1,O⟩
   |false=>
    simp only[W,cond_false]at o
    cases o
    refine⟨v,h1,?_⟩
    cases s with
    |row b=>
     show aQ _ _ _ _ (bif Nat.beq b r then .af (c.xs.length:Int)else .row b)
     cases ld:Nat.beq b r with
     |false=>exact O
     |true=>
      have e:=Nat.eq_of_beq_eq_true ld
      subst e
      have Y:v=m b:=O
      obtain⟨cells,lf,_⟩:=h.rows b c Z
      rcases lf.2 with ⟨U,lg⟩|⟨g,cap,cur,U,_⟩
      ·exact⟨none,0,0,by rw[Y,U],by rw[lg]⟩
      ·exact⟨_,_,cap,by rw[Y,U],rfl⟩
    |_=>exact O}
def zN(E:Env)(st:ae)(aa:Oper)(orc:List aj):Option (ae×List aj×List Prop):=
 match aa.op with
 |.call {callee:=.builtin .append,args:=args,argTypes:=_}=>match args.toList,orc with
  |[.tmp a,_],⟨.unit,_⟩::orc'=>match look st.ab a with
   |some (.row r)=>match look st.rw r with
    |some c=>pU E (KE st a r (c.xs.length:Int)) aa orc'
    |none=>none
   |_=>none
  |_,_=>none
 |.box t x=>match aa.dst,orc with
  |some d,⟨.unit,_⟩::orc'=>match ty E.P t,dA st x,Nat.blt d E.n with
   |some u,some v,true=>match v.as u with
    |some y=>some ((st.dg d (.aO u y t)).put d (.dE d []),orc',[])
    |none=>none
   |_,_,_=>none
  |_,_=>none
 |_=>none
theorem Q0{E:Env}(Y:br E cx)(h:R cx st T w){aa:Oper}{orc:List aj}{st':ae}{orc':List aj}{ob:List Prop}(o:zN E st aa orc=some (st',orc',ob))(ld:bJ ob)
  {K:Act->World->Prop}{Q:Exit->Act->World->Prop}(Z:∀la w',R cx st' la w'->K ⟨la,[]⟩ w'):aa.wp cx.P ⟨T,[]⟩ w K Q:=by
 obtain⟨m,U⟩:=h
 unfold zN at o
 split at o
 ·split at o
  ·split at o
   ·split at o
    ·rename_i c lf
     exact uB Y ⟨m,UG U (aX lf)⟩ o ld Z
    ·cases o
   ·cases o
  ·cases o
 ·rename_i t x lg
  split at o
  case h_2=>cases o
  rename_i d lp lq af
  split at o
  case h_2=>cases o
  rename_i u v lr lh li
  split at o
  case h_2=>cases o
  rename_i y lj
  cases o
  have lc:d<cx.n:=by rw[Y.n];exact cG li
  have lk:=aj.dC lj
  subst lk
  have ll:=mi (df U lh)
  have W:dm cx m st w d (fK w.heap.size (.aO u y t)) (w.alloc (.cells (Act.eval ⟨T,[]⟩ x).cells t)):=
   dm.fresh U d _ (iN _ _) fun g lm=>by cases mr lm;exact⟨Nat.le_refl _,by simp⟩
  have ln:∀i,i∈(st.dg d (.aO u y t)).ids->i=d\/i∈st.ids:=by
   intro i O
   rw[yz]at O
   rcases List.mem_cons.1 O with O|O
   ·exact .inl O
   ·exact .inr ((nH st d i).1 O).1
  have lo:=U.dg lc W (.inl (r2 U)) ⟨(Act.eval ⟨T,[]⟩ x).cells,heap_alloc_new w _,cB W.keeps (W.mut ln) u ll⟩
  refine gT (v:=.pointer (some ⟨w.heap.size,0,none⟩)) (w':=w.alloc (.cells (Act.eval ⟨T,[]⟩ x).cells t)) (ct (s:=Instr.box t (Act.eval ⟨T,[]⟩ x)) (by simp only[execOp,lg]) ?_) ?_
  ·simp[Instr.box,newVar,newRow]
  ·rw[af]
   exact Z _ _ ⟨_,lo.put lc ⟨w.heap.size,b9 _ _ _,rfl⟩⟩
 ·cases o
def yG(E:Env)(st:ae)(aa:Oper)(orc:List aj):Option (ae×List aj×List Prop):=
 match aa.op with
 |.call {callee:=.builtin .copy,args:=args,argTypes:=O}=>match args.toList,O.toList with
  |[x,y],[t,U]=>match aP st x,ed E.P t with
   |some (.row r),some (e,u)=>match look st.rw r with
    |some c=>match c.t.beq u,mN E.P st c.t U y with
     |true,some o=>match aa.dst with
      |none=>some (st.setRow r ⟨c.e,c.t,o++c.xs.drop o.length⟩,orc,[o.length<=c.xs.length])
      |some d=>match Nat.blt d E.n with
       |true=>some ((st.setRow r ⟨c.e,c.t,o++c.xs.drop o.length⟩).put d (.val (.int .i64) (o.length:Int)),orc,[o.length<=c.xs.length])
       |false=>none
     |_,_=>none
    |none=>none
   |_,_=>none
  |_,_=>none
 |.call {callee:=.builtin .clear,args:=args,argTypes:=O}=>match args.toList,O.toList,aa.dst with
  |[x],[t],none=>match aP st x,ed E.P t with
   |some (.row r),some (e,u)=>match look st.rw r,zeroOf E.P e with
    |some c,some W=>match c.t.beq u&&u.beq W with
     |true=>some (st.setRow r ⟨c.e,c.t,List.replicate c.xs.length (cj c.t)⟩,orc,[])
     |false=>none
    |_,_=>none
   |_,_=>none
  |_,_,_=>none
 |.call {callee:=.builtin .len,args:=args,argTypes:=O}=>match args.toList,O.toList,aa.dst with
  |[x],[t],some d=>match aP st x,ty E.P t,Nat.blt d E.n with
   |some (.af n),some (.ab _),true=>some (st.put d (.val (.int .i64) n),orc,[])
   |some (.osl b),some (.ab _),true=>match look st.ad b with
    |some (.aT _ _ xs)=>some (st.put d (.val (.int .i64) (xs.length:Int)),orc,[])
    |_=>none
   |_,_,_=>none
  |_,_,_=>none
 |.call {callee:=.builtin .min,args:=args,.. }=>match args.toList,aa.dst with
  |[x,y,z],some d=>match dA st x,dA st y,dA st z,Nat.blt d E.n with
   |some ⟨.int k,a⟩,some ⟨.int k',b⟩,some ⟨.int Y,c⟩,true=>bif gU k k'&&gU k Y then some (st.put d (.val (.int k) (cC (cC a b) c)),orc,[])else none
   |_,_,_,_=>none
  |_,_=>none
 |.assign (.const (.map none))=>match aa.dst,ty E.P aa.type with
  |some d,some (.map k v)=>match Nat.blt d E.n with
   |true=>some (st.put d (.val (.map k v) none),orc,[])
   |false=>none
  |_,_=>none
 |.move (.const (.map none))=>match aa.dst,ty E.P aa.type with
  |some d,some (.map k v)=>match Nat.blt d E.n with
   |true=>some (st.put d (.val (.map k v) none),orc,[])
   |false=>none
  |_,_=>none
 |.build t parts=>match aa.dst,ty E.P t,E.P.info? t with
  |some d,some u,some i=>match i.zero,u.qm&&Nat.blt d E.n with
   |some z,true=>match Nat.beq z.cells.size u.cells,xB E.P st t parts.toList (List.replicate z.cells.size .a)with
    |true,some l=>some (st.put d (.eH l),orc,[])
    |_,_=>none
   |_,_=>none
  |_,_,_=>none
 |.box t x=>match aa.dst,aP st x with
  |some d,some (.eH l)=>match Nat.blt d E.n with
   |true=>some ((st.dg d (.cells ((l.map (bQ.aJ st)).map (ak.dz d)) t)).put d (.ptr d 0),orc,[])
   |false=>none
  |_,_=>none
 |_=>none
theorem wn{aa:Oper}{K:Act->World->Prop}{Q:Exit->Act->World->Prop}(af:aa.dst=none){v:Value}(o:(execOp (Act.eval ⟨T,[]⟩) aa).run cx.P w=.ok (.value v) w')(O:K ⟨T,[]⟩ w'):aa.wp cx.P ⟨T,[]⟩ w K Q:=by
 unfold Oper.wp
 rw[o]
 show K (Act.put ⟨T,[]⟩ aa.dst v) w'
 rw[af]
 exact O
theorem KM{E:Env}(lm:br E cx)(h:R cx st T w){aa:Oper}{orc:List aj}{st':ae}{orc':List aj}{ob:List Prop}(o:yG E st aa orc=some (st',orc',ob))(lX:bJ ob)
  {K:Act->World->Prop}{Q:Exit->Act->World->Prop}(lw:∀lY w',R cx st' lY w'->K ⟨lY,[]⟩ w'):aa.wp cx.P ⟨T,[]⟩ w K Q:=by
 obtain⟨m,O⟩:=h
 have fin:∀(d:Nat) (v:Value) (w':World) (aA:Nat->Value) (lE:ae) (aJ:ak),aa.dst=some d->Nat.blt d E.n=true->(execOp (Act.eval ⟨T,[]⟩) aa).run cx.P w=.ok (.value v) w'->am cx aA lE T w'->aQ w' (ap cx aA lE.ids) aA v aJ->lE.put d aJ=st'->aa.wp cx.P ⟨T,[]⟩ w K Q:=by
  intro d v w' aA lE aJ af W lI ao aq e
  have lJ:d<cx.n:=by rw[lm.n];exact cG W
  refine gT lI ?_
  rw[af]
  exact lw _ _ ⟨aA,e▸ao.put lJ aq⟩
 unfold yG at o
 split at o
 ·rename_i args lj U
  split at o
  case h_2=>cases o
  rename_i x y t ar ln lx
  split at o
  case h_2=>cases o
  rename_i r e u lc ly
  split at o
  case h_2=>cases o
  rename_i c lK
  split at o
  case h_2=>cases o
  rename_i lk lz lZ
  rw[<-lm.P]at ly lZ
  obtain⟨li,lF,l0⟩:=jz ly
  obtain⟨i2,a4,lG,_⟩:=dn lF
  obtain⟨_,lL,l3,l4,lM⟩:=KT O lZ
  have Y:=aX lK
  have lt:=ag.eq_of_beq lz
  have lo:args=#[x,y]:=by rw[<-Array.toArray_toList (xs:=args),ln]
  have lA:lj=#[t,ar]:=by rw[<-Array.toArray_toList (xs:=lj),lx]
  subst lo
  subst lA
  have lu:Act.eval ⟨T,[]⟩ x=m r:=aW O lc
  have lp:i2.size=c.t.cells:=by rw[lt];exact lG
  have key:lk.length<=c.xs.length->∃w',(execOp (Act.eval ⟨T,[]⟩) aa).run cx.P w=.ok (.value (goInt lk.length)) w'/\am cx m (st.setRow r ⟨c.e,c.t,lk++c.xs.drop lk.length⟩) T w':=by
   intro l5
   have au:Nat.min lk.length c.xs.length=lk.length:=Nat.min_eq_left l5
   obtain⟨cells,lN,av,aw⟩:=O.rows r c Y
   rcases lN.2 with ⟨lf,lO⟩|⟨g,cap,cur,lf,ax,ld,l6,ay,lP,az⟩
   ·have aB:lk=[]:=List.eq_nil_of_length_eq_zero (by omega)
    subst aB
    have ll:c.xs=[]:=List.eq_nil_of_length_eq_zero lO
    refine⟨w,?_,?_⟩
    ·have la:=l4 w (fun _ _=>rfl)
     have aC:Builtin.lenOf (Act.eval ⟨T,[]⟩ y)=pure 0:=l3
     simp only[List.length_nil]at la
     simp[execOp,U,resolve,invoke,builtin,Builtin.copy_,lu,lf,run_underlying li,aC,ff lF,<-lt,la]
    ·have Z:(⟨c.e,c.t,([]:List c.t.el)++c.xs.drop ([]:List c.t.el).length⟩:cw)=c:=by simp
     rw[Z]
     obtain⟨l7,lB,l8,lC⟩:=O.rows r c Y
     exact O.setRow Y ⟨⟨rfl,rfl,rfl,Nat.le_refl _,fun _=>Nat.le_refl _⟩,fun _ _ _=>rfl⟩ lB (dx (fun _ _=>cB (fun _ _ _=>rfl) (fun _ _ ld=>mz (fun i lg=>((o0 Y O.keys c).1 i).1 lg) ld) c.t) lC)
   ·have lQ:lL.length=lk.length*c.t.cells:=jq (fun _ _=>ch c.t) _ _ lM
    have lR:lL.length<=cur.size:=by
     rw[lQ,lP]
     exact Nat.mul_le_mul_right _ (by omega)
    have lh:=run_storeCells_at (P:=cx.P) g 0 c.e lL 0 cur w ld (by simpa using lR) (DZ lM)
    simp only[Nat.add_zero,List.take_zero,List.nil_append,Nat.zero_add]at lh
    refine⟨_,?_,O.over Y lM l5 lf ld⟩
    have la:=l4 w (fun _ _=>rfl)
    simp[execOp,U,resolve,invoke,builtin,Builtin.copy_,lu,lf,run_underlying li,l3,ff lF,<-lt,au,la,lh]
  split at o
  ·rename_i af
   cases o
   obtain⟨w',lD,lS⟩:=key lX.1
   exact wn af lD (lw _ _ ⟨m,lS⟩)
  ·rename_i d af
   split at o
   case h_2=>cases o
   rename_i W
   cases o
   obtain⟨w',lD,lS⟩:=key lX.1
   exact fin d _ w' m _ (.val (.int .i64) _) af W lD lS (cZ.2 rfl) rfl
 ·rename_i args lj U
  split at o
  case h_2=>cases o
  rename_i x t ln lx af
  split at o
  case h_2=>cases o
  rename_i r e u lc ly
  split at o
  case h_2=>cases o
  rename_i c a5 lK lp
  split at o
  case h_2=>cases o
  rename_i lz
  cases o
  rw[Bool.and_eq_true]at lz
  have lt:=ag.eq_of_beq lz.1
  have aD:=ag.eq_of_beq lz.2
  rw[<-lm.P]at ly lp
  obtain⟨li,lF,l0⟩:=jz ly
  obtain⟨i,z,_,lg,lG,aE,lT⟩:=ka lp
  rw[<-aD,<-lt]at lG lT
  have Y:=aX lK
  have lo:args=#[x]:=by rw[<-Array.toArray_toList (xs:=args),ln]
  have lA:lj=#[t]:=by rw[<-Array.toArray_toList (xs:=lj),lx]
  subst lo
  subst lA
  have lu:Act.eval ⟨T,[]⟩ x=m r:=aW O lc
  have aF:∀w',(zeroValue e).run cx.P w'=.ok z w':=fun w'=>by simp[zeroValue,typeInfo,lg,aE]
  have lH:z.cells.size=c.t.cells:=by rw[<-ch c.t (lT w (ap cx m st.ids))];simp
  have aG:0<c.t.cells:=by rw[lt];exact l0
  obtain⟨cells,lN,av,aw⟩:=O.rows r c Y
  rcases lN.2 with ⟨lf,lO⟩|⟨g,cap,cur,lf,ax,ld,l6,ay,lP,az⟩
  ·have ll:c.xs=[]:=List.eq_nil_of_length_eq_zero lO
   refine wn af (w':=w) (v:=.tuple #[]) ?_ (lw _ _ ⟨m,?_⟩)
   ·simp[execOp,U,resolve,invoke,builtin,Builtin.clear_,lu,lf,run_underlying li]
   ·have Z:(⟨c.e,c.t,List.replicate c.xs.length (cj c.t)⟩:cw)=c:=by rw[ll];obtain⟨ce,nD,aH⟩:=c;simp only at ll;subst ll;rfl
    rw[Z]
    obtain⟨l7,lB,l8,lC⟩:=O.rows r c Y
    exact O.setRow Y ⟨⟨rfl,rfl,rfl,Nat.le_refl _,fun _=>Nat.le_refl _⟩,fun _ _ _=>rfl⟩ lB (dx (fun _ _=>cB (fun _ _ _=>rfl) (fun _ _ ld=>mz (fun i lg=>((o0 Y O.keys c).1 i).1 lg) ld) c.t) lC)
  ·have lU:=LS (lT w (ap cx m st.ids)) aG c.xs.length
   have l9:(Builtin.zeroCells z.cells c.xs.length)=madeCells z.cells (c.xs.length*c.t.cells):=by rw[<-lH];rfl
   have ab:=O.over Y lU (by rw[List.length_replicate];exact Nat.le_refl _) lf ld
   have aI:List.replicate c.xs.length (cj c.t)++c.xs.drop (List.replicate c.xs.length (cj c.t)).length=List.replicate c.xs.length (cj c.t):=by
    rw[List.length_replicate,List.drop_eq_nil_of_le (Nat.le_refl _),List.append_nil]
   rw[aI]at ab
   have lQ:(madeCells z.cells (c.xs.length*c.t.cells)).toList.length=c.xs.length*c.t.cells:=by
    rw[jq (fun _ _=>ch c.t) _ _ lU,List.length_replicate]
   have lR:(madeCells z.cells (c.xs.length*c.t.cells)).toList.length<=cur.size:=by
    rw[lQ,lP]
    exact Nat.mul_le_mul_right _ l6
   have lh:=run_storeCells_at (P:=cx.P) g 0 c.e (madeCells z.cells (c.xs.length*c.t.cells)).toList 0 cur w ld (by simpa using lR) (DZ lU)
   simp only[Nat.add_zero,List.take_zero,List.nil_append,Nat.zero_add]at lh
   by_cases ad:c.xs.length=0
   ·have ll:c.xs=[]:=List.eq_nil_of_length_eq_zero ad
    refine wn af (w':=w) (v:=.tuple #[]) ?_ (lw _ _ ⟨m,?_⟩)
    ·have aK:m r=.slice (some ⟨g,0,none⟩) 0 cap:=by rw[lf,ad]
     simp[execOp,U,resolve,invoke,builtin,Builtin.clear_,lu,aK,run_underlying li]
    ·have Z:(⟨c.e,c.t,List.replicate c.xs.length (cj c.t)⟩:cw)=c:=by rw[ll];obtain⟨ce,nD,aH⟩:=c;simp only at ll;subst ll;rfl
     rw[Z]
     obtain⟨l7,lB,l8,lC⟩:=O.rows r c Y
     exact O.setRow Y ⟨⟨rfl,rfl,rfl,Nat.le_refl _,fun _=>Nat.le_refl _⟩,fun _ _ _=>rfl⟩ lB (dx (fun _ _=>cB (fun _ _ _=>rfl) (fun _ _ ld=>mz (fun i lg=>((o0 Y O.keys c).1 i).1 lg) ld) c.t) lC)
   ·refine wn af (v:=.tuple #[]) ?_ (lw _ _ ⟨m,ab⟩)
    have aL:m r=.slice (some ⟨g,0,none⟩) c.xs.length cap:=lf
    have lD:(Builtin.clear_ #[t] aa.type #[m r]).run cx.P w=.ok (.tuple #[]) (w.setRow g ((madeCells z.cells (c.xs.length*c.t.cells)).toList++cur.toList.drop (madeCells z.cells (c.xs.length*c.t.cells)).toList.length).toArray):=by
     rw[aL]
     obtain⟨k,hk⟩:∃k,c.xs.length=k+1:=⟨c.xs.length-1,by omega⟩
     rw[hk]at lh l9⊢
     simp only[Builtin.clear_,List.getElem?_toArray,List.getElem?_cons_zero,Sem.run_bind,run_underlying li,Result.andThen_ok,aF w,l9,lh,Sem.run_pure]
    simp only[execOp,U,resolve,invoke,builtin,Sem.run_bind,Sem.run_pure,Result.andThen_ok,List.map_toArray,List.map_cons,List.map_nil,lu,lD]
 ·rename_i args lj U
  split at o
  case h_2=>cases o
  rename_i x t d ln lx af
  have lo:args=#[x]:=by rw[<-Array.toArray_toList (xs:=args),ln]
  have lA:lj=#[t]:=by rw[<-Array.toArray_toList (xs:=lj),lx]
  subst lo
  subst lA
  split at o
  ·rename_i n u lc lq W
   cases o
   rw[<-lm.P]at lq
   obtain⟨i,_,_,aM,_,la,_⟩:=dn lq
   obtain⟨a,k,cap,lr,Z⟩:=aW O lc
   refine fin d (.int .i64 n) w m _ (.val (.int .i64) n) af W ?_ O (cZ.2 rfl) rfl
   rw[<-Z]
   simp[execOp,U,resolve,invoke,builtin,Builtin.len_,lr,run_underlying la,goInt]
  ·rename_i b u lc lq W
   split at o
   case h_2=>cases o
   rename_i e k xs aN
   cases o
   rw[<-lm.P]at lq
   obtain⟨i,_,_,aM,_,la,_⟩:=dn lq
   obtain⟨g,cap,us,a6,cur,lr,_⟩:=O.aT aN
   obtain⟨a7,Z⟩:=aW O lc
   rw[lr]at Z
   have lV:Act.eval ⟨T,[]⟩ x=.slice (some ⟨g,0,none⟩) xs.length cap:=by
    simp only[Value.tuple.injEq,Array.mk.injEq,List.cons.injEq]at Z
    exact Z.1.symm
   refine fin d (.int .i64 (xs.length:Int)) w m _ (.val (.int .i64) _) af W ?_ O (cZ.2 rfl) rfl
   simp[execOp,U,resolve,invoke,builtin,Builtin.len_,lV,run_underlying la,goInt]
  ·cases o
 ·rename_i args _ U
  split at o
  case h_2=>cases o
  rename_i x y z d ln af
  split at o
  case h_2=>cases o
  rename_i k a k' b aO c lc aP lp W
  cases hk:gU k k'&&gU k aO with
  |false=>rw[hk]at o;cases o
  |true=>
  rw[hk]at o
  cases o
  rw[Bool.and_eq_true]at hk
  obtain rfl:=nK hk.1
  obtain rfl:=nK hk.2
  have lo:args=#[x,y,z]:=by rw[<-Array.toArray_toList (xs:=args),ln]
  subst lo
  have lr:=cZ.1 (df O lc)
  have Z:=cZ.1 (df O aP)
  have lV:=cZ.1 (df O lp)
  refine fin d (.int k (cC (cC a b) c)) w m _ (.val (.int k) _) af W ?_ O (cZ.2 rfl) rfl
  simp[execOp,U,resolve,invoke,builtin,Builtin.min_,lr,Z,lV,Builtin.min2,cC]
  rfl
 ·rename_i U
  split at o
  case h_2=>cases o
  rename_i d k v af lq
  split at o
  case h_2=>cases o
  rename_i W
  cases o
  exact fin d (.map none) w m _ (.val (.map k v) none) af W (by simp[execOp,U,Act.eval]) O ((bZ (t:=.map k v) rfl).2 rfl) rfl
 ·rename_i U
  split at o
  case h_2=>cases o
  rename_i d k v af lq
  split at o
  case h_2=>cases o
  rename_i W
  cases o
  exact fin d (.map none) w m _ (.val (.map k v) none) af W (by simp[execOp,U,Act.eval]) O ((bZ (t:=.map k v) rfl).2 rfl) rfl
 ·rename_i t parts U
  split at o
  case h_2=>cases o
  rename_i d u i af li lg
  split at o
  case h_2=>cases o
  rename_i z lp lh
  split at o
  case h_2=>cases o
  rename_i l lH ah
  cases o
  rw[Bool.and_eq_true]at lh
  rw[<-lm.P]at li lg ah
  have lH:=Nat.eq_of_beq_eq_true lH
  obtain⟨a8,a9,lG,la⟩:=dn li
  have aR:∃lv d',cx.P.underlying t=some (.struct lv)/\fieldsOf (cD cx.P d') 0 lv.toList=some u:=by
   cases u<;>first|exact la|(simp[ag.qm]at lh)
  obtain⟨lv,d',lW,aS⟩:=aR
  obtain⟨ai,an,aT⟩:=FP lW O (place:=fun k=>(lv.map fun f=>(f.offset,cx.P.cellsOf f.type))[k]?) (fun k off ba aU=>by
   obtain⟨aV,bb,h1,aY,aZ,a0,bc⟩:=yT aU
   have:aV=lv:=by rw[lW]at h1;cases h1;rfl
   subst this
   obtain⟨i3,a1,a2,_⟩:=dn aZ
   rw[Array.getElem?_map,aY]
   simp[a0,Program.cellsOf,a1,a2]) parts.toList _ l z.cells.toList (by rw[<-Array.length_toList];exact Gw _) ah
  refine fin d (.agg ai.toArray) w m _ (.eH l) af lh.2 (ct (s:=Instr.build t (parts.map fun p=>(p.1,Act.eval ⟨T,[]⟩ p.2))) (by simp only[execOp,U]) ?_) O ⟨ai,rfl,aT⟩ rfl
  refine run_build w t _ _ ?_
  unfold Program.built
  simp only[lg,lW,lp,BH lv.toList (fun f la=>E6 aS f la)]
  rw[Array.toList_map]
  rw[Array.toArray_toList]at an
  rw[<-an]
  congr 1
  funext k
  simp
 ·rename_i t x U
  split at o
  case h_2=>cases o
  rename_i d l af lc
  split at o
  case h_2=>cases o
  rename_i W
  cases o
  have lJ:d<cx.n:=by rw[lm.n];exact cG W
  obtain⟨vs,lr,lI⟩:=aW O lc
  have a3:=wU O lJ (cells:=vs.toArray) (e:=t) (l:=l.map (bQ.aJ st)) (xK O lI)
  refine fin d _ _ _ _ (.ptr d 0) af W (ct (s:=Instr.box t (Act.eval ⟨T,[]⟩ x)) (by simp only[execOp,U]) ?_) a3 ⟨w.heap.size,b9 _ _ _,rfl⟩ rfl
  rw[lr]
  simp[Instr.box,newVar,newRow,Value.cells]
 ·cases o
def Fo(E:Env)(st:ae)(aa:Oper)(orc:List aj):Option (ae×List aj×List Prop):=
 match zN E st aa orc with
 |some r=>some r
 |none=>match Cn E st aa orc with
  |some r=>some r
  |none=>yG E st aa orc
theorem N0{E:Env}(O:br E cx)(h:R cx st T w){aa:Oper}{orc:List aj}{st':ae}{orc':List aj}{ob:List Prop}(o:Fo E st aa orc=some (st',orc',ob))(U:bJ ob)
  {K:Act->World->Prop}{Q:Exit->Act->World->Prop}(W:∀Z w',R cx st' Z w'->K ⟨Z,[]⟩ w'):aa.wp cx.P ⟨T,[]⟩ w K Q:=by
 unfold Fo at o
 split at o
 ·rename_i r Y
  cases o
  exact Q0 O h Y U W
 ·split at o
  ·rename_i r Y
   cases o
   exact SS O h Y U W
  ·exact KM O h o U W
end Go.Ev
namespace Go.Ev
open Go Go.RowKit
variable [b6]
variable {cx:bB} {m aA:Nat->Value} {st st':ae} {T:Array Value} {w w':World}
def gI(i:Nat)(l:List Nat):Bool:=l.any (Nat.beq i)
theorem s6{i:Nat}{l:List Nat}:gI i l=true↔i∈l:=by
 unfold gI
 rw[List.any_eq_true]
 exact⟨fun⟨x,o,e⟩=>by rw[Nat.eq_of_beq_eq_true e];exact o,fun h=>⟨i,h,Nat.beq_refl i⟩⟩
def iV{α:Type}(o:List Nat)(l:List (Nat×α)):List (Nat×α):=l.filter fun p=>!(gI p.1 o)
theorem qt{α:Type}{o:List Nat}{l:List (Nat×α)}{p:Nat×α}:p∈iV o l↔p∈l/\p.1∉o:=by
 unfold iV
 rw[List.mem_filter,Bool.not_eq_true',<-s6]
 exact⟨fun⟨a,b⟩=>⟨a,by rw[b];decide⟩,fun⟨a,b⟩=>⟨a,by cases h:gI p.1 o with|true=>exact absurd h b|false=>rfl⟩⟩
def ae.dO(st:ae)(o:List Nat)(O:List (Nat×bL))(U:List (Nat×cw))(f:ak->ak):ae:=
 {ab:=st.ab.map fun p=>(p.1,f p.2),ad:=O++(iV o st.ad).map fun p=>(p.1,p.2.map f),rw:=U++iV o st.rw}
theorem sH{D:List Nat}{U:List (Nat×bL)}{W:List (Nat×cw)}{f:ak->ak}{i:Nat}:i∈(st.dO D U W f).ids↔(i∈U.map (·.1)\/i∈W.map (·.1))\/(i∈st.ids/\i∉D):=by
 simp only[ae.ids,ae.dO,List.map_append,List.mem_append,List.map_map,Function.comp_def]
 have Y:∀{α:Type} {l:List (Nat×α)},i∈(iV D l).map (·.1)↔i∈l.map (·.1)/\i∉D:=by
  intro α l
  rw[List.mem_map,List.mem_map]
  constructor
  ·rintro⟨p,O,rfl⟩;obtain⟨a,b⟩:=qt.1 O;exact⟨⟨p,a,rfl⟩,b⟩
  ·rintro⟨⟨p,O,rfl⟩,o⟩;exact⟨p,qt.2 ⟨O,o⟩,rfl⟩
 have Z:i∈List.map (fun x:Nat×bL=>x.fst) (iV D st.ad)↔i∈st.ad.map (·.1)/\i∉D:=Y
 have la:i∈List.map (fun x:Nat×cw=>x.fst) (iV D st.rw)↔i∈st.rw.map (·.1)/\i∉D:=Y
 rw[Z,la]
 constructor
 ·rintro((h|h)|(h|h))
  ·exact .inl (.inl h)
  ·exact .inr ⟨.inl h.1,h.2⟩
  ·exact .inl (.inr h)
  ·exact .inr ⟨.inr h.1,h.2⟩
 ·rintro((h|h)|⟨h|h,o⟩)
  ·exact .inl (.inl h)
  ·exact .inr (.inl h)
  ·exact .inl (.inr ⟨h,o⟩)
  ·exact .inr (.inr ⟨h,o⟩)
structure iZ(cx:bB)(m aA:Nat->Value)(st:ae)(w w':World)(U:List Nat)(o:List (Nat×bL))(O:List (Nat×cw)):Prop where
 same:Same w w'
 block:∀g,g<w.heap.size->(∀j,j∈U->j∈st.ids->¬own (m j) g)->w'.heap[g]? =w.heap[g]?
 old:∀i,i∈st.ids->i∉U->aA i=m i
 new:∀i,i∈o.map (·.1)\/i∈O.map (·.1)->∀g,own (aA i) g->(∃j,j∈U/\j∈st.ids/\own (m j) g)\/(w.heap.size<=g/\g<w'.heap.size)
 apart:∀i j,i∈o.map (·.1)\/i∈O.map (·.1)->j∈o.map (·.1)\/j∈O.map (·.1)->i≠j->∀g,own (aA i) g->¬own (aA j) g
 keys:(o.map (·.1)++O.map (·.1)).Nodup
 pB:∀i,i∈o.map (·.1)\/i∈O.map (·.1)->i∈st.ids->i∈U
 pj:∀b c,(b,c)∈o->c.one=true->b<cx.n
 ew:∀r c,(r,c)∈O->r<cx.n
theorem iZ.keeps{D:List Nat}{o:List (Nat×bL)}{O:List (Nat×cw)}(X:iZ cx m aA st w w' D o O):∀b,b<w.heap.size->¬ap cx m st.ids b->w'.heap[b]? =w.heap[b]? :=
 fun b U W=>X.block b U fun j _ Y Z=>W (.inr ⟨j,Y,Z⟩)
theorem iZ.mut{D:List Nat}{U:List (Nat×bL)}{W:List (Nat×cw)}{f:ak->ak}(X:iZ cx m aA st w w' D U W):∀b,b<w.heap.size->ap cx aA (st.dO D U W f).ids b->ap cx m st.ids b:=by
 rintro b ld (Y|⟨i,o,O⟩)
 ·exact .inl Y
 ·rcases sH.1 o with o|⟨o,Z⟩
  ·rcases X.new i o b O with ⟨j,_,la,lc⟩|⟨h1,_⟩
   ·exact .inr ⟨j,la,lc⟩
   ·omega
  ·rw[X.old i o Z]at O
   exact .inr ⟨i,o,O⟩
theorem am.Jt(h:am cx m st T w){D:List Nat}{W:List (Nat×bL)}{Y:List (Nat×cw)}{f:ak->ak}(X:iZ cx m aA st w w' D W Y)
  (lE:∀v s,aQ w' (ap cx aA (st.dO D W Y f).ids) m v s->aQ w' (ap cx aA (st.dO D W Y f).ids) aA v (f s))
  (lF:∀b c,(b,c)∈W->∃g,iR (aA b) g c/\ig w' (ap cx aA (st.dO D W Y f).ids) aA (aA b) g c)
  (lG:∀r c,(r,c)∈Y->∃cells,w'.ownsRow 0 c.e c.t.cells (aA r) c.xs.length cells/\bD (aF w' (ap cx aA (st.dO D W Y f).ids) c.t) cells c.xs):am cx aA (st.dO D W Y f) T w':=by
 have lm:=X.keeps
 have ln:=X.mut (f:=f)
 have lu:∀v s,aQ w (ap cx m st.ids) m v s->aQ w' (ap cx aA (st.dO D W Y f).ids) aA v (f s):=fun v s lH=>lE v s (fV lm ln lH)
 have lv:∀j,j∈st.ids->j∉D->∀g,own (m j) g->w'.heap[g]? =w.heap[g]? :=fun j O ld g la=>X.block g (h.lt O la).1 fun i Z lI lJ=>h.apart i j lI O (fun e=>ld (e▸Z)) g lJ la
 have lw:∀i,i∈W.map (·.1)\/i∈Y.map (·.1)->∀g,own (aA i) g->cx.bC.heap.size<=g\/cx.X g:=fun i Z g la=>by
  rcases X.new i Z g la with ⟨j,_,O,lK⟩|⟨h1,_⟩
  ·exact(h.lt O lK).2
  ·exact .inl (Nat.le_trans h.frame.size h1)
 have lL:∀{b c},(b,c)∈W->b∈W.map (·.1)\/b∈Y.map (·.1):=fun o=>.inl (List.mem_map.2 ⟨_,o,rfl⟩)
 have jo:∀{b c},(b,c)∈Y->b∈W.map (·.1)\/b∈Y.map (·.1):=fun o=>.inr (List.mem_map.2 ⟨_,o,rfl⟩)
 have lo:∀{b c},(b,c)∈st.ad->b∈st.ids:=fun o=>List.mem_append.2 (.inl (List.mem_map.2 ⟨_,o,rfl⟩))
 have lp:∀{b c},(b,c)∈st.rw->b∈st.ids:=fun o=>List.mem_append.2 (.inr (List.mem_map.2 ⟨_,o,rfl⟩))
 refine{size:=h.size,frame:=?_,outer:=h.outer,cI:=?_,boxes:=?_,rows:=?_,apart:=?_,keys:=?_,fixed:=?_,kept:=?_}
 ·refine h.frame.step X.same fun b o lM=>X.block b (Nat.lt_of_lt_of_le o h.frame.size) fun j _ O la=>?_
  rcases(h.lt O la).2 with lx|lx
  ·omega
  ·exact lM lx
 ·intro i aJ Z
  obtain⟨⟨j,s⟩,U,lh⟩:=List.mem_map.1 Z
  cases lh
  obtain⟨v,li,a2⟩:=h.cI j s U
  exact⟨v,li,lu v s a2⟩
 ·intro b c o
  rcases List.mem_append.1 o with o|o
  ·obtain⟨g,li,a2⟩:=lF b c o
   exact⟨g,li,lw b (lL o),a2⟩
  ·obtain⟨⟨j,s⟩,U,lh⟩:=List.mem_map.1 o
   cases lh
   obtain⟨U,ld⟩:=qt.1 U
   obtain⟨g,lg,lj,lk⟩:=h.boxes j s U
   rw[X.old j (lo U) ld]
   exact⟨g,kU.2 lg,lj,kj lm ln (ix lg) (lv j (lo U) ld) lu lk⟩
 ·intro r c lc
  rcases List.mem_append.1 lc with lc|lc
  ·obtain⟨cells,li,a2⟩:=lG r c lc
   exact⟨cells,li,lw r (jo lc),a2⟩
  ·obtain⟨U,ld⟩:=qt.1 lc
   obtain⟨cells,lg,lj,lk⟩:=h.rows r c U
   rw[X.old r (lp U) ld]
   exact⟨cells,rK lg fun b o=>lv r (lp U) ld b (hq o),lj,dx (fun _ _=>cB lm ln c.t) lk⟩
 ·intro i j Z O ly g la lf
  rcases sH.1 Z with Z|⟨Z,lz⟩
  ·rcases sH.1 O with O|⟨O,ll⟩
   ·exact X.apart i j Z O ly g la lf
   ·rw[X.old j O ll]at lf
    rcases X.new i Z g la with ⟨k,hk,lq,lr⟩|⟨h1,_⟩
    ·exact h.apart k j lq O (fun e=>ll (e▸hk)) g lr lf
    ·have:=(h.lt O lf).1;omega
  ·rw[X.old i Z lz]at la
   rcases sH.1 O with O|⟨O,ll⟩
   ·rcases X.new j O g lf with ⟨k,hk,lq,lr⟩|⟨h1,_⟩
    ·exact h.apart k i lq Z (fun e=>lz (e▸hk)) g lr la
    ·have:=(h.lt Z la).1;omega
   ·rw[X.old j O ll]at lf
    exact h.apart i j Z O ly g la lf
 ·have lA:∀{α:Type} {l:List (Nat×α)},(iV D l).map (·.1)=(l.map (·.1)).filter fun k=>!(gI k D):=by
   intro α l
   induction l with
   |nil=>rfl
   |cons p r lB=>
    unfold iV at lB⊢
    cases o:gI p.1 D<;>simp[o,lB]
  show((W++(iV D st.ad).map fun p=>(p.1,p.2.map f)).map (·.1)++(Y++iV D st.rw).map (·.1)).Nodup
  have lg:(W++(iV D st.ad).map fun p=>(p.1,p.2.map f)).map (·.1)=W.map (·.1)++(st.ad.map (·.1)).filter fun k=>!(gI k D):=by
   rw[<-lA];simp[List.map_map,Function.comp_def]
  have lj:(Y++iV D st.rw).map (·.1)=Y.map (·.1)++(st.rw.map (·.1)).filter fun k=>!(gI k D):=by rw[<-lA];simp
  rw[lg,lj]
  have lk:(st.ad.map (·.1)).filter (fun k=>!(gI k D))++(st.rw.map (·.1)).filter (fun k=>!(gI k D))=st.ids.filter fun k=>!(gI k D):=by simp[ae.ids]
  have lN:List.Perm (W.map (·.1)++(st.ad.map (·.1)).filter (fun k=>!(gI k D))++(Y.map (·.1)++(st.rw.map (·.1)).filter fun k=>!(gI k D)))
    ((W.map (·.1)++Y.map (·.1))++st.ids.filter fun k=>!(gI k D)):=by
   rw[<-lk]
   simp only[List.append_assoc]
   refine List.Perm.append_left _ ?_
   rw[<-List.append_assoc,<-List.append_assoc]
   exact List.Perm.append_right _ List.perm_append_comm
  rw[lN.nodup_iff,List.nodup_append]
  refine⟨X.keys,h.keys.filter _,fun a lO b o e=>?_⟩
  subst e
  obtain⟨h1,lC⟩:=List.mem_filter.1 o
  have:=X.pB a (List.mem_append.1 lO) h1
  rw[s6.2 this]at lC
  cases lC
 ·intro b c o lD lt
  rcases List.mem_append.1 o with o|o
  ·have:=X.pj b c o lD;omega
  ·obtain⟨⟨j,s⟩,U,lh⟩:=List.mem_map.1 o
   cases lh
   obtain⟨U,ld⟩:=qt.1 U
   rw[X.old j (lo U) ld]
   exact h.fixed j s U (ni.symm.trans lD) lt
 ·intro r c lc lt hk
  rcases List.mem_append.1 lc with lc|lc
  ·have:=X.ew r c lc;omega
  ·obtain⟨U,ld⟩:=qt.1 lc
   rw[X.old r (lp U) ld]
   exact h.kept r c U lt hk
/-! One element of such a slice. -/
theorem am.dO(h:am cx m st T w){D:List Nat}{o:List (Nat×bL)}{O:List (Nat×cw)}{f:ak->ak}(X:iZ cx m aA st w w' D o O)
  (U:∀M v s,aQ w' M m v s->aQ w' M aA v (f s))
  (W:∀b c,(b,c)∈o->∃g,iR (aA b) g c/\ig w' (ap cx aA (st.dO D o O f).ids) aA (aA b) g c)
  (Y:∀r c,(r,c)∈O->∃cells,w'.ownsRow 0 c.e c.t.cells (aA r) c.xs.length cells/\bD (aF w' (ap cx aA (st.dO D o O f).ids) c.t) cells c.xs):am cx aA (st.dO D o O f) T w':=
 h.Jt X (U _) W Y
theorem Ai{M:Nat->Prop}{k:ef}{h:Option Int}:∀{xs:List k.u.el} {n:Nat} {cs us:List Value},fU w M k h n xs cs us->us.length=xs.length/\cs.length=xs.length*k.u.cells
 |[],_,_,_,⟨h1,o⟩=>by rw[h1,o];exact⟨rfl,by simp⟩
 |x::xs,n,cs,us,⟨c,d,v,vs,O,U,W,_,Y⟩=>by
  obtain⟨a,b⟩:=Ai Y
  rw[O,W]
  refine⟨by simp[a],?_⟩
  rw[List.length_append,U,b,List.length_cons,Nat.succ_mul,Nat.add_comm]
theorem KZ{M:Nat->Prop}{k:ef}{h:Option Int}:∀{xs:List k.u.el} {n i:Nat} {x:k.u.el} {cs us:List Value},fU w M k h n xs cs us->xs[i]? =some x->
  ∃c1 c c2 o v O,cs=c1++c++c2/\c1.length=i*k.u.cells/\c.length=k.u.cells/\us=o++v::O/\o.length=i/\nf w M k (jl h (n+i)) c v x/\
   ∀{w':World} {M':Nat->Prop} {h':Option Int} {x':k.u.el} {c':List Value} {v':Value},(∀b,b<w.heap.size->¬M b->w'.heap[b]? =w.heap[b]?)->(∀b,b<w.heap.size->M' b->M b)->(∀j,j≠n+i->(jl h j↔jl h' j))->
    (∀u,u∈o\/u∈O->∀b,aO u=some b->w'.heap[b]? =w.heap[b]?)->c'.length=k.u.cells->nf w' M' k (jl h' (n+i)) c' v' x'->fU w' M' k h' n (xs.set i x') (c1++c'++c2) (o++v'::O)
 |[],_,_,_,_,_,_,U=>by simp at U
 |y::xs,n,0,x,cs,us,⟨c,d,v,vs,ld,W,lf,lg,lh⟩,U=>by
  simp at U
  subst U
  subst ld
  subst lf
  refine⟨[],c,d,[],v,vs,rfl,by simp,W,rfl,rfl,lg,fun{w' M' h' x' c' v'} Y Z la lc li lj=>?_⟩
  exact⟨c',d,v',vs,by simp,li,rfl,lj,tx Y Z (fun m lq=>la m (by omega)) (fun u lk=>lc u (.inr lk)) lh⟩
 |y::xs,n,i+1,x,cs,us,⟨c,d,v,vs,ld,W,lf,lg,lh⟩,U=>by
  subst ld
  subst lf
  obtain⟨c1,ln,c2,o,v0,O,lo,a2,a3,a4,a5,ll,lm⟩:=KZ (i:=i) lh (by simpa using U)
  subst lo
  subst a4
  have lp:n+1+i=n+(i+1):=by omega
  rw[lp]at ll lm
  refine⟨c++c1,ln,c2,v::o,v0,O,by simp,by rw[List.length_append,W,a2,Nat.succ_mul,Nat.add_comm],a3,by simp,by simp[a5],ll,fun{w' M' h' x' c' v'} Y Z la lc li lj=>?_⟩
  refine⟨c,c1++c'++c2,v,o++v'::O,by simp,W,by simp,EO Y Z (la n (by omega)) (lc v (.inl List.mem_cons_self)) lg,?_⟩
  exact lm Y Z la (fun u lk=>lc u (lk.elim (fun h=>.inl (List.mem_cons_of_mem _ h)) .inr)) li lj
theorem am.bj(h:am cx m st T w){b e:Nat}{k:ef}{xs:List k.u.el}{o:Option Int}(O:look st.ad b=some (.bj e k xs o)):
  ∃af us cells,m b=.tuple (af::us).toArray/\w.ownsRow 0 e k.u.cells af xs.length cells/\fU w (ap cx m st.ids) k o 0 xs cells us/\((af::us).filterMap aO).Nodup:=by
 obtain⟨g,_,_,af,us,cells,h1,U,W,Y⟩:=h.boxes b _ (aX O)
 exact⟨af,us,cells,h1,U,W,Y⟩
theorem Wy{r:Value}{us:List Value}{g:Nat}:own (.tuple (r::us).toArray) g↔g∈(r::us).filterMap aO:=by
 rw[dj,List.mem_filterMap]
 constructor
 ·rintro(h|⟨u,hu,h⟩)
  ·exact⟨r,List.mem_cons_self,h⟩
  ·exact⟨u,List.mem_cons_of_mem _ hu,h⟩
 ·rintro⟨u,hu,h⟩
  rcases List.mem_cons.1 hu with rfl|hu
  ·exact .inl h
  ·exact .inr ⟨u,hu,h⟩
theorem vA{e o n:Nat}{v:Value}{cells:List Value}(h:w.ownsRow 0 e o v n cells)(la:0<n):∃g cap cur,v=.slice (some ⟨g,0,none⟩) n cap/\w.heap[g]? =some (.cells cur e (0,0))/\n<=cap/\cap<=maxLen/\cur.size=cap*o/\cur.toList.take (n*o)=cells:=by
 rcases h.2 with ⟨_,lc⟩|⟨g,cap,cur,O,_,U,h1,W,Y,Z⟩
 ·omega
 ·exact⟨g,cap,cur,O,U,h1,W,Y,Z⟩
def ak.dQ(o:List Nat)(s:ak):ak:=bif o.any (fun r=>s.refs r)then .any else s
theorem Uq{D:List Nat}{s:ak}(h:D.any (fun r=>s.refs r)=false){b:Nat}(o:s.refs b=true):b∉D:=by
 intro af
 have:=List.any_eq_false.1 h b af
 exact this o
theorem sR{M:Nat->Prop}{m2:Nat->Value}:∀{vs:List Value} {l:List bQ},(∀b,l.any (bQ.is b)=true->m2 b=m b)->dd w M m vs l->dd w M m2 vs l
 |[],[],_,_=>trivial
 |[],_::_,_,h=>h.elim
 |_::_,[],_,h=>h.elim
 |_::_,.v _::_,o,⟨h1,U⟩=>⟨h1,sR (fun b O=>o b (by rw[List.any_cons,O,Bool.or_true])) U⟩
 |_::vs,.a::us,o,h=>sR (vs:=vs) (l:=us) (fun b O=>o b (by rw[List.any_cons,O,Bool.or_true])) h
 |_::_,.r c::_,o,⟨h1,U⟩=>⟨by rw[o c (by rw[List.any_cons];show(Nat.beq c c||_)=true;rw[Nat.beq_refl,Bool.true_or])];exact h1,sR (fun b O=>o b (by rw[List.any_cons,O,Bool.or_true])) U⟩
theorem pz{M:Nat->Prop}{m2:Nat->Value}{D:List Nat}(la:∀b,b∉D->m2 b=m b){v:Value}{s:ak}(h:aQ w M m v s):aQ w M m2 v (s.dQ D):=by
 unfold ak.dQ
 cases af:D.any (fun r=>s.refs r)with
 |true=>trivial
 |false=>
  have key:∀b,s.refs b=true->m2 b=m b:=fun b O=>la b (Uq af O)
  show aQ w M m2 v s
  cases s with
  |any=>trivial
  |undef=>exact h
  |val t x=>exact h
  |dP l=>exact h
  |vptr t x=>exact h
  |ptr b off=>obtain⟨g,h1,o⟩:=h;exact⟨g,by rw[key b (Nat.beq_refl b)];exact h1,o⟩
  |fw b=>show _\/v=m2 b;rw[key b (Nat.beq_refl b)];exact h
  |row b=>show v=m2 b;rw[key b (Nat.beq_refl b)];exact h
  |dV b i off Y=>obtain⟨g,n,cap,h1,o⟩:=h;exact⟨g,n,cap,by rw[key b (Nat.beq_refl b)];exact h1,o⟩
  |iter b=>show v=m2 b;rw[key b (Nat.beq_refl b)];exact h
  |dE b p=>obtain⟨g,h1,o⟩:=h;exact⟨g,by rw[key b (Nat.beq_refl b)];exact h1,o⟩
  |osl b=>obtain⟨us,h1⟩:=h;exact⟨us,by rw[key b (Nat.beq_refl b)];exact h1⟩
  |gc b i=>obtain⟨g,n,cap,us,h1,o⟩:=h;exact⟨g,n,cap,us,by rw[key b (Nat.beq_refl b)];exact h1,o⟩
  |sub b i=>obtain⟨U,us,h1,o⟩:=h;exact⟨U,us,by rw[key b (Nat.beq_refl b)];exact h1,o⟩
  |clos f Z=>
   have e:Z.map m2=Z.map m:=List.map_congr_left fun b O=>key b (List.any_eq_true.2 ⟨b,O,Nat.beq_refl b⟩)
   show v=_
   rw[e]
   exact h
  |gn l=>obtain⟨vs,e,W⟩:=h;exact⟨vs,e,sR key W⟩
  |eH l=>obtain⟨vs,e,W⟩:=h;exact⟨vs,e,sR key W⟩
  |af n=>exact h
  |bX f b=>show v=_;rw[key b (Nat.beq_refl b)];exact h
  |dW b i off Y=>obtain⟨g,n,cap,us,h1,o⟩:=h;exact⟨g,n,cap,us,by rw[key b (Nat.beq_refl b)];exact h1,o⟩
  |fD b i j off Y=>obtain⟨U,us,g,n,cap,h1,o⟩:=h;exact⟨U,us,g,n,cap,by rw[key b (Nat.beq_refl b)];exact h1,o⟩
end Go.Ev
namespace Go.Ev
open Go Go.RowKit
variable [b6]
variable {cx:bB} {m aA:Nat->Value} {st st':ae} {T:Array Value} {w w':World}
def gm{α:Type}(l:List α)(off:Nat)(o:List α):List α:=l.take off++o++l.drop (off+o.length)
theorem AP{α:Type}{l o:List α}{off:Nat}(h:off+o.length<=l.length):(gm l off o).length=l.length:=by
 unfold gm
 simp only[List.length_append,List.length_take,List.length_drop]
 omega
theorem ti{α:Type}{l O:List α}{off p:Nat}(h:off+O.length<=l.length)(o:p<off\/off+O.length<=p):(gm l off O)[p]? =l[p]? :=by
 unfold gm
 rcases o with o|o
 ·rw[List.append_assoc,List.getElem?_append_left (by rw[List.length_take];omega),List.getElem?_take,if_pos o]
 ·rw[List.getElem?_append_right (by simp only[List.length_append,List.length_take];omega),List.getElem?_drop]
  congr 1
  simp only[List.length_append,List.length_take]
  omega
theorem Om{α:Type}(a b c o:List α)(h:o.length=b.length):gm (a++b++c) a.length o=a++o++c:=by
 unfold gm
 rw[List.append_assoc a b c,List.take_left,h,<-List.append_assoc,<-List.length_append,List.drop_left]
theorem Q8{α:Type}{l o:List α}{off k:Nat}{a:α}(h:off+o.length<=l.length)(hk:k<off\/off+o.length<=k):gm (l.set k a) off o=(gm l off o).set k a:=by
 refine List.ext_getElem? fun p=>?_
 rcases Nat.lt_or_ge p off with h1|h1
 ·rw[ti (by simpa using h) (.inl h1),List.getElem?_set,List.getElem?_set,ti h (.inl h1),AP h]
 ·rcases Nat.lt_or_ge p (off+o.length)with O|O
  ·rw[List.getElem?_set_ne (by omega)]
   unfold gm
   rw[List.getElem?_append_left (by simp only[List.length_append,List.length_take,List.length_set];omega),List.getElem?_append_right (by simp only[List.length_take,List.length_set];omega),
    List.getElem?_append_left (by simp only[List.length_append,List.length_take];omega),List.getElem?_append_right (by simp only[List.length_take];omega)]
   simp only[List.length_take,List.length_set]
  ·rw[ti (by simpa using h) (.inr O),List.getElem?_set,List.getElem?_set,ti h (.inr O),AP h]
theorem am.mE(h:am cx m st T w){b e i:Nat}{k:ef}{xs:List k.u.el}{U:Option Int}{x:k.u.el}(lf:look st.ad b=some (.bj e k xs U))(W:xs[i]? =some x):
  ∃g cap cur us c1 c c2 o v O,m b=.tuple (.slice (some ⟨g,0,none⟩) xs.length cap::us).toArray/\w.heap[g]? =some (.cells cur e (0,0))/\xs.length<=cap/\cap<=maxLen/\cur.size=cap*k.u.cells/\
   cur.toList=c1++c++(c2++cur.toList.drop (xs.length*k.u.cells))/\c1.length=i*k.u.cells/\c.length=k.u.cells/\(c1++c++c2).length=xs.length*k.u.cells/\us=o++v::O/\o.length=i/\us.length=xs.length/\
   nf w (ap cx m st.ids) k (jl U i) c v x/\(g::us.filterMap aO).Nodup/\
   ∀{w':World} {M':Nat->Prop} {h':Option Int} {x':k.u.el} {c':List Value} {v':Value},(∀b,b<w.heap.size->¬ap cx m st.ids b->w'.heap[b]? =w.heap[b]?)->(∀b,b<w.heap.size->M' b->ap cx m st.ids b)->(∀j,j≠i->(jl U j↔jl h' j))->
    (∀u,u∈o\/u∈O->∀b,aO u=some b->w'.heap[b]? =w.heap[b]?)->c'.length=k.u.cells->nf w' M' k (jl h' i) c' v' x'->fU w' M' k h' 0 (xs.set i x') (c1++c'++c2) (o++v'::O):=by
 obtain⟨af,us,cells,lg,Y,Z,lh⟩:=h.bj lf
 have ln:i<xs.length:=(List.getElem?_eq_some_iff.1 W).1
 obtain⟨g,cap,cur,li,lj,h1,lk,ll,lm⟩:=vA Y (by omega)
 obtain⟨c1,c,c2,o,v,O,la,a2,a3,a4,a5,lc,ld⟩:=KZ Z W
 rw[Nat.zero_add]at lc ld
 subst li
 refine⟨g,cap,cur,us,c1,c,c2,o,v,O,lg,lj,h1,lk,ll,?_,a2,a3,by rw[<-la];exact Y.1,a4,a5,(Ai Z).1,lc,by simpa[aO]using lh,ld⟩
 conv=>lhs;rw[<-List.take_append_drop (xs.length*k.u.cells) cur.toList]
 rw[lm,la]
 simp
theorem Hb{e o n:Nat}{g cap:Nat}{cur:Array Value}{c1 c c' c2 rest:List Value}(W:w.heap[g]? =some (.cells cur e (0,0)))(h1:n<=cap)(Y:cap<=maxLen)(Z:cur.size=cap*o)(la:cur.toList=c1++c++(c2++rest))(lc:(c1++c++c2).length=n*o)(O:c'.length=c.length):
  (w.setRow g (c1++c'++(c2++rest)).toArray).ownsRow 0 e o (.slice (some ⟨g,0,none⟩) n cap) n (c1++c'++c2):=by
 have U:(c1++c'++c2).length=n*o:=by rw[<-lc];simp only[List.length_append,O]
 refine⟨U,.inr ⟨g,cap,_,rfl,Nat.zero_le _,setRow_heap _ _ _ _ _ _ W,h1,Y,?_,?_⟩⟩
 ·rw[List.size_toArray,<-Z,<-Array.length_toList,la];simp only[List.length_append,O]
 ·have:c1++c'++(c2++rest)=(c1++c'++c2)++rest:=by simp
  rw[List.toList_toArray,this,<-U,List.take_left]
theorem vT{O U:List Value}{v:Value}{g:Nat}(h:(g::(O++v::U).filterMap aO).Nodup):(∀b,aO v=some b->b≠g/\∀u,u∈O\/u∈U->aO u≠some b)/\∀u,u∈O\/u∈U->aO u≠some g:=by
 obtain⟨h1,o⟩:=List.nodup_cons.1 h
 refine⟨fun b W=>⟨fun e=>h1 (List.mem_filterMap.2 ⟨v,by simp,by rw[<-e];exact W⟩),fun u hu e=>?_⟩,fun u hu e=>h1 (List.mem_filterMap.2 ⟨u,by rcases hu with hu|hu<;>simp[hu],e⟩)⟩
 rw[List.filterMap_append,List.filterMap_cons,W]at o
 simp only at o
 rw[List.nodup_append]at o
 rcases hu with hu|hu
 ·exact o.2.2 b (List.mem_filterMap.2 ⟨u,hu,e⟩) b List.mem_cons_self rfl
 ·exact(List.nodup_cons.1 o.2.1).1 (List.mem_filterMap.2 ⟨u,hu,e⟩)
abbrev fe{t:ag}(x:(ag.ab t).el):List t.el:=x
theorem GD{O U:List Value}{v x:Value}{g:Nat}(h:(g::(O++v::U).filterMap aO).Nodup)(lh:∀b,aO x=some b->b≠g/\∀u,u∈O\/u∈U->aO u≠some b):(g::(O++x::U).filterMap aO).Nodup:=by
 obtain⟨li,lj⟩:=List.nodup_cons.1 h
 have ld:((O++U).filterMap aO).Sublist ((O++v::U).filterMap aO):=List.Sublist.filterMap _ (List.Sublist.append (List.Sublist.refl O) (List.sublist_cons_self v U))
 have Y:g∉(O++U).filterMap aO:=fun o=>li (ld.subset o)
 have W:=lj.sublist ld
 rw[List.filterMap_append]at Y W
 rw[List.filterMap_append,List.filterMap_cons]
 cases lk:aO x with
 |none=>exact List.nodup_cons.2 ⟨Y,W⟩
 |some b=>
  obtain⟨h1,lf⟩:=lh b lk
  rw[List.nodup_append]at W
  refine List.nodup_cons.2 ⟨fun o=>?_,?_⟩
  ·rcases List.mem_append.1 o with o|o
   ·exact Y (List.mem_append.2 (.inl o))
   ·rcases List.mem_cons.1 o with o|o
    ·exact h1 o.symm
    ·exact Y (List.mem_append.2 (.inr o))
  ·rw[List.nodup_append]
   refine⟨W.1,List.nodup_cons.2 ⟨fun o=>?_,W.2.1⟩,fun a lg ll Z=>?_⟩
   ·obtain⟨u,la,lc⟩:=List.mem_filterMap.1 o
    exact lf u (.inr la) lc
   ·rcases List.mem_cons.1 Z with rfl|Z
    ·rintro rfl
     obtain⟨u,la,lc⟩:=List.mem_filterMap.1 lg
     exact lf u (.inl la) lc
    ·exact W.2.2 a lg ll Z
def DB(P:Program)(st:ae)(t:TypeId)(x:Operand)(orc:List aj):Option dG:=
 match aP st x,ty P t with
 |some (.dW b i off O),some o=>match look st.ad b,orc with
  |some (.bj _ k xs none),a::orc'=>match a.as k.u,Nat.beq O k.u.cells with
   |some x,true=>match Nat.beq off k.off&&o.beq (.ab k.t)with
    |true=>some ⟨.sub b i,orc',[ao xs i=some x]⟩
    |false=>match cn k.u x k.off ⟨.ab k.t,[]⟩,Nat.ble (off+o.cells) k.off||Nat.blt k.off off,Nat.beq o.cells 0 with
     |some U,true,false=>match cE k.u U off o with
      |some y=>some ⟨.val o y,orc',[ao xs i=some x]⟩
      |none=>none
     |_,_,_=>none
   |_,_=>none
  |_,_=>none
 |some (.fD b i j off O),some o=>match look st.ad b,orc with
  |some (.bj _ k xs none),a::c::orc'=>match a.as k.u,c.as k.t,Nat.beq O k.t.cells with
   |some x,some z,true=>match cE k.u x k.off (.ab k.t),cE k.t z off o,Nat.beq o.cells 0 with
    |some W,some y,false=>some ⟨.val o y,orc',[ao xs i=some x,ao (fe W) j=some z]⟩
    |_,_,_=>none
   |_,_,_=>none
  |_,_=>none
 |_,_=>none
theorem kf{α:Type}{xs:List α}{i:Int}{x:α}(h:ao xs i=some x):xs[i.toNat]? =some x:=(js h).2.2
theorem yh{M:Nat->Prop}{k:ef}{cs:List Value}{v:Value}{x:k.u.el}{n:Nat}(h:nf w M k (jl none n) cs v x):∃(o:List k.t.el) (cells:List Value),cE k.u x k.off (.ab k.t)=some o/\w.ownsRow 0 k.e k.t.cells v o.length cells/\bD (aF w M k.t) cells o/\cs[k.off]? =some v:=by
 obtain⟨L,v1,la,O,U,_,_,_,_,W⟩:=h
 obtain⟨rfl,o,cells,h1,Y,Z⟩:=W fun⟨_,h,_⟩=>by cases h
 refine⟨o,cells,h1,Y,Z,?_⟩
 rw[O,List.getElem?_set_self (List.getElem?_eq_some_iff.1 U).1]
theorem QS(h:am cx m st T w){t:TypeId}{x:Operand}{orc:List aj}{lm:dG}(o:DB cx.P st t x orc=some lm)(lh:bJ lm.ob):
  ∃v,(∀w',Ext w w'->(Instr.loadAt t (Act.eval ⟨T,[]⟩ x)).run cx.P w'=.ok v w')/\aQ w (ap cx m st.ids) m v lm.aJ:=by
 unfold DB at o
 split at o
 ·rename_i b i off la ln lo li
  obtain⟨g2,lw,lx,lS,Z,a2⟩:=aW h lo
  split at o
  case h_2=>cases o
  rename_i e k xs a orc' lj
  split at o
  case h_2=>cases o
  rename_i lK _ W
  have W:=Nat.eq_of_beq_eq_true W
  have ly:∀g,g2=g->Instr.loadAt t (Act.eval ⟨T,[]⟩ x)=loadVar t ⟨g,i.toNat*la+off,none⟩:=by rintro g rfl;rw[a2];rfl
  have key:∀{g cap us},m b=.tuple (.slice (some ⟨g,0,none⟩) xs.length cap::us).toArray->g2=g:=by
   intro g cap us lk
   rw[lk]at Z
   simp only[Value.tuple.injEq,Array.mk.injEq,List.cons.injEq,Value.slice.injEq,Option.some.injEq,Addr.mk.injEq]at Z
   exact Z.1.1.1.symm
  split at o
  ·rename_i az
   cases o
   simp only[Bool.and_eq_true]at az
   have lz:=Nat.eq_of_beq_eq_true az.1
   obtain rfl:=ag.eq_of_beq az.2
   obtain⟨g,cap,cur,us,c1,c,c2,lA,v,lB,f1,f2,f3,f4,f5,f6,f7,f8,f9,f10,f11,f12,f13,f14,f15⟩:=h.mE lj (kf lh.1)
   obtain⟨lL,cells,lp,lC,lD,lq⟩:=yh f13
   obtain⟨v',lc,O⟩:=jS (P:=cx.P) (c:=[v]) (off:=i.toNat*la+off) li f2 (fun j u U=>by
    have ld:j=0:=by have:=(List.getElem?_eq_some_iff.1 U).1;simpa using this
    subst ld
    simp at U
    subst U
    rw[<-Array.getElem?_toList,f6,Nat.add_zero,W,lz,<-f7,List.append_assoc,List.getElem?_append_right (by omega),Nat.add_sub_cancel_left,List.getElem?_append_left (by rw[<-lz];have:=(List.getElem?_eq_some_iff.1 lq).1;omega)]
    exact lq) rfl (fun _=>Nat.zero_lt_one)
   simp[ag.agg]at O
   subst O
   exact⟨v,fun lf lg=>by rw[ly g (key f1)];exact lc lf lg,_,us,f1,by rw[f10,<-f11];simp⟩
  ·split at o
   case h_2=>cases o
   rename_i lT lM lE lr
   split at o
   case h_2=>cases o
   rename_i y lt
   cases o
   obtain⟨g,cap,cur,us,c1,c,c2,lA,v,lB,f1,f2,f3,f4,f5,f6,f7,f8,f9,f10,f11,f12,f13,f14,f15⟩:=h.mE lj (kf lh.1)
   obtain⟨L,v1,lU,lk,lV,_,lF,lN,_,_⟩:=f13
   rw[lM]at lF
   cases lF
   obtain⟨d1,d2,d3,lG,cY,fh⟩:=pf k.u lN lt
   have lO:=ch ln fh
   obtain⟨v',lc,O⟩:=jS (P:=cx.P) (c:=d2) (off:=i.toNat*la+off) li f2 (fun j u U=>by
    have ld:=(List.getElem?_eq_some_iff.1 U).1
    have lW:L.length=k.u.cells:=by rw[<-f8,lk,List.length_set]
    have lX:L.length=d1.length+d2.length+d3.length:=by rw[lG];simp[Nat.add_assoc]
    rw[<-Array.getElem?_toList,f6,W,Nat.add_assoc,<-f7,List.append_assoc,List.getElem?_append_right (by omega),Nat.add_sub_cancel_left,List.getElem?_append_left (by omega),lk,List.getElem?_set_ne,lG,<-cY,List.append_assoc,List.getElem?_append_right (by omega),Nat.add_sub_cancel_left,List.getElem?_append_left ld]
    ·exact U
    ·simp only[Bool.or_eq_true]at lE
     rcases lE with af|af
     ·have:=Nat.le_of_ble_eq_true af;omega
     ·have:=cG af;omega) lO (fun _=>Nat.pos_of_ne_zero (by simpa using beq_false lr))
   refine⟨v',fun lf lg=>by rw[ly g (key f1)];exact lc lf lg,?_⟩
   show a8 _ _ _ _ _
   unfold a8
   split at O
   ·rename_i Y;rw[if_pos Y];exact⟨d2,O,fh⟩
   ·rename_i Y;rw[if_neg Y,<-O];exact fh
 ·rename_i b i j off la ln lo li
  obtain⟨lY,lZ,g2,lw,lx,a0,Z,a2⟩:=aW h lo
  split at o
  case h_2=>cases o
  rename_i e k xs a l0 orc' lj
  split at o
  case h_2=>cases o
  rename_i lK z _ _ W
  have W:=Nat.eq_of_beq_eq_true W
  split at o
  case h_2=>cases o
  rename_i lL y lP lt lr
  cases o
  obtain⟨g,cap,cur,us,c1,c,c2,lA,v,lB,f1,f2,f3,f4,f5,f6,f7,f8,f9,f10,f11,f12,f13,f14,f15⟩:=h.mE lj (kf lh.1)
  obtain⟨l3,cells,lp,lC,lD,lq⟩:=yh f13
  rw[lP]at lp
  cases lp
  have lQ:v=.slice (some ⟨g2,0,none⟩) lw lx:=by
   rw[f1]at a0
   simp only[Value.tuple.injEq,Array.mk.injEq,List.cons.injEq]at a0
   rw[<-a0.2,f10,<-f11]at Z
   simpa using Z
  have lH:=kf lh.2.1
  obtain⟨d1,d2,d3,rfl,cY,fh⟩:=mC lD lH
  obtain⟨lu,ll,lI,rfl,lR,lv⟩:=pf k.t fh lt
  obtain⟨l4,l5,l6,t1,t2,t3,t4,t5,t6⟩:=vA lC (Nat.lt_of_le_of_lt (Nat.zero_le _) (List.getElem?_eq_some_iff.1 lH).1)
  rw[lQ]at t1
  cases t1
  obtain⟨v',lc,O⟩:=jS (P:=cx.P) (c:=ll) (off:=j.toNat*la+off) li t2 (fun lJ u U=>by
   have ld:=(List.getElem?_eq_some_iff.1 U).1
   have:(d1++(lu++ll++lI)++d3)[d1.length+lu.length+lJ]? =some u:=by rw[G6 d1 lu ll lI d3 lJ ld];exact U
   rw[<-t6,List.getElem?_take]at this
   split at this
   ·rw[<-Array.getElem?_toList,W,<-cY,<-lR];exact this
   ·cases this) (ch ln lv) (fun _=>Nat.pos_of_ne_zero (by simpa using beq_false lr))
  refine⟨v',fun lf lg=>by rw[a2];exact lc lf lg,?_⟩
  show a8 _ _ _ _ _
  unfold a8
  split at O
  ·rename_i Y;rw[if_pos Y];exact⟨ll,O,lv⟩
  ·rename_i Y;rw[if_neg Y,<-O];exact lv
 ·cases o
end Go.Ev
namespace Go.Ev
open Go Go.RowKit
variable [b6]
variable {cx:bB} {m aA:Nat->Value} {st st':ae} {T:Array Value} {w w':World}
def ak.rJ(b:Nat)(o:List Nat):ak->ak
 |.osl c=>bif Nat.beq c b then .osl c else ak.dQ o (.osl c)
 |.dW c i aa s=>bif Nat.beq c b then .dW c i aa s else ak.dQ o (.dW c i aa s)
 |s=>s.dQ o
theorem Gt{M:Nat->Prop}{D:List Nat}{b:Nat}{r:Value}{us O:List Value}(h1:m b=.tuple (r::us).toArray)(W:aA b=.tuple (r::O).toArray)(Z:∀i,i∉D->aA i=m i){v:Value}{s:ak}(h:aQ w M m v s):aQ w M aA v (s.rJ b D):=by
 have U:∀s:ak,aQ w M m v s->aQ w M aA v (s.dQ D):=fun s la=>pz Z la
 cases s with
 |osl c=>
  show aQ _ _ _ _ (bif Nat.beq c b then .osl c else ak.dQ D (.osl c))
  cases e:Nat.beq c b with
  |false=>exact U _ h
  |true=>
   have e:=Nat.eq_of_beq_eq_true e
   subst e
   obtain⟨lc,o⟩:=h
   refine⟨O,?_⟩
   rw[W]
   rw[h1]at o
   simp only[Value.tuple.injEq,Array.mk.injEq,List.cons.injEq]at o
   rw[o.1]
 |dW c i aa Y=>
  show aQ _ _ _ _ (bif Nat.beq c b then .dW c i aa Y else ak.dQ D (.dW c i aa Y))
  cases e:Nat.beq c b with
  |false=>exact U _ h
  |true=>
   have e:=Nat.eq_of_beq_eq_true e
   subst e
   obtain⟨g,n,cap,lc,o,ld⟩:=h
   refine⟨g,n,cap,O,?_,ld⟩
   rw[W]
   rw[h1]at o
   simp only[Value.tuple.injEq,Array.mk.injEq,List.cons.injEq]at o
   rw[o.1]
 |_=>exact U _ h
def Df(P:Program)(lf:Nat)(st:ae)(t:TypeId)(x y:Operand)(orc:List aj):Option (ae×List aj×List Prop):=
 match aP st x,ty P t,aP st y with
 |some (.dW b i off Z),some U,some (.val W z)=>match look st.ad b,orc with
  |some (.bj e k xs none),a::orc'=>match a.as k.u,Nat.beq Z k.u.cells&&W.beq U&&(Nat.ble (off+U.cells) k.off||Nat.blt k.off off)with
   |some o,true=>match cn k.u o off ⟨W,z⟩,cn k.u o k.off ⟨.ab k.t,[]⟩with
    |some O,some lc=>match cn k.u lc off ⟨W,z⟩with
     |some ld=>some (st.db b (.bj e k (xs.set i.toNat O) none),orc',[ao xs i=some o,cn k.u O k.off ⟨.ab k.t,[]⟩=some ld,cE k.u O k.off (.ab k.t)=cE k.u o k.off (.ab k.t)])
     |none=>none
    |_,_=>none
   |_,_=>none
  |_,_=>none
 |some (.fD b i j off Z),some U,some (.val W z)=>match look st.ad b,orc with
  |some (.bj e k xs none),a::c::orc'=>match a.as k.u,c.as k.t,Nat.beq Z k.t.cells&&W.beq U with
   |some o,some z0,true=>match cE k.u o k.off (.ab k.t),cn k.t z0 off ⟨W,z⟩with
    |some Y,some la=>match cn k.u o k.off ⟨.ab k.t,(fe Y).set j.toNat la⟩with
     |some O=>some (st.db b (.bj e k (xs.set i.toNat O) none),orc',[ao xs i=some o,ao (fe Y) j=some z0,cn k.u O k.off ⟨.ab k.t,[]⟩=cn k.u o k.off ⟨.ab k.t,[]⟩,cE k.u O k.off (.ab k.t)=some ((fe Y).set j.toNat la)])
     |none=>none
    |_,_=>none
   |_,_,_=>none
  |_,_=>none
 |some (.dW b i off Z),some U,some (.row r)=>match look st.ad b,look st.rw r,orc with
  |some (.bj e k xs h),some c,a::orc'=>match a.as k.u,Nat.beq Z k.u.cells&&(Nat.beq off k.off&&(U.beq (.ab k.t)&&(Nat.beq c.e k.e&&!(Nat.beq b r)))),aj.as ⟨.ab c.t,c.xs⟩ (.ab k.t)with
   |some o,true,some Y=>match cn k.u o k.off ⟨.ab k.t,Y⟩with
    |some O=>some (st.dO [b,r] [(b,.bj e k (xs.set i.toNat O) none)] [] (ak.rJ b [b,r]),orc',[ao xs i=some o,cn k.u O k.off ⟨.ab k.t,[]⟩=cn k.u o k.off ⟨.ab k.t,[]⟩,cE k.u O k.off (.ab k.t)=some Y]++(match h with
     |none=>[]
     |some i0=>[i0=i]))
    |none=>none
   |_,_,_=>none
  |_,_,_=>none
 |_,_,_=>none
theorem jP{r o:Value}{us O:List Value}(h:Value.tuple (r::us).toArray=.tuple (o::O).toArray):r=o/\us=O:=by
 simpa using h
theorem AA{g o n O cap U:Nat}(h:Value.slice (some ⟨g,0,none⟩) n cap=.slice (some ⟨o,0,none⟩) O U):g=o:=by
 simp only[Value.slice.injEq,Option.some.injEq,Addr.mk.injEq]at h
 exact h.1.1
theorem F1{b g n cap:Nat}{us:List Value}(h:m b=.tuple (.slice (some ⟨g,0,none⟩) n cap::us).toArray):own (m b) g:=by rw[h];exact dj.2 (.inl rfl)
theorem N4(h:am cx m st T w){b e:Nat}{i:Int}{k:ef}{xs:List k.u.el}{off:Nat}{t:TypeId}{o:ag}{z:o.el}{x y:Operand}{W U li Z:k.u.el}(lj:look st.ad b=some (.bj e k xs none))(lw:aP st x=some (.dW b i off k.u.cells))(lx:ty cx.P t=some o)(ly:aP st y=some (.val o z))
  (l5:off+o.cells<=k.off\/k.off<off)(l6:cn k.u W off ⟨o,z⟩=some U)(lz:cn k.u W k.off ⟨.ab k.t,[]⟩=some li)(lA:cn k.u li off ⟨o,z⟩=some Z)(lB:ao xs i=some W)(lC:cn k.u U k.off ⟨.ab k.t,[]⟩=some Z)(lD:cE k.u U k.off (.ab k.t)=cE k.u W k.off (.ab k.t)):
  ∃w',(Instr.storeAt t (Act.eval ⟨T,[]⟩ x) (Act.eval ⟨T,[]⟩ y)).run cx.P w=.ok () w'/\am cx m (st.db b (.bj e k (xs.set i.toNat U) none)) T w':=by
 obtain⟨g2,l7,l8,l9,lE,a2⟩:=aW h lw
 obtain⟨g,cap,cur,us,c1,c,c2,aa,v,ab,f1,f2,f3,f4,f5,f6,f7,f8,f9,f10,f11,f12,f13,f14,f15⟩:=h.mE lj (kf lB)
 have lF:g2=g:=AA (jP (lE.symm.trans f1)).1
 subst lF
 obtain⟨L,v1,ad,lk,ll,lG,lm,lH,lI,lJ⟩:=f13
 rw[lz]at lm
 cases lm
 have lK:a8 w (ap cx m st.ids) (Act.eval ⟨T,[]⟩ y) o z:=aW h ly
 have Y:=mi lK
 have la:=ch o Y
 have lL:(Act.eval ⟨T,[]⟩ y).cells.size=o.cells:=by rw[<-la];simp
 obtain⟨d1,d2,d3,ln,cY,fh,rn⟩:=qG (v:=⟨o,z⟩) Y k.u lH lA
 generalize lo:(Act.eval ⟨T,[]⟩ y).cells.toList=O at*
 have lp:L.length=k.u.cells:=by rw[<-f8,lk,List.length_set]
 have ae:L.length=d1.length+d2.length+d3.length:=by rw[ln];simp[Nat.add_assoc]
 have lM:gm L off O=d1++O++d3:=by rw[ln,<-cY,Om _ _ _ _ fh.symm]
 have lc:off+O.length<=L.length:=by omega
 have af:k.off<L.length:=(List.getElem?_eq_some_iff.1 ll).1
 have lq:k.off<off\/off+O.length<=k.off:=by rw[la];omega
 have lN:gm c off O=(gm L off O).set k.off v1:=by rw[lk,Q8 lc lq]
 have lr:(gm c off O).length=c.length:=AP (by rw[f8,<-lp];exact lc)
 have lO:i.toNat*k.u.cells+off+o.cells<=cur.size:=by
  rw[<-Array.length_toList,f6];simp only[List.length_append];omega
 have lt:=nm (P:=cx.P) lx f2 lL lO (jK o (by rw[<-lo]at Y;exact Y))
 have lP:cur.toList.take (i.toNat*k.u.cells+off)++(Act.eval ⟨T,[]⟩ y).cells.toList++cur.toList.drop (i.toNat*k.u.cells+off+o.cells)=c1++gm c off O++(c2++cur.toList.drop (xs.length*k.u.cells)):=by
  generalize cur.toList.drop (xs.length*k.u.cells)=rest at f6⊢
  rw[f6,lo,<-f7]
  have lQ:c1++c++(c2++rest)=c1++(c++(c2++rest)):=by simp
  have lR:off+o.cells<=c.length:=by rw[f8,<-lp];omega
  rw[lQ,List.take_append,List.take_of_length_le (by omega),Nat.add_sub_cancel_left,List.take_append_of_le_length (by omega),Nat.add_assoc,List.drop_append,List.drop_eq_nil_of_le (by omega),Nat.add_sub_cancel_left,List.drop_append_of_le_length lR]
  unfold gm
  rw[la]
  simp
 rw[lP]at lt
 refine⟨_,by rw[a2];exact lt,?_⟩
 have ld:=aX lj
 have lS:b∈st.ids:=List.mem_append.2 (.inl (List.mem_map.2 ⟨_,ld,rfl⟩))
 have lu:Touch m w b (w.setRow g2 (c1++gm c off O++(c2++cur.toList.drop (xs.length*k.u.cells))).toArray):=
  ⟨ml _ _ _,fun ah hk lT=>setRow_other _ _ _ _ (fun e=>lT (by rw[e];exact F1 f1))⟩
 obtain⟨lf,lg⟩:=am.ic (cx:=cx) lS lu (ids:=(st.db b (.bj e k (xs.set i.toNat U) none)).ids) (kM ld h.keys _).1
 rw[f10]at f14
 obtain⟨lU,lV⟩:=vT f14
 refine h.db ld lu (g:=g2) ⟨_,_,f1⟩ ⟨_,us,c1++gm c off O++c2,f1,?_,?_,?_⟩
 ·rw[List.length_set]
  exact Hb f2 f3 f4 f5 f6 f9 lr
 ·rw[f10]
  refine f15 lf lg (fun _ _=>Iff.rfl) (fun u lW lv lh=>setRow_other _ _ _ _ (fun e=>lV u lW (by rw[<-e];exact lh))) (by rw[lr,f8]) ?_
  refine⟨gm L off O,v1,Z,lN,by rw[ti lc lq];exact ll,lG,lC,?_,lI,fun lX=>?_⟩
  ·rw[lM];exact cB lf lg k.u rn
  ·obtain⟨lY,lZ,cells,l0,l3,l4⟩:=lJ lX
   exact⟨lY,lZ,cells,by rw[lD];exact l0,rK l3 fun lv lh=>setRow_other _ _ _ _ (lU lv lh).1,dx (fun _ _=>cB lf lg k.t) l4⟩
 ·rw[f10];simpa[aO]using f14
theorem PS(h:am cx m st T w){b e:Nat}{i j:Int}{k:ef}{xs:List k.u.el}{off:Nat}{t:TypeId}{U:ag}{z:U.el}{x y:Operand}{lg lc:k.u.el}{W:List k.t.el}{z0 lh:k.t.el}(lu:look st.ad b=some (.bj e k xs none))(lG:aP st x=some (.fD b i j off k.t.cells))(lH:ty cx.P t=some U)(lI:aP st y=some (.val U z))
  (lJ:cE k.u lg k.off (.ab k.t)=some W)(h1:cn k.t z0 off ⟨U,z⟩=some lh)(lK:ao xs i=some lg)(lL:ao W j=some z0)(lM:cn k.u lc k.off ⟨.ab k.t,[]⟩=cn k.u lg k.off ⟨.ab k.t,[]⟩)(lN:cE k.u lc k.off (.ab k.t)=some (W.set j.toNat lh)):
  ∃w',(Instr.storeAt t (Act.eval ⟨T,[]⟩ x) (Act.eval ⟨T,[]⟩ y)).run cx.P w=.ok () w'/\am cx m (st.db b (.bj e k (xs.set i.toNat lc) none)) T w':=by
 obtain⟨ar,au,g2,lO,lP,a0,lv,a2⟩:=aW h lG
 obtain⟨g,cap,cur,us,c1,c,c2,av,v,aw,f1,f2,f3,f4,f5,f6,f7,f8,f9,f10,f11,f12,f13,f14,f15⟩:=h.mE lu (kf lK)
 obtain⟨L,v1,lQ,lR,lS,lT,lU,lV,lW,lX⟩:=f13
 obtain⟨lY,ax,cells,lw,lx,lZ⟩:=lX fun⟨_,h,_⟩=>by cases h
 rw[lJ]at lw
 cases lw
 have ld:v=.slice (some ⟨g2,0,none⟩) lO lP:=by
  rw[f1]at a0
  rw[<-(jP a0).2,f10,<-f11]at lv
  simpa using lv
 obtain⟨_,_,ly⟩:=js lL
 have l0:a8 w (ap cx m st.ids) (Act.eval ⟨T,[]⟩ y) U z:=aW h lI
 have li:=mi l0
 have lj:=ch U li
 have l3:(Act.eval ⟨T,[]⟩ y).cells.size=U.cells:=by rw[<-lj];simp
 obtain⟨l4,l5,Z,t1,t2,t3,t4,t5,t6⟩:=vA lx (Nat.lt_of_le_of_lt (Nat.zero_le _) (List.getElem?_eq_some_iff.1 ly).1)
 have l6:g2=l4:=by rw[ld]at t1;exact AA t1
 subst l6
 obtain⟨d1,d2,d3,rfl,cY,fh,l7⟩:=uj lZ ly
 obtain⟨o,Y,O,rfl,l8,lk,l9⟩:=qG (v:=⟨U,z⟩) li k.t fh h1
 obtain⟨rest,lf⟩:∃rest,Z.toList=(d1++(o++Y++O)++d3)++rest:=⟨Z.toList.drop (W.length*k.t.cells),by rw[<-t6,List.take_append_drop]⟩
 have lz:(d1++(o++Y++O)++d3).length=W.length*k.t.cells:=lx.1
 have ll:j.toNat*k.t.cells+off=(d1++o).length:=by rw[List.length_append,cY,l8]
 have aa:Z.toList.length=(d1++o).length+Y.length+(O++d3++rest).length:=by rw[lf];simp only[List.length_append];omega
 have ab:j.toNat*k.t.cells+off+U.cells<=Z.size:=by
  rw[<-Array.length_toList,aa,ll,<-lj,lk]
  omega
 have lA:=nm (P:=cx.P) lH t2 l3 ab (jK U li)
 have ad:Z.toList.take (j.toNat*k.t.cells+off)=d1++o:=by
  rw[lf,ll]
  have:d1++(o++Y++O)++d3++rest=(d1++o)++(Y++O++d3++rest):=by simp
  rw[this,List.take_left]
 have ae:Z.toList.drop (j.toNat*k.t.cells+off+U.cells)=O++d3++rest:=by
  rw[lf,ll,<-lj,<-lk,<-List.length_append]
  have:d1++(o++Y++O)++d3++rest=(d1++o++Y)++(O++d3++rest):=by simp
  rw[this,List.drop_left]
 rw[ad,ae]at lA
 refine⟨_,by rw[a2];exact lA,?_⟩
 have lm:=aX lu
 have af:b∈st.ids:=List.mem_append.2 (.inl (List.mem_map.2 ⟨_,lm,rfl⟩))
 have ah:own (m b) g2:=by rw[f1,f10];exact dj.2 (.inr ⟨v,by simp,by rw[ld];rfl⟩)
 generalize ln:w.setRow g2 (d1++o++(Act.eval ⟨T,[]⟩ y).cells.toList++(O++d3++rest)).toArray=lB
 have lo:∀la,la≠g2->lB.heap[la]? =w.heap[la]? :=fun la lp=>by rw[<-ln];exact setRow_other _ _ _ _ lp
 have lC:Touch m w b lB:=⟨by rw[<-ln];exact ml _ _ _,fun la hk lp=>lo la (fun e=>lp (by rw[e];exact ah))⟩
 obtain⟨lq,lr⟩:=am.ic (cx:=cx) af lC (ids:=(st.db b (.bj e k (xs.set i.toNat lc) none)).ids) (kM lm h.keys _).1
 rw[f10]at f14
 obtain⟨lD,ay⟩:=vT f14
 have ai:g≠g2:=fun e=>(lD g2 (by rw[ld];rfl)).1 e.symm
 refine h.db lm lC (g:=g) ⟨_,_,f1⟩ ⟨_,us,c1++c++c2,f1,?_,?_,?_⟩
 ·rw[List.length_set]
  have aj:cur.toList.take (xs.length*k.u.cells)=c1++c++c2:=by
   generalize cur.toList.drop (xs.length*k.u.cells)=lE at f6
   rw[f6,<-f9]
   have:c1++c++(c2++lE)=(c1++c++c2)++lE:=by simp
   rw[this,List.take_left]
  exact⟨f9,.inr ⟨g,cap,cur,rfl,Nat.zero_le _,by rw[lo g ai];exact f2,f3,f4,f5,aj⟩⟩
 ·rw[f10]
  refine f15 lq lr (fun _ _=>Iff.rfl) (fun u ak an aq=>lo an (fun e=>(lD g2 (by rw[ld];rfl)).2 u ak (by rw[<-e];exact aq))) f8 ?_
  refine⟨L,v1,lQ,lR,lS,lT,by rw[lM];exact lU,cB lq lr k.u lV,lW,fun _=>⟨lY,W.set j.toNat lh,_,lN,?_,dx (fun _ _=>cB lq lr k.t) (l7 _ _ l9)⟩⟩
  have lF:d1++o++(Act.eval ⟨T,[]⟩ y).cells.toList++(O++d3++rest)=(d1++(o++(Act.eval ⟨T,[]⟩ y).cells.toList++O)++d3)++rest:=by simp
  have lt:(d1++(o++(Act.eval ⟨T,[]⟩ y).cells.toList++O)++d3).length=W.length*k.t.cells:=by
   rw[<-lz];simp only[List.length_append,lk]
  refine⟨by rw[List.length_set];exact lt,.inr ⟨g2,l5,_,by rw[List.length_set,t1],Nat.zero_le _,by rw[<-ln];exact setRow_heap _ _ _ _ _ _ t2,by rw[List.length_set];exact t3,t4,?_,?_⟩⟩
  ·rw[List.size_toArray,lF,List.length_append,lt,<-t5,<-Array.length_toList,lf,List.length_append,lz]
  ·rw[List.length_set,lF,<-lt,List.take_left]
 ·rw[f10];simpa[aO]using f14
end Go.Ev
namespace Go.Ev
open Go Go.RowKit
variable [b6]
variable {cx:bB} {m aA:Nat->Value} {st st':ae} {T:Array Value} {w w':World}
theorem CH{c:cw}{e:Nat}{u:ag}{O:List u.el}(U:c.e=e)(o:aj.as ⟨.ab c.t,c.xs⟩ (.ab u)=some O):c=⟨e,u,O⟩:=by
 obtain⟨ce,nD,W⟩:=c
 have o:aj.as ⟨.ab nD,W⟩ (.ab u)=some O:=o
 have o:=aj.dC o
 cases o
 subst U
 rfl
theorem Pa(h:am cx m st T w){b e r:Nat}{i:Int}{k:ef}{xs:List k.u.el}{lw:Option Int}{t:TypeId}{x y:Operand}{lx ld:k.u.el}{li:List k.t.el}(W:look st.ad b=some (.bj e k xs lw))(lI:look st.rw r=some ⟨k.e,k.t,li⟩)(ly:b≠r)
  (lJ:aP st x=some (.dW b i k.off k.u.cells))(lK:ty cx.P t=some (.ab k.t))(lL:aP st y=some (.row r))
  (lM:ao xs i=some lx)(lN:cn k.u ld k.off ⟨.ab k.t,[]⟩=cn k.u lx k.off ⟨.ab k.t,[]⟩)(lO:cE k.u ld k.off (.ab k.t)=some li)(lP:∀i0,lw=some i0->i0=i):
  ∃w' aA,(Instr.storeAt t (Act.eval ⟨T,[]⟩ x) (Act.eval ⟨T,[]⟩ y)).run cx.P w=.ok () w'/\am cx aA (st.dO [b,r] [(b,.bj e k (xs.set i.toNat ld) none)] [] (ak.rJ b [b,r])) T w':=by
 obtain⟨g2,ab,ad,ae,lQ,a2⟩:=aW h lJ
 obtain⟨g,cap,cur,us,c1,Y,c2,lz,v,lA,f1,f2,f3,f4,f5,f6,f7,f8,f9,f10,f11,f12,f13,f14,f15⟩:=h.mE W (kf lM)
 have lR:g2=g:=AA (jP (lQ.symm.trans f1)).1
 subst lR
 obtain⟨L,v1,lS,lB,lC,af,lT,lU,ah,ai⟩:=f13
 have lj:=aX lI
 have lV:=aX W
 have Z:b∈st.ids:=List.mem_append.2 (.inl (List.mem_map.2 ⟨_,lV,rfl⟩))
 have lk:r∈st.ids:=List.mem_append.2 (.inr (List.mem_map.2 ⟨_,lj,rfl⟩))
 obtain⟨cells,lD,aj,lW⟩:=h.rows r _ lj
 have lX:Act.eval ⟨T,[]⟩ y=m r:=aW h lL
 have lE:(m r).oneCell'=true:=row_one h lj
 have ll:(m r).cells=#[m r]:=by
  rcases lD.2 with ⟨lF,_⟩|⟨_,_,_,lF,_⟩<;>rw[lF]<;>rfl
 have an:k.off<L.length:=(List.getElem?_eq_some_iff.1 lC).1
 have ap:L.length=k.u.cells:=by rw[<-f8,lB,List.length_set]
 have lY:i.toNat*k.u.cells+k.off+(ag.ab k.t).cells<=cur.size:=by
  rw[<-Array.length_toList,f6];simp only[List.length_append,ag.cells];omega
 have lm:=nm (P:=cx.P) (v:=m r) lK f2 (by rw[ll];rfl) lY (fun u hu=>by rw[ll]at hu;simp at hu;rw[hu];exact lE)
 have lZ:cur.toList.take (i.toNat*k.u.cells+k.off)++(m r).cells.toList++cur.toList.drop (i.toNat*k.u.cells+k.off+(ag.ab k.t).cells)=c1++Y.set k.off (m r)++(c2++cur.toList.drop (xs.length*k.u.cells)):=by
  generalize cur.toList.drop (xs.length*k.u.cells)=rest at f6⊢
  rw[f6,<-f7,ll]
  have l0:c1++Y++(c2++rest)=c1++(Y++(c2++rest)):=by simp
  have l3:k.off+1<=Y.length:=by omega
  rw[l0,List.take_append,List.take_of_length_le (by omega),Nat.add_sub_cancel_left,List.take_append_of_le_length (by omega),Nat.add_assoc,List.drop_append,List.drop_eq_nil_of_le (by omega),Nat.add_sub_cancel_left]
  show _=_
  simp only[ag.cells]
  rw[List.drop_append_of_le_length l3,List.set_eq_take_append_cons_drop,if_pos (by omega)]
  simp
 rw[lZ]at lm
 generalize ln:w.setRow g2 (c1++Y.set k.off (m r)++(c2++cur.toList.drop (xs.length*k.u.cells))).toArray=lo at lm
 have lp:∀U,U≠g2->lo.heap[U]? =w.heap[U]? :=fun U lf=>by rw[<-ln];exact setRow_other _ _ _ _ lf
 have lq:own (m b) g2:=F1 f1
 obtain⟨v2,lg⟩:∃v2,v2=Value.tuple (.slice (some ⟨g2,0,none⟩) xs.length cap::(lz++m r::lA)).toArray:=⟨_,rfl⟩
 rw[f10]at f14 f1
 obtain⟨aq,l4⟩:=vT f14
 have lr:∀o,aO (m r)=some o->own (m r) o:=fun o W=>hq W
 have lG:∀o,aO (m r)=some o->o≠g2:=fun o W e=>h.apart b r Z lk ly g2 lq (by rw[<-e];exact lr o W)
 have X:iZ cx m (bo m b v2) st w lo [b,r] [(b,.bj e k (xs.set i.toNat ld) none)] []:={
  same:=by rw[<-ln];exact ml _ _ _
  block:=fun U _ lf=>lp U fun e=>lf b (by simp) Z (by rw[e];exact lq)
  old:=fun j _ O=>cN _ _ fun e=>O (by simp[e])
  new:=fun j O U hk=>by
   have:j=b:=by simpa using O
   subst this
   rw[b9,lg]at hk
   refine .inl ?_
   rcases dj.1 hk with hk|⟨u,hu,hk⟩
   ·cases hk;exact⟨j,by simp,Z,lq⟩
   ·rcases List.mem_append.1 hu with hu|hu
    ·exact⟨j,by simp,Z,by rw[f1];exact dj.2 (.inr ⟨u,by simp[hu],hk⟩)⟩
    ·rcases List.mem_cons.1 hu with rfl|hu
     ·exact⟨r,by simp,lk,lr U hk⟩
     ·exact⟨j,by simp,Z,by rw[f1];exact dj.2 (.inr ⟨u,by simp[hu],hk⟩)⟩
  apart:=fun j l5 O l6 lf=>by
   have:j=b:=by simpa using O
   have:l5=b:=by simpa using l6
   omega
  keys:=by simp
  pB:=fun j O _=>by
   have:j=b:=by simpa using O
   simp[this]
  pj:=fun lh c' lc lH=>by simp at lc;rw[lc.2]at lH;cases lH
  ew:=fun l7 c' lt=>by cases lt}
 refine⟨lo,bo m b v2,by rw[a2,lX];exact lm,h.dO X (fun M v s l8=>Gt f1 (by rw[b9,lg]) (fun j O=>cN _ _ fun e=>O (by simp[e])) l8) (fun lh c' lc=>?_) (fun l7 c' lt=>by cases lt)⟩
 simp only[List.mem_cons,Prod.mk.injEq,List.not_mem_nil,or_false]at lc
 obtain⟨rfl,rfl⟩:=lc
 have lu:=X.keeps
 have lv:=X.mut (f:=ak.rJ lh [lh,r])
 rw[b9]
 refine⟨0,⟨_,_,lg⟩,_,lz++m r::lA,c1++Y.set k.off (m r)++c2,lg,?_,?_,?_⟩
 ·rw[List.length_set,<-ln]
  exact Hb f2 f3 f4 f5 f6 f9 (List.length_set ..)
 ·refine f15 lu lv (fun j O=>⟨fun⟨i0,h1,l9⟩=>absurd (by rw[<-l9,lP i0 h1]) O,fun⟨_,h1,_⟩=>by cases h1⟩) (fun u hu o la=>lp o fun e=>l4 u hu (by rw[<-e];exact la)) (by rw[List.length_set,f8]) ?_
  refine⟨L,m r,lS,by rw[lB,List.set_set],lC,lE,by rw[lN];exact lT,cB lu lv k.u lU,(fun⟨_,h1,_⟩=>by cases h1),fun _=>⟨rfl,li,cells,lO,rK lD fun o la=>lp o (lG o la),dx (fun _ _=>cB lu lv k.t) lW⟩⟩
 ·have h1:=GD f14 (x:=m r) fun o la=>⟨lG o la,fun u hu aa=>h.apart lh r Z lk ly o (by rw[f1];exact dj.2 (.inr ⟨u,by rcases hu with hu|hu<;>simp[hu],aa⟩)) (lr o la)⟩
  simpa[aO]using h1
def Fi(O:Nat)(st:ae)(b:Nat)(i:Int)(a d:Nat)(orc:List aj):Option (ae×List aj×List Prop):=
 match look st.ad b,orc with
 |some (.bj e k xs none),v::orc'=>match v.as k.u,Nat.blt d O&&!(Nat.beq b d)with
  |some o,true=>match cE k.u o k.off (.ab k.t)with
   |some U=>some ((st.dO [b,d] [(b,.bj e k xs (some i))] [(d,⟨k.e,k.t,fe U⟩)] (ak.rJ b [b,d])).put a (.row d),orc',[ao xs i=some o])
   |none=>none
  |_,_=>none
 |_,_=>none
theorem am.Sb(h:am cx m st T w){a:Nat}{v:Value}{s:ak}(O:T[a]? =some v)(U:aQ w (ap cx m st.ids) m v s):am cx m (st.put a s) T w:=
 {h with
  cI:=fun i aJ o=>by
   rcases List.mem_cons.1 o with o|o
   ·cases o;exact⟨v,O,U⟩
   ·exact h.cI i aJ (cP.1 o).1}
theorem zu{α:Type}:∀{l:List α} {i:Nat} {x:α},l[i]? =some x->l.set i x=l
 |_,_,_,h=>by
  obtain⟨o,h1⟩:=List.getElem?_eq_some_iff.1 h
  rw[<-h1,List.set_getElem_self]
theorem Ps(h:am cx m st T w){b a d:Nat}{i:Int}{orc orc':List aj}{ob:List Prop}(ld:look st.ab a=some (.sub b i))(U:Fi cx.n st b i a d orc=some (st',orc',ob))(ll:bJ ob):∃aA,am cx aA st' T w:=by
 unfold Fi at U
 split at U
 case h_2=>cases U
 rename_i e k xs v0 l3 lm
 split at U
 case h_2=>cases U
 rename_i lB _ az
 split at U
 case h_2=>cases U
 rename_i ln lC
 cases U
 simp only[Bool.and_eq_true,Bool.not_eq_true']at az
 have lD:=cG az.1
 have lo:=beq_false az.2
 obtain⟨vv,t1,l4,l5,t2,t3⟩:=h.cI a _ (aX ld)
 obtain⟨g,cap,cur,us,c1,W,c2,lf,v,lg,f1,f2,f3,f4,f5,f6,f7,f8,f9,f10,f11,f12,f13,f14,f15⟩:=h.mE lm (kf ll.1)
 have lE:vv=v:=by
  rw[f1]at t2
  rw[<-(jP t2).2,f10,<-f11]at t3
  simpa using t3.symm
 subst lE
 have l6:=f13
 obtain⟨L,v1,lF,lG,lH,lI,lJ,lK,l7,lL⟩:=f13
 obtain⟨l8,l9,cells,lp,lq,lM⟩:=lL fun⟨_,h,_⟩=>by cases h
 rw[lC]at lp
 cases lp
 have lN:=aX lm
 have lr:b∈st.ids:=List.mem_append.2 (.inl (List.mem_map.2 ⟨_,lN,rfl⟩))
 obtain⟨v2,la⟩:∃v2,v2=Value.tuple (.slice (some ⟨g,0,none⟩) xs.length cap::(lf++undef::lg)).toArray:=⟨_,rfl⟩
 obtain⟨m2,lh⟩:∃m2,m2=bo (bo m d vv) b v2:=⟨_,rfl⟩
 have li:m2 b=v2:=by rw[lh,b9]
 have md:m2 d=vv:=by rw[lh,cN _ _ (fun e=>lo e.symm),b9]
 have lt:∀j,j∉[b,d]->m2 j=m j:=fun j O=>by rw[lh,cN _ _ (fun e=>O (by simp[e])),cN _ _ (fun e=>O (by simp[e]))]
 rw[f10]at f14 f1
 obtain⟨lu,aa⟩:=vT f14
 have lO:∀o,aO vv=some o->own (m b) o:=fun o hk=>by rw[f1];exact dj.2 (.inr ⟨vv,by simp,hk⟩)
 have lj:∀o,own (m2 d) o->aO vv=some o:=fun o hk=>by rw[md]at hk;exact Di lq hk
 have lv:∀o,own (m2 b) o->o=g\/∃u,(u∈lf\/u∈lg)/\aO u=some o:=fun o hk=>by
  rw[li,la]at hk
  rcases dj.1 hk with hk|⟨u,hu,hk⟩
  ·cases hk;exact .inl rfl
  ·rcases List.mem_append.1 hu with hu|hu
   ·exact .inr ⟨u,.inl hu,hk⟩
   ·rcases List.mem_cons.1 hu with rfl|hu
    ·cases hk
    ·exact .inr ⟨u,.inr hu,hk⟩
 have lP:∀o,own (m2 b) o->own (m b) o:=fun o hk=>by
  rw[f1]
  rcases lv o hk with rfl|⟨u,hu,hk⟩
  ·exact dj.2 (.inl rfl)
  ·exact dj.2 (.inr ⟨u,by rcases hu with hu|hu<;>simp[hu],hk⟩)
 have lc:∀j,j∈[(b,bL.bj e k xs (some i))].map (·.1)\/j∈[(d,(⟨k.e,k.t,fe ln⟩:cw))].map (·.1)->j=b\/j=d:=fun j O=>by simpa using O
 have X:iZ cx m m2 st w w [b,d] [(b,.bj e k xs (some i))] [(d,⟨k.e,k.t,fe ln⟩)]:={
  same:=⟨rfl,rfl,rfl,Nat.le_refl _,fun _=>Nat.le_refl _⟩
  block:=fun _ _ _=>rfl
  old:=fun j _ O=>lt j O
  new:=fun j O o hk=>by
   rcases lc j O with rfl|rfl
   ·exact .inl ⟨j,by simp,lr,lP o hk⟩
   ·exact .inl ⟨b,by simp,lr,lO o (lj o hk)⟩
  apart:=fun j lQ O lR lw o hk lx=>by
   have key:own (m2 b) o->own (m2 d) o->False:=fun lS ly=>by
    rcases lv o lS with rfl|⟨u,hu,lT⟩
    ·exact(lu o (lj o ly)).1 rfl
    ·exact(lu o (lj o ly)).2 u hu lT
   rcases lc j O with rfl|rfl<;>rcases lc lQ lR with rfl|rfl
   ·exact lw rfl
   ·exact key hk lx
   ·exact key lx hk
   ·exact lw rfl
  keys:=by simpa using lo
  pB:=fun j O _=>by rcases lc j O with rfl|rfl<;>simp
  pj:=fun lU c' Y lz=>by simp at Y;rw[Y.2]at lz;cases lz
  ew:=fun lV c' Z=>by simp at Z;rw[Z.1];exact lD}
 have lk:=X.mut (f:=ak.rJ b [b,d])
 have lW:=h.dO X (fun M v s ld=>Gt f1 (by rw[li,la]) lt ld) (fun lU c' Y=>by
   simp only[List.mem_cons,Prod.mk.injEq,List.not_mem_nil,or_false]at Y
   obtain⟨rfl,rfl⟩:=Y
   rw[li]
   refine⟨0,⟨_,_,la⟩,_,lf++undef::lg,c1++W++c2,la,?_,?_,?_⟩
   ·have lX:cur.toList.take (xs.length*k.u.cells)=c1++W++c2:=by
     generalize cur.toList.drop (xs.length*k.u.cells)=lA at f6
     rw[f6,<-f9]
     have:c1++W++(c2++lA)=(c1++W++c2)++lA:=by simp
     rw[this,List.take_left]
    exact⟨f9,.inr ⟨g,cap,cur,rfl,Nat.zero_le _,f2,f3,f4,f5,lX⟩⟩
   ·have:=f15 (w':=w) (h':=some i) (x':=lB) (c':=W) (v':=undef) (fun _ _ _=>rfl) lk (fun j O=>⟨fun⟨_,h1,_⟩=>(by cases h1),fun⟨i0,h1,lY⟩=>absurd (by rw[<-lY,Option.some.inj h1]) O⟩) (fun _ _ _ _=>rfl) f8
     ⟨L,v1,lF,lG,lH,lI,lJ,cB (fun _ _ _=>rfl) lk k.u lK,fun _=>rfl,fun lZ=>absurd ⟨i,rfl,rfl⟩ lZ⟩
    rw[zu (kf ll.1)]at this
    exact this
   ·have h1:=GD f14 (x:=undef) fun ab l0=>by cases l0
    simpa[aO]using h1) (fun lV c' Z=>by
   simp only[List.mem_cons,Prod.mk.injEq,List.not_mem_nil,or_false]at Z
   obtain⟨rfl,rfl⟩:=Z
   rw[md]
   exact⟨cells,lq,dx (fun _ _=>cB (fun _ _ _=>rfl) lk k.t) lM⟩)
 exact⟨m2,lW.Sb t1 (by show vv=m2 d;rw[md])⟩
end Go.Ev
namespace Go.Ev
open Go Go.RowKit
variable [b6]
variable {cx:bB} {m aA:Nat->Value} {st st':ae} {T:Array Value} {w w':World}
def pL(P:Program)(o:TypeId):Option ef:=
 match ty P o,P.underlying o with
 |some (.ab t),some (.slice e)=>match ty P e with
  |some U=>bif t.beq U&&!(Nat.beq t.cells 0)then some ⟨.ab t,0,e,t⟩else none
  |none=>none
 |some u,some (.struct W)=>match W.toList.getLast? with
  |some O=>match P.underlying O.type with
   |some (.slice e)=>match ty P e with
    |some t=>bif !(Nat.beq t.cells 0)then some ⟨u,O.offset,e,t⟩else none
    |none=>none
   |_=>none
  |none=>none
 |_,_=>none
def Fp(E:Env)(st:ae)(aa:Oper)(orc:List aj):Option (ae×List aj×List Prop):=
 match aa.dst,orc with
 |some d,⟨.unit,_⟩::orc'=>match Nat.blt d E.n,aa.op with
  |true,.assign (.const (.slice none 0 0))=>match ed E.P aa.type with
   |some (e,_)=>match pL E.P e with
    |some k=>some ((st.dO [d] [(d,.bj e k [] none)] [] (ak.dQ [d])).put d (.osl d),orc',[])
    |none=>none
   |none=>none
  |true,.move (.const (.slice none 0 0))=>match ed E.P aa.type with
   |some (e,_)=>match pL E.P e with
    |some k=>some ((st.dO [d] [(d,.bj e k [] none)] [] (ak.dQ [d])).put d (.osl d),orc',[])
    |none=>none
   |none=>none
  |true,.makeSlice t l c=>match ed E.P t,eG (aP st l),eG (aP st c)with
   |some (e,u),some n,some o=>match pL E.P e,nC E.P e,zeroOf E.P e,(E.P.info? e).bind (·.zero)with
    |some k,true,some O,some z=>match u.beq O&&u.beq k.u,z.cells.toList[k.off]? with
     |true,some (.slice none 0 0)=>some ((st.dO [d] [(d,.bj e k (List.replicate n.toNat (cj k.u)) none)] [] (ak.dQ [d])).put d (.osl d),orc',
       [0<=n/\n<=o/\o<=(lim:Int),cn k.u (cj k.u) k.off ⟨.ab k.t,[]⟩=some (cj k.u),cE k.u (cj k.u) k.off (.ab k.t)=some (show(ag.ab k.t).el from[])])
     |_,_=>none
    |_,_,_,_=>none
   |_,_,_=>none
  |_,_=>none
 |_,_=>none
theorem am.HT(h:am cx m st T w){d e:Nat}(af:d<cx.n){hd0:Value}{k:ef}{xs:List k.u.el}{cells us:List Value}{w':World}(Z:Ext w w')(lc:∀g,g∈(hd0::us).filterMap aO->w.heap.size<=g/\g<w'.heap.size)(ld:w'.ownsRow 0 e k.u.cells hd0 xs.length cells)
  (lf:∀M':Nat->Prop,(∀b,b<w.heap.size->M' b->ap cx m st.ids b)->fU w' M' k none 0 xs cells us)(lg:((hd0::us).filterMap aO).Nodup):
  am cx (bo m d (.tuple (hd0::us).toArray)) ((st.dO [d] [(d,.bj e k xs none)] [] (ak.dQ [d])).put d (.osl d)) (T.setIfInBounds d hd0) w':=by
 obtain⟨v2,O⟩:∃v2,v2=Value.tuple (hd0::us).toArray:=⟨_,rfl⟩
 rw[<-O]
 have X:iZ cx m (bo m d v2) st w w' [d] [(d,.bj e k xs none)] []:={
  same:=Z.toSame
  block:=fun W hk _=>Z.block W hk
  old:=fun j _ o=>cN _ _ fun e=>o (by simp[e])
  new:=fun j o W hk=>by
   have:j=d:=by simpa using o
   subst this
   rw[b9,O]at hk
   exact .inr (lc W (Wy.1 hk))
  apart:=fun j lh o li ll=>by
   have:j=d:=by simpa using o
   have:lh=d:=by simpa using li
   omega
  keys:=by simp
  pB:=fun j o _=>by
   have:j=d:=by simpa using o
   simp[this]
  pj:=fun la c' U _=>by simp at U;rw[U.1];exact af
  ew:=fun lj c' Y=>by cases Y}
 refine(h.dO X (fun M v s lk=>pz (fun j o=>cN _ _ fun e=>o (by simp[e])) lk) (fun la c' U=>?_) (fun lj c' Y=>by cases Y)).put af ⟨us,by rw[b9,O]⟩
 simp only[List.mem_cons,Prod.mk.injEq,List.not_mem_nil,or_false]at U
 obtain⟨rfl,rfl⟩:=U
 rw[b9]
 exact⟨0,⟨_,_,O⟩,hd0,us,cells,O,ld,lf _ (X.mut (f:=ak.dQ [la])),lg⟩
theorem T0{M:Nat->Prop}{k:ef}{z:Array Value}{x:k.u.el}(o:aF w M k.u z.toList x)(O:z.toList[k.off]? =some (.slice none 0 0))(h1:cn k.u x k.off ⟨.ab k.t,[]⟩=some x)(W:cE k.u x k.off (.ab k.t)=some (show(ag.ab k.t).el from[])):
  ∀(n i:Nat),fU w M k none i (List.replicate n x) (madeCells z (n*k.u.cells)).toList (List.replicate n (.slice none 0 0)):=by
 have U:z.toList.length=k.u.cells:=ch k.u o
 intro n
 induction n with
 |zero=>intro i;exact⟨by simp[madeCells],rfl⟩
 |succ n Y=>
  intro i
  refine⟨z.toList,(madeCells z (n*k.u.cells)).toList,.slice none 0 0,List.replicate n (.slice none 0 0),Mm (by simpa using U) n,U,List.replicate_succ,?_,Y (i+1)⟩
  exact⟨z.toList,.slice none 0 0,x,(zu O).symm,O,rfl,h1,o,(fun⟨_,h,_⟩=>by cases h),fun _=>⟨rfl,[],[],W,World.ownsRow_nil w 0 _ _,rfl⟩⟩
theorem WL{E:Env}(la:br E cx)(h:R cx st T w){aa:Oper}{orc:List aj}{st':ae}{orc':List aj}{ob:List Prop}(o:Fp E st aa orc=some (st',orc',ob))(lt:bJ ob)
  {K:Act->World->Prop}{Q:Exit->Act->World->Prop}(lh:∀li w',R cx st' li w'->K ⟨li,[]⟩ w'):aa.wp cx.P ⟨T,[]⟩ w K Q:=by
 obtain⟨m,lc⟩:=h
 unfold Fp at o
 split at o
 case h_2=>cases o
 rename_i d lN lO af
 have nil:∀(e:Nat) (k:ef),d<cx.n->(execOp (Act.eval ⟨T,[]⟩) aa).run cx.P w=.ok (.value (.slice none 0 0)) w->st'=(st.dO [d] [(d,.bj e k [] none)] [] (ak.dQ [d])).put d (.osl d)->aa.wp cx.P ⟨T,[]⟩ w K Q:=by
  intro e k O lu lv
  refine gT lu ?_
  rw[af]
  refine lh _ _ ⟨_,lv▸lc.HT O (hd0:=.slice none 0 0) (e:=e) (k:=k) (xs:=[]) (us:=[]) (cells:=[]) (Ext.refl w) (fun g Y=>by simp[aO]at Y) (World.ownsRow_nil w 0 _ _) (fun _ _=>⟨rfl,rfl⟩) List.nodup_nil⟩
 split at o
 ·rename_i O Z
  have O:d<cx.n:=by rw[la.n];exact cG O
  split at o
  case h_2=>cases o
  split at o
  case h_2=>cases o
  cases o
  exact nil _ _ O (by simp only[execOp,Z];rfl) rfl
 ·rename_i O Z
  have O:d<cx.n:=by rw[la.n];exact cG O
  split at o
  case h_2=>cases o
  split at o
  case h_2=>cases o
  cases o
  exact nil _ _ O (by simp only[execOp,Z];rfl) rfl
 ·rename_i t l c O Z
  have O:d<cx.n:=by rw[la.n];exact cG O
  split at o
  case h_2=>cases o
  rename_i e u n U lj lw lx
  split at o
  case h_2=>cases o
  rename_i k lP z hk lk ll W
  split at o
  case h_2=>cases o
  rename_i az ly
  cases o
  simp only[Bool.and_eq_true]at az
  obtain rfl:=ag.eq_of_beq az.1
  obtain⟨⟨lz,h1,lQ⟩,lA,lB,_⟩:=lt
  rw[<-la.P]at lj lk ll W
  have lC:=ag.eq_of_beq az.2
  obtain⟨lf,lR,lS⟩:=jz lj
  obtain⟨i,lT,_,lg,lm,ln,lD⟩:=ka ll
  rw[lg]at W
  have W:i.zero=some z:=W
  rw[ln]at W
  cases W
  obtain⟨i2,lo,lU⟩:=yc lk
  rw[lg]at lo
  cases lo
  obtain⟨lp,lE⟩:=fN lc lw
  obtain⟨lq,lF⟩:=fN lc lx
  have lV:(lim:Int)=2147483648:=rfl
  have lG:0<=U:=by omega
  have lH:(i.bytes:Int)*U<=281474976710656:=by
   have lI:(i.bytes:Int)<=65536:=by omega
   calc (i.bytes:Int)*U<=65536*U:=Int.mul_le_mul_of_nonneg_right lI lG
    _<=281474976710656:=by omega
  have lJ:=run_make (P:=cx.P) w t e i z lf lg ln lp lq n U lz h1 lH (by omega)
  subst lC
  have ld:(List.replicate n.toNat (cj k.u)).length=n.toNat:=List.length_replicate
  have lK:(madeCells z.cells (U.toNat*i.size)).toList.take ((List.replicate n.toNat (cj k.u)).length*k.u.cells)=(madeCells z.cells (n.toNat*k.u.cells)).toList:=by
   rw[ld,lm]
   simp only[madeCells,Array.toList_map,Array.toList_range,<-List.map_take]
   rw[List.take_range]
   congr 2
   have:n.toNat*k.u.cells<=U.toNat*k.u.cells:=Nat.mul_le_mul_right _ (by omega)
   omega
  have lL:Ext w (w.alloc (.cells (madeCells z.cells (U.toNat*i.size)) e)):=iN _ _
  have lM:∀(w':World) (M':Nat->Prop),fU w' M' k none 0 (List.replicate n.toNat (cj k.u)) (madeCells z.cells (n.toNat*k.u.cells)).toList (List.replicate n.toNat (.slice none 0 0)):=fun w' M'=>T0 (lD w' M') ly lA lB _ _
  have lr:((Value.slice (some ⟨w.heap.size,0,none⟩) n.toNat U.toNat)::List.replicate n.toNat (Value.slice none 0 0)).filterMap aO=[w.heap.size]:=by
   rw[List.filterMap_cons]
   show w.heap.size::_=_
   congr 1
   rw[List.filterMap_eq_nil_iff]
   intro u lf
   rw[List.eq_of_mem_replicate lf]
   rfl
  refine gT (ct (s:=Instr.makeSlice t (.int lp n) (.int lq U)) (by simp only[execOp,Z,lE,lF]) lJ) ?_
  rw[af]
  refine lh _ _ ⟨_,lc.HT O lL (us:=List.replicate n.toNat (.slice none 0 0)) (fun g Y=>?_) ⟨?_,.inr ⟨w.heap.size,U.toNat,madeCells z.cells (U.toNat*i.size),?_,Nat.zero_le _,heap_alloc_new w _,?_,?_,?_,lK⟩⟩ (fun M' _=>lM _ M') (by rw[lr];simp)⟩
  ·rw[lr]at Y
   simp at Y
   subst Y
   exact⟨Nat.le_refl _,by simp⟩
  ·rw[ld,Array.length_toList,size_madeCells]
  ·rw[ld]
  ·rw[ld];omega
  ·simp only[maxLen];omega
  ·rw[size_madeCells,lm]
 ·cases o
end Go.Ev
