/- Maps on plain data: what is looked up, what is written. -/
import Derived.Test.YteopobecmacgdaaGreatDoorMM1
import Derived.WideKeyRuns
import Derived.MapKept
import Derived.Laws.IdiomRangeMap
set_option linter.unusedSectionVars false
set_option linter.unusedVariables false
set_option linter.unusedSimpArgs false
namespace Go.Ev
open Go Go.RowKit
variable [cm]
variable {P:Program} {w w':World} {M M':Nat->Prop}
theorem IL{α:Type}{f g:List Value->α->Prop}(h:∀c c' x,f c x->g c' x->c=c'):∀{xs:List α} {cs O:List Value},bT f cs xs->bT g O xs->cs=O
 |[],_,_,o,q=>by cases o;cases q;rfl
 |_::_,_,_,⟨a,b,R,o,q⟩,⟨c,d,U,W,Y⟩=>by rw[R,U,h _ _ _ o W,IL h q Y]
theorem L4{w w':World}{M M':Nat->Prop}:∀(t:ah) {cs q:List Value} {x:t.el},t.flat=true->aL w M t cs x->aL w' M' t q x->cs=q:=by
 intro t
 induction t with
 |int k=>intro cs q x _ h h';rw[h,h']
 |bool=>intro cs q x _ h h';rw[h,h']
 |str=>intro cs q x _ h h';rw[h.1,h'.1]
 |unit=>intro cs q x _ h h';rw[h,h']
 |pair a b W Y=>
  rintro cs q x o ⟨c1,c2,rfl,R,U⟩ ⟨d1,d2,rfl,Z,la⟩
  simp only[ah.flat,Bool.and_eq_true]at o
  rw[W o.1 R Z,Y o.2 U la]
 |ab t O=>intro cs q x o;simp[ah.flat]at o
 |ptr t O=>intro cs q x o;simp[ah.flat]at o
 |fn f t O=>intro cs q x o;simp[ah.flat]at o
 |err=>intro cs q x o;simp[ah.flat]at o
 |cO=>intro cs q x o;simp[ah.flat]at o
 |dj=>intro cs q x o;simp[ah.flat]at o
 |cP n t _=>intro cs q x o;simp[ah.flat]at o
 |alt n t r _ _=>intro cs q x o;simp[ah.flat]at o
 |map k v _ _=>intro cs q x o;simp[ah.flat]at o
 |arr n t O=>intro cs q x o h h';exact IL (f:=aL w M t) (g:=aL w' M' t) (fun _ _ _ R U=>O o R U) h.2 h'.2
theorem nv{w w':World}{M M':Nat->Prop}{t:ah}{v v':Value}{x:t.el}(q:t.flat=true)(h:bf w M v t x)(h':bf w' M' v' t x):v=v':=by
 cases o:t.agg with
 |true=>
  obtain⟨cs,rfl,O⟩:=(eG o).1 h
  obtain⟨U,rfl,R⟩:=(eG o).1 h'
  rw[L4 t q O R]
 |false=>
  have:=L4 t q ((bC o).1 h) ((bC o).1 h')
  simpa using this
theorem uM{P:Program}{t e:TypeId}{len d:Nat}{u:ah}{n:Int}{k:IntKind}{a:Addr}(o:P.underlying t=some (.array len e))(q:dc P d e=some u)(O:0<=n)(R:n<(len:Int))(w':World):
  (Instr.indexAt t (.pointer (some a)) (.int k n)).run P w'=.ok (.pointer (some (a.add (n.toNat*u.cells)))) w':=by
 simp only[Instr.indexAt,asIntOf,Sem.run_bind,Sem.run_pure,Result.andThen_ok,run_underlying o,Instr.sureAddr]
 rw[if_pos ⟨O,R⟩]
 simp only[Sem.run_bind,fi q,Result.andThen_ok,Sem.run_pure]
theorem Dt{P:Program}{w:World}{M:Nat->Prop}{d:Nat}{t:TypeId}{u:ah}(q:dc P d t=some u){pre c post:List Value}{x:u.el}(U:aL w M u c x):
  ∃v,(∀O,(part t (pre++c++post).toArray pre.length).run P O=.ok v O)/\bf w M v u x:=by
 obtain⟨v,o,Z⟩:=tX (P:=P) q (pre:=pre) (post:=post) U w
 refine⟨v,fun O=>?_,Z⟩
 have W:=cu u U
 cases R:u.agg with
 |true=>
  unfold part at o⊢
  rw[Sem.run_bind,kK q,R]at o⊢
  simp only[Result.andThen_ok,if_true,Sem.run_bind,fi q,Sem.run_pure]at o⊢
  injection o with o
  rw[o]
 |false=>
  unfold part at o⊢
  rw[Sem.run_bind,kK q,R]at o⊢
  simp only[Result.andThen_ok,Bool.false_eq_true,if_false]at o⊢
  have la:u.cells=1:=by cases u<;>first|rfl|(simp[ah.agg]at R)
  rw[la]at W
  match c,W with
  |[v0],_=>
   have e:(pre++[v0]++post).toArray[pre.length]? =some v0:=by simp
   rw[e]at o⊢
   have:v0=v:=by
    have Y:(pure v0:Sem Value).run P w=.ok v w:=o
    rw[Sem.run_pure]at Y
    injection Y
   rw[<-this]
   rfl
def zeroOf(P:Program)(t:TypeId):Option ah:=
 match ty P t,P.info? t with
 |some u,some i=>match i.zero with
  |some z=>match fT u z.cells.toList with
   |some []=>some u
   |_=>none
  |none=>none
 |_,_=>none
theorem kq{P:Program}{t:TypeId}{u:ah}(h:zeroOf P t=some u):∃i z,ty P t=some u/\P.info? t=some i/\i.size=u.cells/\i.zero=some z/\∀w M,aL w M u z.cells.toList (cl u):=by
 unfold zeroOf at h
 split at h
 ·rename_i la i o q
  split at h
  ·rename_i z R
   split at h
   ·rename_i U
    cases h
    obtain⟨lb,O,W,_⟩:=dw o
    rw[q]at O
    cases O
    refine⟨i,z,o,q,W,R,fun w M=>?_⟩
    obtain⟨c,Y,Z⟩:=KK (w:=w) (M:=M) u U
    rw[Y,List.append_nil]
    exact Z
   ·cases h
  ·cases h
 ·cases h
/-! Parts by steps. -/
def kz:(t:ah)->t.el->List nl->List ak->Option (ak×List ak×List Prop)
 |t,x,[],orc=>some (⟨t,x⟩,orc,[])
 |t,x,.f off u::p,orc=>match dd t x off u with
  |some y=>kz u y p orc
  |none=>none
 |.arr _ u,xs,.x j o::p,v::orc=>match Nat.beq o u.cells,v.as u with
  |true,some y=>match kz u y p orc with
   |some (r,aa,ob)=>some (r,aa,(ar (show List u.el from xs) j=some y)::ob)
   |none=>none
  |_,_=>none
 |_,_,.x _ _::_,_=>none
def mS:(t:ah)->t.el->List nl->List ak->ak->Option (t.el×List ak×List Prop)
 |t,_,[],orc,z=>match z.as t with
  |some y=>some (y,orc,[])
  |none=>none
 |t,x,.f off u::p,orc,z=>match dd t x off u with
  |some y=>match mS u y p orc z with
   |some (o,aa,ob)=>match cE t x off ⟨u,o⟩with
    |some x'=>some (x',aa,ob)
    |none=>none
   |none=>none
  |none=>none
 |.arr _ u,xs,.x j q::p,v::orc,z=>match Nat.beq q u.cells,v.as u with
  |true,some y=>match mS u y p orc z with
   |some (o,aa,ob)=>some (List.set (show List u.el from xs) j.toNat o,aa,(ar (show List u.el from xs) j=some y)::ob)
   |none=>none
  |_,_=>none
 |_,_,.x _ _::_,_,_=>none
theorem wv:∀(p:List nl) (t:ah) {cs:List Value} {x:t.el} {orc orc':List ak} {r:ak} {ob:List Prop},aL w M t cs x->kz t x p orc=some (r,orc',ob)->bW ob->
  ∃c1 c2 c3,cs=c1++c2++c3/\c1.length=gp p/\aL w M r.t c2 r.x
 |[],t,cs,x,orc,orc',r,ob,h,o,_=>by
  simp only[kz]at o
  cases o
  exact⟨[],cs,[],by simp,rfl,h⟩
 |.f off u::p,t,cs,x,orc,orc',r,ob,h,o,q=>by
  simp only[kz]at o
  split at o
  ·rename_i y W
   obtain⟨c1,c2,c3,rfl,O,R⟩:=pA t h W
   obtain⟨d1,d2,d3,rfl,ai,U⟩:=wv p u R o q
   exact⟨c1++d1,d2,d3++c3,by simp,by rw[List.length_append,O,ai];rfl,U⟩
  ·cases o
 |.x j lb::p,t,cs,x,orc,orc',r,ob,h,o,q=>by
  cases t with
  |arr n u=>
   cases orc with
   |nil=>simp[kz]at o
   |cons v orc=>
    simp only[kz]at o
    split at o
    ·rename_i y Y lc
     split at o
     ·rename_i ld aa le Z
      cases o
      obtain⟨lf,lg,R⟩:=jG q.1
      obtain⟨c1,c2,c3,rfl,O,U⟩:=mY h.2 R
      obtain⟨d1,d2,d3,rfl,ai,la⟩:=wv p u U Z q.2
      exact⟨c1++d1,d2,d3++c3,by simp,by rw[List.length_append,O,ai,<-Nat.eq_of_beq_eq_true Y];rfl,la⟩
     ·cases o
    ·cases o
  |_=>simp[kz]at o
theorem Dh{z:ak}{q:List Value}(U:aL w M z.t q z.x):∀(p:List nl) (t:ah) {cs:List Value} {x:t.el} {orc orc':List ak} {y:t.el} {ob:List Prop},aL w M t cs x->mS t x p orc z=some (y,orc',ob)->bW ob->
  ∃c1 c2 c3,cs=c1++c2++c3/\c1.length=gp p/\c2.length=q.length/\aL w M t (c1++q++c3) y
 |[],t,cs,x,orc,orc',y,ob,h,o,_=>by
  simp only[mS]at o
  split at o
  ·rename_i lv lh
   cases o
   have e:=ak.dx lh
   subst e
   exact⟨[],cs,[],by simp,rfl,by rw[cu t h,cu t U],by simpa using U⟩
  ·cases o
 |.f off u::p,t,cs,x,orc,orc',y,ob,h,o,W=>by
  simp only[mS]at o
  split at o
  ·rename_i li lj
   split at o
   ·rename_i la aa lk lb
    split at o
    ·rename_i x' ll
     cases o
     obtain⟨c1,c2,c3,e,Y,lc⟩:=pA t h lj
     obtain⟨d1,d2,d3,lf,ai,Z,ld⟩:=Dh U p u lc lb W
     obtain⟨O,lg,R,lm,ln,lo,le⟩:=rC (v:=⟨u,la⟩) ld t h ll
     have lp:c2.length=(d1++q++d3).length:=by rw[lf];simp only[List.length_append,Z]
     have lq:O=c1/\lg=c2/\R=c3:=by
      have lr:O++(lg++R)=c1++(c2++c3):=by rw[<-List.append_assoc,<-List.append_assoc,<-lm,<-e]
      obtain⟨ls,a2⟩:=List.append_inj lr (by rw[ln,Y])
      obtain⟨a3,a4⟩:=List.append_inj a2 (by rw[lo,lp])
      exact⟨ls,a3,a4⟩
     obtain⟨rfl,rfl,rfl⟩:=lq
     subst lf
     refine⟨O++d1,d2,d3++R,by rw[e];simp,by rw[List.length_append,Y,ai];rfl,Z,?_⟩
     have:O++d1++q++(d3++R)=O++(d1++q++d3)++R:=by simp
     rw[this]
     exact le
    ·cases o
   ·cases o
  ·cases o
 |.x j lw::p,t,cs,x,orc,orc',y,ob,h,o,W=>by
  cases t with
  |arr n u=>
   cases orc with
   |nil=>simp[mS]at o
   |cons v orc=>
    simp only[mS]at o
    split at o
    ·rename_i li lt lx
     split at o
     ·rename_i la aa lk lb
      cases o
      obtain⟨ly,lz,lc⟩:=jG W.1
      obtain⟨c1,c2,c3,rfl,Y,ld,lu⟩:=tv h.2 lc
      obtain⟨d1,d2,d3,rfl,ai,Z,le⟩:=Dh U p u ld lb W.2
      refine⟨c1++d1,d2,d3++c3,by simp,by rw[List.length_append,Y,ai,<-Nat.eq_of_beq_eq_true lt];rfl,Z,?_,?_⟩
      ·exact(@List.length_set _ (show List u.el from x) j.toNat la).trans h.1
      ·have:=lu _ _ le
       simpa using this
     ·cases o
    ·cases o
  |_=>simp[mS]at o
def w7:ah->Bool
 |.arr _ _=>true
 |.pair a b=>w7 a||w7 b
 |_=>false
def zt(z:Value)(u:ah):Bool:=
 match z with
 |.agg _=>u.agg
 |_=>!u.agg
def zeroV(P:Program)(t:TypeId):Option ah:=
 match zeroOf P t,P.info? t with
 |some u,some i=>match i.zero with
  |some z=>bif zt z u then some u else none
  |none=>none
 |_,_=>none
theorem HJ{P:Program}{t:TypeId}{u:ah}(h:zeroV P t=some u):∃z,ty P t=some u/\(∀w,(zeroValue t).run P w=.ok z w)/\∀w M,bf w M z u (cl u):=by
 unfold zeroV at h
 split at h
 ·rename_i la i lb R
  split at h
  ·rename_i z U
   cases O:zt z la<;>rw[O]at h<;>cases h
   obtain⟨lc,o,ld,W,_,Y,le⟩:=kq lb
   have lf:lc=i:=by rw[R]at W;cases W;rfl
   subst lf
   have lg:o=z:=by rw[U]at Y;cases Y;rfl
   subst lg
   refine⟨o,ld,fun w=>by simp[zeroValue,typeInfo,R,U],fun w M=>?_⟩
   have Z:=le w M
   cases q:u.agg with
   |true=>
    cases o<;>simp only[zt,q,Bool.not_true,Bool.false_eq_true]at O
    rename_i cs
    exact(eG q).2 ⟨cs.toList,by simp,Z⟩
   |false=>
    refine(bC q).2 ?_
    cases o<;>first|exact Z|(simp[zt,q]at O)
  ·cases h
 ·cases h
def bM{α β:Type}(eq:α->α->Bool):List (α×β)->α->Option β
 |[],_=>none
 |p::ps,k=>if eq k p.1 then some p.2 else bM eq ps k
def cn{α β:Type}(eq:α->α->Bool):List (α×β)->α->β->List (α×β)
 |[],k,v=>[(k,v)]
 |p::ps,k,v=>if eq k p.1 then(k,v)::ps else p::cn eq ps k v
theorem Mj{α:Type}{f:α->α->Bool}(h:∀x y,f x y=true->x=y):∀{xs q:List α},kJ f xs q=true->xs=q
 |[],[],_=>rfl
 |[],_::_,o=>by cases o
 |_::_,[],o=>by cases o
 |x::xs,y::q,o=>by
  simp only[kJ,Bool.and_eq_true]at o
  rw[h x y o.1,Mj h o.2]
theorem HH:∀(t:ah) {x y:t.el},aR t x y=true->x=y:=by
 intro t
 induction t with
 |int k=>intro x y h;exact eq_of_beq (α:=Int) h
 |bool=>intro x y h;exact eq_of_beq (α:=Bool) h
 |str=>intro x y h;exact eq_of_beq (α:=List UInt8) h
 |unit=>intro x y _;rfl
 |pair a b o q=>
  intro x y h
  simp only[aR,Bool.and_eq_true]at h
  exact Prod.ext (o h.1) (q h.2)
 |arr n t O=>intro x y h;exact Mj (fun _ _=>O) h
 |ab t _=>intro x y h;cases h
 |ptr t _=>intro x y h;cases h
 |fn f t _=>intro x y h;cases h
 |err=>intro x y h;cases h
 |cO=>intro x y h;cases h
 |dj=>intro x y h;cases h
 |cP n t _=>intro x y h;cases h
 |alt n t r _ _=>intro x y h;cases h
 |map k v _ _=>intro x y h;cases h
theorem JG{d:Nat}:∀(an:List Field) (off:Nat) (u:ah),fieldsOf (dc P d) off an=some u->∀(pre c:List Value) (x:u.el),pre.length=off->aL w M u c x->
  ∀f∈an,∃(a:Value) (O:ah) (Z:O.el),dc P d f.type=some O/\(∀q,(part f.type (pre++c).toArray f.offset).run P q=.ok a q)/\bf w M a O Z
 |[],off,u,h,pre,c,x,_,_,f,o=>by cases o
 |fd::an,off,u,h,pre,c,x,U,la,f,o=>by
  unfold fieldsOf at h
  cases R:Nat.beq fd.offset off with
  |false=>rw[R]at h;cases h
  |true=>
   have lb:=Nat.eq_of_beq_eq_true R
   rw[R,cond_true]at h
   split at h
   ·rename_i a W
    split at h
    ·rename_i b lc
     cases h
     obtain⟨c1,c2,rfl,Y,cy⟩:=la
     rcases List.mem_cons.1 o with rfl|o
     ·obtain⟨v,ld,le⟩:=Dt (P:=P) W (pre:=pre) (post:=c2) Y
      refine⟨v,a,x.1,W,fun q=>?_,le⟩
      have:=ld q
      rw[List.append_assoc,U,<-lb]at this
      exact this
     ·have:=JG an (off+a.cells) b lc (pre++c1) c2 x.2 (by rw[List.length_append,U,cu a Y]) cy f o
      rw[List.append_assoc]at this
      exact this
    ·cases h
   ·cases h
theorem aaN{d:Nat}{e:TypeId}{u:ah}(q:dc P d e=some u){c:List Value}{xs:List u.el}(O:bT (aL w M u) c xs)(j:Nat)(R:j<xs.length):
  ∃(a:Value) (x:u.el),(∀o,(part e c.toArray (j*u.cells)).run P o=.ok a o)/\bf w M a u x:=by
 obtain⟨c1,c2,c3,rfl,U,W⟩:=mY O (List.getElem?_eq_getElem R)
 obtain⟨v,Y,Z⟩:=Dt (P:=P) q (pre:=c1) (post:=c3) W
 exact⟨v,_,fun o=>by have:=Y o;rw[U]at this;exact this,Z⟩
theorem ql(em:Bool):∀(d:Nat) (t:TypeId) (u:ah),dc P d t=some u->∀d',eD P d' t=true->∀R,d'<=R->∀(w q:World) (M:Nat->Prop) (v:Value) (x:u.el),bf w M v u x->(Instr.checkKey em R t v).run P q=.ok () q
 |0,_,_,h=>by cases h
 |d+1,t,u,h=>by
  intro d' O R lt w q M v x la
  cases d' with
  |zero=>cases O
  |succ d'=>
   obtain⟨R,rfl⟩:∃k,R=k+1:=⟨R-1,by omega⟩
   have lu:=h
   unfold eD at O
   unfold dc at h
   rw[Instr.checkKey]
   split at h
   ·rename_i i k U o
    cases W:Nat.beq i.size 1<;>rw[W]at h<;>cases h
    obtain rfl:=dp.1 la
    simp[run_underlying o]
   ·rename_i i U o
    cases W:Nat.beq i.size 1<;>rw[W]at h<;>cases h
    obtain rfl:=dU.1 la
    simp[run_underlying o]
   ·rename_i i U o
    cases W:Nat.beq i.size 1<;>rw[W]at h<;>cases h
    obtain⟨rfl,_⟩:=eW.1 la
    simp[run_underlying o]
   ·rename_i i e U o
    rw[o]at O
    cases O
   ·rename_i i an U o
    rw[o]at O
    simp only[Bool.and_eq_true,Bool.not_eq_true']at O
    split at h
    ·rename_i v0 Z
     cases W:Nat.beq i.size v0.cells<;>rw[W]at h<;>cases h
     have lj:=LF Z
     obtain⟨c,rfl,lk⟩:=(eG lj).1 la
     simp only[Sem.run_bind,run_underlying o,Result.andThen_ok]
     rw[<-Array.forIn_toList]
     have Y:∀f∈an.toList,∃a,f.name≠ "_" /\(∀q,(part f.type c.toArray f.offset).run P q=.ok a q)/\(Instr.checkKey em R f.type a).run P q=.ok () q:=by
      intro f li
      obtain⟨a,ll,lm,lb,lc,ln⟩:=JG an.toList 0 u Z [] c x rfl lk f li
      have ld:=List.all_eq_true.1 O.2 f li
      simp only[Bool.and_eq_true,bne_iff_ne,ne_eq]at ld
      exact⟨a,ld.1,fun q=>by have:=lc q;simpa using this,ql em d f.type ll lb d' ld.2 R (by omega) w q M a lm ln⟩
     generalize an.toList=L at Y
     induction L with
     |nil=>simp
     |cons f L le=>
      obtain⟨a,lo,lf,lg⟩:=Y f List.mem_cons_self
      simp only[List.forIn_cons,Sem.run_bind,lo,ne_eq,not_false_eq_true,if_true,Result.andThen_ok,lf,lg,Sem.run_pure]
      exact le fun y lh=>Y y (List.mem_cons_of_mem _ lh)
    ·cases h
   ·rename_i i lv U o
    rw[o]at O
    cases O
   ·rename_i i n e U o
    rw[o]at O
    split at h
    ·rename_i v0 Z
     cases W:Nat.beq i.size (n*v0.cells)<;>rw[W]at h<;>cases h
     obtain⟨c,rfl,lp,lq⟩:=(eG (t:=.arr n v0) rfl).1 la
     simp only[Sem.run_bind,run_underlying o,Result.andThen_ok]
     simp only[Std.Legacy.Range.forIn_eq_forIn_range',Std.Legacy.Range.size,Nat.sub_zero,Nat.add_one_sub_one,Nat.div_one]
     have Y:∀j∈List.range' 0 n,∃a,(∀q,(part e c.toArray (j*v0.cells)).run P q=.ok a q)/\(Instr.checkKey em R e a).run P q=.ok () q:=by
      intro j lr
      have ls:j<n:=by simpa using lr
      obtain⟨a,y,lb,lc⟩:=aaN Z lq j (by rw[lp];exact ls)
      exact⟨a,lb,ql em d e v0 Z d' O R (by omega) w q M a y lc⟩
     generalize List.range' 0 n=L at Y
     induction L with
     |nil=>simp
     |cons j L le=>
      obtain⟨a,lf,lg⟩:=Y j List.mem_cons_self
      simp only[List.forIn_cons,Sem.run_bind,fi Z,Result.andThen_ok,lf,lg,Sem.run_pure]
      exact le fun y lh=>Y y (List.mem_cons_of_mem _ lh)
    ·cases h
   ·rename_i i k e U o
    rw[o]at O
    cases O
   ·rename_i i a b c U o
    rw[o]at O
    cases O
   ·rename_i i e U o
    rw[o]at O
    cases O
   ·cases h
def gw{α β:Type}(eq:α->α->Bool)(key:α):List MapEntry->List (α×β)->Nat->Option (Nat×Value)
 |e::es,p::ps,i=>if eq key p.1 then some (i,e.val)else gw eq key es ps (i+1)
 |_,_,_=>none
theorem MJ{d d':Nat}{q:TypeId}{u:ah}{β:Type}{W:Value->β->Prop}(O:dc P d q=some u)(R:eD P d' q=true)(ai:d'<=10000){kv:Value}{key:u.el}(U:bf w M kv u key)(o:World):
  ∀(es:List MapEntry) (ps:List (u.el×β)) (i:Nat),eC (eI w' M' u) W es ps->(Instr.findAsking q kv es i).run P o=.ok (gw (aR u) key es ps i) o
 |[],[],i,_=>by simp[Instr.findAsking,gw]
 |[],_::_,_,h=>h.elim
 |_::_,[],_,h=>h.elim
 |e::es,p::ps,i,⟨Y,_,Z⟩=>by
  have la:(Op.equal q kv e.key).run P o=.ok (aR u key p.1) o:=tT d q u O d' R 10000 ai w w' o M M' kv e.key key p.1 U Y
  rw[Instr.findAsking,Sem.run_bind,la]
  simp only[Result.andThen_ok,gw]
  cases lb:aR u key p.1 with
  |true=>simp
  |false=>simp only[Bool.false_eq_true,if_false];exact MJ O R ai U o es ps (i+1) Z
theorem Mg{o:TypeDesc}{u:ah}{β:Type}{O:Value->β->Prop}{kv:Value}{key:u.el}(q:∀(e:Value) (x:u.el),bf w' M' e u x->Instr.sameNow o kv e=some (aR u key x)):
  ∀(es:List MapEntry) (ps:List (u.el×β)) (i:Nat),eC (eI w' M' u) O es ps->Instr.findNow o kv es i=some (gw (aR u) key es ps i)
 |[],[],i,_=>rfl
 |[],_::_,_,h=>h.elim
 |_::_,[],_,h=>h.elim
 |e::es,p::ps,i,⟨R,_,U⟩=>by
  rw[Instr.findNow,q e.key p.1 R,gw]
  cases W:aR u key p.1 with
  |true=>simp
  |false=>simp only[Bool.false_eq_true,if_false];exact Mg q es ps (i+1) U
theorem Yp(a b:List UInt8):((⟨a.toArray⟩:ByteArray)==⟨b.toArray⟩)=eqStr a b:=by
 unfold eqStr
 rw[Bool.eq_iff_iff,MapKept.bytes_beq,beq_iff_eq]
 constructor
 ·intro e
  have:=congrArg (fun b:ByteArray=>b.data.toList) e
  simpa using this
 ·intro e;rw[e]
theorem vn{d d':Nat}{U:TypeId}{u:ah}{β:Type}{lc:Value->β->Prop}(lb:dc P d U=some u)(R:eD P d' U=true)(ai:d'<=10000){kv:Value}{key:u.el}(Y:bf w M kv u key)(O:World)
  {es:List MapEntry}{ps:List (u.el×β)}(h:eC (eI w' M' u) lc es ps):(Instr.findKey U kv es).run P O=.ok (gw (aR u) key es ps 0) O:=by
 have ask:=MJ lb R ai Y O es ps 0 h
 have Z:∀la,P.underlying U=some la->(∀(e:Value) (x:u.el),bf w' M' e u x->Instr.sameNow la kv e=some (aR u key x))->(Instr.findKey U kv es).run P O=.ok (gw (aR u) key es ps 0) O:=by
  intro la o ld
  exact MapKept.run_findKey o (Mg ld es ps 0 h)
 obtain⟨i,le,lf,q⟩:=dw lb
 cases u with
 |int k=>
  obtain rfl:=dp.1 Y
  exact Z _ q fun e x W=>by obtain rfl:=dp.1 W;simp[Instr.sameNow,aR,LU]
 |bool=>
  obtain rfl:=dU.1 Y
  exact Z _ q fun e x W=>by obtain rfl:=dU.1 W;simp[Instr.sameNow,aR,HP]
 |str=>
  obtain⟨rfl,_⟩:=eW.1 Y
  refine Z _ q fun e x W=>?_
  obtain⟨rfl,_⟩:=eW.1 W
  exact congrArg some (Yp key x)
 |unit=>obtain⟨an,d2,o,_⟩:=q;rw[run_findKey_eq O (by rw[o]) kv es];exact ask
 |pair a b=>obtain⟨an,d2,o,_⟩:=q;rw[run_findKey_eq O (by rw[o]) kv es];exact ask
 |arr n t=>obtain⟨e,d2,o,_⟩:=q;rw[run_findKey_eq O (by rw[o]) kv es];exact ask
 |ab t=>obtain⟨e,d2,o,_⟩:=q;cases d'<;>simp[eD,o]at R
 |err=>obtain⟨lg,o⟩:=q;cases d'<;>simp[eD,o]at R
 |cO=>rcases q with ⟨_,_,_,o⟩|⟨_,o⟩<;>cases d'<;>simp[eD,o]at R
 |dj=>obtain⟨_,_,_,o⟩:=q;cases d'<;>simp[eD,o]at R
 |map a b=>obtain⟨k,e,d2,o,_⟩:=q;cases d'<;>simp[eD,o]at R
 |ptr t=>exact q.elim
 |fn f t=>exact q.elim
 |cP n t=>exact q.elim
 |alt n t r=>exact q.elim
theorem Gj{α β:Type}{eq:α->α->Bool}{key:α}{q:Value->α->Prop}{o:Value->β->Prop}:∀(es:List MapEntry) (ps:List (α×β)) (i:Nat),eC q o es ps->
  (gw eq key es ps i=none/\bM eq ps key=none)\/∃n e y,gw eq key es ps i=some (i+n,e.val)/\es[n]? =some e/\bM eq ps key=some y/\o e.val y
 |[],[],i,_=>.inl ⟨rfl,rfl⟩
 |[],_::_,_,h=>h.elim
 |_::_,[],_,h=>h.elim
 |e::es,p::ps,i,⟨lb,O,R⟩=>by
  unfold gw bM
  cases lc:eq key p.1 with
  |true=>exact .inr ⟨0,e,p.2,by simp,rfl,by simp,O⟩
  |false=>
   simp only[Bool.false_eq_true,if_false]
   rcases Gj es ps (i+1) R with h|⟨n,U,y,W,Y,Z,la⟩
   ·exact .inl h
   ·exact .inr ⟨n+1,U,y,by rw[W];congr 2;omega,by simpa using Y,Z,la⟩
theorem vE{α β:Type}{eq:α->α->Bool}{key:α}{o:Value->α->Prop}{q:Value->β->Prop}{kv vv:Value}{val:β}(O:o kv key)(R:q vv val):∀(es:List MapEntry) (ps:List (α×β)) (i:Nat),eC o q es ps->
  (gw eq key es ps i=none/\cn eq ps key val=ps++[(key,val)])\/∃n e p,gw eq key es ps i=some (i+n,e.val)/\es[n]? =some e/\o e.key p/\eq key p=true/\
   eC o q (es.modify n fun e=>{e with key:=kv,val:=vv}) (cn eq ps key val)
 |[],[],i,_=>.inl ⟨rfl,rfl⟩
 |[],_::_,_,h=>h.elim
 |_::_,[],_,h=>h.elim
 |e::es,p::ps,i,⟨U,Y,W⟩=>by
  unfold gw cn
  cases Z:eq key p.1 with
  |true=>exact .inr ⟨0,e,p.1,by simp,rfl,U,Z,by simp only[if_true];exact⟨O,R,W⟩⟩
  |false=>
   simp only[Bool.false_eq_true,if_false]
   rcases vE O R es ps (i+1) W with ⟨la,lb⟩|⟨n,lc,ld,le,lf,lg,lh,li⟩
   ·exact .inl ⟨la,by rw[lb];rfl⟩
   ·exact .inr ⟨n+1,lc,ld,by rw[le];congr 2;omega,by simpa using lf,lg,lh,⟨U,Y,li⟩⟩
theorem s9(kv vv:Value):∀(es:List MapEntry) (n:Nat),(es.modify n fun e=>{e with key:=kv,val:=vv}).map (·.born)=es.map (·.born)
 |[],n=>by cases n<;>rfl
 |e::es,0=>rfl
 |e::es,n+1=>by
  have:=s9 kv vv es n
  simp only[List.modify_succ_cons,List.map_cons,this]
theorem yw{α β:Type}{o:Value->α->Prop}{q:Value->β->Prop}:∀{es O:List MapEntry} {ps R:List (α×β)},eC o q es ps->eC o q O R->eC o q (es++O) (ps++R)
 |[],_,[],_,_,h=>h
 |[],_,_::_,_,h,_=>h.elim
 |_::_,_,[],_,h,_=>h.elim
 |_::_,_,_::_,_,⟨U,W,Y⟩,h=>⟨U,W,yw Y h⟩
def plainCell:Value->Bool
 |.bool _=>true
 |.int _ _=>true
 |.string _=>true
 |_=>false
theorem N1{α:Type}{f:List Value->α->Prop}{p:Value->Bool}(h:∀c x,f c x->∀u∈c,p u=true):∀{xs:List α} {cs:List Value},bT f cs xs->∀u∈cs,p u=true
 |[],_,o,u,hu=>by cases o;cases hu
 |_::_,_,⟨c1,c2,e,q,O⟩,u,hu=>by
  subst e
  rcases List.mem_append.1 hu with hu|hu
  ·exact h _ _ q u hu
  ·exact N1 h O u hu
theorem MO:∀(t:ah) {cs:List Value} {x:t.el},t.flat=true->aL w M t cs x->∀u∈cs,plainCell u=true:=by
 intro t
 induction t with
 |int k=>intro cs x _ h u hu;cases h;simp at hu;subst hu;rfl
 |bool=>intro cs x _ h u hu;cases h;simp at hu;subst hu;rfl
 |str=>intro cs x _ h u hu;cases h.1;simp at hu;subst hu;rfl
 |unit=>intro cs x _ h u hu;cases h;simp at hu
 |pair a b q O=>
  rintro cs x o ⟨c1,c2,rfl,R,U⟩ u hu
  simp only[ah.flat,Bool.and_eq_true]at o
  rcases List.mem_append.1 hu with hu|hu
  ·exact q o.1 R u hu
  ·exact O o.2 U u hu
 |arr n t W=>intro cs x o h u hu;exact N1 (fun _ _ Y=>W o Y) h.2 u hu
 |ab t _=>intro cs x o;simp[ah.flat]at o
 |ptr t _=>intro cs x o;simp[ah.flat]at o
 |fn f t _=>intro cs x o;simp[ah.flat]at o
 |err=>intro cs x o;simp[ah.flat]at o
 |cO=>intro cs x o;simp[ah.flat]at o
 |dj=>intro cs x o;simp[ah.flat]at o
 |cP n t _=>intro cs x o;simp[ah.flat]at o
 |alt n t r _ _=>intro cs x o;simp[ah.flat]at o
 |map k v _ _=>intro cs x o;simp[ah.flat]at o
theorem Oh{u:Value}(h:plainCell u=true)(n:Nat):Instr.sameBits n u u=true:=by
 cases u<;>first|(simp[plainCell]at h;done)|simp[Instr.sameBits,MapKept.bytes_beq]
theorem MU(n:Nat):∀(l:List Value),(∀u∈l,plainCell u=true)->((l.zip l).all fun(x,y)=>Instr.sameBits n x y)=true
 |[],_=>rfl
 |u::l,h=>by
  rw[List.zip_cons_cons,List.all_cons,Bool.and_eq_true]
  exact⟨Oh (h u List.mem_cons_self) n,MU n l fun x o=>h x (List.mem_cons_of_mem _ o)⟩
theorem Fq{t:ah}{v:Value}{x:t.el}(o:t.flat=true)(h:bf w M v t x):Instr.sameBits 10000 v v=true:=by
 cases q:t.agg with
 |true=>
  obtain⟨cs,rfl,O⟩:=(eG q).1 h
  rw[Instr.sameBits]
  simp only[beq_self_eq_true,Bool.true_and]
  exact MU 9999 cs (MO t o O)
 |false=>
  exact Oh (MO t o ((bC q).1 h) v (by simp)) _
theorem rb{mt Y lb:TypeId}{d d':Nat}{u v:ah}(la:P.underlying mt=some (.map Y lb))(lc:dc P d Y=some u)(ld:eD P d' Y=true)(ai:d'<=10000)
  {z:Value}(le:∀w,(zeroValue lb).run P w=.ok z w)(ll:∀w M,bf w M z v (cl v)){kv:Value}{key:u.el}(lf:bf w M kv u key){es:Array MapEntry}{ps:List (u.el×v.el)}
  (lg:eC (eI w' M' u) (eI w' M' v) es.toList ps):
  ∃r,bf w' M' r v ((bM (aR u) ps key).getD (cl v))/\∀(o:World) (x:Value),((x=.map none/\es=#[])\/∃g U,x=.map (some g)/\o.heap[g]? =some (.map es U))->
   ∀ok,(Instr.lookup mt x kv ok).run P o=.ok (if ok then .tuple #[r,.bool (bM (aR u) ps key).isSome]else r) o:=by
 have lm:=fun o=>vn lc ld ai lf o lg
 have lh:=fun em o=>ql (P:=P) em d Y u lc d' ld 10000 ai w o M kv key lf
 have run:∀(r:Value) (o:World) (x:Value),((x=.map none/\es=#[])\/∃g U,x=.map (some g)/\o.heap[g]? =some (.map es U))->
   ((gw (aR u) key es.toList ps 0=none/\bM (aR u) ps key=none/\r=z)\/∃n y,gw (aR u) key es.toList ps 0=some (n,r)/\bM (aR u) ps key=some y)->
   ∀ok,(Instr.lookup mt x kv ok).run P o=.ok (if ok then .tuple #[r,.bool (bM (aR u) ps key).isSome]else r) o:=by
  intro r o x W li ok
  have R:=lm o
  rcases W with ⟨rfl,rfl⟩|⟨g,U,rfl,ln⟩
  ·have Z:=lh true o
   rcases li with ⟨q,O,rfl⟩|⟨n,y,q,O⟩
   ·rw[q]at R
    unfold Instr.lookup
    simp only[Sem.run_bind,run_underlying la,Result.andThen_ok,Sem.run_pure,show(#[]:Array MapEntry).isEmpty=true from rfl,Z,R,le,O]
    cases ok<;>simp
   ·simp[gw]at q
  ·have Z:=lh es.isEmpty o
   have lj:(getObj g).run P o=.ok (.map es U) o:=by simp[getObj,Sem.run,ln]
   rcases li with ⟨q,O,rfl⟩|⟨n,y,q,O⟩
   ·rw[q]at R
    unfold Instr.lookup
    simp only[Sem.run_bind,run_underlying la,Result.andThen_ok,lj,Sem.run_pure,Z,R,le,O]
    cases ok<;>simp
   ·rw[q]at R
    unfold Instr.lookup
    simp only[Sem.run_bind,run_underlying la,Result.andThen_ok,lj,Sem.run_pure,Z,R,O]
    cases ok<;>simp
 rcases Gj (eq:=aR u) (key:=key) es.toList ps 0 lg with ⟨q,O⟩|⟨n,e,y,q,O,lk,lo⟩
 ·exact⟨z,by rw[O];exact ll _ _,fun o x W=>run z o x W (.inl ⟨q,O,rfl⟩)⟩
 ·exact⟨e.val,by rw[lk];exact lo,fun o x W=>run e.val o x W (.inr ⟨_,y,q,lk⟩)⟩
theorem O7{mt q lp:TypeId}{d d':Nat}{u v:ah}(lc:P.underlying mt=some (.map q lp))(ld:dc P d q=some u)(le:eD P d' q=true)(ai:d'<=10000)(lf:u.flat=true)
  {kv vv:Value}{key:u.el}{val:v.el}(o:bf w M kv u key)(lg:bf w M vv v val){g:Nat}{es:Array MapEntry}{clock:Nat}{ps:List (u.el×v.el)}
  (lh:w.heap[g]? =some (.map es clock))(U:∀e∈es.toList,e.born<clock)(li:(es.toList.map (·.born)).Nodup)(W:eC (eI w M u) (eI w M v) es.toList ps):
  ∃(O:Array MapEntry) (lj:Nat),(Instr.mapUpdate mt (.map (some g)) kv vv).run P w=.ok () {w with heap:=w.heap.setIfInBounds g (.map O lj)}/\
   (∀e∈O.toList,e.born<lj)/\(O.toList.map (·.born)).Nodup/\eC (eI w M u) (eI w M v) O.toList (cn (aR u) ps key val):=by
 have lk:=ql (P:=P) false d q u ld d' le 10000 ai w w M kv key o
 have R:=vn ld le ai o w W
 have ll:(getObj g).run P w=.ok (.map es clock) w:=by simp[getObj,Sem.run,lh]
 have lm:∀aa,(setObj g aa).run P w=.ok () {w with heap:=w.heap.setIfInBounds g aa}:=fun aa=>by simp[setObj,Sem.run,lh]
 rcases vE (kv:=kv) (vv:=vv) (val:=val) (eq:=aR u) (key:=key) o lg es.toList ps 0 W with ⟨Y,Z⟩|⟨n,e,lq,Y,Z,lr,ls,lt⟩
 ·rw[Y]at R
  refine⟨es.push {key:=kv,val:=vv,born:=clock},clock+1,?_,?_,?_,?_⟩
  ·unfold Instr.mapUpdate
   simp only[Sem.run_bind,run_underlying lc,Result.andThen_ok,ll,lk,R,lm]
  ·intro e he
   rw[Array.toList_push]at he
   rcases List.mem_append.1 he with he|he
   ·exact Nat.lt_succ_of_lt (U e he)
   ·simp at he;subst he;exact Nat.lt_succ_self _
  ·rw[Array.toList_push,List.map_append,List.nodup_append]
   refine⟨li,by simp,?_⟩
   intro a lu b lv lB
   simp at lv
   obtain⟨e,he,rfl⟩:=List.mem_map.1 lu
   have:=U e he
   omega
  ·rw[Array.toList_push,Z]
   exact yw W ⟨o,lg,trivial⟩
 ·rw[Y,Nat.zero_add]at R
  have lw:key=lq:=HH u ls
  subst lw
  have lx:e.key=kv:=nv lf lr o
  have ly:((es[n]?).map (·.key)).getD kv=kv:=by
   have:es[n]? =some e:=by rw[<-Array.getElem?_toList];exact Z
   rw[this];simp[lx]
  have lz:∀la,(Instr.keyThatStays kv kv).run P la=.ok kv la:=fun la=>by
   unfold Instr.keyThatStays
   rw[if_pos (Fq lf o)]
   rfl
  have lb:(es.modify n fun e=>{e with key:=kv,val:=vv}).toList=es.toList.modify n fun e=>{e with key:=kv,val:=vv}:=by simp
  refine⟨es.modify n fun e=>{e with key:=kv,val:=vv},clock,?_,?_,?_,?_⟩
  ·unfold Instr.mapUpdate
   simp only[Sem.run_bind,run_underlying lc,Result.andThen_ok,ll,lk,R,ly,lz,lm]
  ·intro x ln
   rw[lb]at ln
   have lo:x.born∈(es.toList.modify n fun e=>{e with key:=kv,val:=vv}).map (·.born):=List.mem_map.2 ⟨x,ln,rfl⟩
   rw[s9]at lo
   obtain⟨y,lA,e⟩:=List.mem_map.1 lo
   rw[<-e];exact U y lA
  ·rw[lb,s9];exact li
  ·rw[lb];exact lt
end Go.Ev
namespace Go.Ev
open Go Go.RowKit
variable [cm]
structure dS where
 aU:ap
 orc:List ak
 ob:List Prop
structure MP where
 k:ah
 v:ah
 ps:List (k.el×v.el)
def mapOf(st:af):ap->Option MP
 |.val (.map k v) x=>some ⟨k,v,(show Option (List (k.el×v.el))from x).getD []⟩
 |.iter b=>match look st.ae b with
  |some (.mp k v ps)=>some ⟨k,v,ps⟩
  |_=>none
 |_=>none
def xV(P:Program)(st:af)(mt:TypeId)(x k:Operand)(ok:Bool)(orc:List ak):Option dS:=
 match(aW st x).bind (mapOf st),P.underlying mt,dL st k with
 |some cj,some (.map q O),some key=>match ty P q,zeroV P O,key.as cj.k with
  |some R,some U,some o=>match R.beq cj.k&&U.beq cj.v&&eD P 16 q,ok with
   |true,true=>some ⟨.dW [⟨cj.v,(bM (aR cj.k) cj.ps o).getD (cl cj.v)⟩,⟨.bool,(bM (aR cj.k) cj.ps o).isSome⟩],orc,[]⟩
   |true,false=>some ⟨.val cj.v ((bM (aR cj.k) cj.ps o).getD (cl cj.v)),orc,[]⟩
   |false,_=>none
  |_,_,_=>none
 |_,_,_=>none
def lenOf(P:Program)(st:af)(s:ap)(t:TypeId):Option Int:=
 match s,ty P t with
 |.val .str s,some .str=>some (s.length:Int)
 |.val (.ab _) xs,some (.ab _)=>some (xs.length:Int)
 |.row r,some (.ab _)=>match look st.rw r with
  |some c=>some (c.xs.length:Int)
  |none=>none
 |s,some (.map _ _)=>match mapOf st s with
  |some cj=>some (cj.ps.length:Int)
  |none=>none
 |_,_=>none
def vG(P:Program)(st:af)(t:TypeId)(u:ah):List (Nat×Operand)->u.el->Option u.el
 |[],x=>some x
 |(i,aa)::r,x=>
  match fieldInfo P t i,dL st aa with
  |some (off,o),some v=>match v.t.beq o,cE u x off v with
   |true,some y=>vG P st t u r y
   |_,_=>none
  |_,_=>none
def eL(s:Option ap):Option Int:=
 match s with
 |some (.val (.int _) n)=>some n
 |_=>none
def r5(P:Program)(t:TypeId):Option (Nat×ah):=
 match P.underlying t with
 |some (.array n e)=>match ty P e with
  |some u=>some (n,u)
  |none=>none
 |_=>none
def wP(P:Program)(st:af)(src o:TypeId)(x:Operand)(orc:List ak):Option dS:=
 match(aW st x).map (nR st),P.underlying src,P.underlying o with
 |some (.val (.ab (.int .u8)) xs),some (.slice e),some .string=>match P.underlying e with
  |some (.int .u8)=>some ⟨.val .str (fx xs),orc,[]⟩
  |_=>none
 |some (.val (.ab (.int .i32)) xs),some (.slice e),some .string=>match P.underlying e with
  |some (.int .i32)=>some ⟨.val .str (cz xs),orc,[(cz xs).length<=bF]⟩
  |_=>none
 |_,_,_=>none
def vX(a:Option (Option (Nat×Int)))(u:Nat)(m:Int):Bool:=
 match a with
 |some (some (t,n))=>Nat.beq t u&&n==m
 |_=>false
def pZ:Operand->Bool
 |.const .nilIface=>true
 |_=>false
def oM(P:Program)(o:BinOp)(t:TypeId)(y:Operand)(a b:ak):Option (Bool×List Prop):=
 match a,b with
 |⟨.err,a⟩,⟨.err,b⟩=>match P.underlying t,pZ y with
  |some (.interface _),true=>neg o (Option.isNone (α:=Option (Nat×Int)) a) []
  |some (.interface _),false=>match(show Option (Option (Nat×Int))from b)with
   |some (some (u,m))=>match P.info? u,P.underlying u with
    |some i,some (.int _)=>bif i.comparable then neg o (vX a u m) [(show Option (Option (Nat×Int))from a)≠some none]else none
    |_,_=>none
   |_=>none
  |_,_=>none
 |⟨.cP _ _,_⟩,⟨.err,_⟩=>match P.underlying t,pZ y with
  |some (.interface _),true=>neg o false []
  |_,_=>none
 |_,_=>none
where
 neg (o:BinOp) (b:Bool) (ob:List Prop):Option (Bool×List Prop):=
  match o with
  |.eql=>some (b,ob)
  |.neq=>some (!b,ob)
  |_=>none
def yd(t:TypeId)(v:Option ak):Option (Option (Nat×Int)):=
 match v with
 |some ⟨.int k,n⟩=>bif gR k .i64 then some (some (t,n))else some none
 |_=>some none
def mkIf(t:TypeId)(v:Option ak):ap:=
 match v with
 |some ⟨u,y⟩=>bif u.agg then .val (.cP t u) y else .val .err (yd t v)
 |none=>.val .err (yd t v)
def Ik(P:Program)(st:af)(x:Operand)(a:TypeId)(ok:Bool)(orc:List ak):Option dS:=
 match dL st x,P.underlying a with
 |some ⟨.cP n u,y⟩,some d=>match d with
  |.interface _=>none
  |_=>match Nat.beq n a,ok with
   |true,true=>some ⟨.dW [⟨u,y⟩,⟨.bool,true⟩],orc,[]⟩
   |true,false=>some ⟨.val u y,orc,[]⟩
   |false,true=>match zeroV P a with
    |some z=>some ⟨.dW [⟨z,cl z⟩,⟨.bool,false⟩],orc,[]⟩
    |none=>none
   |false,false=>none
 |_,_=>none
def mh(a b:Int):Int:=if b>a then b else a
def fM(a b:Int):Int:=if b<a then b else a
def zf(st:af)(gm:Bool)(args:List Operand):Option ak:=
 match args with
 |[x,y]=>match dL st x,dL st y with
  |some ⟨.int k,a⟩,some ⟨.int k',b⟩=>bif gR k k' then some ⟨.int k,bif gm then mh a b else fM a b⟩else none
  |_,_=>none
 |_=>none
def dN(P:Program)(st:af)(aa:Op)(orc:List ak):Option dS:=
 match aa with
 |.move x=>match aW st x with
  |some s=>some ⟨s,orc,[]⟩
  |none=>none
 |.assign x=>match aW st x with
  |some s=>some ⟨s,orc,[]⟩
  |none=>none
 |.pick c a b=>match dL st c with
  |some ⟨.bool,true⟩=>match aW st a with
   |some s=>some ⟨s,orc,[]⟩
   |none=>none
  |some ⟨.bool,false⟩=>match aW st b with
   |some s=>some ⟨s,orc,[]⟩
   |none=>none
  |_=>none
 |.binOp R t x y _=>match dL st x,dL st y with
  |some a,some b=>match bin P R t a b with
   |some (r,ob)=>some ⟨.val r.t r.x,orc,ob⟩
   |none=>match oM P R t y a b with
    |some (r,ob)=>some ⟨.val .bool r,orc,ob⟩
    |none=>none
  |_,_=>none
 |.unOp R _ x=>match dL st x with
  |some a=>match un R a with
   |some r=>some ⟨.val r.t r.x,orc,[]⟩
   |none=>none
  |none=>none
 |.convert src W x=>match dL st x with
  |some a=>match conv P src W a with
   |some r=>some ⟨.val r.t r.x,orc,[]⟩
   |none=>wP P st src W x orc
  |none=>wP P st src W x orc
 |.index t x i=>match dL st x,eL (aW st i),orc,P.underlying t with
  |some ⟨.str,s⟩,some n,⟨.int .u8,b⟩::orc',some .string=>some ⟨.val (.int .u8) b,orc',[eE s n=some b]⟩
  |some ⟨.arr k u,xs⟩,some n,v::orc',some (.array k' e)=>match Nat.beq k k',ty P e,v.as u with
   |true,some o,some y=>bif u.beq o then some ⟨.val u y,orc',[ar (show List u.el from xs) n=some y]⟩else none
   |_,_,_=>none
  |_,_,_,_=>none
 |.field t x f=>match dL st x,fieldInfo P t f with
  |some a,some (off,u)=>match a.t.agg,dd a.t a.x off u with
   |true,some y=>some ⟨.val u y,orc,[]⟩
   |_,_=>none
  |_,_=>none
 |.build t parts=>match ty P t,P.info? t with
  |some u,some i=>match i.zero,u.rz with
   |some z,true=>match fT u z.cells.toList,vG P st t u parts.toList (cl u)with
    |some [],some y=>some ⟨.val u y,orc,[]⟩
    |_,_=>none
   |_,_=>none
  |_,_=>none
 |.extract x i=>match aW st x with
  |some (.dW l)=>match l[i]? with
   |some v=>some ⟨.val v.t v.x,orc,[]⟩
   |none=>none
  |some (.gh l)=>match l[i]? with
   |some (.v v)=>some ⟨.val v.t v.x,orc,[]⟩
   |some (.r r)=>some ⟨match look st.ae r with
    |some (.cells _ _)=>.ptr r 0
    |some (.aY _ _ _)=>.dP r []
    |some _=>.iter r
    |none=>.row r,orc,[]⟩
   |some .a=>some ⟨.any,orc,[]⟩
   |none=>none
  |_=>none
 |.nilCheck x=>match aW st x with
  |some (.ptr b off)=>some ⟨.ptr b off,orc,[]⟩
  |some (.vptr t y)=>some ⟨.vptr t y,orc,[]⟩
  |some (.ep r i off O)=>some ⟨.ep r i off O,orc,[]⟩
  |some (.dP b p)=>some ⟨.dP b p,orc,[]⟩
  |_=>none
 |.fieldAddr t x f=>match aW st x,fieldInfo P t f with
  |some (.ptr b off),some (q,_)=>some ⟨.ptr b (off+q),orc,[]⟩
  |some (.vptr u y),some (q,U)=>match dd u y q U with
   |some z=>some ⟨.vptr U z,orc,[]⟩
   |none=>none
  |some (.ep r i off O),some (q,_)=>some ⟨.ep r i (off+q) O,orc,[]⟩
  |some (.dP b p),some (q,U)=>some ⟨.dP b (p++[.f q U]),orc,[]⟩
  |_,_=>none
 |.indexAddr t x i=>match aW st x,eL (aW st i),ty P t,orc with
  |some (.val (.ab u) xs),some n,some (.ab o),v::orc'=>match u.beq o,v.as u with
   |true,some y=>some ⟨.vptr u y,orc',[ar xs n=some y]⟩
   |_,_=>none
  |some (.row r),some n,some (.ab o),v::orc'=>match look st.rw r with
   |some c=>match c.t.beq o,v.as c.t with
    |true,some y=>some ⟨.ep r n 0 c.t.cells,orc',[ar c.xs n=some y]⟩
    |_,_=>none
   |none=>none
  |some (.vptr (.arr k u) xs),some n,some (.arr k' o),v::orc'=>match Nat.beq k k'&&u.beq o,v.as u with
   |true,some y=>some ⟨.vptr u y,orc',[ar (show List u.el from xs) n=some y]⟩
   |_,_=>none
  |some (.dP b p),some n,some (.arr len u),orc=>some ⟨.dP b (p++[.x n u.cells]),orc,[0<=n/\n<(len:Int)]⟩
  |some (.ptr b off),some n,some (.arr len u),orc=>bif decide (0<=n)&&decide (n<len)then some ⟨.ptr b (off+n.toNat*u.cells),orc,[]⟩else none
  |some (.ep r i0 Y O),some n,some (.arr len u),orc=>match look st.rw r with
   |some c=>match c.t.beq u&&(i0==0&&(Nat.beq Y 0&&Nat.beq O c.t.cells)),orc with
    |true,v::orc'=>match v.as c.t with
     |some y=>some ⟨.ep r n 0 c.t.cells,orc',[ar c.xs n=some y,c.xs.length=len]⟩
     |none=>none
    |true,[]=>none
    |false,orc=>bif decide (0<=n)&&decide (n<len)then some ⟨.ep r i0 (Y+n.toNat*u.cells) O,orc,[]⟩else none
   |none=>none
  |_,_,_,_=>none
 |.load t x=>match aW st x,ty P t with
  |some (.vptr u y),some o=>match u.beq o,Nat.beq u.cells 0 with
   |true,false=>some ⟨.val u y,orc,[]⟩
   |_,_=>none
  |_,_=>none
 |.slice t x Z la none=>match aW st x,orc with
  |some (.val .str s),⟨.str,r⟩::orc'=>match P.underlying t,uC st Z,tn st la s.length with
   |some .string,some l,some h=>some ⟨.val .str r,orc',[dK s l h=some r]⟩
   |_,_,_=>none
  |some (.val (.ab u) xs),v::orc'=>match ty P t,uC st Z,tn st la xs.length,v.as (.ab u)with
   |some (.ab o),some l,some h,some r=>bif u.beq o then some ⟨.val (.ab u) r,orc',[dK xs l h=some r]⟩else none
   |_,_,_,_=>none
  |_,_=>none
 |.call c=>match c with
  |{callee:=.builtin .len,args:=args,argTypes:=lb}=>match args.toList,lb.toList with
   |[x],[t]=>match aW st x with
    |some s=>match lenOf P st s t with
     |some n=>some ⟨.val (.int .i64) n,orc,[]⟩
     |none=>none
    |none=>none
   |_,_=>none
  |{callee:=.builtin .max,args:=args,.. }=>match zf st true args.toList with
   |some r=>some ⟨.val r.t r.x,orc,[]⟩
   |none=>none
  |{callee:=.builtin .min,args:=args,.. }=>match zf st false args.toList with
   |some r=>some ⟨.val r.t r.x,orc,[]⟩
   |none=>none
  |_=>none
 |.makeInterface t x=>bif P.concrete t then some ⟨mkIf t (dL st x),orc,[]⟩else none
 |.typeAssert x _ a ok=>Ik P st x a ok orc
 |.lookup mt x k ok=>xV P st mt x k ok orc
 |_=>none
where
 uC (st:af):Option Operand->Option Int
  |none=>some 0
  |some x=>eL (aW st x)
 tn (st:af):Option Operand->Nat->Option Int
  |none,n=>some (n:Int)
  |some x,_=>eL (aW st x)
variable {cx:bJ} {m:Nat->Value} {st:af} {T:Array Value} {w w':World}
variable [aj cx]
theorem fF(h:ao cx m st T w){x:Operand}{n:Int}(o:eL (aW st x)=some n):∃k,Act.eval ⟨T,aj.D cx⟩ x=.int k n:=by
 unfold eL at o
 split at o
 ·rename_i k O q
  cases o
  exact⟨k,dp.1 (bj h q)⟩
 ·cases o
theorem Ee(h:ao cx m st T w){v:Value}{s:ap}(o:aX w (au cx m st.ids) m v s){cj:MP}(q:mapOf st s=some cj):
  (v=.map none/\cj.ps=[])\/∃(g:Nat) (es:Array MapEntry) (O:Nat),v=.map (some g)/\w.heap[g]? =some (.map es O)/\eC (eI w (au cx m st.ids) cj.k) (eI w (au cx m st.ids) cj.v) es.toList cj.ps:=by
 unfold mapOf at q
 split at q
 ·rename_i k v' x
  cases q
  have o:=(bC (t:=.map k v') rfl).1 o
  match x,o with
  |none,o=>
   have o:[v]=[Value.map none]:=o
   simp only[List.cons.injEq,and_true]at o
   exact .inl ⟨o,rfl⟩
  |some ps,⟨b,es,O,e,R,_,_,_,U⟩=>
   simp only[List.cons.injEq,and_true]at e
   exact .inr ⟨b,es,O,e,R,U⟩
 ·rename_i b
  split at q
  ·rename_i k v' ps W
   cases q
   obtain⟨g,Y,_,es,O,R,_,_,U⟩:=h.box (be W)
   have Z:v=m b:=o
   exact .inr ⟨g,es,O,by rw[Z,Y];rfl,R,U⟩
  ·cases q
 ·cases q
theorem PY(h:ao cx m st T w){v:Value}{s:ap}(R:aX w (au cx m st.ids) m v s){n:Int}{t:TypeId}(o:lenOf cx.P st s t=some n){ty':TypeId}:
  ny cx.P w (Builtin.len_ #[t] ty' #[v]) (.int .i64 n):=by
 intro w' lc
 unfold lenOf at o
 split at o
 ·rename_i l O
  cases o
  obtain⟨i,_,_,q⟩:=dw O
  obtain⟨rfl,_⟩:=eW.1 R
  simp only at q
  have Y:=jf l
  simp only[bytesOf]at Y
  simp[Builtin.len_,run_underlying q,goInt,Y]
 ·rename_i e xs ld O
  cases o
  obtain⟨i,_,_,le,_,q,_⟩:=dw O
  obtain⟨a,cap,cells,U,_⟩:=(bC (t:=.ab e) rfl).1 R
  simp only[List.cons.injEq,and_true]at U
  subst U
  simp[Builtin.len_,run_underlying q,goInt]
 ·rename_i r ld O
  split at o
  ·rename_i c U
   cases o
   obtain⟨i,_,_,le,_,q,_⟩:=dw O
   obtain⟨cells,lf,_⟩:=h.rows r c (be U)
   have Z:v=m r:=R
   rcases lf.2 with ⟨W,lg⟩|⟨g,cap,cur,W,_⟩
   ·rw[Z,W,lg]
    simp[Builtin.len_,run_underlying q,goInt]
   ·rw[Z,W]
    simp[Builtin.len_,run_underlying q,goInt]
  ·cases o
 ·rename_i lm ln O
  split at o
  ·rename_i cj lh
   cases o
   obtain⟨i,_,_,k,e,_,q,_,_⟩:=dw O
   rcases Ee h R lh with ⟨rfl,li⟩|⟨g,es,lj,rfl,la,lk⟩
   ·rw[li]
    simp[Builtin.len_,run_underlying q,goInt]
   ·have ll:w'.heap[g]? =some (.map es lj):=by rw[lc.block g (gB la)];exact la
    have lb:=uW lk
    rw[Array.length_toList]at lb
    simp[Builtin.len_,run_underlying q,goInt,getObj,Sem.run,ll,lb]
  ·cases o
 ·cases o
def dR(cx:bJ)[aj cx](T:Array Value)(w:World)(aa:Oper)(v:Value):Prop:=∀w',Ext w w'->(execOp (Act.eval ⟨T,aj.D cx⟩) aa).run cx.P w'=.ok (.value v) w'
theorem dR.of{aa:Oper}{s:Sem Value}{v:Value}(o:execOp (Act.eval ⟨T,aj.D cx⟩) aa=(do pure (Next.value (<-s))))(q:ny cx.P w s v):dR cx T w aa v:=by
 intro w' O
 rw[o,Sem.run_bind,q w' O]
 rfl
theorem V2{P:Program}{t:TypeId}{s:List UInt8}{n b:Int}{k:IntKind}(o:P.underlying t=some .string)(h:eE s n=some b):
  gF P (Instr.index t (.string (bytesOf s)) (.int k n)) (.int .u8 b):=by
 intro w'
 unfold eE at h
 split at h
 ·rename_i c q
  cases h
  obtain⟨O,R,U⟩:=jG q
  rw[run_index_string _ t _ k n o]
  have W:n<(bytesOf s).size:=by rw[jf];exact R
  rw[dif_pos ⟨O,W⟩]
  have:(bytesOf s)[n.toNat]'(by omega)=c:=by
   have Y:(bytesOf s).data[n.toNat]? =some c:=by simpa[bytesOf]using U
   have:=(Array.getElem?_eq_some_iff.1 Y).2
   exact this
  rw[this]
 ·cases h
theorem Qv{P:Program}{t:TypeId}{s r:List UInt8}{o q:Option Value}{l h:Int}(R:P.underlying t=some .string)
  (Y:(o=none/\l=0)\/∃k,o=some (.int k l))(Z:(q=none/\h=s.length)\/∃k,q=some (.int k h))(la:dK s l h=some r):
  gF P (Instr.sliceAt t (.string (bytesOf s)) o q none) (.string (bytesOf r)):=by
 intro w'
 obtain⟨lh,li,lj,rfl⟩:=vA la
 have lk:((bytesOf s).size:Int)=s.length:=by rw[jf]
 have lb:∀a b:Nat,(bytesOf s).extract a b=bytesOf ((s.take b).drop a):=by
  intro a b
  apply ByteArray.ext
  apply Array.ext'
  have:=Lib.extract_data (bytesOf s) a b
  rw[this]
  simp only[bytesOf]
  rw[List.drop_take]
 have lc:Instr.sliceAt t (.string (bytesOf s)) o q none=(do match<-underlying t with
  |.array n ld=>
   let a<-Instr.sureAddr (.string (bytesOf s))
   let(l,h,m)<-Instr.sliceBounds false n n o q none
   let size<-sizeOf ld
   pure (.slice (some (if m=l then a else a.add (l*size))) (h-l) (m-l))
  |_=>Instr.slice t (.string (bytesOf s)) o q none):=rfl
 rw[lc,Sem.run_bind,run_underlying R]
 simp only[Result.andThen_ok]
 have O:∀(x:Value) (k:IntKind) (n:Int) (y:Nat) (c:BoundsCode) (w:World),x=.int k n->0<=n->n<=y->(Instr.sliceBound x y c).run P w=.ok n.toNat w:=by
  rintro x k n y c w rfl le lf
  simp[Instr.sliceBound,asIntOf,le,lf]
 have lg:(Instr.sliceBounds false (bytesOf s).size (bytesOf s).size o q none).run P w'=.ok (l.toNat,h.toNat,(bytesOf s).size) w':=by
  rcases Y with ⟨rfl,rfl⟩|⟨U,rfl⟩<;>rcases Z with ⟨rfl,rfl⟩|⟨W,rfl⟩
  ·simp[Instr.sliceBounds,jf]
  ·simp only[Instr.sliceBounds,Sem.run_bind,Sem.run_pure,Result.andThen_ok]
   rw[O _ W h _ _ _ rfl (by omega) (by omega)]
   simp
  ·simp only[Instr.sliceBounds,Sem.run_bind,Sem.run_pure,Result.andThen_ok]
   rw[O _ U l _ _ _ rfl (by omega) (by omega)]
   simp[jf]
  ·simp only[Instr.sliceBounds,Sem.run_bind,Sem.run_pure,Result.andThen_ok]
   rw[O _ W h _ _ _ rfl (by omega) (by omega)]
   simp only[Result.andThen_ok,Sem.run_bind]
   rw[O _ U l _ _ _ rfl (by omega) (by omega)]
   simp
 simp only[Instr.slice,Sem.run_bind,run_underlying R,Result.andThen_ok,Option.isSome_none,Bool.false_eq_true,if_false,Sem.run_pure,lg,lb]
theorem ab3{P:Program}{M:Nat->Prop}{t e:TypeId}{u:ah}{xs r:List u.el}{d:Nat}{v:Value}{o q:Option Value}{l h:Int}(la:P.underlying t=some (.slice e))(lj:dc P d e=some u)
  (lk:aL w M (.ab u) [v] xs)(ll:(o=none/\l=0)\/∃k,o=some (.int k l))(lm:(q=none/\h=xs.length)\/∃k,q=some (.int k h))(ln:dK xs l h=some r):
  ∃v',gF P (Instr.sliceAt t v o q none) v'/\aL w M (.ab u) [v'] r:=by
 obtain⟨lb,lH,lI,rfl⟩:=vA ln
 obtain⟨a,cap,cells,lc,lJ,lK,ld,lo,lp⟩:=lk
 simp only[List.cons.injEq,and_true]at lc
 subst lc
 have lq:Instr.sliceAt t (.slice a xs.length cap) o q none=(do match<-underlying t with
  |.array n lr=>
   let le<-Instr.sureAddr (.slice a xs.length cap)
   let(l,h,m)<-Instr.sliceBounds false n n o q none
   let size<-sizeOf lr
   pure (.slice (some (if m=l then le else le.add (l*size))) (h-l) (m-l))
  |_=>Instr.slice t (.slice a xs.length cap) o q none):=rfl
 have U:∀(x:Value) (k:IntKind) (n:Int) (y:Nat) (c:BoundsCode) (w:World),x=.int k n->0<=n->n<=y->(Instr.sliceBound x y c).run P w=.ok n.toNat w:=by
  rintro x k n y c w rfl ls lt
  simp[Instr.sliceBound,asIntOf,ls,lt]
 have lu:∀w',(Instr.sliceBounds true xs.length cap o q none).run P w'=.ok (l.toNat,h.toNat,cap) w':=by
  intro w'
  rcases ll with ⟨rfl,rfl⟩|⟨lf,rfl⟩<;>rcases lm with ⟨rfl,rfl⟩|⟨lg,rfl⟩
  ·simp[Instr.sliceBounds]
  ·simp only[Instr.sliceBounds,Sem.run_bind,Sem.run_pure,Result.andThen_ok]
   rw[U _ lg h _ _ _ rfl (by omega) (by omega)]
   simp
  ·simp only[Instr.sliceBounds,Sem.run_bind,Sem.run_pure,Result.andThen_ok]
   rw[U _ lf l _ _ _ rfl (by omega) (by omega)]
   simp
  ·simp only[Instr.sliceBounds,Sem.run_bind,Sem.run_pure,Result.andThen_ok]
   rw[U _ lg h _ _ _ rfl (by omega) (by omega)]
   simp only[Result.andThen_ok,Sem.run_bind]
   rw[U _ lf l _ _ _ rfl (by omega) (by omega)]
   simp
 have Z:((xs.take h.toNat).drop l.toNat).length=h.toNat-l.toNat:=by
  rw[List.length_drop,List.length_take];omega
 refine⟨.slice (if cap=l.toNat then a else a.map (·.add (l.toNat*u.cells))) (h.toNat-l.toNat) (cap-l.toNat),fun w'=>?_,?_⟩
 ·rw[lq,Sem.run_bind,run_underlying la]
  simp only[Result.andThen_ok,Instr.slice,Sem.run_bind,run_underlying la,lu,fi lj,Sem.run_pure]
 ·have split:∀(O:List u.el) (cs:List Value) (n:Nat),bT (aL w M u) cs O->n<=O.length->∃c1 c2,cs=c1++c2/\c1.length=n*u.cells/\bT (aL w M u) c1 (O.take n)/\bT (aL w M u) c2 (O.drop n):=by
   intro O
   induction O with
   |nil=>
    intro cs n W R
    have lb:n=0:=Nat.le_zero.1 R
    rw[lb]
    exact⟨[],cs,rfl,by simp,rfl,W⟩
   |cons y O lv=>
    intro cs n W R
    cases n with
    |zero=>exact⟨[],cs,rfl,by simp,rfl,W⟩
    |succ n=>
     obtain⟨d1,d2,lw,lh,lx⟩:=W
     obtain⟨f1,f2,g1,g2,g3,g4⟩:=lv d2 n lx (by simpa using R)
     exact⟨d1++f1,f2,by rw[lw,g1];simp,by rw[List.length_append,cu u lh,g2,Nat.succ_mul,Nat.add_comm],⟨d1,f1,rfl,lh,g3⟩,g4⟩
  obtain⟨c1,c2,ly,lL,lz,_⟩:=split xs cells h.toNat lo (by omega)
  obtain⟨d1,d2,lA,lM,_,li⟩:=split (xs.take h.toNat) c1 l.toNat lz (by rw[List.length_take];omega)
  refine⟨(if cap=l.toNat then a else a.map (·.add (l.toNat*u.cells))),cap-l.toNat,d2,by rw[Z],by rw[Z];omega,by omega,?_,li,fun j v Y=>?_⟩
  ·intro R
   split at R
   ·have:=ld R;omega
   ·cases a with
    |none=>have:=ld rfl;omega
    |some a=>simp at R
  ·have lN:=(List.getElem?_eq_some_iff.1 Y).1
   have lB:cells[l.toNat*u.cells+j]? =some v:=by
    rw[ly,lA,List.append_assoc,List.getElem?_append_right (by omega),List.getElem?_append_left (by omega),<-Y]
    congr 1
    omega
   obtain⟨b,lC,lD,lE⟩:=lp _ _ lB
   subst lC
   split
   ·rename_i lO
    have lF:d2=[]:=by
     have:=jC (fun cs x=>cu u) _ _ li
     rw[Z]at this
     have lG:h.toNat-l.toNat=0:=by omega
     rw[lG,Nat.zero_mul]at this
     exact List.eq_nil_of_length_eq_zero this
    rw[lF]at Y
    simp at Y
   ·exact⟨_,rfl,by rw[add_add];exact lD,by rw[kg];exact lE⟩
theorem AY{P:Program}:∀(an:List Field),(∀f∈an,∃i,P.info? f.type=some i)->
  an.mapM (fun f=>(P.info? f.type).map fun i=>(f.offset,i.size))=some (an.map fun f=>(f.offset,P.cellsOf f.type))
 |[],_=>rfl
 |f::an,h=>by
  obtain⟨i,o⟩:=h f List.mem_cons_self
  rw[List.mapM_cons,AY an (fun g q=>h g (List.mem_cons_of_mem _ q))]
  simp[o,Program.cellsOf]
theorem Bz{P:Program}{d:Nat}:∀{an:List Field} {off:Nat} {u:ah},fieldsOf (dc P d) off an=some u->∀f∈an,∃i,P.info? f.type=some i
 |[],_,_,_,f,o=>by simp at o
 |fd::an,off,u,h,f,o=>by
  unfold fieldsOf at h
  cases q:Nat.beq fd.offset off with
  |false=>rw[q]at h;cases h
  |true=>
   rw[q,cond_true]at h
   split at h
   ·rename_i a O
    split at h
    ·rename_i b R
     rcases List.mem_cons.1 o with rfl|o
     ·obtain⟨i,U,_⟩:=dw O;exact⟨i,U⟩
     ·exact Bz R f o
    ·cases h
   ·cases h
theorem UF(o:List Value):∀(k:Nat) (pre post old:List Value),old.length=o.length->
  ((o.zipIdx k).foldl (fun cs (x:Value×Nat)=>Array.setIfInBounds cs (pre.length+x.2-k) x.1) (pre++old++post).toArray)=(pre++o++post).toArray:=by
 induction o with
 |nil=>intro k pre post old h;have:old=[]:=List.eq_nil_of_length_eq_zero h;subst this;rfl
 |cons v o q=>
  intro k pre post old h
  match old,h with
  |aa::old,h=>
   have h':old.length=o.length:=by simpa using h
   have O:Array.setIfInBounds (pre++(aa::old)++post).toArray (pre.length+k-k) v=((pre++[v])++old++post).toArray:=by
    rw[show pre.length+k-k=pre.length by omega]
    simp
   rw[List.zipIdx_cons,List.foldl_cons,O]
   have:=q (k+1) (pre++[v]) post old h'
   rw[List.length_append,List.length_singleton]at this
   have R:(fun(cs:Array Value) (x:Value×Nat)=>Array.setIfInBounds cs (pre.length+1+x.2-(k+1)) x.1)=(fun cs x=>Array.setIfInBounds cs (pre.length+x.2-k) x.1):=by
    funext cs x
    congr 1
    omega
   rw[R]at this
   rw[this]
   simp
theorem wr(o pre post old:List Value)(h:old.length=o.length):
  (o.toArray.zipIdx.foldl (fun cs (x:Value×Nat)=>Array.setIfInBounds cs (pre.length+x.2) x.1) (pre++old++post).toArray)=(pre++o++post).toArray:=by
 have:=UF o 0 pre post old h
 simpa using this
theorem Kx{P:Program}{t:TypeId}{u:ah}{an:Array Field}(lc:P.underlying t=some (.struct an))(h:ao cx m st T w)(ld:P=cx.P)
  {place:Nat->Option (Nat×Nat)}(U:∀i off o,fieldInfo P t i=some (off,o)->place i=some (off,o.cells)):
  ∀(parts:List (Nat×Operand)) (x y:u.el) (cs:List Value),aL w (au cx m st.ids) u cs x->vG P st t u parts x=some y->
   ∃O,Instr.fill place cs.toArray (parts.map fun p=>(p.1,Act.eval ⟨T,aj.D cx⟩ p.2))=some O.toArray/\aL w (au cx m st.ids) u O y
 |[],x,y,cs,R,q=>by cases q;exact⟨cs,rfl,R⟩
 |(i,aa)::r,x,y,cs,R,q=>by
  unfold vG at q
  split at q
  ·rename_i off o v le lf
   split at q
   ·rename_i lg lh li
    have lj:=dt h lf
    have W:=jP lj
    obtain⟨c1,c2,c3,rfl,Y,Z,lk⟩:=rC W u R li
    have ll:v.t.cells=o.cells:=by rw[ah.eq_of_beq lh]
    have la:(Act.eval ⟨T,aj.D cx⟩ aa).cells.toList.length=o.cells:=by rw[cu v.t W,ll]
    have lm:(Act.eval ⟨T,aj.D cx⟩ aa).cells.size=o.cells:=by rw[<-la];simp
    obtain⟨O,ln,lo⟩:=Kx lc h ld U r lg y _ lk q
    refine⟨O,?_,lo⟩
    rw[List.map_cons,Instr.fill,U i off o le]
    have lp:¬(((Act.eval ⟨T,aj.D cx⟩ aa).cells.size≠o.cells||decide (off+(Act.eval ⟨T,aj.D cx⟩ aa).cells.size>(c1++c2++c3).toArray.size))=true):=by
     simp only[lm,List.size_toArray,List.length_append,Y,Z,la]
     simp
    simp only[]
    rw[if_neg lp]
    have lb:=wr (Act.eval ⟨T,aj.D cx⟩ aa).cells.toList c1 c3 c2 Z
    rw[Y,Array.toArray_toList]at lb
    rw[lb]
    exact ln
   ·cases q
  ·cases q
end Go.Ev
namespace Go.Ev
open Go Go.RowKit
variable [cm]
variable {cx:bJ} {m:Nat->Value} {st:af} {T:Array Value} {w w':World}
variable [aj cx]
theorem Ig(h:ao cx m st T w){o:Option Operand}{l:Int}(q:dN.uC st o=some l):
  (o.map (Act.eval ⟨T,aj.D cx⟩)=none/\l=0)\/∃k,o.map (Act.eval ⟨T,aj.D cx⟩)=some (.int k l):=by
 cases o with
 |none=>cases q;exact .inl ⟨rfl,rfl⟩
 |some x=>obtain⟨k,O⟩:=fF h q;exact .inr ⟨k,by simp[O]⟩
theorem O6(h:ao cx m st T w){o:Option Operand}{n:Nat}{l:Int}(q:dN.tn st o n=some l):
  (o.map (Act.eval ⟨T,aj.D cx⟩)=none/\l=n)\/∃k,o.map (Act.eval ⟨T,aj.D cx⟩)=some (.int k l):=by
 cases o with
 |none=>cases q;exact .inl ⟨rfl,rfl⟩
 |some x=>obtain⟨k,O⟩:=fF h q;exact .inr ⟨k,by simp[O]⟩
theorem vD{M:Nat->Prop}{v:Value}{t:ah}{x:t.el}(h:aX w M m v (.vptr t x)):∃a,v=.pointer (some a)/\Holds w M a t x:=by
 obtain⟨a,cells,e,o,q⟩:=h
 exact⟨a,e,cells,o,q⟩
theorem GN{M:Nat->Prop}{a:Addr}{t:ah}{x:t.el}(h:Holds w M a t x):aX w M m (.pointer (some a)) (.vptr t x):=by
 obtain⟨cells,o,q⟩:=h
 exact⟨a,cells,rfl,o,q⟩
theorem PS{α:Type}{s r:List α}{o q:Int}(h:dK s o q=some r):r.length<=s.length:=by
 obtain⟨_,_,_,rfl⟩:=vA h
 rw[List.length_drop,List.length_take]
 omega
theorem OX{cx:bJ}{m:Nat->Value}{st:af}{T:Array Value}{w:World}(h:ao cx m st T w){aa:Oper}{src Z:TypeId}{x:Operand}(la:aa.op=.convert src Z x){orc:List ak}{R:dS}(o:wP cx.P st src Z x orc=some R)(lb:bW R.ob):
  ∃v,dR cx T w aa v/\aX w (au cx m st.ids) m v R.aU:=by
 have key:∀s,(aW st x).map (nR st)=some s->aX w (fun _=>False) m (Act.eval ⟨T,aj.D cx⟩ x) s:=by
  intro s q
  obtain⟨lc,O,U⟩:=Option.map_eq_some_iff.1 q
  rw[<-U]
  exact KF h (bj h O)
 unfold wP at o
 split at o
 ·rename_i xs e W q ai
  split at o
  ·rename_i Y
   cases o
   obtain⟨O,U⟩:=R6 q Y ai (key _ W)
   exact⟨_,dR.of (by simp only[execOp,la]) O,eW.2 ⟨rfl,U⟩⟩
  ·cases o
 ·rename_i xs e W q ai
  split at o
  ·rename_i Y
   cases o
   have O:=Qe q Y ai (key _ W)
   exact⟨_,dR.of (by simp only[execOp,la]) O,eW.2 ⟨rfl,Nat.le_trans lb.1 y9⟩⟩
  ·cases o
 ·cases o
theorem Ns{y:Operand}(h:pZ y=true):y=.const .nilIface:=by
 cases y with
 |const c=>cases c<;>first|rfl|(simp[pZ]at h)
 |_=>simp[pZ]at h
theorem Kd{P:Program}{t:TypeId}{ms}(o:P.underlying t=some (.interface ms))(w:World):(Op.equal t .nilIface .nilIface).run P w=.ok true w:=by
 unfold Op.equal Op.maxDepth
 rw[Op.equalIn]
 simp only[Sem.run_bind,run_underlying o,Result.andThen_ok]
 rfl
theorem rJ{P:Program}{t u:TypeId}{v:Value}{ms}(o:P.underlying t=some (.interface ms))(w:World):(Op.equal t (.iface u v) .nilIface).run P w=.ok false w:=by
 unfold Op.equal Op.maxDepth
 rw[Op.equalIn]
 simp only[Sem.run_bind,run_underlying o,Result.andThen_ok]
 rfl
theorem LX{P:Program}{t u:TypeId}{v:Value}{ms}(o:P.underlying t=some (.interface ms))(w:World):(Op.equal t .nilIface (.iface u v)).run P w=.ok false w:=by
 unfold Op.equal Op.maxDepth
 rw[Op.equalIn]
 simp only[Sem.run_bind,run_underlying o,Result.andThen_ok]
 rfl
theorem pN{P:Program}{t:TypeId}{o q:Value}{b:Bool}(O:binOp .eql t o q=(do pure (.bool (<-Op.equal t o q))))(h:∀w,(Op.equal t o q).run P w=.ok b w)(w:World):(binOp .eql t o q).run P w=.ok (.bool b) w:=by
 rw[O,Sem.run_bind,h w];rfl
theorem qg{P:Program}{t:TypeId}{o q:Value}{b:Bool}(O:binOp .neq t o q=(do pure (.bool (!(<-Op.equal t o q)))))(h:∀w,(Op.equal t o q).run P w=.ok b w)(w:World):(binOp .neq t o q).run P w=.ok (.bool (!b)) w:=by
 rw[O,Sem.run_bind,h w];rfl
theorem MH{P:Program}{M:Nat->Prop}{op:BinOp}{t:TypeId}{x y:ak}{O q:Value}{ox oy:Operand}{r:Bool}{ob:List Prop}(R:bf w M O x.t x.x)(U:bf w M q y.t y.x)
  (le:oy=.const .nilIface->q=.nilIface)(h:oM P op t oy x y=some (r,ob))(lg:bW ob):
  ∃v,gF P (do eqGuard op t ox oy O q;binOp op t O q) v/\∀w M,bf w M v .bool r:=by
 have fin:∀(b:Bool) (Z:List Prop),oM.neg op b Z=some (r,ob)->(∀w,(eqGuard .eql t ox oy O q).run P w=.ok () w)->(∀w,(eqGuard .neq t ox oy O q).run P w=.ok () w)->
   (∀w,(binOp .eql t O q).run P w=.ok (.bool b) w)->(∀w,(binOp .neq t O q).run P w=.ok (.bool (!b)) w)->∃v,gF P (do eqGuard op t ox oy O q;binOp op t O q) v/\∀w M,bf w M v .bool r:=by
  intro b Z h g1 g2 lh li
  unfold oM.neg at h
  split at h
  ·cases h;exact⟨_,fun w=>by rw[Sem.run_bind,g1 w];exact lh w,fun _ _=>dU.2 rfl⟩
  ·cases h;exact⟨_,fun w=>by rw[Sem.run_bind,g2 w];exact li w,fun _ _=>dU.2 rfl⟩
  ·cases h
 have Z:∀(b:Bool) (aa:List Prop),oM.neg op b aa=some (r,ob)->ob=aa:=by
  intro b aa h
  unfold oM.neg at h
  split at h<;>cases h<;>rfl
 unfold oM at h
 split at h
 ·rename_i a b
  have R:=(bC (t:=.err) rfl).1 R
  have U:=(bC (t:=.err) rfl).1 U
  split at h
  ·rename_i lf o la
   have W:=Ns la
   have Y:=le W
   subst W
   subst Y
   rcases R with ⟨rfl,e⟩|⟨rfl,u,v,e⟩|⟨u,n,rfl,e⟩<;>simp only[List.cons.injEq,and_true]at e<;>subst e
   ·exact fin _ _ h (fun w=>by cases ox<;>rfl) (fun w=>by cases ox<;>rfl) (pN rfl (Kd o)) (qg rfl (Kd o))
   ·exact fin _ _ h (fun w=>rfl) (fun w=>rfl) (pN rfl (rJ o)) (qg rfl (rJ o))
   ·exact fin _ _ h (fun w=>rfl) (fun w=>rfl) (pN rfl (rJ o)) (qg rfl (rJ o))
  ·rename_i lf o la
   split at h
   ·rename_i u m lc
    have lc:b=some (some (u,m)):=lc
    subst lc
    have U:q=.iface u (.int .i64 m):=by
     rcases U with ⟨e,_⟩|⟨e,_⟩|⟨lb,ln,e,Y⟩
     ·cases e
     ·cases e
     ·cases e;simpa using Y
    subst U
    split at h
    ·rename_i i k lj lk
     cases ld:i.comparable with
     |false=>rw[ld]at h;cases h
     |true=>
      rw[ld,cond_true]at h
      have:=Z _ _ h
      subst this
      have ll:=lg.1
      have lm:∀w,(typeInfo u).run P w=.ok i w:=fun w=>run_typeInfo w lj
      rcases R with ⟨rfl,e⟩|⟨rfl,_⟩|⟨lb,n,rfl,e⟩
      ·simp only[List.cons.injEq,and_true]at e;subst e
       exact fin _ _ h (fun w=>rfl) (fun w=>rfl) (pN rfl (LX o)) (qg rfl (LX o))
      ·exact absurd rfl ll
      ·simp only[List.cons.injEq,and_true]at e;subst e
       have key:∀w,(Op.equal t (.iface lb (.int .i64 n)) (.iface u (.int .i64 m))).run P w=.ok (vX (some (some (lb,n))) u m) w:=by
        intro w
        unfold Op.equal Op.maxDepth
        rw[Op.equalIn]
        simp only[Sem.run_bind,run_underlying o,Result.andThen_ok]
        by_cases aJ:lb=u
        ·subst aJ
         simp only[ne_eq,not_true_eq_false,if_false,Sem.run_bind,lm,Result.andThen_ok,ld,Bool.not_true,Bool.false_eq_true]
         rw[run_equalIn_int (h:=lk)]
         simp[vX]
        ·simp[aJ,vX,Sem.run_pure]
       exact fin _ _ h (fun w=>rfl) (fun w=>rfl) (pN rfl key) (qg rfl key)
    ·cases h
   ·cases h
  ·cases h
 ·rename_i n u a b
  have R:=(bC (t:=.cP n u) rfl).1 R
  split at h
  ·rename_i lf o la
   have W:=Ns la
   have Y:=le W
   subst W
   subst Y
   obtain⟨v,e,_⟩:=R
   simp only[List.cons.injEq,and_true]at e
   subst e
   exact fin _ _ h (fun w=>rfl) (fun w=>rfl) (pN rfl (rJ o)) (qg rfl (rJ o))
  ·cases h
 ·cases h
theorem Pt(h:ao cx m st T w){gm:Bool}{args:Array Operand}{r:ak}(o:zf st gm args.toList=some r):
  ∃x y k a b,args=#[x,y]/\Act.eval ⟨T,aj.D cx⟩ x=.int k a/\Act.eval ⟨T,aj.D cx⟩ y=.int k b/\r=⟨.int k,bif gm then mh a b else fM a b⟩:=by
 unfold zf at o
 split at o
 ·rename_i x y O
  split at o
  ·rename_i k a k' b R U
   cases q:gR k k' with
   |false=>rw[q]at o;cases o
   |true=>
    rw[q,cond_true]at o
    cases o
    obtain rfl:=nE q
    exact⟨x,y,k,a,b,by rw[<-Array.toArray_toList (xs:=args),O],dp.1 (dt h R),dp.1 (dt h U),rfl⟩
  ·cases o
 ·cases o
set_option maxHeartbeats 1000000 in
theorem Ga(h:ao cx m st T w){aa:Oper}{orc:List ak}{lL:dS}(o:dN cx.P st aa.op orc=some lL)(le:bW lL.ob):
  ∃v,dR cx T w aa v/\aX w (au cx m st.ids) m v lL.aU:=by
 cases U:aa.op<;>rw[U]at o
 case move x=>
  simp only[dN]at o
  split at o
  ·rename_i s lf
   cases o
   exact⟨_,fun w' _=>by simp[execOp,U],bj h lf⟩
  ·cases o
 case assign x=>
  simp only[dN]at o
  split at o
  ·rename_i s lf
   cases o
   exact⟨_,fun w' _=>by simp[execOp,U],bj h lf⟩
  ·cases o
 case pick c a b=>
  simp only[dN]at o
  split at o
  ·rename_i lg
   have lM:=dU.1 (dt h lg)
   split at o
   ·rename_i s lf
    cases o
    refine⟨_,fun w' _=>?_,bj h lf⟩
    simp[execOp,U,lM,asBool]
   ·cases o
  ·rename_i lg
   have lM:=dU.1 (dt h lg)
   split at o
   ·rename_i s lf
    cases o
    refine⟨_,fun w' _=>?_,bj h lf⟩
    simp[execOp,U,lM,asBool]
   ·cases o
  ·cases o
 case binOp al t x y a2=>
  simp only[dN]at o
  split at o
  ·rename_i a b lr W
   split at o
   ·rename_i r ob Y
    cases o
    obtain⟨v,O,q⟩:=En (ox:=x) (oy:=y) (dt h lr) (dt h W) Y le
    exact⟨v,dR.of (by simp only[execOp,U]) O.steady,q _ _⟩
   ·split at o
    ·rename_i r ob Y
     cases o
     obtain⟨v,O,q⟩:=MH (ox:=x) (oy:=y) (dt h lr) (dt h W) (fun ln=>by subst ln;rfl) Y le
     exact⟨v,dR.of (by simp only[execOp,U]) O.steady,q _ _⟩
    ·cases o
  ·cases o
 case unOp al t x=>
  simp only[dN]at o
  split at o
  ·rename_i a lr
   split at o
   ·rename_i r Y
    cases o
    obtain⟨v,O,q⟩:=Zz (P:=cx.P) (dt h lr) Y
    exact⟨v,dR.of (by simp only[execOp,U]) O.steady,q _ _⟩
   ·cases o
  ·cases o
 case convert src a3 x=>
  simp only[dN]at o
  split at o
  ·rename_i a lr
   split at o
   ·rename_i r Y
    cases o
    obtain⟨v,O,q⟩:=YF (dt h lr) Y
    exact⟨v,dR.of (by simp only[execOp,U]) O.steady,q _ _⟩
   ·exact OX h U o le
  ·exact OX h U o le
 case index t x i=>
  simp only[dN]at o
  split at o
  ·rename_i s n b orc' R ld lb
   cases o
   obtain⟨k,lj⟩:=fF h ld
   obtain⟨Z,_⟩:=eW.1 (dt h R)
   refine⟨.int .u8 b,dR.of (s:=Instr.index t (.string (bytesOf s)) (.int k n)) (by simp only[execOp,U,Z,lj];rfl) (V2 lb le.1).steady,dp.2 rfl⟩
  ·rename_i k u xs n v orc' k' e R ld lb
   split at o
   ·rename_i lk y W ls ln
    cases lt:u.beq lk<;>rw[lt]at o<;>cases o
    obtain rfl:=Nat.eq_of_beq_eq_true W
    obtain rfl:=ah.eq_of_beq lt
    obtain⟨lw,aJ⟩:=fF h ld
    obtain⟨lp,O,q⟩:=jG le.1
    obtain⟨cs,Z,lN,lO⟩:=(eG (t:=.arr k u) rfl).1 (dt h R)
    obtain⟨c1,c2,c3,rfl,lh,Y⟩:=mY lO q
    obtain⟨r,lx,lP⟩:=Dt ls (pre:=c1) (post:=c3) Y
    refine⟨r,dR.of (s:=Instr.index t (.agg (c1++c2++c3).toArray) (.int lw n)) (by simp only[execOp,U,Z,aJ]) (fun w' _=>?_),lP⟩
    have ly:n<(k:Int):=by rw[<-lN];exact O
    simp only[Instr.index,asIntOf,Sem.run_bind,Sem.run_pure,Result.andThen_ok,run_underlying lb]
    rw[if_pos ⟨lp,ly⟩]
    simp only[Sem.run_bind,fi ls,Result.andThen_ok]
    have:=lx w'
    rw[lh]at this
    exact this
   ·cases o
  ·cases o
 case field t x f=>
  simp only[dN]at o
  split at o
  ·rename_i a off u lr li
   split at o
   ·rename_i y lF lo
    cases o
    obtain⟨r,O,q⟩:=UU li lF (dt h lr) lo
    exact⟨r,dR.of (by simp only[execOp,U]) O.steady,q⟩
   ·cases o
  ·cases o
 case build t parts=>
  simp only[dN]at o
  split at o
  ·rename_i u i la ld
   split at o
   ·rename_i z ll l5
    have lF:=ah.XX l5
    split at o
    ·rename_i y am aq
     cases o
     obtain⟨l6,l7,ar⟩:=KK (w:=w) (M:=au cx m st.ids) u am
     rw[List.append_nil]at l7
     obtain⟨a4,a5,a6,li⟩:=dw la
     have av:∃an d',cx.P.underlying t=some (.struct an)/\fieldsOf (dc cx.P d') 0 an.toList=some u:=by
      cases u<;>first|exact li|(simp[ah.rz]at l5)
     obtain⟨an,d',lQ,aw⟩:=av
     obtain⟨l8,ax,lP⟩:=Kx lQ h rfl (place:=fun k=>(an.map fun f=>(f.offset,cx.P.cellsOf f.type))[k]?) (fun k off lz ay=>by
      obtain⟨az,a7,O,q,lG,lH,aA⟩:=ye ay
      have:az=an:=by rw[lQ]at O;cases O;rfl
      subst this
      obtain⟨i3,aB,aC,_⟩:=dw lG
      rw[Array.getElem?_map,q]
      simp[lH,Program.cellsOf,aB,aC]) parts.toList (cl u) y l6 ar aq
     refine⟨.agg l8.toArray,dR.of (by simp only[execOp,U]) (s:=Instr.build t (parts.map fun p=>(p.1,Act.eval ⟨T,aj.D cx⟩ p.2))) ?_,(eG lF).2 ⟨l8,rfl,lP⟩⟩
     intro w' _
     have aD:z.cells=l6.toArray:=by rw[<-l7]
     refine run_build w' t _ _ ?_
     unfold Program.built
     simp only[ld,lQ,ll,AY an.toList (fun f li=>Bz aw f li)]
     rw[aD,Array.toList_map,<-ax]
     congr 1
     funext k
     simp
    ·cases o
   ·cases o
  ·cases o
 case extract x i=>
  simp only[dN]at o
  split at o
  ·rename_i l R
   split at o
   ·rename_i v Z
    cases o
    obtain⟨vs,lA,Y⟩:=bj h R
    have key:∀(vs:List Value) (l:List ak) (i:Nat) (u:ak),eg w (au cx m st.ids) vs l->l[i]? =some u->∃v,vs[i]? =some v/\bf w (au cx m st.ids) v u.t u.x:=by
     intro vs
     induction vs with
     |nil=>intro l i u Y la;cases l with
      |nil=>simp at la
      |cons _ _=>exact Y.elim
     |cons v vs lB=>intro l i u Y la;cases l with
      |nil=>exact Y.elim
      |cons lk l=>cases i with
       |zero=>simp at la;subst la;exact⟨v,rfl,Y.1⟩
       |succ i=>exact lB l i u Y.2 (by simpa using la)
    obtain⟨v',O,q⟩:=key vs l i v Y Z
    refine⟨v',fun w' _=>?_,q⟩
    simp only[execOp,U,lA,Instr.extract]
    rw[List.getElem?_toArray,O]
    rfl
   ·cases o
  ·rename_i l R
   have key:∀(vs:List Value) (l:List b9) (i:Nat) (u:b9),dq w (au cx m st.ids) m vs l->l[i]? =some u->∃v,vs[i]? =some v/\(match u with|.v u=>bf w (au cx m st.ids) v u.t u.x|.r r=>v=m r|.a=>True):=by
    intro vs
    induction vs with
    |nil=>intro l i u Y la;cases l with
     |nil=>simp at la
     |cons _ _=>exact Y.elim
    |cons v vs lB=>intro l i u Y la;cases l with
     |nil=>exact Y.elim
     |cons lk l=>cases i with
      |zero=>simp at la;subst la;cases lk with
       |v _=>exact⟨v,rfl,Y.1⟩
       |r _=>exact⟨v,rfl,Y.1⟩
       |a=>exact⟨v,rfl,trivial⟩
      |succ i=>cases lk with
       |v _=>exact lB l i u Y.2 (by simpa using la)
       |r _=>exact lB l i u Y.2 (by simpa using la)
       |a=>exact lB l i u Y (by simpa using la)
   obtain⟨vs,lA,Y⟩:=bj h R
   split at o
   ·rename_i v Z
    cases o
    obtain⟨v',O,q⟩:=key vs l i _ Y Z
    refine⟨v',fun w' _=>?_,q⟩
    simp only[execOp,U,lA,Instr.extract]
    rw[List.getElem?_toArray,O]
    rfl
   ·rename_i r Z
    cases o
    obtain⟨v',O,q⟩:=key vs l i _ Y Z
    refine⟨v',fun w' _=>?_,?_⟩
    ·simp only[execOp,U,lA,Instr.extract]
     rw[List.getElem?_toArray,O]
     rfl
    ·show aX _ _ _ _ _
     split
     ·rename_i l e lh
      obtain⟨g,lo,_⟩:=h.box (be lh)
      have q:v'=m r:=q
      exact⟨g,lo,q.trans lo⟩
     ·rename_i t x e lh
      obtain⟨g,lo,_⟩:=h.box (be lh)
      have q:v'=m r:=q
      exact⟨g,lo,q.trans lo⟩
     ·exact q
     ·exact q
   ·rename_i Z
    cases o
    obtain⟨v',O,_⟩:=key vs l i _ Y Z
    refine⟨v',fun w' _=>?_,trivial⟩
    simp only[execOp,U,lA,Instr.extract]
    rw[List.getElem?_toArray,O]
    rfl
   ·cases o
  ·cases o
 case nilCheck x=>
  simp only[dN]at o
  split at o
  ·rename_i b off R
   cases o
   have Z:=bj h R
   obtain⟨g,O,q⟩:=Z
   exact⟨_,fun w' _=>by simp only[execOp,U,q];rfl,g,O,q⟩
  ·rename_i t y R
   cases o
   have Z:=bj h R
   obtain⟨a,O,q⟩:=vD Z
   exact⟨_,fun w' _=>by simp only[execOp,U,O];rfl,O▸Z⟩
  ·rename_i r i off lI R
   cases o
   have Z:=bj h R
   obtain⟨g,n,cap,O,q⟩:=Z
   exact⟨_,fun w' _=>by simp only[execOp,U,q];rfl,g,n,cap,O,q⟩
  ·rename_i b p R
   cases o
   have Z:=bj h R
   obtain⟨g,O,q⟩:=Z
   exact⟨_,fun w' _=>by simp only[execOp,U,q];rfl,g,O,q⟩
  ·cases o
 case fieldAddr t x f=>
  simp only[dN]at o
  split at o
  ·rename_i b off lu lz R li
   cases o
   obtain⟨g,O,q⟩:=bj h R
   refine⟨.pointer (some ⟨g,off+lu,none⟩),dR.of (by simp only[execOp,U]) (s:=Instr.fieldAt t (Act.eval ⟨T,aj.D cx⟩ x) f) ?_,g,O,rfl⟩
   intro w' _
   rw[q,ni li,gS]
  ·rename_i u y lu lz R li
   split at o
   ·rename_i z ll
    cases o
    obtain⟨a,O,q⟩:=vD (bj h R)
    refine⟨.pointer (some (a.add lu)),dR.of (by simp only[execOp,U]) (s:=Instr.fieldAt t (Act.eval ⟨T,aj.D cx⟩ x) f) ?_,GN (q.part ll)⟩
    intro w' _
    rw[O,ni li]
   ·cases o
  ·rename_i r i off lI lu lz R li
   cases o
   obtain⟨g,n,cap,O,q⟩:=bj h R
   refine⟨.pointer (some ⟨g,i.toNat*lI+(off+lu),none⟩),dR.of (by simp only[execOp,U]) (s:=Instr.fieldAt t (Act.eval ⟨T,aj.D cx⟩ x) f) ?_,g,n,cap,O,rfl⟩
   intro w' _
   rw[q,ni li,gS,Nat.add_assoc]
  ·rename_i b p lu lz R li
   cases o
   obtain⟨g,O,q⟩:=bj h R
   refine⟨.pointer (some ⟨g,gp (p++[.f lu lz]),none⟩),dR.of (by simp only[execOp,U]) (s:=Instr.fieldAt t (Act.eval ⟨T,aj.D cx⟩ x) f) ?_,g,O,rfl⟩
   intro w' _
   rw[q,ni li,gS,yM]
   rfl
  ·cases o
 case indexAddr t x i=>
  simp only[dN]at o
  split at o
  ·rename_i u xs n lk v orc' R ld lb
   split at o
   ·rename_i y W ln
    cases o
    obtain⟨k,lj⟩:=fF h ld
    obtain⟨lp,O,q⟩:=jG le.1
    obtain⟨a,cap,cells,lg,aE,_,aF,aG,lR⟩:=(bC (t:=.ab u) rfl).1 (bj h R)
    simp only[List.cons.injEq,and_true]at lg
    obtain⟨c1,c2,c3,rfl,lh,Y⟩:=mY aG q
    obtain⟨_,_,_,lS,d',ls,lC⟩:=dw lb
    obtain rfl:=ah.eq_of_beq W
    have lT:∃b,a=some b:=by
     cases a with
     |some b=>exact⟨b,rfl⟩
     |none=>
      have lG:cap=0:=aF rfl
      have lH:(List.length xs:Int)<=cap:=by exact_mod_cast aE
      have aA:n<((List.length xs:Nat):Int):=O
      omega
    obtain⟨b,rfl⟩:=lT
    refine⟨.pointer (some (b.add (n.toNat*u.cells))),dR.of (by simp only[execOp,U]) (s:=Instr.indexAt t (Act.eval ⟨T,aj.D cx⟩ x) (Act.eval ⟨T,aj.D cx⟩ i)) ?_,?_⟩
    ·intro w' _
     have ly:n<((List.length xs:Nat):Int):=O
     simp only[lg,lj,Instr.indexAt,asIntOf,Sem.run_bind,Sem.run_pure,Result.andThen_ok,run_underlying ls]
     rw[if_pos ⟨lp,ly⟩]
     simp only[Sem.run_bind,fi lC,Result.andThen_ok,Sem.run_pure]
    ·refine GN ⟨c2,Y,fun j v lD=>?_⟩
     have aH:=(List.getElem?_eq_some_iff.1 lD).1
     have lU:(c1++c2++c3)[n.toNat*u.cells+j]? =some v:=by
      rw[List.append_assoc,List.getElem?_append_right (by omega),List.getElem?_append_left (by omega),<-lD]
      congr 1
      omega
     obtain⟨a8,lV,lt,lv⟩:=lR _ _ lU
     cases lV
     exact⟨by rw[add_add];exact lt,by rw[kg];exact lv⟩
   ·cases o
  ·rename_i r n lk v orc' R ld lb
   split at o
   ·rename_i c lg
    split at o
    ·rename_i y W ln
     cases o
     obtain⟨k,lj⟩:=fF h ld
     obtain⟨lp,O,q⟩:=jG le.1
     obtain⟨_,_,_,lS,d',ls,lC⟩:=dw lb
     have aI:dc cx.P d' lS=some c.t:=by rw[ah.eq_of_beq W];exact lC
     have Z:Act.eval ⟨T,aj.D cx⟩ x=m r:=bj h R
     obtain⟨cells,aK,_⟩:=h.rows r c (be lg)
     rcases aK.2 with ⟨lc,ll⟩|⟨g,cap,cur,lc,_⟩
     ·omega
     ·refine⟨.pointer (some ⟨g,n.toNat*c.t.cells+0,none⟩),dR.of (by simp only[execOp,U]) (s:=Instr.indexAt t (Act.eval ⟨T,aj.D cx⟩ x) (Act.eval ⟨T,aj.D cx⟩ i)) ?_,g,_,cap,lc,rfl⟩
      intro w' _
      simp only[Z,lc,lj,Instr.indexAt,asIntOf,Sem.run_bind,Sem.run_pure,Result.andThen_ok,run_underlying ls]
      rw[if_pos ⟨lp,O⟩]
      simp only[Sem.run_bind,fi aI,Result.andThen_ok,Sem.run_pure,gS,Nat.zero_add,Nat.add_zero]
    ·cases o
   ·cases o
  ·rename_i k u xs n k' lk v orc' R ld lb
   split at o
   ·rename_i y W ln
    cases o
    simp only[Bool.and_eq_true]at W
    obtain rfl:=Nat.eq_of_beq_eq_true W.1
    obtain rfl:=ah.eq_of_beq W.2
    obtain⟨lw,aJ⟩:=fF h ld
    obtain⟨lp,O,q⟩:=jG le.1
    obtain⟨_,_,_,e,d',la,lq⟩:=dw lb
    obtain⟨a,Z,cs,⟨lN,lO⟩,lR⟩:=vD (bj h R)
    obtain⟨c1,c2,c3,rfl,lh,Y⟩:=mY lO q
    refine⟨.pointer (some (a.add (n.toNat*u.cells))),dR.of (by simp only[execOp,U]) (s:=Instr.indexAt t (Act.eval ⟨T,aj.D cx⟩ x) (Act.eval ⟨T,aj.D cx⟩ i)) (fun w' _=>?_),?_⟩
    ·rw[Z,aJ]
     exact uM la lq lp (by rw[<-lN];exact O) w'
    ·refine GN ⟨c2,Y,fun j v lD=>?_⟩
     have aH:=(List.getElem?_eq_some_iff.1 lD).1
     have lU:(c1++c2++c3)[n.toNat*u.cells+j]? =some v:=by
      rw[List.append_assoc,List.getElem?_append_right (by omega),List.getElem?_append_left (by omega),<-lD]
      congr 1
      omega
     obtain⟨lt,lv⟩:=lR _ _ lU
     exact⟨by rw[add_add];exact lt,by rw[kg];exact lv⟩
   ·cases o
  ·rename_i b p n len u R ld lb
   cases o
   obtain⟨lw,aJ⟩:=fF h ld
   obtain⟨_,_,_,e,d',la,lq⟩:=dw lb
   obtain⟨g,lW,lX⟩:=bj h R
   refine⟨.pointer (some ⟨g,gp (p++[.x n u.cells]),none⟩),dR.of (by simp only[execOp,U]) (s:=Instr.indexAt t (Act.eval ⟨T,aj.D cx⟩ x) (Act.eval ⟨T,aj.D cx⟩ i)) (fun w' _=>?_),g,lW,rfl⟩
   rw[lX,aJ,uM la lq le.1.1 le.1.2 w',gS,yM]
   rfl
  ·rename_i b off n len u R ld lb
   cases W:(decide (0<=n)&&decide (n<(len:Int)))<;>rw[W]at o<;>cases o
   simp only[Bool.and_eq_true,decide_eq_true_eq]at W
   obtain⟨lw,aJ⟩:=fF h ld
   obtain⟨_,_,_,e,d',la,lq⟩:=dw lb
   obtain⟨g,lW,lX⟩:=bj h R
   refine⟨.pointer (some ⟨g,off+n.toNat*u.cells,none⟩),dR.of (by simp only[execOp,U]) (s:=Instr.indexAt t (Act.eval ⟨T,aj.D cx⟩ x) (Act.eval ⟨T,aj.D cx⟩ i)) (fun w' _=>?_),g,lW,rfl⟩
   rw[lX,aJ,uM la lq W.1 W.2 w',gS]
  ·rename_i r i0 aL lI n len u R ld lb
   split at o
   ·rename_i c lg
    split at o
    ·rename_i v aM W
     split at o
     ·rename_i y ln
      cases o
      simp only[Bool.and_eq_true,beq_iff_eq]at W
      obtain⟨lV,lt,lv,l9⟩:=W
      have lv:=Nat.eq_of_beq_eq_true lv
      have l9:=Nat.eq_of_beq_eq_true l9
      obtain⟨k,lj⟩:=fF h ld
      obtain⟨lp,O,q⟩:=jG le.1
      have lY:c.xs.length=len:=le.2.1
      obtain⟨_,_,_,e,d',la,lq⟩:=dw lb
      obtain rfl:=ah.eq_of_beq lV
      obtain⟨g,aN,cap,lc,Z⟩:=bj h R
      have Z:Act.eval ⟨T,aj.D cx⟩ x=.pointer (some ⟨g,0,none⟩):=by rw[Z,lt,lv];simp
      refine⟨.pointer (some ⟨g,n.toNat*c.t.cells+0,none⟩),dR.of (by simp only[execOp,U]) (s:=Instr.indexAt t (Act.eval ⟨T,aj.D cx⟩ x) (Act.eval ⟨T,aj.D cx⟩ i)) (fun w' _=>?_),g,_,cap,lc,rfl⟩
      have ly:n<(len:Int):=by rw[<-lY];exact O
      rw[Z,lj,uM la lq lp ly w',gS,Nat.zero_add,Nat.add_zero]
     ·cases o
    ·cases o
    ·rename_i aM a9
     cases W:(decide (0<=n)&&decide (n<(len:Int)))<;>rw[W]at o<;>cases o
     simp only[Bool.and_eq_true,decide_eq_true_eq]at W
     obtain⟨lw,aJ⟩:=fF h ld
     obtain⟨_,_,_,e,d',la,lq⟩:=dw lb
     obtain⟨g,aN,cap,lc,Z⟩:=bj h R
     refine⟨.pointer (some ⟨g,i0.toNat*lI+(aL+n.toNat*u.cells),none⟩),dR.of (by simp only[execOp,U]) (s:=Instr.indexAt t (Act.eval ⟨T,aj.D cx⟩ x) (Act.eval ⟨T,aj.D cx⟩ i)) (fun w' _=>?_),g,_,cap,lc,rfl⟩
     rw[Z,aJ,uM la lq W.1 W.2 w',gS,Nat.add_assoc]
   ·cases o
  ·cases o
 case load t x=>
  simp only[dN]at o
  split at o
  ·rename_i u y lk R lb
   split at o
   ·rename_i W ll
    cases o
    obtain⟨a,O,q⟩:=vD (bj h R)
    have lx:0<u.cells:=Nat.pos_of_ne_zero (beq_false ll)
    obtain rfl:=ah.eq_of_beq W
    obtain⟨v,lG,lH⟩:=WF lb q lx
    refine⟨v,dR.of (by simp only[execOp,U]) (s:=Instr.loadAt t (Act.eval ⟨T,aj.D cx⟩ x)) ?_,lH⟩
    intro w' lm
    simp only[Instr.loadAt,O,Instr.sureAddr,Sem.run_bind,Sem.run_pure,Result.andThen_ok]
    exact lG w' lm
   ·cases o
  ·cases o
 case slice t x ba ld gm=>
  cases gm with
  |some _=>simp only[dN]at o;cases o
  |none=>
   simp only[dN]at o
   split at o
   ·rename_i s r orc' R
    split at o
    ·rename_i l lZ lb lh l0
     cases o
     obtain⟨Z,lY⟩:=eW.1 (bj h R)
     have lf:=Qv lb (Ig h lh) (O6 h l0) le.1
     refine⟨.string (bytesOf r),dR.of (by simp only[execOp,U,Z];rfl) lf.steady,eW.2 ⟨rfl,?_⟩⟩
     exact Nat.le_trans (PS le.1) lY
    ·cases o
   ·rename_i u xs v orc' R
    split at o
    ·rename_i lk l lZ r lb lh l0 Y
     cases W:u.beq lk with
     |false=>rw[W]at o;cases o
     |true=>
      rw[W]at o
      cases o
      obtain rfl:=ah.eq_of_beq W
      obtain⟨_,_,_,lS,d',ls,lC⟩:=dw lb
      obtain⟨v',O,q⟩:=ab3 ls lC ((bC (t:=.ab u) rfl).1 (bj h R)) (Ig h lh) (O6 h l0) le.1
      exact⟨v',dR.of (by simp only[execOp,U];rfl) O.steady,(bC (t:=.ab u) rfl).2 q⟩
    ·cases o
   ·cases o
 case call c=>
  simp only[dN]at o
  split at o
  ·rename_i c' args lJ
   split at o
   ·rename_i x t R lb
    split at o
    ·rename_i s lf
     split at o
     ·rename_i n lc
      cases o
      have lh:=PY h (bj h lf) lc (ty':=aa.type)
      have lE:args=#[x]:=by rw[<-Array.toArray_toList (xs:=args),R]
      have ab:lJ=#[t]:=by rw[<-Array.toArray_toList (xs:=lJ),lb]
      subst lE
      subst ab
      refine⟨.int .i64 n,fun w' lm=>?_,dp.2 rfl⟩
      simp only[execOp,U,resolve,invoke,builtin,Sem.run_bind,Sem.run_pure,Result.andThen_ok,List.map_toArray,List.map_cons,List.map_nil,lh w' lm]
     ·cases o
    ·cases o
   ·cases o
  ·rename_i args lJ
   split at o
   ·rename_i r Y
    cases o
    obtain⟨x,y,k,a,b,lE,R,ln,e⟩:=Pt h Y
    subst lE
    subst e
    refine⟨.int k (mh a b),fun w' lm=>?_,dp.2 rfl⟩
    simp only[execOp,U,resolve,invoke,builtin,Sem.run_bind,Sem.run_pure,Result.andThen_ok,List.map_toArray,List.map_cons,List.map_nil,R,ln,run_max_int2]
    rfl
   ·cases o
  ·rename_i args lJ
   split at o
   ·rename_i r Y
    cases o
    obtain⟨x,y,k,a,b,lE,R,ln,e⟩:=Pt h Y
    subst lE
    subst e
    refine⟨.int k (fM a b),fun w' lm=>?_,dp.2 rfl⟩
    simp only[execOp,U,resolve,invoke,builtin,Sem.run_bind,Sem.run_pure,Result.andThen_ok,List.map_toArray,List.map_cons,List.map_nil,R,ln,run_min_int2]
    rfl
   ·cases o
  ·cases o
 case makeInterface t x=>
  simp only[dN]at o
  cases lg:cx.P.concrete t with
  |false=>rw[lg]at o;cases o
  |true=>
   rw[lg,cond_true]at o
   cases o
   refine⟨_,dR.of (by simp only[execOp,U]) (s:=Instr.makeInterface t (Act.eval ⟨T,aj.D cx⟩ x)) (fun w' _=>run_makeInterface w' t _ lg),?_⟩
   have key:∀s,s=ap.val .err (yd t (dL st x))->aX w (au cx m st.ids) m (Value.iface t (Act.eval ⟨T,aj.D cx⟩ x)) s:=by
    rintro s rfl
    refine(bC (t:=.err) rfl).2 ?_
    unfold yd
    split
    ·rename_i k n R
     cases lj:gR k .i64 with
     |true=>
      obtain rfl:=nE lj
      have:=dp.1 (dt h R)
      exact .inr (.inr ⟨t,n,rfl,by rw[this]⟩)
     |false=>exact .inr (.inl ⟨rfl,_,_,rfl⟩)
    ·exact .inr (.inl ⟨rfl,_,_,rfl⟩)
   unfold mkIf
   split
   ·rename_i u y R
    cases lF:u.agg with
    |true=>exact(bC (t:=.cP t u) rfl).2 ⟨_,rfl,dt h R⟩
    |false=>exact key _ (by rw[R];rfl)
   ·rename_i R
    exact key _ (by rw[R])
 case typeAssert x l3 a ok=>
  simp only[dN]at o
  unfold Ik at o
  split at o
  ·rename_i n u y d R ai
   have Z:=(bC (t:=.cP n u) rfl).1 (dt h R)
   obtain⟨v,e,Z⟩:=Z
   simp only[List.cons.injEq,and_true]at e
   split at o
   ·cases o
   ·rename_i l4
    split at o
    ·rename_i lc
     have lc:=Nat.eq_of_beq_eq_true lc
     subst lc
     cases o
     refine⟨.tuple #[v,.bool true],dR.of (by simp only[execOp,U]) (s:=Instr.typeAssert (Act.eval ⟨T,aj.D cx⟩ x) l3 n true) (fun w' _=>?_),[v,.bool true],rfl,Z,dU.2 rfl,trivial⟩
     rw[e]
     unfold Instr.typeAssert
     cases d<;>first|(exact absurd rfl (l4 _))|(simp[run_underlying ai])
    ·rename_i lc
     have lc:=Nat.eq_of_beq_eq_true lc
     subst lc
     cases o
     refine⟨v,dR.of (by simp only[execOp,U]) (s:=Instr.typeAssert (Act.eval ⟨T,aj.D cx⟩ x) l3 n false) (fun w' _=>?_),Z⟩
     rw[e]
     unfold Instr.typeAssert
     cases d<;>first|(exact absurd rfl (l4 _))|(simp[run_underlying ai])
    ·rename_i lc
     split at o
     ·rename_i z ll
      cases o
      obtain⟨z0,_,aO,aP⟩:=HJ ll
      refine⟨.tuple #[z0,.bool false],dR.of (by simp only[execOp,U]) (s:=Instr.typeAssert (Act.eval ⟨T,aj.D cx⟩ x) l3 a true) (fun w' _=>?_),[z0,.bool false],rfl,aP _ _,dU.2 rfl,trivial⟩
      rw[e]
      have lT:¬n=a:=fun lZ=>by rw[lZ,Nat.beq_refl]at lc;cases lc
      unfold Instr.typeAssert
      cases d<;>first|(exact absurd rfl (l4 _))|(simp[run_underlying ai,lT,aO])
     ·cases o
    ·cases o
  ·cases o
 case lookup mt x k ok=>
  simp only[dN]at o
  unfold xV at o
  split at o
  ·rename_i cj aQ ab key R ad lj
   split at o
   ·rename_i aS aT lK ae aU aV
    obtain⟨s,lf,aW⟩:=Option.bind_eq_some_iff.1 R
    have af:=dt h lj
    have aY:=ak.dx aV
    subst aY
    obtain⟨z,_,ll,ag⟩:=HJ aU
    have fin:(aS.beq cj.k&&aT.beq cj.v&&eD cx.P 16 aQ)=true->∃r,bf w (au cx m st.ids) r cj.v ((bM (aR cj.k) cj.ps lK).getD (cl cj.v))/\∀w',Ext w w'->∀ok,(Instr.lookup mt (Act.eval ⟨T,aj.D cx⟩ x) (Act.eval ⟨T,aj.D cx⟩ k) ok).run cx.P w'=.ok (if ok then .tuple #[r,.bool (bM (aR cj.k) cj.ps lK).isSome]else r) w':=by
     intro W
     simp only[Bool.and_eq_true]at W
     have aZ:=ah.eq_of_beq W.1.1
     have a0:=ah.eq_of_beq W.1.2
     subst aZ
     subst a0
     rcases Ee h (bj h lf) aW with ⟨lc,lx⟩|⟨g,es,a1,lc,lo,Y⟩
     ·obtain⟨r,O,q⟩:=rb (w':=w) (M':=au cx m st.ids) (d:=jn) (d':=16) ad ae W.2 (by decide) ll ag af (es:=#[]) (ps:=cj.ps) (by rw[lx];trivial)
      exact⟨r,O,fun w' _=>q w' _ (.inl ⟨lc,rfl⟩)⟩
     ·obtain⟨r,O,q⟩:=rb (d:=jn) (d':=16) ad ae W.2 (by decide) ll ag af Y
      exact⟨r,O,fun w' lm=>q w' _ (.inr ⟨g,a1,lc,by rw[lm.block g (gB lo)];exact lo⟩)⟩
    split at o
    ·rename_i W
     cases o
     obtain⟨r,O,q⟩:=fin W
     exact⟨.tuple #[r,.bool (bM (aR cj.k) cj.ps lK).isSome],dR.of (by simp only[execOp,U]) (fun w' lm=>q w' lm true),[r,.bool (bM (aR cj.k) cj.ps lK).isSome],rfl,O,dU.2 rfl,trivial⟩
    ·rename_i W
     cases o
     obtain⟨r,O,q⟩:=fin W
     exact⟨r,dR.of (by simp only[execOp,U]) (fun w' lm=>q w' lm false),O⟩
    ·cases o
   ·cases o
  ·cases o
 all_goals (simp only[dN]at o;cases o)
end Go.Ev
namespace Go.Ev
open Go Go.RowKit
variable [cm]
variable {cx:bJ} {m:Nat->Value} {st:af} {T:Array Value} {w w':World}
variable [aj cx]
def leaves:(t:ah)->t.el->List ap
 |.int k,n=>[.val (.int k) n]
 |.bool,b=>[.val .bool b]
 |.str,s=>[.val .str s]
 |.ab t,xs=>[.val (.ab t) xs]
 |.unit,_=>[]
 |.pair a b,x=>leaves a x.1++leaves b x.2
 |.ptr t,x=>[.val (.ptr t) x]
 |.fn f t,x=>[.val (.fn f t) x]
 |.err,x=>[.val .err x]
 |.cO,x=>[.val .cO x]
 |.dj,x=>[.val .dj x]
 |.cP n t,x=>[.val (.cP n t) x]
 |.alt n t r,x=>[.val (.alt n t r) x]
 |.arr _ t,xs=>List.flatMap (leaves t) xs
 |.map k v,x=>[.val (.map k v) x]
def ix(t:ah):List ap->Option (t.el×List ap)
 |.val u x::r=>match ak.as ⟨u,x⟩ t with
  |some y=>some (y,r)
  |none=>none
 |_=>none
def wN{α:Type}(f:List ap->Option (α×List ap)):Nat->List ap->Option (List α×List ap)
 |0,l=>some ([],l)
 |n+1,l=>match f l with
  |some (x,r)=>match wN f n r with
   |some (xs,o)=>some (x::xs,o)
   |none=>none
  |none=>none
def pack:(t:ah)->List ap->Option (t.el×List ap)
 |.unit,l=>some ((),l)
 |.pair a b,l=>match pack a l with
  |some (x,r)=>match pack b r with
   |some (y,o)=>some ((x,y),o)
   |none=>none
  |none=>none
 |.int k,l=>ix (.int k) l
 |.bool,l=>ix .bool l
 |.str,l=>ix .str l
 |.ab t,l=>ix (.ab t) l
 |.ptr t,l=>ix (.ptr t) l
 |.fn f t,l=>ix (.fn f t) l
 |.err,l=>ix .err l
 |.cO,l=>ix .cO l
 |.dj,l=>ix .dj l
 |.cP n t,l=>ix (.cP n t) l
 |.alt n t r,l=>ix (.alt n t r) l
 |.arr n t,l=>wN (pack t) n l
 |.map k v,l=>ix (.map k v) l
theorem mE{M:Nat->Prop}:∀{c1 c2:List Value} {l1 l2:List ap},cJ w M m c1 l1->cJ w M m c2 l2->cJ w M m (c1++c2) (l1++l2)
 |[],_,[],_,_,h=>h
 |[],_,_::_,_,h,_=>h.elim
 |_::_,_,[],_,h,_=>h.elim
 |_::_,_,_::_,_,⟨o,q⟩,h=>⟨o,mE q h⟩
theorem nh{M:Nat->Prop}:∀{c:List Value} {l:List ap},cJ w M m c l->c.length=l.length
 |[],[],_=>rfl
 |[],_::_,h=>h.elim
 |_::_,[],h=>h.elim
 |_::_,_::_,⟨_,h⟩=>by simp[nh h]
theorem jm{M:Nat->Prop}:∀(n:Nat) {c:List Value} {l:List ap},cJ w M m c l->cJ w M m (c.take n) (l.take n)/\cJ w M m (c.drop n) (l.drop n)
 |0,_,_,h=>⟨trivial,h⟩
 |n+1,[],[],_=>⟨trivial,trivial⟩
 |n+1,[],_::_,h=>h.elim
 |n+1,_::_,[],h=>h.elim
 |n+1,_::_,_::_,⟨q,o⟩=>⟨⟨q,(jm n o).1⟩,(jm n o).2⟩
theorem L8{M:Nat->Prop}{t:ah}(h:∀{cs:List Value} {x:t.el},aL w M t cs x->cJ w M m cs (leaves t x)):∀{xs:List t.el} {cs:List Value},bT (aL w M t) cs xs->cJ w M m cs (xs.flatMap (leaves t))
 |[],_,o=>by cases o;trivial
 |_::_,_,⟨c1,c2,e,q,O⟩=>by subst e;rw[List.flatMap_cons];exact mE (h q) (L8 h O)
theorem xZ{M:Nat->Prop}:∀(t:ah) {cs:List Value} {x:t.el},aL w M t cs x->cJ w M m cs (leaves t x):=by
 intro t
 induction t with
 |int k=>intro cs x h;cases h;exact⟨dp.2 rfl,trivial⟩
 |bool=>intro cs x h;cases h;exact⟨dU.2 rfl,trivial⟩
 |str=>intro cs x h;obtain⟨O,R⟩:=h;cases O;exact⟨eW.2 ⟨rfl,R⟩,trivial⟩
 |ab t o=>intro cs x h;obtain⟨a,cap,cells,e,r⟩:=h;subst e;exact⟨(bC (t:=.ab t) rfl).2 ⟨a,cap,cells,rfl,r⟩,trivial⟩
 |unit=>intro cs x h;cases h;trivial
 |ptr t o=>intro cs x h;obtain⟨a,cells,e,r⟩:=h;subst e;exact⟨(bC (t:=.ptr t) rfl).2 ⟨a,cells,rfl,r⟩,trivial⟩
 |fn f t o=>intro cs x h;obtain⟨bs,e,r⟩:=h;subst e;exact⟨(bC (t:=.fn f t) rfl).2 ⟨bs,rfl,r⟩,trivial⟩
 |err=>intro cs x h;rcases h with ⟨q,e⟩|⟨q,t,v,e⟩|⟨t,n,q,e⟩<;>subst e;exact⟨(bC (t:=.err) rfl).2 (.inl ⟨q,rfl⟩),trivial⟩;exact⟨(bC (t:=.err) rfl).2 (.inr (.inl ⟨q,t,v,rfl⟩)),trivial⟩;exact⟨(bC (t:=.err) rfl).2 (.inr (.inr ⟨t,n,q,rfl⟩)),trivial⟩
 |cO=>intro cs x h;obtain⟨v,e,r⟩:=h;subst e;exact⟨(bC (t:=.cO) rfl).2 ⟨v,rfl,r⟩,trivial⟩
 |dj=>intro cs x h;cases h;exact⟨(bC (t:=.dj) rfl).2 rfl,trivial⟩
 |cP n t o=>intro cs x h;obtain⟨v,e,r⟩:=h;subst e;exact⟨(bC (t:=.cP n t) rfl).2 ⟨v,rfl,r⟩,trivial⟩
 |alt n t r _ _=>
  intro cs x h
  have U:=cu (.alt n t r) h
  match cs,U,h with
  |[v],_,h=>exact⟨(bC (t:=.alt n t r) rfl).2 h,trivial⟩
 |arr n t o=>intro cs x h;exact L8 o h.2
 |map k v _ _=>
  intro cs x h
  match x,h with
  |none,h=>have h:cs=[.map none]:=h;subst h;exact⟨(bC (t:=.map k v) rfl).2 rfl,trivial⟩
  |some ps,⟨b,es,W,e,r⟩=>subst e;exact⟨(bC (t:=.map k v) rfl).2 ⟨b,es,W,rfl,r⟩,trivial⟩
 |pair a b Y Z=>rintro cs x ⟨c1,c2,rfl,O,R⟩;exact mE (Y O) (Z R)
theorem ji{M:Nat->Prop}{t:ah}(q:t.agg=false){cs:List Value}{c r:List ap}{x:t.el}(h:cJ w M m cs c)(o:ix t c=some (x,r)):
  ∃c1 c2,cs=c1++c2/\aL w M t c1 x/\cJ w M m c2 r:=by
 unfold ix at o
 split at o
 ·rename_i u y Y
  split at o
  ·rename_i z O
   cases o
   have e:=ak.dx O
   match cs,h with
   |v::vs,⟨R,U⟩=>
    refine⟨[v],vs,rfl,?_,U⟩
    have W:bf w M v u y:=R
    cases e
    exact(bC q).1 W
   |[],h=>exact h.elim
  ·cases o
 ·cases o
theorem MX{M:Nat->Prop}{t:ah}(h:∀{cs:List Value} {c r:List ap} {x:t.el},cJ w M m cs c->pack t c=some (x,r)->∃c1 c2,cs=c1++c2/\aL w M t c1 x/\cJ w M m c2 r):
  ∀(n:Nat) {cs:List Value} {c r:List ap} {xs:List t.el},cJ w M m cs c->wN (pack t) n c=some (xs,r)->∃c1 c2,cs=c1++c2/\(xs.length=n/\bT (aL w M t) c1 xs)/\cJ w M m c2 r
 |0,cs,c,r,xs,q,o=>by cases o;exact⟨[],cs,rfl,⟨rfl,rfl⟩,q⟩
 |n+1,cs,c,r,xs,q,o=>by
  unfold wN at o
  split at o
  ·rename_i y W O
   split at o
   ·rename_i Y cy R
    cases o
    obtain⟨c1,c2,rfl,g1,g2⟩:=h q O
    obtain⟨d1,d2,rfl,⟨g3,U⟩,g4⟩:=MX h n g2 R
    exact⟨c1++d1,d2,by simp,⟨by simp[g3],c1,d1,rfl,g1,U⟩,g4⟩
   ·cases o
  ·cases o
theorem qZ{M:Nat->Prop}:∀(t:ah) {cs:List Value} {c r:List ap} {x:t.el},cJ w M m cs c->pack t c=some (x,r)->∃c1 c2,cs=c1++c2/\aL w M t c1 x/\cJ w M m c2 r:=by
 intro t
 induction t with
 |int k=>intro cs c r x h o;exact ji rfl h o
 |bool=>intro cs c r x h o;exact ji rfl h o
 |str=>intro cs c r x h o;exact ji rfl h o
 |ab t q=>intro cs c r x h o;exact ji rfl h o
 |unit=>intro cs c r x h o;cases o;exact⟨[],cs,rfl,rfl,h⟩
 |ptr t q=>intro cs c r x h o;exact ji rfl h o
 |fn f t q=>intro cs c r x h o;exact ji rfl h o
 |err=>intro cs c r x h o;exact ji rfl h o
 |cO=>intro cs c r x h o;exact ji rfl h o
 |dj=>intro cs c r x h o;exact ji rfl h o
 |cP n t q=>intro cs c r x h o;exact ji rfl h o
 |alt n t r _ _=>intro cs c r x h o;exact ji rfl h o
 |arr n t q=>intro cs c r x h o;exact MX q n h o
 |map k v _ _=>intro cs c r x h o;exact ji rfl h o
 |pair a b O R=>
  intro cs c r x h o
  unfold pack at o
  split at o
  ·rename_i y Y U
   split at o
   ·rename_i z cy W
    cases o
    obtain⟨c1,c2,rfl,g1,g2⟩:=O h U
    obtain⟨d1,d2,rfl,g3,g4⟩:=R g2 W
    exact⟨c1++d1,d2,by simp,⟨c1,d1,rfl,g1,g3⟩,g4⟩
   ·cases o
  ·cases o
def uK(P:Program)(st:af)(t:TypeId)(x:Operand)(orc:List ak):Option dS:=
 match aW st x,ty P t with
 |some (.ptr b off),some u=>match look st.ae b with
  |some (.cells c _)=>match u.agg with
   |true=>match pack u (c.drop off)with
    |some (y,_)=>some ⟨.val u y,orc,[]⟩
    |none=>none
   |false=>match c.drop off with
    |s::_=>some ⟨s,orc,[]⟩
    |[]=>none
  |_=>none
 |some (.ep r i off o),some u=>match look st.rw r,orc with
  |some c,v::orc'=>match v.as c.t,Nat.beq o c.t.cells,Nat.beq u.cells 0 with
   |some x,true,false=>match dd c.t x off u with
    |some y=>some ⟨.val u y,orc',[ar c.xs i=some x]⟩
    |none=>none
   |_,_,_=>none
  |_,_=>none
 |some (.dP b p),some u=>match look st.ae b with
  |some (.aY q x _)=>match kz q x p orc with
   |some (r,orc',ob)=>match r.as u,Nat.beq u.cells 0 with
    |some y,false=>some ⟨.val u y,orc',ob⟩
    |_,_=>none
   |none=>none
  |_=>none
 |_,_=>none
theorem Ad{w:World}{g:Nat}{aa:Obj}(h:w.heap[g]? =some aa):g<w.heap.size:=by
 rcases Nat.lt_or_ge g w.heap.size with o|o
 ·exact o
 ·rw[Array.getElem?_eq_none o]at h;cases h
theorem oL{w:World}{g:Nat}{cells:Array Value}{e:Nat}{bB:Nat×Nat}(h:w.heap[g]? =some (.cells cells e bB))(aa:Nat):w.cell? ⟨g,aa,none⟩=cells[aa]? :=by
 simp[World.cell?,h]
theorem jY{P:Program}{tid d:Nat}{u:ah}(O:dc P d tid=some u){g off:Nat}{cells:Array Value}{e:Nat}{bB:Nat×Nat}{c:List Value}(U:w.heap[g]? =some (.cells cells e bB))
  (Z:∀j v,c[j]? =some v->cells[off+j]? =some v)(o:c.length=u.cells)(lc:u.agg=false->0<u.cells):
  ∃v,ny P w (loadVar tid ⟨g,off,none⟩) v/\(if u.agg then v=.agg c.toArray else c=[v]):=by
 have W:∀w',Ext w w'->∀j v,c[j]? =some v->w'.cell? ((⟨g,off,none⟩:Addr).add j)=some v:=by
  intro w' q j v la
  rw[gS]
  have lb:w'.heap[g]? =some (.cells cells e bB):=by rw[q.block g (Ad U)];exact U
  rw[oL lb]
  exact Z j v la
 cases R:u.agg with
 |true=>
  refine⟨.agg c.toArray,fun w' q=>?_,by simp⟩
  unfold loadVar
  rw[Sem.run_bind,kK O,R]
  simp only[Result.andThen_ok,if_true,Sem.run_bind,fi O]
  rw[<-o,EP (W w' q)]
  rfl
 |false=>
  have ld:u.cells=1:=by cases u<;>first|rfl|(simp[ah.agg]at R)
  match c,o with
  |[v],_=>
   refine⟨v,fun w' q=>?_,by simp⟩
   have Y:=W w' q 0 v rfl
   rw[add_zero]at Y
   unfold loadVar
   rw[Sem.run_bind,kK O,R]
   simp only[Result.andThen_ok,Bool.false_eq_true,if_false]
   simp[load,Sem.run,Y]
  |[],o=>simp at o;omega
  |_::_::_,o=>simp at o;omega
theorem Nx{α:Type}(a b c d e:List α)(j:Nat)(q:j<c.length):(a++(b++c++d)++e)[a.length+b.length+j]? =c[j]? :=by
 have o:a++(b++c++d)++e=(a++b)++(c++(d++e)):=by simp
 rw[o,List.getElem?_append_right (by rw[List.length_append];omega),List.getElem?_append_left (by rw[List.length_append];omega),List.length_append]
 congr 1
 omega
theorem EN(h:ao cx m st T w){t:TypeId}{x:Operand}{orc:List ak}{lj:dS}(o:uK cx.P st t x orc=some lj)(lq:bW lj.ob):
  ∃v,ny cx.P w (Instr.loadAt t (Act.eval ⟨T,aj.D cx⟩ x)) v/\aX w (au cx m st.ids) m v lj.aU:=by
 unfold uK at o
 split at o
 ·rename_i b off u lb Z
  obtain⟨g,la,lc⟩:=bj h lb
  have lk:Instr.loadAt t (Act.eval ⟨T,aj.D cx⟩ x)=loadVar t ⟨g,off,none⟩:=by rw[lc];rfl
  rw[lk]
  split at o
  ·rename_i c ll
   obtain⟨ld,le,_,cells,lh,lm⟩:=h.box (be ll)
   have:ld=g:=by rw[la]at le;cases le;rfl
   subst this
   obtain⟨_,ai⟩:=jm (w:=w) (m:=m) off lm
   split at o
   ·rename_i O
    split at o
    ·rename_i y r lf
     cases o
     obtain⟨c1,c2,lg,U,_⟩:=qZ u ai lf
     obtain⟨v,Y,q⟩:=jY (c:=c1) Z lh (fun j v R=>by
      have:(cells.toList.drop off)[j]? =some v:=by rw[lg,List.getElem?_append_left (List.getElem?_eq_some_iff.1 R).1];exact R
      rw[List.getElem?_drop]at this
      simpa using this) (cu u U) (fun W=>by rw[O]at W;cases W)
     rw[O,if_pos rfl]at q
     exact⟨v,Y,(eG O).2 ⟨c1,q,U⟩⟩
    ·cases o
   ·rename_i O
    split at o
    ·rename_i s r lu
     cases o
     rw[lu]at ai
     match lg:cells.toList.drop off,ai with
     |v0::vs,⟨lr,_⟩=>
      have lv:u.cells=1:=by cases u<;>first|rfl|(simp[ah.agg]at O)
      obtain⟨v,Y,q⟩:=jY (c:=[v0]) Z lh (fun j v R=>by
       have lw:j=0:=by have:=(List.getElem?_eq_some_iff.1 R).1;simpa using this
       subst lw
       simp at R
       subst R
       have:(cells.toList.drop off)[0]? =some v0:=by rw[lg];rfl
       rw[List.getElem?_drop]at this
       simpa using this) (by rw[lv];rfl) (fun _=>by omega)
      rw[O]at q
      simp at q
      subst q
      exact⟨v0,Y,lr⟩
     |[],ai=>exact ai.elim
    ·cases o
  ·cases o
 ·rename_i r i off lx u lb Z
  obtain⟨g,n,cap,la,lc⟩:=bj h lb
  have lk:Instr.loadAt t (Act.eval ⟨T,aj.D cx⟩ x)=loadVar t ⟨g,i.toNat*lx+off,none⟩:=by rw[lc];rfl
  rw[lk]
  split at o
  ·rename_i c v orc' ll
   split at o
   ·rename_i ly lr lz ln
    split at o
    ·rename_i y lo
     cases o
     obtain⟨lL,lM,lA⟩:=jG lq.1
     obtain⟨cells,lB,_,lC⟩:=h.rows r c (be ll)
     have lD:=Nat.eq_of_beq_eq_true lz
     subst lD
     rcases lB.2 with ⟨W,_⟩|⟨ld,lN,cur,W,_,lE,_,_,_,lF⟩
     ·rw[la]at W;cases W
     ·have:ld=g:=by rw[la]at W;cases W;rfl
      subst this
      obtain⟨c1,c2,c3,rfl,ls,U⟩:=mY lC lA
      obtain⟨d1,d2,d3,rfl,lG,lp⟩:=pA c.t U lo
      have lf:0<u.cells:=Nat.pos_of_ne_zero (beq_false ln)
      obtain⟨v',Y,q⟩:=jY (c:=d2) Z lE (fun j v R=>by
       have lt:=(List.getElem?_eq_some_iff.1 R).1
       have li:(cur.toList.take (c.xs.length*c.t.cells))[i.toNat*c.t.cells+off+j]? =some v:=by
        rw[lF,<-ls,<-lG,<-R]
        exact Nx c1 d1 d2 d3 c3 j lt
       rw[List.getElem?_take]at li
       split at li
       ·simpa using li
       ·cases li) (cu u lp) (fun _=>lf)
      refine⟨v',Y,?_⟩
      cases O:u.agg with
      |true=>rw[O,if_pos rfl]at q;exact(eG O).2 ⟨d2,q,lp⟩
      |false=>rw[O]at q;simp at q;subst q;exact(bC O).2 lp
    ·cases o
   ·cases o
  ·cases o
 ·rename_i b p u lb Z
  obtain⟨g,la,lc⟩:=bj h lb
  split at o
  ·rename_i lH ly e lI
   split at o
   ·rename_i r lO ob lf
    split at o
    ·rename_i y lo ln
     cases o
     obtain⟨ld,le,_,cells,lh,lm⟩:=h.box (be lI)
     have:ld=g:=by rw[la]at le;cases le;rfl
     subst this
     obtain⟨c1,c2,c3,lg,ls,U⟩:=wv p lH lm lf lq
     have lJ:=ak.dx lo
     subst lJ
     have lK:0<u.cells:=Nat.pos_of_ne_zero (beq_false ln)
     obtain⟨v,Y,q⟩:=jY (off:=gp p) (c:=c2) Z lh (fun j v R=>by
      have lt:=(List.getElem?_eq_some_iff.1 R).1
      rw[<-Array.getElem?_toList,lg,List.append_assoc,List.getElem?_append_right (by omega),List.getElem?_append_left (by omega),<-R]
      congr 1
      omega) (cu u U) (fun _=>lK)
     refine⟨v,by rw[lc];exact Y,?_⟩
     cases O:u.agg with
     |true=>rw[O,if_pos rfl]at q;exact(eG O).2 ⟨c2,q,U⟩
     |false=>rw[O]at q;simp at q;subst q;exact(bC O).2 U
    ·cases o
   ·cases o
  ·cases o
 ·cases o
def wy:Option b7->Bool
 |some (.bw _ _ _ _)=>true
 |_=>false
def vg:ap->Bool
 |.val t _=>!t.agg
 |.row _=>true
 |.clos _ _=>true
 |.ptr _ _=>true
 |.vptr _ _=>true
 |.osl _=>true
 |.iter _=>true
 |_=>false
def yO:Option b7->Bool
 |some (.mp _ _ _)=>true
 |_=>false
theorem JU{M:Nat->Prop}{v:Value}{s:ap}(O:vg s=true)(q:∀r,s=.row r\/s=.osl r\/s=.iter r->v.oneCell'=true)(o:aX w M m v s):v.oneCell'=true/\v.cells=#[v]:=by
 cases s<;>simp only[vg,Bool.false_eq_true]at O
 case val t x=>
  have U:t.agg=false:=by simpa using O
  have W:=(bC U).1 o
  have R:=hU t W v (by simp)
  refine⟨R,?_⟩
  cases v<;>first|rfl|(simp[Value.oneCell']at R)
 case row r=>
  have:=q r (.inl rfl)
  refine⟨this,?_⟩
  cases v<;>first|rfl|(simp[Value.oneCell']at this)
 case osl b=>
  have:=q b (.inr (.inl rfl))
  refine⟨this,?_⟩
  cases v<;>first|rfl|(simp[Value.oneCell']at this)
 case iter b=>
  have:=q b (.inr (.inr rfl))
  refine⟨this,?_⟩
  cases v<;>first|rfl|(simp[Value.oneCell']at this)
 case clos f bs=>
  have e:v=_:=o
  subst e
  exact⟨rfl,rfl⟩
 case ptr b off=>obtain⟨g,_,e⟩:=o;subst e;exact⟨rfl,rfl⟩
 case vptr t x=>obtain⟨a,c,e,_⟩:=o;subst e;exact⟨rfl,rfl⟩
def sA(u:ah)(s:ap):Option (List ap):=
 match u.agg with
 |true=>match s with
  |.val t x=>bif t.beq u then some (leaves t x)else none
  |_=>none
 |false=>match s with
  |.val t x=>bif t.beq u then some [.val t x]else none
  |s=>bif vg s&&Nat.beq u.cells 1 then some [s]else none
theorem row_one(h:ao cx m st T w){r:Nat}{c:cV}(q:(r,c)∈st.rw):(m r).oneCell'=true:=by
 obtain⟨cells,O,_⟩:=h.rows r c q
 rcases O.2 with ⟨o,_⟩|⟨g,cap,cur,o,_⟩<;>rw[o]<;>rfl
theorem Ic{M:Nat->Prop}{v:Value}{s:ap}{u:ah}{l:List ap}(Y:∀r,s=.row r\/s=.osl r\/s=.iter r->v.oneCell'=true)(O:aX w M m v s)(o:sA u s=some l):
  cJ w M m v.cells.toList l/\(∀x∈v.cells.toList,x.oneCell'=true)/\v.cells.size=u.cells:=by
 unfold sA at o
 split at o
 ·rename_i Z
  split at o
  ·rename_i t x
   cases q:t.beq u with
   |false=>rw[q]at o;cases o
   |true=>
    rw[q]at o
    cases o
    obtain rfl:=ah.eq_of_beq q
    have R:=jP O
    exact⟨xZ t R,hU t R,by rw[<-cu t R];simp⟩
  ·cases o
 ·rename_i Z
  split at o
  ·rename_i t x
   cases q:t.beq u with
   |false=>rw[q]at o;cases o
   |true=>
    rw[q]at o
    cases o
    obtain rfl:=ah.eq_of_beq q
    have R:=jP O
    have W:=JU (s:=.val t x) (by simp[vg,Z]) Y O
    refine⟨?_,hU t R,by rw[<-cu t R];simp⟩
    rw[W.2]
    exact⟨O,trivial⟩
  ·rename_i la _
   cases U:vg s&&Nat.beq u.cells 1 with
   |false=>rw[U]at o;cases o
   |true=>
    rw[U]at o
    cases o
    simp only[Bool.and_eq_true]at U
    have W:=JU U.1 Y O
    rw[W.2]
    exact⟨⟨O,trivial⟩,by simp[W.1],by rw[Nat.eq_of_beq_eq_true U.2];rfl⟩
theorem J2(h:ao cx m st T w){b:Nat}(o:wy (look st.ae b)=true){M:Nat->Prop}{v:Value}(R:aX w M m v (.osl b)):v.oneCell'=true:=by
 unfold wy at o
 split at o
 ·rename_i e k xs la U
  obtain⟨g,_,_,ai,us,cells,W,Y,_⟩:=h.boxes b _ (be U)
  obtain⟨lb,q⟩:=R
  have Z:v=ai:=by
   rw[W]at q
   simp only[Value.tuple.injEq,Array.mk.injEq,List.cons.injEq]at q
   exact q.1.symm
  rw[Z]
  rcases Y.2 with ⟨O,_⟩|⟨g,cap,cur,O,_⟩<;>rw[O]<;>rfl
 ·cases o
theorem Ko(h:ao cx m st T w){b:Nat}(o:yO (look st.ae b)=true){M:Nat->Prop}{v:Value}(q:aX w M m v (.iter b)):v.oneCell'=true:=by
 unfold yO at o
 split at o
 ·rename_i O
  obtain⟨g,R,_⟩:=h.box (be O)
  have q:v=m b:=q
  rw[q,R]
  rfl
 ·cases o
theorem kC(w:World)(g:Nat)(cs:Array Value):Same w (w.setRow g cs):=by
 refine{os:=rfl,tape:=rfl,output:=rfl,size:=?_,drawn:=fun _=>Nat.le_refl _}
 simp[World.setRow]
theorem nU{P:Program}{tid d:Nat}{u:ah}(R:dc P d tid=some u){g off:Nat}{cur:Array Value}{e:Nat}{v:Value}(U:w.heap[g]? =some (.cells cur e (0,0)))
  (o:v.cells.size=u.cells)(Y:off+u.cells<=cur.size)(W:∀x∈v.cells.toList,x.oneCell'=true):
  (Instr.storeAt tid (.pointer (some ⟨g,off,none⟩)) v).run P w=.ok () (w.setRow g (cur.toList.take off++v.cells.toList++cur.toList.drop (off+u.cells)).toArray):=by
 have q:v.cells.toList.length=u.cells:=by rw[<-o];simp
 have O:=run_storeCells_at (P:=P) g off e v.cells.toList 0 cur w U (by rw[q];omega) W
 rw[q,Nat.add_zero]at O
 simp only[Instr.storeAt,Instr.sureAddr,Sem.run_bind,Sem.run_pure,Result.andThen_ok,storeVar,fi R,o,ne_eq,not_true_eq_false,if_false]
 exact O
def G1(P:Program)(st:af)(t:TypeId)(y:Operand):Option ap:=
 match y with
 |.const (.slice none 0 0)=>match ty P t with
  |some (.ab u)=>some (.val (.ab u) [])
  |_=>none
 |y=>aW st y
theorem rK(h:ao cx m st T w){P:Program}{t:TypeId}{y:Operand}{s:ap}(o:G1 P st t y=some s):aX w (au cx m st.ids) m (Act.eval ⟨T,aj.D cx⟩ y) s:=by
 unfold G1 at o
 split at o
 ·split at o
  ·rename_i u _
   cases o
   exact(bC (t:=.ab u) rfl).2 ⟨none,0,[],rfl,Nat.le_refl _,by decide,fun _=>rfl,rfl,fun j u q=>by simp at q⟩
  ·cases o
 ·exact bj h o
def zp(P:Program)(st:af)(t:TypeId)(x y:Operand)(orc:List ak):Option (af×List ak×List Prop):=
 match aW st x,ty P t,G1 P st t y with
 |some (.ptr b off),some u,some s=>match look st.ae b,sA u s,rx st s with
  |some (.cells c e),some l,true=>bif Nat.ble (off+u.cells) c.length then some (st.dr b (.cells (c.take off++l++c.drop (off+u.cells)) e),orc,[])else none
  |_,_,_=>none
 |some (.ep r i off R),some u,some (.val o z)=>match look st.rw r,orc with
  |some c,v::orc'=>match v.as c.t,Nat.beq R c.t.cells,o.beq u with
   |some q,true,true=>match cE c.t q off ⟨o,z⟩with
    |some U=>some (st.setRow r {c with xs:=c.xs.set i.toNat U},orc',[ar c.xs i=some q])
    |none=>none
   |_,_,_=>none
  |_,_=>none
 |some (.dP b p),some u,some (.val o z)=>match look st.ae b with
  |some (.aY O x e)=>match o.beq u,mS O x p orc ⟨o,z⟩with
   |true,some (y,orc',ob)=>some (st.dr b (.aY O y e),orc',ob)
   |_,_=>none
  |_=>none
 |_,_,_=>none
where
 rx (st:af):ap->Bool
  |.row r=>(look st.rw r).isSome
  |.osl b=>wy (look st.ae b)
  |.iter b=>yO (look st.ae b)
  |_=>true
end Go.Ev
namespace Go.Ev
open Go Go.RowKit
variable [cm]
variable {cx:bJ} {m:Nat->Value} {st:af} {T:Array Value} {w w':World}
variable [aj cx]
theorem pi{M M':Nat->Prop}(o:∀b,b<w.heap.size->¬M b->w'.heap[b]? =w.heap[b]?)(q:∀b,b<w.heap.size->M' b->M b){c:List Value}{l:List ap}(h:cJ w M m c l):cJ w' M' m c l:=by
 have:=sW (f:=id) (fun v s O=>fG (m:=m) o q O) h
 simpa using this
theorem Sb(h:ao cx m st T w){t:TypeId}{x y:Operand}{orc orc':List ak}{st':af}{ob:List Prop}(o:zp cx.P st t x y orc=some (st',orc',ob))(lE:bW ob):
  ∃w',(Instr.storeAt t (Act.eval ⟨T,aj.D cx⟩ x) (Act.eval ⟨T,aj.D cx⟩ y)).run cx.P w=.ok () w'/\ao cx m st' T w':=by
 unfold zp at o
 split at o
 ·rename_i b off u s lg lh Y
  obtain⟨g,U,li⟩:=bj h lg
  split at o
  ·rename_i c e l lt le lr
   cases Z:Nat.ble (off+u.cells) c.length with
   |false=>rw[Z]at o;cases o
   |true=>
    rw[Z]at o
    cases o
    have lu:=Nat.le_of_ble_eq_true Z
    have O:=be lt
    obtain⟨W,lj,_,cells,lk,ll⟩:=h.box O
    have:W=g:=by rw[U]at lj;cases lj;rfl
    subst this
    have lm:b∈st.ids:=List.mem_append.2 (.inl (List.mem_map.2 ⟨_,O,rfl⟩))
    have lL:=nh ll
    have lM:∀r,s=.row r\/s=.osl r\/s=.iter r->(Act.eval ⟨T,aj.D cx⟩ y).oneCell'=true:=by
     rintro r (rfl|rfl|rfl)
     ·simp only[zp.rx]at lr
      obtain⟨c',lN⟩:=Option.isSome_iff_exists.1 lr
      rw[show Act.eval ⟨T,aj.D cx⟩ y=m r from rK h Y]
      exact row_one h (be lN)
     ·exact J2 h lr (rK h Y)
     ·exact Ko h lr (rK h Y)
    obtain⟨lO,lP,lQ⟩:=Ic lM (rK h Y) le
    have ln:off+u.cells<=cells.size:=by rw[<-Array.length_toList,lL];exact lu
    have la:=nU (P:=cx.P) lh lk lQ ln lP
    refine⟨_,by rw[li];exact la,?_⟩
    have R:Touch m w b (w.setRow W (cells.toList.take off++(Act.eval ⟨T,aj.D cx⟩ y).cells.toList++cells.toList.drop (off+u.cells)).toArray):=
     ⟨kC _ _ _,fun k lF lo=>setRow_other _ _ _ _ (fun e=>lo (by rw[U,e];rfl))⟩
    obtain⟨lp,_⟩:=k7 O h.keys (.cells (c.take off++l++c.drop (off+u.cells)) e)
    obtain⟨lb,lc⟩:=ao.ia (cx:=cx) lm R lp
    refine h.dr O R (g:=W) U ⟨_,setRow_heap _ _ _ _ _ _ lk,?_⟩
    simp only[]
    exact mE (mE (pi lb lc (jm off ll).1) (pi lb lc lO)) (pi lb lc (jm (off+u.cells) ll).2)
  ·cases o
 ·rename_i r i off ai u q z lg lh Y
  obtain⟨g,n,cap,U,li⟩:=bj h lg
  split at o
  ·rename_i c v lR lt
   split at o
   ·rename_i lS al lT Z
    split at o
    ·rename_i lU lV
     cases o
     obtain⟨am,an,lW⟩:=jG lE.1
     have O:=be lt
     obtain⟨cells,lG,ap,lX⟩:=h.rows r c O
     have lm:r∈st.ids:=List.mem_append.2 (.inr (List.mem_map.2 ⟨_,O,rfl⟩))
     have lY:=Nat.eq_of_beq_eq_true lT
     subst lY
     obtain rfl:=ah.eq_of_beq Z
     have lv:bf w (au cx m st.ids) (Act.eval ⟨T,aj.D cx⟩ y) q z:=rK h Y
     have ld:=jP lv
     have lf:=cu q ld
     have lw:(Act.eval ⟨T,aj.D cx⟩ y).cells.size=q.cells:=by rw[<-lf];simp
     rcases lG.2 with ⟨R,_⟩|⟨W,lZ,cur,R,l0,lH,lu,l3,l4,l5⟩
     ·rw[U]at R;cases R
     ·have:W=g:=by rw[U]at R;cases R;rfl
      subst this
      obtain⟨c1,c2,c3,rfl,le,lx,l6⟩:=tv lX lW
      obtain⟨d1,d2,d3,rfl,l7,ly,l8⟩:=rC (v:=⟨q,z⟩) ld c.t lx lV
      obtain⟨rest,ls⟩:∃rest,cur.toList=(c1++(d1++d2++d3)++c3)++rest:=⟨cur.toList.drop (c.xs.length*c.t.cells),by rw[<-l5,List.take_append_drop]⟩
      have lI:(c1++(d1++d2++d3)++c3).length=c.xs.length*c.t.cells:=lG.1
      have lz:i.toNat*c.t.cells+off=(c1++d1).length:=by rw[List.length_append,le,l7]
      have l9:cur.toList.length=(c1++d1).length+d2.length+(d3++c3++rest).length:=by rw[ls];simp only[List.length_append];omega
      have ln:i.toNat*c.t.cells+off+q.cells<=cur.size:=by
       rw[<-Array.length_toList,l9,lz,<-lf,ly]
       omega
      have la:=nU (P:=cx.P) lh lH lw ln (hU q ld)
      have lA:cur.toList.take (i.toNat*c.t.cells+off)=c1++d1:=by
       rw[ls,lz]
       have:c1++(d1++d2++d3)++c3++rest=(c1++d1)++(d2++d3++c3++rest):=by simp
       rw[this,List.take_left]
      have lB:cur.toList.drop (i.toNat*c.t.cells+off+q.cells)=d3++c3++rest:=by
       rw[ls,lz,<-lf,<-ly,<-List.length_append]
       have:c1++(d1++d2++d3)++c3++rest=(c1++d1++d2)++(d3++c3++rest):=by simp
       rw[this,List.drop_left]
      rw[lA,lB]at la
      refine⟨_,by rw[li];exact la,?_⟩
      have lJ:Touch m w r (w.setRow W (c1++d1++(Act.eval ⟨T,aj.D cx⟩ y).cells.toList++(d3++c3++rest)).toArray):=
       ⟨kC _ _ _,fun k lF lo=>setRow_other _ _ _ _ (fun e=>lo (by rw[U,e];rfl))⟩
      obtain⟨lp,_⟩:=pa O h.keys {c with xs:=c.xs.set i.toNat lU}
      obtain⟨lb,lc⟩:=ao.ia (cx:=cx) lm lJ lp
      have aa:=l6 _ _ l8
      have lK:c1++d1++(Act.eval ⟨T,aj.D cx⟩ y).cells.toList++(d3++c3++rest)=(c1++(d1++(Act.eval ⟨T,aj.D cx⟩ y).cells.toList++d3)++c3)++rest:=by simp
      have lq:(c1++(d1++(Act.eval ⟨T,aj.D cx⟩ y).cells.toList++d3)++c3).length=c.xs.length*c.t.cells:=by
       rw[<-lI];simp only[List.length_append,ly]
      refine h.setRow O lJ (cells:=c1++(d1++(Act.eval ⟨T,aj.D cx⟩ y).cells.toList++d3)++c3) ?_ (dD (fun _ _=>cS lb lc c.t) aa)
      refine⟨by simp only[List.length_set];exact lq,.inr ⟨W,lZ,_,by rw[R];simp only[List.length_set],l0,setRow_heap _ _ _ _ _ _ lH,by simp only[List.length_set];exact lu,l3,?_,?_⟩⟩
      ·rw[List.size_toArray,lK,List.length_append,lq,<-l4,<-Array.length_toList,ls,List.length_append,lI]
      ·simp only[List.length_set]
       rw[lK,<-lq,List.take_left]
    ·cases o
   ·cases o
  ·cases o
 ·rename_i b p u q z lg lh ab
  have Y:=ab
  obtain⟨g,U,li⟩:=bj h lg
  split at o
  ·rename_i lC lS e Z
   split at o
   ·rename_i ad lR aq ae ag
    cases o
    obtain rfl:=ah.eq_of_beq ae
    have O:=be Z
    obtain⟨W,lj,_,cells,lk,ll⟩:=h.box O
    have:W=g:=by rw[U]at lj;cases lj;rfl
    subst this
    have lm:b∈st.ids:=List.mem_append.2 (.inl (List.mem_map.2 ⟨_,O,rfl⟩))
    have lv:bf w (au cx m st.ids) (Act.eval ⟨T,aj.D cx⟩ y) q z:=rK h Y
    have ld:=jP lv
    have lf:=cu q ld
    have lw:(Act.eval ⟨T,aj.D cx⟩ y).cells.size=q.cells:=by rw[<-lf];simp
    obtain⟨c1,c2,c3,lD,le,lq,lx⟩:=Dh (z:=⟨q,z⟩) ld p lC ll ag lE
    have ln:gp p+q.cells<=cells.size:=by
     rw[<-Array.length_toList,lD];simp only[List.length_append];omega
    have la:=nU (P:=cx.P) lh lk lw ln (hU q ld)
    have lA:cells.toList.take (gp p)=c1:=by rw[lD,<-le,List.append_assoc,List.take_left]
    have lB:cells.toList.drop (gp p+q.cells)=c3:=by
     rw[lD,<-le,<-lf,<-lq,<-List.length_append,List.drop_left]
    rw[lA,lB]at la
    refine⟨_,by rw[li];exact la,?_⟩
    have R:Touch m w b (w.setRow W (c1++(Act.eval ⟨T,aj.D cx⟩ y).cells.toList++c3).toArray):=
     ⟨kC _ _ _,fun k lF lo=>setRow_other _ _ _ _ (fun e=>lo (by rw[U,e];rfl))⟩
    obtain⟨lp,_⟩:=k7 O h.keys (.aY lC ad e)
    obtain⟨lb,lc⟩:=ao.ia (cx:=cx) lm R lp
    refine h.dr O R (g:=W) U ⟨_,setRow_heap _ _ _ _ _ _ lk,?_⟩
    simp only[]
    exact cS lb lc lC lx
   ·cases o
  ·cases o
 ·cases o
def tU(P:Program)(st:af)(t:TypeId)(x k v:Operand):Option af:=
 match aW st x,P.underlying t,dL st k,dL st v with
 |some (.iter b),some (.map O R),some U,some W=>match look st.ae b,ty P O,ty P R with
  |some (.mp o q ps),some Y,some Z=>match U.as o,W.as q,Y.beq o&&Z.beq q&&o.flat&&eD P 16 O with
   |some y,some z,true=>some (st.dr b (.mp o q (cn (aR o) ps y z)))
   |_,_,_=>none
  |_,_,_=>none
 |_,_,_,_=>none
theorem PC(h:ao cx m st T w){t:TypeId}{x k v:Operand}{st':af}(o:tU cx.P st t x k v=some st'):
  ∃w',(Instr.mapUpdate t (Act.eval ⟨T,aj.D cx⟩ x) (Act.eval ⟨T,aj.D cx⟩ k) (Act.eval ⟨T,aj.D cx⟩ v)).run cx.P w=.ok () w'/\ao cx m st' T w':=by
 unfold tU at o
 split at o
 ·rename_i b lA lB lC lD ld le lf lg
  split at o
  ·rename_i lE lF ps R lh li lj lG
   split at o
   ·rename_i y z lk ll U
    cases o
    simp only[Bool.and_eq_true]at U
    obtain⟨⟨⟨lm,ln⟩,lo⟩,lp⟩:=U
    obtain rfl:=ah.eq_of_beq lm
    obtain rfl:=ah.eq_of_beq ln
    have lq:=ak.dx lk
    subst lq
    have lr:=ak.dx ll
    subst lr
    have O:=be li
    obtain⟨g,q,_,es,lH,W,ls,lt,lu⟩:=h.box O
    have q:m b=.map (some g):=q
    have lv:Act.eval ⟨T,aj.D cx⟩ x=.map (some g):=by have:Act.eval ⟨T,aj.D cx⟩ x=m b:=bj h ld;rw[this,q]
    obtain⟨Y,Z,lw,lx,cy,dY⟩:=O7 (d:=jn) (d':=16) le lj lp (by decide) lo (dt h lf) (dt h lg) W ls lt lu
    have la:Touch m w b {w with heap:=w.heap.setIfInBounds g (.map Y Z)}:=
     ⟨⟨rfl,rfl,rfl,by simp,fun _=>Nat.le_refl _⟩,fun k _ ly=>by
      show(w.heap.setIfInBounds g _)[k]? =_
      rw[Array.getElem?_setIfInBounds_ne]
      intro e
      exact ly (by rw[q,e];rfl)⟩
    rw[lv]
    refine⟨_,lw,h.dr O la (g:=g) q ?_⟩
    have lz:b∈st.ids:=List.mem_append.2 (.inl (List.mem_map.2 ⟨_,O,rfl⟩))
    obtain⟨lb,lc⟩:=ao.ia (cx:=cx) lz la (ids:=(st.dr b (.mp R lh (cn (aR R) ps y z))).ids) (k7 O h.keys _).1
    refine⟨Y,Z,?_,lx,cy,io (fun _ _ h=>dC lb lc h) (fun _ _ h=>dC lb lc h) dY⟩
    show(w.heap.setIfInBounds g _)[g]? =_
    rw[Array.getElem?_setIfInBounds_self_of_lt (gB W)]
   ·cases o
  ·cases o
 ·cases o
end Go.Ev
namespace Go.Ev
open Go Go.RowKit
variable [cm]
variable {P:Program} {w:World}
theorem N3(w:World)(aa:Obj):Same w (w.drew.alloc aa):=⟨rfl,rfl,rfl,by simp,fun _=>Nat.le_succ _⟩
theorem iK(w:World)(aa:Obj):Ext w (w.alloc aa):={os:=rfl,tape:=rfl,output:=rfl,size:=by simp,drawn:=by first|exact fun _=>Nat.le_refl _|exact fun _=>Nat.le_succ _,block:=fun b o=>Below.heap_alloc w aa b o}
theorem Mz{e size m n:Nat}{z:Array Value}{xs o:List Value}(q:xs.length=n*size)(O:o.length=m*size)(U:z.size=size)(W:n+m<=maxLen)(old:Nat):
  (w.drew.alloc (.cells (xs.toArray++o.toArray++Builtin.zeroCells z (grownCap w (n+m) old e-(n+m))) e)).ownsRow 0 e size (.slice (some ⟨w.heap.size,0,none⟩) (n+m) (grownCap w (n+m) old e)) (n+m) (xs++o):=by
 have Y:=grownCap_ge w (n+m) old e
 have Z:grownCap w (n+m) old e<=maxLen:=grownCap_le_maxLen w (n+m) old e W
 have R:(xs++o).length=(n+m)*size:=by rw[List.length_append,q,O,Nat.add_mul]
 refine⟨R,.inr ⟨w.heap.size,_,_,rfl,Nat.zero_le _,heap_alloc_new w.drew _,Y,Z,?_,?_⟩⟩
 ·simp only[Array.size_append,List.size_toArray,size_zeroCells,U,q,O,<-Nat.add_mul]
  congr 1
  omega
 ·simp only[Array.toList_append,List.append_assoc]
  rw[<-List.append_assoc,<-R]
  exact List.take_left
theorem JI(t u ty e:TypeId)(i:TypeInfo)(z:Value)(W:P.underlying t=some (.slice e))(hu:(∃U,P.underlying u=some (.slice U))\/P.underlying u=some .string)(Y:P.info? e=some i)(lj:i.zero=some z)
  (lk:z.cells.size=i.size)(x:Value)(m:Nat)(o:List Value)(Z:Builtin.lenOf x=pure m)
  (ll:∀w',(∀b,b<w.heap.size->w'.heap[b]? =w.heap[b]?)->(Builtin.firstCells i.size m x).run P w'=.ok o.toArray w')
  (O:o.length=m*i.size)(lr:∀u∈o,u.oneCell'=true)(v:Value)(n:Nat)(xs:List Value)(le:w.ownsRow 0 e i.size v n xs)
  (lf:n+m<=maxLen)(lm:(n+m)*i.bytes<=140737488355328):
  ∃v' w',(Builtin.append_ #[t,u] ty #[v,x]).run P w=.ok v' w'/\w'.ownsRow 0 e i.size v' (n+m) (xs++o)/\Same w w'/\
   (∀b,b<w.heap.size->aY v≠some b->w'.heap[b]? =w.heap[b]?)/\(∀g,aY v'=some g->aY v=some g\/(w.heap.size<=g/\g<w'.heap.size)):=by
 have lD:n+m<=9223372036854775807:=by simp only[maxLen]at lf;omega
 have ln:=ll w (fun _ _=>rfl)
 have lo:=ll w.drew (fun _ _=>rfl)
 have R:=le.1
 rcases le.2 with ⟨rfl,rfl⟩|⟨g,cap,cur,rfl,_,q,lE,ls,lt,lu⟩
 ·have lv:xs=[]:=List.eq_nil_of_length_eq_zero (by simpa using R)
  subst lv
  by_cases lp:m=0
  ·subst lp
   have lw:o=[]:=List.eq_nil_of_length_eq_zero (by simpa using O)
   subst lw
   refine⟨.slice none 0 0,w,?_,World.ownsRow_nil w 0 e i.size,⟨rfl,rfl,rfl,Nat.le_refl _,fun _=>Nat.le_refl _⟩,fun _ _ _=>rfl,fun g q=>by simp[aY]at q⟩
   rcases hu with ⟨U,hu⟩|hu<;>simp[Builtin.append_,run_underlying W,run_underlying hu,sizeOf,typeInfo,Y,Z,ln]
  ·have lx:0<m:=by omega
   have lg:¬(9223372036854775807<(m:Int)):=by omega
   have lh:=growslice_fits (old:=0) (need:=m) (bytes:=i.bytes) lx (by simpa using lm)
   have li:¬(281474976710656<Builtin.nextslicecap m 0*i.bytes):=by omega
   have la:=Mz (w:=w) (e:=e) R O lk lf 0
   simp only[Nat.zero_add]at la
   refine⟨.slice (some ⟨w.heap.size,0,none⟩) m (grownCap w m 0 e),w.drew.alloc (.cells (([]:List Value).toArray++o.toArray++Builtin.zeroCells z.cells (grownCap w m 0 e-m)) e),?_,by simpa using la,N3 _ _,fun b lb _=>Below.heap_alloc w.drew _ b lb,fun g q=>.inr ?_⟩
   ·rcases hu with ⟨U,hu⟩|hu<;>
     simp[Builtin.append_,run_underlying W,run_underlying hu,sizeOf,typeInfo,zeroValue,Y,lj,Z,lp,lg,li,Question.forced,run_firstCells_none,lo,newRow,grownCap]
   ·simp[aY]at q
    subst q
    exact⟨Nat.le_refl _,by simp⟩
 ·by_cases lc:n+m<=cap
  ·have lh:n*i.size+o.length<=cur.size:=by rw[O,lt,<-Nat.add_mul];exact Nat.mul_le_mul_right _ lc
   have lq:=run_storeCells_at P g (n*i.size) e o 0 cur w q (by simpa using lh) lr
   simp only[Nat.add_zero]at lq
   refine⟨.slice (some ⟨g,0,none⟩) (n+m) cap,_,?_,⟨by rw[List.length_append,R,O,Nat.add_mul],.inr ⟨g,cap,_,rfl,Nat.zero_le _,setRow_heap w g cur (cur.toList.take (n*i.size)++o++cur.toList.drop (n*i.size+o.length)).toArray e (0,0) q,lc,ls,?_,?_⟩⟩,
    kC _ _ _,fun b lb ly=>setRow_other _ _ _ _ (fun e=>ly (by rw[e];rfl)),fun lz ld=>.inl ld⟩
   ·rcases hu with ⟨U,hu⟩|hu<;>
     simp[Builtin.append_,run_underlying W,run_underlying hu,sizeOf,typeInfo,Y,Z,lc,ln,Addr.add_lit,lq]
   ·simp only[List.size_toArray,List.length_append,List.length_take,List.length_drop,Array.length_toList]
    omega
   ·rw[lu]
    have lA:(xs++o).length=(n+m)*i.size:=by rw[List.length_append,R,O,Nat.add_mul]
    rw[<-lA]
    exact List.take_left
  ·have lB:∀j u,xs[j]? =some u->w.cell? ((⟨g,0,none⟩:Addr).add j)=some u:=le.cells (g:=g) rfl
   have lh:=growslice_fits (old:=cap) (need:=n+m) (bytes:=i.bytes) (by omega) lm
   have lg:¬(9223372036854775807<(n:Int)+(m:Int)):=by omega
   have li:¬(281474976710656<Builtin.nextslicecap (n+m) cap*i.bytes):=by omega
   have lC:=run_firstCells_some (P:=P) w.drew i.size n ⟨g,0,none⟩ n cap xs R (by simpa using lB)
   have la:=Mz (w:=w) (e:=e) R O lk lf cap
   refine⟨.slice (some ⟨w.heap.size,0,none⟩) (n+m) (grownCap w (n+m) cap e),_,?_,la,N3 _ _,fun b lb _=>Below.heap_alloc w.drew _ b lb,fun lz ld=>.inr ?_⟩
   ·rcases hu with ⟨U,hu⟩|hu<;>
     simp[Builtin.append_,run_underlying W,run_underlying hu,sizeOf,typeInfo,zeroValue,Y,lj,Z,lc,lg,li,Question.forced,lC,lo,newRow,grownCap]<;>
     rw[<-List.append_toArray,Array.append_assoc]
   ·simp[aY]at ld
    subst ld
    exact⟨Nat.le_refl _,by simp⟩
end Go.Ev
namespace Go.Ev
open Go Go.RowKit
variable [cm]
structure Ba where
 aU:ap
 st:af
 orc:List ak
 ob:List Prop
def wJ(P:Program)(t:TypeId):Option (TypeId×ah):=
 match P.info? t with
 |some i=>match i.zero with
  |some (.slice none 0 0)=>ID P t
  |_=>none
 |none=>none
where
 ID (P:Program) (t:TypeId):Option (TypeId×ah):=
  match P.underlying t with
  |some (.slice e)=>match ty P e with
   |some u=>bif Nat.beq u.cells 0 then none else some (e,u)
   |none=>none
  |_=>none
def uu(P:Program)(t:TypeId):Option (Nat×ah):=
 match P.info? t,r5 P t with
 |some i,some (n,.int k)=>match i.zero with
  |some (.agg cs)=>match wi k n cs.toList&&Nat.ble n maxLen with
   |true=>some (n,.int k)
   |false=>none
  |_=>none
 |_,_=>none
where
 wi (k:IntKind):Nat->List Value->Bool
  |0,[]=>true
  |n+1,.int k' x::l=>gR k k'&&(x==0&&wi k n l)
  |_,_=>false
def Cm(P:Program)(t:TypeId):Option TypeId:=
 match P.info? t,P.underlying t with
 |some i,some (.struct an)=>match i.zero,an.toList with
  |some (.agg cs),[_,f1]=>match cs.toList,wJ.ID P f1.type with
   |[.pointer none,.slice none 0 0],some (e,.int .u8)=>some e
   |_,_=>none
  |_,_=>none
 |_,_=>none
def rx(st:af):ap->Bool
 |.row r=>(look st.rw r).isSome
 |.osl b=>wy (look st.ae b)
 |.iter b=>yO (look st.ae b)
 |_=>true
def pn(st:af)(u:ah):Nat->List (Nat×Operand)->Option (List u.el)
 |_,[]=>some []
 |k,(i,aa)::r=>match Nat.beq i k,CA st aa with
  |true,some v=>match v.as u,pn st u (k+1) r with
   |some x,some xs=>some (x::xs)
   |_,_=>none
  |_,_=>none
def ew(P:Program)(t:TypeId):Option (TypeId×ah):=
 match P.underlying t with
 |some (.slice e)=>match ty P e with
  |some u=>bif Nat.beq u.cells 0 then none else some (e,u)
  |none=>none
 |_=>none
def sb(P:Program)(st:af)(d:Nat)(t:TypeId):Operand->Option (Nat×cV)
 |.const (.slice none 0 0)=>match ew P t with
  |some (e,u)=>some (d,⟨e,u,[]⟩)
  |none=>none
 |x=>match aW st x with
  |some (.row r)=>match look st.rw r with
   |some c=>some (r,c)
   |none=>none
  |_=>none
def dM(s:List UInt8):List Int:=s.map fun b=>(b.toNat:Int)
def na(P:Program)(st:af)(u:ah)(t:TypeId)(x:Operand):Option (List u.el):=
 match aW st x with
 |some (.row r)=>match P.underlying t with
  |some (.slice _)=>match look st.rw r with
   |some c=>ak.as ⟨.ab c.t,c.xs⟩ (.ab u)
   |none=>none
  |_=>none
 |some (.val (.ab o) xs)=>match P.underlying t with
  |some (.slice _)=>ak.as ⟨.ab o,xs⟩ (.ab u)
  |_=>none
 |some (.val .str s)=>match P.underlying t with
  |some .string=>ak.as ⟨.ab (.int .u8),dM s⟩ (.ab u)
  |_=>none
 |_=>none
def om(P:Program)(e:TypeId):Bool:=
 match P.info? e with
 |some i=>Nat.ble i.bytes 65536
 |none=>false
def gJ(s:List UInt8)(p:Nat):Int:=((Utf8.decode (bytesOf s) p).1:Int)
def jd(s:List UInt8)(p:Nat):Nat:=(Utf8.decode (bytesOf s) p).2
def Gg(st:af):Option Operand->Bool
 |none=>true
 |some x=>(eL (aW st x)).isSome
def ml(P:Program)(st:af)(aa:Oper)(d:Nat)(orc:List ak):Option Ba:=
 match aa.op with
 |.move (.const (.slice none 0 0))=>match ew P aa.type with
  |some (e,u)=>some ⟨.row d,st.dJ d ⟨e,u,[]⟩,orc,[]⟩
  |none=>none
 |.assign (.const (.slice none 0 0))=>match ew P aa.type with
  |some (e,u)=>some ⟨.row d,st.dJ d ⟨e,u,[]⟩,orc,[]⟩
  |none=>none
 |.alloc t=>match uu P t with
  |some (n,u)=>some ⟨.ep d 0 0 u.cells,st.dJ d ⟨t,u,List.replicate n (cl u)⟩,orc,[]⟩
  |none=>match wJ P t with
  |some (e,u)=>bif Nat.blt (d+1000000) eM then some ⟨.ptr d 0,(st.dJ (d+1000000) ⟨e,u,[]⟩).dy d (.cells ([ap.row (d+1000000)].map (ap.dE d)) t),orc,[]⟩else none
  |none=>match Cm P t with
   |some e=>bif Nat.blt (d+1000000) eM then some ⟨.ptr d 0,(st.dJ (d+1000000) ⟨e,.int .u8,[]⟩).dy d (.cells [.fC d,.row (d+1000000)] t),orc,[]⟩else none
   |none=>match zeroOf P t with
   |some u=>bif w7 u then some ⟨.dP d [],st.dy d (.aY u (cl u) t),orc,[]⟩else some ⟨.ptr d 0,st.dy d (.cells (leaves u (cl u)) t),orc,[]⟩
   |none=>none
 |.box t x=>match ty P t,aW st x with
  |some u,some s=>match sA u s,rx st s with
   |some l,true=>some ⟨.ptr d 0,st.dy d (.cells (l.map (ap.dE d)) t),orc,[]⟩
   |_,_=>none
  |_,_=>none
 |.buildSlice t n parts=>match ew P t with
  |some (e,u)=>match pn st u 0 parts.toList with
   |some xs=>match Nat.beq xs.length n,Nat.ble (n*u.cells) 16777216,zeroOf P e with
    |true,true,some _=>some ⟨.row d,st.dJ d ⟨e,u,xs⟩,orc,[]⟩
    |_,_,_=>none
   |none=>none
  |none=>none
 |.build t parts=>match ty P t,P.underlying t,P.info? t with
  |some (.arr n u),some (.array _ e),some i=>match pn st u 0 parts.toList,ty P e,i.zero with
   |some xs,some o,some z=>match Nat.beq xs.length n&&u.beq o&&Nat.beq z.cells.size (n*u.cells)with
    |true=>some ⟨.val (.arr n u) xs,st,orc,[]⟩
    |false=>none
   |_,_,_=>none
  |_,_,_=>none
 |.makeSlice t l c=>match ew P t,eL (aW st l),eL (aW st c)with
  |some (e,u),some n,some k=>match om P e,zeroOf P e with
   |true,some o=>bif u.beq o then some ⟨.row d,st.dJ d ⟨e,u,List.replicate n.toNat (cl u)⟩,orc,[0<=n/\n<=k/\k<=(bF:Int)]⟩else none
   |_,_=>none
  |_,_,_=>none
 |.range t x=>match dL st x,P.underlying t with
  |some ⟨.str,s⟩,some .string=>some ⟨.iter d,st.dy d (.iter s 0),orc,[]⟩
  |some ⟨.map k v,y⟩,some (.map _ _)=>some ⟨.iter d,st.dy d (.cM k v ((show Option (List (k.el×v.el))from y).getD []) []),orc,[]⟩
  |_,_=>none
 |.makeMap t r=>match P.underlying t with
  |some (.map O R)=>match ty P O,ty P R with
   |some k,some v=>match k.flat&&eD P 16 O&&Gg st r with
    |true=>some ⟨.iter d,st.dy d (.mp k v []),orc,[]⟩
    |false=>none
   |_,_=>none
  |_=>none
 |.next x false=>match aW st x with
  |some (.iter b)=>match look st.ae b with
   |some (.cM _ _ left _)=>some ⟨.dW [⟨.bool,false⟩],st,orc,[left=[]]⟩
   |_=>none
  |_=>none
 |.entry x=>match aW st x with
  |some (.iter b)=>match look st.ae b with
   |some (.cM k v _ [p])=>some ⟨.dW [⟨k,p.1⟩,⟨v,p.2⟩],st,orc,[]⟩
   |_=>none
  |_=>none
 |.next x true=>match aW st x,orc with
  |some (.iter b),⟨.bool,U⟩::orc'=>match look st.ae b with
   |some (.iter s p)=>match U with
    |true=>some ⟨.dW [⟨.bool,true⟩,⟨.int .i64,(p:Int)⟩,⟨.int .i32,gJ s p⟩],st.dr b (.iter s (p+jd s p)),orc',[p<s.length]⟩
    |false=>some ⟨.dW [⟨.bool,false⟩],st,orc',[s.length<=p]⟩
   |_=>none
  |_,_=>none
 |.convert src W x=>match dL st x,P.underlying src,ew P W with
  |some ⟨.str,s⟩,some .string,some (e,.int .i32)=>some ⟨.row d,st.dJ d ⟨e,.int .i32,eJ s⟩,orc,[]⟩
  |some ⟨.str,s⟩,some .string,some (_,.int .u8)=>some ⟨.val (.ab (.int .u8)) (dM s),st,orc,[]⟩
  |_,_,_=>none
 |.makeFunc (.func f) first fc=>match first.toList,ml.qb st fc.toList with
  |[],some bs=>some ⟨.clos f bs,st,orc,[]⟩
  |[x],some []=>match aW st x with
   |some (.ptr b 0)=>some ⟨.ck f b,st,orc,[]⟩
   |_=>none
  |_,_=>none
 |.slice t x none (some h) none=>match aW st x,ew P t,eL (aW st h)with
  |some (.row r),some (e,u),some n=>match look st.rw r with
   |some c=>match Nat.beq c.e e,c.t.beq u,Nat.blt r eM with
    |true,true,true=>some ⟨.row r,st.dJ r ⟨c.e,c.t,c.xs.take n.toNat⟩,orc,[0<=n/\n<=(c.xs.length:Int)]⟩
    |_,_,_=>none
   |none=>none
  |_,_,_=>none
 |.slice t x (some l) none none=>match aW st x,eL (aW st l),r5 P t,orc with
  |some (.ep r i0 Y Z),some n,some (len,u),v::orc'=>match look st.rw r with
   |some c=>match c.t.beq u&&(i0==0&&(Nat.beq Y 0&&Nat.beq Z c.t.cells)),v.as (.ab c.t)with
    |true,some q=>some ⟨.val (.ab c.t) q,st.freeze r c,orc',[dK c.xs n (c.xs.length:Int)=some q,c.xs.length=len]⟩
    |_,_=>none
   |none=>none
  |_,_,_,_=>none
 |.call c=>match c with
  |{callee:=.builtin .append,args:=args,argTypes:=la}=>match args.toList,la.toList with
   |[s,x],[t,lb]=>match ew P t,sb P st d t s with
    |some (e,u),some (r,c)=>match Nat.beq c.e e,c.t.beq u,om P e,zeroOf P e,na P st c.t lb x with
     |true,true,true,some o,some q=>bif u.beq o&&Nat.blt r eM then some ⟨.row r,st.dJ r ⟨c.e,c.t,c.xs++q⟩,orc,[c.xs.length+q.length<=bF]⟩else none
     |_,_,_,_,_=>none
    |_,_=>none
   |_,_=>none
  |_=>none
 |_=>none
where
 qb (st:af):List Operand->Option (List Nat)
  |[]=>some []
  |x::r=>match aW st x,qb st r with
   |some (.ptr b 0),some bs=>some (b::bs)
   |_,_=>none
variable {cx:bJ} {m:Nat->Value} {st:af} {T:Array Value} {w w':World}
variable [aj cx]
theorem jr{P:Program}{t:TypeId}{e:TypeId}{u:ah}(h:ew P t=some (e,u)):P.underlying t=some (.slice e)/\ty P e=some u/\0<u.cells:=by
 unfold ew at h
 split at h
 ·rename_i U q
  split at h
  ·rename_i O R
   cases o:Nat.beq O.cells 0 with
   |true=>rw[o]at h;cases h
   |false=>rw[o]at h;cases h;exact⟨q,R,Nat.pos_of_ne_zero (beq_false o)⟩
  ·cases h
 ·cases h
def fb(cx:bJ)[aj cx](T:Array Value)(w:World)(aa:Oper)(r:Ba):Prop:=
 ∃v w' aA,(execOp (Act.eval ⟨T,aj.D cx⟩) aa).run cx.P w=.ok (.value v) w'/\ao cx aA r.st T w'/\aX w' (au cx aA r.st.ids) aA v r.aU
theorem cF{aa:Oper}{s:Sem Value}{v:Value}(o:execOp (Act.eval ⟨T,aj.D cx⟩) aa=(do pure (Next.value (<-s))))(q:s.run cx.P w=.ok v w'):
  (execOp (Act.eval ⟨T,aj.D cx⟩) aa).run cx.P w=.ok (.value v) w':=by
 rw[o,Sem.run_bind,q]
 rfl
theorem qE(h:ao cx m st T w):cx.w0.heap.size<=w.heap.size:=h.frame.size
theorem sy(h:ao cx m st T w){d:Nat}(ai:d<cx.n){cells:Array Value}{e:Nat}{l:List ap}(O:cJ w (au cx m st.ids) m cells.toList l):
  ao cx (bH m d (.pointer (some ⟨w.heap.size,0,none⟩))) (st.dy d (.cells (l.map (ap.dE d)) e)) T (w.alloc (.cells cells e)):=by
 have q:dG cx m st w d (fK w.heap.size (.cells (l.map (ap.dE d)) e)) (w.alloc (.cells cells e)):=
  dG.fresh h d _ (iK _ _) fun g R=>by cases mz R;exact⟨Nat.le_refl _,by simp⟩
 have U:∀i,i∈(st.dy d (.cells (l.map (ap.dE d)) e)).ids->i=d\/i∈st.ids:=by
  intro i o
  rw[xA]at o
  rcases List.mem_cons.1 o with o|o
  ·exact .inl o
  ·exact .inr ((nY st d i).1 o).1
 refine h.dy ai q (.inl (qE h)) ⟨cells,heap_alloc_new w _,?_⟩
 exact sW (fun v s W=>DF d _ (fG q.keeps (q.mut U) W:aX _ (au cx _ _) m v s)) O
theorem xh{r:Nat}{c:cV}:∀i,i∈(st.dJ r c).ids->i=r\/i∈st.ids:=by
 intro i o
 rcases(Ku st r c i).1 o with o|o
 ·exact .inl o
 ·exact .inr ((nY st r i).1 o).1
theorem SD(d:Nat):∀(t:ah) (x:t.el),(leaves t x).map (ap.dE d)=leaves t x:=by
 intro t
 induction t with
 |pair a b o q=>intro x;simp only[leaves,List.map_append,o,q]
 |arr n t O=>
  intro x
  show((x:List t.el).flatMap (leaves t)).map (ap.dE d)=(x:List t.el).flatMap (leaves t)
  induction(x:List t.el)with
  |nil=>rfl
  |cons y U R=>rw[List.flatMap_cons,List.map_append,O,R]
 |_=>intro x;rfl
theorem WP(h:ao cx m st T w){aa:Oper}{d:Nat}(ai:d<cx.n){t:TypeId}{u:ah}(o:aa.op=.alloc t)(q:zeroOf cx.P t=some u){orc:List ak}:
  fb cx T w aa ⟨.ptr d 0,st.dy d (.cells (leaves u (cl u)) t),orc,[]⟩:=by
 obtain⟨i,z,W,O,Y,R,U⟩:=kq q
 have:=sy h ai (cells:=z.cells) (e:=t) (xZ u (U w (au cx m st.ids)))
 rw[SD]at this
 refine⟨_,_,_,cF (s:=Instr.alloc t true (.tuple #[])) (by simp only[execOp,o]) ?_,this,w.heap.size,ct _ _ _,rfl⟩
 simp[Instr.alloc,zeroValue,typeInfo,O,R,newVar,newRow]
theorem ab5(h:ao cx m st T w){aa:Oper}{d:Nat}(ai:d<cx.n){t:TypeId}{u:ah}(o:aa.op=.alloc t)(q:zeroOf cx.P t=some u){orc:List ak}:
  fb cx T w aa ⟨.dP d [],st.dy d (.aY u (cl u) t),orc,[]⟩:=by
 obtain⟨i,z,Z,O,la,R,U⟩:=kq q
 have W:dG cx m st w d (fK w.heap.size (.aY u (cl u) t)) (w.alloc (.cells z.cells t)):=
  dG.fresh h d _ (iK _ _) fun g Y=>by cases mz Y;exact⟨Nat.le_refl _,by simp⟩
 refine⟨.pointer (some ⟨w.heap.size,0,none⟩),w.alloc (.cells z.cells t),_,cF (s:=Instr.alloc t true (.tuple #[])) (by simp only[execOp,o]) ?_,
  h.dy ai W (.inl h.frame.size) ⟨z.cells,heap_alloc_new w _,U _ _⟩,w.heap.size,by rw[ct];rfl,rfl⟩
 simp[Instr.alloc,zeroValue,typeInfo,O,R,newVar,newRow,Value.cells]
theorem Ru(h:ao cx m st T w){aa:Oper}{d:Nat}(ai:d<cx.n){t:TypeId}{u:ah}{x:Operand}{s:ap}{l:List ap}(O:aa.op=.box t x)(o:aW st x=some s)(R:sA u s=some l)(q:rx st s=true){orc:List ak}:
  fb cx T w aa ⟨.ptr d 0,st.dy d (.cells (l.map (ap.dE d)) t),orc,[]⟩:=by
 have U:∀r,s=.row r\/s=.osl r\/s=.iter r->(Act.eval ⟨T,aj.D cx⟩ x).oneCell'=true:=by
  rintro r (rfl|rfl|rfl)
  ·simp only[rx]at q
   obtain⟨c',W⟩:=Option.isSome_iff_exists.1 q
   rw[show Act.eval ⟨T,aj.D cx⟩ x=m r from bj h o]
   exact row_one h (be W)
  ·exact J2 h q (bj h o)
  ·exact Ko h q (bj h o)
 obtain⟨Y,Z,la⟩:=Ic U (bj h o) R
 have:=sy h ai (cells:=(Act.eval ⟨T,aj.D cx⟩ x).cells) (e:=t) Y
 refine⟨_,_,_,cF (s:=Instr.box t (Act.eval ⟨T,aj.D cx⟩ x)) (by simp only[execOp,O]) ?_,this,w.heap.size,ct _ _ _,rfl⟩
 simp[Instr.box,newVar,newRow]
theorem we(h:ao cx m st T w)(d:Nat)(U:d<cx.n\/d<eM){cur:Array Value}{cells:List Value}{e cap:Nat}{u:ah}{xs:List u.el}(w':World)(W:Ext w w')(O:w'.heap[w.heap.size]? =some (.cells cur e (0,0)))
  (Y:xs.length<=cap)(Z:cap<=maxLen)(la:cur.size=cap*u.cells)(lb:cur.toList.take (xs.length*u.cells)=cells)(R:bT (aL w (au cx m st.ids) u) cells xs):
  ao cx (bH m d (.slice (some ⟨w.heap.size,0,none⟩) xs.length cap)) (st.dJ d ⟨e,u,xs⟩) T w':=by
 have o:dG cx m st w d (.slice (some ⟨w.heap.size,0,none⟩) xs.length cap) w':=
  dG.fresh h d _ W fun g q=>by cases q;exact⟨Nat.le_refl _,Ad O⟩
 have lc:=jC (fun _ _=>cu u) _ _ R
 refine h.dJ U o (fun g q=>by cases q;exact .inl (qE h)) ⟨lc,.inr ⟨w.heap.size,cap,cur,rfl,Nat.zero_le _,O,Y,Z,la,lb⟩⟩ (dD (fun _ _=>cS o.keeps (o.mut xh) u) R)
theorem zc(h:ao cx m st T w)(d e:Nat)(q:d<cx.n\/d<eM)(u:ah):ao cx (bH m d (.slice none 0 0)) (st.dJ d ⟨e,u,[]⟩) T w:=by
 have O:dG cx m st w d (.slice none 0 0) w:=dG.fresh h d _ (Ext.refl w) fun g o=>by cases o
 exact h.dJ q O (fun g o=>by cases o) (World.ownsRow_nil w 0 e u.cells) rfl
theorem V4(h:ao cx m st T w){aa:Oper}{d:Nat}(ai:d<cx.n)(q:d+1000000<eM){t e:TypeId}{u:ah}(O:aa.op=.alloc t)(o:wJ cx.P t=some (e,u)){orc:List ak}:
  fb cx T w aa ⟨.ptr d 0,(st.dJ (d+1000000) ⟨e,u,[]⟩).dy d (.cells ([ap.row (d+1000000)].map (ap.dE d)) t),orc,[]⟩:=by
 unfold wJ at o
 split at o
 ·rename_i i R
  split at o
  ·rename_i U
   have W:=zc h (d+1000000) e (.inr q) u
   have:=sy W ai (cells:=#[.slice none 0 0]) (e:=t) (l:=[ap.row (d+1000000)]) ⟨(ct _ _ _).symm,trivial⟩
   refine⟨_,_,_,cF (s:=Instr.alloc t true (.tuple #[])) (by simp only[execOp,O]) ?_,this,w.heap.size,ct _ _ _,rfl⟩
   simp[Instr.alloc,zeroValue,typeInfo,R,U,newVar,newRow,Value.cells]
  ·cases o
 ·cases o
theorem aad(h:ao cx m st T w){aa:Oper}{d:Nat}(ai:d<cx.n)(O:d+1000000<eM){t e:TypeId}(R:aa.op=.alloc t)(o:Cm cx.P t=some e){orc:List ak}:
  fb cx T w aa ⟨.ptr d 0,(st.dJ (d+1000000) ⟨e,.int .u8,[]⟩).dy d (.cells [.fC d,.row (d+1000000)] t),orc,[]⟩:=by
 unfold Cm at o
 split at o
 ·rename_i i an U lc
  split at o
  ·rename_i cs f0 f1 W ld
   split at o
   ·rename_i le Y lf
    cases o
    have Z:cs=#[.pointer none,.slice none 0 0]:=Array.ext' (by rw[Y])
    have q:=zc h (d+1000000) e (.inr O) (.int .u8)
    have la:dG cx (bH m (d+1000000) (.slice none 0 0)) (st.dJ (d+1000000) ⟨e,.int .u8,[]⟩) w d (fK w.heap.size (.cells [.fC d,.row (d+1000000)] t)) (w.alloc (.cells #[.pointer none,.slice none 0 0] t)):=
     dG.fresh q d _ (iK _ _) fun g lb=>by cases mz lb;exact⟨Nat.le_refl _,by simp⟩
    have:=q.dy ai la (.inl (qE q)) ⟨#[.pointer none,.slice none 0 0],heap_alloc_new w _,.inl rfl,by
     show _=bH _ d _ (d+1000000)
     rw[dk _ _ (by omega),ct],trivial⟩
    refine⟨_,_,_,cF (s:=Instr.alloc t true (.tuple #[])) (by simp only[execOp,R]) ?_,this,w.heap.size,ct _ _ _,rfl⟩
    simp[Instr.alloc,zeroValue,typeInfo,U,W,newVar,newRow,Value.cells,Z]
   ·cases o
  ·cases o
 ·cases o
theorem Px{k:IntKind}:∀{n:Nat} {l:List Value},uu.wi k n l=true->l=List.replicate n (.int k 0)
 |0,[],_=>rfl
 |0,_::_,h=>by cases h
 |n+1,[],h=>by cases h
 |n+1,v::l,h=>by
  cases v<;>simp only[uu.wi,Bool.false_eq_true]at h
  simp only[Bool.and_eq_true,beq_iff_eq]at h
  obtain⟨o,q,O⟩:=h
  rw[<-nE o,q,Px O]
  rfl
theorem M3{M:Nat->Prop}{k:IntKind}:∀(n:Nat),bT (aL w M (.int k)) (List.replicate n (.int k 0)) (List.replicate n (cl (.int k)))
 |0=>rfl
 |n+1=>⟨[.int k 0],List.replicate n (.int k 0),rfl,rfl,M3 n⟩
theorem Y7(h:ao cx m st T w){aa:Oper}{d:Nat}(ai:d<cx.n){t:TypeId}{n:Nat}{u:ah}(U:aa.op=.alloc t)(o:uu cx.P t=some (n,u)){orc:List ak}:
  fb cx T w aa ⟨.ep d 0 0 u.cells,st.dJ d ⟨t,u,List.replicate n (cl u)⟩,orc,[]⟩:=by
 unfold uu at o
 split at o
 ·rename_i i la k W lb
  split at o
  ·rename_i cs Y
   split at o
   ·rename_i q
    cases o
    rw[Bool.and_eq_true]at q
    have O:=Px q.1
    have Z:=Nat.le_of_ble_eq_true q.2
    have R:cs.size=n:=by rw[<-Array.length_toList,O,List.length_replicate]
    have:=we h d (.inl ai) (xs:=List.replicate n (cl (.int k))) (cells:=cs.toList) (cur:=cs) (u:=.int k) (e:=t) (cap:=n) (w.alloc (.cells cs t)) (iK _ _) (heap_alloc_new w _) (by rw[List.length_replicate];exact Nat.le_refl _) Z (by rw[R];simp[ah.cells])
     (by rw[List.length_replicate];simp only[ah.cells,Nat.mul_one];rw[List.take_of_length_le (by rw[Array.length_toList,R];exact Nat.le_refl _)]) (by rw[O];exact M3 n)
    rw[List.length_replicate]at this
    refine⟨.pointer (some ⟨w.heap.size,0,none⟩),_,_,cF (s:=Instr.alloc t true (.tuple #[])) (by simp only[execOp,U]) ?_,this,w.heap.size,_,_,ct _ _ _,by simp⟩
    simp[Instr.alloc,zeroValue,typeInfo,W,Y,newVar,newRow,Value.cells]
   ·cases o
  ·cases o
 ·cases o
theorem N5(h:ao cx m st T w){aa:Oper}{d e:Nat}(ai:d<cx.n){u:ah}(o:aa.op=.move (.const (.slice none 0 0))\/aa.op=.assign (.const (.slice none 0 0))){orc:List ak}:
  fb cx T w aa ⟨.row d,st.dJ d ⟨e,u,[]⟩,orc,[]⟩:=by
 refine⟨.slice none 0 0,w,_,?_,zc h d e (.inl ai) u,(ct _ _ _).symm⟩
 rcases o with o|o<;>simp[execOp,o,Act.eval]
theorem Wt(h:ao cx m st T w){aa:Oper}{d:Nat}(ai:d<cx.n){t:TypeId}{x:Operand}{s:List UInt8}(o:aa.op=.range t x)(q:dL st x=some ⟨.str,s⟩)(O:cx.P.underlying t=some .string){orc:List ak}:
  fb cx T w aa ⟨.iter d,st.dy d (.iter s 0),orc,[]⟩:=by
 obtain⟨R,_⟩:=eW.1 (dt h q)
 have U:dG cx m st w d (fK w.heap.size (.iter s 0)) (w.iter (bytesOf s) 0):=
  dG.fresh h d _ (iK _ _) fun g W=>by cases mz W;exact⟨Nat.le_refl _,by simp[World.iter]⟩
 refine⟨.pointer (some ⟨w.heap.size,0,none⟩),w.iter (bytesOf s) 0,_,cF (s:=Instr.range t (.string (bytesOf s))) (by simp only[execOp,o,R];rfl) (run_range_string _ _ _ O),
  h.dy ai U (.inl (qE h)) (World.iter_heap _ _ _),(ct _ _ _).symm⟩
theorem Xr(w:World)(g:Nat)(aa:Obj):Same w {w with heap:=w.heap.setIfInBounds g aa}:=⟨rfl,rfl,rfl,by simp,fun _=>Nat.le_refl _⟩
theorem acd(h:ao cx m st T w){aa:Oper}{d:Nat}(ai:d<cx.n){t:TypeId}{x:Operand}{k v:ah}{y:(ah.map k v).el}{lc ld:TypeId}(Z:aa.op=.range t x)(le:dL st x=some ⟨.map k v,y⟩)(la:cx.P.underlying t=some (.map lc ld)){orc:List ak}:
  fb cx T w aa ⟨.iter d,st.dy d (.cM k v ((show Option (List (k.el×v.el))from y).getD []) []),orc,[]⟩:=by
 have o:=(bC (t:=.map k v) rfl).1 (dt h le)
 match y,o with
 |none,o=>
  have o:[Act.eval ⟨T,aj.D cx⟩ x]=[Value.map none]:=o
  simp only[List.cons.injEq,and_true]at o
  have q:dG cx m st w d (fK w.heap.size (.cM k v [] [])) (w.alloc (.mapIter none 0 #[] 0)):=
   dG.fresh h d _ (iK _ _) fun g U=>by cases mz U;exact⟨Nat.le_refl _,by simp⟩
  refine⟨.pointer (some ⟨w.heap.size,0,none⟩),w.alloc (.mapIter none 0 #[] 0),_,cF (s:=Instr.range t (.map none)) (by simp only[execOp,Z,o]) ?_,
   h.dy ai q (.inl h.frame.size) (.inl ⟨heap_alloc_new w _,rfl,rfl⟩),?_⟩
  ·simp[Instr.range,run_underlying la,newObj,Sem.run]
  ·show _=bH m d _ d
   rw[ct];rfl
 |some ps,⟨b,es,O,e,W,lf,lg,lh,li⟩=>
  simp only[List.cons.injEq,and_true]at e
  have lb:=gB W
  have q:dG cx m st w d (fK w.heap.size (.cM k v ps [])) (w.alloc (.mapIter (some b) O #[] O)):=
   dG.fresh h d _ (iK _ _) fun g U=>by cases mz U;exact⟨Nat.le_refl _,by simp⟩
  have Y:=q.mut (ids:=(st.dy d (.cM k v ps [])).ids) (fun i R=>by rcases List.mem_cons.1 R with R|R;exact .inl R;exact .inr ((nY st d i).1 R).1)
  refine⟨.pointer (some ⟨w.heap.size,0,none⟩),w.alloc (.mapIter (some b) O #[] O),_,cF (s:=Instr.range t (.map (some b))) (by simp only[execOp,Z,e]) ?_,
   h.dy ai q (.inl h.frame.size) (.inr ⟨b,es,O,#[],heap_alloc_new w _,?_,fun lj=>lf (Y b lb lj),lg,lh,?_,.inl rfl⟩),?_⟩
  ·simp[Instr.range,run_underlying la,newObj,getObj,Sem.run,W]
  ·rw[Below.heap_alloc w _ b lb];exact W
  ·have lk:es.toList.filter (fun e=>!(#[]:Array Nat).contains e.born)=es.toList:=List.filter_eq_self.2 fun a _=>by simp
   rw[lk]
   exact io (fun _ _ h=>dC q.keeps Y h) (fun _ _ h=>dC q.keeps Y h) li
  ·show _=bH m d _ d
   rw[ct];rfl
theorem aau(h:ao cx m st T w){aa:Oper}{d:Nat}(ai:d<cx.n){t:TypeId}{r:Option Operand}{k v:ah}{q O:TypeId}(R:aa.op=.makeMap t r)(U:cx.P.underlying t=some (.map q O))(o:Gg st r=true){orc:List ak}:
  fb cx T w aa ⟨.iter d,st.dy d (.mp k v []),orc,[]⟩:=by
 have W:dG cx m st w d (fK w.heap.size (.mp k v [])) (w.alloc (.map #[] 0)):=
  dG.fresh h d _ (iK _ _) fun g Y=>by cases mz Y;exact⟨Nat.le_refl _,by simp⟩
 refine⟨.map (some w.heap.size),w.alloc (.map #[] 0),_,cF (s:=Instr.makeMap t (r.map (Act.eval ⟨T,aj.D cx⟩))) (by simp only[execOp,R]) ?_,
  h.dy ai W (.inl h.frame.size) ⟨#[],0,heap_alloc_new w _,fun e Z=>by simp at Z,by simp,trivial⟩,?_⟩
 ·cases r with
  |none=>rfl
  |some x=>
   unfold Gg at o
   obtain⟨n,la⟩:=Option.isSome_iff_exists.1 o
   obtain⟨k',lb⟩:=fF h la
   simp[Instr.makeMap,run_underlying U,lb,asInt,asIntOf,newObj,Sem.run]
 ·show _=bH m d _ d
  rw[ct];rfl
theorem LA(h:ao cx m st T w){aa:Oper}{x:Operand}{b:Nat}{k v:ah}{left last:List (k.el×v.el)}(q:aa.op=.next x false)(U:aW st x=some (.iter b))(W:look st.ae b=some (.cM k v left last))(Y:left=[]){orc:List ak}{ob:List Prop}:
  fb cx T w aa ⟨.dW [⟨.bool,false⟩],st,orc,ob⟩:=by
 subst Y
 obtain⟨g,Z,_,la⟩:=h.box (be W)
 have O:Act.eval ⟨T,aj.D cx⟩ x=.pointer (some ⟨g,0,none⟩):=by have:Act.eval ⟨T,aj.D cx⟩ x=m b:=bj h U;rw[this,Z];rfl
 rcases la with ⟨o,_⟩|⟨lg,es,R,seen,o,lb,_,lc,lh,ld,_⟩
 ·refine⟨.tuple #[.bool false],w,m,cF (s:=Instr.next (.pointer (some ⟨g,0,none⟩)) false aa.type) (by simp only[execOp,q,O]) ?_,h,⟨[.bool false],rfl,dU.2 rfl,trivial⟩⟩
  simp[Instr.next,getObj,Sem.run,o]
 ·have le:es.toList.filter (fun e=>!seen.contains e.born)=[]:=List.eq_nil_of_length_eq_zero (by rw[uW ld];rfl)
  refine⟨.tuple #[.bool false],w,m,cF (s:=Instr.next (.pointer (some ⟨g,0,none⟩)) false aa.type) (by simp only[execOp,q,O]) ?_,h,⟨[.bool false],rfl,dU.2 rfl,trivial⟩⟩
  have lf:es.filter (fun e=>!seen.contains e.born)=#[]:=by
   apply Array.toList_inj.1
   rw[Array.toList_filter]
   exact le
  simp only[Instr.next,getObj,Sem.run_bind,Sem.run,o,lb,Result.andThen,next_test_false seen es R R lc (Nat.le_refl _),Bool.false_eq_true,if_false,lf]
  simp[choose,Sem.run,Question.forced]
theorem find_born:∀(l:List MapEntry) (e:MapEntry),(l.map (·.born)).Nodup->e∈l->l.find? (fun x=>x.born==e.born)=some e
 |[],e,_,he=>by cases he
 |x::l,e,q,he=>by
  rw[List.map_cons,List.nodup_cons]at q
  rw[List.find?_cons]
  by_cases o:x.born=e.born
  ·rw[show(x.born==e.born)=true from beq_iff_eq.2 o]
   rcases List.mem_cons.1 he with he|he
   ·rw[he]
   ·exact absurd (List.mem_map.2 ⟨e,he,o.symm⟩) q.1
  ·rw[show(x.born==e.born)=false from beq_eq_false_iff_ne.2 o]
   rcases List.mem_cons.1 he with he|he
   ·exact absurd (by rw[he]) o
   ·exact find_born l e q.2 he
theorem SG(h:ao cx m st T w){aa:Oper}{x:Operand}{b:Nat}{k v:ah}{left:List (k.el×v.el)}{p:k.el×v.el}(O:aa.op=.entry x)(R:aW st x=some (.iter b))(U:look st.ae b=some (.cM k v left [p])){orc:List ak}:
  fb cx T w aa ⟨.dW [⟨k,p.1⟩,⟨v,p.2⟩],st,orc,[]⟩:=by
 obtain⟨g,W,_,Y⟩:=h.box (be U)
 have Z:Act.eval ⟨T,aj.D cx⟩ x=.pointer (some ⟨g,0,none⟩):=by have:Act.eval ⟨T,aj.D cx⟩ x=m b:=bj h R;rw[this,W];rfl
 rcases Y with ⟨_,_,o⟩|⟨le,es,lf,seen,o,la,_,lg,lb,lh,q⟩
 ·cases o
 ·rcases q with q|⟨e,li,lc,a2,a3,a4,a5⟩
  ·cases q
  ·cases lc
   refine⟨.tuple #[e.key,e.val],w,m,cF (s:=Instr.entry (.pointer (some ⟨g,0,none⟩))) (by simp only[execOp,O,Z]) ?_,h,⟨[e.key,e.val],rfl,a4,a5,trivial⟩⟩
   have ld:es.find? (fun x=>x.born==e.born)=some e:=by rw[<-Array.find?_toList];exact find_born es.toList e lb a2
   simp[Instr.entry,getObj,Sem.run,o,la,a3,ld]
theorem NO(h:ao cx m st T w){aa:Oper}{x:Operand}{b p:Nat}{s:List UInt8}(R:aa.op=.next x true)(Y:aW st x=some (.iter b))(Z:look st.ae b=some (.iter s p)){orc:List ak}:
  (p<s.length->fb cx T w aa ⟨.dW [⟨.bool,true⟩,⟨.int .i64,(p:Int)⟩,⟨.int .i32,gJ s p⟩],st.dr b (.iter s (p+jd s p)),orc,[p<s.length]⟩)/\
  (s.length<=p->fb cx T w aa ⟨.dW [⟨.bool,false⟩],st,orc,[s.length<=p]⟩):=by
 have U:Act.eval ⟨T,aj.D cx⟩ x=m b:=bj h Y
 have W:=be Z
 obtain⟨g,o,_,q⟩:=h.box W
 have q:w.heap[g]? =some (.stringIter (bytesOf s) p):=q
 have o:m b=.pointer (some ⟨g,0,none⟩):=o
 constructor
 ·intro la
  have O:p<(bytesOf s).size:=by rw[jf];exact la
  have lb:Touch m w b {w with heap:=w.heap.setIfInBounds g (.stringIter (bytesOf s) (p+jd s p))}:=
   ⟨Xr _ _ _,fun k _ lc=>by
    show(w.heap.setIfInBounds g _)[k]? =_
    rw[Array.getElem?_setIfInBounds_ne]
    intro e
    exact lc (by rw[o,e];rfl)⟩
  refine⟨.tuple #[.bool true,.int .i64 p,.int .i32 (gJ s p)],_,m,cF (s:=Instr.next (.pointer (some ⟨g,0,none⟩)) true aa.type) (by simp only[execOp,R,U,o]) ?_,
   h.dr W lb (g:=g) o ?_,⟨[.bool true,.int .i64 p,.int .i32 (gJ s p)],rfl,dU.2 rfl,dp.2 rfl,dp.2 rfl,trivial⟩⟩
  ·simp[Instr.next,getObj,setObj,Sem.run,q,O,goInt,gJ,jd]
  ·show(w.heap.setIfInBounds g _)[g]? =_
   rw[Array.getElem?_setIfInBounds_self_of_lt (Ad q)]
 ·intro ld
  have O:¬p<(bytesOf s).size:=by rw[jf];omega
  refine⟨.tuple #[.bool false],w,m,cF (s:=Instr.next (.pointer (some ⟨g,0,none⟩)) true aa.type) (by simp only[execOp,R,U,o]) ?_,h,⟨[.bool false],rfl,dU.2 rfl,trivial⟩⟩
  simp[Instr.next,getObj,Sem.run,q,O]
end Go.Ev
