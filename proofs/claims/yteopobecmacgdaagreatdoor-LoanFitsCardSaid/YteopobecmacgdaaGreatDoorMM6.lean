/- The evaluator as one function: what a piece of code asks is a tree, and what the tree owes is one equation. -/
import Derived.Test.YteopobecmacgdaaGreatDoorMM5
import Derived.Defers
import Derived.Test.YteopobecmacgdaaGreatDoorMM4
import Derived.Test.YteopobecmacgdaaGreatDoorMM1
import Derived.Shelf.SlSortCmp.Insertion
import Derived.Test.YteopobecmacgdaaGreatDoorTyA
set_option linter.unusedSectionVars false
set_option linter.unusedVariables false
set_option linter.unusedSimpArgs false
namespace Go.Ev
open Go Go.RowKit
variable [b8]
/-! Trees. -/
structure rf where
 u:ag
 aa:Option u.el
structure cu where
 u:ag
 aa:Option u.el
 v:u.el
inductive bt(al:Type):Type 1
 |ret (e:Option al)
 |ask {β:Type} (aa:Option β) (f:β->bt al)
 |ite (b:Bool) (x y:bt al)
 |jq (a b:Bool) (t:bt al)
 |ff (a b:List Prop) (t:bt al)
 |eqs (a b:Option af) (t:bt al)
 |jr (a b:rf) (t:bt al)
 |fF {A:Type} (o:A->bt al) (q:A->Option al) (t:bt al)
 |hd {A:Type} (o:(A->Option al)->A->bt al) (F:Nat->A->Option al) (t:bt al)
variable {al:Type}
def bt.den:bt al->Option al
 |.ret e=>e
 |.ask aa f=>Option.bind aa fun x=>(f x).den
 |.ite b x y=>if b then x.den else y.den
 |.jq _ _ t=>t.den
 |.ff _ _ t=>t.den
 |.eqs _ _ t=>t.den
 |.jr _ _ t=>t.den
 |.fF _ _ t=>t.den
 |.hd _ _ t=>t.den
def bt.ic:bt al->Prop
 |.ret _=>True
 |.ask _ f=>∀x,(f x).ic
 |.ite _ x y=>x.ic/\y.ic
 |.jq a b t=>a=b/\t.ic
 |.ff a b t=>a=b/\t.ic
 |.eqs a b t=>a=b/\t.ic
 |.jr a b t=>a=b/\t.ic
 |.fF o q t=>(∀z,(o z).den=q z)/\(∀z,(o z).ic)/\t.ic
 |.hd o F t=>(∀z,F 0 z=none)/\(∀n z,(o (F n) z).den=F (n+1) z)/\(∀n z,(o (F n) z).ic)/\t.ic
inductive fj(al:Type):Type 1
 |nil
 |ask {β:Type} (aa:Option β) (f:β->fj al)
 |ite (b:Bool) (x y:fj al)
 |b (a:Bool) (c:fj al)
 |p (a:List Prop) (c:fj al)
 |s (a:Option af) (c:fj al)
 |q (a:rf) (c:fj al)
 |fF {A:Type} (g:A->Option al) (o:A->fj al) (c:fj al)
 |hd {A:Type} (g0:A->Option al) (g:Nat->A->Option al) (o:Nat->A->fj al) (c:fj al)
def bt.ee:bt al->fj al
 |.ret _=>.nil
 |.ask aa f=>.ask aa fun x=>(f x).ee
 |.ite b x y=>.ite b x.ee y.ee
 |.jq a _ t=>.b a t.ee
 |.ff a _ t=>.p a t.ee
 |.eqs a _ t=>.s a t.ee
 |.jr a _ t=>.q a t.ee
 |.fF o _ t=>.fF (fun z=>(o z).den) (fun z=>(o z).ee) t.ee
 |.hd o F t=>.hd (F 0) (fun n z=>(o (F n) z).den) (fun n z=>(o (F n) z).ee) t.ee
def bt.ew:bt al->fj al
 |.ret _=>.nil
 |.ask aa f=>.ask aa fun x=>(f x).ew
 |.ite b x y=>.ite b x.ew y.ew
 |.jq _ b t=>.b b t.ew
 |.ff _ b t=>.p b t.ew
 |.eqs _ b t=>.s b t.ew
 |.jr _ b t=>.q b t.ew
 |.fF o q t=>.fF q (fun z=>(o z).ew) t.ew
 |.hd o F t=>.hd (fun _=>none) (fun n=>F (n+1)) (fun n z=>(o (F n) z).ew) t.ew
theorem bt.gt:∀(t:bt al),t.ee=t.ew->t.ic
 |.ret _,_=>trivial
 |.ask aa f,h=>by
  simp only[ee,ew,fj.ask.injEq,heq_eq_eq,true_and]at h
  exact fun x=>gt (f x) (congrFun h x)
 |.ite b x y,h=>by
  simp only[ee,ew,fj.ite.injEq,true_and]at h
  exact⟨gt x h.1,gt y h.2⟩
 |.jq a b t,h=>by
  simp only[ee,ew,fj.b.injEq]at h
  exact⟨h.1,gt t h.2⟩
 |.ff a b t,h=>by
  simp only[ee,ew,fj.p.injEq]at h
  exact⟨h.1,gt t h.2⟩
 |.eqs a b t,h=>by
  simp only[ee,ew,fj.s.injEq]at h
  exact⟨h.1,gt t h.2⟩
 |.jr a b t,h=>by
  simp only[ee,ew,fj.q.injEq]at h
  exact⟨h.1,gt t h.2⟩
 |.fF o q t,h=>by
  simp only[ee,ew,fj.fF.injEq,heq_eq_eq,true_and]at h
  exact⟨fun z=>congrFun h.1 z,fun z=>gt _ (congrFun h.2.1 z),gt t h.2.2⟩
 |.hd o F t,h=>by
  simp only[ee,ew,fj.hd.injEq,heq_eq_eq,true_and]at h
  exact⟨fun z=>congrFun h.1 z,fun n z=>congrFun (congrFun h.2.1 n) z,fun n z=>gt _ (congrFun (congrFun h.2.2.1 n) z),gt t h.2.2.2⟩
/-! Lists of data of given shapes. -/
def cN:List ag->Type
 |[]=>Unit
 |[t]=>t.el
 |t::u::us=>t.el×cN (u::us)
def dG:(us:List ag)->cN us->List ak
 |[],_=>[]
 |[t],x=>[⟨t,x⟩]
 |t::u::us,x=>⟨t,x.1⟩::dG (u::us) x.2
def gK:(us:List ag)->List ak->Option (cN us)
 |[],vs=>match vs with
  |[]=>some ()
  |_=>none
 |[t],vs=>match vs with
  |[v]=>v.as t
  |_=>none
 |t::u::us,vs=>match vs with
  |v::vs=>match v.as t,gK (u::us) vs with
   |some x,some y=>some (x,y)
   |_,_=>none
  |[]=>none
theorem ag.beq_refl:∀t:ag,t.beq t=true
 |.int k=>by cases k<;>rfl
 |.bool=>rfl
 |.str=>rfl
 |.ab t=>beq_refl t
 |.unit=>rfl
 |.pair a b=>by simp only[ag.beq,beq_refl a,beq_refl b,Bool.and_self]
 |.ptr t=>beq_refl t
 |.fn f t=>by simp only[ag.beq,Nat.beq_refl,beq_refl t,Bool.and_self]
 |.err=>rfl
 |.cy=>rfl
 |.cL n t=>by simp only[ag.beq,Nat.beq_refl,beq_refl t,Bool.and_self]
 |.alt n a b=>by simp only[ag.beq,Nat.beq_refl,beq_refl a,beq_refl b,Bool.and_self]
 |.arr n t=>by simp only[ag.beq,Nat.beq_refl,beq_refl t,Bool.and_self]
 |.map a b=>by simp only[ag.beq,beq_refl a,beq_refl b,Bool.and_self]
theorem ak.wk(t:ag)(x:t.el):ak.as ⟨t,x⟩ t=some x:=by
 unfold ak.as
 split
 ·rfl
 ·rename_i h
  exact absurd (ag.beq_refl t) (by rw[h];decide)
theorem Ii:∀(us:List ag) (x:cN us),gK us (dG us x)=some x
 |[],_=>rfl
 |[t],x=>ak.wk t x
 |t::u::us,x=>by
  have h:=Ii (u::us) x.2
  show(match ak.as ⟨t,x.1⟩ t,gK (u::us) (dG (u::us) x.2)with
   |some x,some y=>some (x,y)
   |_,_=>none)=some x
  rw[ak.wk,h]
  rfl
theorem DM:∀(us:List ag) (vs:List ak) (x:cN us),gK us vs=some x->vs=dG us x
 |[],vs,x,h=>by
  unfold gK at h
  split at h
  ·rfl
  ·cases h
 |[t],vs,x,h=>by
  match vs,h with
  |[v],h=>
   have e:=ak.dd (v:=v) (u:=t) (x:=x) h
   subst e
   rfl
  |[],h=>cases h
  |_::_::_,h=>cases h
 |t::u::us,vs,x,h=>by
  unfold gK at h
  split at h
  ·rename_i v vs
   split at h
   ·rename_i a b o q
    cases h
    show v::vs=⟨t,a⟩::dG (u::us) b
    rw[<-DM (u::us) vs b q,ak.dd o]
   ·cases h
  ·cases h
theorem jy:∀(us:List ag) (x:cN us),(dG us x).length=us.length
 |[],_=>rfl
 |[_],_=>rfl
 |_::u::us,x=>by
  show(dG (u::us) x.2).length+1=_
  rw[jy (u::us) x.2]
  rfl
theorem oa:∀(us:List ag) (x:cN us) (v:ak),v∈dG us x->v.t∈us
 |[],_,v,h=>by cases h
 |[_],_,v,h=>by
  rcases List.mem_cons.1 h with rfl|h
  ·exact List.mem_cons_self
  ·cases h
 |t::u::us,x,v,h=>by
  rcases List.mem_cons.1 (show v∈⟨t,x.1⟩::dG (u::us) x.2 from h)with rfl|h
  ·exact List.mem_cons_self
  ·exact List.mem_cons_of_mem _ (oa (u::us) x.2 v h)
/-! What is known of functions, as0 functions. -/
structure aU where
 eM:List ag
 cH:List ag
 eJ:List ag
 fn:cN eM->Option (cN cH)
def aU.aW(F:aU):jg:=⟨F.cH.all ag.flat,F.cH.length,F.eJ,fun o ap=>match gK F.eM o,gK F.cH ap with
 |some x,some y=>F.fn x=some y
 |_,_=>False⟩
structure aF(P:Program)(G:World->Prop) where
 f:Nat
 F:aU
 ok:aV P G f F.aW
structure cD(P:Program)(G:World->Prop)(α β:Type) where
 f:Nat
 F:bU α β
 X:af->Option α
 fn:α->Option β
 ok:cb P G f F
 rel:∀x y,fn x=some y->F.rel x y
structure pZ{α β:Type}(P:Program)(G:World->Prop)(f:Nat)(F:bU α β):Prop where
 enters:∀args w,(callFunc f args).run P w=.ok (.enter f args) w
 calls:∀(cx:bB),cx.P=P->cx.n=F.n->(∀w,Frame cx.w0 w cx.X->G w)->∀x y,F.rel x y->∀(vs:List Value) (w:World) (u:FrameMode),vs.length=(F.S x).ab.length->Go.Ev.al cx (F.S x) (vs.toArray++Array.replicate (F.n-vs.toArray.size) undef) w->
  CallsD P f vs.toArray u w fun e o w'=>o=u/\∃v ay q,e=.returned v/\an cx ay (F.bJ x y) q w'/\rk w' (ar cx ay (F.bJ x y).ids) ay v (F.ap x y)
structure Ds(P:Program)(G:World->Prop)(α β:Type) where
 f:Nat
 F:bU α β
 X:af->Option α
 fn:α->Option β
 ok:pZ P G f F
 rel:∀x y,fn x=some y->F.rel x y
structure qU(P:Program)(G:World->Prop) where
 f:Nat
 e:Nat
 t:ag
 fn:List t.el->List t.el
 ok:uq P G f e t fun xs o=>o=fn xs
def cl(P:Program)(G:World->Prop)(n:Nat)(l:List (aF P G)):Env:=⟨P,G,n,l.map fun p=>(p.f,p.F.aW)⟩
def KF{P:Program}{G:World->Prop}:List (aF P G)->Nat->Option aU
 |[],_=>none
 |p::l,n=>bif Nat.beq p.f n then some p.F else KF l n
theorem im{P:Program}{G:World->Prop}{n:Nat}{l:List (aF P G)}{cx:bB}(o:cx.P=P)(q:cx.n=n)(L:∀w,Frame cx.w0 w cx.X->G w):bv (cl P G n l) cx:=
 ⟨o,q,L,fun f F h=>by
  obtain⟨p,O,e⟩:=List.mem_map.1 h
  cases e
  exact p.ok⟩
/-! Holes of a state. -/
inductive gB where
 |ab (i:Nat) (t:ag)
 |rw(r e:Nat) (t:ag)
 |ad (b i:Nat) (t:ag)
 |it (b:Nat)
 |mp (b:Nat) (k v:ag)
 |kf (b:Nat) (t:ag)
 |bp (b:Nat) (t:ag)
def gB.T:gB->Type
 |.ab _ t=>t.el
 |.rw _ _ t=>List t.el
 |.ad _ _ t=>t.el
 |.it _=>Nat
 |.mp _ k v=>List (k.el×v.el)
 |.kf _ t=>t.el
 |.bp _ t=>List t.el
def fp:List gB->Type
 |[]=>Unit
 |[h]=>h.T
 |h::g::o=>h.T×fp (g::o)
def TU(c:cE)(t:ag):Option (List t.el):=ak.as ⟨.ab c.t,c.xs⟩ (.ab t)
def Lc(s:Option ao)(t:ag):Option t.el:=match s with
 |some (.val u x)=>ak.as ⟨u,x⟩ t
 |some (.vptr u x)=>ak.as ⟨u,x⟩ t
 |_=>none
def gB.get(st:af):(h:gB)->Option h.T
 |.ab i t=>Lc (look st.ab i) t
 |.rw r _ t=>match look st.rw r with
  |some c=>TU c t
  |none=>none
 |.ad b i t=>match look st.ad b with
  |some (.cells l _)=>Lc l[i]? t
  |_=>none
 |.it b=>match look st.ad b with
  |some (.iter _ p)=>some p
  |_=>none
 |.mp b k v=>match look st.ad b with
  |some (.mp k' v' ps)=>ak.as ⟨.map k' v',some ps⟩ (.map k v)|>.bind id
  |_=>none
 |.kf b t=>match look st.ad b with
  |some (.aT u x _)=>ak.as ⟨u,x⟩ t
  |_=>none
 |.bp b t=>match look st.ad b with
  |some (.bp _ k xs _)=>ak.as ⟨.ab k.u,xs⟩ (.ab t)
  |_=>none
def bu(st:af):(o:List gB)->Option (fp o)
 |[]=>some ()
 |[h]=>h.get st
 |h::g::o=>match h.get st,bu st (g::o)with
  |some x,some y=>some (x,y)
  |_,_=>none
def ml{α:Type}:List (Nat×α)->Nat->α->List (Nat×α)
 |[],i,v=>[(i,v)]
 |(k,u)::r,i,v=>bif Nat.beq k i then(k,v)::r else(k,u)::ml r i v
def gB.put(st:af):(h:gB)->h.T->af
 |.ab i t,x=>{st with ab:=ml st.ab i (.val t x)}
 |.rw r e t,xs=>{st with rw:=ml st.rw r ⟨e,t,xs⟩}
 |.ad b i t,x=>match look st.ad b with
  |some (.cells l e)=>{st with ad:=ml st.ad b (.cells (l.set i (.val t x)) e)}
  |_=>st
 |.it b,p=>match look st.ad b with
  |some (.iter s _)=>{st with ad:=ml st.ad b (.iter s p)}
  |_=>st
 |.mp b k v,ps=>{st with ad:=ml st.ad b (.mp k v ps)}
 |.kf b t,x=>match look st.ad b with
  |some (.aT _ _ e)=>{st with ad:=ml st.ad b (.aT t x e)}
  |_=>st
 |.bp b t,z=>match look st.ad b with
  |some (.bp e k _ h)=>match ak.as ⟨.ab t,z⟩ (.ab k.u)with
   |some o=>{st with ad:=ml st.ad b (.bp e k o h)}
   |none=>st
  |_=>st
def JR(st:af):(o:List gB)->fp o->af
 |[],_=>st
 |[h],x=>h.put st x
 |h::g::o,x=>JR (h.put st x.1) (g::o) x.2
def qy{α:Type}(l:List (Nat×α)):List Nat->List (Nat×α)
 |[]=>[]
 |k::o=>match look l k with
  |some v=>(k,v)::qy l o
  |none=>qy l o
def aB(q bs ap:List Nat){o:List gB}(st:af)(z:fp o):af:=JR ⟨qy st.ab q,qy st.ad bs,qy st.rw ap⟩ o z
/-! Hints: where ways meet, where rounds begin, which answers are wanted again. -/
inductive bd(P:Program)(G:World->Prop)(al:Type):Type 1
 |z
 |ae (n:Nat) (h:bd P G al)
 |a (u:ag) (f:u.el->bd P G al)
 |ac (us:List ag) (f:cN us->bd P G al)
 |u (i:Nat) (h:bd P G al)
 |t (h:bd P G al)
 |f (h:bd P G al)
 |c (x y:bd P G al)
 |T (h:bd P G al)
 |F (h:bd P G al)
 |j (o:List gB) (S:af->fp o->af) (q:fp o->Option al) (x:bd P G al) (y:fp o->bd P G al)
 |bg (o:List gB) (S:af->fp o->af) (F:Nat->fp o->Option al) (k:Nat) (y:(fp o->Option al)->fp o->bd P G al)
 |bh (m:Nat) (h:bd P G al)
 |Lv (m:Nat) (q:Bool->Option al) (h:Bool->bd P G al)
 |g (m:Nat) (q:Bool->Option al) (x y:bd P G al) (h:Bool->bd P G al)
 |iO (m:Nat) (o:List gB) (S:af->fp o->af) (q:fp o->Option al) (x y:bd P G al) (h:fp o->bd P G al)
 |bI {α β:Type} (L:cD P G α β) (ρ ρ':List (Nat×Nat)) (h:β->bd P G al)
 |FJ {α β:Type} (L:cD P G α β) (i j:Nat) (ρ ρ':List (Nat×Nat)) (h:β->bd P G al)
 |ci (R:qU P G) (h:bd P G al)
 |jT (r:Nat) (h:bd P G al)
 |je (n:Nat) (h:bd P G al)
 |fO (a b c:List Nat) (h:bd P G al)
 |aK (b c:List Nat) (h:bd P G al)
 |az (r:Nat) (h:bd P G al)
 |md (a b c d:List Nat) (h:bd P G al)
 |pa (a b:List Nat) (c2 c3 U c5 W:Nat) (h:bd P G al)
 |se (a b:List Nat) (i:Nat) (c d:List Nat) (h:bd P G al)
 |mk (h:bd P G al)
 |dh (Y:List (List Nat)) (h:bd P G al)
 |fb (O bs ap:List Nat) (ρ:List (Nat×Nat))
 |un (d:Nat) (h:bd P G al)
 |gp (O bs ap:List Nat) (h:bd P G al)
 |BD (n d:Nat) (h:bd P G al)
 |ig {α β:Type} (L:Ds P G α β) (ρ ρ':List (Nat×Nat))
variable {P:Program} {G:World->Prop}
def bd.dec:bd P G al->bd P G al
 |.ae n h=>match n with
  |0=>h
  |1=>h
  |n+2=>.ae (n+1) h
 |h=>h
def bd.fork:bd P G al->bd P G al×bd P G al
 |.t h=>(h,.z)
 |.f h=>(.z,h)
 |.c x y=>(x,y)
 |_=>(.z,.z)
/-! Questions of an operation. -/
inductive eN:Type 1
 |nil
 |k (p:Prop) (d:Decidable p) (q:eN)
 |t (u:ag) (aa:Option u.el) (p:u.el->Prop) (ok:∀y,aa=some y->p y) (q:u.el->eN)
 |c (us:List ag) (aa:Option (cN us)) (p:cN us->Prop) (ok:∀y,aa=some y->p y)
 |e (u:ag) (a b:Option u.el) (p:Prop) (ok:a=b->p) (q:eN)
def cF(o:List cu):Prop:=∀e∈o,e.aa=some e.v
def eS:eN->bd P G al->List cu->List ak->List Prop->(List ak->List Prop->bd P G al->List cu->bt al)->bt al
 |.nil,h,o,orc,ps,k=>k orc ps h o
 |.k p d q,h,o,orc,ps,k=>.ask (@aL p d) fun _=>eS q h o orc (ps++[p]) k
 |.t u aa p _ q,h,o,orc,ps,k=>match h with
  |.u i h'=>match o[i]? with
   |some e=>.jr ⟨u,aa⟩ ⟨e.u,e.aa⟩ (match ak.as ⟨e.u,e.v⟩ u with
    |some y=>eS (q y) h' o (orc++[⟨u,y⟩]) (ps++[p y]) k
    |none=>.ret none)
   |none=>.ret none
  |.a O g=>.ask aa fun y=>match ak.as ⟨u,y⟩ O with
   |some L=>eS (q y) (g L) (⟨u,aa,y⟩::o) (orc++[⟨u,y⟩]) (ps++[p y]) k
   |none=>.ret none
  |h=>.ask aa fun y=>eS (q y) h.dec (⟨u,aa,y⟩::o) (orc++[⟨u,y⟩]) (ps++[p y]) k
 |.c us aa p _,h,o,orc,ps,k=>match h with
  |.ac R g=>.ask aa fun y=>match gK R (dG us y)with
   |some L=>k (orc++dG us y) (ps++[p y]) (g L) o
   |none=>.ret none
  |h=>.ask aa fun y=>k (orc++dG us y) (ps++[p y]) h.dec o
 |.e u a b p _ q,h,o,orc,ps,k=>.jr ⟨u,a⟩ ⟨u,b⟩ (eS q h o orc (ps++[p]) k)
abbrev eN.same(u:ag)(a b:Option u.el)(o:eN):eN:=.e u a b (a=b) id o
theorem mE:∀{l:List Prop} {p:Prop},bO l->p->bO (l++[p])
 |[],_,_,h=>⟨h,trivial⟩
 |_::_,_,⟨o,q⟩,h=>⟨o,mE q h⟩
theorem cF.cons{o:List cu}(h:cF o){u:ag}{aa:Option u.el}{y:u.el}(q:aa=some y):cF (⟨u,aa,y⟩::o):=fun e he=>by
 rcases List.mem_cons.1 he with rfl|he
 ·exact q
 ·exact h e he
theorem cF.nil:cF []:=fun _ h=>by cases h
structure bA(t:bt al)(r:al):Prop where
 ok:t.ic
 den:t.den=some r
theorem bA.no{p:Prop}{r:al}(h:bA (.ret none) r):p:=by cases h.den
theorem bA.ask{r:al}{β:Type}{aa:Option β}{f:β->bt al}(h:bA (.ask aa f) r):∃x,aa=some x/\bA (f x) r:=
 let⟨x,o,q⟩:=bind_some h.den
 ⟨x,o,h.ok x,q⟩
theorem bA.ite{r:al}{b:Bool}{x y:bt al}(h:bA (.ite b x y) r):(b=true/\bA x r)\/(b=false/\bA y r):=by
 cases b with
 |true=>exact .inl ⟨rfl,h.ok.1,h.den⟩
 |false=>exact .inr ⟨rfl,h.ok.2,h.den⟩
theorem bA.jq{r:al}{a b:Bool}{t:bt al}(h:bA (.jq a b t) r):a=b/\bA t r:=⟨h.ok.1,h.ok.2,h.den⟩
theorem bA.ff{r:al}{a b:List Prop}{t:bt al}(h:bA (.ff a b t) r):a=b/\bA t r:=⟨h.ok.1,h.ok.2,h.den⟩
theorem bA.eqs{r:al}{a b:Option af}{t:bt al}(h:bA (.eqs a b t) r):a=b/\bA t r:=⟨h.ok.1,h.ok.2,h.den⟩
theorem bA.jr{r:al}{a b:rf}{t:bt al}(h:bA (.jr a b t) r):a=b/\bA t r:=⟨h.ok.1,h.ok.2,h.den⟩
theorem bA.fF{r:al}{A:Type}{body:A->bt al}{o:A->Option al}{t:bt al}(h:bA (.fF body o t) r):(∀z,o z=some r->bA (body z) r)/\bA t r:=
 ⟨fun z q=>⟨h.ok.2.1 z,(h.ok.1 z).trans q⟩,h.ok.2.2,h.den⟩
theorem bA.hd{r:al}{A:Type}{body:(A->Option al)->A->bt al}{F:Nat->A->Option al}{t:bt al}(h:bA (.hd body F t) r):
  (∀z,F 0 z=none)/\(∀n z,F (n+1) z=some r->bA (body (F n) z) r)/\bA t r:=
 ⟨h.ok.1,fun n z o=>⟨h.ok.2.2.1 n z,(h.ok.2.1 n z).trans o⟩,h.ok.2.2.2,h.den⟩
def Nq(k:List ak->List Prop->bd P G al->List cu->bt al)(r:al):Prop:=
 ∃orc ps h o,bO ps/\cF o/\bA (k orc ps h o) r
theorem jc{r:al}{k:List ak->List Prop->bd P G al->List cu->bt al}:∀(U:eN) {h:bd P G al} {W:List cu} {orc:List ak} {ps:List Prop},cF W->bO ps->
  bA (eS U h W orc ps k) r->Nq k r
 |.nil,h,W,orc,ps,q,O,o=>⟨orc,ps,h,W,O,q,o⟩
 |.k p d U,h,W,orc,ps,q,O,o=>by
  obtain⟨x,R,L⟩:=o.ask
  exact jc U q (mE O (dj R)) L
 |.t u aa p ok U,h,W,orc,ps,q,O,o=>by
  unfold eS at o
  split at o
  ·rename_i i h'
   split at o
   ·rename_i e Z
    obtain⟨aK,o⟩:=o.jr
    have la:=q e (List.mem_of_getElem? Z)
    obtain⟨lb,lc,Y⟩:=e
    simp only[rf.mk.injEq]at aK
    obtain⟨rfl,aK⟩:=aK
    simp only[heq_eq_eq]at aK
    subst aK
    simp only[ak.wk]at o
    exact jc (U Y) q (mE O (ok Y la)) o
   ·exact o.no
  ·rename_i ld g
   obtain⟨y,R,L⟩:=o.ask
   split at L
   ·exact jc (U y) (q.cons R) (mE O (ok y R)) L
   ·exact L.no
  ·obtain⟨y,R,L⟩:=o.ask
   exact jc (U y) (q.cons R) (mE O (ok y R)) L
 |.c us aa p ok,h,W,orc,ps,q,O,o=>by
  unfold eS at o
  split at o
  ·obtain⟨y,R,L⟩:=o.ask
   split at L
   ·exact⟨_,_,_,_,mE O (ok y R),q,L⟩
   ·exact L.no
  ·obtain⟨y,R,L⟩:=o.ask
   exact⟨_,_,_,_,mE O (ok y R),q,L⟩
 |.e u a b p ok U,h,W,orc,ps,q,O,o=>by
  obtain⟨aK,o⟩:=o.jr
  simp only[rf.mk.injEq,heq_eq_eq,true_and]at aK
  exact jc U q (mE O (ok aK)) o
end Go.Ev
namespace Go.Ev
open Go Go.RowKit
variable [b8]
variable {al:Type} {P:Program} {G:World->Prop}
def k8{u:ag}(xs:List u.el)(n:Int):eN:=.t u (aq xs n) (fun y=>aq xs n=some y) (fun _ h=>h) (fun _=>.nil)
def uQ:(t:ag)->t.el->List mC->eN
 |_,_,[]=>.nil
 |t,x,.f off u::p=>match cI t x off u with
  |some y=>uQ u y p
  |none=>.nil
 |.arr _ u,xs,.x j _::p=>.t u (aq (show List u.el from xs) j) (fun y=>aq (show List u.el from xs) j=some y) (fun _ h=>h) (fun y=>uQ u y p)
 |_,_,.x _ _::_=>.nil
def HJ(b:Int):eN:=.k (b≠0) inferInstance .nil
def Ib(b:Int):eN:=.k (0<=b) inferInstance .nil
def PS(a b:List UInt8):eN:=.k (a.length+b.length<=br) inferInstance .nil
def Vo(a:Option (Option (Nat×Int))):eN:=.k (a≠some none) inferInstance .nil
def JI(s:List UInt8):eN:=.k (s.length<=br) inferInstance .nil
def TL(o:BinOp)(y:Operand)(a b:ak):eN:=
 match a,b with
 |⟨.int _,_⟩,⟨.int _,b⟩=>match o with
  |.quo=>HJ b
  |.rem=>HJ b
  |.shl=>Ib b
  |.shr=>Ib b
  |_=>.nil
 |⟨.str,a⟩,⟨.str,b⟩=>match o with
  |.add=>PS a b
  |_=>.nil
 |⟨.err,a⟩,⟨.err,_⟩=>match oL y with
  |true=>.nil
  |false=>Vo a
 |_,_=>.nil
def Tw(P:Program)(st:af)(src o:TypeId)(x:Operand):eN:=
 match(aR st x).map (mm st),P.underlying o with
 |some (.val (.ab (.int .i32)) xs),some .string=>JI (cS xs)
 |some (.val .str s),some (.slice e)=>match P.underlying e with
  |some (.int .i32)=>JI s
  |_=>.nil
 |_,_=>.nil
theorem PG{F:aU}{o:List ak}{x:cN F.eM}(h:gK F.eM o=some x)(y:cN F.cH)(q:F.fn x=some y):F.aW.rel o (dG F.cH y):=by
 show(match gK F.eM o,gK F.cH (dG F.cH y)with
  |some x,some y=>F.fn x=some y
  |_,_=>False)
 rw[h,Ii]
 exact q
def V2(R:List (aF P G))(E:Env)(st:af)(c:Call):eN:=
 match c.callee with
 |.value x=>match pP E st x with
  |some (f,F,l)=>match qn E st F.flat c.argTypes.toList c.args.toList,KF R f with
   |some O,some L=>match h:gK L.eM (O++l)with
    |some x=>.c L.cH (L.fn x) (fun y=>L.aW.rel (O++l) (dG L.cH y)) (PG h)
    |none=>.nil
   |_,_=>.nil
  |none=>.nil
 |.builtin .len=>match c.args.toList with
  |[x]=>match aR st x with
   |some (.sub b i)=>match look st.ad b with
    |some (.bp _ k xs none)=>k8 (u:=k.u) xs i
    |_=>.nil
   |_=>.nil
  |_=>.nil
 |.builtin .append=>match c.args.toList,c.argTypes.toList with
  |[.tmp a,x],[t,q]=>match look st.ab a with
   |some (.sub b i)=>match look st.ad b with
    |some (.bp _ k xs none)=>.t k.u (aq xs i) (fun y=>aq xs i=some y) (fun _ h=>h) fun U=>match cI k.u U k.off (.ab k.t)with
     |some o=>match kJ E.P st k.t q x with
      |some W=>.k ((eR o).length+W.length<=br) inferInstance .nil
      |none=>.nil
     |none=>.nil
    |_=>.nil
   |some (.osl b)=>match look st.ad b,aR st x with
    |some (.bp _ k xs none),some (.osl Y)=>match look st.ad Y with
     |some (.bp _ Z la none)=>match ak.as ⟨.ab Z.u,la⟩ (.ab k.u)with
      |some o=>.k (xs.length+(eR o).length<=br) inferInstance .nil
      |none=>.nil
     |_=>.nil
    |_,_=>.nil
   |_=>match rG E.P st 0 t (.tmp a)with
    |some (_,r)=>match kJ E.P st r.t q x with
     |some o=>.k (r.xs.length+o.length<=br) inferInstance .nil
     |none=>.nil
    |none=>.nil
  |[s,x],[t,q]=>match rG E.P st 0 t s with
   |some (_,r)=>match kJ E.P st r.t q x with
    |some o=>.k (r.xs.length+o.length<=br) inferInstance .nil
    |none=>.nil
   |none=>.nil
  |_,_=>.nil
 |.builtin .copy=>match c.args.toList,c.argTypes.toList with
  |[x,y],[_,q]=>match aR st x with
   |some (.row r)=>match look st.rw r with
    |some c=>match kJ E.P st c.t q y with
     |some o=>.k (o.length<=c.xs.length) inferInstance .nil
     |none=>.nil
    |none=>.nil
   |_=>.nil
  |_,_=>.nil
 |_=>.nil
def In(k:dR)(xs:List k.u.el)(i j:Int)(L:k.u.el->(ag.ab k.t).el->k.t.el->eN):eN:=
 .t k.u (aq xs i) (fun y=>aq xs i=some y) (fun _ h=>h) fun q=>match cI k.u q k.off (.ab k.t)with
  |some o=>.t k.t (aq (eR o) j) (fun y=>aq (eR o) j=some y) (fun _ h=>h) fun z=>L q o z
  |none=>.nil
def Bl:Op->Bool
 |.call c=>match c.callee with
  |.value _=>true
  |_=>false
 |_=>false
def HC:Op->Bool
 |.assign (.const (.slice none 0 0))=>true
 |.move (.const (.slice none 0 0))=>true
 |.makeSlice _ _ _=>true
 |_=>false
def H1(E:Env)(st:af)(aa:Oper):eN:=
 match aa.op with
 |.makeSlice t l c=>match dO E.P t,dV (aR st l),dV (aR st c)with
  |some (e,_),some n,some o=>match nz E.P e with
   |some k=>.k (0<=n/\n<=o/\o<=(br:Int)) inferInstance (.same k.u (cp k.u (ca k.u) k.off ⟨.ab k.t,[]⟩) (some (ca k.u)) (.same (.ab k.t) (cI k.u (ca k.u) k.off (.ab k.t)) (some (show(ag.ab k.t).el from[])) .nil))
   |none=>.nil
  |_,_,_=>.nil
 |_=>.nil
def ix(lb:List (aF P G))(E:Env)(q:af)(aa:Oper):eN:=
 let st:=gR (uA q (gM E aa.op)) (gM E aa.op)
 match aa.op with
 |.binOp lc _ x y _=>match dm st x,dm st y with
  |some a,some b=>TL lc y a b
  |_,_=>.nil
 |.convert src ld x=>Tw E.P st src ld x
 |.index _ x i=>match dm st x,dV (aR st i)with
  |some ⟨.str,s⟩,some n=>.t (.int .u8) (dZ s n) (fun b=>dZ s n=some b) (fun _ h=>h) (fun _=>.nil)
  |some ⟨.arr _ u,xs⟩,some n=>k8 (u:=u) xs n
  |_,_=>.nil
 |.indexAddr t x i=>match aR st x,dV (aR st i)with
  |some (.val (.ab u) xs),some n=>k8 (u:=u) xs n
  |some (.row r),some n=>match look st.rw r with
   |some c=>k8 c.xs n
   |none=>.nil
  |some (.vptr (.arr _ u) xs),some n=>k8 (u:=u) xs n
  |some (.dz _ _),some n=>match ty E.P t with
   |some (.arr R _)=>.k (0<=n/\n<(R:Int)) inferInstance .nil
   |_=>.nil
  |some (.dN r i0 le lf),some n=>match look st.rw r,ty E.P t with
   |some c,some (.arr R u)=>match c.t.beq u&&(i0==0&&(Nat.beq le 0&&Nat.beq lf c.t.cells))with
    |true=>.t c.t (aq c.xs n) (fun y=>aq c.xs n=some y) (fun _ h=>h) (fun _=>.k (c.xs.length=R) inferInstance .nil)
    |false=>.nil
   |_,_=>.nil
  |some (.osl b),some n=>match look st.ad b with
   |some (.aZ _ _ xs)=>.k (0<=n/\n<(xs.length:Int)) inferInstance .nil
   |some (.bp _ _ xs _)=>.k (0<=n/\n<(xs.length:Int)) inferInstance .nil
   |_=>.nil
  |some (.sub b i0),some n=>match look st.ad b with
   |some (.bp _ k xs none)=>.t k.u (aq xs i0) (fun y=>aq xs i0=some y) (fun _ h=>h) fun o=>match cI k.u o k.off (.ab k.t)with
    |some L=>.k (0<=n/\n<((eR L).length:Int)) inferInstance .nil
    |none=>.nil
   |_=>.nil
  |_,_=>.nil
 |.load _ x=>match aR st x with
  |some (.dM b i _ _)=>match look st.ad b with
   |some (.bp _ k xs none)=>k8 (u:=k.u) xs i
   |_=>.nil
  |some (.eV b i j _ _)=>match look st.ad b with
   |some (.bp _ k xs none)=>In k xs i j fun _ _ _=>.nil
   |_=>.nil
  |some (.dN r i _ _)=>match look st.rw r with
   |some c=>k8 c.xs i
   |none=>.nil
  |some (.dz b p)=>match look st.ad b with
   |some (.aT t x _)=>uQ t x p
   |_=>.nil
  |_=>.nil
 |.store _ x v=>match aR q x with
  |some (.dM b i off _)=>match look q.ad b,aR q v with
   |some (.bp _ k xs none),some (.val W z)=>.t k.u (aq xs i) (fun y=>aq xs i=some y) (fun _ h=>h) fun o=>match cp k.u o off ⟨W,z⟩,cp k.u o k.off ⟨.ab k.t,[]⟩with
    |some O,some U=>.same k.u (cp k.u O k.off ⟨.ab k.t,[]⟩) (some ((cp k.u U off ⟨W,z⟩).getD U)) (.same (.ab k.t) (cI k.u O k.off (.ab k.t)) (cI k.u o k.off (.ab k.t)) .nil)
    |_,_=>.nil
   |some (.bp _ k xs h),some (.row r)=>match look q.rw r with
    |some c=>match ak.as ⟨.ab c.t,c.xs⟩ (.ab k.t)with
     |some L=>.t k.u (aq xs i) (fun y=>aq xs i=some y) (fun _ h=>h) fun o=>match cp k.u o k.off ⟨.ab k.t,L⟩with
      |some O=>.same k.u (cp k.u O k.off ⟨.ab k.t,[]⟩) (cp k.u o k.off ⟨.ab k.t,[]⟩) (.same (.ab k.t) (cI k.u O k.off (.ab k.t)) (some L) (match h with
       |none=>.nil
       |some i0=>.e (.int .i64) (some i0) (some i) (i0=i) Option.some.inj .nil))
      |none=>.nil
     |none=>.nil
    |none=>.nil
   |_,_=>.nil
  |some (.eV b i j off _)=>match look q.ad b,aR q v with
   |some (.bp _ k xs none),some (.val W z)=>In k xs i j fun o L z0=>match cp k.t z0 off ⟨W,z⟩with
    |some la=>match cp k.u o k.off ⟨.ab k.t,(eR L).set j.toNat la⟩with
     |some O=>.same k.u (cp k.u O k.off ⟨.ab k.t,[]⟩) (cp k.u o k.off ⟨.ab k.t,[]⟩) (.same (.ab k.t) (cI k.u O k.off (.ab k.t)) (some ((eR L).set j.toNat la)) .nil)
     |none=>.nil
    |none=>.nil
   |_,_=>.nil
  |some (.dN r i _ _)=>match look q.rw r with
   |some c=>k8 c.xs i
   |none=>.nil
  |some (.dz b p)=>match look q.ad b with
   |some (.aT t x _)=>uQ t x p
   |_=>.nil
  |some (.fC b n)=>match look q.ad b with
   |some (.aZ _ _ xs)=>.k (0<=n/\n<(xs.length:Int)) inferInstance .nil
   |_=>.nil
  |_=>.nil
 |.slice _ x Y Z none=>match aR st x with
  |some (.val .str s)=>match dv.rb st Y,dv.pt st Z (List.length (α:=UInt8) s)with
   |some l,some h=>.t .str (dx (show List UInt8 from s) l h) (fun y=>dx (show List UInt8 from s) l h=some y) (fun _ h=>h) (fun _=>.nil)
   |_,_=>.nil
  |some (.val (.ab u) xs)=>match dv.rb st Y,dv.pt st Z (List.length (α:=u.el) xs)with
   |some l,some h=>.t (.ab u) (dx (show List u.el from xs) l h) (fun y=>dx (show List u.el from xs) l h=some y) (fun _ h=>h) (fun _=>.nil)
   |_,_=>.nil
  |some (.row r)=>match look st.rw r,Z with
   |some c,some h=>match dV (aR st h)with
    |some n=>.k (0<=n/\n<=(c.xs.length:Int)) inferInstance .nil
    |none=>.nil
   |_,_=>.nil
  |some (.dN r _ _ _)=>match look st.rw r,Y with
   |some c,some l=>match dV (aR st l),pS E.P (match aa.op with|.slice t _ _ _ _=>t|_=>0)with
    |some n,some (R,_)=>.t (.ab c.t) (dx c.xs n (c.xs.length:Int)) (fun y=>dx c.xs n (c.xs.length:Int)=some y) (fun _ h=>h) (fun _=>.k (c.xs.length=R) inferInstance .nil)
    |_,_=>.nil
   |_,_=>.nil
  |_=>.nil
 |.makeSlice _ l c=>match dV (aR st l),dV (aR st c)with
  |some n,some k=>.k (0<=n/\n<=k/\k<=(br:Int)) inferInstance .nil
  |_,_=>.nil
 |.buildSlice t _ ps=>match ps.toList with
  |[(0,x)]=>match aR st x,dO E.P t with
   |some (.eO l),some (e,_)=>match nz E.P e with
    |some k=>match l[k.off]?,nq k.off k.t 0 l with
     |some (.r r),some lg=>match look st.rw r,pack k.u lg with
      |some c,some (U,[])=>match ak.as ⟨.ab c.t,c.xs⟩ (.ab k.t)with
       |some L=>match cp k.u U k.off ⟨.ab k.t,L⟩with
        |some o=>.same k.u (cp k.u o k.off ⟨.ab k.t,[]⟩) (some U) (.same (.ab k.t) (cI k.u o k.off (.ab k.t)) (some L) .nil)
        |none=>.nil
       |none=>.nil
      |_,_=>.nil
     |_,_=>.nil
    |none=>.nil
   |_,_=>.nil
  |_=>.nil
 |.call c=>V2 lb E st c
 |_=>.nil
variable {cx:bB} {st st':af} {T:Array Value} {w:World} {E:Env} {Q:cO} {ops:Array Oper} {l:List Oper}
variable [ai cx]
def eQ(P:Program)(G:World->Prop)(al:Type):=af->bd P G al->List cu->bt al
def fin(E:Env)(st:af)(aa:Oper)(k:eQ P G al)(orc:List ak)(ps:List Prop)(h:bd P G al)(o:List cu):bt al:=
 match kE E st aa orc with
 |some (st',[],ob)=>.ff ob ps (k st' h o)
 |_=>.ret none
def o3(R:List (aF P G))(E:Env)(st:af)(aa:Oper)(h:bd P G al)(q:List cu)(k:eQ P G al):bt al:=
 match Bl aa.op,h with
 |true,.ci L h=>match yc st aa L.f with
  |some r=>match look st.rw r with
   |some c=>match ak.as ⟨.ab c.t,c.xs⟩ (.ab L.t),Nat.beq c.e L.e with
    |some xs,true=>match CT st aa E.n r ⟨L.e,L.t,L.fn xs⟩with
     |some st'=>k st' h q
     |none=>.ret none
    |_,_=>.ret none
   |none=>.ret none
  |none=>.ret none
 |true,.bI o ρ ρ' U=>match ny E st aa o.F.n o.f ρ with
  |some O=>match o.X O with
   |some x=>.eqs (some O) (some (o.F.S x)) (.ask (o.fn x) fun y=>match iS st (o.F.bJ x y) aa o.F.n E.n ρ ρ' (o.F.ap x y)with
    |some st'=>k st' (U y) q
    |none=>.ret none)
   |none=>.ret none
  |none=>.ret none
 |true,.FJ o i j ρ ρ' U=>match ghost E.P st aa i j with
  |some W=>match yh E W aa o.F.n o.f ρ i j with
   |some O=>match o.X O with
    |some x=>.eqs (some O) (some (o.F.S x)) (.ask (o.fn x) fun y=>match iS W (o.F.bJ x y) aa o.F.n E.n ρ ρ' (o.F.ap x y)with
     |some st'=>k st' (U y) q
     |none=>.ret none)
    |none=>.ret none
   |none=>.ret none
  |none=>.ret none
 |_,h=>match HC aa.op with
  |true=>match h with
   |.mk h=>eS (H1 E st aa) h q [⟨.unit,()⟩] [] (fin E st aa k)
   |h=>eS (ix R E st aa) h.dec q [] [] (fin E st aa k)
  |false=>match aa.op with
  |.next x true=>match aR st x with
   |some (.iter b)=>match look st.ad b with
    |some (.iter s p)=>.ite (decide (p<s.length)) (fin E st aa k [gE true] [p<s.length] h.fork.1 q) (fin E st aa k [gE false] [s.length<=p] h.fork.2 q)
    |_=>.ret none
   |_=>.ret none
  |_=>match h with
   |.un d h=>match Nat.beq (aa.dst.getD 0) d with
    |true=>eS (ix R E st aa) h q [⟨.unit,()⟩] [] (fin E st aa k)
    |false=>eS (ix R E st aa) (.un d h) q [] [] (fin E st aa k)
   |h=>eS (ix R E st aa) h q [] [] (fin E st aa k)
def rp(o:List (aF P G))(E:Env)(st:af)(aa:Oper)(h:bd P G al)(q:List cu)(k:eQ P G al):bt al:=
 match Bl aa.op,h with
 |true,.jT r h'=>match look st.rw r,aa.guard with
  |some c,none=>o3 o E (st.freeze r c) aa h' q k
  |_,_=>.ret none
 |_,.BD n d h'=>match Nat.beq (aa.dst.getD 0) n with
  |true=>match EM E.P st d,aa.guard with
   |some st',none=>o3 o E st' aa h' q k
   |_,_=>.ret none
  |false=>o3 o E st aa (.BD n d h') q k
 |_,h=>o3 o E st aa h q k
def rQ(ops:Array Oper)(st:af)(g:Nat×Bool):Option (Nat×Bool):=
 match(ops[g.1]?).bind (·.dst)with
 |some d=>match look st.ab d with
  |some (.val .bool b)=>some (d,b)
  |_=>none
 |none=>none
def h8(st:af)(o:Nat):af:={st with ab:=del st.ab o}
def nY(cP:List Oper->af->Option (af×List ak×List Prop))(l:List Oper)(st:af)(o:Nat)(b:Bool)(d:Nat):Option (af×Bool):=
 match cP l (gr st o b)with
 |some (s,[],[])=>match look s.ab d with
  |some (.val .bool x)=>match s.norm (d::cU (del (h8 st o).ab d)) (cU st.ad) (cU st.rw)with
   |some q=>some (q,x)
   |none=>none
  |_=>none
 |_=>none
def nJ(o:List gB)(S:fp o->af)(q:fp o->Option al)(st:af):bt al:=
 match bu st o with
 |some z=>.eqs (st.norm (cU (S z).ab) (cU (S z).ad) (cU (S z).rw)) (some (S z)) (.ret (q z))
 |none=>.ret none
def pp(o:af)(d:Nat)(q:Bool->Option al)(st:af):bt al:=
 match look st.ab d with
 |some (.val .bool v)=>.eqs (st.norm (d::cU (del o.ab d)) (cU o.ad) (cU o.rw)) (some (o.put d (.val .bool v))) (.ret (q v))
 |_=>.ret none
def wH(l:List Oper)(m:Nat):Option Nat:=match l[m]? with
 |some aa=>aa.dst
 |none=>none
abbrev ry(P:Program)(G:World->Prop)(al:Type):=af->Oper->bd P G al->List cu->eQ P G al->bt al
def fN(q:Nat)(eT:af->List Oper->Option (af×List Oper))(step:ry P G al)(cP:List Oper->af->Option (af×List ak×List Prop))(ops:Array Oper):Nat->List Oper->af->bd P G al->List cu->eQ P G al->bt al
 |0,_,_,_,_,_=>.ret none
 |n+1,le,st,h,L,K=>match le with
  |[]=>K st h L
  |aa::l=>match aa.guard with
   |none=>match eT st (aa::l)with
    |some (st',lf)=>fN q eT step cP ops n lf st' h L K
    |none=>step st aa h L fun st' h' Y=>fN q eT step cP ops n l st' h' Y K
   |some g=>match h with
    |.bh m h'=>match rQ ops st g,wH (aa::l) m with
     |some (o,b),some d=>match nY cP ((aa::l).take (m+1)) st o true d,nY cP ((aa::l).take (m+1)) st o false d with
      |some (Z,R),some (la,U)=>.eqs (some (gr st o b)) (some st) (.eqs (some Z) (some ((h8 st o).put d (.val .bool R))) (.eqs (some la) (some ((h8 st o).put d (.val .bool U)))
        (fN q eT step cP ops n (l.drop m) ((h8 st o).put d (.val .bool (bif b then R else U))) h' L K)))
      |_,_=>.ret none
     |_,_=>.ret none
    |.Lv m O W=>match rQ ops st g,wH (aa::l) m with
     |some (o,b),some d=>match nY cP ((aa::l).take (m+1)) st o true d,nY cP ((aa::l).take (m+1)) st o false d with
      |some (Z,R),some (la,U)=>.eqs (some (gr st o b)) (some st) (.eqs (some Z) (some ((h8 st o).put d (.val .bool R))) (.eqs (some la) (some ((h8 st o).put d (.val .bool U)))
        (.fF (fun v=>fN q eT step cP ops n (l.drop m) ((h8 st o).put d (.val .bool v)) (W v) [] K) O (.ret (O (bif b then R else U))))))
      |_,_=>.ret none
     |_,_=>.ret none
    |.g m O lb lc W=>match rQ ops st g,wH (aa::l) m with
     |some (o,b),some d=>.eqs (some (gr st o b)) (some st) (.fF (fun v=>fN q eT step cP ops n (l.drop m) ((h8 st o).put d (.val .bool v)) (W v) [] K) O
       (.ite b (fN q eT step cP ops n ((aa::l).take (m+1)) (gr st o true) lb L fun st' _ _=>pp (h8 st o) d O st')
        (fN q eT step cP ops n ((aa::l).take (m+1)) (gr st o false) lc L fun st' _ _=>pp (h8 st o) d O st')))
     |_,_=>.ret none
    |.iO m ld S O lb lc W=>match rQ ops st g with
     |some (o,b)=>.eqs (some (gr st o b)) (some st) (.fF (fun z=>fN q eT step cP ops n (l.drop m) (S st z) (W z) [] K) O
       (.ite b (fN q eT step cP ops n ((aa::l).take (m+1)) (gr st o true) lb L fun st' _ _=>nJ ld (S st) O st')
        (fN q eT step cP ops n ((aa::l).take (m+1)) (gr st o false) lc L fun st' _ _=>nJ ld (S st) O st')))
     |none=>.ret none
    |h=>match eb ops st aa with
     |some true=>step st aa h.dec L fun st' h' Y=>fN q eT step cP ops n l st' h' Y K
     |some false=>match aa.dst with
      |some d=>match Nat.blt d q with
       |true=>fN q eT step cP ops n l (st.put d .undef) h.dec L K
       |false=>.ret none
      |none=>fN q eT step cP ops n l st h.dec L K
     |none=>.ret none
def Hq(E:Env)(st:af)(aa:Oper)(d:Nat)(k:eQ P G al)(orc:List ak)(ps:List Prop)(h:bd P G al)(o:List cu):bt al:=
 match fE E st aa orc with
 |some ⟨aO,[],ob⟩=>.ff ob ps (k (st.put d aO) h o)
 |_=>.ret none
def Ak(o:List (aF P G))(E:Env):ry P G al:=fun st aa h q k=>
 match aa.dst with
 |some d=>match Nat.blt d E.n with
  |true=>eS (ix o E st aa) h q [] [] (Hq E st aa d k)
  |false=>.ret none
 |none=>.ret none
def F9(E:Env)(st:af)(aa:Oper)(d:Nat)(k:eQ P G al)(orc:List ak)(ps:List Prop)(h:bd P G al)(o:List cu):bt al:=
 match fE E st aa orc with
 |some ⟨aO,[],ob⟩=>match sG E.P aa aO with
  |true=>.ff ob ps (k (st.put d aO) h o)
  |false=>.ret none
 |_=>.ret none
def w6(o:List (aF P G))(E:Env):ry P G al:=fun st aa h q k=>
 match aa.dst with
 |some d=>match Nat.blt d E.n with
  |true=>eS (ix o E st aa) h q [] [] (F9 E st aa d k)
  |false=>.ret none
 |none=>.ret none
def mF(o:List (aF P G))(E:Env)(ops:Array Oper)(l:List Oper):af->bd P G al->List cu->eQ P G al->bt al:=fN E.n (ut E) (rp o E) (fun l st=>fw E ops l st []) ops 5000 l
def mG(o:List (aF P G))(E:Env)(ops:Array Oper)(l:List Oper):af->bd P G al->List cu->eQ P G al->bt al:=fN E.n (fun _ _=>none) (Ak o E) (fun l st=>fX E ops l st []) ops 5000 l
def sD(o:List (aF P G))(E:Env)(ops:Array Oper)(l:List Oper):af->bd P G al->List cu->eQ P G al->bt al:=fN E.n (fun _ _=>none) (w6 o E) (fun _ _=>none) ops 5000 l
def qS(o:List (aF P G))(E:Env)(ops:Array Oper)(aa:Oper)(d:Nat)(orc:List ak)(ps:List Prop)(L:List Nat)(K:eQ P G al):List Nat->af->bd P G al->List cu->bt al
 |[],st,h,q=>mF o E ops (bE ops L) st h q K
 |c::R,st,h,q=>match ops[c]? with
  |some O=>match eb ops st O with
   |some true=>rp o E st O h q fun st' h' U=>match fE E st' aa orc,look st'.ab d with
    |some r,some aO=>match nj aO with
     |true=>.eqs (some ⟨[(d,r.aO)],[],[]⟩) (some ⟨[(d,aO)],[],[]⟩) (.ff r.ob ps (qS o E ops aa d orc ps L K R st' h' U))
     |false=>.ret none
    |_,_=>.ret none
   |_=>.ret none
  |none=>.ret none
def KE(q:List (aF P G))(E:Env)(aa:Oper)(d:Nat)(K:List ak->List Prop->eQ P G al):eQ P G al:=fun st h o=>
 eS (ix q E st aa) h o [] [] fun orc ps h o=>match fE E st aa orc with
  |some r=>.ff r.ob ps (K orc ps (st.put d r.aO) h o)
  |none=>.ret none
def uJ(q:List (aF P G))(E:Env)(ops:Array Oper)(K:eQ P G al):List Nat->af->bd P G al->List cu->bt al
 |[],st,h,o=>K st h o
 |c::C,st,h,o=>match ops[c]? with
  |some aa=>match eb ops st aa,aa.dst with
   |some true,some d=>match Nat.blt d E.n with
    |true=>eS (ix q E st aa) h o [] [] fun orc ps h o=>match tV E st aa orc with
     |some ⟨aO,_,ob⟩=>.ff ob ps (uJ q E ops K C (st.put d aO) h o)
     |none=>.ret none
    |false=>.ret none
   |_,_=>.ret none
  |none=>.ret none
/-! Regions gone through in any order. -/
inductive fi(P:Program)(G:World->Prop):Type 1
 |aa (orc:List ak) (ps:List Prop)
 |b {α β:Type} (z:Option Nat) (o:cD P G α β) (ρ ρ':List (Nat×Nat)) (x:α) (y:β)
def nC:fi P G->Prop
 |.aa _ ps=>bO ps
 |.b _ o _ _ x y=>o.fn x=some y
def px(st:af):Option Nat->Option af
 |none=>some st
 |some r=>match look st.rw r with
  |some c=>some (st.freeze r c)
  |none=>none
def isAny:ao->Bool
 |.any=>true
 |_=>false
def Ly(s:af):Option af:=s.norm (cU (s.ab.filter fun p=>!isAny p.2)) (cU s.ad) (cU s.rw)
def WL(E:Env)(st:af)(aa:Oper):fi P G->Option af
 |.aa orc _=>match kE E st aa orc with
  |some (st',[],_)=>Ly st'
  |_=>none
 |.b z o ρ ρ' x y=>match px st z with
  |some st=>match iS st (o.F.bJ x y) aa o.F.n E.n ρ ρ' (o.F.ap x y)with
   |some st'=>Ly st'
   |none=>none
  |none=>none
def qu:List (Nat×fi P G)->Nat->Option (fi P G)
 |[],_=>none
 |(k,v)::r,n=>bif Nat.beq k n then some v else qu r n
def nE(E:Env)(ops:Array Oper)(o:List (Nat×fi P G))(st:af):List Nat->Option af
 |[]=>some st
 |i::q=>match nE E ops o st q with
  |some s=>match ops[i]?,qu o i with
   |some aa,some dh=>WL E s aa dh
   |_,_=>none
  |none=>none
def yM(E:Env)(s:af)(aa:Oper)(t:af)(rest:bt al):fi P G->bt al
 |.aa orc ps=>match kE E s aa orc with
  |some (q,[],ob)=>.eqs (q.norm (cU t.ab) (cU t.ad) (cU t.rw)) (some t) (.ff ob ps rest)
  |_=>.ret none
 |.b z o ρ ρ' x y=>match px s z with
  |some s=>match ny E s aa o.F.n o.f ρ,iS s (o.F.bJ x y) aa o.F.n E.n ρ ρ' (o.F.ap x y)with
   |some L,some q=>.eqs (some L) (some (o.F.S x)) (.eqs (q.norm (cU t.ab) (cU t.ad) (cU t.rw)) (some t) rest)
   |_,_=>.ret none
  |none=>.ret none
def rO(E:Env)(ops:Array Oper)(o:List (Nat×fi P G))(st:af):List (List Nat×Nat)->bt al->bt al
 |[],rest=>rest
 |(q,i)::l,rest=>match nE E ops o st q,nE E ops o st (kZ i q),ops[i]?,qu o i with
  |some s,some t,some aa,some dh=>match aa.guard with
   |none=>yM E s aa t (rO E ops o st l rest) dh
   |some _=>.ret none
  |_,_,_,_=>.ret none
def mZ(E:Env)(st:af)(aa:Oper)(K:af->bd P G al->List cu->fi P G->bt al)(orc:List ak)(ps:List Prop)(h:bd P G al)(o:List cu):bt al:=
 match kE E st aa orc with
 |some (st',[],_)=>K st' h o (.aa orc ps)
 |_=>.ret none
def vN(E:Env)(st:af)(aa:Oper)(z:Option Nat)(h:bd P G al)(L:List cu)(K:af->bd P G al->List cu->fi P G->bt al):bt al:=
 match h with
 |.bI o ρ ρ' O=>match px st z with
  |some st=>match ny E st aa o.F.n o.f ρ with
   |some q=>match o.X q with
    |some x=>.eqs (some q) (some (o.F.S x)) (.ask (o.fn x) fun y=>match iS st (o.F.bJ x y) aa o.F.n E.n ρ ρ' (o.F.ap x y)with
     |some st'=>K st' (O y) L (.b z o ρ ρ' x y)
     |none=>.ret none)
    |none=>.ret none
   |none=>.ret none
  |none=>.ret none
 |_=>.ret none
def xl(q:List (aF P G))(E:Env)(st:af)(aa:Oper)(h:bd P G al)(o:List cu)(K:af->bd P G al->List cu->fi P G->bt al):bt al:=
 match Bl aa.op,h with
 |true,.jT r h'=>vN E st aa (some r) h' o K
 |true,.bI L ρ ρ' O=>vN E st aa none (.bI L ρ ρ' O) o K
 |_,h=>match HC aa.op with
  |true=>match h with
   |.mk h=>eS (H1 E st aa) h o [⟨.unit,()⟩] [] (mZ E st aa K)
   |h=>eS (ix q E st aa) h.dec o [] [] (mZ E st aa K)
  |false=>match h with
   |.un d h=>match Nat.beq (aa.dst.getD 0) d with
    |true=>eS (ix q E st aa) h o [⟨.unit,()⟩] [] (mZ E st aa K)
    |false=>eS (ix q E st aa) (.un d h) o [] [] (mZ E st aa K)
   |h=>eS (ix q E st aa) h o [] [] (mZ E st aa K)
def sm(L:List (aF P G))(E:Env)(ops:Array Oper):List Nat->af->bd P G al->List cu->List (Nat×fi P G)->(bd P G al->List cu->List (Nat×fi P G)->bt al)->bt al
 |[],_,h,o,q,K=>K h o q
 |i::is,st,h,o,q,K=>match ops[i]? with
  |some aa=>xl L E st aa h o fun st' h' O dh=>sm L E ops is st' h' O ((i,dh)::q) K
  |none=>.ret none
def Sv(ops:Array Oper)(q:List (List Nat)):List (List Nat×Nat):=q.flatMap fun o=>(Region.ready .any ops (kL ops.size o)).map fun i=>(o,i)
def wV(L:List (aF P G))(E:Env)(ops:Array Oper)(o:List (List Nat))(st:af)(h:bd P G al)(O:List cu)(K:eQ P G al):bt al:=
 match E.P.follows .mixedOrders,Cp .any ops (List.range ops.size).reverse o with
 |true,true=>sm L E ops (List.range ops.size) st h O [] fun h' R q=>match nE E ops q st (List.range ops.size).reverse with
  |some t=>rO E ops q st (Sv ops o) (K t h' R)
  |none=>.ret none
 |_,_=>.ret none
abbrev jE(P:Program)(G:World->Prop)(al:Type):=Exit->af->bd P G al->List cu->bt al
def pi(h:bd P G al)(st:af):Option af:=match h with
 |.fb o bs ap ρ=>(st.norm o bs ap).bind (·.bZ ρ)
 |_=>some st
def ends(a:af->bt al)(K:jE P G al):jE P G al:=fun e st h o=>match e with
 |.normal=>match pi h st with
  |some s=>a s
  |none=>.ret none
 |e=>K e st h o
def qO(q:List (aF P G))(E:Env)(ops:Array Oper)(U:Bool)(st:af)(h:bd P G al)(L:List cu)(K:jE P G al):bt al:=
 match U with
  |false=>mF q E ops ops.toList st h L fun st' h' o=>K .normal st' h' o
  |true=>match h with
   |.je m h'=>match E.P.follows .mixedOrders,Region.lexTailB .any ops m with
    |true,true=>mG q E ops (ops.toList.take m) st h' L fun st' h' o=>mF q E ops (ops.toList.drop m) st' h' o fun st' h' o=>K .normal st' h' o
    |_,_=>.ret none
   |.fO a b c h'=>match E.P.follows .mixedOrders,EA .any ops a b c,Nat.beq (a.length+(b.length+c.length)) ops.toList.length with
    |true,true,true=>sD q E ops (bE ops a) st h' L fun st' h' o=>mG q E ops (bE ops b) st' h' o fun st' h' o=>mF q E ops (bE ops c) st' h' o fun st' h' o=>K .normal st' h' o
    |_,_,_=>.ret none
   |.se a b i c c2 h'=>match ops.toList[i]? with
    |some aa=>match aa.dst,aa.guard,ii aa&&(!(aa.looksAt ops.toList.toArray).contains (aa.dst.getD 0)&&(Nat.blt (aa.dst.getD 0) E.n&&Nat.beq (a.length+(b.length+(c.length+c2.length+1))) ops.toList.length)),E.P.follows .mixedOrders,oM .any ops a b i c c2 with
     |some d,none,true,true,true=>sD q E ops (bE ops a) st h' L fun st' h' o=>mG q E ops (bE ops b) st' h' o (KE q E aa d fun orc ps st' h' o=>qS q E ops aa d orc ps c2 (fun st' h' o=>K .normal st' h' o) c st' h' o)
     |_,_,_,_,_=>.ret none
    |none=>.ret none
   |.pa a b c2 c3 O c5 R h'=>match E.P.follows .mixedOrders,Cm .any ops a b c2 c3 O c5 R,Nat.beq (a.length+(b.length+5)) ops.toList.length,tz ops.toList.toArray c2 c3 O c5 R with
    |true,true,true,some C=>sD q E ops (bE ops a) st h' L fun st' h' o=>mG q E ops (bE ops b) st' h' o fun st' h' o=>match zw E st' C with
     |some st'=>K .normal st' h' o
     |none=>.ret none
    |_,_,_,_=>.ret none
   |.md a b c d h'=>match E.P.follows .mixedOrders,BP .any ops a b c d,Nat.beq (a.length+(b.length+(c.length+d.length))) ops.toList.length with
    |true,true,true=>sD q E ops (bE ops a) st h' L fun st' h' o=>mG q E ops (bE ops b) st' h' o fun st' h' o=>mF q E ops (bE ops c) st' h' o fun st' h' o=>
      mG q E ops (bE ops d) st' h' o fun st' h' o=>K .normal st' h' o
    |_,_,_=>.ret none
   |.aK b c h'=>match E.P.follows .mixedOrders,tJ .any ops b c,Nat.beq (b.length+c.length) ops.toList.length with
    |true,true,true=>mG q E ops (bE ops b) st h' L fun st' h' o=>uJ q E ops (fun st' h' o=>K .normal st' h' o) c st' h' o
    |_,_,_=>.ret none
   |.dh W h'=>wV q E ops W st h' L fun st' h' o=>K .normal st' h' o
   |h=>match E.P.follows .mixedOrders,Region.lexB .any ops with
    |true,true=>mG q E ops ops.toList st h.dec L fun st' h' o=>K .normal st' h' o
    |_,_=>.ret none
def run(q:List (aF P G))(E:Env):Code->af->bd P G al->List cu->jE P G al->bt al
 |.skip,st,h,o,K=>K .normal st h o
 |.exit id,st,h,o,K=>K (.exit id) st h o
 |.ret,st,h,o,K=>K .ret st h o
 |.block id c,st,h,o,K=>run q E c st h o fun e st' h' L=>match e with
  |.normal=>K .normal st' h' L
  |.ret=>K .ret st' h' L
  |.exit i=>match Nat.beq i id with
   |true=>K .normal st' h' L
   |false=>K (.exit i) st' h' L
  |_=>.ret none
 |.seq x y,st,h,o,K=>match h with
  |.j O S U Y Z=>.fF (fun z=>run q E y (S st z) (Z z) [] K) U (run q E x st Y o (ends (nJ O (S st) U) K))
  |h=>run q E x st h.dec o fun e st' h' L=>match e with
   |.normal=>run q E y st' h' L K
   |e=>K e st' h' L
 |.cond c x y,st,h,o,K=>match aR st c with
  |some (.val .bool b)=>match h with
   |.T h'=>.jq b true (run q E x st h' o K)
   |.F h'=>.jq b false (run q E y st h' o K)
   |h=>.ite b (run q E x st h.fork.1 o K) (run q E y st h.fork.2 o K)
  |_=>.ret none
 |.loop c,st,h,_,K=>match h with
  |.bg O S F k la=>match bu st O with
   |some z0=>.hd (fun W z=>run q E c (S st z) (la W z) [] (ends (nJ O (S st) W) K)) F (.eqs (st.norm (cU (S st z0).ab) (cU (S st z0).ad) (cU (S st z0).rw)) (some (S st z0)) (.ret (F k z0)))
   |none=>.ret none
  |_=>.ret none
 |.region _ ops R,st,h,o,K=>match h with
  |.az r h'=>match look st.rw r with
   |some c=>qO q E ops R (st.freeze r c) h' o K
   |none=>.ret none
  |.gp lb bs ap h'=>match st.norm lb bs ap with
   |some st'=>qO q E ops R st' h' o K
   |none=>.ret none
  |h=>qO q E ops R st h o K
 |_,_,_,_,_=>.ret none
end Go.Ev
namespace Go.Ev
open Go Go.RowKit
variable [b8]
variable {al:Type} {P:Program} {G:World->Prop}
variable {cx:bB} {st st':af} {T:Array Value} {w:World} {E:Env} {Q:cO} {ops:Array Oper} {l:List Oper}
variable [ai cx]
theorem tB(o:bv E cx){aa:Oper}(q:eb ops st aa=some true){orc:List ak}{ob:List Prop}(L:kE E st aa orc=some (st',[],ob))(O:bO ob)(h:bN cx ops Q l st'):bN cx ops Q (aa::l) st:=by
 refine rH o 1 (orc:=orc) (ob:=ob++[]) ?_ (by rw[List.append_nil];exact O) h
 show fw E ops [aa] st orc=_
 unfold fw
 rw[q]
 simp only[L,fw]
theorem DB{r:al}{aa:Oper}{k:eQ P G al}{orc:List ak}{ps:List Prop}{h:bd P G al}{q:List cu}(o:bA (fin E st aa k orc ps h q) r)(L:bO ps):
  ∃st' ob,kE E st aa orc=some (st',[],ob)/\bO ob/\bA (k st' h q) r:=by
 unfold fin at o
 split at o
 ·rename_i st' ob O
  obtain⟨e,R⟩:=o.ff
  exact⟨st',_,O,e▸L,R⟩
 ·exact o.no
theorem rV{ld:List (aF P G)}{cw:Nat}(O:bv (cl P G cw ld) cx){r:al}{aa:Oper}{h:bd P G al}{le:List cu}{k:eQ P G al}(R:eb ops st aa=some true)(U:cF le)
  (o:bA (o3 ld (cl P G cw ld) st aa h le k) r)(W:∀st' h' lf,cF lf->bA (k st' h' lf) r->bN cx ops Q l st'):bN cx ops Q (aa::l) st:=by
 unfold o3 at o
 split at o
 ·rename_i lj h' _
  split at o
  ·rename_i lk Y
   split at o
   ·rename_i c ll
    split at o
    ·rename_i xs lm ln
     split at o
     ·rename_i st' Z
      have lo:=Ax (Nat.eq_of_beq_eq_true ln) lm
      subst lo
      exact N4 O lj.ok xs (lj.fn xs) rfl lk R Y ll Z (W _ _ _ U o)
     ·exact o.no
    ·exact o.no
   ·exact o.no
  ·exact o.no
 ·rename_i α β la ρ ρ' lp _
  split at o
  ·rename_i lq Y
   split at o
   ·rename_i x lr
    obtain⟨e,lg⟩:=o.eqs
    obtain⟨y,lh,L⟩:=lg.ask
    split at L
    ·rename_i st' Z
     exact ED O la.ok x y (la.rel x y lh) rfl R (Y.trans e) Z (W _ _ _ U L)
    ·exact L.no
   ·exact o.no
  ·exact o.no
 ·rename_i α β la i j ρ ρ' lp _
  split at o
  ·rename_i lv ls
   split at o
   ·rename_i lq Y
    split at o
    ·rename_i x lr
     obtain⟨e,lg⟩:=o.eqs
     obtain⟨y,lh,L⟩:=lg.ask
     split at L
     ·rename_i st' Z
      exact Vt O la.ok x y (la.rel x y lh) rfl ls R (Y.trans e) Z (W _ _ _ U L)
     ·exact L.no
    ·exact o.no
   ·exact o.no
  ·exact o.no
 ·have last:∀{orc:List ak} {q:eN} {h:bd P G al},bA (eS q h le orc [] (fin (cl P G cw ld) st aa k)) r->bN cx ops Q (aa::l) st:=fun o=>by
   obtain⟨orc,ps,h',lf,lt,lu,o⟩:=jc (ps:=[]) _ U trivial o
   obtain⟨st',ob,lb,lc,o⟩:=DB o lt
   exact tB O R lb lc (W _ _ _ lu o)
  split at o
  ·split at o
   ·exact last o
   ·exact last o
  split at o
  ·split at o
   ·split at o
    ·rcases o.ite with ⟨li,o⟩|⟨li,o⟩
     ·obtain⟨st',ob,lb,lc,o⟩:=DB o ⟨of_decide_eq_true li,trivial⟩
      exact tB O R lb lc (W _ _ _ U o)
     ·obtain⟨st',ob,lb,lc,o⟩:=DB o ⟨Nat.le_of_not_lt (of_decide_eq_false li),trivial⟩
      exact tB O R lb lc (W _ _ _ U o)
    ·exact o.no
   ·exact o.no
  ·split at o
   ·split at o
    ·exact last o
    ·exact last o
   ·exact last o
theorem qq{aa:Oper}(h:aa.guard=none):eb ops st aa=some true:=by unfold eb;rw[h]
theorem Hg{R:List (aF P G)}{cw:Nat}(q:bv (cl P G cw R) cx){r:al}{aa:Oper}{h:bd P G al}{Y:List cu}{k:eQ P G al}(Z:eb ops st aa=some true)(L:cF Y)
  (o:bA (rp R (cl P G cw R) st aa h Y k) r)(O:∀st' h' la,cF la->bA (k st' h' la) r->bN cx ops Q l st'):bN cx ops Q (aa::l) st:=by
 unfold rp at o
 split at o
 ·split at o
  ·rename_i c lb U
   have:=rV (l:=l) (ops:=ops) (Q:=Q) q (qq U) L o O
   rintro T w ⟨m,W⟩
   exact this T w ⟨m,W.freeze (a8 lb)⟩
  ·exact o.no
 ·split at o
  ·split at o
   ·rename_i ld lc U
    have:=rV (l:=l) (ops:=ops) (Q:=Q) q (qq U) L o O
    rintro T w ⟨m,W⟩
    exact this T w ⟨m,Ug W lc⟩
   ·exact o.no
  ·exact rV q Z L o O
 ·exact rV q Z L o O
structure vH(cx:bB)(ops:Array Oper)(Y:Nat)(r:al)(q:Type)(W:q->List Oper->af->Prop)(N:q->af->Prop)(eT:af->List Oper->Option (af×List Oper))(step:ry P G al)(cP:List Oper->af->Option (af×List ak×List Prop)):Prop where
 nil:∀i st,N i st->W i [] st
 norm:∀i st st' o bs ap,st.norm o bs ap=some st'->N i st'->N i st
 na:∀i l st st' o bs ap,st.norm o bs ap=some st'->W i l st'->W i l st
 step:∀i aa l st h L (k:eQ P G al),eb ops st aa=some true->cF L->bA (step st aa h L k) r->(∀st' h' O,cF O->bA (k st' h' O) r->W i l st')->W i (aa::l) st
 undef:∀i aa l st,eb ops st aa=some false->(match aa.dst with
  |some d=>Nat.blt d Y=true/\W i l (st.put d .undef)
  |none=>W i l st)->W i (aa::l) st
 join:∀i n l st (A:Type) (F:A->Prop) (S:A->af),(∀a,F a->W i (l.drop n) (S a))->(∀R,(∀a,F a->N R (S a))->W R (l.take n) st)->W i l st
 eT:∀i l st st' U,eT st l=some (st',U)->W i U st'->W i l st
 cP:∀i m l st s,cP (l.take m) st=some (s,[],[])->W i (l.drop m) s->W i l st
theorem uw{cP:List Oper->af->Option (af×List ak×List Prop)}{l:List Oper}{st:af}{gs d:Nat}{b:Bool}{s:af}{x:Bool}(h:nY cP l st gs b d=some (s,x)):
  ∃o,cP l (gr st gs b)=some (o,[],[])/\o.norm (d::cU (del (h8 st gs).ab d)) (cU st.ad) (cU st.rw)=some s:=by
 unfold nY at h
 split at h
 ·rename_i o q
  split at h
  ·split at h
   ·rename_i O L
    cases h
    exact⟨o,q,L⟩
   ·cases h
  ·cases h
 ·cases h
theorem BX{r:al}{q:List gB}{S:fp q->af}{L:fp q->Option al}(o:bA (nJ q S L st) r):∃z,st.norm (cU (S z).ab) (cU (S z).ad) (cU (S z).rw)=some (S z)/\L z=some r:=by
 unfold nJ at o
 split at o
 ·rename_i z _
  obtain⟨O,o⟩:=o.eqs
  exact⟨z,O,o.den⟩
 ·exact o.no
theorem Qu{r:al}{q:af}{d:Nat}{L:Bool->Option al}(o:bA (pp q d L st) r):∃v,st.norm (d::cU (del q.ab d)) (cU q.ad) (cU q.rw)=some (q.put d (.val .bool v))/\L v=some r:=by
 unfold pp at o
 split at o
 ·rename_i v _
  obtain⟨O,o⟩:=o.eqs
  exact⟨v,O,o.den⟩
 ·exact o.no
theorem fI{ly:Nat}{r:al}{lk:Type}{W:lk->List Oper->af->Prop}{N:lk->af->Prop}{eT:af->List Oper->Option (af×List Oper)}{step:ry P G al}{cP:List Oper->af->Option (af×List ak×List Prop)}
  (X:vH cx ops ly r lk W N eT step cP):∀(n:Nat) {i:lk} {l:List Oper} {st:af} {h:bd P G al} {li:List cu} {K:eQ P G al},(∀st' h' la,cF la->bA (K st' h' la) r->N i st')->cF li->
   bA (fN ly eT step cP ops n l st h li K) r->W i l st:=by
 intro n
 induction n with
 |zero=>intro i l st h li K _ _ o;exact o.no
 |succ n O=>
  intro i l st h li K Z R o
  unfold fN at o
  split at o
  ·exact X.nil i st (Z _ _ _ R o)
  ·rename_i aa l
   have lz:∀(m U:Nat) (b:Bool) (i:lk),gr st U b=st->(∀lm,b=lm->W i ((aa::l).take (m+1)) (gr st U lm))->W i ((aa::l).take (m+1)) st:=fun m U b i q lb=>q▸lb b rfl
   split at o
   ·rename_i lA
    split at o
    ·rename_i st' lD lE
     exact X.eT i _ st st' lD lE (O Z R o)
    ·exact X.step i aa l st h li _ (qq lA) R o fun st' h' la ln lc=>O Z ln lc
   ·rename_i g lA
    split at o
    ·rename_i m h'
     split at o
     ·rename_i U b d lo ah
      split at o
      ·rename_i lF lG lH lI lp lq
       obtain⟨q,lr⟩:=o.eqs
       obtain⟨ld,ls⟩:=lr.eqs
       obtain⟨le,lt⟩:=ls.eqs
       have ld:=Option.some.inj ld
       have le:=Option.some.inj le
       have ll:=O (i:=i) Z R lt
       have q:=Option.some.inj q
       cases b with
       |true=>
        obtain⟨lf,L,Y⟩:=uw lp
        refine X.cP i (m+1) (aa::l) st lf (by rw[q]at L;exact L) ?_
        exact X.na i _ _ _ _ _ _ Y (ld▸ll)
       |false=>
        obtain⟨lf,L,Y⟩:=uw lq
        refine X.cP i (m+1) (aa::l) st lf (by rw[q]at L;exact L) ?_
        exact X.na i _ _ _ _ _ _ Y (le▸ll)
      ·exact o.no
     ·exact o.no
    ·rename_i m lj lB
     split at o
     ·rename_i U b d lo ah
      split at o
      ·rename_i lF lG lH lI lp lq
       obtain⟨q,lr⟩:=o.eqs
       obtain⟨ld,ls⟩:=lr.eqs
       obtain⟨le,lt⟩:=ls.eqs
       have ld:=Option.some.inj ld
       have le:=Option.some.inj le
       obtain⟨lb,lJ⟩:=lt.fF
       have ll:=O (i:=i) Z cF.nil (lb _ lJ.den)
       have q:=Option.some.inj q
       cases b with
       |true=>
        obtain⟨lf,L,Y⟩:=uw lp
        refine X.cP i (m+1) (aa::l) st lf (by rw[q]at L;exact L) ?_
        exact X.na i _ _ _ _ _ _ Y (ld▸ll)
       |false=>
        obtain⟨lf,L,Y⟩:=uw lq
        refine X.cP i (m+1) (aa::l) st lf (by rw[q]at L;exact L) ?_
        exact X.na i _ _ _ _ _ _ Y (le▸ll)
      ·exact o.no
     ·exact o.no
    ·rename_i m lj lK lL lB
     split at o
     ·rename_i U b d lo ah
      obtain⟨q,o⟩:=o.eqs
      obtain⟨lb,o⟩:=o.fF
      have q:=Option.some.inj q
      refine X.join i (m+1) (aa::l) st Bool (fun v=>lj v=some r) (fun v=>(h8 st U).put d (.val .bool v)) (fun v lu=>O Z cF.nil (lb v lu)) fun lg lv=>?_
      have fin:∀st' (h':bd P G al) (la:List cu),cF la->bA (pp (h8 st U) d lj st') r->N lg st':=fun st' _ _ _ lc=>by
       obtain⟨v,L,Y⟩:=Qu lc
       exact X.norm lg _ _ _ _ _ L (lv v Y)
      refine lz m U b lg q fun lm lw=>?_
      subst lw
      rcases o.ite with ⟨e,lh⟩|⟨e,lh⟩
      ·rw[e];exact O fin R lh
      ·rw[e];exact O fin R lh
     ·exact o.no
    ·rename_i m lC S lj lK lL lB
     split at o
     ·rename_i U b lo
      obtain⟨q,o⟩:=o.eqs
      obtain⟨lb,o⟩:=o.fF
      have q:=Option.some.inj q
      refine X.join i (m+1) (aa::l) st (fp lC) (fun v=>lj v=some r) (S st) (fun v lu=>O Z cF.nil (lb v lu)) fun lg lv=>?_
      have fin:∀st' (h':bd P G al) (la:List cu),cF la->bA (nJ lC (S st) lj st') r->N lg st':=fun st' _ _ _ lc=>by
       obtain⟨v,L,Y⟩:=BX lc
       exact X.norm lg _ _ _ _ _ L (lv v Y)
      refine lz m U b lg q fun lm lw=>?_
      subst lw
      rcases o.ite with ⟨e,lh⟩|⟨e,lh⟩
      ·rw[e];exact O fin R lh
      ·rw[e];exact O fin R lh
     ·exact o.no
    ·split at o
     ·rename_i lx
      exact X.step i aa l st _ li _ lx R o fun st' h' la ln lc=>O Z ln lc
     ·rename_i lx
      refine X.undef i aa l st lx ?_
      split at o
      ·rename_i d ah
       split at o
       ·rename_i lM
        try rw[ah]
        exact⟨lM,O Z R o⟩
       ·exact o.no
      ·rename_i ah
       try rw[ah]
       exact O Z R o
     ·exact o.no
theorem oe{o:List (aF P G)}{cw:Nat}(q:bv (cl P G cw o) cx)(r:al):vH cx ops cw r cO (fun Q l st=>bN cx ops Q l st) (fun Q st=>N cx Q .normal st) (ut (cl P G cw o)) (rp o (cl P G cw o)) (fun l st=>fw (cl P G cw o) ops l st []) where
 nil:=fun _ _ h=>jL h
 norm:=fun _ _ _ _ _ _ L h=>h.norm L
 na:=fun _ _ _ _ _ _ _ L h=>h.norm L
 step:=fun _ _ _ _ _ _ _ O R U W=>Hg q O R U W
 undef:=fun Q aa l st O h=>by
  split at h
  ·rename_i d ah
   refine rH q 1 (orc:=[]) (ob:=[]) ?_ trivial h.2
   show fw _ ops [aa] st []=_
   unfold fw
   rw[O]
   simp only[ah,show Nat.blt d (cl P G cw o).n=true from h.1,fw]
  ·rename_i ah
   refine rH q 1 (orc:=[]) (ob:=[]) ?_ trivial h
   show fw _ ops [aa] st []=_
   unfold fw
   rw[O]
   simp only[ah,fw]
 join:=fun _ n _ _ _ F S Y Z=>xg F S n Y fun h=>Z _ h
 eT:=fun _ _ _ _ _ la h=>Rc q la h
 cP:=fun _ m _ _ _ L h=>rH q m L trivial h
theorem mz{L:List (aF P G)}{cw:Nat}(Y:bv (cl P G cw L) cx)(r:al):vH cx ops cw r (World->Act->Prop) (fun K l st=>nr cx ops K l st) (fun K st=>oX cx K st) (fun _ _=>none) (Ak L (cl P G cw L)) (fun l st=>fX (cl P G cw L) ops l st []) where
 nil:=fun _ _ h=>Tk h
 norm:=fun _ _ _ _ _ _ O h=>fun T w q=>h T w (q.norm O)
 na:=fun _ _ _ _ _ _ _ O h=>fun T w q=>h T w (q.norm O)
 step:=fun K aa l st h ll k W la o lb=>by
  unfold Ak at o
  split at o
  ·rename_i d ah
   split at o
   ·rename_i lc
    obtain⟨orc,ps,h',lm,ld,le,o⟩:=jc (orc:=[]) (ps:=[]) _ la trivial o
    unfold Hq at o
    split at o
    ·rename_i aO ob Z
     obtain⟨e,lf⟩:=o.ff
     intro T w q
     have lg:=lb _ _ _ le lf
     have:=kQ (P:=cx.P) (ops:=ops) (l1:=[aa]) (l2:=l) (C:=Ext w) (Q':=K w) (a:=⟨T,ai.D cx⟩)
      (mJ Y (l:=[aa]) (orc:=orc) (orc':=[]) (ob:=ob++[]) q (by unfold fX;rw[W];simp only[ah,Z,lc,fX]) (by rw[List.append_nil,e];exact ld) fun R U=>lg R w U)
     exact this
    ·exact o.no
   ·exact o.no
  ·exact o.no
 undef:=fun K aa l st W h=>by
  intro T w q
  have key:∀st',fX (cl P G cw L) ops [aa] st []=some (st',[],[])->nr cx ops K l st'->wpQuiet cx.P ops (Ext w) (K w) (aa::l) ⟨T,ai.D cx⟩:=fun st' Z lh=>
   kQ (P:=cx.P) (ops:=ops) (l1:=[aa]) (l2:=l) (mJ Y q Z trivial fun R U=>lh R w U)
  split at h
  ·rename_i d ah
   refine key (st.put d .undef) ?_ h.2
   unfold fX
   rw[W]
   simp only[ah,show Nat.blt d (cl P G cw L).n=true from h.1,fX]
  ·rename_i ah
   refine key st ?_ h
   unfold fX
   rw[W]
   simp only[ah,fX]
 eT:=fun _ _ _ _ _ li _=>by cases li
 join:=fun _ n _ _ _ F S lj lk=>Pb F S n lj fun K h=>lk K h
 cP:=fun K m l st s O h=>by
  intro T w q
  have:=kQ (P:=cx.P) (ops:=ops) (l1:=l.take m) (l2:=l.drop m) (mJ Y q O trivial fun R U=>h R w U)
  rwa [List.take_append_drop]at this
theorem th{L:List (aF P G)}{cw:Nat}(R:bv (cl P G cw L) cx)(r:al):vH cx ops cw r (World->Act->Prop) (fun K l st=>mW cx ops K l st) (fun K st=>oX cx K st) (fun _ _=>none) (w6 L (cl P G cw L)) (fun _ _=>none) where
 nil:=fun _ _ h=>Tc h
 norm:=fun _ _ _ _ _ _ q h=>fun T w U=>h T w (U.norm q)
 na:=fun _ _ _ _ _ _ _ q h=>fun T w U=>h T w (U.norm q)
 step:=fun K aa l st h lj k O W o Y=>by
  unfold w6 at o
  split at o
  ·rename_i d ah
   split at o
   ·rename_i Z
    obtain⟨orc,ps,h',lk,la,lb,o⟩:=jc (orc:=[]) (ps:=[]) _ W trivial o
    unfold F9 at o
    split at o
    ·rename_i aO ob lc
     split at o
     ·rename_i ld
      obtain⟨e,le⟩:=o.ff
      have lf:=Y _ _ _ lb le
      exact A7 R (orc:=orc) (ob:=ob++[]) (by unfold hq;rw[O];simp only[ah,lc,Z,ld,hq]) (by rw[List.append_nil,e];exact la) lf
     ·exact o.no
    ·exact o.no
   ·exact o.no
  ·exact o.no
 undef:=fun K aa l st O h=>by
  split at h
  ·rename_i d ah
   refine A7 R (orc:=[]) (ob:=[]) (st':=st.put d .undef) ?_ trivial h.2
   unfold hq
   rw[O]
   simp only[ah,show Nat.blt d (cl P G cw L).n=true from h.1,hq]
  ·rename_i ah
   refine A7 R (orc:=[]) (ob:=[]) (st':=st) ?_ trivial h
   unfold hq
   rw[O]
   simp only[ah,hq]
 eT:=fun _ _ _ _ _ lg _=>by cases lg
 join:=fun _ n _ _ _ F S lh li=>QI F S n lh fun K h=>li K h
 cP:=fun _ _ _ _ _ q _=>by cases q
theorem Vn{Y:List (aF P G)}{cw:Nat}(Z:bv (cl P G cw Y) cx){r:al}{aa:Oper}{d:Nat}{orc:List ak}{ps:List Prop}{la:List Nat}{K:eQ P G al}(le:ii aa=true)(lf:bO ps)(lg:∀st' h' R,cF R->bA (K st' h' R) r->N cx Q .normal st'):
  ∀(L:List Nat) {st:af} {h:bd P G al} {U:List cu},cF U->bA (qS Y (cl P G cw Y) ops aa d orc ps la K L st h U) r->∀T w,Ev.al cx st T w->iL cx.P ops (dy Q) aa d la L ⟨T,ai.D cx⟩ w:=by
 intro L
 induction L with
 |nil=>
  intro st h U lb o T w O
  unfold qS mF at o
  unfold iL
  refine fI (oe Z r) 5000 (i:=dy Q) ?_ lb o T w O
  exact fun st' h' R lc q T w O=>⟨rfl,lg _ _ _ lc q T w O⟩
 |cons c L lh=>
  intro st h U lb o T w O
  unfold qS at o
  split at o
  case h_2=>exact o.no
  rename_i lq li
  split at o
  case h_2=>exact o.no
  rename_i lj
  refine z7 li (Hg (ops:=ops) (l:=[]) (Q:=iN cx ops aa d la L Q) Z lj lb o fun st' h' R lc q=>?_) O
  split at q
  case h_2=>exact q.no
  rename_i lr aO lk ll
  split at q
  case h_2=>exact q.no
  rename_i ah
  obtain⟨W,lm⟩:=q.eqs
  obtain⟨ln,lo⟩:=lm.ff
  have W:=Option.some.inj W
  simp only[af.mk.injEq,List.cons.injEq,Prod.mk.injEq,and_true,true_and]at W
  subst W
  exact jL fun lp w' ld=>⟨rfl,wD Z ld le lk (ln▸lf) ll ah,lh lc lo lp w' ld⟩
theorem QS{L:List (aF P G)}{cw:Nat}(U:bv (cl P G cw L) cx){r:al}{K:eQ P G al}{w0:World}(W:∀st' h' O,cF O->bA (K st' h' O) r->N cx Q .normal st'):
  ∀(C:List Nat) {st:af} {h:bd P G al} {q:List cu},cF q->bA (uJ L (cl P G cw L) ops K C st h q) r->∀T w,Ev.al cx st T w->Ext w0 w->io cx.P ops (dy Q) (Ext w0) (bE ops C) ⟨T,ai.D cx⟩ w:=by
 intro C
 induction C with
 |nil=>
  intro st h q R o T w Y lh
  exact⟨rfl,W _ _ _ R o T w Y⟩
 |cons c C Z=>
  intro st h q R o
  unfold uJ at o
  split at o
  case h_2=>exact o.no
  rename_i aa la
  split at o
  case h_2=>exact o.no
  rename_i d lb ah
  split at o
  case h_2=>exact o.no
  rename_i lc
  obtain⟨orc,ps,h',O,ld,le,o⟩:=jc (orc:=[]) (ps:=[]) _ R trivial o
  dsimp only at o
  split at o
  case h_2=>exact o.no
  rename_i aO orc' ob lf
  obtain⟨e,lg⟩:=o.ff
  unfold bE
  rw[la]
  exact Wj U lb ah lc lf (e▸ld) (Z le lg)
theorem NO{id:Nat}{l:List Oper}(n:Nat)(o:cx.P.follows .mixedOrders=true)(q:Region.lexTailB .any l.toArray n=true)
  (h:nr cx l.toArray (fun w a=>∀w',Ext w w'->wpList cx.P l.toArray Q (l.drop n) a w') (l.take n) st):W cx Q (.region id l.toArray true) st:=by
 intro T w L
 exact U0 (C:=Ext w) n o q (Ext.refl w).drew (h T w L)
theorem KT{h:bd P G al}{s:af}{e:Exit}(o:pi h st=some s)(q:N cx Q e s):N cx Q e st:=by
 unfold pi at o
 split at o
 ·exact Kr _ _ _ _ o q
 ·cases o;exact q
theorem IJ{r:al}{a:af->bt al}{K:jE P G al}{Q':Act->World->Prop}(L:∀st,bA (a st) r->N cx (Exit.then Q' Q) .normal st)(O:∀e st h o,cF o->bA (K e st h o) r->N cx Q e st):
  ∀e st h o,cF o->bA (ends a K e st h o) r->N cx (Exit.then Q' Q) e st:=by
 intro e st h o R q
 cases e with
 |normal=>
  unfold ends at q
  dsimp only at q
  split at q
  ·rename_i s U
   exact KT U (L s q)
  ·exact q.no
 |_=>exact O _ st h o R q
/-! Regions gone through in any order. -/
theorem T7{o:List (Nat×fi P G)}{n:Nat}{v:fi P G}(h:qu o n=some v):∃k,(k,v)∈o:=by
 induction o with
 |nil=>cases h
 |cons p r L=>
  obtain⟨k,u⟩:=p
  unfold qu at h
  cases q:Nat.beq k n with
  |true=>rw[q]at h;cases h;exact⟨k,List.mem_cons_self⟩
  |false=>
   rw[q]at h
   obtain⟨k',O⟩:=L h
   exact⟨k',List.mem_cons_of_mem _ O⟩
theorem qH{r:al}{aa:Oper}{K:af->bd P G al->List cu->fi P G->bt al}{q:eN}{h:bd P G al}{O:List cu}{orc:List ak}(R:cF O)(o:bA (eS q h O orc [] (mZ E st aa K)) r):
  ∃st' h' L dh,cF L/\nC dh/\bA (K st' h' L dh) r:=by
 obtain⟨orc,ps,h',L,U,W,o⟩:=jc (ps:=[]) _ R trivial o
 unfold mZ at o
 split at o
 ·exact⟨_,_,_,.aa orc ps,W,U,o⟩
 ·exact o.no
theorem SM{s:af}{z:Option Nat}(h:px st z=some s)(o:bN cx ops Q l s):bN cx ops Q l st:=by
 unfold px at h
 split at h
 ·cases h;exact o
 ·split at h
  ·rename_i c q
   cases h
   rintro T w ⟨m,L⟩
   exact o T w ⟨m,L.freeze (a8 q)⟩
  ·cases h
theorem J8{r:al}{aa:Oper}{z:Option Nat}{h:bd P G al}{L:List cu}{K:af->bd P G al->List cu->fi P G->bt al}(R:cF L)(o:bA (vN E st aa z h L K) r):
  ∃st' h' O dh,cF O/\nC dh/\bA (K st' h' O dh) r:=by
 unfold vN at o
 split at o
 ·rename_i α β U ρ ρ' Z
  split at o
  ·split at o
   ·split at o
    ·obtain⟨_,W⟩:=o.eqs
     obtain⟨y,Y,q⟩:=W.ask
     split at q
     ·exact⟨_,_,_,.b z U ρ ρ' _ y,R,Y,q⟩
     ·exact q.no
    ·exact o.no
   ·exact o.no
  ·exact o.no
 ·exact o.no
theorem Vh{R:List (aF P G)}{r:al}{aa:Oper}{h:bd P G al}{L:List cu}{K:af->bd P G al->List cu->fi P G->bt al}(q:cF L)(o:bA (xl R E st aa h L K) r):
  ∃st' h' O dh,cF O/\nC dh/\bA (K st' h' O dh) r:=by
 unfold xl at o
 split at o
 ·exact J8 q o
 ·exact J8 q o
 ·split at o
  ·split at o
   ·exact qH q o
   ·exact qH q o
  ·split at o
   ·split at o
    ·exact qH q o
    ·exact qH q o
   ·exact qH q o
theorem IH{Z:List (aF P G)}{r:al}{K:bd P G al->List cu->List (Nat×fi P G)->bt al}:∀(is:List Nat) {st:af} {h:bd P G al} {q:List cu} {L:List (Nat×fi P G)},cF q->(∀p∈L,nC p.2)->
  bA (sm Z E ops is st h q L K) r->∃h' O Y,cF O/\(∀p∈Y,nC p.2)/\bA (K h' O Y) r
 |[],st,h,q,L,R,U,o=>⟨h,q,L,R,U,o⟩
 |i::is,st,h,q,L,R,U,o=>by
  unfold sm at o
  split at o
  ·obtain⟨st',h',O,dh,la,lb,o⟩:=Vh R o
   refine IH is la (fun p W=>?_) o
   rcases List.mem_cons.1 W with rfl|W
   ·exact lb
   ·exact U p W
  ·exact o.no
theorem MO{O:List (aF P G)}{cw:Nat}(R:bv (cl P G cw O) cx){r:al}{s t:af}{aa:Oper}{rest:bt al}{dh:fi P G}(U:nC dh)(W:aa.guard=none)(o:bA (yM (cl P G cw O) s aa t rest dh) r):qb cx ops aa s t/\bA rest r:=by
 unfold yM at o
 split at o
 ·split at o
  ·rename_i Z ob la
   obtain⟨q,o⟩:=o.eqs
   obtain⟨lb,o⟩:=o.ff
   exact⟨fun Q L=>tB R (qq W) la (lb▸U) (jL (L.norm q)),o⟩
  ·exact o.no
 ·rename_i z α β Y ρ ρ' x y
  split at o
  ·rename_i lg lc
   split at o
   ·rename_i lh Z ld le
    obtain⟨lf,o⟩:=o.eqs
    obtain⟨q,o⟩:=o.eqs
    exact⟨fun Q L=>SM lc (ED R Y.ok x y (Y.rel x y U) rfl (qq W) (ld.trans lf) le (jL (L.norm q))),o⟩
   ·exact o.no
  ·exact o.no
theorem Lm{L:List (aF P G)}{cw:Nat}(R:bv (cl P G cw L) cx){r:al}{O:List (Nat×fi P G)}{st:af}{rest:bt al}(U:∀p∈O,nC p.2):∀(l:List (List Nat×Nat)),bA (rO (cl P G cw L) ops O st l rest) r->
  (∀p∈l,∃aa s W,ops[p.2]? =some aa/\nE (cl P G cw L) ops O st p.1=some s/\nE (cl P G cw L) ops O st (kZ p.2 p.1)=some W/\qb cx ops aa s W)/\bA rest r
 |[],o=>⟨fun p q=>(by cases q),o⟩
 |(lf,i)::l,o=>by
  unfold rO at o
  split at o
  ·rename_i s t aa dh Y Z la lb
   split at o
   ·rename_i lc
    obtain⟨k,ld⟩:=T7 lb
    obtain⟨le,o⟩:=MO (ops:=ops) R (U _ ld) lc o
    obtain⟨i1,i2⟩:=Lm R U l o
    refine⟨fun p q=>?_,i2⟩
    rcases List.mem_cons.1 q with rfl|q
    ·exact⟨aa,s,t,la,Y,Z,le⟩
    ·exact i1 p q
   ·exact o.no
  ·exact o.no
theorem Wr{q:List (aF P G)}{cw:Nat}(O:bv (cl P G cw q) cx){r:al}{id:Nat}{Z:List (List Nat)}{h:bd P G al}{R:List cu}{K:eQ P G al}{Q:cO}
  (la:∀st' h' L,cF L->bA (K st' h' L) r->N cx Q .normal st')(lb:cF R)(o:bA (wV q (cl P G cw q) ops Z st h R K) r):W cx Q (.region id ops true) st:=by
 unfold wV at o
 split at o
 ·rename_i lc ld
  obtain⟨h',L,le,lf,lg,o⟩:=IH _ lb (fun p lh=>(by cases lh)) o
  split at o
  ·rename_i t li
   obtain⟨lj,lk⟩:=Lm (cx:=cx) O lg _ o
   refine Vv (by rw[O.P];exact lc) ld (S:=nE (cl P G cw q) ops le st) (fun U ll i lm=>?_) rfl fun s Y=>?_
   ·exact lj (U,i) (List.mem_flatMap.2 ⟨U,ll,List.mem_map.2 ⟨i,lm,rfl⟩⟩)
   ·rw[li]at Y
    cases Y
    exact la _ _ _ lf lk
  ·exact o.no
 ·exact o.no
theorem DH{li:List (aF P G)}{cw:Nat}(q:bv (cl P G cw li) cx){r:al}{id:Nat}{ops:Array Oper}{draw:Bool}{st:af}{h:bd P G al}{ll:List cu}{K:jE P G al}{Q:cO}
  (lq:∀e st' h' Y,cF Y->bA (K e st' h' Y) r->N cx Q e st')(lc:cF ll)(R:bA (qO li (cl P G cw li) ops draw st h ll K) r):W cx Q (.region id ops draw) st:=by
 obtain⟨l⟩:=ops
 unfold qO at R
 have ld:∀st' h' Y,cF Y->bA (K .normal st' h' Y) r->N cx Q .normal st':=fun _ _ _=>lq _ _ _ _
 split at R
 ·exact aX (fI (oe q r) 5000 (i:=Q) ld lc R)
 ·split at R
  ·rename_i m h'
   split at R
   ·rename_i la lb
    refine NO m (by rw[q.P];exact la) lb ?_
    refine fI (mz q r) 5000 (i:=fun w a=>∀w',Ext w w'->wpList cx.P l.toArray Q (l.drop m) a w') ?_ lc R
    intro st' h' Y L o T w U w' Z
    exact fI (oe q r) 5000 (i:=Q) ld L o T w' (U.ext Z)
   ·exact R.no
  ·rename_i a b c h'
   split at R
   ·rename_i la lb le
    refine Um (Q:=Q) a b c (by rw[q.P];exact la) lb (Nat.eq_of_beq_eq_true le) ?_
    refine fI (th q r) 5000 (i:=fun w O=>wpQuiet cx.P l.toArray (Ext w) (fun O=>∀w',Ext w w'->wpList cx.P l.toArray (dy Q) (bE l.toArray c) O w') (bE l.toArray b) O) ?_ lc R
    intro st' h' Y L o T w U
    refine fI (mz q r) 5000 (i:=fun w O=>∀w',Ext w w'->wpList cx.P l.toArray (dy Q) (bE l.toArray c) O w') ?_ L o T w U
    intro st' h' Y L o T w U w' Z
    refine fI (oe q r) 5000 (i:=dy Q) ?_ L o T w' (U.ext Z)
    intro st' h' Y L o T w U
    exact⟨rfl,ld _ _ _ L o T w U⟩
   ·exact R.no
  ·rename_i a b i c c2 h'
   split at R
   case h_2=>exact R.no
   rename_i aa lr
   split at R
   case h_2=>exact R.no
   rename_i d ah ls lj la lb
   rw[ah]at lj
   simp only[Bool.and_eq_true,Bool.not_eq_true',Option.getD_some]at lj
   obtain⟨lm,lt,ln,le⟩:=lj
   refine LM (Q:=Q) q a b i c c2 la lb (Nat.eq_of_beq_eq_true le) lr ah ls lt ln ?_
   refine fI (th q r) 5000 (i:=fun w O=>wpQuiet cx.P l.toArray (Ext w) (fun O=>∀w',Ext w w'->d<O.tmps.size/\∃v,(execOp O.eval aa).run cx.P w'=.ok (.value v) w'/\iL cx.P l.toArray (dy Q) aa d c2 c (O.put aa.dst v) w') (bE l.toArray b) O) ?_ lc R
   intro st' h' Y L o T w U
   refine fI (mz q r) 5000 (i:=fun w O=>∀w',Ext w w'->d<O.tmps.size/\∃v,(execOp O.eval aa).run cx.P w'=.ok (.value v) w'/\iL cx.P l.toArray (dy Q) aa d c2 c (O.put aa.dst v) w') ?_ L o T w U
   intro st' h' Y L o T w U w' Z
   unfold KE at o
   obtain⟨orc,ps,h',Y,lo,L,o⟩:=jc (orc:=[]) (ps:=[]) _ L trivial o
   dsimp only at o
   split at o
   case h_2=>exact o.no
   rename_i lz lk
   obtain⟨e,o⟩:=o.ff
   have lp:d<cx.n:=by rw[q.n];exact cK ln
   obtain⟨m,lf⟩:=U.ext Z
   obtain⟨v,lu,lv⟩:=zy q lf lm lk (e▸lo)
   refine⟨by rw[lf.size];exact lp,v,lu w' (Ext.refl w'),?_⟩
   rw[ah]
   exact Vn q lm lo ld c L o _ _ ⟨m,lf.put lp lv⟩
  ·rename_i a b c2 c3 lw c5 lx h'
   split at R
   case h_2=>exact R.no
   rename_i C la lb le ly
   refine SZ (Q:=Q) q a b c2 c3 lw c5 lx la lb (Nat.eq_of_beq_eq_true le) ly ?_
   refine fI (th q r) 5000 (i:=fun w O=>wpQuiet cx.P l.toArray (Ext w) (fun O=>∀w',Ext w w'->∃v2 v3 v4 v5 lg lh,qe cx.P (dy Q) C O w' v2 v3 v4 v5 lg lh) (bE l.toArray b) O) ?_ lc R
   intro st' h' Y L o T w U
   refine fI (mz q r) 5000 (i:=fun w O=>∀w',Ext w w'->∃v2 v3 v4 v5 lg lh,qe cx.P (dy Q) C O w' v2 v3 v4 v5 lg lh) ?_ L o T w U
   intro st' h' Y L o T w U w' Z
   split at o
   case h_2=>exact o.no
   rename_i lA lk
   obtain⟨m,lf⟩:=U.ext Z
   obtain⟨v2,v3,v4,v5,lg,lh,F⟩:=Qq q lf lk
   exact⟨v2,v3,v4,v5,lg,lh,F (ld _ _ _ L o)⟩
  ·rename_i a b c d h'
   split at R
   case h_2=>exact R.no
   rename_i la lb le
   refine TY (Q:=Q) a b c d (by rw[q.P];exact la) lb (Nat.eq_of_beq_eq_true le) ?_
   refine fI (th q r) 5000 (i:=fun w O=>wpQuiet cx.P l.toArray (Ext w) (fun O=>∀w',Ext w w'->wpList cx.P l.toArray (pe cx l.toArray d Q) (bE l.toArray c) O w') (bE l.toArray b) O) ?_ lc R
   intro st' h' Y L o T w U
   refine fI (mz q r) 5000 (i:=fun w O=>∀w',Ext w w'->wpList cx.P l.toArray (pe cx l.toArray d Q) (bE l.toArray c) O w') ?_ L o T w U
   intro st' h' Y L o T w U w' Z
   refine fI (oe q r) 5000 (i:=pe cx l.toArray d Q) ?_ L o T w' (U.ext Z)
   intro st' h' Y L o T w U
   refine⟨rfl,?_⟩
   refine fI (mz q r) 5000 (i:=fun w a=>∀w',Ext w w'->dy Q .normal a w') ?_ L o T w U
   intro st' h' Y L o T w U w' Z
   exact⟨rfl,ld _ _ _ L o T w' (U.ext Z)⟩
  ·rename_i b c h'
   split at R
   case h_2=>exact R.no
   rename_i la lb le
   refine Xc (Q:=Q) b c (by rw[q.P];exact la) lb (Nat.eq_of_beq_eq_true le) ?_
   refine fI (mz q r) 5000 (i:=fun w O=>∀w',Ext w w'->io cx.P l.toArray (dy Q) (Ext w) (bE l.toArray c) O w') ?_ lc R
   intro st' h' Y L o T w U w' Z
   exact QS q ld c L o T w' (U.ext Z) Z
  ·rename_i lB h'
   exact Wr q ld lc R
  ·split at R
   ·rename_i la lb
    refine Cd q la lb ?_
    refine fI (mz q r) 5000 (i:=fun w a=>∀w',Ext w w'->Q .normal a w') ?_ lc R
    intro st' h' Y L o T w U w' Z
    exact ld _ _ _ L o T w' (U.ext Z)
   ·exact R.no
theorem pd{lg:List (aF P G)}{cw:Nat}(lh:bv (cl P G cw lg) cx){r:al}:∀(c:Code) {st:af} {h:bd P G al} {R:List cu} {K:jE P G al} {Q:cO},
  (∀e st' h' la,cF la->bA (K e st' h' la) r->N cx Q e st')->cF R->bA (run lg (cl P G cw lg) c st h R K) r->W cx Q c st:=by
 intro c
 induction c with
 |skip=>intro st h R K Q q L o;exact dA (q _ _ _ _ L o)
 |exit id=>intro st h R K Q q L o;exact j8 (q _ _ _ _ L o)
 |ret=>intro st h R K Q q L o;exact eU (q _ _ _ _ L o)
 |block id c li=>
  intro st h R K Q q L o
  refine fT (li ?_ L o)
  intro e st' h' la Y O
  split at O
  ·exact jf (q _ _ _ _ Y O)
  ·exact fW (q _ _ _ _ Y O)
  ·rename_i i
   split at O
   ·rename_i lb
    have lb:=Nat.eq_of_beq_eq_true lb
    subst lb
    exact kF (q _ _ _ _ Y O)
   ·rename_i lb
    exact NJ lb (q _ _ _ _ Y O)
  ·exact O.no
 |seq x y lc ld=>
  intro st h R K Q q L o
  unfold run at o
  split at o
  ·rename_i lf S lm lt lu
   obtain⟨ll,U⟩:=o.fF
   refine kx (α:=fp lf) (fun z=>lm z=some r) (S st) (fun z le=>ld q cF.nil (ll z le)) fun ln=>?_
   refine lc (IJ (fun st' O=>?_) q) L U
   obtain⟨z,lj,lk⟩:=BX O
   exact(ln z lk).norm lj
  ·refine aI (lc ?_ L o)
   intro e st' h' la Y O
   cases e with
   |normal=>exact aM (ld q Y O)
   |_=>exact q _ st' h' la Y O
 |cond c x y lc ld=>
  intro st h R K Q q L o
  unfold run at o
  split at o
  ·rename_i b Z
   split at o
   ·obtain⟨e,U⟩:=o.jq
    exact dt Z (fun _=>lc q L U) fun h=>by rw[e]at h;cases h
   ·obtain⟨e,U⟩:=o.jq
    exact dt Z (fun h=>by rw[e]at h;cases h) fun _=>ld q L U
   ·rcases o.ite with ⟨e,U⟩|⟨e,U⟩
    ·exact dt Z (fun _=>lc q L U) fun h=>by rw[e]at h;cases h
    ·exact dt Z (fun h=>by rw[e]at h;cases h) fun _=>ld q L U
  ·exact o.no
 |loop c li=>
  intro st h R K Q q L o
  unfold run at o
  split at o
  ·rename_i lf S F k ll
   split at o
   ·rename_i z0 lv
    obtain⟨lo,lp,U⟩:=o.hd
    obtain⟨e,lq⟩:=U.eqs
    refine W.norm (kC (fun n z=>F n z=some r) (S st) ?_ lq.den) e
    intro n z le
    cases n with
    |zero=>rw[lo]at le;cases le
    |succ n=>
     refine li (IJ (fun st' O=>?_) q) cF.nil (lp n z le)
     obtain⟨lr,lj,lk⟩:=BX O
     exact(js (F:=fun n z=>F n z=some r) lr (Nat.lt_succ_self n) lk).norm lj
   ·exact o.no
  ·exact o.no
 |region id ops lw=>
  intro st h R K Q q L o
  unfold run at o
  split at o
  ·rename_i lx h'
   split at o
   ·rename_i c Z
    rintro T w ⟨m,ls⟩
    exact DH lh q L o T w ⟨m,ls.freeze (a8 Z)⟩
   ·exact o.no
  ·split at o
   ·rename_i st' lf
    exact W.norm (DH lh q L o) lf
   ·exact o.no
  ·exact DH lh q L o
 |_=>intro st h R K Q q L o;exact o.no
def Gt{α:Type}(b:Bool)(aa:Option α):Option α:=bif b then aa else none
theorem Wl{α:Type}{b:Bool}{aa:Option α}{y:α}(h:Gt b aa=some y):b=true/\aa=some y:=by
 cases b with
 |true=>exact⟨rfl,h⟩
 |false=>cases h
/-! Results of a wider shape. -/
def jw:(t:ag)->ak->Option t.el
 |.cy,v=>match v with
  |⟨.cL _ _,_⟩=>some ()
  |⟨.err,_⟩=>some ()
  |v=>v.as .cy
 |.alt n u r,v=>match v.as (.alt n u r)with
  |some y=>some y
  |none=>match v with
   |⟨.cL o q,y⟩=>match Nat.beq o n,ak.as ⟨q,y⟩ u with
    |true,some z=>some (.inl z)
    |_,_=>match jw r ⟨.cL o q,y⟩with
     |some z=>some (.inr z)
     |none=>none
   |v=>match v.t.agg,jw r v with
    |false,some z=>some (.inr z)
    |_,_=>none
 |t,v=>v.as t
theorem yI{w:World}{M:Nat->Prop}{u:Value}:∀(t:ag) {v:ak} {y:t.el},jw t v=some y->ba w M u v.t v.x->ba w M u t y:=by
 have L:∀(t:ag) {v:ak} {y:t.el},v.as t=some y->ba w M u v.t v.x->ba w M u t y:=by
  intro t v y h o
  have e:=ak.dd h
  subst e
  exact o
 have one:∀{t:ag} {x:t.el},t.agg=false->ba w M u t x->u.oneCell'=true:=fun U o=>gy _ ((bD U).1 o) _ List.mem_cons_self
 intro t
 induction t with
 |cy=>
  intro v y h o
  unfold jw at h
  split at h
  ·exact(bD (t:=.cy) rfl).2 ⟨u,rfl,one rfl o⟩
  ·exact(bD (t:=.cy) rfl).2 ⟨u,rfl,one rfl o⟩
  ·exact L _ h o
 |alt n a r lf W=>
  intro v y h o
  have key:∀{v:ak} {z:r.el},v.t.agg=false->jw r v=some z->ba w M u v.t v.x->ba w M u (.alt n a r) (.inr z):=by
   intro v z Y q o
   have Z:=W q o
   refine(bD (t:=.alt n a r) rfl).2 ⟨rfl,?_⟩
   have:=jd Z
   have la:=one Y o
   have lb:u.cells.toList=[u]:=by cases u<;>first|rfl|(simp[Value.oneCell']at la)
   rw[lb]at this
   exact this
  unfold jw at h
  split at h
  ·rename_i lg lc
   cases h
   exact L _ lc o
  ·split at h
   ·rename_i lh li lj
    split at h
    ·rename_i z O q
     cases h
     have O:=Nat.eq_of_beq_eq_true O
     subst O
     have e:=ak.dd q
     cases e
     obtain⟨v0,R,ld⟩:=(bD (t:=.cL _ _) rfl).1 o
     simp only[List.cons.injEq,and_true]at R
     subst R
     exact(bD (t:=.alt _ _ r) rfl).2 ⟨v0,rfl,ld⟩
    ·split at h
     ·rename_i z q
      cases h
      exact key rfl q o
     ·cases h
   ·split at h
    ·rename_i z le q
     cases h
     exact key le q o
    ·cases h
 |_=>intro v y h o;exact L _ h o
def hZ:(us:List ag)->List ak->Option (cN us)
 |[],vs=>match vs with
  |[]=>some ()
  |_=>none
 |[t],vs=>match vs with
  |[v]=>jw t v
  |_=>none
 |t::u::us,vs=>match vs with
  |v::vs=>match jw t v,hZ (u::us) vs with
   |some x,some y=>some (x,y)
   |_,_=>none
  |[]=>none
theorem Lk{w:World}{M:Nat->Prop}:∀(us:List ag) {ap:List ak} {y:cN us} {vs:List Value},hZ us ap=some y->dL w M vs ap->dL w M vs (dG us y)
 |[],ap,y,vs,h,q=>by
  unfold hZ at h
  split at h
  ·exact q
  ·cases h
 |[t],ap,y,vs,h,q=>by
  match ap,h with
  |[v],h=>
   match vs,q with
   |[u],⟨o,L⟩=>exact⟨yI t (show jw t v=some y from h) o,L⟩
   |[],o=>exact o.elim
   |_::_::_,⟨_,o⟩=>exact o.elim
  |[],h=>cases h
  |_::_::_,h=>cases h
 |t::u::us,ap,y,vs,h,q=>by
  unfold hZ at h
  split at h
  ·rename_i v U
   split at h
   ·rename_i a b o L
    cases h
    match vs,q with
    |v0::vs,⟨O,R⟩=>exact⟨yI t o O,Lk (u::us) L R⟩
    |[],o=>exact o.elim
   ·cases h
  ·cases h
theorem Ia{w:World}{M:Nat->Prop}{v:Value}:∀(us:List ag) {ap:List ak} {y:cN us},hZ us ap=some y->jG w M v ap->jG w M v (dG us y)
 |[],ap,y,h,o=>trivial
 |[t],ap,y,h,o=>by
  match ap,h,o with
  |[u],h,o=>exact yI t (show jw t u=some y from h) o
  |[],h,_=>cases h
  |_::_::_,h,_=>cases h
 |t::u::us,ap,y,h,o=>by
  match ap,h,o with
  |a::b::ap,h,⟨vs,e,o⟩=>
   have q:=Lk (t::u::us) h o
   match us,y,q with
   |[],y,q=>exact⟨vs,e,q⟩
   |_::_,y,q=>exact⟨vs,e,q⟩
  |[],h,_=>cases h
  |[a],h,_=>
   exfalso
   have L:hZ (u::us) []=none:=by cases us<;>rfl
   unfold hZ at h
   simp only[L]at h
   split at h
   ·rename_i O q
    cases q
   ·cases h
theorem zm{P:Program}{n:Nat}{M:Nat->Prop}{w0:World}{fn:Func}{ap:List ak}{e:Exit}{us:List ag}{y:cN us}{m0:Nat->Value}(R:e=.ret\/e=.normal)(W:gP P (jN st) fn.results.toList=some ap)(U:hZ us ap=some y):
  N ⟨P,n,w0,M,fun _=>False,m0⟩ (pz P fn M w0 (dG us y)) e st:=by
 intro T w Y
 have h:=tl (M:=M) (w0:=w0) (n:=n) R W T w Y
 rcases R with rfl|rfl
 ·obtain⟨o,v,q,v',e,L,O⟩:=h
  exact⟨o,v,q,v',e,Ia us U L,O⟩
 ·obtain⟨o,v,q,v',e,L,O⟩:=h
  exact⟨o,v,q,v',e,Ia us U L,O⟩
/-! Contracts. -/
def NU(o:Program)(q:List ResultVar)(cH:List ag):jE P G (cN cH):=fun e st _ _=>
 match e with
 |.ret=>match gP o (jN st) q with
  |some ap=>.ret (hZ cH ap)
  |none=>.ret none
 |.normal=>match gP o (jN st) q with
  |some ap=>.ret (hZ cH ap)
  |none=>.ret none
 |_=>.ret none
def oW(P:Program)(G:World->Prop)(n:Nat)(o:List (aF P G))(c:Code)(q:List ResultVar)(F:aU)(h:cN F.eM->bd P G (cN F.cH))(x:cN F.eM):bt (cN F.cH):=
 run o (cl P G n o) c ⟨ka 0 (dG F.eM x),[],[]⟩ (h x) [] (NU P q F.cH)
theorem iI{F:aU}{o ap:List ak}(h:F.aW.rel o ap):∃x y,o=dG F.eM x/\ap=dG F.cH y/\F.fn x=some y:=by
 have h:(match gK F.eM o,gK F.cH ap with
  |some x,some y=>F.fn x=some y
  |_,_=>False):=h
 split at h
 ·rename_i x y q L
  exact⟨x,y,DM _ _ _ q,DM _ _ _ L,h⟩
 ·exact h.elim
theorem bi{P:Program}{G:World->Prop}(U:∀w w',Frame w w' (fun _=>False)->G w->G w'){f:FuncId}{fn:Func}{c:Code}(W:P.funcs[f]? =some fn)(Y:(fn.name== "runtime.NumGoroutine")=false)(Z:fn.body=some c)
  {n:Nat}(R:fn.ntmps=n)(F:aU)(ah:Nat.ble F.eM.length n=true)(q:List (aF P G))(h:cN F.eM->bd P G (cN F.cH))
  (la:(fun x=>((oW P G n q c fn.results.toList F h x).ee,(oW P G n q c fn.results.toList F h x).den))=fun x=>((oW P G n q c fn.results.toList F h x).ew,F.fn x)):aV P G f F.aW:=by
 refine zo U W Y Z ?_ ?_
 ·intro lb ap h
  obtain⟨x,y,rfl,rfl,_⟩:=iI h
  refine⟨by rw[jy,R];exact Nat.le_of_ble_eq_true ah,jy _ _,fun lc u ld=>?_⟩
  exact List.all_eq_true.1 lc _ (oa _ _ u ld)
 ·intro w0 M lb ap le h
  obtain⟨x,y,rfl,rfl,lf⟩:=iI h
  have lg:bv (cl P G n q) ⟨P,fn.ntmps,w0,M,fun _=>False,fun _=>undef⟩:=im rfl R le
  have O:=congrFun la x
  simp only[Prod.mk.injEq]at O
  refine pd lg c (r:=y) ?_ cF.nil ⟨bt.gt _ O.1,O.2.trans lf⟩
  intro e st' h' lj _ o
  have key:∀L,(L=.ret\/L=.normal)->bA (match gP P (jN st') fn.results.toList with
    |some ap=>bt.ret (hZ F.cH ap)
    |none=>.ret none) y->N ⟨P,fn.ntmps,w0,M,fun _=>False,fun _=>undef⟩ (pz P fn M w0 (dG F.cH y)) L st':=by
   intro L lh o
   split at o
   ·rename_i ap li
    exact zm lh li o.den
   ·exact o.no
  cases e with
  |ret=>exact key _ (.inl rfl) o
  |normal=>exact key _ (.inr rfl) o
  |_=>exact o.no
theorem Xd{P:Program}{G:World->Prop}(Z:∀w w',Frame w w' (fun _=>False)->G w->G w'){f:FuncId}{fn:Func}{c:Code}(la:P.funcs[f]? =some fn)(lb:(fn.name== "runtime.NumGoroutine")=false)(lc:fn.body=some c)
  {n:Nat}(W:fn.ntmps=n)(F:aU)(ah:Nat.ble F.eM.length n=true)(q:List (aF P G))(R:List ag)(L:cN R->cN F.eM)(Y:cN R->Option (cN F.cH))(ld:∀z y,F.fn z=some y->∃x,L x=z/\Y x=some y)(h:cN R->bd P G (cN F.cH))
  (le:(fun x=>((oW P G n q c fn.results.toList F (fun _=>h x) (L x)).ee,(oW P G n q c fn.results.toList F (fun _=>h x) (L x)).den))=fun x=>((oW P G n q c fn.results.toList F (fun _=>h x) (L x)).ew,Y x)):aV P G f F.aW:=by
 refine zo Z la lb lc ?_ ?_
 ·intro lf ap h
  obtain⟨x,y,rfl,rfl,_⟩:=iI h
  refine⟨by rw[jy,W];exact Nat.le_of_ble_eq_true ah,jy _ _,fun lg u lh=>?_⟩
  exact List.all_eq_true.1 lg _ (oa _ _ u lh)
 ·intro w0 M lf ap li lj
  obtain⟨z,y,rfl,rfl,lk⟩:=iI lj
  obtain⟨x,rfl,ll⟩:=ld z y lk
  have lm:bv (cl P G n q) ⟨P,fn.ntmps,w0,M,fun _=>False,fun _=>undef⟩:=im rfl W li
  have U:=congrFun le x
  simp only[Prod.mk.injEq]at U
  refine pd lm c (r:=y) ?_ cF.nil ⟨bt.gt _ U.1,U.2.trans ll⟩
  intro e st' h' lp _ o
  have key:∀O,(O=.ret\/O=.normal)->bA (match gP P (jN st') fn.results.toList with
    |some ap=>bt.ret (hZ F.cH ap)
    |none=>.ret none) y->N ⟨P,fn.ntmps,w0,M,fun _=>False,fun _=>undef⟩ (pz P fn M w0 (dG F.cH y)) O st':=by
   intro O ln o
   split at o
   ·rename_i ap lo
    exact zm ln lo o.den
   ·exact o.no
  cases e with
  |ret=>exact key _ (.inl rfl) o
  |normal=>exact key _ (.inr rfl) o
  |_=>exact o.no
theorem BA{P:Program}{G:World->Prop}{f:FuncId}{fn:Func}{c:Code}(q:P.funcs[f]? =some fn)(L:(fn.name== "runtime.NumGoroutine")=false)(O:fn.body=some c)(F:aU)(h:∀x,F.fn x=none):aV P G f F.aW where
 enters:=enters_of q L O
 shape:=fun R ap o=>by
  obtain⟨x,y,_,_,e⟩:=iI o
  rw[h]at e
  cases e
 calls:=fun w M vs R ap _ _ o=>by
  obtain⟨x,y,_,_,e⟩:=iI o
  rw[h]at e
  cases e
/-! Contracts of functions that change what their caller owns. -/
def nl:Nat->List ao->List (Nat×ao)
 |_,[]=>[]
 |k,s::l=>(k,s)::nl (k+1) l
def vY{α β:Type}(o:Program)(q:List ResultVar)(F:bU α β)(L:af->Option β)(bs O:List Nat)(x:α)(st:af):bt β:=
 match nx o st q,st.norm [] bs O with
 |some ap,some s=>match L ⟨nl 0 ap,s.ad,s.rw⟩with
  |some y=>.eqs (some ⟨nl 0 ap,s.ad,s.rw⟩) (some ⟨nl 0 (F.ap x y),(F.bJ x y).ad,(F.bJ x y).rw⟩) (.eqs (some s) (some (F.bJ x y)) (.ret (some y)))
  |none=>.ret none
 |_,_=>.ret none
def Mh{α β:Type}(o:Program)(q:List ResultVar)(F:bU α β)(L:af->Option β)(bs O:List Nat)(x:α):jE P G β:=fun e st h _=>
 let t:=match pi h st with
  |some st=>vY o q F L bs O x st
  |none=>.ret none
 match e with
 |.ret=>t
 |.normal=>t
 |_=>.ret none
theorem Jt:∀{k:Nat} {a b:List ao},nl k a=nl k b->a=b
 |_,[],[],_=>rfl
 |_,[],_::_,h=>by cases h
 |_,_::_,[],h=>by cases h
 |k,x::a,y::b,h=>by
  simp only[nl,List.cons.injEq,Prod.mk.injEq,true_and]at h
  rw[h.1,Jt h.2]
def jR(P:Program)(G:World->Prop){α β:Type}(o:List (aF P G))(c:Code)(q:List ResultVar)(F:bU α β)(L:af->Option β)(bs O:List Nat)(h:α->bd P G β)(x:α):bt β:=
 run o (cl P G F.n o) c (F.S x) (h x) [] (Mh P q F L bs O x)
theorem Fy{P:Program}{G:World->Prop}{fn:Func}{c:Code}{α β:Type}
  (F:bU α β)(L:List (aF P G))(Z:α->Option β)(lb:∀x y,F.rel x y->Z x=some y)(O:af->Option β)(bs q:List Nat)(h:α->bd P G β)
  (lc:(fun x=>((jR P G L c fn.results.toList F O bs q h x).ee,(jR P G L c fn.results.toList F O bs q h x).den))=fun x=>((jR P G L c fn.results.toList F O bs q h x).ew,Z x)):
  ∀cx:bB,cx.P=P->cx.n=F.n->(∀w,Frame cx.w0 w cx.X->G w)->∀x y,F.rel x y->W cx (qt cx.P fn cx (F.bJ x y) (F.ap x y)) c (F.S x):=by
 intro cx la ld le x y lf
 have lg:bv (cl P G F.n L) cx:=im la ld le
 have Y:=congrFun lc x
 simp only[Prod.mk.injEq]at Y
 refine pd lg c (r:=y) ?_ cF.nil ⟨bt.gt _ Y.1,Y.2.trans (lb x y lf)⟩
 intro e st' h' lp _ o
 have key:∀R,(R=.ret\/R=.normal)->bA (match pi h' st' with
   |some st'=>vY P fn.results.toList F O bs q x st'
   |none=>.ret none) y->N cx (qt cx.P fn cx (F.bJ x y) (F.ap x y)) R st':=by
  intro R lh o
  split at o
  ·rename_i lq li
   refine KT li ?_
   unfold vY at o
   split at o
   ·rename_i ap s lj lk
    split at o
    ·obtain⟨U,ll⟩:=o.eqs
     obtain⟨lm,ln⟩:=ll.eqs
     have lo:=Option.some.inj ln.den
     subst lo
     have U:=Option.some.inj U
     simp only[af.mk.injEq]at U
     exact fm la bs q lh (by rw[lj,Jt U.1]) (by rw[lk,Option.some.inj lm])
    ·exact o.no
   ·exact o.no
  ·exact o.no
 cases e with
 |ret=>exact key _ (.inl rfl) o
 |normal=>exact key _ (.inr rfl) o
 |_=>exact o.no
theorem dr{P:Program}{G:World->Prop}{f:FuncId}{fn:Func}{c:Code}{α β:Type}(R:P.funcs[f]? =some fn)(U:(fn.name== "runtime.NumGoroutine")=false)(W:fn.body=some c)
  (F:bU α β)(Y:fn.ntmps=F.n)(o:List (aF P G))(O:α->Option β)(Z:∀x y,F.rel x y->O x=some y)(q:af->Option β)(bs L:List Nat)(h:α->bd P G β)
  (la:(fun x=>((jR P G o c fn.results.toList F q bs L h x).ee,(jR P G o c fn.results.toList F q bs L h x).den))=fun x=>((jR P G o c fn.results.toList F q bs L h x).ew,O x)):cb P G f F:=
 mY R U W Y (Fy F o O Z q bs L h la)
theorem ND{F:aU}{fn:Func}{n:Nat}(q:fn.ntmps=n)(ah:Nat.ble F.eM.length n=true):∀o ap,F.aW.rel o ap->o.length<=fn.ntmps/\ap.length=F.aW.gz/\(F.aW.flat=true->∀u∈ap,u.t.flat=true):=by
 intro o ap h
 obtain⟨x,y,rfl,rfl,_⟩:=iI h
 exact⟨by rw[jy,q];exact Nat.le_of_ble_eq_true ah,jy _ _,fun L u O=>List.all_eq_true.1 L _ (oa _ _ u O)⟩
theorem QV{P:Program}{G:World->Prop}{f:Nat}{C:jg}(h:aV P G f C)(F:aU)(q:∀x y,F.fn x=some y->C.rel (dG F.eM x) (dG F.cH y)):aV P G f F.aW where
 enters:=h.enters
 shape:=fun L ap o=>by
  obtain⟨x,y,rfl,rfl,_⟩:=iI o
  exact⟨jy _ _,fun O u R=>List.all_eq_true.1 O _ (oa _ _ u R)⟩
 calls:=fun w M vs L ap U W o=>by
  obtain⟨x,y,rfl,rfl,e⟩:=iI o
  exact h.calls w M vs _ _ U W (q x y e)
theorem DD{P:Program}{G:World->Prop}{f:FuncId}{fn:Func}{c:Code}{α β:Type}(o:P.funcs[f]? =some fn)(q:(fn.name== "runtime.NumGoroutine")=false)(L:fn.body=some c)(F:bU α β)(h:∀x y,F.rel x y->False):cb P G f F where
 enters:=enters_of o q L
 calls:=fun _ _ _ _ x y O=>(h x y O).elim
def um{o:Type}(f:o):Unit->o:=fun _=>f
def b7{o q L:Type}(f:o->q->L):o×q->L:=fun z=>f z.1 z.2
def dq{o q L:Type}(g:o×q->L):o->q->L:=fun O R=>g (O,R)
def gj{o q L O:Type}(f:o->q->L->O):o×q×L->O:=fun z=>f z.1 z.2.1 z.2.2
def gH{o q L O:Type}(g:o×q×L->O):o->q->L->O:=fun R U W=>g (R,U,W)
def qk{o q L O R:Type}(f:o->q->L->O->R):o×q×L×O->R:=fun z=>f z.1 z.2.1 z.2.2.1 z.2.2.2
def tX{o q L O R:Type}(g:o×q×L×O->R):o->q->L->O->R:=fun U W Y Z=>g (U,W,Y,Z)
def M4{o q L O R U:Type}(f:o->q->L->O->R->U):o×q×L×O×R->U:=fun z=>f z.1 z.2.1 z.2.2.1 z.2.2.2.1 z.2.2.2.2
def tD{o q L O R U:Type}(g:o×q×L×O×R->U):o->q->L->O->R->U:=fun W Y Z la lb=>g (W,Y,Z,la,lb)
def U9{o q L O R U W Y Z:Type}(f:o->q->L->O->R->U->W->Y->Z):o×q×L×O×R×U×W×Y->Z:=fun z=>f z.1 z.2.1 z.2.2.1 z.2.2.2.1 z.2.2.2.2.1 z.2.2.2.2.2.1 z.2.2.2.2.2.2.1 z.2.2.2.2.2.2.2
def Nw{o q L O R U W Y Z:Type}(g:o×q×L×O×R×U×W×Y->Z):o->q->L->O->R->U->W->Y->Z:=fun la lb lc ld le lf lg lh=>g (la,lb,lc,ld,le,lf,lg,lh)
def WC{o q L O R U W Y Z la:Type}(f:o->q->L->O->R->U->W->Y->Z->la):o×q×L×O×R×U×W×Y×Z->la:=fun z=>f z.1 z.2.1 z.2.2.1 z.2.2.2.1 z.2.2.2.2.1 z.2.2.2.2.2.1 z.2.2.2.2.2.2.1 z.2.2.2.2.2.2.2.1 z.2.2.2.2.2.2.2.2
def Tb{o q L O R U W Y Z la:Type}(g:o×q×L×O×R×U×W×Y×Z->la):o->q->L->O->R->U->W->Y->Z->la:=fun lb lc ld le lf lg lh li lj=>g (lb,lc,ld,le,lf,lg,lh,li,lj)
def MT{o q L O R U W Y Z la lb lc:Type}(f:o->q->L->O->R->U->W->Y->Z->la->lb->lc):o×q×L×O×R×U×W×Y×Z×la×lb->lc:=fun z=>f z.1 z.2.1 z.2.2.1 z.2.2.2.1 z.2.2.2.2.1 z.2.2.2.2.2.1 z.2.2.2.2.2.2.1 z.2.2.2.2.2.2.2.1 z.2.2.2.2.2.2.2.2.1 z.2.2.2.2.2.2.2.2.2.1 z.2.2.2.2.2.2.2.2.2.2
def ug{o q L O R U W Y Z la lb lc ld:Type}(f:o->q->L->O->R->U->W->Y->Z->la->lb->lc->ld):o×q×L×O×R×U×W×Y×Z×la×lb×lc->ld:=fun z=>f z.1 z.2.1 z.2.2.1 z.2.2.2.1 z.2.2.2.2.1 z.2.2.2.2.2.1 z.2.2.2.2.2.2.1 z.2.2.2.2.2.2.2.1 z.2.2.2.2.2.2.2.2.1 z.2.2.2.2.2.2.2.2.2.1 z.2.2.2.2.2.2.2.2.2.2.1 z.2.2.2.2.2.2.2.2.2.2.2
def zv{o q L O R U W Y Z la lb lc ld:Type}(g:o×q×L×O×R×U×W×Y×Z×la×lb×lc->ld):o->q->L->O->R->U->W->Y->Z->la->lb->lc->ld:=fun le lf lg lh li lj lk ll lm ln lo lp=>g (le,lf,lg,lh,li,lj,lk,ll,lm,ln,lo,lp)
def Sd{o q L O R U W Y Z la lb lc ld le:Type}(f:o->q->L->O->R->U->W->Y->Z->la->lb->lc->ld->le):o×q×L×O×R×U×W×Y×Z×la×lb×lc×ld->le:=fun z=>f z.1 z.2.1 z.2.2.1 z.2.2.2.1 z.2.2.2.2.1 z.2.2.2.2.2.1 z.2.2.2.2.2.2.1 z.2.2.2.2.2.2.2.1 z.2.2.2.2.2.2.2.2.1 z.2.2.2.2.2.2.2.2.2.1 z.2.2.2.2.2.2.2.2.2.2.1 z.2.2.2.2.2.2.2.2.2.2.2.1 z.2.2.2.2.2.2.2.2.2.2.2.2
def Nn{o q L O R U W Y Z la lb lc ld le:Type}(g:o×q×L×O×R×U×W×Y×Z×la×lb×lc×ld->le):o->q->L->O->R->U->W->Y->Z->la->lb->lc->ld->le:=fun lf lg lh li lj lk ll lm ln lo lp lq lr=>g (lf,lg,lh,li,lj,lk,ll,lm,ln,lo,lp,lq,lr)
def JM{o q L O R U W Y Z la lb lc ld le lf:Type}(f:o->q->L->O->R->U->W->Y->Z->la->lb->lc->ld->le->lf):o×q×L×O×R×U×W×Y×Z×la×lb×lc×ld×le->lf:=fun z=>f z.1 z.2.1 z.2.2.1 z.2.2.2.1 z.2.2.2.2.1 z.2.2.2.2.2.1 z.2.2.2.2.2.2.1 z.2.2.2.2.2.2.2.1 z.2.2.2.2.2.2.2.2.1 z.2.2.2.2.2.2.2.2.2.1 z.2.2.2.2.2.2.2.2.2.2.1 z.2.2.2.2.2.2.2.2.2.2.2.1 z.2.2.2.2.2.2.2.2.2.2.2.2.1 z.2.2.2.2.2.2.2.2.2.2.2.2.2
def W5{o q L O R U W Y Z la lb lc ld le lf lg:Type}(f:o->q->L->O->R->U->W->Y->Z->la->lb->lc->ld->le->lf->lg):o×q×L×O×R×U×W×Y×Z×la×lb×lc×ld×le×lf->lg:=fun z=>f z.1 z.2.1 z.2.2.1 z.2.2.2.1 z.2.2.2.2.1 z.2.2.2.2.2.1 z.2.2.2.2.2.2.1 z.2.2.2.2.2.2.2.1 z.2.2.2.2.2.2.2.2.1 z.2.2.2.2.2.2.2.2.2.1 z.2.2.2.2.2.2.2.2.2.2.1 z.2.2.2.2.2.2.2.2.2.2.2.1 z.2.2.2.2.2.2.2.2.2.2.2.2.1 z.2.2.2.2.2.2.2.2.2.2.2.2.2.1 z.2.2.2.2.2.2.2.2.2.2.2.2.2.2
def Vm{o q L O R U W Y Z la lb lc ld le lf lg:Type}(g:o×q×L×O×R×U×W×Y×Z×la×lb×lc×ld×le×lf->lg):o->q->L->O->R->U->W->Y->Z->la->lb->lc->ld->le->lf->lg:=fun lh li lj lk ll lm ln lo lp lq lr ls lt lu lv=>g (lh,li,lj,lk,ll,lm,ln,lo,lp,lq,lr,ls,lt,lu,lv)
def OA{o q L O R U W Y Z la lb lc ld le lf lg lh li lj lk:Type}(f:o->q->L->O->R->U->W->Y->Z->la->lb->lc->ld->le->lf->lg->lh->li->lj->lk):o×q×L×O×R×U×W×Y×Z×la×lb×lc×ld×le×lf×lg×lh×li×lj->lk:=fun z=>f z.1 z.2.1 z.2.2.1 z.2.2.2.1 z.2.2.2.2.1 z.2.2.2.2.2.1 z.2.2.2.2.2.2.1 z.2.2.2.2.2.2.2.1 z.2.2.2.2.2.2.2.2.1 z.2.2.2.2.2.2.2.2.2.1 z.2.2.2.2.2.2.2.2.2.2.1 z.2.2.2.2.2.2.2.2.2.2.2.1 z.2.2.2.2.2.2.2.2.2.2.2.2.1 z.2.2.2.2.2.2.2.2.2.2.2.2.2.1 z.2.2.2.2.2.2.2.2.2.2.2.2.2.2.1 z.2.2.2.2.2.2.2.2.2.2.2.2.2.2.2.1 z.2.2.2.2.2.2.2.2.2.2.2.2.2.2.2.2.1 z.2.2.2.2.2.2.2.2.2.2.2.2.2.2.2.2.2.1 z.2.2.2.2.2.2.2.2.2.2.2.2.2.2.2.2.2.2
def Qs{o q L O R U W Y Z la lb lc ld le lf lg lh li lj lk:Type}(g:o×q×L×O×R×U×W×Y×Z×la×lb×lc×ld×le×lf×lg×lh×li×lj->lk):o->q->L->O->R->U->W->Y->Z->la->lb->lc->ld->le->lf->lg->lh->li->lj->lk:=fun ll lm ln lo lp lq lr ls lt lu lv lw lx ly lz lA lB lC lD=>g (ll,lm,ln,lo,lp,lq,lr,ls,lt,lu,lv,lw,lx,ly,lz,lA,lB,lC,lD)
end Go.Ev
namespace Go.Ev
open Go Go.RowKit
variable [b8]
variable {P:Program} {G:World->Prop}
variable {cx:bB} {m:Nat->Value} {st st':af} {T:Array Value} {w w':World} {E:Env}
theorem Ro{f:FuncId}{fn:Func}{c:Code}{α β:Type}{F:bU α β}(o:P.funcs[f]? =some fn)(L:(fn.name== "runtime.NumGoroutine")=false)(q:fn.body=some c)(O:fn.ntmps=F.n)
  (R:∀cx:bB,cx.P=P->cx.n=F.n->(∀w,Frame cx.w0 w cx.X->G w)->∀x y,F.rel x y->W cx (qt cx.P fn cx (F.bJ x y) (F.ap x y)) c (F.S x)):pZ P G f F where
 enters:=enters_of o L q
 calls:=fun cx U Y Z x y la vs w u _ h=>by
  subst U
  refine callsD_of_wp o q ?_
  rw[O]
  exact R cx rfl Y Z x y la _ _ h
theorem FU{f:FuncId}{fn:Func}{c:Code}{α β:Type}(R:P.funcs[f]? =some fn)(U:(fn.name== "runtime.NumGoroutine")=false)(W:fn.body=some c)
  (F:bU α β)(Y:fn.ntmps=F.n)(o:List (aF P G))(O:α->Option β)(Z:∀x y,F.rel x y->O x=some y)(q:af->Option β)(bs L:List Nat)(h:α->bd P G β)
  (la:(fun x=>((jR P G o c fn.results.toList F q bs L h x).ee,(jR P G o c fn.results.toList F q bs L h x).den))=fun x=>((jR P G o c fn.results.toList F q bs L h x).ew,O x)):pZ P G f F:=
 Ro R U W Y (Fy F o O Z q bs L h la)
def af.DY(st:af)(ρ:List (Nat×Nat)):Option af:=
 match nodupB (ρ.map (·.1)),nodupB (ρ.map (·.2)),nodupB (af.ids ⟨[],dT ρ st.ad ρ,ed st.rw ρ⟩)with
 |true,true,true=>some ⟨st.ab.map fun p=>(p.1,p.2.bZ ρ),dT ρ st.ad ρ,ed st.rw ρ⟩
 |_,_,_=>none
theorem an.V5(h:an cx m st T w){ρ:List (Nat×Nat)}(Y:st.DY ρ=some st'):∃ay,an {cx with m0:=ay} ay st' T w:=by
 unfold af.DY at Y
 split at Y
 case h_2=>cases Y
 rename_i Z la lb
 cases Y
 have Z:=gq Z
 have la:=gq la
 have lb:=gq lb
 obtain⟨ay,lk⟩:∃ay:Nat->Value,ay=fun j=>match inv ρ j with|some i=>m i|none=>undef:=⟨_,rfl⟩
 have q:∀i j,(i,j)∈ρ->ay j=m i:=by
  intro i j o
  rw[lk]
  simp only
  rw[o9 la o]
 have lc:∀{j:Nat},j∈af.ids ⟨st.ab.map fun p=>(p.1,p.2.bZ ρ),dT ρ st.ad ρ,ed st.rw ρ⟩->∃i,(i,j)∈ρ/\i∈st.ids:=fun L=>qD L
 have ld:∀b,b<w.heap.size->ar {cx with m0:=ay} ay (af.ids ⟨st.ab.map fun p=>(p.1,p.2.bZ ρ),dT ρ st.ad ρ,ed st.rw ρ⟩) b->ar cx m st.ids b:=by
  rintro b _ (ll|⟨j,L,lg⟩)
  ·exact .inl ll
  ·obtain⟨i,o,O⟩:=lc L
   rw[q i j o]at lg
   exact .inr ⟨i,O,lg⟩
 have le:∀b,b<w.heap.size->¬ar cx m st.ids b->w.heap[b]? =w.heap[b]? :=fun _ _ _=>rfl
 have lh:∀v s,aS w (ar cx m st.ids) m v s->aS w (ar {cx with m0:=ay} ay (af.ids ⟨st.ab.map fun p=>(p.1,p.2.bZ ρ),dT ρ st.ad ρ,ed st.rw ρ⟩)) ay v (s.bZ ρ):=
  fun v s lm=>tx q (fh le ld lm)
 refine⟨ay,{size:=h.size,frame:=h.frame,outer:=h.outer,cJ:=?_,boxes:=?_,rows:=?_,apart:=?_,keys:=lb,fixed:=fun _ _ _ _ _=>rfl,kept:=fun _ _ _ _ _=>rfl}⟩
 ·intro i aO O
  obtain⟨⟨j,s⟩,ln,lo⟩:=List.mem_map.1 O
  cases lo
  obtain⟨v,R,U⟩:=h.cJ j s ln
  exact⟨v,R,lh v s U⟩
 ·intro j c' L
  obtain⟨i,c,o,O,rfl⟩:=kh L
  obtain⟨g,R,U,lf⟩:=h.boxes i c O
  rw[q i j o]
  exact⟨g,iT.2 R,U,iH le ld (gF R) (fun _ _=>rfl) lh lf⟩
 ·intro j c L
  obtain⟨i,o,O⟩:=kG L
  obtain⟨cells,R,U,lf⟩:=h.rows i c O
  exact⟨cells,by rw[q i j o];exact R,fun g W=>U g (by rw[q i j o]at W;exact W),di (fun _ _=>cC le ld c.t) lf⟩
 ·intro lu lv lp lq lr g W li
  obtain⟨i1,lj,ls⟩:=lc lp
  obtain⟨i2,a2,lt⟩:=lc lq
  rw[q _ _ lj]at W
  rw[q _ _ a2]at li
  refine h.apart i1 i2 ls lt ?_ g W li
  rintro rfl
  exact lr (sj Z lj a2)
def rl(o:Nat)(st:af)(bs:List Nat):Bool:=bs.all fun b=>Nat.ble o b&&match look st.ad b with
 |some c=>c.one
 |none=>false
theorem wM(q:an cx m st T w):∀{bs:List Nat},rl cx.n st bs=true->bs.map m=bs.map cx.m0
 |[],_=>rfl
 |b::bs,h=>by
  unfold rl at h
  rw[List.all_cons,Bool.and_eq_true,Bool.and_eq_true]at h
  obtain⟨⟨L,o⟩,O⟩:=h
  split at o
  ·rename_i c R
   rw[List.map_cons,List.map_cons,q.fixed b c (a8 R) o (Nat.le_of_ble_eq_true L),wM q O]
  ·cases o
def wK(st:af)(aa:Oper):Option (Nat×List Nat):=
 match aa.op,aa.guard,aa.dst with
 |.defer c,none,none=>match c.callee,c.args.toList with
  |.value x,[]=>match aR st x with
   |some (.clos f bs)=>some (f,bs)
   |_=>none
  |_,_=>none
 |_,_,_=>none
def mU(f:Nat)(m0:Nat->Value)(bs:List Nat):Deferred:={target:=.fn (.func f) (bs.map m0).toArray,args:=#[]}
theorem Xq(q:an cx m st T w){ops:Array Oper}{Q:cO}{aa:Oper}{f:Nat}{bs:List Nat}(ah:wK st aa=some (f,bs))(L:rl cx.n st bs=true)(h:Q .normal ⟨T,[mU f cx.m0 bs]⟩ w):
  wpList cx.P ops Q [aa] ⟨T,[]⟩ w:=by
 unfold wK at ah
 split at ah
 case h_2=>cases ah
 rename_i c O R U
 split at ah
 case h_2=>cases ah
 rename_i x W o
 split at ah
 case h_2=>cases ah
 rename_i le lf Y
 cases ah
 have Z:Act.eval ⟨T,ai.D cx⟩ x=.func (.func f) #[] (bs.map m).toArray:=be q Y
 have o:c.args=#[]:=by rw[<-Array.toArray_toList (xs:=c.args),o]
 refine wpList_step fun K la=>?_
 have lb:Region.wanted aa (yielded ops T)=true:=by unfold Region.wanted;rw[R]
 rw[lb]
 simp only[if_true]
 unfold Oper.wp
 have lc:(execOp (Act.eval ⟨T,[]⟩) aa).run cx.P w=.ok (.defer (mU f cx.m0 bs)) w:=by
  have ld:Act.eval ⟨T,[]⟩ x=.func (.func f) #[] (bs.map m).toArray:=Z
  simp only[execOp,O,resolve,W,o,List.map_toArray,List.map_nil,ld,Deferred.ofValue,Sem.run_bind,Sem.run_pure,Result.andThen_ok,wM q L,mU]
  rfl
 rw[lc]
 show K (Act.put {tmps:=T,defers:=[mU f cx.m0 bs]} aa.dst undef) w
 rw[U]
 exact la _ _ h
theorem Si[ai cx]{o:Type}{r:o}{q:List (aF P G)}{cw:Nat}(R:bv (cl P G cw q) cx){ops:Array Oper}{Q:cO}{l:List Oper}{h:bd P G o}{L:List cu}{K:eQ P G o}
  (U:∀st' h' O,cF O->bA (K st' h' O) r->N cx Q .normal st')(W:cF L)(Y:bA (mF q (cl P G cw q) ops l st h L K) r):bN cx ops Q l st:=
 fI (oe R r) 5000 (i:=Q) U W Y
def ve(P:Program)(fn:Func)(M:Nat->Prop)(w0:World)(ap:List ak):cO:=
 bodyPostD P fn fun e w'=>∃v,e=.returned v/\jG w' M v ap/\Ext w0 w'
def Hw{cH:List ag}(O:Program)(R:List ResultVar)(q f:Nat)(bs:List Nat)(st:af)(h:bd P G (cN cH)):bt (cN cH):=
 match h with
 |.ig o ρ ρ'=>match rl q st bs&&(oY st bs&&Nat.beq o.f f),iG st o.F.n ρ (bs.map fun b=>ao.ptr b 0)with
  |true,some L=>match o.X L with
   |some x=>.eqs (some L) (some (o.F.S x)) (.ask (o.fn x) fun y=>match qJ st (o.F.bJ x y) o.F.n q ρ ρ' with
    |some st'=>match gP O (jN st') R with
     |some ap=>.ret (hZ cH ap)
     |none=>.ret none
    |none=>.ret none)
   |none=>.ret none
  |_,_=>.ret none
 |_=>.ret none
def tU{cH:List ag}(o:Program)(q:List ResultVar)(L f:Nat)(bs:List Nat)(st:af)(h:bd P G (cN cH)):bt (cN cH):=Hw o q L f bs (jN st) h
theorem KU{cH:List ag}{fn:Func}{n:Nat}{M:Nat->Prop}{w0:World}{m0:Nat->Value}{f:Nat}{bs:List Nat}{h:bd P G (cN cH)}{y:cN cH}{e:Exit}(Y:e=.ret\/e=.normal)
  (Z:∀w,Frame w0 w (fun _=>False)->G w)(la:bA (tU P fn.results.toList n f bs st h) y):
  @N _ ⟨P,n,w0,M,fun _=>False,m0⟩ ⟨[mU f m0 bs]⟩ (ve P fn M w0 (dG cH y)) e st:=by
 rintro T w ⟨m,lb⟩
 have o:=la
 unfold tU at o
 have q:=yR (l:=st.ad) (Al (l:=st.ad) (yZ (l:=st.rw) lb))
 replace q:an _ m (jN st) T w:=q
 generalize jN st=st at o q
 have key:Leaves P fn T (fun e w'=>∃v,e=.returned v/\jG w' M v (dG cH y)/\Ext w0 w') [mU f m0 bs] .returning w:=by
  unfold Hw at o
  split at o
  case h_2=>exact o.no
  rename_i L ρ ρ'
  split at o
  case h_2=>exact o.no
  rename_i lx W U
  rw[Bool.and_eq_true,Bool.and_eq_true]at W
  obtain⟨lc,ld,O⟩:=W
  have O:=Nat.eq_of_beq_eq_true O
  subst O
  split at o
  case h_2=>exact o.no
  rename_i x ly
  obtain⟨le,lf⟩:=o.eqs
  have lg:=Option.some.inj le
  subst lg
  obtain⟨z,lh,R⟩:=lf.ask
  split at R
  case h_2=>exact R.no
  rename_i lz li
  split at R
  case h_2=>exact R.no
  rename_i ap lj
  obtain⟨lk,ll⟩:=za U
  have lm:=ri q ld
  have ln:=yU q U lm
  have lo:bs.map m=bs.map m0:=wM q lc
  have lp:(L.F.S x).ab.length=bs.length:=by rw[yl U,List.length_map]
  have lq:=L.ok.calls (sub ⟨P,n,w0,M,fun _=>False,m0⟩ m st w L.F.n ρ) rfl rfl (fun w' O=>Z w' (EY q O)) x z (L.rel x z lh) _ w .returning (by rw[lp,List.length_map]) ⟨_,ln⟩
  refine leaves_cons (f:=L.f) (args:=(bs.map m).toArray) (by intro lr;cases lr) ?_ ?_
  ·show(callFunc L.f (#[]++(bs.map m0).toArray)).run P w=_
   rw[<-lo,Array.empty_append]
   exact L.ok.enters _ _
  ·refine lq.mono ?_
   rintro e lA w' ⟨rfl,v,ay,lB,rfl,ls,_⟩
   obtain⟨m2,lt,_⟩:=xZ q lk ll ls li
   have lu:=zm (M:=M) (w0:=w0) (n:=n) (m0:=m0) (e:=.ret) (.inl rfl) lj R.den T w' ⟨m2,lt⟩
   obtain⟨_,v',lv,lw⟩:=lu
   exact⟨v',lv,lw⟩
 rcases Y with rfl|rfl<;>exact key
def TG{cH:List ag}(o:Program)(q:List ResultVar)(L f:Nat)(bs:List Nat):jE P G (cN cH):=fun e st h _=>
 match e with
 |.ret=>tU o q L f bs st h
 |.normal=>tU o q L f bs st h
 |_=>.ret none
def qw(P:Program)(G:World->Prop)(n:Nat)(o:List (aF P G))(O:Code)(ops:Array Oper)(rest:Code)(R:List ResultVar)(F:aU)(ρ:List (Nat×Nat))(h:cN F.eM->bd P G (cN F.cH))(x:cN F.eM):bt (cN F.cH):=
 run o (cl P G n o) O ⟨ka 0 (dG F.eM x),[],[]⟩ (h x) [] fun e st h q=>match e with
  |.normal=>match ops.toList.reverse with
   |aa::l=>mF o (cl P G n o) ops l.reverse st h q fun st h q=>match st.DY ρ with
    |some L=>match wK L aa with
     |some (f,bs)=>match rl n L bs with
      |true=>run o (cl P G n o) rest L h q (TG P R n f bs)
      |false=>.ret none
     |none=>.ret none
    |none=>.ret none
   |[]=>.ret none
  |_=>.ret none
theorem F4(li:∀w w',Frame w w' (fun _=>False)->G w->G w'){f:FuncId}{fn:Func}{o:Code}{id:Nat}{ops:Array Oper}{rest:Code}(la:P.funcs[f]? =some fn)(lj:(fn.name== "runtime.NumGoroutine")=false)(lb:fn.body=some (.seq o (.seq (.region id ops false) rest)))
  {n:Nat}(lc:fn.ntmps=n)(F:aU)(ah:Nat.ble F.eM.length n=true)(L:List (aF P G))(ρ:List (Nat×Nat))(h:cN F.eM->bd P G (cN F.cH))
  (lk:(fun x=>((qw P G n L o ops rest fn.results.toList F ρ h x).ee,(qw P G n L o ops rest fn.results.toList F ρ h x).den))=fun x=>((qw P G n L o ops rest fn.results.toList F ρ h x).ew,F.fn x)):aV P G f F.aW where
 enters:=enters_of la lj lb
 shape:=fun ll ap h=>by
  obtain⟨x,y,rfl,rfl,_⟩:=iI h
  exact⟨jy _ _,fun lm u ln=>List.all_eq_true.1 lm _ (oa _ _ u ln)⟩
 calls:=fun w0 M vs ll ap lo lp lq lr=>by
  obtain⟨x,y,rfl,rfl,ls⟩:=iI lq
  have R:∀w,Frame w0 w (fun _=>False)->G w:=fun w' h=>li w0 w' h lo
  refine calls_of_wp_defers la lb ?_
  have lt:(dG F.eM x).length<=fn.ntmps:=by rw[jy,lc];exact Nat.le_of_ble_eq_true ah
  have U:=congrFun lk x
  simp only[Prod.mk.injEq]at U
  have ld:bA (qw P G n L o ops rest fn.results.toList F ρ h x) y:=⟨bt.gt _ U.1,U.2.trans ls⟩
  subst lc
  have le:bv (cl P G fn.ntmps L) ⟨P,fn.ntmps,w0,M,fun _=>False,fun _=>undef⟩:=im rfl rfl R
  have lu:W ⟨P,fn.ntmps,w0,M,fun _=>False,fun _=>undef⟩ (ve P fn M w0 (dG F.cH y)) (.seq o (.seq (.region id ops false) rest)) ⟨ka 0 (dG F.eM x),[],[]⟩:=by
   refine aI ?_
   unfold qw at ld
   refine pd le o ?_ cF.nil ld
   intro e lv lI lJ lw O
   cases e with
   |normal=>
    refine aM (aI ?_)
    simp only at O
    split at O
    case h_2=>exact O.no
    rename_i aa l lx
    have ly:ops=(l.reverse++[aa]).toArray:=by
     have:ops.toList=l.reverse++[aa]:=by rw[<-List.reverse_reverse ops.toList,lx,List.reverse_cons]
     rw[<-this]
    have lz:bN ⟨P,fn.ntmps,w0,M,fun _=>False,fun _=>undef⟩ ops (Exit.then (rest.wp P (ve P fn M w0 (dG F.cH y))) (ve P fn M w0 (dG F.cH y))) (l.reverse++[aa]) lv:=by
     intro T w Y
     refine rz ?_
     refine Si le ?_ lw O T w Y
     intro lK lL lM lA q lf lg lB
     show wpList P ops _ [aa] ⟨lf,[]⟩ lg
     split at q
     case h_2=>exact q.no
     rename_i lN lC
     split at q
     case h_2=>exact q.no
     rename_i lD bs lE
     split at q
     case h_2=>exact q.no
     rename_i lF
     obtain⟨m2,lG⟩:=lB
     obtain⟨m3,lh⟩:=lG.V5 lC
     refine Xq lh lE lF ?_
     have lH:bv (cl P G fn.ntmps L) ⟨P,fn.ntmps,w0,M,fun _=>False,m3⟩:=im rfl rfl R
     letI lO:ai ⟨P,fn.ntmps,w0,M,fun _=>False,m3⟩:=⟨[mU lD m3 bs]⟩
     refine pd lH (r:=y) rest ?_ lA q lf lg ⟨m3,lh⟩
     intro e lP lQ lR _ Z
     cases e with
     |ret=>exact KU (.inl rfl) R Z
     |normal=>exact KU (.inr rfl) R Z
     |_=>exact Z.no
    intro T w Y
    have:=lz T w Y
    rw[ly]at this⊢
    exact wp_region_lit this
   |_=>exact O.no
  exact lu _ _ (entry lp lr lt)
end Go.Ev
namespace Go.Ev
open Go
set_option linter.unusedVariables false
def Ar(o:List UInt8)(q:(List UInt8)->Option (List UInt8))(t1:Bool):Option (List UInt8):=
 if t1 then
  (
   Option.bind (dx o (0:Int) (aj ((List.length o:Int)-(1:Int)))) fun L=>
   q L
  )
 else
  some (o)
def Xl(L:Int)(q:(List UInt8)->Option (List UInt8))(o:List UInt8):Option (List UInt8):=
 if decide ((0:Int)<(List.length o:Int))then
  (
   Option.bind (dZ o (aj ((List.length o:Int)-(1:Int)))) fun O=>
   Ar o q (O==L)
  )
 else
  Ar o q false
def yV(o:Int):Nat->(List UInt8)->Option (List UInt8)
 |0,_=>none
 |n+1,q=>Xl o (yV o n) q
def HL(k:Nat)(o:List UInt8)(q:Int):Option (List UInt8):=
 yV q k o
def yC(o:List UInt8)(q:(List UInt8)->Option (List UInt8))(t1:Bool):Option (List UInt8):=
 if t1 then
  (
   Option.bind (dx o (1:Int) (o.length:Int)) fun L=>
   q L
  )
 else
  some (o)
def Pt(L:Int)(q:(List UInt8)->Option (List UInt8))(o:List UInt8):Option (List UInt8):=
 if decide ((0:Int)<(List.length o:Int))then
  (
   Option.bind (dZ o (0:Int)) fun O=>
   yC o q (O==L)
  )
 else
  yC o q false
def B2(o:Int):Nat->(List UInt8)->Option (List UInt8)
 |0,_=>none
 |n+1,q=>Pt o (B2 o n) q
def FT(k:Nat)(o:List UInt8)(q:Int):Option (List UInt8):=
 B2 q k o
def P6(L:List UInt8)(O:Int->(List (Bool))->Option (List (Bool)×Bool))(i1:Int)(q:List (Bool)):Option (List (Bool)×Bool):=
 if decide (i1<(List.length L:Int))then
  (
   Option.bind (dZ L i1) fun o=>
   if decide ((128:Int)<=o)then
    some (q,false)
   else
    (
     Option.bind (aL (0<=o/\o<(256:Int))) fun _=>
     Option.bind (aq q o) fun R=>
     O (aj (i1+(1:Int))) (List.set q (o).toNat true)
    )
  )
 else
  some (q,true)
def CS(o:List UInt8):Nat->Int->(List (Bool))->Option (List (Bool)×Bool)
 |0,_,_=>none
 |n+1,i1,q=>P6 o (CS o n) i1 q
def tG(k:Nat)(o:List UInt8):Option (List (Bool)×Bool):=
 CS o k (0:Int) (List.replicate 256 false)
def pw(k:Nat)(o:List (Bool))(q:Int):Option Bool:=
 Option.bind (aq o q) fun L=>
 some (L)
def vj(o:List UInt8):Option (List UInt8):=
 some (o)
def G9(k:Nat)(q:List (Bool))(L:(List UInt8)->Option (List UInt8))(o:List UInt8):Option (List UInt8):=
 if decide ((0:Int)<(List.length o:Int))then
  (
   Option.bind (dZ o (aj ((List.length o:Int)-(1:Int)))) fun O=>
   Option.bind (pw k q O) fun v1=>
   if !v1 then
    vj o
   else
    (
     Option.bind (dx o (0:Int) (aj ((List.length o:Int)-(1:Int)))) fun R=>
     L R
    )
  )
 else
  vj o
def qR(k:Nat)(o:List (Bool)):Nat->(List UInt8)->Option (List UInt8)
 |0,_=>none
 |n+1,q=>G9 k o (qR k o n) q
def B5(k:Nat)(o:List UInt8)(q:List (Bool)):Option (List UInt8):=
 qR k q k o
def uD(o:List UInt8):Option (List UInt8):=
 some (o)
def I3(k:Nat)(q:List (Bool))(L:(List UInt8)->Option (List UInt8))(o:List UInt8):Option (List UInt8):=
 if decide ((0:Int)<(List.length o:Int))then
  (
   Option.bind (dZ o (0:Int)) fun O=>
   Option.bind (pw k q O) fun v1=>
   if !v1 then
    uD o
   else
    (
     Option.bind (dx o (1:Int) (o.length:Int)) fun R=>
     L R
    )
  )
 else
  uD o
def ph(k:Nat)(o:List (Bool)):Nat->(List UInt8)->Option (List UInt8)
 |0,_=>none
 |n+1,q=>I3 k o (ph k o n) q
def Ah(k:Nat)(o:List UInt8)(q:List (Bool)):Option (List UInt8):=
 ph k q k o
def HY(k:Nat)(o:List UInt8)(q:List UInt8):Option (List UInt8):=
 none
def Gz(k:Nat)(o:List UInt8)(q:List UInt8):Option (List UInt8):=
 none
def uH(k:Nat)(o:List UInt8)(q:List UInt8)(t2:Bool):Option (List UInt8):=
 if t2 then
  (
   Option.bind (dZ o (0:Int)) fun L=>
   Option.bind (HL k q L) fun v1=>
   Option.bind (dZ o (0:Int)) fun O=>
   Option.bind (FT k v1 O) fun v2=>
   some (v2)
  )
 else
  (
   Option.bind (tG k o) fun v3=>
   if v3.2 then
    (
     Option.bind (B5 k q v3.1) fun v4=>
     Option.bind (Ah k v4 v3.1) fun v5=>
     some (v5)
    )
   else
    (
     Option.bind (HY k q o) fun R=>
     Option.bind (Gz k R o) fun U=>
     some (U)
    )
  )
def LJ(k:Nat)(q:List UInt8)(o:List UInt8)(t1:Bool):Option (List UInt8):=
 if t1 then
  some (q)
 else
  (
   if(List.length o:Int)==(1:Int)then
    (
     Option.bind (dZ o (0:Int)) fun L=>
     uH k o q (decide (L<(128:Int)))
    )
   else
    uH k o q false
  )
def oB(k:Nat)(o:List UInt8)(q:List UInt8):Option (List UInt8):=
 LJ k o q ((o==([]:List UInt8))||(q==([]:List UInt8)))
def rP(t2:Bool):Option Bool:=
 some (t2)
def Gs(k:Nat)(o:List UInt8)(t1:Bool):Option Bool:=
 if t1 then
  (
   Option.bind (oB k o ([97,98,99,100,101,102,103,104,105,106,107,108,109,110,111,112,113,114,115,116,117,118,119,120,121,122]:List UInt8)) fun v1=>
   rP (v1==([]:List UInt8))
  )
 else
  rP false
def uR(k:Nat)(o:List UInt8):Option Bool:=
 Gs k o ((!(o==([]:List UInt8)))&&(decide ((List.length o:Int)<=(32:Int))))
def oA(t2:Bool):Option Bool:=
 if t2 then
  some (false)
 else
  some (true)
def so(o:Int)(t1:Bool):Option Bool:=
 if t1 then
  some (true)
 else
  (
   if decide (o<(161:Int))then
    oA (decide (o<(161:Int)))
   else
    (
     if decide ((1114111:Int)<o)then
      oA (decide ((1114111:Int)<o))
     else
      (
       if o==(65533:Int)then
        oA (o==(65533:Int))
       else
        (
         Option.bind (aL (0<=(11:Int))) fun _=>
         oA ((Int.fdiv o (2^min ((11:Int)).toNat 32))==(27:Int))
        )
      )
    )
  )
def Kg(o:Int)(t4:Bool):Option Bool:=
 so o t4
def Hp(o:Int)(t3:Bool):Option Bool:=
 if t3 then
  so o t3
 else
  Kg o (decide ((65:Int)<=o)&&(decide (o<=(90:Int))))
def ul(k:Nat)(o:Int):Option Bool:=
 Hp o (decide ((97:Int)<=o)&&(decide (o<=(122:Int))))
def Fz(t1:Bool):Option Bool:=
 some (t1)
def kV(k:Nat)(o:aC)(q:Int)(L:Int):Option Bool:=
 Option.bind (aL (0<=(List.length o.1:Int))) fun _=>
 Fz (((Int.fdiv (cA (BitVec.toNat (BitVec.ofInt 32 q|||BitVec.ofInt 32 L))) (2^min ((List.length o.1:Int)).toNat 32))==(0:Int))&&((cA (BitVec.toNat (BitVec.ofInt 32 q&&&BitVec.ofInt 32 L)))==(0:Int)))
def FB(o:Int->bQ->Option Int)(t3:Int)(m1:List bw)(q:List UInt8)(t4:Bool):Option Int:=
 if t4 then
  some ((7:Int))
 else
  o (aj (t3+(1:Int))) (cm (aQ .str) m1 q true)
def vM(aP:Int->(List (Int×Bool))->Option Int)(t5:Int)(m2:List (Int×Bool))(o:cz)(t7:Bool):Option Int:=
 if t7 then
  some ((7:Int))
 else
  aP (aj (t5+(1:Int))) (cm (aQ (.int .i32)) m2 o.1 true)
def IN(k:Nat)(aP:Int->(List (Int×Bool))->Option Int)(t5:Int)(m2:List (Int×Bool))(o:cz)(q:aC)(t6:Bool):Option Int:=
 if t6 then
  vM aP t5 m2 o true
 else
  (
   Option.bind (kV k (q.1,q.2.1,()) o.2.1 o.2.2.1) fun v3=>
   vM aP t5 m2 o (!v3)
  )
def Ho(k:Nat)(o:aC)(aP:Int->(List (Int×Bool))->Option Int)(t5:Int)(m2:List (Int×Bool)):Option Int:=
 if decide (t5<(List.length o.2.1:Int))then
  (
   Option.bind (aq o.2.1 t5) fun q=>
   Option.bind (ul k q.1) fun v2=>
   IN k aP t5 m2 q o ((!v2)||((bL (aQ (.int .i32)) m2 q.1).getD false))
  )
 else
  some ((0:Int))
def oG(k:Nat)(o:aC):Nat->Int->(List (Int×Bool))->Option Int
 |0,_,_=>none
 |n+1,t5,m2=>Ho k o (oG k o n) t5 m2
def Jv(k:Nat)(o:aC)(L:Int->bQ->Option Int)(t3:Int)(m1:List bw):Option Int:=
 if decide (t3<(List.length o.1:Int))then
  (
   Option.bind (aq o.1 t3) fun q=>
   Option.bind (uR k q) fun v1=>
   FB L t3 m1 q ((!v1)||((bL (aQ .str) m1 q).getD false))
  )
 else
  oG k o k (0:Int) ([]:List (Int×Bool))
def qF(k:Nat)(o:aC):Nat->Int->bQ->Option Int
 |0,_,_=>none
 |n+1,t3,m1=>Jv k o (qF k o n) t3 m1
def E9(k:Nat)(o:aC)(t2:Bool):Option Int:=
 if t2 then
  some ((7:Int))
 else
  qF k o k (0:Int) ([]:List bw)
def Gf(k:Nat)(o:aC)(t1:Bool):Option Int:=
 E9 k o (t1||(decide ((128:Int)<(List.length o.2.1:Int))))
def fR(k:Nat)(o:aC):Option Int:=
 Gf k o (decide ((24:Int)<(List.length o.1:Int))||(decide ((List.length o.2.1:Int)<(1:Int))))
def Ej(t1:Bool):Option Bool:=
 some (t1)
def FO(k:Nat)(o:List UInt8):Option Bool:=
 if decide ((List.length o:Int)<=(32:Int))then
  (
   Option.bind (oB k o ([97,98,99,100,101,102,103,104,105,106,107,108,109,110,111,112,113,114,115,116,117,118,119,120,121,122,48,49,50,51,52,53,54,55,56,57,45]:List UInt8)) fun v1=>
   Ej (v1==([]:List UInt8))
  )
 else
  Ej false
def Cf(k:Nat)(l1:cz)(t1:Int):Option Bool:=
 some (l1.1==t1)
def F8(k:Nat)(o:List aw)(f1:(Int×Unit))(q:Int->Option Int)(t1:Int):Option Int:=
 if decide (t1<(List.length o:Int))then
  (
   Option.bind (aq o t1) fun L=>
   Option.bind (Cf k L f1.1) fun v1=>
   if v1 then
    some (t1)
   else
    q (aj (t1+(1:Int)))
  )
 else
  some ((-1:Int))
def pn(k:Nat)(o:List aw)(f1:(Int×Unit)):Nat->Int->Option Int
 |0,_=>none
 |n+1,t1=>F8 k o f1 (pn k o f1 n) t1
def sq(k:Nat)(o:List aw)(f1:(Int×Unit)):Option Int:=
 pn k o f1 k (0:Int)
def fK(k:Nat)(o:aC)(L:Int):Option iD:=
 Option.bind (fR k (o.1,o.2.1,())) fun v1=>
 if v1 !=(0:Int)then
  some (((0:Int),(0:Int),(0:Int),()),v1)
 else
  (
   Option.bind (sq k o.2.1 (L,())) fun v2=>
   if decide (v2<(0:Int))then
    some (((0:Int),(0:Int),(0:Int),()),(5:Int))
   else
    (
     Option.bind (aq o.2.1 v2) fun q=>
     some ((q.1,q.2.1,q.2.2.1,()),(0:Int))
    )
  )
def uL(k:Nat)(o:aC)(q:Int):Option Bool:=
 Option.bind (fK k (o.1,o.2.1,()) q) fun v1=>
 some (v1.2==(0:Int))
def p9(k:Nat)(o:List UInt8)(l1:List (Int)):Option (Option (Option (Nat×Int))×Int×List (Int)):=
 Option.bind (zU k l1) fun v1=>
 Option.bind (aL (List.length l1+List.length (eH o)<=br)) fun _=>
 some ((none:Option (Option (Nat×Int))),(List.length o:Int),l1++(eH o))
def tE(o:Int->(List (Int))->Option bc)(t1:Int)(t3:List (Int)):Option bc:=
 o (aj (t1+(1:Int))) t3
def US(k:Nat)(L:aC)(O:Int)(R:Int)(q:Int->(List (Int))->Option bc)(t1:Int)(t2:List (Int)):Option bc:=
 if decide (t1<(List.length L.1:Int))then
  (
   Option.bind (aq L.1 t1) fun o=>
   Option.bind (aL (0<=t1)) fun _=>
   if(cA (BitVec.toNat (BitVec.ofInt 32 (Int.fdiv O (2^min (t1).toNat 32))&&&BitVec.ofInt 32 (1:Int))))==(1:Int)then
    (
     Option.bind (aL (List.length ([43]:List UInt8)+List.length o<=br)) fun _=>
     Option.bind (p9 k (([43]:List UInt8)++o) t2) fun v3=>
     tE q t1 v3.2.2
    )
   else
    (
     Option.bind (aL (0<=t1)) fun _=>
     if(cA (BitVec.toNat (BitVec.ofInt 32 (Int.fdiv R (2^min (t1).toNat 32))&&&BitVec.ofInt 32 (1:Int))))==(1:Int)then
      (
       Option.bind (aL (List.length ([45]:List UInt8)+List.length o<=br)) fun _=>
       Option.bind (p9 k (([45]:List UInt8)++o) t2) fun v4=>
       tE q t1 v4.2.2
      )
     else
      tE q t1 t2
    )
  )
 else
  (
   Option.bind (rj k t2) fun v5=>
   some (v5,(0:Int))
  )
def Ef(k:Nat)(o:aC)(q:Int)(L:Int):Nat->Int->(List (Int))->Option bc
 |0,_,_=>none
 |n+1,t1,t2=>US k o q L (Ef k o q L n) t1 t2
def Aj(k:Nat)(o:aC)(q:Int)(L:Int):Option bc:=
 Option.bind (fR k (o.1,o.2.1,())) fun v1=>
 if v1 !=(0:Int)then
  some (([]:List UInt8),v1)
 else
  (
   Option.bind (kV k (o.1,o.2.1,()) q L) fun v2=>
   if !v2 then
    some (([]:List UInt8),(20:Int))
   else
    Ef k o q L k (0:Int) ([]:List (Int))
  )
def I8(k:Nat)(o:aC)(q:Int)(L:Int):Option Bool:=
 Option.bind (Aj k (o.1,o.2.1,()) q L) fun v1=>
 some (v1.2==(0:Int))
def Wd(t1:Bool):Option Bool:=
 some (t1)
def yo(k:Nat)(o:aC)(q:Int)(L:Int)(O:Int):Option Bool:=
 if q !=(0:Int)then
  (
   Option.bind (uL k (o.1,o.2.1,()) q) fun v1=>
   Wd (v1&&((cA (BitVec.toNat (BitVec.ofInt 32 L|||BitVec.ofInt 32 O)))==(0:Int)))
  )
 else
  (
   Option.bind (I8 k (o.1,o.2.1,()) L O) fun v2=>
   some (v2)
  )
def CY(k:Nat)(q:aC)(o:nf)(t2:Bool):Option Bool:=
 if t2 then
  some (false)
 else
  (
   Option.bind (yo k (q.1,q.2.1,()) o.1 o.2.2.1 o.2.2.2.1) fun v1=>
   some (v1)
  )
def xI(k:Nat)(o:aC)(q:nf)(t3:Bool):Option Bool:=
 CY k o q t3
def T3(k:Nat)(o:aC)(q:nf)(t4:Bool):Option Bool:=
 xI k o q t4
def Xo(k:Nat)(q:aC)(o:nf)(L:Int)(t1:Bool):Option Bool:=
 if t1 then
  CY k q o true
 else
  (
   if o.1==(0:Int)then
    T3 k q o (decide (o.2.1<(0:Int))||(decide (L<=o.2.1)))
   else
    xI k q o false
  )
def JH(k:Nat)(q:aC)(o:nf)(L:Int):Option Bool:=
 Xo k q o L ((o.1 !=(0:Int))&&(o.2.1 !=(0:Int)))
def Xi(o:List (Bool))(v1:Bool)(q:Int->Option Int)(t1:Int):Option Int:=
 if decide (t1<(List.length o:Int))then
  (
   Option.bind (aq o t1) fun L=>
   if v1==L then
    some (t1)
   else
    q (aj (t1+(1:Int)))
  )
 else
  some ((-1:Int))
def xD(o:List (Bool))(v1:Bool):Nat->Int->Option Int
 |0,_=>none
 |n+1,t1=>Xi o v1 (xD o v1 n) t1
def GI(k:Nat)(o:List (Bool))(v1:Bool):Option Int:=
 xD o v1 k (0:Int)
def Bj(k:Nat)(o:List (Bool))(v1:Bool):Option Bool:=
 Option.bind (GI k o v1) fun v2=>
 some (decide ((0:Int)<=v2))
def Df(t7:List (Bool))(o:Int)(aP:Int->(List (Bool))->Option Bool)(t6:Int)(t9:Bool):Option Bool:=
 if t9 then
  some (false)
 else
  (
   Option.bind (aq t7 o) fun q=>
   aP (aj (t6+(1:Int))) (List.set t7 (o).toNat true)
  )
def Vs(t7:List (Bool))(o:Int)(aP:Int->(List (Bool))->Option Bool)(t6:Int)(t8:Bool):Option Bool:=
 if t8 then
  Df t7 o aP t6 true
 else
  (
   Option.bind (aq t7 o) fun q=>
   Df t7 o aP t6 q
  )
def RU(q:fy)(t2:Int)(L:eC)(O:Int->(List (Bool))->Option Bool)(aP:Int->(List (Bool))->Option Bool)(t6:Int)(t7:List (Bool)):Option Bool:=
 if decide (t6<(List.length q.2.2.2.2.1:Int))then
  (
   Option.bind (aq q.2.2.2.2.1 t6) fun o=>
   Vs t7 o aP t6 (decide (o<=t2)||(decide ((List.length L.1:Int)<=o)))
  )
 else
  O (aj (t2+(1:Int))) t7
def CP(o:fy)(t2:Int)(q:eC)(L:Int->(List (Bool))->Option Bool):Nat->Int->(List (Bool))->Option Bool
 |0,_,_=>none
 |n+1,t6,t7=>RU o t2 q L (CP o t2 q L n) t6 t7
def zK(k:Nat)(o:fy)(t2:Int)(q:eC)(L:Int->(List (Bool))->Option Bool)(t3:List (Bool))(t5:Bool):Option Bool:=
 if t5 then
  some (false)
 else
  CP o t2 q L k (0:Int) t3
def TS(k:Nat)(o:fy)(t2:Int)(q:eC)(L:Int->(List (Bool))->Option Bool)(t3:List (Bool))(t10:Bool):Option Bool:=
 zK k o t2 q L t3 t10
def U6(k:Nat)(o:fy)(t2:Int)(q:eC)(L:Int->(List (Bool))->Option Bool)(t3:List (Bool))(t4:Bool):Option Bool:=
 if t4 then
  zK k o t2 q L t3 true
 else
  TS k o t2 q L t3 (((cA (BitVec.toNat (BitVec.ofInt 32 o.2.2.1|||BitVec.ofInt 32 o.2.2.2.1)))!=(0:Int))&&(o.1 !=(3:Int)))
def sL(k:Nat)(o:fy)(t2:Int)(q:eC)(L:Int->(List (Bool))->Option Bool)(t3:List (Bool)):Option Bool:=
 U6 k o t2 q L t3 ((o.2.1 !=(0:Int))&&(o.1 !=(2:Int)))
def ol(k:Nat)(o:fy)(t2:Int)(q:eC)(L:Int->(List (Bool))->Option Bool)(t3:List (Bool))(t13:Bool):Option Bool:=
 if t13 then
  (
   if(List.length o.2.2.2.2.1:Int)!=(0:Int)then
    some (false)
   else
    sL k o t2 q L t3
  )
 else
  some (false)
def C0(k:Nat)(o:fy)(t2:Int)(q:eC)(L:Int->(List (Bool))->Option Bool)(t3:List (Bool))(t12:Bool):Option Bool:=
 if t12 then
  (
   if(List.length o.2.2.2.2.1:Int)!=(1:Int)then
    some (false)
   else
    sL k o t2 q L t3
  )
 else
  (
   if o.1==(1:Int)then
    ol k o t2 q L t3 (o.1==(1:Int))
   else
    (
     if o.1==(2:Int)then
      ol k o t2 q L t3 (o.1==(2:Int))
     else
      (
       if o.1==(3:Int)then
        ol k o t2 q L t3 (o.1==(3:Int))
       else
        (
         if o.1==(4:Int)then
          ol k o t2 q L t3 (o.1==(4:Int))
         else
          ol k o t2 q L t3 (o.1==(5:Int))
        )
      )
    )
  )
def yG(k:Nat)(o:fy)(t2:Int)(q:eC)(L:Int->(List (Bool))->Option Bool)(t3:List (Bool))(t11:Bool):Option Bool:=
 if t11 then
  sL k o t2 q L t3
 else
  (
   if o.1==(8:Int)then
    C0 k o t2 q L t3 (o.1==(8:Int))
   else
    C0 k o t2 q L t3 (o.1==(9:Int))
  )
def OW(k:Nat)(q:eC)(L:Int->(List (Bool))->Option Bool)(t2:Int)(t3:List (Bool)):Option Bool:=
 if decide (t2<(List.length q.1:Int))then
  (
   Option.bind (aq q.1 t2) fun o=>
   if o.1==(6:Int)then
    yG k o t2 q L t3 (o.1==(6:Int))
   else
    yG k o t2 q L t3 (o.1==(7:Int))
  )
 else
  (
   Option.bind (dx t3 (1:Int) (t3.length:Int)) fun O=>
   Option.bind (Bj k O false) fun v1=>
   some (!v1)
  )
def yf(k:Nat)(o:eC):Nat->Int->(List (Bool))->Option Bool
 |0,_,_=>none
 |n+1,t2,t3=>OW k o (yf k o n) t2 t3
def Pj(k:Nat)(o:eC)(t1:Bool):Option Bool:=
 if t1 then
  some (false)
 else
  (
   Option.bind (aL (0<=(List.length o.1:Int)/\(List.length o.1:Int)<=(List.length o.1:Int)/\(List.length o.1:Int)<=(br:Int))) fun _=>
   yf k o k (0:Int) (List.replicate ((List.length o.1:Int)).toNat false)
  )
def ye(k:Nat)(o:eC):Option Bool:=
 Pj k o (decide ((List.length o.1:Int)<(1:Int))||(decide ((256:Int)<(List.length o.1:Int))))
def vJ(o:Int->Option Int)(t1:Int):Option Int:=
 o (aj (t1+(1:Int)))
def Uk(k:Nat)(O:eC)(q:aC)(L:Int->Option Int)(t1:Int):Option Int:=
 if decide (t1<(List.length O.1:Int))then
  (
   Option.bind (aq O.1 t1) fun o=>
   if o.1==(2:Int)then
    (
     Option.bind (fK k (q.1,q.2.1,()) o.2.1) fun v3=>
     if v3.2 !=(0:Int)then
      some ((40:Int))
     else
      vJ L t1
    )
   else
    (
     if o.1==(3:Int)then
      (
       Option.bind (Aj k (q.1,q.2.1,()) o.2.2.1 o.2.2.2.1) fun v4=>
       if v4.2 !=(0:Int)then
        some ((40:Int))
       else
        vJ L t1
      )
     else
      vJ L t1
    )
  )
 else
  some ((0:Int))
def EP(k:Nat)(o:eC)(q:aC):Nat->Int->Option Int
 |0,_=>none
 |n+1,t1=>Uk k o q (EP k o q n) t1
def yW(k:Nat)(o:aC)(q:eC):Option Int:=
 Option.bind (fR k (o.1,o.2.1,())) fun v1=>
 if v1 !=(0:Int)then
  some (v1)
 else
  (
   Option.bind (ye k (q.1,())) fun v2=>
   if !v2 then
    some ((40:Int))
   else
    EP k q o k (0:Int)
  )
def Dp(t8:Bool):Option Int:=
 if t8 then
  some ((70:Int))
 else
  some ((0:Int))
def PC(k:Nat)(q:dp)(o:aC)(aP:Int->Option Int)(t7:Int):Option Int:=
 if decide (t7<(List.length q.2.2.1:Int))then
  (
   Option.bind (aq q.2.2.1 t7) fun L=>
   Option.bind (JH k (o.1,o.2.1,()) (L.1,L.2.1,L.2.2.1,L.2.2.2.1,()) (List.length q.2.1:Int)) fun v4=>
   if !v4 then
    some ((70:Int))
   else
    aP (aj (t7+(1:Int)))
  )
 else
  (
   Option.bind (yW k (o.1,o.2.1,()) (q.2.2.2.1.1,())) fun v5=>
   if v5 !=(0:Int)then
    Dp true
   else
    (
     Option.bind (yW k (o.1,o.2.1,()) (q.2.2.2.2.1.1,())) fun O=>
     Dp (O !=(0:Int))
    )
  )
def BR(k:Nat)(o:dp)(q:aC):Nat->Int->Option Int
 |0,_=>none
 |n+1,t7=>PC k o q (BR k o q n) t7
def TK(k:Nat)(o:dp)(q:aC)(O:Int->Option Int)(t6:Int):Option Int:=
 if decide (t6<(List.length o.2.1:Int))then
  (
   Option.bind (aq o.2.1 t6) fun L=>
   Option.bind (yo k (q.1,q.2.1,()) L.1 L.2.1 L.2.2.1) fun v3=>
   if !v3 then
    some ((70:Int))
   else
    O (aj (t6+(1:Int)))
  )
 else
  BR k o q k (0:Int)
def Cb(k:Nat)(o:dp)(q:aC):Nat->Int->Option Int
 |0,_=>none
 |n+1,t6=>TK k o q (Cb k o q n) t6
def Va(k:Nat)(o:dp)(q:aC)(t5:Bool):Option Int:=
 if t5 then
  some ((70:Int))
 else
  Cb k o q k (0:Int)
def N1(k:Nat)(o:dp)(q:aC)(t4:Bool):Option Int:=
 Va k o q (t4||((aj ((List.length o.2.1:Int)+(List.length o.2.2.1:Int)))==(0:Int)))
def TZ(k:Nat)(o:dp)(q:aC)(t3:Bool):Option Int:=
 N1 k o q (t3||(decide ((8:Int)<(List.length o.2.2.1:Int))))
def RB(k:Nat)(o:dp)(q:aC)(t2:Bool):Option Int:=
 TZ k o q (t2||(decide ((8:Int)<(List.length o.2.1:Int))))
def Vc(k:Nat)(o:dp)(q:aC)(t1:Bool):Option Int:=
 RB k o q (t1||(decide ((3:Int)<o.2.2.2.2.2.1)))
def rq(k:Nat)(o:aC)(q:dp):Option Int:=
 Option.bind (fR k (o.1,o.2.1,())) fun v1=>
 if v1 !=(0:Int)then
  some (v1)
 else
  (
   Option.bind (FO k q.1) fun v2=>
   Vc k q o ((!v2)||(decide (q.2.2.2.2.2.1<(1:Int))))
  )
def R2(k:Nat)(l1:List fA)(q:aC)(L:Int->Option Int)(t1:Int):Option Int:=
 if decide (t1<(List.length l1:Int))then
  (
   Option.bind (aq l1 t1) fun o=>
   Option.bind (rq k (q.1,q.2.1,()) (o.1,o.2.1,o.2.2.1,(o.2.2.2.1.1,()),(o.2.2.2.2.1.1,()),o.2.2.2.2.2.1,o.2.2.2.2.2.2.1,())) fun v2=>
   if v2 !=(0:Int)then
    some (v2)
   else
    L (aj (t1+(1:Int)))
  )
 else
  some ((0:Int))
def xx(k:Nat)(l1:List fA)(o:aC):Nat->Int->Option Int
 |0,_=>none
 |n+1,t1=>R2 k l1 o (xx k l1 o n) t1
def wX(k:Nat)(o:aC)(l1:List fA):Option Int:=
 Option.bind (fR k (o.1,o.2.1,())) fun v1=>
 if v1 !=(0:Int)then
  some (v1)
 else
  (
   if decide ((64:Int)<(List.length l1:Int))then
    some ((4:Int))
   else
    xx k l1 o k (0:Int)
  )
end Go.Ev
namespace Go.Ev
open Go
set_option linter.unusedVariables false
end Go.Ev
namespace Go.Ev
open Go Go.Proofs Go.Sort
section
variable {X:Type}
def ins(lt:X->X->Bool)(x:X):List X->List X
 |[]=>[x]
 |y::l=>bif lt y x then y::ins lt x l else x::y::l
def Il(lt:X->X->Bool):List X->List X
 |[]=>[]
 |x::l=>ins lt x (Il lt l)
def kA(c:X->X->Option Int)(x y:X):Bool:=match c x y with
 |some n=>decide (n<0)
 |none=>false
def WP[DecidableEq X](c:X->X->Option Int)(l:List X):Bool:=
 l.all fun x=>l.all fun y=>(c x y).isSome&&(bif decide (x=y)then !kA c x y else(kA c x y||kA c y x)&&!(kA c x y&&kA c y x))&&l.all fun z=>!(kA c x y&&kA c y z)||kA c x z
def WV[DecidableEq X](c:X->X->Option Int)(l:List X):Option (List X):=bif WP c l then some (Il (kA c) l)else none
structure X5(lt:X->X->Bool)(S:X->Prop):Prop where
 XR:∀x,S x->lt x x=false
 XS:∀x y z,S x->S y->S z->lt x y=true->lt y z=true->lt x z=true
 X4:∀x y,S x->S y->x≠y->lt x y=true\/lt y x=true
end
end Go.Ev
namespace Go.Ev
open Go
end Go.Ev
namespace Go.Ev
open Go
set_option linter.unusedVariables false
end Go.Ev
