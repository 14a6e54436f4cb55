/- The evaluator as one function: what a piece of code asks is a tree, and what the tree owes is one equation. -/
import Derived.Test.YteopobecmacgdaaGreatDoorMM5
import Derived.Defers
import Derived.Test.YteopobecmacgdaaGreatDoorMM4
import Derived.Test.YteopobecmacgdaaGreatDoorMM1
import Derived.Shelf.SlSortCmp.Insertion
import Derived.Test.YteopobecmacgdaaGreatDoorTyA
set_option linter.unusedSectionVars false
set_option linter.unusedVariables false
set_option linter.unusedSimpArgs false
namespace Go.Ev
open Go Go.RowKit
variable [bV]
/-! Trees. -/
structure ol where
 u:ag
 aa:Option u.el
structure cf where
 u:ag
 aa:Option u.el
 v:u.el
inductive bo(al:Type):Type 1
 |ret (e:Option al)
 |ask {β:Type} (aa:Option β) (f:β->bo al)
 |ite (b:Bool) (x y:bo al)
 |iv (a b:Bool) (t:bo al)
 |eL (a b:List Prop) (t:bo al)
 |eqs (a b:Option af) (t:bo al)
 |iJ (a b:ol) (t:bo al)
 |fb {A:Type} (o:A->bo al) (q:A->Option al) (t:bo al)
 |gz {A:Type} (o:(A->Option al)->A->bo al) (F:Nat->A->Option al) (t:bo al)
variable {al:Type}
def bo.den:bo al->Option al
 |.ret e=>e
 |.ask aa f=>Option.bind aa fun x=>(f x).den
 |.ite b x y=>if b then x.den else y.den
 |.iv _ _ t=>t.den
 |.eL _ _ t=>t.den
 |.eqs _ _ t=>t.den
 |.iJ _ _ t=>t.den
 |.fb _ _ t=>t.den
 |.gz _ _ t=>t.den
def bo.gJ:bo al->Prop
 |.ret _=>True
 |.ask _ f=>∀x,(f x).gJ
 |.ite _ x y=>x.gJ/\y.gJ
 |.iv a b t=>a=b/\t.gJ
 |.eL a b t=>a=b/\t.gJ
 |.eqs a b t=>a=b/\t.gJ
 |.iJ a b t=>a=b/\t.gJ
 |.fb o q t=>(∀z,(o z).den=q z)/\(∀z,(o z).gJ)/\t.gJ
 |.gz o F t=>(∀z,F 0 z=none)/\(∀n z,(o (F n) z).den=F (n+1) z)/\(∀n z,(o (F n) z).gJ)/\t.gJ
inductive eZ(al:Type):Type 1
 |nil
 |ask {β:Type} (aa:Option β) (f:β->eZ al)
 |ite (b:Bool) (x y:eZ al)
 |b (a:Bool) (c:eZ al)
 |p (a:List Prop) (c:eZ al)
 |s (a:Option af) (c:eZ al)
 |q (a:ol) (c:eZ al)
 |fb {A:Type} (g:A->Option al) (o:A->eZ al) (c:eZ al)
 |gz {A:Type} (g0:A->Option al) (g:Nat->A->Option al) (o:Nat->A->eZ al) (c:eZ al)
def bo.dN:bo al->eZ al
 |.ret _=>.nil
 |.ask aa f=>.ask aa fun x=>(f x).dN
 |.ite b x y=>.ite b x.dN y.dN
 |.iv a _ t=>.b a t.dN
 |.eL a _ t=>.p a t.dN
 |.eqs a _ t=>.s a t.dN
 |.iJ a _ t=>.q a t.dN
 |.fb o _ t=>.fb (fun z=>(o z).den) (fun z=>(o z).dN) t.dN
 |.gz o F t=>.gz (F 0) (fun n z=>(o (F n) z).den) (fun n z=>(o (F n) z).dN) t.dN
def bo.dO:bo al->eZ al
 |.ret _=>.nil
 |.ask aa f=>.ask aa fun x=>(f x).dO
 |.ite b x y=>.ite b x.dO y.dO
 |.iv _ b t=>.b b t.dO
 |.eL _ b t=>.p b t.dO
 |.eqs _ b t=>.s b t.dO
 |.iJ _ b t=>.q b t.dO
 |.fb o q t=>.fb q (fun z=>(o z).dO) t.dO
 |.gz o F t=>.gz (fun _=>none) (fun n=>F (n+1)) (fun n z=>(o (F n) z).dO) t.dO
theorem bo.fZ:∀(t:bo al),t.dN=t.dO->t.gJ
 |.ret _,_=>trivial
 |.ask aa f,h=>by
  simp only[dN,dO,eZ.ask.injEq,heq_eq_eq,true_and]at h
  exact fun x=>fZ (f x) (congrFun h x)
 |.ite b x y,h=>by
  simp only[dN,dO,eZ.ite.injEq,true_and]at h
  exact⟨fZ x h.1,fZ y h.2⟩
 |.iv a b t,h=>by
  simp only[dN,dO,eZ.b.injEq]at h
  exact⟨h.1,fZ t h.2⟩
 |.eL a b t,h=>by
  simp only[dN,dO,eZ.p.injEq]at h
  exact⟨h.1,fZ t h.2⟩
 |.eqs a b t,h=>by
  simp only[dN,dO,eZ.s.injEq]at h
  exact⟨h.1,fZ t h.2⟩
 |.iJ a b t,h=>by
  simp only[dN,dO,eZ.q.injEq]at h
  exact⟨h.1,fZ t h.2⟩
 |.fb o q t,h=>by
  simp only[dN,dO,eZ.fb.injEq,heq_eq_eq,true_and]at h
  exact⟨fun z=>congrFun h.1 z,fun z=>fZ _ (congrFun h.2.1 z),fZ t h.2.2⟩
 |.gz o F t,h=>by
  simp only[dN,dO,eZ.gz.injEq,heq_eq_eq,true_and]at h
  exact⟨fun z=>congrFun h.1 z,fun n z=>congrFun (congrFun h.2.1 n) z,fun n z=>fZ _ (congrFun (congrFun h.2.2.1 n) z),fZ t h.2.2.2⟩
/-! Lists of data of given shapes. -/
def cC:List ag->Type
 |[]=>Unit
 |[t]=>t.el
 |t::u::us=>t.el×cC (u::us)
def dp:(us:List ag)->cC us->List ak
 |[],_=>[]
 |[t],x=>[⟨t,x⟩]
 |t::u::us,x=>⟨t,x.1⟩::dp (u::us) x.2
def gj:(us:List ag)->List ak->Option (cC us)
 |[],vs=>match vs with
  |[]=>some ()
  |_=>none
 |[t],vs=>match vs with
  |[v]=>v.as t
  |_=>none
 |t::u::us,vs=>match vs with
  |v::vs=>match v.as t,gj (u::us) vs with
   |some x,some y=>some (x,y)
   |_,_=>none
  |[]=>none
theorem ag.beq_refl:∀t:ag,t.beq t=true
 |.int k=>by cases k<;>rfl
 |.bool=>rfl
 |.str=>rfl
 |.ab t=>beq_refl t
 |.unit=>rfl
 |.pair a b=>by simp only[ag.beq,beq_refl a,beq_refl b,Bool.and_self]
 |.ptr t=>beq_refl t
 |.fn f t=>by simp only[ag.beq,Nat.beq_refl,beq_refl t,Bool.and_self]
 |.err=>rfl
 |.ck=>rfl
 |.cy n t=>by simp only[ag.beq,Nat.beq_refl,beq_refl t,Bool.and_self]
 |.alt n a b=>by simp only[ag.beq,Nat.beq_refl,beq_refl a,beq_refl b,Bool.and_self]
 |.arr n t=>by simp only[ag.beq,Nat.beq_refl,beq_refl t,Bool.and_self]
 |.map a b=>by simp only[ag.beq,beq_refl a,beq_refl b,Bool.and_self]
theorem ak.yp(t:ag)(x:t.el):ak.as ⟨t,x⟩ t=some x:=by
 unfold ak.as
 split
 ·rfl
 ·rename_i h
  exact absurd (ag.beq_refl t) (by rw[h];decide)
theorem Fy:∀(us:List ag) (x:cC us),gj us (dp us x)=some x
 |[],_=>rfl
 |[t],x=>ak.yp t x
 |t::u::us,x=>by
  have h:=Fy (u::us) x.2
  show(match ak.as ⟨t,x.1⟩ t,gj (u::us) (dp (u::us) x.2)with
   |some x,some y=>some (x,y)
   |_,_=>none)=some x
  rw[ak.yp,h]
  rfl
theorem yG:∀(us:List ag) (vs:List ak) (x:cC us),gj us vs=some x->vs=dp us x
 |[],vs,x,h=>by
  unfold gj at h
  split at h
  ·rfl
  ·cases h
 |[t],vs,x,h=>by
  match vs,h with
  |[v],h=>
   have e:=ak.cO (v:=v) (u:=t) (x:=x) h
   subst e
   rfl
  |[],h=>cases h
  |_::_::_,h=>cases h
 |t::u::us,vs,x,h=>by
  unfold gj at h
  split at h
  ·rename_i v vs
   split at h
   ·rename_i a b o q
    cases h
    show v::vs=⟨t,a⟩::dp (u::us) b
    rw[<-yG (u::us) vs b q,ak.cO o]
   ·cases h
  ·cases h
theorem iW:∀(us:List ag) (x:cC us),(dp us x).length=us.length
 |[],_=>rfl
 |[_],_=>rfl
 |_::u::us,x=>by
  show(dp (u::us) x.2).length+1=_
  rw[iW (u::us) x.2]
  rfl
theorem nI:∀(us:List ag) (x:cC us) (v:ak),v∈dp us x->v.t∈us
 |[],_,v,h=>by cases h
 |[_],_,v,h=>by
  rcases List.mem_cons.1 h with rfl|h
  ·exact List.mem_cons_self
  ·cases h
 |t::u::us,x,v,h=>by
  rcases List.mem_cons.1 (show v∈⟨t,x.1⟩::dp (u::us) x.2 from h)with rfl|h
  ·exact List.mem_cons_self
  ·exact List.mem_cons_of_mem _ (nI (u::us) x.2 v h)
/-! What is known of functions, as0 functions. -/
structure aQ where
 eC:List ag
 cu:List ag
 eg:List ag
 fn:cC eC->Option (cC cu)
def aQ.aS(F:aQ):ip:=⟨F.cu.all ag.flat,F.cu.length,F.eg,fun o ap=>match gj F.eC o,gj F.cu ap with
 |some x,some y=>F.fn x=some y
 |_,_=>False⟩
structure aD(P:Program)(G:World->Prop) where
 f:Nat
 F:aQ
 ok:aR P G f F.aS
structure cn(P:Program)(G:World->Prop)(α o:Type) where
 f:Nat
 F:bP α o
 X:af->Option α
 fn:α->Option o
 ok:bZ P G f F
 rel:∀x y,fn x=some y->F.rel x y
structure pK{α o:Type}(P:Program)(G:World->Prop)(f:Nat)(F:bP α o):Prop where
 enters:∀args w,(callFunc f args).run P w=.ok (.enter f args) w
 calls:∀(cx:bx),cx.P=P->cx.n=F.n->(∀w,Frame cx.w0 w cx.X->G w)->∀x y,F.rel x y->∀(vs:List Value) (w:World) (u:FrameMode),vs.length=(F.S x).ab.length->Go.Ev.al cx (F.S x) (vs.toArray++Array.replicate (F.n-vs.toArray.size) undef) w->
  CallsD P f vs.toArray u w fun e q w'=>q=u/\∃v aA L,e=.returned v/\an cx aA (F.bE x y) L w'/\po w' (ar cx aA (F.bE x y).ids) aA v (F.ap x y)
structure yM(P:Program)(G:World->Prop)(α o:Type) where
 f:Nat
 F:bP α o
 X:af->Option α
 fn:α->Option o
 ok:pK P G f F
 rel:∀x y,fn x=some y->F.rel x y
structure oA(P:Program)(G:World->Prop) where
 f:Nat
 e:Nat
 t:ag
 fn:List t.el->List t.el
 ok:qx P G f e t fun xs o=>o=fn xs
def b8(P:Program)(G:World->Prop)(n:Nat)(l:List (aD P G)):Env:=⟨P,G,n,l.map fun p=>(p.f,p.F.aS)⟩
def Ea{P:Program}{G:World->Prop}:List (aD P G)->Nat->Option aQ
 |[],_=>none
 |p::l,n=>bif Nat.beq p.f n then some p.F else Ea l n
theorem gU{P:Program}{G:World->Prop}{n:Nat}{l:List (aD P G)}{cx:bx}(o:cx.P=P)(q:cx.n=n)(L:∀w,Frame cx.w0 w cx.X->G w):br (b8 P G n l) cx:=
 ⟨o,q,L,fun f F h=>by
  obtain⟨p,O,e⟩:=List.mem_map.1 h
  cases e
  exact p.ok⟩
/-! Holes of a state. -/
inductive ga where
 |ab (i:Nat) (t:ag)
 |rw(r e:Nat) (t:ag)
 |ad (b i:Nat) (t:ag)
 |it (b:Nat)
 |mp (b:Nat) (k v:ag)
 |jO (b:Nat) (t:ag)
 |bn (b:Nat) (t:ag)
def ga.T:ga->Type
 |.ab _ t=>t.el
 |.rw _ _ t=>List t.el
 |.ad _ _ t=>t.el
 |.it _=>Nat
 |.mp _ k v=>List (k.el×v.el)
 |.jO _ t=>t.el
 |.bn _ t=>List t.el
def eW:List ga->Type
 |[]=>Unit
 |[h]=>h.T
 |h::g::o=>h.T×eW (g::o)
def S7(c:cp)(t:ag):Option (List t.el):=ak.as ⟨.ab c.t,c.xs⟩ (.ab t)
def Hm(s:Option ao)(t:ag):Option t.el:=match s with
 |some (.val u x)=>ak.as ⟨u,x⟩ t
 |some (.vptr u x)=>ak.as ⟨u,x⟩ t
 |_=>none
def ga.get(st:af):(h:ga)->Option h.T
 |.ab i t=>Hm (look st.ab i) t
 |.rw r _ t=>match look st.rw r with
  |some c=>S7 c t
  |none=>none
 |.ad b i t=>match look st.ad b with
  |some (.cells l _)=>Hm l[i]? t
  |_=>none
 |.it b=>match look st.ad b with
  |some (.iter _ p)=>some p
  |_=>none
 |.mp b k v=>match look st.ad b with
  |some (.mp k' v' ps)=>ak.as ⟨.map k' v',some ps⟩ (.map k v)|>.bind id
  |_=>none
 |.jO b t=>match look st.ad b with
  |some (.aP u x _)=>ak.as ⟨u,x⟩ t
  |_=>none
 |.bn b t=>match look st.ad b with
  |some (.bn _ k xs _)=>ak.as ⟨.ab k.u,xs⟩ (.ab t)
  |_=>none
def bp(st:af):(o:List ga)->Option (eW o)
 |[]=>some ()
 |[h]=>h.get st
 |h::g::o=>match h.get st,bp st (g::o)with
  |some x,some y=>some (x,y)
  |_,_=>none
def kx{α:Type}:List (Nat×α)->Nat->α->List (Nat×α)
 |[],i,v=>[(i,v)]
 |(k,u)::r,i,v=>bif Nat.beq k i then(k,v)::r else(k,u)::kx r i v
def ga.put(st:af):(h:ga)->h.T->af
 |.ab i t,x=>{st with ab:=kx st.ab i (.val t x)}
 |.rw r e t,xs=>{st with rw:=kx st.rw r ⟨e,t,xs⟩}
 |.ad b i t,x=>match look st.ad b with
  |some (.cells l e)=>{st with ad:=kx st.ad b (.cells (l.set i (.val t x)) e)}
  |_=>st
 |.it b,p=>match look st.ad b with
  |some (.iter s _)=>{st with ad:=kx st.ad b (.iter s p)}
  |_=>st
 |.mp b k v,ps=>{st with ad:=kx st.ad b (.mp k v ps)}
 |.jO b t,x=>match look st.ad b with
  |some (.aP _ _ e)=>{st with ad:=kx st.ad b (.aP t x e)}
  |_=>st
 |.bn b t,z=>match look st.ad b with
  |some (.bn e k _ h)=>match ak.as ⟨.ab t,z⟩ (.ab k.u)with
   |some o=>{st with ad:=kx st.ad b (.bn e k o h)}
   |none=>st
  |_=>st
def F2(st:af):(o:List ga)->eW o->af
 |[],_=>st
 |[h],x=>h.put st x
 |h::g::o,x=>F2 (h.put st x.1) (g::o) x.2
def pR{α:Type}(l:List (Nat×α)):List Nat->List (Nat×α)
 |[]=>[]
 |k::o=>match look l k with
  |some v=>(k,v)::pR l o
  |none=>pR l o
def az(q bs ap:List Nat){o:List ga}(st:af)(z:eW o):af:=F2 ⟨pR st.ab q,pR st.ad bs,pR st.rw ap⟩ o z
/-! Hints: where ways meet, where rounds begin, which answers are wanted again. -/
inductive aZ(P:Program)(G:World->Prop)(al:Type):Type 1
 |z
 |ae (n:Nat) (h:aZ P G al)
 |a (u:ag) (f:u.el->aZ P G al)
 |ac (us:List ag) (f:cC us->aZ P G al)
 |u (i:Nat) (h:aZ P G al)
 |t (h:aZ P G al)
 |f (h:aZ P G al)
 |c (x y:aZ P G al)
 |T (h:aZ P G al)
 |F (h:aZ P G al)
 |j (o:List ga) (S:af->eW o->af) (L:eW o->Option al) (x:aZ P G al) (y:eW o->aZ P G al)
 |be (o:List ga) (S:af->eW o->af) (F:Nat->eW o->Option al) (k:Nat) (y:(eW o->Option al)->eW o->aZ P G al)
 |bf (m:Nat) (h:aZ P G al)
 |GN (m:Nat) (L:Bool->Option al) (h:Bool->aZ P G al)
 |g (m:Nat) (L:Bool->Option al) (x y:aZ P G al) (h:Bool->aZ P G al)
 |gT (m:Nat) (o:List ga) (S:af->eW o->af) (L:eW o->Option al) (x y:aZ P G al) (h:eW o->aZ P G al)
 |bG {α q:Type} (O:cn P G α q) (ρ ρ':List (Nat×Nat)) (h:q->aZ P G al)
 |H6 {α q:Type} (O:cn P G α q) (i j:Nat) (ρ ρ':List (Nat×Nat)) (h:q->aZ P G al)
 |ci (U:oA P G) (h:aZ P G al)
 |jN (r:Nat) (h:aZ P G al)
 |my (n:Nat) (h:aZ P G al)
 |fl (a b c:List Nat) (h:aZ P G al)
 |aY (b c:List Nat) (h:aZ P G al)
 |iG (r:Nat) (h:aZ P G al)
 |md (a b c d:List Nat) (h:aZ P G al)
 |nj (a b:List Nat) (c2 c3 V c5 W:Nat) (h:aZ P G al)
 |SJ (a b:List Nat) (i:Nat) (c d:List Nat) (h:aZ P G al)
 |mk (h:aZ P G al)
 |cS (Y:List (List Nat)) (h:aZ P G al)
 |eO (R bs ap:List Nat) (ρ:List (Nat×Nat))
 |un (d:Nat) (h:aZ P G al)
 |fN (R bs ap:List Nat) (h:aZ P G al)
 |xT (n d:Nat) (h:aZ P G al)
 |gy {α q:Type} (O:yM P G α q) (ρ ρ':List (Nat×Nat))
variable {P:Program} {G:World->Prop}
def aZ.dec:aZ P G al->aZ P G al
 |.ae n h=>match n with
  |0=>h
  |1=>h
  |n+2=>.ae (n+1) h
 |h=>h
def aZ.fork:aZ P G al->aZ P G al×aZ P G al
 |.t h=>(h,.z)
 |.f h=>(.z,h)
 |.c x y=>(x,y)
 |_=>(.z,.z)
/-! Questions of an operation. -/
inductive ew:Type 1
 |nil
 |k (p:Prop) (d:Decidable p) (q:ew)
 |t (u:ag) (aa:Option u.el) (p:u.el->Prop) (ok:∀y,aa=some y->p y) (q:u.el->ew)
 |c (us:List ag) (aa:Option (cC us)) (p:cC us->Prop) (ok:∀y,aa=some y->p y)
 |e (u:ag) (a b:Option u.el) (p:Prop) (ok:a=b->p) (q:ew)
def cm(o:List cf):Prop:=∀e∈o,e.aa=some e.v
def eh:ew->aZ P G al->List cf->List ak->List Prop->(List ak->List Prop->aZ P G al->List cf->bo al)->bo al
 |.nil,h,o,orc,ps,k=>k orc ps h o
 |.k p d q,h,o,orc,ps,k=>.ask (@aL p d) fun _=>eh q h o orc (ps++[p]) k
 |.t u aa p _ q,h,o,orc,ps,k=>match h with
  |.u i h'=>match o[i]? with
   |some e=>.iJ ⟨u,aa⟩ ⟨e.u,e.aa⟩ (match ak.as ⟨e.u,e.v⟩ u with
    |some y=>eh (q y) h' o (orc++[⟨u,y⟩]) (ps++[p y]) k
    |none=>.ret none)
   |none=>.ret none
  |.a O g=>.ask aa fun y=>match ak.as ⟨u,y⟩ O with
   |some L=>eh (q y) (g L) (⟨u,aa,y⟩::o) (orc++[⟨u,y⟩]) (ps++[p y]) k
   |none=>.ret none
  |h=>.ask aa fun y=>eh (q y) h.dec (⟨u,aa,y⟩::o) (orc++[⟨u,y⟩]) (ps++[p y]) k
 |.c us aa p _,h,o,orc,ps,k=>match h with
  |.ac R g=>.ask aa fun y=>match gj R (dp us y)with
   |some L=>k (orc++dp us y) (ps++[p y]) (g L) o
   |none=>.ret none
  |h=>.ask aa fun y=>k (orc++dp us y) (ps++[p y]) h.dec o
 |.e u a b p _ q,h,o,orc,ps,k=>.iJ ⟨u,a⟩ ⟨u,b⟩ (eh q h o orc (ps++[p]) k)
abbrev ew.same(u:ag)(a b:Option u.el)(o:ew):ew:=.e u a b (a=b) id o
theorem kG:∀{l:List Prop} {p:Prop},bJ l->p->bJ (l++[p])
 |[],_,_,h=>⟨h,trivial⟩
 |_::_,_,⟨o,q⟩,h=>⟨o,kG q h⟩
theorem cm.cons{o:List cf}(h:cm o){u:ag}{aa:Option u.el}{y:u.el}(q:aa=some y):cm (⟨u,aa,y⟩::o):=fun e he=>by
 rcases List.mem_cons.1 he with rfl|he
 ·exact q
 ·exact h e he
theorem cm.nil:cm []:=fun _ h=>by cases h
structure bv(t:bo al)(r:al):Prop where
 ok:t.gJ
 den:t.den=some r
theorem bv.no{p:Prop}{r:al}(h:bv (.ret none) r):p:=by cases h.den
theorem bv.ask{r:al}{β:Type}{aa:Option β}{f:β->bo al}(h:bv (.ask aa f) r):∃x,aa=some x/\bv (f x) r:=
 let⟨x,o,q⟩:=bind_some h.den
 ⟨x,o,h.ok x,q⟩
theorem bv.ite{r:al}{b:Bool}{x y:bo al}(h:bv (.ite b x y) r):(b=true/\bv x r)\/(b=false/\bv y r):=by
 cases b with
 |true=>exact .inl ⟨rfl,h.ok.1,h.den⟩
 |false=>exact .inr ⟨rfl,h.ok.2,h.den⟩
theorem bv.iv{r:al}{a b:Bool}{t:bo al}(h:bv (.iv a b t) r):a=b/\bv t r:=⟨h.ok.1,h.ok.2,h.den⟩
theorem bv.eL{r:al}{a b:List Prop}{t:bo al}(h:bv (.eL a b t) r):a=b/\bv t r:=⟨h.ok.1,h.ok.2,h.den⟩
theorem bv.eqs{r:al}{a b:Option af}{t:bo al}(h:bv (.eqs a b t) r):a=b/\bv t r:=⟨h.ok.1,h.ok.2,h.den⟩
theorem bv.iJ{r:al}{a b:ol}{t:bo al}(h:bv (.iJ a b t) r):a=b/\bv t r:=⟨h.ok.1,h.ok.2,h.den⟩
theorem bv.fb{r:al}{A:Type}{body:A->bo al}{o:A->Option al}{t:bo al}(h:bv (.fb body o t) r):(∀z,o z=some r->bv (body z) r)/\bv t r:=
 ⟨fun z q=>⟨h.ok.2.1 z,(h.ok.1 z).trans q⟩,h.ok.2.2,h.den⟩
theorem bv.gz{r:al}{A:Type}{body:(A->Option al)->A->bo al}{F:Nat->A->Option al}{t:bo al}(h:bv (.gz body F t) r):
  (∀z,F 0 z=none)/\(∀n z,F (n+1) z=some r->bv (body (F n) z) r)/\bv t r:=
 ⟨h.ok.1,fun n z o=>⟨h.ok.2.2.1 n z,(h.ok.2.1 n z).trans o⟩,h.ok.2.2.2,h.den⟩
def Sq(k:List ak->List Prop->aZ P G al->List cf->bo al)(r:al):Prop:=
 ∃orc ps h o,bJ ps/\cm o/\bv (k orc ps h o) r
theorem iw{r:al}{k:List ak->List Prop->aZ P G al->List cf->bo al}:∀(U:ew) {h:aZ P G al} {V:List cf} {orc:List ak} {ps:List Prop},cm V->bJ ps->
  bv (eh U h V orc ps k) r->Sq k r
 |.nil,h,V,orc,ps,q,O,o=>⟨orc,ps,h,V,O,q,o⟩
 |.k p d U,h,V,orc,ps,q,O,o=>by
  obtain⟨x,R,L⟩:=o.ask
  exact iw U q (kG O (cV R)) L
 |.t u aa p ok U,h,V,orc,ps,q,O,o=>by
  unfold eh at o
  split at o
  ·rename_i i h'
   split at o
   ·rename_i e Y
    obtain⟨aY,o⟩:=o.iJ
    have Z:=q e (List.mem_of_getElem? Y)
    obtain⟨la,lb,W⟩:=e
    simp only[ol.mk.injEq]at aY
    obtain⟨rfl,aY⟩:=aY
    simp only[heq_eq_eq]at aY
    subst aY
    simp only[ak.yp]at o
    exact iw (U W) q (kG O (ok W Z)) o
   ·exact o.no
  ·rename_i lc g
   obtain⟨y,R,L⟩:=o.ask
   split at L
   ·exact iw (U y) (q.cons R) (kG O (ok y R)) L
   ·exact L.no
  ·obtain⟨y,R,L⟩:=o.ask
   exact iw (U y) (q.cons R) (kG O (ok y R)) L
 |.c us aa p ok,h,V,orc,ps,q,O,o=>by
  unfold eh at o
  split at o
  ·obtain⟨y,R,L⟩:=o.ask
   split at L
   ·exact⟨_,_,_,_,kG O (ok y R),q,L⟩
   ·exact L.no
  ·obtain⟨y,R,L⟩:=o.ask
   exact⟨_,_,_,_,kG O (ok y R),q,L⟩
 |.e u a b p ok U,h,V,orc,ps,q,O,o=>by
  obtain⟨aY,o⟩:=o.iJ
  simp only[ol.mk.injEq,heq_eq_eq,true_and]at aY
  exact iw U q (kG O (ok aY)) o
end Go.Ev
namespace Go.Ev
open Go Go.RowKit
variable [bV]
variable {al:Type} {P:Program} {G:World->Prop}
def ki{u:ag}(xs:List u.el)(n:Int):ew:=.t u (aq xs n) (fun y=>aq xs n=some y) (fun _ h=>h) (fun _=>.nil)
def rF:(t:ag)->t.el->List j7->ew
 |_,_,[]=>.nil
 |t,x,.f off u::p=>match ct t x off u with
  |some y=>rF u y p
  |none=>.nil
 |.arr _ u,xs,.x j _::p=>.t u (aq (show List u.el from xs) j) (fun y=>aq (show List u.el from xs) j=some y) (fun _ h=>h) (fun y=>rF u y p)
 |_,_,.x _ _::_=>.nil
def HN(b:Int):ew:=.k (b≠0) inferInstance .nil
def EV(b:Int):ew:=.k (0<=b) inferInstance .nil
def Oj(a b:List UInt8):ew:=.k (a.length+b.length<=bq) inferInstance .nil
def MZ(a:Option (Option (Nat×Int))):ew:=.k (a≠some none) inferInstance .nil
def DB(s:List UInt8):ew:=.k (s.length<=bq) inferInstance .nil
def O5(o:BinOp)(y:Operand)(a b:ak):ew:=
 match a,b with
 |⟨.int _,_⟩,⟨.int _,b⟩=>match o with
  |.quo=>HN b
  |.rem=>HN b
  |.shl=>EV b
  |.shr=>EV b
  |_=>.nil
 |⟨.str,a⟩,⟨.str,b⟩=>match o with
  |.add=>Oj a b
  |_=>.nil
 |⟨.err,a⟩,⟨.err,_⟩=>match ne y with
  |true=>.nil
  |false=>MZ a
 |_,_=>.nil
def Jy(P:Program)(st:af)(src o:TypeId)(x:Operand):ew:=
 match(aO st x).map (j5 st),P.underlying o with
 |some (.val (.ab (.int .i32)) xs),some .string=>DB (dC xs)
 |some (.val .str s),some (.slice e)=>match P.underlying e with
  |some (.int .i32)=>DB s
  |_=>.nil
 |_,_=>.nil
theorem TY{F:aQ}{o:List ak}{x:cC F.eC}(h:gj F.eC o=some x)(y:cC F.cu)(q:F.fn x=some y):F.aS.rel o (dp F.cu y):=by
 show(match gj F.eC o,gj F.cu (dp F.cu y)with
  |some x,some y=>F.fn x=some y
  |_,_=>False)
 rw[h,Fy]
 exact q
def ML(R:List (aD P G))(E:Env)(st:af)(c:Call):ew:=
 match c.callee with
 |.value x=>match pA E st x with
  |some (f,F,l)=>match pB E st F.flat c.argTypes.toList c.args.toList,Ea R f with
   |some O,some L=>match h:gj L.eC (O++l)with
    |some x=>.c L.cu (L.fn x) (fun y=>L.aS.rel (O++l) (dp L.cu y)) (TY h)
    |none=>.nil
   |_,_=>.nil
  |none=>.nil
 |.builtin .len=>match c.args.toList with
  |[x]=>match aO st x with
   |some (.sub b i)=>match look st.ad b with
    |some (.bn _ k xs none)=>ki (u:=k.u) xs i
    |_=>.nil
   |_=>.nil
  |_=>.nil
 |.builtin .append=>match c.args.toList,c.argTypes.toList with
  |[.tmp a,x],[t,q]=>match look st.ab a with
   |some (.sub b i)=>match look st.ad b with
    |some (.bn _ k xs none)=>.t k.u (aq xs i) (fun y=>aq xs i=some y) (fun _ h=>h) fun U=>match ct k.u U k.off (.ab k.t)with
     |some o=>match jQ E.P st k.t q x with
      |some V=>.k ((eA o).length+V.length<=bq) inferInstance .nil
      |none=>.nil
     |none=>.nil
    |_=>.nil
   |some (.osl b)=>match look st.ad b,aO st x with
    |some (.bn _ k xs none),some (.osl W)=>match look st.ad W with
     |some (.bn _ Y Z none)=>match ak.as ⟨.ab Y.u,Z⟩ (.ab k.u)with
      |some o=>.k (xs.length+(eA o).length<=bq) inferInstance .nil
      |none=>.nil
     |_=>.nil
    |_,_=>.nil
   |_=>match pJ E.P st 0 t (.tmp a)with
    |some (_,r)=>match jQ E.P st r.t q x with
     |some o=>.k (r.xs.length+o.length<=bq) inferInstance .nil
     |none=>.nil
    |none=>.nil
  |[s,x],[t,q]=>match pJ E.P st 0 t s with
   |some (_,r)=>match jQ E.P st r.t q x with
    |some o=>.k (r.xs.length+o.length<=bq) inferInstance .nil
    |none=>.nil
   |none=>.nil
  |_,_=>.nil
 |.builtin .copy=>match c.args.toList,c.argTypes.toList with
  |[x,y],[_,q]=>match aO st x with
   |some (.row r)=>match look st.rw r with
    |some c=>match jQ E.P st c.t q y with
     |some o=>.k (o.length<=c.xs.length) inferInstance .nil
     |none=>.nil
    |none=>.nil
   |_=>.nil
  |_,_=>.nil
 |_=>.nil
def E6(k:dH)(xs:List k.u.el)(i j:Int)(L:k.u.el->(ag.ab k.t).el->k.t.el->ew):ew:=
 .t k.u (aq xs i) (fun y=>aq xs i=some y) (fun _ h=>h) fun q=>match ct k.u q k.off (.ab k.t)with
  |some o=>.t k.t (aq (eA o) j) (fun y=>aq (eA o) j=some y) (fun _ h=>h) fun z=>L q o z
  |none=>.nil
def wJ:Op->Bool
 |.call c=>match c.callee with
  |.value _=>true
  |_=>false
 |_=>false
def Ib:Op->Bool
 |.assign (.const (.slice none 0 0))=>true
 |.move (.const (.slice none 0 0))=>true
 |.makeSlice _ _ _=>true
 |_=>false
def Hh(E:Env)(st:af)(aa:Oper):ew:=
 match aa.op with
 |.makeSlice t l c=>match dE E.P t,dL (aO st l),dL (aO st c)with
  |some (e,_),some n,some o=>match mi E.P e with
   |some k=>.k (0<=n/\n<=o/\o<=(bq:Int)) inferInstance (.same k.u (cb k.u (bX k.u) k.off ⟨.ab k.t,[]⟩) (some (bX k.u)) (.same (.ab k.t) (ct k.u (bX k.u) k.off (.ab k.t)) (some (show(ag.ab k.t).el from[])) .nil))
   |none=>.nil
  |_,_,_=>.nil
 |_=>.nil
def ik(la:List (aD P G))(E:Env)(q:af)(aa:Oper):ew:=
 let st:=gm (qA q (gr E aa.op)) (gr E aa.op)
 match aa.op with
 |.binOp lb _ x y _=>match cY st x,cY st y with
  |some a,some b=>O5 lb y a b
  |_,_=>.nil
 |.convert src lc x=>Jy E.P st src lc x
 |.index _ x i=>match cY st x,dL (aO st i)with
  |some ⟨.str,s⟩,some n=>.t (.int .u8) (fa s n) (fun b=>fa s n=some b) (fun _ h=>h) (fun _=>.nil)
  |some ⟨.arr _ u,xs⟩,some n=>ki (u:=u) xs n
  |_,_=>.nil
 |.indexAddr t x i=>match aO st x,dL (aO st i)with
  |some (.val (.ab u) xs),some n=>ki (u:=u) xs n
  |some (.row r),some n=>match look st.rw r with
   |some c=>ki c.xs n
   |none=>.nil
  |some (.vptr (.arr _ u) xs),some n=>ki (u:=u) xs n
  |some (.dm _ _),some n=>match ty E.P t with
   |some (.arr R _)=>.k (0<=n/\n<(R:Int)) inferInstance .nil
   |_=>.nil
  |some (.dA r i0 ld le),some n=>match look st.rw r,ty E.P t with
   |some c,some (.arr R u)=>match c.t.beq u&&(i0==0&&(Nat.beq ld 0&&Nat.beq le c.t.cells))with
    |true=>.t c.t (aq c.xs n) (fun y=>aq c.xs n=some y) (fun _ h=>h) (fun _=>.k (c.xs.length=R) inferInstance .nil)
    |false=>.nil
   |_,_=>.nil
  |some (.osl b),some n=>match look st.ad b with
   |some (.aX _ _ xs)=>.k (0<=n/\n<(xs.length:Int)) inferInstance .nil
   |some (.bn _ _ xs _)=>.k (0<=n/\n<(xs.length:Int)) inferInstance .nil
   |_=>.nil
  |some (.sub b i0),some n=>match look st.ad b with
   |some (.bn _ k xs none)=>.t k.u (aq xs i0) (fun y=>aq xs i0=some y) (fun _ h=>h) fun o=>match ct k.u o k.off (.ab k.t)with
    |some L=>.k (0<=n/\n<((eA L).length:Int)) inferInstance .nil
    |none=>.nil
   |_=>.nil
  |_,_=>.nil
 |.load _ x=>match aO st x with
  |some (.dy b i _ _)=>match look st.ad b with
   |some (.bn _ k xs none)=>ki (u:=k.u) xs i
   |_=>.nil
  |some (.eH b i j _ _)=>match look st.ad b with
   |some (.bn _ k xs none)=>E6 k xs i j fun _ _ _=>.nil
   |_=>.nil
  |some (.dA r i _ _)=>match look st.rw r with
   |some c=>ki c.xs i
   |none=>.nil
  |some (.dm b p)=>match look st.ad b with
   |some (.aP t x _)=>rF t x p
   |_=>.nil
  |_=>.nil
 |.store _ x v=>match aO q x with
  |some (.dy b i off _)=>match look q.ad b,aO q v with
   |some (.bn _ k xs none),some (.val V z)=>.t k.u (aq xs i) (fun y=>aq xs i=some y) (fun _ h=>h) fun o=>match cb k.u o off ⟨V,z⟩,cb k.u o k.off ⟨.ab k.t,[]⟩with
    |some O,some U=>.same k.u (cb k.u O k.off ⟨.ab k.t,[]⟩) (some ((cb k.u U off ⟨V,z⟩).getD U)) (.same (.ab k.t) (ct k.u O k.off (.ab k.t)) (ct k.u o k.off (.ab k.t)) .nil)
    |_,_=>.nil
   |some (.bn _ k xs h),some (.row r)=>match look q.rw r with
    |some c=>match ak.as ⟨.ab c.t,c.xs⟩ (.ab k.t)with
     |some L=>.t k.u (aq xs i) (fun y=>aq xs i=some y) (fun _ h=>h) fun o=>match cb k.u o k.off ⟨.ab k.t,L⟩with
      |some O=>.same k.u (cb k.u O k.off ⟨.ab k.t,[]⟩) (cb k.u o k.off ⟨.ab k.t,[]⟩) (.same (.ab k.t) (ct k.u O k.off (.ab k.t)) (some L) (match h with
       |none=>.nil
       |some i0=>.e (.int .i64) (some i0) (some i) (i0=i) Option.some.inj .nil))
      |none=>.nil
     |none=>.nil
    |none=>.nil
   |_,_=>.nil
  |some (.eH b i j off _)=>match look q.ad b,aO q v with
   |some (.bn _ k xs none),some (.val V z)=>E6 k xs i j fun o L z0=>match cb k.t z0 off ⟨V,z⟩with
    |some Z=>match cb k.u o k.off ⟨.ab k.t,(eA L).set j.toNat Z⟩with
     |some O=>.same k.u (cb k.u O k.off ⟨.ab k.t,[]⟩) (cb k.u o k.off ⟨.ab k.t,[]⟩) (.same (.ab k.t) (ct k.u O k.off (.ab k.t)) (some ((eA L).set j.toNat Z)) .nil)
     |none=>.nil
    |none=>.nil
   |_,_=>.nil
  |some (.dA r i _ _)=>match look q.rw r with
   |some c=>ki c.xs i
   |none=>.nil
  |some (.dm b p)=>match look q.ad b with
   |some (.aP t x _)=>rF t x p
   |_=>.nil
  |some (.ff b n)=>match look q.ad b with
   |some (.aX _ _ xs)=>.k (0<=n/\n<(xs.length:Int)) inferInstance .nil
   |_=>.nil
  |_=>.nil
 |.slice _ x W Y none=>match aO st x with
  |some (.val .str s)=>match db.pY st W,db.oY st Y (List.length (α:=UInt8) s)with
   |some l,some h=>.t .str (dD (show List UInt8 from s) l h) (fun y=>dD (show List UInt8 from s) l h=some y) (fun _ h=>h) (fun _=>.nil)
   |_,_=>.nil
  |some (.val (.ab u) xs)=>match db.pY st W,db.oY st Y (List.length (α:=u.el) xs)with
   |some l,some h=>.t (.ab u) (dD (show List u.el from xs) l h) (fun y=>dD (show List u.el from xs) l h=some y) (fun _ h=>h) (fun _=>.nil)
   |_,_=>.nil
  |some (.row r)=>match look st.rw r,Y with
   |some c,some h=>match dL (aO st h)with
    |some n=>.k (0<=n/\n<=(c.xs.length:Int)) inferInstance .nil
    |none=>.nil
   |_,_=>.nil
  |some (.dA r _ _ _)=>match look st.rw r,W with
   |some c,some l=>match dL (aO st l),o4 E.P (match aa.op with|.slice t _ _ _ _=>t|_=>0)with
    |some n,some (R,_)=>.t (.ab c.t) (dD c.xs n (c.xs.length:Int)) (fun y=>dD c.xs n (c.xs.length:Int)=some y) (fun _ h=>h) (fun _=>.k (c.xs.length=R) inferInstance .nil)
    |_,_=>.nil
   |_,_=>.nil
  |_=>.nil
 |.makeSlice _ l c=>match dL (aO st l),dL (aO st c)with
  |some n,some k=>.k (0<=n/\n<=k/\k<=(bq:Int)) inferInstance .nil
  |_,_=>.nil
 |.buildSlice t _ ps=>match ps.toList with
  |[(0,x)]=>match aO st x,dE E.P t with
   |some (.ep l),some (e,_)=>match mi E.P e with
    |some k=>match l[k.off]?,kZ k.off k.t 0 l with
     |some (.r r),some lf=>match look st.rw r,pack k.u lf with
      |some c,some (U,[])=>match ak.as ⟨.ab c.t,c.xs⟩ (.ab k.t)with
       |some L=>match cb k.u U k.off ⟨.ab k.t,L⟩with
        |some o=>.same k.u (cb k.u o k.off ⟨.ab k.t,[]⟩) (some U) (.same (.ab k.t) (ct k.u o k.off (.ab k.t)) (some L) .nil)
        |none=>.nil
       |none=>.nil
      |_,_=>.nil
     |_,_=>.nil
    |none=>.nil
   |_,_=>.nil
  |_=>.nil
 |.call c=>ML la E st c
 |_=>.nil
variable {cx:bx} {st st':af} {T:Array Value} {w:World} {E:Env} {Q:cB} {ops:Array Oper} {l:List Oper}
variable [ah cx]
def eE(P:Program)(G:World->Prop)(al:Type):=af->aZ P G al->List cf->bo al
def fin(E:Env)(st:af)(aa:Oper)(k:eE P G al)(orc:List ak)(ps:List Prop)(h:aZ P G al)(o:List cf):bo al:=
 match jL E st aa orc with
 |some (st',[],ob)=>.eL ob ps (k st' h o)
 |_=>.ret none
def nb(R:List (aD P G))(E:Env)(st:af)(aa:Oper)(h:aZ P G al)(q:List cf)(k:eE P G al):bo al:=
 match wJ aa.op,h with
 |true,.ci L h=>match zq st aa L.f with
  |some r=>match look st.rw r with
   |some c=>match ak.as ⟨.ab c.t,c.xs⟩ (.ab L.t),Nat.beq c.e L.e with
    |some xs,true=>match zn st aa E.n r ⟨L.e,L.t,L.fn xs⟩with
     |some st'=>k st' h q
     |none=>.ret none
    |_,_=>.ret none
   |none=>.ret none
  |none=>.ret none
 |true,.bG o ρ ρ' U=>match mg E st aa o.F.n o.f ρ with
  |some O=>match o.X O with
   |some x=>.eqs (some O) (some (o.F.S x)) (.ask (o.fn x) fun y=>match im st (o.F.bE x y) aa o.F.n E.n ρ ρ' (o.F.ap x y)with
    |some st'=>k st' (U y) q
    |none=>.ret none)
   |none=>.ret none
  |none=>.ret none
 |true,.H6 o i j ρ ρ' U=>match ghost E.P st aa i j with
  |some V=>match AK E V aa o.F.n o.f ρ i j with
   |some O=>match o.X O with
    |some x=>.eqs (some O) (some (o.F.S x)) (.ask (o.fn x) fun y=>match im V (o.F.bE x y) aa o.F.n E.n ρ ρ' (o.F.ap x y)with
     |some st'=>k st' (U y) q
     |none=>.ret none)
    |none=>.ret none
   |none=>.ret none
  |none=>.ret none
 |_,h=>match Ib aa.op with
  |true=>match h with
   |.mk h=>eh (Hh E st aa) h q [⟨.unit,()⟩] [] (fin E st aa k)
   |h=>eh (ik R E st aa) h.dec q [] [] (fin E st aa k)
  |false=>match aa.op with
  |.next x true=>match aO st x with
   |some (.iter b)=>match look st.ad b with
    |some (.iter s p)=>.ite (decide (p<s.length)) (fin E st aa k [fT true] [p<s.length] h.fork.1 q) (fin E st aa k [fT false] [s.length<=p] h.fork.2 q)
    |_=>.ret none
   |_=>.ret none
  |_=>match h with
   |.un d h=>match Nat.beq (aa.dst.getD 0) d with
    |true=>eh (ik R E st aa) h q [⟨.unit,()⟩] [] (fin E st aa k)
    |false=>eh (ik R E st aa) (.un d h) q [] [] (fin E st aa k)
   |h=>eh (ik R E st aa) h q [] [] (fin E st aa k)
def o5(o:List (aD P G))(E:Env)(st:af)(aa:Oper)(h:aZ P G al)(q:List cf)(k:eE P G al):bo al:=
 match wJ aa.op,h with
 |true,.jN r h'=>match look st.rw r,aa.guard with
  |some c,none=>nb o E (st.freeze r c) aa h' q k
  |_,_=>.ret none
 |_,.xT n d h'=>match Nat.beq (aa.dst.getD 0) n with
  |true=>match uw E.P st d,aa.guard with
   |some st',none=>nb o E st' aa h' q k
   |_,_=>.ret none
  |false=>nb o E st aa (.xT n d h') q k
 |_,h=>nb o E st aa h q k
def qd(ops:Array Oper)(st:af)(g:Nat×Bool):Option (Nat×Bool):=
 match(ops[g.1]?).bind (·.dst)with
 |some d=>match look st.ab d with
  |some (.val .bool b)=>some (d,b)
  |_=>none
 |none=>none
def gP(st:af)(o:Nat):af:={st with ab:=del st.ab o}
def nl(dc:List Oper->af->Option (af×List ak×List Prop))(l:List Oper)(st:af)(o:Nat)(b:Bool)(d:Nat):Option (af×Bool):=
 match dc l (fH st o b)with
 |some (s,[],[])=>match look s.ab d with
  |some (.val .bool x)=>match s.norm (d::cI (del (gP st o).ab d)) (cI st.ad) (cI st.rw)with
   |some q=>some (q,x)
   |none=>none
  |_=>none
 |_=>none
def ma(o:List ga)(S:eW o->af)(q:eW o->Option al)(st:af):bo al:=
 match bp st o with
 |some z=>.eqs (st.norm (cI (S z).ab) (cI (S z).ad) (cI (S z).rw)) (some (S z)) (.ret (q z))
 |none=>.ret none
def o9(o:af)(d:Nat)(q:Bool->Option al)(st:af):bo al:=
 match look st.ab d with
 |some (.val .bool v)=>.eqs (st.norm (d::cI (del o.ab d)) (cI o.ad) (cI o.rw)) (some (o.put d (.val .bool v))) (.ret (q v))
 |_=>.ret none
def ul(l:List Oper)(m:Nat):Option Nat:=match l[m]? with
 |some aa=>aa.dst
 |none=>none
abbrev pU(P:Program)(G:World->Prop)(al:Type):=af->Oper->aZ P G al->List cf->eE P G al->bo al
def fj(q:Nat)(en:af->List Oper->Option (af×List Oper))(step:pU P G al)(dc:List Oper->af->Option (af×List ak×List Prop))(ops:Array Oper):Nat->List Oper->af->aZ P G al->List cf->eE P G al->bo al
 |0,_,_,_,_,_=>.ret none
 |n+1,ld,st,h,L,K=>match ld with
  |[]=>K st h L
  |aa::l=>match aa.guard with
   |none=>match en st (aa::l)with
    |some (st',le)=>fj q en step dc ops n le st' h L K
    |none=>step st aa h L fun st' h' W=>fj q en step dc ops n l st' h' W K
   |some g=>match h with
    |.bf m h'=>match qd ops st g,ul (aa::l) m with
     |some (o,b),some d=>match nl dc ((aa::l).take (m+1)) st o true d,nl dc ((aa::l).take (m+1)) st o false d with
      |some (Y,R),some (Z,U)=>.eqs (some (fH st o b)) (some st) (.eqs (some Y) (some ((gP st o).put d (.val .bool R))) (.eqs (some Z) (some ((gP st o).put d (.val .bool U)))
        (fj q en step dc ops n (l.drop m) ((gP st o).put d (.val .bool (bif b then R else U))) h' L K)))
      |_,_=>.ret none
     |_,_=>.ret none
    |.GN m O V=>match qd ops st g,ul (aa::l) m with
     |some (o,b),some d=>match nl dc ((aa::l).take (m+1)) st o true d,nl dc ((aa::l).take (m+1)) st o false d with
      |some (Y,R),some (Z,U)=>.eqs (some (fH st o b)) (some st) (.eqs (some Y) (some ((gP st o).put d (.val .bool R))) (.eqs (some Z) (some ((gP st o).put d (.val .bool U)))
        (.fb (fun v=>fj q en step dc ops n (l.drop m) ((gP st o).put d (.val .bool v)) (V v) [] K) O (.ret (O (bif b then R else U))))))
      |_,_=>.ret none
     |_,_=>.ret none
    |.g m O la lb V=>match qd ops st g,ul (aa::l) m with
     |some (o,b),some d=>.eqs (some (fH st o b)) (some st) (.fb (fun v=>fj q en step dc ops n (l.drop m) ((gP st o).put d (.val .bool v)) (V v) [] K) O
       (.ite b (fj q en step dc ops n ((aa::l).take (m+1)) (fH st o true) la L fun st' _ _=>o9 (gP st o) d O st')
        (fj q en step dc ops n ((aa::l).take (m+1)) (fH st o false) lb L fun st' _ _=>o9 (gP st o) d O st')))
     |_,_=>.ret none
    |.gT m lc S O la lb V=>match qd ops st g with
     |some (o,b)=>.eqs (some (fH st o b)) (some st) (.fb (fun z=>fj q en step dc ops n (l.drop m) (S st z) (V z) [] K) O
       (.ite b (fj q en step dc ops n ((aa::l).take (m+1)) (fH st o true) la L fun st' _ _=>ma lc (S st) O st')
        (fj q en step dc ops n ((aa::l).take (m+1)) (fH st o false) lb L fun st' _ _=>ma lc (S st) O st')))
     |none=>.ret none
    |h=>match dR ops st aa with
     |some true=>step st aa h.dec L fun st' h' W=>fj q en step dc ops n l st' h' W K
     |some false=>match aa.dst with
      |some d=>match Nat.blt d q with
       |true=>fj q en step dc ops n l (st.put d .undef) h.dec L K
       |false=>.ret none
      |none=>fj q en step dc ops n l st h.dec L K
     |none=>.ret none
def HD(E:Env)(st:af)(aa:Oper)(d:Nat)(k:eE P G al)(orc:List ak)(ps:List Prop)(h:aZ P G al)(o:List cf):bo al:=
 match fc E st aa orc with
 |some ⟨aM,[],ob⟩=>.eL ob ps (k (st.put d aM) h o)
 |_=>.ret none
def AI(o:List (aD P G))(E:Env):pU P G al:=fun st aa h q k=>
 match aa.dst with
 |some d=>match Nat.blt d E.n with
  |true=>eh (ik o E st aa) h q [] [] (HD E st aa d k)
  |false=>.ret none
 |none=>.ret none
def Gs(E:Env)(st:af)(aa:Oper)(d:Nat)(k:eE P G al)(orc:List ak)(ps:List Prop)(h:aZ P G al)(o:List cf):bo al:=
 match fc E st aa orc with
 |some ⟨aM,[],ob⟩=>match rE E.P aa aM with
  |true=>.eL ob ps (k (st.put d aM) h o)
  |false=>.ret none
 |_=>.ret none
def Ce(o:List (aD P G))(E:Env):pU P G al:=fun st aa h q k=>
 match aa.dst with
 |some d=>match Nat.blt d E.n with
  |true=>eh (ik o E st aa) h q [] [] (Gs E st aa d k)
  |false=>.ret none
 |none=>.ret none
def kF(o:List (aD P G))(E:Env)(ops:Array Oper)(l:List Oper):af->aZ P G al->List cf->eE P G al->bo al:=fj E.n (qM E) (o5 o E) (fun l st=>eX E ops l st []) ops 5000 l
def jY(o:List (aD P G))(E:Env)(ops:Array Oper)(l:List Oper):af->aZ P G al->List cf->eE P G al->bo al:=fj E.n (fun _ _=>none) (AI o E) (fun l st=>fz E ops l st []) ops 5000 l
def r2(o:List (aD P G))(E:Env)(ops:Array Oper)(l:List Oper):af->aZ P G al->List cf->eE P G al->bo al:=fj E.n (fun _ _=>none) (Ce o E) (fun _ _=>none) ops 5000 l
def oF(o:List (aD P G))(E:Env)(ops:Array Oper)(aa:Oper)(d:Nat)(orc:List ak)(ps:List Prop)(L:List Nat)(K:eE P G al):List Nat->af->aZ P G al->List cf->bo al
 |[],st,h,q=>kF o E ops (bB ops L) st h q K
 |c::R,st,h,q=>match ops[c]? with
  |some O=>match dR ops st O with
   |some true=>o5 o E st O h q fun st' h' U=>match fc E st' aa orc,look st'.ab d with
    |some r,some aM=>match mE aM with
     |true=>.eqs (some ⟨[(d,r.aM)],[],[]⟩) (some ⟨[(d,aM)],[],[]⟩) (.eL r.ob ps (oF o E ops aa d orc ps L K R st' h' U))
     |false=>.ret none
    |_,_=>.ret none
   |_=>.ret none
  |none=>.ret none
def Do(q:List (aD P G))(E:Env)(aa:Oper)(d:Nat)(K:List ak->List Prop->eE P G al):eE P G al:=fun st h o=>
 eh (ik q E st aa) h o [] [] fun orc ps h o=>match fc E st aa orc with
  |some r=>.eL r.ob ps (K orc ps (st.put d r.aM) h o)
  |none=>.ret none
def tn(q:List (aD P G))(E:Env)(ops:Array Oper)(K:eE P G al):List Nat->af->aZ P G al->List cf->bo al
 |[],st,h,o=>K st h o
 |c::C,st,h,o=>match ops[c]? with
  |some aa=>match dR ops st aa,aa.dst with
   |some true,some d=>match Nat.blt d E.n with
    |true=>eh (ik q E st aa) h o [] [] fun orc ps h o=>match p9 E st aa orc with
     |some ⟨aM,_,ob⟩=>.eL ob ps (tn q E ops K C (st.put d aM) h o)
     |none=>.ret none
    |false=>.ret none
   |_,_=>.ret none
  |none=>.ret none
/-! Regions gone through in any order. -/
inductive eK(P:Program)(G:World->Prop):Type 1
 |aa (orc:List ak) (ps:List Prop)
 |b {α o:Type} (z:Option Nat) (q:cn P G α o) (ρ ρ':List (Nat×Nat)) (x:α) (y:o)
def mj:eK P G->Prop
 |.aa _ ps=>bJ ps
 |.b _ o _ _ x y=>o.fn x=some y
def pH(st:af):Option Nat->Option af
 |none=>some st
 |some r=>match look st.rw r with
  |some c=>some (st.freeze r c)
  |none=>none
def isAny:ao->Bool
 |.any=>true
 |_=>false
def Et(s:af):Option af:=s.norm (cI (s.ab.filter fun p=>!isAny p.2)) (cI s.ad) (cI s.rw)
def Rw(E:Env)(st:af)(aa:Oper):eK P G->Option af
 |.aa orc _=>match jL E st aa orc with
  |some (st',[],_)=>Et st'
  |_=>none
 |.b z o ρ ρ' x y=>match pH st z with
  |some st=>match im st (o.F.bE x y) aa o.F.n E.n ρ ρ' (o.F.ap x y)with
   |some st'=>Et st'
   |none=>none
  |none=>none
def oM:List (Nat×eK P G)->Nat->Option (eK P G)
 |[],_=>none
 |(k,v)::r,n=>bif Nat.beq k n then some v else oM r n
def mG(E:Env)(ops:Array Oper)(o:List (Nat×eK P G))(st:af):List Nat->Option af
 |[]=>some st
 |i::q=>match mG E ops o st q with
  |some s=>match ops[i]?,oM o i with
   |some aa,some cS=>Rw E s aa cS
   |_,_=>none
  |none=>none
def yf(E:Env)(s:af)(aa:Oper)(t:af)(rest:bo al):eK P G->bo al
 |.aa orc ps=>match jL E s aa orc with
  |some (q,[],ob)=>.eqs (q.norm (cI t.ab) (cI t.ad) (cI t.rw)) (some t) (.eL ob ps rest)
  |_=>.ret none
 |.b z o ρ ρ' x y=>match pH s z with
  |some s=>match mg E s aa o.F.n o.f ρ,im s (o.F.bE x y) aa o.F.n E.n ρ ρ' (o.F.ap x y)with
   |some L,some q=>.eqs (some L) (some (o.F.S x)) (.eqs (q.norm (cI t.ab) (cI t.ad) (cI t.rw)) (some t) rest)
   |_,_=>.ret none
  |none=>.ret none
def rJ(E:Env)(ops:Array Oper)(o:List (Nat×eK P G))(st:af):List (List Nat×Nat)->bo al->bo al
 |[],rest=>rest
 |(q,i)::l,rest=>match mG E ops o st q,mG E ops o st (ko i q),ops[i]?,oM o i with
  |some s,some t,some aa,some cS=>match aa.guard with
   |none=>yf E s aa t (rJ E ops o st l rest) cS
   |some _=>.ret none
  |_,_,_,_=>.ret none
def mA(E:Env)(st:af)(aa:Oper)(K:af->aZ P G al->List cf->eK P G->bo al)(orc:List ak)(ps:List Prop)(h:aZ P G al)(o:List cf):bo al:=
 match jL E st aa orc with
 |some (st',[],_)=>K st' h o (.aa orc ps)
 |_=>.ret none
def ra(E:Env)(st:af)(aa:Oper)(z:Option Nat)(h:aZ P G al)(L:List cf)(K:af->aZ P G al->List cf->eK P G->bo al):bo al:=
 match h with
 |.bG o ρ ρ' O=>match pH st z with
  |some st=>match mg E st aa o.F.n o.f ρ with
   |some q=>match o.X q with
    |some x=>.eqs (some q) (some (o.F.S x)) (.ask (o.fn x) fun y=>match im st (o.F.bE x y) aa o.F.n E.n ρ ρ' (o.F.ap x y)with
     |some st'=>K st' (O y) L (.b z o ρ ρ' x y)
     |none=>.ret none)
    |none=>.ret none
   |none=>.ret none
  |none=>.ret none
 |_=>.ret none
def wC(q:List (aD P G))(E:Env)(st:af)(aa:Oper)(h:aZ P G al)(o:List cf)(K:af->aZ P G al->List cf->eK P G->bo al):bo al:=
 match wJ aa.op,h with
 |true,.jN r h'=>ra E st aa (some r) h' o K
 |true,.bG L ρ ρ' O=>ra E st aa none (.bG L ρ ρ' O) o K
 |_,h=>match Ib aa.op with
  |true=>match h with
   |.mk h=>eh (Hh E st aa) h o [⟨.unit,()⟩] [] (mA E st aa K)
   |h=>eh (ik q E st aa) h.dec o [] [] (mA E st aa K)
  |false=>match h with
   |.un d h=>match Nat.beq (aa.dst.getD 0) d with
    |true=>eh (ik q E st aa) h o [⟨.unit,()⟩] [] (mA E st aa K)
    |false=>eh (ik q E st aa) (.un d h) o [] [] (mA E st aa K)
   |h=>eh (ik q E st aa) h o [] [] (mA E st aa K)
def rg(L:List (aD P G))(E:Env)(ops:Array Oper):List Nat->af->aZ P G al->List cf->List (Nat×eK P G)->(aZ P G al->List cf->List (Nat×eK P G)->bo al)->bo al
 |[],_,h,o,q,K=>K h o q
 |i::is,st,h,o,q,K=>match ops[i]? with
  |some aa=>wC L E st aa h o fun st' h' O cS=>rg L E ops is st' h' O ((i,cS)::q) K
  |none=>.ret none
def Ld(ops:Array Oper)(q:List (List Nat)):List (List Nat×Nat):=q.flatMap fun o=>(Region.ready .any ops (jJ ops.size o)).map fun i=>(o,i)
def tA(L:List (aD P G))(E:Env)(ops:Array Oper)(o:List (List Nat))(st:af)(h:aZ P G al)(O:List cf)(K:eE P G al):bo al:=
 match E.P.follows .mixedOrders,zW .any ops (List.range ops.size).reverse o with
 |true,true=>rg L E ops (List.range ops.size) st h O [] fun h' R q=>match mG E ops q st (List.range ops.size).reverse with
  |some t=>rJ E ops q st (Ld ops o) (K t h' R)
  |none=>.ret none
 |_,_=>.ret none
abbrev jg(P:Program)(G:World->Prop)(al:Type):=Exit->af->aZ P G al->List cf->bo al
def oR(h:aZ P G al)(st:af):Option af:=match h with
 |.eO o bs ap ρ=>(st.norm o bs ap).bind (·.bS ρ)
 |_=>some st
def ends(a:af->bo al)(K:jg P G al):jg P G al:=fun e st h o=>match e with
 |.normal=>match oR h st with
  |some s=>a s
  |none=>.ret none
 |e=>K e st h o
def pp(q:List (aD P G))(E:Env)(ops:Array Oper)(U:Bool)(st:af)(h:aZ P G al)(L:List cf)(K:jg P G al):bo al:=
 match U with
  |false=>kF q E ops ops.toList st h L fun st' h' o=>K .normal st' h' o
  |true=>match h with
   |.my m h'=>match E.P.follows .mixedOrders,Region.lexTailB .any ops m with
    |true,true=>jY q E ops (ops.toList.take m) st h' L fun st' h' o=>kF q E ops (ops.toList.drop m) st' h' o fun st' h' o=>K .normal st' h' o
    |_,_=>.ret none
   |.fl a b c h'=>match E.P.follows .mixedOrders,BF .any ops a b c,Nat.beq (a.length+(b.length+c.length)) ops.toList.length with
    |true,true,true=>r2 q E ops (bB ops a) st h' L fun st' h' o=>jY q E ops (bB ops b) st' h' o fun st' h' o=>kF q E ops (bB ops c) st' h' o fun st' h' o=>K .normal st' h' o
    |_,_,_=>.ret none
   |.SJ a b i c c2 h'=>match ops.toList[i]? with
    |some aa=>match aa.dst,aa.guard,gK aa&&(!(aa.looksAt ops.toList.toArray).contains (aa.dst.getD 0)&&(Nat.blt (aa.dst.getD 0) E.n&&Nat.beq (a.length+(b.length+(c.length+c2.length+1))) ops.toList.length)),E.P.follows .mixedOrders,mY .any ops a b i c c2 with
     |some d,none,true,true,true=>r2 q E ops (bB ops a) st h' L fun st' h' o=>jY q E ops (bB ops b) st' h' o (Do q E aa d fun orc ps st' h' o=>oF q E ops aa d orc ps c2 (fun st' h' o=>K .normal st' h' o) c st' h' o)
     |_,_,_,_,_=>.ret none
    |none=>.ret none
   |.nj a b c2 c3 O c5 R h'=>match E.P.follows .mixedOrders,tv .any ops a b c2 c3 O c5 R,Nat.beq (a.length+(b.length+5)) ops.toList.length,rf ops.toList.toArray c2 c3 O c5 R with
    |true,true,true,some C=>r2 q E ops (bB ops a) st h' L fun st' h' o=>jY q E ops (bB ops b) st' h' o fun st' h' o=>match xu E st' C with
     |some st'=>K .normal st' h' o
     |none=>.ret none
    |_,_,_,_=>.ret none
   |.md a b c d h'=>match E.P.follows .mixedOrders,AB .any ops a b c d,Nat.beq (a.length+(b.length+(c.length+d.length))) ops.toList.length with
    |true,true,true=>r2 q E ops (bB ops a) st h' L fun st' h' o=>jY q E ops (bB ops b) st' h' o fun st' h' o=>kF q E ops (bB ops c) st' h' o fun st' h' o=>
      jY q E ops (bB ops d) st' h' o fun st' h' o=>K .normal st' h' o
    |_,_,_=>.ret none
   |.aY b c h'=>match E.P.follows .mixedOrders,rK .any ops b c,Nat.beq (b.length+c.length) ops.toList.length with
    |true,true,true=>jY q E ops (bB ops b) st h' L fun st' h' o=>tn q E ops (fun st' h' o=>K .normal st' h' o) c st' h' o
    |_,_,_=>.ret none
   |.cS V h'=>tA q E ops V st h' L fun st' h' o=>K .normal st' h' o
   |h=>match E.P.follows .mixedOrders,Region.lexB .any ops with
    |true,true=>jY q E ops ops.toList st h.dec L fun st' h' o=>K .normal st' h' o
    |_,_=>.ret none
def run(q:List (aD P G))(E:Env):Code->af->aZ P G al->List cf->jg P G al->bo al
 |.skip,st,h,o,K=>K .normal st h o
 |.exit id,st,h,o,K=>K (.exit id) st h o
 |.ret,st,h,o,K=>K .ret st h o
 |.block id c,st,h,o,K=>run q E c st h o fun e st' h' L=>match e with
  |.normal=>K .normal st' h' L
  |.ret=>K .ret st' h' L
  |.exit i=>match Nat.beq i id with
   |true=>K .normal st' h' L
   |false=>K (.exit i) st' h' L
  |_=>.ret none
 |.seq x y,st,h,o,K=>match h with
  |.j O S U W Y=>.fb (fun z=>run q E y (S st z) (Y z) [] K) U (run q E x st W o (ends (ma O (S st) U) K))
  |h=>run q E x st h.dec o fun e st' h' L=>match e with
   |.normal=>run q E y st' h' L K
   |e=>K e st' h' L
 |.cond c x y,st,h,o,K=>match aO st c with
  |some (.val .bool b)=>match h with
   |.T h'=>.iv b true (run q E x st h' o K)
   |.F h'=>.iv b false (run q E y st h' o K)
   |h=>.ite b (run q E x st h.fork.1 o K) (run q E y st h.fork.2 o K)
  |_=>.ret none
 |.loop c,st,h,_,K=>match h with
  |.be O S F k Z=>match bp st O with
   |some z0=>.gz (fun V z=>run q E c (S st z) (Z V z) [] (ends (ma O (S st) V) K)) F (.eqs (st.norm (cI (S st z0).ab) (cI (S st z0).ad) (cI (S st z0).rw)) (some (S st z0)) (.ret (F k z0)))
   |none=>.ret none
  |_=>.ret none
 |.region _ ops R,st,h,o,K=>match h with
  |.iG r h'=>match look st.rw r with
   |some c=>pp q E ops R (st.freeze r c) h' o K
   |none=>.ret none
  |.fN la bs ap h'=>match st.norm la bs ap with
   |some st'=>pp q E ops R st' h' o K
   |none=>.ret none
  |h=>pp q E ops R st h o K
 |_,_,_,_,_=>.ret none
end Go.Ev
namespace Go.Ev
open Go Go.RowKit
variable [bV]
variable {al:Type} {P:Program} {G:World->Prop}
variable {cx:bx} {st st':af} {T:Array Value} {w:World} {E:Env} {Q:cB} {ops:Array Oper} {l:List Oper}
variable [ah cx]
theorem rD(o:br E cx){aa:Oper}(q:dR ops st aa=some true){orc:List ak}{ob:List Prop}(L:jL E st aa orc=some (st',[],ob))(O:bJ ob)(h:bH cx ops Q l st'):bH cx ops Q (aa::l) st:=by
 refine oZ o 1 (orc:=orc) (ob:=ob++[]) ?_ (by rw[List.append_nil];exact O) h
 show eX E ops [aa] st orc=_
 unfold eX
 rw[q]
 simp only[L,eX]
theorem vo{r:al}{aa:Oper}{k:eE P G al}{orc:List ak}{ps:List Prop}{h:aZ P G al}{q:List cf}(o:bv (fin E st aa k orc ps h q) r)(L:bJ ps):
  ∃st' ob,jL E st aa orc=some (st',[],ob)/\bJ ob/\bv (k st' h q) r:=by
 unfold fin at o
 split at o
 ·rename_i st' ob O
  obtain⟨e,R⟩:=o.eL
  exact⟨st',_,O,e▸L,R⟩
 ·exact o.no
theorem qv{lc:List (aD P G)}{ld:Nat}(O:br (b8 P G ld lc) cx){r:al}{aa:Oper}{h:aZ P G al}{le:List cf}{k:eE P G al}(R:dR ops st aa=some true)(U:cm le)
  (o:bv (nb lc (b8 P G ld lc) st aa h le k) r)(V:∀st' h' lf,cm lf->bv (k st' h' lf) r->bH cx ops Q l st'):bH cx ops Q (aa::l) st:=by
 unfold nb at o
 split at o
 ·rename_i lj h' _
  split at o
  ·rename_i lk W
   split at o
   ·rename_i c ll
    split at o
    ·rename_i xs lm ln
     split at o
     ·rename_i st' Y
      have lo:=BN (Nat.eq_of_beq_eq_true ln) lm
      subst lo
      exact Te O lj.ok xs (lj.fn xs) rfl lk R W ll Y (V _ _ _ U o)
     ·exact o.no
    ·exact o.no
   ·exact o.no
  ·exact o.no
 ·rename_i α lp Z ρ ρ' lq _
  split at o
  ·rename_i lr W
   split at o
   ·rename_i x ls
    obtain⟨e,lg⟩:=o.eqs
    obtain⟨y,lh,L⟩:=lg.ask
    split at L
    ·rename_i st' Y
     exact vz O Z.ok x y (Z.rel x y lh) rfl R (W.trans e) Y (V _ _ _ U L)
    ·exact L.no
   ·exact o.no
  ·exact o.no
 ·rename_i α lp Z i j ρ ρ' lq _
  split at o
  ·rename_i lw lt
   split at o
   ·rename_i lr W
    split at o
    ·rename_i x ls
     obtain⟨e,lg⟩:=o.eqs
     obtain⟨y,lh,L⟩:=lg.ask
     split at L
     ·rename_i st' Y
      exact Md O Z.ok x y (Z.rel x y lh) rfl lt R (W.trans e) Y (V _ _ _ U L)
     ·exact L.no
    ·exact o.no
   ·exact o.no
  ·exact o.no
 ·have last:∀{orc:List ak} {q:ew} {h:aZ P G al},bv (eh q h le orc [] (fin (b8 P G ld lc) st aa k)) r->bH cx ops Q (aa::l) st:=fun o=>by
   obtain⟨orc,ps,h',lf,lu,lv,o⟩:=iw (ps:=[]) _ U trivial o
   obtain⟨st',ob,la,lb,o⟩:=vo o lu
   exact rD O R la lb (V _ _ _ lv o)
  split at o
  ·split at o
   ·exact last o
   ·exact last o
  split at o
  ·split at o
   ·split at o
    ·rcases o.ite with ⟨li,o⟩|⟨li,o⟩
     ·obtain⟨st',ob,la,lb,o⟩:=vo o ⟨of_decide_eq_true li,trivial⟩
      exact rD O R la lb (V _ _ _ U o)
     ·obtain⟨st',ob,la,lb,o⟩:=vo o ⟨Nat.le_of_not_lt (of_decide_eq_false li),trivial⟩
      exact rD O R la lb (V _ _ _ U o)
    ·exact o.no
   ·exact o.no
  ·split at o
   ·split at o
    ·exact last o
    ·exact last o
   ·exact last o
theorem py{aa:Oper}(h:aa.guard=none):dR ops st aa=some true:=by unfold dR;rw[h]
theorem Dm{R:List (aD P G)}{W:Nat}(q:br (b8 P G W R) cx){r:al}{aa:Oper}{h:aZ P G al}{Y:List cf}{k:eE P G al}(Z:dR ops st aa=some true)(L:cm Y)
  (o:bv (o5 R (b8 P G W R) st aa h Y k) r)(O:∀st' h' la,cm la->bv (k st' h' la) r->bH cx ops Q l st'):bH cx ops Q (aa::l) st:=by
 unfold o5 at o
 split at o
 ·split at o
  ·rename_i c lb U
   have:=qv (l:=l) (ops:=ops) (Q:=Q) q (py U) L o O
   rintro T w ⟨m,V⟩
   exact this T w ⟨m,V.freeze (aW lb)⟩
  ·exact o.no
 ·split at o
  ·split at o
   ·rename_i ld lc U
    have:=qv (l:=l) (ops:=ops) (Q:=Q) q (py U) L o O
    rintro T w ⟨m,V⟩
    exact this T w ⟨m,Ui V lc⟩
   ·exact o.no
  ·exact qv q Z L o O
 ·exact qv q Z L o O
structure qg(cx:bx)(ops:Array Oper)(V:Nat)(r:al)(q:Type)(W:q->List Oper->af->Prop)(N:q->af->Prop)(en:af->List Oper->Option (af×List Oper))(step:pU P G al)(dc:List Oper->af->Option (af×List ak×List Prop)):Prop where
 nil:∀i st,N i st->W i [] st
 norm:∀i st st' o bs ap,st.norm o bs ap=some st'->N i st'->N i st
 mB:∀i l st st' o bs ap,st.norm o bs ap=some st'->W i l st'->W i l st
 step:∀i aa l st h L (k:eE P G al),dR ops st aa=some true->cm L->bv (step st aa h L k) r->(∀st' h' O,cm O->bv (k st' h' O) r->W i l st')->W i (aa::l) st
 undef:∀i aa l st,dR ops st aa=some false->(match aa.dst with
  |some d=>Nat.blt d V=true/\W i l (st.put d .undef)
  |none=>W i l st)->W i (aa::l) st
 join:∀i n l st (A:Type) (F:A->Prop) (S:A->af),(∀a,F a->W i (l.drop n) (S a))->(∀R,(∀a,F a->N R (S a))->W R (l.take n) st)->W i l st
 en:∀i l st st' U,en st l=some (st',U)->W i U st'->W i l st
 dc:∀i m l st s,dc (l.take m) st=some (s,[],[])->W i (l.drop m) s->W i l st
theorem qW{dc:List Oper->af->Option (af×List ak×List Prop)}{l:List Oper}{st:af}{gs d:Nat}{b:Bool}{s:af}{x:Bool}(h:nl dc l st gs b d=some (s,x)):
  ∃o,dc l (fH st gs b)=some (o,[],[])/\o.norm (d::cI (del (gP st gs).ab d)) (cI st.ad) (cI st.rw)=some s:=by
 unfold nl at h
 split at h
 ·rename_i o q
  split at h
  ·split at h
   ·rename_i O L
    cases h
    exact⟨o,q,L⟩
   ·cases h
  ·cases h
 ·cases h
theorem xM{r:al}{q:List ga}{S:eW q->af}{L:eW q->Option al}(o:bv (ma q S L st) r):∃z,st.norm (cI (S z).ab) (cI (S z).ad) (cI (S z).rw)=some (S z)/\L z=some r:=by
 unfold ma at o
 split at o
 ·rename_i z _
  obtain⟨O,o⟩:=o.eqs
  exact⟨z,O,o.den⟩
 ·exact o.no
theorem L0{r:al}{q:af}{d:Nat}{L:Bool->Option al}(o:bv (o9 q d L st) r):∃v,st.norm (d::cI (del q.ab d)) (cI q.ad) (cI q.rw)=some (q.put d (.val .bool v))/\L v=some r:=by
 unfold o9 at o
 split at o
 ·rename_i v _
  obtain⟨O,o⟩:=o.eqs
  exact⟨v,O,o.den⟩
 ·exact o.no
theorem fq{lx:Nat}{r:al}{lj:Type}{W:lj->List Oper->af->Prop}{N:lj->af->Prop}{en:af->List Oper->Option (af×List Oper)}{step:pU P G al}{dc:List Oper->af->Option (af×List ak×List Prop)}
  (X:qg cx ops lx r lj W N en step dc):∀(n:Nat) {i:lj} {l:List Oper} {st:af} {h:aZ P G al} {lh:List cf} {K:eE P G al},(∀st' h' Z,cm Z->bv (K st' h' Z) r->N i st')->cm lh->
   bv (fj lx en step dc ops n l st h lh K) r->W i l st:=by
 intro n
 induction n with
 |zero=>intro i l st h lh K _ _ o;exact o.no
 |succ n O=>
  intro i l st h lh K Y R o
  unfold fj at o
  split at o
  ·exact X.nil i st (Y _ _ _ R o)
  ·rename_i aa l
   have ly:∀(m U:Nat) (b:Bool) (i:lj),fH st U b=st->(∀ll,b=ll->W i ((aa::l).take (m+1)) (fH st U ll))->W i ((aa::l).take (m+1)) st:=fun m U b i q la=>q▸la b rfl
   split at o
   ·rename_i lz
    split at o
    ·rename_i st' lC lD
     exact X.en i _ st st' lC lD (O Y R o)
    ·exact X.step i aa l st h lh _ (py lz) R o fun st' h' Z lm lb=>O Y lm lb
   ·rename_i g lz
    split at o
    ·rename_i m h'
     split at o
     ·rename_i U b d ln aj
      split at o
      ·rename_i lE lF lG lH lo lp
       obtain⟨q,lq⟩:=o.eqs
       obtain⟨lc,lr⟩:=lq.eqs
       obtain⟨ld,ls⟩:=lr.eqs
       have lc:=Option.some.inj lc
       have ld:=Option.some.inj ld
       have lk:=O (i:=i) Y R ls
       have q:=Option.some.inj q
       cases b with
       |true=>
        obtain⟨le,L,V⟩:=qW lo
        refine X.dc i (m+1) (aa::l) st le (by rw[q]at L;exact L) ?_
        exact X.mB i _ _ _ _ _ _ V (lc▸lk)
       |false=>
        obtain⟨le,L,V⟩:=qW lp
        refine X.dc i (m+1) (aa::l) st le (by rw[q]at L;exact L) ?_
        exact X.mB i _ _ _ _ _ _ V (ld▸lk)
      ·exact o.no
     ·exact o.no
    ·rename_i m li lA
     split at o
     ·rename_i U b d ln aj
      split at o
      ·rename_i lE lF lG lH lo lp
       obtain⟨q,lq⟩:=o.eqs
       obtain⟨lc,lr⟩:=lq.eqs
       obtain⟨ld,ls⟩:=lr.eqs
       have lc:=Option.some.inj lc
       have ld:=Option.some.inj ld
       obtain⟨la,lI⟩:=ls.fb
       have lk:=O (i:=i) Y cm.nil (la _ lI.den)
       have q:=Option.some.inj q
       cases b with
       |true=>
        obtain⟨le,L,V⟩:=qW lo
        refine X.dc i (m+1) (aa::l) st le (by rw[q]at L;exact L) ?_
        exact X.mB i _ _ _ _ _ _ V (lc▸lk)
       |false=>
        obtain⟨le,L,V⟩:=qW lp
        refine X.dc i (m+1) (aa::l) st le (by rw[q]at L;exact L) ?_
        exact X.mB i _ _ _ _ _ _ V (ld▸lk)
      ·exact o.no
     ·exact o.no
    ·rename_i m li lJ lK lA
     split at o
     ·rename_i U b d ln aj
      obtain⟨q,o⟩:=o.eqs
      obtain⟨la,o⟩:=o.fb
      have q:=Option.some.inj q
      refine X.join i (m+1) (aa::l) st Bool (fun v=>li v=some r) (fun v=>(gP st U).put d (.val .bool v)) (fun v lt=>O Y cm.nil (la v lt)) fun lf lu=>?_
      have fin:∀st' (h':aZ P G al) (Z:List cf),cm Z->bv (o9 (gP st U) d li st') r->N lf st':=fun st' _ _ _ lb=>by
       obtain⟨v,L,V⟩:=L0 lb
       exact X.norm lf _ _ _ _ _ L (lu v V)
      refine ly m U b lf q fun ll lv=>?_
      subst lv
      rcases o.ite with ⟨e,lg⟩|⟨e,lg⟩
      ·rw[e];exact O fin R lg
      ·rw[e];exact O fin R lg
     ·exact o.no
    ·rename_i m lB S li lJ lK lA
     split at o
     ·rename_i U b ln
      obtain⟨q,o⟩:=o.eqs
      obtain⟨la,o⟩:=o.fb
      have q:=Option.some.inj q
      refine X.join i (m+1) (aa::l) st (eW lB) (fun v=>li v=some r) (S st) (fun v lt=>O Y cm.nil (la v lt)) fun lf lu=>?_
      have fin:∀st' (h':aZ P G al) (Z:List cf),cm Z->bv (ma lB (S st) li st') r->N lf st':=fun st' _ _ _ lb=>by
       obtain⟨v,L,V⟩:=xM lb
       exact X.norm lf _ _ _ _ _ L (lu v V)
      refine ly m U b lf q fun ll lv=>?_
      subst lv
      rcases o.ite with ⟨e,lg⟩|⟨e,lg⟩
      ·rw[e];exact O fin R lg
      ·rw[e];exact O fin R lg
     ·exact o.no
    ·split at o
     ·rename_i lw
      exact X.step i aa l st _ lh _ lw R o fun st' h' Z lm lb=>O Y lm lb
     ·rename_i lw
      refine X.undef i aa l st lw ?_
      split at o
      ·rename_i d aj
       split at o
       ·rename_i lL
        try rw[aj]
        exact⟨lL,O Y R o⟩
       ·exact o.no
      ·rename_i aj
       try rw[aj]
       exact O Y R o
     ·exact o.no
theorem ns{o:List (aD P G)}{q:Nat}(L:br (b8 P G q o) cx)(r:al):qg cx ops q r cB (fun Q l st=>bH cx ops Q l st) (fun Q st=>N cx Q .normal st) (qM (b8 P G q o)) (o5 o (b8 P G q o)) (fun l st=>eX (b8 P G q o) ops l st []) where
 nil:=fun _ _ h=>jh h
 norm:=fun _ _ _ _ _ _ O h=>h.norm O
 mB:=fun _ _ _ _ _ _ _ O h=>h.norm O
 step:=fun _ _ _ _ _ _ _ R U V W=>Dm L R U V W
 undef:=fun Q aa l st R h=>by
  split at h
  ·rename_i d aj
   refine oZ L 1 (orc:=[]) (ob:=[]) ?_ trivial h.2
   show eX _ ops [aa] st []=_
   unfold eX
   rw[R]
   simp only[aj,show Nat.blt d (b8 P G q o).n=true from h.1,eX]
  ·rename_i aj
   refine oZ L 1 (orc:=[]) (ob:=[]) ?_ trivial h
   show eX _ ops [aa] st []=_
   unfold eX
   rw[R]
   simp only[aj,eX]
 join:=fun _ n _ _ _ F S Y Z=>yW F S n Y fun h=>Z _ h
 en:=fun _ _ _ _ _ la h=>Lf L la h
 dc:=fun _ m _ _ _ O h=>oZ L m O trivial h
theorem j9{L:List (aD P G)}{O:Nat}(Y:br (b8 P G O L) cx)(r:al):qg cx ops O r (World->Act->Prop) (fun K l st=>mq cx ops K l st) (fun K st=>nA cx K st) (fun _ _=>none) (AI L (b8 P G O L)) (fun l st=>fz (b8 P G O L) ops l st []) where
 nil:=fun _ _ h=>PK h
 norm:=fun _ _ _ _ _ _ R h=>fun T w q=>h T w (q.norm R)
 mB:=fun _ _ _ _ _ _ _ R h=>fun T w q=>h T w (q.norm R)
 step:=fun K aa l st h ll k W la o lb=>by
  unfold AI at o
  split at o
  ·rename_i d aj
   split at o
   ·rename_i lc
    obtain⟨orc,ps,h',lm,ld,le,o⟩:=iw (orc:=[]) (ps:=[]) _ la trivial o
    unfold HD at o
    split at o
    ·rename_i aM ob Z
     obtain⟨e,lf⟩:=o.eL
     intro T w q
     have lg:=lb _ _ _ le lf
     have:=kN (P:=cx.P) (ops:=ops) (l1:=[aa]) (l2:=l) (C:=Ext w) (Q':=K w) (a:=⟨T,ah.D cx⟩)
      (kj Y (l:=[aa]) (orc:=orc) (orc':=[]) (ob:=ob++[]) q (by unfold fz;rw[W];simp only[aj,Z,lc,fz]) (by rw[List.append_nil,e];exact ld) fun U V=>lg U w V)
     exact this
    ·exact o.no
   ·exact o.no
  ·exact o.no
 undef:=fun K aa l st W h=>by
  intro T w q
  have key:∀st',fz (b8 P G O L) ops [aa] st []=some (st',[],[])->mq cx ops K l st'->wpQuiet cx.P ops (Ext w) (K w) (aa::l) ⟨T,ah.D cx⟩:=fun st' Z lh=>
   kN (P:=cx.P) (ops:=ops) (l1:=[aa]) (l2:=l) (kj Y q Z trivial fun U V=>lh U w V)
  split at h
  ·rename_i d aj
   refine key (st.put d .undef) ?_ h.2
   unfold fz
   rw[W]
   simp only[aj,show Nat.blt d (b8 P G O L).n=true from h.1,fz]
  ·rename_i aj
   refine key st ?_ h
   unfold fz
   rw[W]
   simp only[aj,fz]
 en:=fun _ _ _ _ _ li _=>by cases li
 join:=fun _ n _ _ _ F S lj lk=>SY F S n lj fun K h=>lk K h
 dc:=fun K m l st s R h=>by
  intro T w q
  have:=kN (P:=cx.P) (ops:=ops) (l1:=l.take m) (l2:=l.drop m) (kj Y q R trivial fun U V=>h U w V)
  rwa [List.take_append_drop]at this
theorem rG{L:List (aD P G)}{O:Nat}(U:br (b8 P G O L) cx)(r:al):qg cx ops O r (World->Act->Prop) (fun K l st=>kR cx ops K l st) (fun K st=>nA cx K st) (fun _ _=>none) (Ce L (b8 P G O L)) (fun _ _=>none) where
 nil:=fun _ _ h=>O1 h
 norm:=fun _ _ _ _ _ _ q h=>fun T w V=>h T w (V.norm q)
 mB:=fun _ _ _ _ _ _ _ q h=>fun T w V=>h T w (V.norm q)
 step:=fun K aa l st h lj k R W o Y=>by
  unfold Ce at o
  split at o
  ·rename_i d aj
   split at o
   ·rename_i Z
    obtain⟨orc,ps,h',lk,la,lb,o⟩:=iw (orc:=[]) (ps:=[]) _ W trivial o
    unfold Gs at o
    split at o
    ·rename_i aM ob lc
     split at o
     ·rename_i ld
      obtain⟨e,le⟩:=o.eL
      have lf:=Y _ _ _ lb le
      exact B2 U (orc:=orc) (ob:=ob++[]) (by unfold gM;rw[R];simp only[aj,lc,Z,ld,gM]) (by rw[List.append_nil,e];exact la) lf
     ·exact o.no
    ·exact o.no
   ·exact o.no
  ·exact o.no
 undef:=fun K aa l st R h=>by
  split at h
  ·rename_i d aj
   refine B2 U (orc:=[]) (ob:=[]) (st':=st.put d .undef) ?_ trivial h.2
   unfold gM
   rw[R]
   simp only[aj,show Nat.blt d (b8 P G O L).n=true from h.1,gM]
  ·rename_i aj
   refine B2 U (orc:=[]) (ob:=[]) (st':=st) ?_ trivial h
   unfold gM
   rw[R]
   simp only[aj,gM]
 en:=fun _ _ _ _ _ lg _=>by cases lg
 join:=fun _ n _ _ _ F S lh li=>Pd F S n lh fun K h=>li K h
 dc:=fun _ _ _ _ _ q _=>by cases q
theorem QQ{W:List (aD P G)}{lc:Nat}(Y:br (b8 P G lc W) cx){r:al}{aa:Oper}{d:Nat}{orc:List ak}{ps:List Prop}{Z:List Nat}{K:eE P G al}(le:gK aa=true)(lf:bJ ps)(lg:∀st' h' R,cm R->bv (K st' h' R) r->N cx Q .normal st'):
  ∀(L:List Nat) {st:af} {h:aZ P G al} {U:List cf},cm U->bv (oF W (b8 P G lc W) ops aa d orc ps Z K L st h U) r->∀T w,Ev.al cx st T w->h8 cx.P ops (dk Q) aa d Z L ⟨T,ah.D cx⟩ w:=by
 intro L
 induction L with
 |nil=>
  intro st h U la o T w O
  unfold oF kF at o
  unfold h8
  refine fq (ns Y r) 5000 (i:=dk Q) ?_ la o T w O
  exact fun st' h' R lb q T w O=>⟨rfl,lg _ _ _ lb q T w O⟩
 |cons c L lh=>
  intro st h U la o T w O
  unfold oF at o
  split at o
  case h_2=>exact o.no
  rename_i lq li
  split at o
  case h_2=>exact o.no
  rename_i lj
  refine tP li (Dm (ops:=ops) (l:=[]) (Q:=gV cx ops aa d Z L Q) Y lj la o fun st' h' R lb q=>?_) O
  split at q
  case h_2=>exact q.no
  rename_i lr aM lk ll
  split at q
  case h_2=>exact q.no
  rename_i aj
  obtain⟨V,lm⟩:=q.eqs
  obtain⟨ln,lo⟩:=lm.eL
  have V:=Option.some.inj V
  simp only[af.mk.injEq,List.cons.injEq,Prod.mk.injEq,and_true,true_and]at V
  subst V
  exact jh fun lp w' ld=>⟨rfl,wP Y ld le lk (ln▸lf) ll aj,lh lb lo lp w' ld⟩
theorem Ml{L:List (aD P G)}{U:Nat}(V:br (b8 P G U L) cx){r:al}{K:eE P G al}{w0:World}(W:∀st' h' O,cm O->bv (K st' h' O) r->N cx Q .normal st'):
  ∀(C:List Nat) {st:af} {h:aZ P G al} {q:List cf},cm q->bv (tn L (b8 P G U L) ops K C st h q) r->∀T w,Ev.al cx st T w->Ext w0 w->h9 cx.P ops (dk Q) (Ext w0) (bB ops C) ⟨T,ah.D cx⟩ w:=by
 intro C
 induction C with
 |nil=>
  intro st h q R o T w Y lh
  exact⟨rfl,W _ _ _ R o T w Y⟩
 |cons c C Z=>
  intro st h q R o
  unfold tn at o
  split at o
  case h_2=>exact o.no
  rename_i aa la
  split at o
  case h_2=>exact o.no
  rename_i d lb aj
  split at o
  case h_2=>exact o.no
  rename_i lc
  obtain⟨orc,ps,h',O,ld,le,o⟩:=iw (orc:=[]) (ps:=[]) _ R trivial o
  dsimp only at o
  split at o
  case h_2=>exact o.no
  rename_i aM orc' ob lf
  obtain⟨e,lg⟩:=o.eL
  unfold bB
  rw[la]
  exact L7 V lb aj lc lf (e▸ld) (Z le lg)
theorem QC{id:Nat}{l:List Oper}(n:Nat)(o:cx.P.follows .mixedOrders=true)(q:Region.lexTailB .any l.toArray n=true)
  (h:mq cx l.toArray (fun w a=>∀w',Ext w w'->wpList cx.P l.toArray Q (l.drop n) a w') (l.take n) st):W cx Q (.region id l.toArray true) st:=by
 intro T w L
 exact Lh (C:=Ext w) n o q (Ext.refl w).drew (h T w L)
theorem HK{h:aZ P G al}{s:af}{e:Exit}(o:oR h st=some s)(q:N cx Q e s):N cx Q e st:=by
 unfold oR at o
 split at o
 ·exact Fk _ _ _ _ o q
 ·cases o;exact q
theorem GW{r:al}{a:af->bo al}{K:jg P G al}{Q':Act->World->Prop}(L:∀st,bv (a st) r->N cx (Exit.then Q' Q) .normal st)(O:∀e st h o,cm o->bv (K e st h o) r->N cx Q e st):
  ∀e st h o,cm o->bv (ends a K e st h o) r->N cx (Exit.then Q' Q) e st:=by
 intro e st h o R q
 cases e with
 |normal=>
  unfold ends at q
  dsimp only at q
  split at q
  ·rename_i s U
   exact HK U (L s q)
  ·exact q.no
 |_=>exact O _ st h o R q
/-! Regions gone through in any order. -/
theorem Nl{o:List (Nat×eK P G)}{n:Nat}{v:eK P G}(h:oM o n=some v):∃k,(k,v)∈o:=by
 induction o with
 |nil=>cases h
 |cons p r L=>
  obtain⟨k,u⟩:=p
  unfold oM at h
  cases q:Nat.beq k n with
  |true=>rw[q]at h;cases h;exact⟨k,List.mem_cons_self⟩
  |false=>
   rw[q]at h
   obtain⟨k',O⟩:=L h
   exact⟨k',List.mem_cons_of_mem _ O⟩
theorem pX{r:al}{aa:Oper}{K:af->aZ P G al->List cf->eK P G->bo al}{q:ew}{h:aZ P G al}{O:List cf}{orc:List ak}(R:cm O)(o:bv (eh q h O orc [] (mA E st aa K)) r):
  ∃st' h' L cS,cm L/\mj cS/\bv (K st' h' L cS) r:=by
 obtain⟨orc,ps,h',L,U,V,o⟩:=iw (ps:=[]) _ R trivial o
 unfold mA at o
 split at o
 ·exact⟨_,_,_,.aa orc ps,V,U,o⟩
 ·exact o.no
theorem Nj{s:af}{z:Option Nat}(h:pH st z=some s)(o:bH cx ops Q l s):bH cx ops Q l st:=by
 unfold pH at h
 split at h
 ·cases h;exact o
 ·split at h
  ·rename_i c q
   cases h
   rintro T w ⟨m,L⟩
   exact o T w ⟨m,L.freeze (aW q)⟩
  ·cases h
theorem Di{r:al}{aa:Oper}{z:Option Nat}{h:aZ P G al}{L:List cf}{K:af->aZ P G al->List cf->eK P G->bo al}(R:cm L)(o:bv (ra E st aa z h L K) r):
  ∃st' h' O cS,cm O/\mj cS/\bv (K st' h' O cS) r:=by
 unfold ra at o
 split at o
 ·rename_i α Y U ρ ρ' Z
  split at o
  ·split at o
   ·split at o
    ·obtain⟨_,V⟩:=o.eqs
     obtain⟨y,W,q⟩:=V.ask
     split at q
     ·exact⟨_,_,_,.b z U ρ ρ' _ y,R,W,q⟩
     ·exact q.no
    ·exact o.no
   ·exact o.no
  ·exact o.no
 ·exact o.no
theorem Lm{R:List (aD P G)}{r:al}{aa:Oper}{h:aZ P G al}{L:List cf}{K:af->aZ P G al->List cf->eK P G->bo al}(q:cm L)(o:bv (wC R E st aa h L K) r):
  ∃st' h' O cS,cm O/\mj cS/\bv (K st' h' O cS) r:=by
 unfold wC at o
 split at o
 ·exact Di q o
 ·exact Di q o
 ·split at o
  ·split at o
   ·exact pX q o
   ·exact pX q o
  ·split at o
   ·split at o
    ·exact pX q o
    ·exact pX q o
   ·exact pX q o
theorem IH{Y:List (aD P G)}{r:al}{K:aZ P G al->List cf->List (Nat×eK P G)->bo al}:∀(is:List Nat) {st:af} {h:aZ P G al} {q:List cf} {L:List (Nat×eK P G)},cm q->(∀p∈L,mj p.2)->
  bv (rg Y E ops is st h q L K) r->∃h' O W,cm O/\(∀p∈W,mj p.2)/\bv (K h' O W) r
 |[],st,h,q,L,R,U,o=>⟨h,q,L,R,U,o⟩
 |i::is,st,h,q,L,R,U,o=>by
  unfold rg at o
  split at o
  ·obtain⟨st',h',O,cS,Z,la,o⟩:=Lm R o
   refine IH is Z (fun p V=>?_) o
   rcases List.mem_cons.1 V with rfl|V
   ·exact la
   ·exact U p V
  ·exact o.no
theorem Pv{O:List (aD P G)}{R:Nat}(U:br (b8 P G R O) cx){r:al}{s t:af}{aa:Oper}{rest:bo al}{cS:eK P G}(V:mj cS)(W:aa.guard=none)(o:bv (yf (b8 P G R O) s aa t rest cS) r):nZ cx ops aa s t/\bv rest r:=by
 unfold yf at o
 split at o
 ·split at o
  ·rename_i Z ob la
   obtain⟨q,o⟩:=o.eqs
   obtain⟨lb,o⟩:=o.eL
   exact⟨fun Q L=>rD U (py W) la (lb▸V) (jh (L.norm q)),o⟩
  ·exact o.no
 ·rename_i z α lg Y ρ ρ' x y
  split at o
  ·rename_i lh lc
   split at o
   ·rename_i li Z ld le
    obtain⟨lf,o⟩:=o.eqs
    obtain⟨q,o⟩:=o.eqs
    exact⟨fun Q L=>Nj lc (vz U Y.ok x y (Y.rel x y V) rfl (py W) (ld.trans lf) le (jh (L.norm q))),o⟩
   ·exact o.no
  ·exact o.no
theorem GY{L:List (aD P G)}{O:Nat}(U:br (b8 P G O L) cx){r:al}{R:List (Nat×eK P G)}{st:af}{rest:bo al}(V:∀p∈R,mj p.2):∀(l:List (List Nat×Nat)),bv (rJ (b8 P G O L) ops R st l rest) r->
  (∀p∈l,∃aa s W,ops[p.2]? =some aa/\mG (b8 P G O L) ops R st p.1=some s/\mG (b8 P G O L) ops R st (ko p.2 p.1)=some W/\nZ cx ops aa s W)/\bv rest r
 |[],o=>⟨fun p q=>(by cases q),o⟩
 |(lf,i)::l,o=>by
  unfold rJ at o
  split at o
  ·rename_i s t aa cS Y Z la lb
   split at o
   ·rename_i lc
    obtain⟨k,ld⟩:=Nl lb
    obtain⟨le,o⟩:=Pv (ops:=ops) U (V _ ld) lc o
    obtain⟨i1,i2⟩:=GY U V l o
    refine⟨fun p q=>?_,i2⟩
    rcases List.mem_cons.1 q with rfl|q
    ·exact⟨aa,s,t,la,Y,Z,le⟩
    ·exact i1 p q
   ·exact o.no
  ·exact o.no
theorem S8{q:List (aD P G)}{L:Nat}(R:br (b8 P G L q) cx){r:al}{id:Nat}{Z:List (List Nat)}{h:aZ P G al}{U:List cf}{K:eE P G al}{Q:cB}
  (la:∀st' h' O,cm O->bv (K st' h' O) r->N cx Q .normal st')(lb:cm U)(o:bv (tA q (b8 P G L q) ops Z st h U K) r):W cx Q (.region id ops true) st:=by
 unfold tA at o
 split at o
 ·rename_i lc ld
  obtain⟨h',O,le,lf,lg,o⟩:=IH _ lb (fun p lh=>(by cases lh)) o
  split at o
  ·rename_i t li
   obtain⟨lj,lk⟩:=GY (cx:=cx) R lg _ o
   refine L4 (by rw[R.P];exact lc) ld (S:=mG (b8 P G L q) ops le st) (fun V ll i lm=>?_) rfl fun s Y=>?_
   ·exact lj (V,i) (List.mem_flatMap.2 ⟨V,ll,List.mem_map.2 ⟨i,lm,rfl⟩⟩)
   ·rw[li]at Y
    cases Y
    exact la _ _ _ lf lk
  ·exact o.no
 ·exact o.no
theorem tU{lh:List (aD P G)}{lk:Nat}(q:br (b8 P G lk lh) cx){r:al}{id:Nat}{ops:Array Oper}{draw:Bool}{st:af}{h:aZ P G al}{ll:List cf}{K:jg P G al}{Q:cB}
  (lq:∀e st' h' V,cm V->bv (K e st' h' V) r->N cx Q e st')(lb:cm ll)(R:bv (pp lh (b8 P G lk lh) ops draw st h ll K) r):W cx Q (.region id ops draw) st:=by
 obtain⟨l⟩:=ops
 unfold pp at R
 have lc:∀st' h' V,cm V->bv (K .normal st' h' V) r->N cx Q .normal st':=fun _ _ _=>lq _ _ _ _
 split at R
 ·exact aT (fq (ns q r) 5000 (i:=Q) lc lb R)
 ·split at R
  ·rename_i m h'
   split at R
   ·rename_i Z la
    refine QC m (by rw[q.P];exact Z) la ?_
    refine fq (j9 q r) 5000 (i:=fun w a=>∀w',Ext w w'->wpList cx.P l.toArray Q (l.drop m) a w') ?_ lb R
    intro st' h' V L o T w U w' Y
    exact fq (ns q r) 5000 (i:=Q) lc L o T w' (U.ext Y)
   ·exact R.no
  ·rename_i a b c h'
   split at R
   ·rename_i Z la ld
    refine R4 (Q:=Q) a b c (by rw[q.P];exact Z) la (Nat.eq_of_beq_eq_true ld) ?_
    refine fq (rG q r) 5000 (i:=fun w O=>wpQuiet cx.P l.toArray (Ext w) (fun O=>∀w',Ext w w'->wpList cx.P l.toArray (dk Q) (bB l.toArray c) O w') (bB l.toArray b) O) ?_ lb R
    intro st' h' V L o T w U
    refine fq (j9 q r) 5000 (i:=fun w O=>∀w',Ext w w'->wpList cx.P l.toArray (dk Q) (bB l.toArray c) O w') ?_ L o T w U
    intro st' h' V L o T w U w' Y
    refine fq (ns q r) 5000 (i:=dk Q) ?_ L o T w' (U.ext Y)
    intro st' h' V L o T w U
    exact⟨rfl,lc _ _ _ L o T w U⟩
   ·exact R.no
  ·rename_i a b i c c2 h'
   split at R
   case h_2=>exact R.no
   rename_i aa lr
   split at R
   case h_2=>exact R.no
   rename_i d aj ls li Z la
   rw[aj]at li
   simp only[Bool.and_eq_true,Bool.not_eq_true',Option.getD_some]at li
   obtain⟨lm,lt,ln,ld⟩:=li
   refine Ek (Q:=Q) q a b i c c2 Z la (Nat.eq_of_beq_eq_true ld) lr aj ls lt ln ?_
   refine fq (rG q r) 5000 (i:=fun w O=>wpQuiet cx.P l.toArray (Ext w) (fun O=>∀w',Ext w w'->d<O.tmps.size/\∃v,(execOp O.eval aa).run cx.P w'=.ok (.value v) w'/\h8 cx.P l.toArray (dk Q) aa d c2 c (O.put aa.dst v) w') (bB l.toArray b) O) ?_ lb R
   intro st' h' V L o T w U
   refine fq (j9 q r) 5000 (i:=fun w O=>∀w',Ext w w'->d<O.tmps.size/\∃v,(execOp O.eval aa).run cx.P w'=.ok (.value v) w'/\h8 cx.P l.toArray (dk Q) aa d c2 c (O.put aa.dst v) w') ?_ L o T w U
   intro st' h' V L o T w U w' Y
   unfold Do at o
   obtain⟨orc,ps,h',V,lo,L,o⟩:=iw (orc:=[]) (ps:=[]) _ L trivial o
   dsimp only at o
   split at o
   case h_2=>exact o.no
   rename_i lz lj
   obtain⟨e,o⟩:=o.eL
   have lp:d<cx.n:=by rw[q.n];exact cw ln
   obtain⟨m,le⟩:=U.ext Y
   obtain⟨v,lu,lv⟩:=tu q le lm lj (e▸lo)
   refine⟨by rw[le.size];exact lp,v,lu w' (Ext.refl w'),?_⟩
   rw[aj]
   exact QQ q lm lo lc c L o _ _ ⟨m,le.put lp lv⟩
  ·rename_i a b c2 c3 lw c5 lx h'
   split at R
   case h_2=>exact R.no
   rename_i C Z la ld ly
   refine Uh (Q:=Q) q a b c2 c3 lw c5 lx Z la (Nat.eq_of_beq_eq_true ld) ly ?_
   refine fq (rG q r) 5000 (i:=fun w O=>wpQuiet cx.P l.toArray (Ext w) (fun O=>∀w',Ext w w'->∃v2 v3 v4 v5 lf lg,nW cx.P (dk Q) C O w' v2 v3 v4 v5 lf lg) (bB l.toArray b) O) ?_ lb R
   intro st' h' V L o T w U
   refine fq (j9 q r) 5000 (i:=fun w O=>∀w',Ext w w'->∃v2 v3 v4 v5 lf lg,nW cx.P (dk Q) C O w' v2 v3 v4 v5 lf lg) ?_ L o T w U
   intro st' h' V L o T w U w' Y
   split at o
   case h_2=>exact o.no
   rename_i lA lj
   obtain⟨m,le⟩:=U.ext Y
   obtain⟨v2,v3,v4,v5,lf,lg,F⟩:=OX q le lj
   exact⟨v2,v3,v4,v5,lf,lg,F (lc _ _ _ L o)⟩
  ·rename_i a b c d h'
   split at R
   case h_2=>exact R.no
   rename_i Z la ld
   refine MG (Q:=Q) a b c d (by rw[q.P];exact Z) la (Nat.eq_of_beq_eq_true ld) ?_
   refine fq (rG q r) 5000 (i:=fun w O=>wpQuiet cx.P l.toArray (Ext w) (fun O=>∀w',Ext w w'->wpList cx.P l.toArray (pQ cx l.toArray d Q) (bB l.toArray c) O w') (bB l.toArray b) O) ?_ lb R
   intro st' h' V L o T w U
   refine fq (j9 q r) 5000 (i:=fun w O=>∀w',Ext w w'->wpList cx.P l.toArray (pQ cx l.toArray d Q) (bB l.toArray c) O w') ?_ L o T w U
   intro st' h' V L o T w U w' Y
   refine fq (ns q r) 5000 (i:=pQ cx l.toArray d Q) ?_ L o T w' (U.ext Y)
   intro st' h' V L o T w U
   refine⟨rfl,?_⟩
   refine fq (j9 q r) 5000 (i:=fun w a=>∀w',Ext w w'->dk Q .normal a w') ?_ L o T w U
   intro st' h' V L o T w U w' Y
   exact⟨rfl,lc _ _ _ L o T w' (U.ext Y)⟩
  ·rename_i b c h'
   split at R
   case h_2=>exact R.no
   rename_i Z la ld
   refine PV (Q:=Q) b c (by rw[q.P];exact Z) la (Nat.eq_of_beq_eq_true ld) ?_
   refine fq (j9 q r) 5000 (i:=fun w O=>∀w',Ext w w'->h9 cx.P l.toArray (dk Q) (Ext w) (bB l.toArray c) O w') ?_ lb R
   intro st' h' V L o T w U w' Y
   exact Ml q lc c L o T w' (U.ext Y) Y
  ·rename_i lB h'
   exact S8 q lc lb R
  ·split at R
   ·rename_i Z la
    refine zI q Z la ?_
    refine fq (j9 q r) 5000 (i:=fun w a=>∀w',Ext w w'->Q .normal a w') ?_ lb R
    intro st' h' V L o T w U w' Y
    exact lc _ _ _ L o T w' (U.ext Y)
   ·exact R.no
theorem od{lf:List (aD P G)}{lk:Nat}(lg:br (b8 P G lk lf) cx){r:al}:∀(c:Code) {st:af} {h:aZ P G al} {R:List cf} {K:jg P G al} {Q:cB},
  (∀e st' h' Z,cm Z->bv (K e st' h' Z) r->N cx Q e st')->cm R->bv (run lf (b8 P G lk lf) c st h R K) r->W cx Q c st:=by
 intro c
 induction c with
 |skip=>intro st h R K Q q L o;exact dn (q _ _ _ _ L o)
 |exit id=>intro st h R K Q q L o;exact jS (q _ _ _ _ L o)
 |ret=>intro st h R K Q q L o;exact eF (q _ _ _ _ L o)
 |block id c lh=>
  intro st h R K Q q L o
  refine fy (lh ?_ L o)
  intro e st' h' Z V O
  split at O
  ·exact iH (q _ _ _ _ V O)
  ·exact fD (q _ _ _ _ V O)
  ·rename_i i
   split at O
   ·rename_i la
    have la:=Nat.eq_of_beq_eq_true la
    subst la
    exact jK (q _ _ _ _ V O)
   ·rename_i la
    exact Se la (q _ _ _ _ V O)
  ·exact O.no
 |seq x y lb lc=>
  intro st h R K Q q L o
  unfold run at o
  split at o
  ·rename_i le S lm lt lu
   obtain⟨ll,U⟩:=o.fb
   refine jH (α:=eW le) (fun z=>lm z=some r) (S st) (fun z ld=>lc q cm.nil (ll z ld)) fun ln=>?_
   refine lb (GW (fun st' O=>?_) q) L U
   obtain⟨z,li,lj⟩:=xM O
   exact(ln z lj).norm li
  ·refine aG (lb ?_ L o)
   intro e st' h' Z V O
   cases e with
   |normal=>exact aH (lc q V O)
   |_=>exact q _ st' h' Z V O
 |cond c x y lb lc=>
  intro st h R K Q q L o
  unfold run at o
  split at o
  ·rename_i b Y
   split at o
   ·obtain⟨e,U⟩:=o.iv
    exact dg Y (fun _=>lb q L U) fun h=>by rw[e]at h;cases h
   ·obtain⟨e,U⟩:=o.iv
    exact dg Y (fun h=>by rw[e]at h;cases h) fun _=>lc q L U
   ·rcases o.ite with ⟨e,U⟩|⟨e,U⟩
    ·exact dg Y (fun _=>lb q L U) fun h=>by rw[e]at h;cases h
    ·exact dg Y (fun h=>by rw[e]at h;cases h) fun _=>lc q L U
  ·exact o.no
 |loop c lh=>
  intro st h R K Q q L o
  unfold run at o
  split at o
  ·rename_i le S F k ll
   split at o
   ·rename_i z0 lv
    obtain⟨lo,lp,U⟩:=o.gz
    obtain⟨e,lq⟩:=U.eqs
    refine W.norm (js (fun n z=>F n z=some r) (S st) ?_ lq.den) e
    intro n z ld
    cases n with
    |zero=>rw[lo]at ld;cases ld
    |succ n=>
     refine lh (GW (fun st' O=>?_) q) cm.nil (lp n z ld)
     obtain⟨lr,li,lj⟩:=xM O
     exact(iy (F:=fun n z=>F n z=some r) lr (Nat.lt_succ_self n) lj).norm li
   ·exact o.no
  ·exact o.no
 |region id ops lw=>
  intro st h R K Q q L o
  unfold run at o
  split at o
  ·rename_i lx h'
   split at o
   ·rename_i c Y
    rintro T w ⟨m,ls⟩
    exact tU lg q L o T w ⟨m,ls.freeze (aW Y)⟩
   ·exact o.no
  ·split at o
   ·rename_i st' le
    exact W.norm (tU lg q L o) le
   ·exact o.no
  ·exact tU lg q L o
 |_=>intro st h R K Q q L o;exact o.no
def G0{α:Type}(b:Bool)(aa:Option α):Option α:=bif b then aa else none
theorem SB{α:Type}{b:Bool}{aa:Option α}{y:α}(h:G0 b aa=some y):b=true/\aa=some y:=by
 cases b with
 |true=>exact⟨rfl,h⟩
 |false=>cases h
/-! Results of a wider shape. -/
def iS:(t:ag)->ak->Option t.el
 |.ck,v=>match v with
  |⟨.cy _ _,_⟩=>some ()
  |⟨.err,_⟩=>some ()
  |v=>v.as .ck
 |.alt n u r,v=>match v.as (.alt n u r)with
  |some y=>some y
  |none=>match v with
   |⟨.cy o q,y⟩=>match Nat.beq o n,ak.as ⟨q,y⟩ u with
    |true,some z=>some (.inl z)
    |_,_=>match iS r ⟨.cy o q,y⟩with
     |some z=>some (.inr z)
     |none=>none
   |v=>match v.t.agg,iS r v with
    |false,some z=>some (.inr z)
    |_,_=>none
 |t,v=>v.as t
theorem vU{w:World}{M:Nat->Prop}{u:Value}:∀(t:ag) {v:ak} {y:t.el},iS t v=some y->bc w M u v.t v.x->bc w M u t y:=by
 have L:∀(t:ag) {v:ak} {y:t.el},v.as t=some y->bc w M u v.t v.x->bc w M u t y:=by
  intro t v y h o
  have e:=ak.cO h
  subst e
  exact o
 have one:∀{t:ag} {x:t.el},t.agg=false->bc w M u t x->u.oneCell'=true:=fun U o=>gh _ ((bA U).1 o) _ List.mem_cons_self
 intro t
 induction t with
 |ck=>
  intro v y h o
  unfold iS at h
  split at h
  ·exact(bA (t:=.ck) rfl).2 ⟨u,rfl,one rfl o⟩
  ·exact(bA (t:=.ck) rfl).2 ⟨u,rfl,one rfl o⟩
  ·exact L _ h o
 |alt n a r le V=>
  intro v y h o
  have key:∀{v:ak} {z:r.el},v.t.agg=false->iS r v=some z->bc w M u v.t v.x->bc w M u (.alt n a r) (.inr z):=by
   intro v z W q o
   have Y:=V q o
   refine(bA (t:=.alt n a r) rfl).2 ⟨rfl,?_⟩
   have:=iI Y
   have Z:=one W o
   have la:u.cells.toList=[u]:=by cases u<;>first|rfl|(simp[Value.oneCell']at Z)
   rw[la]at this
   exact this
  unfold iS at h
  split at h
  ·rename_i lf lb
   cases h
   exact L _ lb o
  ·split at h
   ·rename_i lg lh li
    split at h
    ·rename_i z O q
     cases h
     have O:=Nat.eq_of_beq_eq_true O
     subst O
     have e:=ak.cO q
     cases e
     obtain⟨v0,R,lc⟩:=(bA (t:=.cy _ _) rfl).1 o
     simp only[List.cons.injEq,and_true]at R
     subst R
     exact(bA (t:=.alt _ _ r) rfl).2 ⟨v0,rfl,lc⟩
    ·split at h
     ·rename_i z q
      cases h
      exact key rfl q o
     ·cases h
   ·split at h
    ·rename_i z ld q
     cases h
     exact key ld q o
    ·cases h
 |_=>intro v y h o;exact L _ h o
def gF:(us:List ag)->List ak->Option (cC us)
 |[],vs=>match vs with
  |[]=>some ()
  |_=>none
 |[t],vs=>match vs with
  |[v]=>iS t v
  |_=>none
 |t::u::us,vs=>match vs with
  |v::vs=>match iS t v,gF (u::us) vs with
   |some x,some y=>some (x,y)
   |_,_=>none
  |[]=>none
theorem H7{w:World}{M:Nat->Prop}:∀(us:List ag) {ap:List ak} {y:cC us} {vs:List Value},gF us ap=some y->dB w M vs ap->dB w M vs (dp us y)
 |[],ap,y,vs,h,q=>by
  unfold gF at h
  split at h
  ·exact q
  ·cases h
 |[t],ap,y,vs,h,q=>by
  match ap,h with
  |[v],h=>
   match vs,q with
   |[u],⟨o,L⟩=>exact⟨vU t (show iS t v=some y from h) o,L⟩
   |[],o=>exact o.elim
   |_::_::_,⟨_,o⟩=>exact o.elim
  |[],h=>cases h
  |_::_::_,h=>cases h
 |t::u::us,ap,y,vs,h,q=>by
  unfold gF at h
  split at h
  ·rename_i v U
   split at h
   ·rename_i a b o L
    cases h
    match vs,q with
    |v0::vs,⟨O,R⟩=>exact⟨vU t o O,H7 (u::us) L R⟩
    |[],o=>exact o.elim
   ·cases h
  ·cases h
theorem EQ{w:World}{M:Nat->Prop}{v:Value}:∀(us:List ag) {ap:List ak} {y:cC us},gF us ap=some y->iT w M v ap->iT w M v (dp us y)
 |[],ap,y,h,o=>trivial
 |[t],ap,y,h,o=>by
  match ap,h,o with
  |[u],h,o=>exact vU t (show iS t u=some y from h) o
  |[],h,_=>cases h
  |_::_::_,h,_=>cases h
 |t::u::us,ap,y,h,o=>by
  match ap,h,o with
  |a::b::ap,h,⟨vs,e,o⟩=>
   have q:=H7 (t::u::us) h o
   match us,y,q with
   |[],y,q=>exact⟨vs,e,q⟩
   |_::_,y,q=>exact⟨vs,e,q⟩
  |[],h,_=>cases h
  |[a],h,_=>
   exfalso
   have L:gF (u::us) []=none:=by cases us<;>rfl
   unfold gF at h
   simp only[L]at h
   split at h
   ·rename_i O q
    cases q
   ·cases h
theorem Cj{P:Program}{n:Nat}{M:Nat->Prop}{w0:World}{fn:Func}{ap:List ak}{e:Exit}{us:List ag}{y:cC us}{m0:Nat->Value}(R:e=.ret\/e=.normal)(V:gn P (iR st) fn.results.toList=some ap)(U:gF us ap=some y):
  N ⟨P,n,w0,M,fun _=>False,m0⟩ (oG P fn M w0 (dp us y)) e st:=by
 intro T w W
 have h:=ro (M:=M) (w0:=w0) (n:=n) R V T w W
 rcases R with rfl|rfl
 ·obtain⟨o,v,q,v',e,L,O⟩:=h
  exact⟨o,v,q,v',e,EQ us U L,O⟩
 ·obtain⟨o,v,q,v',e,L,O⟩:=h
  exact⟨o,v,q,v',e,EQ us U L,O⟩
/-! Contracts. -/
def Rb(o:Program)(q:List ResultVar)(cu:List ag):jg P G (cC cu):=fun e st _ _=>
 match e with
 |.ret=>match gn o (iR st) q with
  |some ap=>.ret (gF cu ap)
  |none=>.ret none
 |.normal=>match gn o (iR st) q with
  |some ap=>.ret (gF cu ap)
  |none=>.ret none
 |_=>.ret none
def ny(P:Program)(G:World->Prop)(n:Nat)(o:List (aD P G))(c:Code)(q:List ResultVar)(F:aQ)(h:cC F.eC->aZ P G (cC F.cu))(x:cC F.eC):bo (cC F.cu):=
 run o (b8 P G n o) c ⟨jM 0 (dp F.eC x),[],[]⟩ (h x) [] (Rb P q F.cu)
theorem ia{F:aQ}{o ap:List ak}(h:F.aS.rel o ap):∃x y,o=dp F.eC x/\ap=dp F.cu y/\F.fn x=some y:=by
 have h:(match gj F.eC o,gj F.cu ap with
  |some x,some y=>F.fn x=some y
  |_,_=>False):=h
 split at h
 ·rename_i x y q L
  exact⟨x,y,yG _ _ _ q,yG _ _ _ L,h⟩
 ·exact h.elim
theorem bh{P:Program}{G:World->Prop}(U:∀w w',Frame w w' (fun _=>False)->G w->G w'){f:FuncId}{fn:Func}{c:Code}(V:P.funcs[f]? =some fn)(W:(fn.name== "runtime.NumGoroutine")=false)(Y:fn.body=some c)
  {n:Nat}(R:fn.ntmps=n)(F:aQ)(aj:Nat.ble F.eC.length n=true)(q:List (aD P G))(h:cC F.eC->aZ P G (cC F.cu))
  (Z:(fun x=>((ny P G n q c fn.results.toList F h x).dN,(ny P G n q c fn.results.toList F h x).den))=fun x=>((ny P G n q c fn.results.toList F h x).dO,F.fn x)):aR P G f F.aS:=by
 refine wj U V W Y ?_ ?_
 ·intro la ap h
  obtain⟨x,y,rfl,rfl,_⟩:=ia h
  refine⟨by rw[iW,R];exact Nat.le_of_ble_eq_true aj,iW _ _,fun lb u lc=>?_⟩
  exact List.all_eq_true.1 lb _ (nI _ _ u lc)
 ·intro w0 M la ap ld h
  obtain⟨x,y,rfl,rfl,le⟩:=ia h
  have lf:br (b8 P G n q) ⟨P,fn.ntmps,w0,M,fun _=>False,fun _=>undef⟩:=gU rfl R ld
  have O:=congrFun Z x
  simp only[Prod.mk.injEq]at O
  refine od lf c (r:=y) ?_ cm.nil ⟨bo.fZ _ O.1,O.2.trans le⟩
  intro e st' h' li _ o
  have key:∀L,(L=.ret\/L=.normal)->bv (match gn P (iR st') fn.results.toList with
    |some ap=>bo.ret (gF F.cu ap)
    |none=>.ret none) y->N ⟨P,fn.ntmps,w0,M,fun _=>False,fun _=>undef⟩ (oG P fn M w0 (dp F.cu y)) L st':=by
   intro L lg o
   split at o
   ·rename_i ap lh
    exact Cj lg lh o.den
   ·exact o.no
  cases e with
  |ret=>exact key _ (.inl rfl) o
  |normal=>exact key _ (.inr rfl) o
  |_=>exact o.no
theorem Ou{P:Program}{G:World->Prop}(Y:∀w w',Frame w w' (fun _=>False)->G w->G w'){f:FuncId}{fn:Func}{c:Code}(Z:P.funcs[f]? =some fn)(la:(fn.name== "runtime.NumGoroutine")=false)(lb:fn.body=some c)
  {n:Nat}(V:fn.ntmps=n)(F:aQ)(aj:Nat.ble F.eC.length n=true)(q:List (aD P G))(R:List ag)(L:cC R->cC F.eC)(W:cC R->Option (cC F.cu))(lc:∀z y,F.fn z=some y->∃x,L x=z/\W x=some y)(h:cC R->aZ P G (cC F.cu))
  (ld:(fun x=>((ny P G n q c fn.results.toList F (fun _=>h x) (L x)).dN,(ny P G n q c fn.results.toList F (fun _=>h x) (L x)).den))=fun x=>((ny P G n q c fn.results.toList F (fun _=>h x) (L x)).dO,W x)):aR P G f F.aS:=by
 refine wj Y Z la lb ?_ ?_
 ·intro le ap h
  obtain⟨x,y,rfl,rfl,_⟩:=ia h
  refine⟨by rw[iW,V];exact Nat.le_of_ble_eq_true aj,iW _ _,fun lf u lg=>?_⟩
  exact List.all_eq_true.1 lf _ (nI _ _ u lg)
 ·intro w0 M le ap lh li
  obtain⟨z,y,rfl,rfl,lj⟩:=ia li
  obtain⟨x,rfl,lk⟩:=lc z y lj
  have ll:br (b8 P G n q) ⟨P,fn.ntmps,w0,M,fun _=>False,fun _=>undef⟩:=gU rfl V lh
  have U:=congrFun ld x
  simp only[Prod.mk.injEq]at U
  refine od ll c (r:=y) ?_ cm.nil ⟨bo.fZ _ U.1,U.2.trans lk⟩
  intro e st' h' lo _ o
  have key:∀O,(O=.ret\/O=.normal)->bv (match gn P (iR st') fn.results.toList with
    |some ap=>bo.ret (gF F.cu ap)
    |none=>.ret none) y->N ⟨P,fn.ntmps,w0,M,fun _=>False,fun _=>undef⟩ (oG P fn M w0 (dp F.cu y)) O st':=by
   intro O lm o
   split at o
   ·rename_i ap ln
    exact Cj lm ln o.den
   ·exact o.no
  cases e with
  |ret=>exact key _ (.inl rfl) o
  |normal=>exact key _ (.inr rfl) o
  |_=>exact o.no
theorem vP{P:Program}{G:World->Prop}{f:FuncId}{fn:Func}{c:Code}(q:P.funcs[f]? =some fn)(L:(fn.name== "runtime.NumGoroutine")=false)(O:fn.body=some c)(F:aQ)(h:∀x,F.fn x=none):aR P G f F.aS where
 enters:=enters_of q L O
 shape:=fun R ap o=>by
  obtain⟨x,y,_,_,e⟩:=ia o
  rw[h]at e
  cases e
 calls:=fun w M vs R ap _ _ o=>by
  obtain⟨x,y,_,_,e⟩:=ia o
  rw[h]at e
  cases e
/-! Contracts of functions that change what their caller owns. -/
def mK:Nat->List ao->List (Nat×ao)
 |_,[]=>[]
 |k,s::l=>(k,s)::mK (k+1) l
def Cx{α o:Type}(q:Program)(L:List ResultVar)(F:bP α o)(O:af->Option o)(bs R:List Nat)(x:α)(st:af):bo o:=
 match mf q st L,st.norm [] bs R with
 |some ap,some s=>match O ⟨mK 0 ap,s.ad,s.rw⟩with
  |some y=>.eqs (some ⟨mK 0 ap,s.ad,s.rw⟩) (some ⟨mK 0 (F.ap x y),(F.bE x y).ad,(F.bE x y).rw⟩) (.eqs (some s) (some (F.bE x y)) (.ret (some y)))
  |none=>.ret none
 |_,_=>.ret none
def Pk{α o:Type}(q:Program)(L:List ResultVar)(F:bP α o)(O:af->Option o)(bs R:List Nat)(x:α):jg P G o:=fun e st h _=>
 let t:=match oR h st with
  |some st=>Cx q L F O bs R x st
  |none=>.ret none
 match e with
 |.ret=>t
 |.normal=>t
 |_=>.ret none
theorem E4:∀{k:Nat} {a b:List ao},mK k a=mK k b->a=b
 |_,[],[],_=>rfl
 |_,[],_::_,h=>by cases h
 |_,_::_,[],h=>by cases h
 |k,x::a,y::b,h=>by
  simp only[mK,List.cons.injEq,Prod.mk.injEq,true_and]at h
  rw[h.1,E4 h.2]
def jr(P:Program)(G:World->Prop){α o:Type}(q:List (aD P G))(c:Code)(L:List ResultVar)(F:bP α o)(O:af->Option o)(bs R:List Nat)(h:α->aZ P G o)(x:α):bo o:=
 run q (b8 P G F.n q) c (F.S x) (h x) [] (Pk P L F O bs R x)
theorem Gz{P:Program}{G:World->Prop}{fn:Func}{c:Code}{α L:Type}
  (F:bP α L)(O:List (aD P G))(Z:α->Option L)(lb:∀x y,F.rel x y->Z x=some y)(R:af->Option L)(bs q:List Nat)(h:α->aZ P G L)
  (lc:(fun x=>((jr P G O c fn.results.toList F R bs q h x).dN,(jr P G O c fn.results.toList F R bs q h x).den))=fun x=>((jr P G O c fn.results.toList F R bs q h x).dO,Z x)):
  ∀cx:bx,cx.P=P->cx.n=F.n->(∀w,Frame cx.w0 w cx.X->G w)->∀x y,F.rel x y->W cx (nT cx.P fn cx (F.bE x y) (F.ap x y)) c (F.S x):=by
 intro cx la ld le x y lf
 have lg:br (b8 P G F.n O) cx:=gU la ld le
 have Y:=congrFun lc x
 simp only[Prod.mk.injEq]at Y
 refine od lg c (r:=y) ?_ cm.nil ⟨bo.fZ _ Y.1,Y.2.trans (lb x y lf)⟩
 intro e st' h' lp _ o
 have key:∀U,(U=.ret\/U=.normal)->bv (match oR h' st' with
   |some st'=>Cx P fn.results.toList F R bs q x st'
   |none=>.ret none) y->N cx (nT cx.P fn cx (F.bE x y) (F.ap x y)) U st':=by
  intro U lh o
  split at o
  ·rename_i lq li
   refine HK li ?_
   unfold Cx at o
   split at o
   ·rename_i ap s lj lk
    split at o
    ·obtain⟨V,ll⟩:=o.eqs
     obtain⟨lm,ln⟩:=ll.eqs
     have lo:=Option.some.inj ln.den
     subst lo
     have V:=Option.some.inj V
     simp only[af.mk.injEq]at V
     exact eV la bs q lh (by rw[lj,E4 V.1]) (by rw[lk,Option.some.inj lm])
    ·exact o.no
   ·exact o.no
  ·exact o.no
 cases e with
 |ret=>exact key _ (.inl rfl) o
 |normal=>exact key _ (.inr rfl) o
 |_=>exact o.no
theorem de{P:Program}{G:World->Prop}{f:FuncId}{fn:Func}{c:Code}{α o:Type}(U:P.funcs[f]? =some fn)(V:(fn.name== "runtime.NumGoroutine")=false)(W:fn.body=some c)
  (F:bP α o)(Y:fn.ntmps=F.n)(q:List (aD P G))(R:α->Option o)(Z:∀x y,F.rel x y->R x=some y)(L:af->Option o)(bs O:List Nat)(h:α->aZ P G o)
  (la:(fun x=>((jr P G q c fn.results.toList F L bs O h x).dN,(jr P G q c fn.results.toList F L bs O h x).den))=fun x=>((jr P G q c fn.results.toList F L bs O h x).dO,R x)):bZ P G f F:=
 mh U V W Y (Gz F q R Z L bs O h la)
theorem JY{F:aQ}{fn:Func}{n:Nat}(q:fn.ntmps=n)(aj:Nat.ble F.eC.length n=true):∀o ap,F.aS.rel o ap->o.length<=fn.ntmps/\ap.length=F.aS.gf/\(F.aS.flat=true->∀u∈ap,u.t.flat=true):=by
 intro o ap h
 obtain⟨x,y,rfl,rfl,_⟩:=ia h
 exact⟨by rw[iW,q];exact Nat.le_of_ble_eq_true aj,iW _ _,fun L u O=>List.all_eq_true.1 L _ (nI _ _ u O)⟩
theorem NQ{P:Program}{G:World->Prop}{f:Nat}{C:ip}(h:aR P G f C)(F:aQ)(q:∀x y,F.fn x=some y->C.rel (dp F.eC x) (dp F.cu y)):aR P G f F.aS where
 enters:=h.enters
 shape:=fun L ap o=>by
  obtain⟨x,y,rfl,rfl,_⟩:=ia o
  exact⟨iW _ _,fun O u R=>List.all_eq_true.1 O _ (nI _ _ u R)⟩
 calls:=fun w M vs L ap U V o=>by
  obtain⟨x,y,rfl,rfl,e⟩:=ia o
  exact h.calls w M vs _ _ U V (q x y e)
theorem zS{P:Program}{G:World->Prop}{f:FuncId}{fn:Func}{c:Code}{α o:Type}(q:P.funcs[f]? =some fn)(L:(fn.name== "runtime.NumGoroutine")=false)(O:fn.body=some c)(F:bP α o)(h:∀x y,F.rel x y->False):bZ P G f F where
 enters:=enters_of q L O
 calls:=fun _ _ _ _ x y R=>(h x y R).elim
def rO{o:Type}(f:o):Unit->o:=fun _=>f
def bY{o q L:Type}(f:o->q->L):o×q->L:=fun z=>f z.1 z.2
def dh{o q L:Type}(g:o×q->L):o->q->L:=fun O R=>g (O,R)
def fK{o q L O:Type}(f:o->q->L->O):o×q×L->O:=fun z=>f z.1 z.2.1 z.2.2
def fW{o q L O:Type}(g:o×q×L->O):o->q->L->O:=fun R U V=>g (R,U,V)
def oW{o q L O R:Type}(f:o->q->L->O->R):o×q×L×O->R:=fun z=>f z.1 z.2.1 z.2.2.1 z.2.2.2
def qe{o q L O R:Type}(g:o×q×L×O->R):o->q->L->O->R:=fun U V W Y=>g (U,V,W,Y)
def JQ{o q L O R U:Type}(f:o->q->L->O->R->U):o×q×L×O×R->U:=fun z=>f z.1 z.2.1 z.2.2.1 z.2.2.2.1 z.2.2.2.2
def qS{o q L O R U:Type}(g:o×q×L×O×R->U):o->q->L->O->R->U:=fun V W Y Z la=>g (V,W,Y,Z,la)
def MN{o q L O R U V W Y:Type}(f:o->q->L->O->R->U->V->W->Y):o×q×L×O×R×U×V×W->Y:=fun z=>f z.1 z.2.1 z.2.2.1 z.2.2.2.1 z.2.2.2.2.1 z.2.2.2.2.2.1 z.2.2.2.2.2.2.1 z.2.2.2.2.2.2.2
def I3{o q L O R U V W Y:Type}(g:o×q×L×O×R×U×V×W->Y):o->q->L->O->R->U->V->W->Y:=fun Z la lb lc ld le lf lg=>g (Z,la,lb,lc,ld,le,lf,lg)
def MT{o q L O R U V W Y Z:Type}(f:o->q->L->O->R->U->V->W->Y->Z):o×q×L×O×R×U×V×W×Y->Z:=fun z=>f z.1 z.2.1 z.2.2.1 z.2.2.2.1 z.2.2.2.2.1 z.2.2.2.2.2.1 z.2.2.2.2.2.2.1 z.2.2.2.2.2.2.2.1 z.2.2.2.2.2.2.2.2
def Ry{o q L O R U V W Y Z:Type}(g:o×q×L×O×R×U×V×W×Y->Z):o->q->L->O->R->U->V->W->Y->Z:=fun la lb lc ld le lf lg lh li=>g (la,lb,lc,ld,le,lf,lg,lh,li)
def Tv{o q L O R U V W Y Z la lb:Type}(f:o->q->L->O->R->U->V->W->Y->Z->la->lb):o×q×L×O×R×U×V×W×Y×Z×la->lb:=fun z=>f z.1 z.2.1 z.2.2.1 z.2.2.2.1 z.2.2.2.2.1 z.2.2.2.2.2.1 z.2.2.2.2.2.2.1 z.2.2.2.2.2.2.2.1 z.2.2.2.2.2.2.2.2.1 z.2.2.2.2.2.2.2.2.2.1 z.2.2.2.2.2.2.2.2.2.2
def rV{o q L O R U V W Y Z la lb lc:Type}(f:o->q->L->O->R->U->V->W->Y->Z->la->lb->lc):o×q×L×O×R×U×V×W×Y×Z×la×lb->lc:=fun z=>f z.1 z.2.1 z.2.2.1 z.2.2.2.1 z.2.2.2.2.1 z.2.2.2.2.2.1 z.2.2.2.2.2.2.1 z.2.2.2.2.2.2.2.1 z.2.2.2.2.2.2.2.2.1 z.2.2.2.2.2.2.2.2.2.1 z.2.2.2.2.2.2.2.2.2.2.1 z.2.2.2.2.2.2.2.2.2.2.2
def zx{o q L O R U V W Y Z la lb lc:Type}(g:o×q×L×O×R×U×V×W×Y×Z×la×lb->lc):o->q->L->O->R->U->V->W->Y->Z->la->lb->lc:=fun ld le lf lg lh li lj lk ll lm ln lo=>g (ld,le,lf,lg,lh,li,lj,lk,ll,lm,ln,lo)
def Tx{o q L O R U V W Y Z la lb lc ld:Type}(f:o->q->L->O->R->U->V->W->Y->Z->la->lb->lc->ld):o×q×L×O×R×U×V×W×Y×Z×la×lb×lc->ld:=fun z=>f z.1 z.2.1 z.2.2.1 z.2.2.2.1 z.2.2.2.2.1 z.2.2.2.2.2.1 z.2.2.2.2.2.2.1 z.2.2.2.2.2.2.2.1 z.2.2.2.2.2.2.2.2.1 z.2.2.2.2.2.2.2.2.2.1 z.2.2.2.2.2.2.2.2.2.2.1 z.2.2.2.2.2.2.2.2.2.2.2.1 z.2.2.2.2.2.2.2.2.2.2.2.2
def OK{o q L O R U V W Y Z la lb lc ld:Type}(g:o×q×L×O×R×U×V×W×Y×Z×la×lb×lc->ld):o->q->L->O->R->U->V->W->Y->Z->la->lb->lc->ld:=fun le lf lg lh li lj lk ll lm ln lo lp lq=>g (le,lf,lg,lh,li,lj,lk,ll,lm,ln,lo,lp,lq)
def GH{o q L O R U V W Y Z la lb lc ld le:Type}(f:o->q->L->O->R->U->V->W->Y->Z->la->lb->lc->ld->le):o×q×L×O×R×U×V×W×Y×Z×la×lb×lc×ld->le:=fun z=>f z.1 z.2.1 z.2.2.1 z.2.2.2.1 z.2.2.2.2.1 z.2.2.2.2.2.1 z.2.2.2.2.2.2.1 z.2.2.2.2.2.2.2.1 z.2.2.2.2.2.2.2.2.1 z.2.2.2.2.2.2.2.2.2.1 z.2.2.2.2.2.2.2.2.2.2.1 z.2.2.2.2.2.2.2.2.2.2.2.1 z.2.2.2.2.2.2.2.2.2.2.2.2.1 z.2.2.2.2.2.2.2.2.2.2.2.2.2
def PX{o q L O R U V W Y Z la lb lc ld le lf:Type}(f:o->q->L->O->R->U->V->W->Y->Z->la->lb->lc->ld->le->lf):o×q×L×O×R×U×V×W×Y×Z×la×lb×lc×ld×le->lf:=fun z=>f z.1 z.2.1 z.2.2.1 z.2.2.2.1 z.2.2.2.2.1 z.2.2.2.2.2.1 z.2.2.2.2.2.2.1 z.2.2.2.2.2.2.2.1 z.2.2.2.2.2.2.2.2.1 z.2.2.2.2.2.2.2.2.2.1 z.2.2.2.2.2.2.2.2.2.2.1 z.2.2.2.2.2.2.2.2.2.2.2.1 z.2.2.2.2.2.2.2.2.2.2.2.2.1 z.2.2.2.2.2.2.2.2.2.2.2.2.2.1 z.2.2.2.2.2.2.2.2.2.2.2.2.2.2
def Jg{o q L O R U V W Y Z la lb lc ld le lf:Type}(g:o×q×L×O×R×U×V×W×Y×Z×la×lb×lc×ld×le->lf):o->q->L->O->R->U->V->W->Y->Z->la->lb->lc->ld->le->lf:=fun lg lh li lj lk ll lm ln lo lp lq lr ls lt lu=>g (lg,lh,li,lj,lk,ll,lm,ln,lo,lp,lq,lr,ls,lt,lu)
def TU{o q L O R U V W Y Z la lb lc ld le lf lg lh li lj:Type}(f:o->q->L->O->R->U->V->W->Y->Z->la->lb->lc->ld->le->lf->lg->lh->li->lj):o×q×L×O×R×U×V×W×Y×Z×la×lb×lc×ld×le×lf×lg×lh×li->lj:=fun z=>f z.1 z.2.1 z.2.2.1 z.2.2.2.1 z.2.2.2.2.1 z.2.2.2.2.2.1 z.2.2.2.2.2.2.1 z.2.2.2.2.2.2.2.1 z.2.2.2.2.2.2.2.2.1 z.2.2.2.2.2.2.2.2.2.1 z.2.2.2.2.2.2.2.2.2.2.1 z.2.2.2.2.2.2.2.2.2.2.2.1 z.2.2.2.2.2.2.2.2.2.2.2.2.1 z.2.2.2.2.2.2.2.2.2.2.2.2.2.1 z.2.2.2.2.2.2.2.2.2.2.2.2.2.2.1 z.2.2.2.2.2.2.2.2.2.2.2.2.2.2.2.1 z.2.2.2.2.2.2.2.2.2.2.2.2.2.2.2.2.1 z.2.2.2.2.2.2.2.2.2.2.2.2.2.2.2.2.2.1 z.2.2.2.2.2.2.2.2.2.2.2.2.2.2.2.2.2.2
def Tf{o q L O R U V W Y Z la lb lc ld le lf lg lh li lj:Type}(g:o×q×L×O×R×U×V×W×Y×Z×la×lb×lc×ld×le×lf×lg×lh×li->lj):o->q->L->O->R->U->V->W->Y->Z->la->lb->lc->ld->le->lf->lg->lh->li->lj:=fun lk ll lm ln lo lp lq lr ls lt lu lv lw lx ly lz lA lB lC=>g (lk,ll,lm,ln,lo,lp,lq,lr,ls,lt,lu,lv,lw,lx,ly,lz,lA,lB,lC)
end Go.Ev
namespace Go.Ev
open Go Go.RowKit
variable [bV]
variable {P:Program} {G:World->Prop}
variable {cx:bx} {m:Nat->Value} {st st':af} {T:Array Value} {w w':World} {E:Env}
theorem Rv{f:FuncId}{fn:Func}{c:Code}{α L:Type}{F:bP α L}(o:P.funcs[f]? =some fn)(O:(fn.name== "runtime.NumGoroutine")=false)(q:fn.body=some c)(R:fn.ntmps=F.n)
  (U:∀cx:bx,cx.P=P->cx.n=F.n->(∀w,Frame cx.w0 w cx.X->G w)->∀x y,F.rel x y->W cx (nT cx.P fn cx (F.bE x y) (F.ap x y)) c (F.S x)):pK P G f F where
 enters:=enters_of o O q
 calls:=fun cx V Y Z x y la vs w u _ h=>by
  subst V
  refine callsD_of_wp o q ?_
  rw[R]
  exact U cx rfl Y Z x y la _ _ h
theorem Ey{f:FuncId}{fn:Func}{c:Code}{α o:Type}(U:P.funcs[f]? =some fn)(V:(fn.name== "runtime.NumGoroutine")=false)(W:fn.body=some c)
  (F:bP α o)(Y:fn.ntmps=F.n)(q:List (aD P G))(R:α->Option o)(Z:∀x y,F.rel x y->R x=some y)(L:af->Option o)(bs O:List Nat)(h:α->aZ P G o)
  (la:(fun x=>((jr P G q c fn.results.toList F L bs O h x).dN,(jr P G q c fn.results.toList F L bs O h x).den))=fun x=>((jr P G q c fn.results.toList F L bs O h x).dO,R x)):pK P G f F:=
 Rv U V W Y (Gz F q R Z L bs O h la)
def af.Bh(st:af)(ρ:List (Nat×Nat)):Option af:=
 match nodupB (ρ.map (·.1)),nodupB (ρ.map (·.2)),nodupB (af.ids ⟨[],dF ρ st.ad ρ,dQ st.rw ρ⟩)with
 |true,true,true=>some ⟨st.ab.map fun p=>(p.1,p.2.bS ρ),dF ρ st.ad ρ,dQ st.rw ρ⟩
 |_,_,_=>none
theorem an.OR(h:an cx m st T w){ρ:List (Nat×Nat)}(W:st.Bh ρ=some st'):∃aA,an {cx with m0:=aA} aA st' T w:=by
 unfold af.Bh at W
 split at W
 case h_2=>cases W
 rename_i Y Z la
 cases W
 have Y:=fP Y
 have Z:=fP Z
 have la:=fP la
 obtain⟨aA,lj⟩:∃aA:Nat->Value,aA=fun j=>match inv ρ j with|some i=>m i|none=>undef:=⟨_,rfl⟩
 have q:∀i j,(i,j)∈ρ->aA j=m i:=by
  intro i j o
  rw[lj]
  simp only
  rw[mQ Z o]
 have lb:∀{j:Nat},j∈af.ids ⟨st.ab.map fun p=>(p.1,p.2.bS ρ),dF ρ st.ad ρ,dQ st.rw ρ⟩->∃i,(i,j)∈ρ/\i∈st.ids:=fun L=>pe L
 have lc:∀b,b<w.heap.size->ar {cx with m0:=aA} aA (af.ids ⟨st.ab.map fun p=>(p.1,p.2.bS ρ),dF ρ st.ad ρ,dQ st.rw ρ⟩) b->ar cx m st.ids b:=by
  rintro b _ (lk|⟨j,L,lf⟩)
  ·exact .inl lk
  ·obtain⟨i,o,O⟩:=lb L
   rw[q i j o]at lf
   exact .inr ⟨i,O,lf⟩
 have ld:∀b,b<w.heap.size->¬ar cx m st.ids b->w.heap[b]? =w.heap[b]? :=fun _ _ _=>rfl
 have lg:∀v s,aN w (ar cx m st.ids) m v s->aN w (ar {cx with m0:=aA} aA (af.ids ⟨st.ab.map fun p=>(p.1,p.2.bS ρ),dF ρ st.ad ρ,dQ st.rw ρ⟩)) aA v (s.bS ρ):=
  fun v s ll=>qH q (eN ld lc ll)
 refine⟨aA,{size:=h.size,frame:=h.frame,outer:=h.outer,cv:=?_,boxes:=?_,rows:=?_,apart:=?_,keys:=la,fixed:=fun _ _ _ _ _=>rfl,kept:=fun _ _ _ _ _=>rfl}⟩
 ·intro i aM O
  obtain⟨⟨j,s⟩,lm,ln⟩:=List.mem_map.1 O
  cases ln
  obtain⟨v,R,U⟩:=h.cv j s lm
  exact⟨v,R,lg v s U⟩
 ·intro j c' L
  obtain⟨i,c,o,O,rfl⟩:=jw L
  obtain⟨g,R,U,le⟩:=h.boxes i c O
  rw[q i j o]
  exact⟨g,iF.2 R,U,ii ld lc (gg R) (fun _ _=>rfl) lg le⟩
 ·intro j c L
  obtain⟨i,o,O⟩:=jU L
  obtain⟨cells,R,U,le⟩:=h.rows i c O
  exact⟨cells,by rw[q i j o];exact R,fun g V=>U g (by rw[q i j o]at V;exact V),cP (fun _ _=>cq ld lc c.t) le⟩
 ·intro lt lu lo lp lq g V lh
  obtain⟨i1,li,lr⟩:=lb lo
  obtain⟨i2,a2,ls⟩:=lb lp
  rw[q _ _ li]at V
  rw[q _ _ a2]at lh
  refine h.apart i1 i2 lr ls ?_ g V lh
  rintro rfl
  exact lq (rq Y li a2)
def pS(o:Nat)(st:af)(bs:List Nat):Bool:=bs.all fun b=>Nat.ble o b&&match look st.ad b with
 |some c=>c.one
 |none=>false
theorem zo(q:an cx m st T w):∀{bs:List Nat},pS cx.n st bs=true->bs.map m=bs.map cx.m0
 |[],_=>rfl
 |b::bs,h=>by
  unfold pS at h
  rw[List.all_cons,Bool.and_eq_true,Bool.and_eq_true]at h
  obtain⟨⟨L,o⟩,O⟩:=h
  split at o
  ·rename_i c R
   rw[List.map_cons,List.map_cons,q.fixed b c (aW R) o (Nat.le_of_ble_eq_true L),zo q O]
  ·cases o
def wa(st:af)(aa:Oper):Option (Nat×List Nat):=
 match aa.op,aa.guard,aa.dst with
 |.defer c,none,none=>match c.callee,c.args.toList with
  |.value x,[]=>match aO st x with
   |some (.clos f bs)=>some (f,bs)
   |_=>none
  |_,_=>none
 |_,_,_=>none
def kX(f:Nat)(m0:Nat->Value)(bs:List Nat):Deferred:={target:=.fn (.func f) (bs.map m0).toArray,args:=#[]}
theorem Pw(q:an cx m st T w){ops:Array Oper}{Q:cB}{aa:Oper}{f:Nat}{bs:List Nat}(aj:wa st aa=some (f,bs))(L:pS cx.n st bs=true)(h:Q .normal ⟨T,[kX f cx.m0 bs]⟩ w):
  wpList cx.P ops Q [aa] ⟨T,[]⟩ w:=by
 unfold wa at aj
 split at aj
 case h_2=>cases aj
 rename_i c O R U
 split at aj
 case h_2=>cases aj
 rename_i x V o
 split at aj
 case h_2=>cases aj
 rename_i ld le W
 cases aj
 have Y:Act.eval ⟨T,ah.D cx⟩ x=.func (.func f) #[] (bs.map m).toArray:=a8 q W
 have o:c.args=#[]:=by rw[<-Array.toArray_toList (xs:=c.args),o]
 refine wpList_step fun K Z=>?_
 have la:Region.wanted aa (yielded ops T)=true:=by unfold Region.wanted;rw[R]
 rw[la]
 simp only[if_true]
 unfold Oper.wp
 have lb:(execOp (Act.eval ⟨T,[]⟩) aa).run cx.P w=.ok (.defer (kX f cx.m0 bs)) w:=by
  have lc:Act.eval ⟨T,[]⟩ x=.func (.func f) #[] (bs.map m).toArray:=Y
  simp only[execOp,O,resolve,V,o,List.map_toArray,List.map_nil,lc,Deferred.ofValue,Sem.run_bind,Sem.run_pure,Result.andThen_ok,zo q L,kX]
  rfl
 rw[lb]
 show K (Act.put {tmps:=T,defers:=[kX f cx.m0 bs]} aa.dst undef) w
 rw[U]
 exact Z _ _ h
theorem Lj[ah cx]{o:Type}{r:o}{q:List (aD P G)}{L:Nat}(U:br (b8 P G L q) cx){ops:Array Oper}{Q:cB}{l:List Oper}{h:aZ P G o}{O:List cf}{K:eE P G o}
  (V:∀st' h' R,cm R->bv (K st' h' R) r->N cx Q .normal st')(W:cm O)(Y:bv (kF q (b8 P G L q) ops l st h O K) r):bH cx ops Q l st:=
 fq (ns U r) 5000 (i:=Q) V W Y
def rm(P:Program)(fn:Func)(M:Nat->Prop)(w0:World)(ap:List ak):cB:=
 bodyPostD P fn fun e w'=>∃v,e=.returned v/\iT w' M v ap/\Ext w0 w'
def HH{cu:List ag}(O:Program)(R:List ResultVar)(q f:Nat)(bs:List Nat)(st:af)(h:aZ P G (cC cu)):bo (cC cu):=
 match h with
 |.gy o ρ ρ'=>match pS q st bs&&(mR st bs&&Nat.beq o.f f),hU st o.F.n ρ (bs.map fun b=>ao.ptr b 0)with
  |true,some L=>match o.X L with
   |some x=>.eqs (some L) (some (o.F.S x)) (.ask (o.fn x) fun y=>match px st (o.F.bE x y) o.F.n q ρ ρ' with
    |some st'=>match gn O (iR st') R with
     |some ap=>.ret (gF cu ap)
     |none=>.ret none
    |none=>.ret none)
   |none=>.ret none
  |_,_=>.ret none
 |_=>.ret none
def sU{cu:List ag}(o:Program)(q:List ResultVar)(L f:Nat)(bs:List Nat)(st:af)(h:aZ P G (cC cu)):bo (cC cu):=HH o q L f bs (iR st) h
theorem GZ{cu:List ag}{fn:Func}{n:Nat}{M:Nat->Prop}{w0:World}{m0:Nat->Value}{f:Nat}{bs:List Nat}{h:aZ P G (cC cu)}{y:cC cu}{e:Exit}(W:e=.ret\/e=.normal)
  (Y:∀w,Frame w0 w (fun _=>False)->G w)(Z:bv (sU P fn.results.toList n f bs st h) y):
  @N _ ⟨P,n,w0,M,fun _=>False,m0⟩ ⟨[kX f m0 bs]⟩ (rm P fn M w0 (dp cu y)) e st:=by
 rintro T w ⟨m,la⟩
 have o:=Z
 unfold sU at o
 have q:=Bo (l:=st.ad) (Ai (l:=st.ad) (Ao (l:=st.rw) la))
 replace q:an _ m (iR st) T w:=q
 generalize iR st=st at o q
 have key:Leaves P fn T (fun e w'=>∃v,e=.returned v/\iT w' M v (dp cu y)/\Ext w0 w') [kX f m0 bs] .returning w:=by
  unfold HH at o
  split at o
  case h_2=>exact o.no
  rename_i L ρ ρ'
  split at o
  case h_2=>exact o.no
  rename_i lw V U
  rw[Bool.and_eq_true,Bool.and_eq_true]at V
  obtain⟨lb,lc,O⟩:=V
  have O:=Nat.eq_of_beq_eq_true O
  subst O
  split at o
  case h_2=>exact o.no
  rename_i x lx
  obtain⟨ld,le⟩:=o.eqs
  have lf:=Option.some.inj ld
  subst lf
  obtain⟨z,lg,R⟩:=le.ask
  split at R
  case h_2=>exact R.no
  rename_i ly lh
  split at R
  case h_2=>exact R.no
  rename_i ap li
  obtain⟨lj,lk⟩:=A6 U
  have ll:=oQ q lc
  have lm:=zj q U ll
  have ln:bs.map m=bs.map m0:=zo q lb
  have lo:(L.F.S x).ab.length=bs.length:=by rw[uo U,List.length_map]
  have lp:=L.ok.calls (sub ⟨P,n,w0,M,fun _=>False,m0⟩ m st w L.F.n ρ) rfl rfl (fun w' O=>Y w' (AH q O)) x z (L.rel x z lg) _ w .returning (by rw[lo,List.length_map]) ⟨_,lm⟩
  refine leaves_cons (f:=L.f) (args:=(bs.map m).toArray) (by intro lq;cases lq) ?_ ?_
  ·show(callFunc L.f (#[]++(bs.map m0).toArray)).run P w=_
   rw[<-ln,Array.empty_append]
   exact L.ok.enters _ _
  ·refine lp.mono ?_
   rintro e lz w' ⟨rfl,v,aA,lA,rfl,lr,_⟩
   obtain⟨m2,ls,_⟩:=zB q lj lk lr lh
   have lt:=Cj (M:=M) (w0:=w0) (n:=n) (m0:=m0) (e:=.ret) (.inl rfl) li R.den T w' ⟨m2,ls⟩
   obtain⟨_,v',lu,lv⟩:=lt
   exact⟨v',lu,lv⟩
 rcases W with rfl|rfl<;>exact key
def QG{cu:List ag}(o:Program)(q:List ResultVar)(L f:Nat)(bs:List Nat):jg P G (cC cu):=fun e st h _=>
 match e with
 |.ret=>sU o q L f bs st h
 |.normal=>sU o q L f bs st h
 |_=>.ret none
def o8(P:Program)(G:World->Prop)(n:Nat)(o:List (aD P G))(O:Code)(ops:Array Oper)(rest:Code)(R:List ResultVar)(F:aQ)(ρ:List (Nat×Nat))(h:cC F.eC->aZ P G (cC F.cu))(x:cC F.eC):bo (cC F.cu):=
 run o (b8 P G n o) O ⟨jM 0 (dp F.eC x),[],[]⟩ (h x) [] fun e st h q=>match e with
  |.normal=>match ops.toList.reverse with
   |aa::l=>kF o (b8 P G n o) ops l.reverse st h q fun st h q=>match st.Bh ρ with
    |some L=>match wa L aa with
     |some (f,bs)=>match pS n L bs with
      |true=>run o (b8 P G n o) rest L h q (QG P R n f bs)
      |false=>.ret none
     |none=>.ret none
    |none=>.ret none
   |[]=>.ret none
  |_=>.ret none
theorem HB(lh:∀w w',Frame w w' (fun _=>False)->G w->G w'){f:FuncId}{fn:Func}{o:Code}{id:Nat}{ops:Array Oper}{rest:Code}(Z:P.funcs[f]? =some fn)(li:(fn.name== "runtime.NumGoroutine")=false)(la:fn.body=some (.seq o (.seq (.region id ops false) rest)))
  {n:Nat}(lb:fn.ntmps=n)(F:aQ)(aj:Nat.ble F.eC.length n=true)(L:List (aD P G))(ρ:List (Nat×Nat))(h:cC F.eC->aZ P G (cC F.cu))
  (lj:(fun x=>((o8 P G n L o ops rest fn.results.toList F ρ h x).dN,(o8 P G n L o ops rest fn.results.toList F ρ h x).den))=fun x=>((o8 P G n L o ops rest fn.results.toList F ρ h x).dO,F.fn x)):aR P G f F.aS where
 enters:=enters_of Z li la
 shape:=fun lk ap h=>by
  obtain⟨x,y,rfl,rfl,_⟩:=ia h
  exact⟨iW _ _,fun ll u lm=>List.all_eq_true.1 ll _ (nI _ _ u lm)⟩
 calls:=fun w0 M vs lk ap ln lo lp lq=>by
  obtain⟨x,y,rfl,rfl,lr⟩:=ia lp
  have R:∀w,Frame w0 w (fun _=>False)->G w:=fun w' h=>lh w0 w' h ln
  refine calls_of_wp_defers Z la ?_
  have ls:(dp F.eC x).length<=fn.ntmps:=by rw[iW,lb];exact Nat.le_of_ble_eq_true aj
  have U:=congrFun lj x
  simp only[Prod.mk.injEq]at U
  have lc:bv (o8 P G n L o ops rest fn.results.toList F ρ h x) y:=⟨bo.fZ _ U.1,U.2.trans lr⟩
  subst lb
  have ld:br (b8 P G fn.ntmps L) ⟨P,fn.ntmps,w0,M,fun _=>False,fun _=>undef⟩:=gU rfl rfl R
  have lt:W ⟨P,fn.ntmps,w0,M,fun _=>False,fun _=>undef⟩ (rm P fn M w0 (dp F.cu y)) (.seq o (.seq (.region id ops false) rest)) ⟨jM 0 (dp F.eC x),[],[]⟩:=by
   refine aG ?_
   unfold o8 at lc
   refine od ld o ?_ cm.nil lc
   intro e lu lH lI lv O
   cases e with
   |normal=>
    refine aH (aG ?_)
    simp only at O
    split at O
    case h_2=>exact O.no
    rename_i aa l lw
    have lx:ops=(l.reverse++[aa]).toArray:=by
     have:ops.toList=l.reverse++[aa]:=by rw[<-List.reverse_reverse ops.toList,lw,List.reverse_cons]
     rw[<-this]
    have ly:bH ⟨P,fn.ntmps,w0,M,fun _=>False,fun _=>undef⟩ ops (Exit.then (rest.wp P (rm P fn M w0 (dp F.cu y))) (rm P fn M w0 (dp F.cu y))) (l.reverse++[aa]) lu:=by
     intro T w V
     refine p7 ?_
     refine Lj ld ?_ lv O T w V
     intro lJ lK lL lz q le lf lA
     show wpList P ops _ [aa] ⟨le,[]⟩ lf
     split at q
     case h_2=>exact q.no
     rename_i lM lB
     split at q
     case h_2=>exact q.no
     rename_i lC bs lD
     split at q
     case h_2=>exact q.no
     rename_i lE
     obtain⟨m2,lF⟩:=lA
     obtain⟨m3,lg⟩:=lF.OR lB
     refine Pw lg lD lE ?_
     have lG:br (b8 P G fn.ntmps L) ⟨P,fn.ntmps,w0,M,fun _=>False,m3⟩:=gU rfl rfl R
     letI lN:ah ⟨P,fn.ntmps,w0,M,fun _=>False,m3⟩:=⟨[kX lC m3 bs]⟩
     refine od lG (r:=y) rest ?_ lz q le lf ⟨m3,lg⟩
     intro e lO lP lQ _ Y
     cases e with
     |ret=>exact GZ (.inl rfl) R Y
     |normal=>exact GZ (.inr rfl) R Y
     |_=>exact Y.no
    intro T w V
    have:=ly T w V
    rw[lx]at this⊢
    exact wp_region_lit this
   |_=>exact O.no
  exact lt _ _ (entry lo lq ls)
end Go.Ev
namespace Go.Ev
open Go
set_option linter.unusedVariables false
def vQ(o:List UInt8)(q:(List UInt8)->Option (List UInt8))(t1:Bool):Option (List UInt8):=
 if t1 then
  (
   Option.bind (dD o (0:Int) (ai ((List.length o:Int)-(1:Int)))) fun L=>
   q L
  )
 else
  some (o)
def QH(L:Int)(q:(List UInt8)->Option (List UInt8))(o:List UInt8):Option (List UInt8):=
 if decide ((0:Int)<(List.length o:Int))then
  (
   Option.bind (fa o (ai ((List.length o:Int)-(1:Int)))) fun O=>
   vQ o q (O==L)
  )
 else
  vQ o q false
def xB(o:Int):Nat->(List UInt8)->Option (List UInt8)
 |0,_=>none
 |n+1,q=>QH o (xB o n) q
def Fv(k:Nat)(o:List UInt8)(q:Int):Option (List UInt8):=
 xB q k o
def Ab(o:List UInt8)(q:(List UInt8)->Option (List UInt8))(t1:Bool):Option (List UInt8):=
 if t1 then
  (
   Option.bind (dD o (1:Int) (o.length:Int)) fun L=>
   q L
  )
 else
  some (o)
def Mz(L:Int)(q:(List UInt8)->Option (List UInt8))(o:List UInt8):Option (List UInt8):=
 if decide ((0:Int)<(List.length o:Int))then
  (
   Option.bind (fa o (0:Int)) fun O=>
   Ab o q (O==L)
  )
 else
  Ab o q false
def vK(o:Int):Nat->(List UInt8)->Option (List UInt8)
 |0,_=>none
 |n+1,q=>Mz o (vK o n) q
def HE(k:Nat)(o:List UInt8)(q:Int):Option (List UInt8):=
 vK q k o
def Q7(L:List UInt8)(O:Int->(List (Bool))->Option (List (Bool)×Bool))(i1:Int)(q:List (Bool)):Option (List (Bool)×Bool):=
 if decide (i1<(List.length L:Int))then
  (
   Option.bind (fa L i1) fun o=>
   if decide ((128:Int)<=o)then
    some (q,false)
   else
    (
     Option.bind (aL (0<=o/\o<(256:Int))) fun _=>
     Option.bind (aq q o) fun R=>
     O (ai (i1+(1:Int))) (List.set q (o).toNat true)
    )
  )
 else
  some (q,true)
def CE(o:List UInt8):Nat->Int->(List (Bool))->Option (List (Bool)×Bool)
 |0,_,_=>none
 |n+1,i1,q=>Q7 o (CE o n) i1 q
def F8(k:Nat)(o:List UInt8):Option (List (Bool)×Bool):=
 CE o k (0:Int) (List.replicate 256 false)
def BM(k:Nat)(o:List (Bool))(q:Int):Option Bool:=
 Option.bind (aq o q) fun L=>
 some (L)
def AV(o:List UInt8):Option (List UInt8):=
 some (o)
def T6(k:Nat)(q:List (Bool))(L:(List UInt8)->Option (List UInt8))(o:List UInt8):Option (List UInt8):=
 if decide ((0:Int)<(List.length o:Int))then
  (
   Option.bind (fa o (ai ((List.length o:Int)-(1:Int)))) fun O=>
   Option.bind (BM k q O) fun v1=>
   if !v1 then
    AV o
   else
    (
     Option.bind (dD o (0:Int) (ai ((List.length o:Int)-(1:Int)))) fun R=>
     L R
    )
  )
 else
  AV o
def BX(k:Nat)(o:List (Bool)):Nat->(List UInt8)->Option (List UInt8)
 |0,_=>none
 |n+1,q=>T6 k o (BX k o n) q
def FR(k:Nat)(o:List UInt8)(q:List (Bool)):Option (List UInt8):=
 BX k q k o
def xC(o:List UInt8):Option (List UInt8):=
 some (o)
def RG(k:Nat)(q:List (Bool))(L:(List UInt8)->Option (List UInt8))(o:List UInt8):Option (List UInt8):=
 if decide ((0:Int)<(List.length o:Int))then
  (
   Option.bind (fa o (0:Int)) fun O=>
   Option.bind (BM k q O) fun v1=>
   if !v1 then
    xC o
   else
    (
     Option.bind (dD o (1:Int) (o.length:Int)) fun R=>
     L R
    )
  )
 else
  xC o
def BH(k:Nat)(o:List (Bool)):Nat->(List UInt8)->Option (List UInt8)
 |0,_=>none
 |n+1,q=>RG k o (BH k o n) q
def G2(k:Nat)(o:List UInt8)(q:List (Bool)):Option (List UInt8):=
 BH k q k o
def HI(k:Nat)(o:List UInt8)(q:List UInt8):Option (List UInt8):=
 none
def Fa(k:Nat)(o:List UInt8)(q:List UInt8):Option (List UInt8):=
 none
def xG(k:Nat)(o:List UInt8)(q:List UInt8)(t2:Bool):Option (List UInt8):=
 if t2 then
  (
   Option.bind (fa o (0:Int)) fun L=>
   Option.bind (Fv k q L) fun v1=>
   Option.bind (fa o (0:Int)) fun O=>
   Option.bind (HE k v1 O) fun v2=>
   some (v2)
  )
 else
  (
   Option.bind (F8 k o) fun v3=>
   if v3.2 then
    (
     Option.bind (FR k q v3.1) fun v4=>
     Option.bind (G2 k v4 v3.1) fun v5=>
     some (v5)
    )
   else
    (
     Option.bind (HI k q o) fun R=>
     Option.bind (Fa k R o) fun U=>
     some (U)
    )
  )
def Qe(k:Nat)(q:List UInt8)(o:List UInt8)(t1:Bool):Option (List UInt8):=
 if t1 then
  some (q)
 else
  (
   if(List.length o:Int)==(1:Int)then
    (
     Option.bind (fa o (0:Int)) fun L=>
     xG k o q (decide (L<(128:Int)))
    )
   else
    xG k o q false
  )
def sn(k:Nat)(o:List UInt8)(q:List UInt8):Option (List UInt8):=
 Qe k o q ((o==([]:List UInt8))||(q==([]:List UInt8)))
def CD(t2:Bool):Option Bool:=
 some (t2)
def JJ(k:Nat)(o:List UInt8)(t1:Bool):Option Bool:=
 if t1 then
  (
   Option.bind (sn k o ([97,98,99,100,101,102,103,104,105,106,107,108,109,110,111,112,113,114,115,116,117,118,119,120,121,122]:List UInt8)) fun v1=>
   CD (v1==([]:List UInt8))
  )
 else
  CD false
def GP(k:Nat)(o:List UInt8):Option Bool:=
 JJ k o ((!(o==([]:List UInt8)))&&(decide ((List.length o:Int)<=(32:Int))))
def ph(t2:Bool):Option Bool:=
 if t2 then
  some (false)
 else
  some (true)
def Ad(o:Int)(t1:Bool):Option Bool:=
 if t1 then
  some (true)
 else
  (
   if decide (o<(161:Int))then
    ph (decide (o<(161:Int)))
   else
    (
     if decide ((1114111:Int)<o)then
      ph (decide ((1114111:Int)<o))
     else
      (
       if o==(65533:Int)then
        ph (o==(65533:Int))
       else
        (
         Option.bind (aL (0<=(11:Int))) fun _=>
         ph ((Int.fdiv o (2^min ((11:Int)).toNat 32))==(27:Int))
        )
      )
    )
  )
def KR(o:Int)(t4:Bool):Option Bool:=
 Ad o t4
def PN(o:Int)(t3:Bool):Option Bool:=
 if t3 then
  Ad o t3
 else
  KR o (decide ((65:Int)<=o)&&(decide (o<=(90:Int))))
def Ic(k:Nat)(o:Int):Option Bool:=
 PN o (decide ((97:Int)<=o)&&(decide (o<=(122:Int))))
def N3(t1:Bool):Option Bool:=
 some (t1)
def pm(k:Nat)(o:aB)(q:Int)(L:Int):Option Bool:=
 Option.bind (aL (0<=(List.length o.1:Int))) fun _=>
 N3 (((Int.fdiv (dt (BitVec.toNat (BitVec.ofInt 32 q|||BitVec.ofInt 32 L))) (2^min ((List.length o.1:Int)).toNat 32))==(0:Int))&&((dt (BitVec.toNat (BitVec.ofInt 32 q&&&BitVec.ofInt 32 L)))==(0:Int)))
def MK(o:Int->bK->Option Int)(t3:Int)(m1:List bu)(q:List UInt8)(t4:Bool):Option Int:=
 if t4 then
  some ((7:Int))
 else
  o (ai (t3+(1:Int))) (cU (aV .str) m1 q true)
def uX(o:Int->(List (Int×Bool))->Option Int)(t5:Int)(m2:List (Int×Bool))(q:cz)(t7:Bool):Option Int:=
 if t7 then
  some ((7:Int))
 else
  o (ai (t5+(1:Int))) (cU (aV (.int .i32)) m2 q.1 true)
def Uf(k:Nat)(q:Int->(List (Int×Bool))->Option Int)(t5:Int)(m2:List (Int×Bool))(o:cz)(L:aB)(t6:Bool):Option Int:=
 if t6 then
  uX q t5 m2 o true
 else
  (
   Option.bind (pm k (L.1,L.2.1,()) o.2.1 o.2.2.1) fun v3=>
   uX q t5 m2 o (!v3)
  )
def O8(k:Nat)(o:aB)(L:Int->(List (Int×Bool))->Option Int)(t5:Int)(m2:List (Int×Bool)):Option Int:=
 if decide (t5<(List.length o.2.1:Int))then
  (
   Option.bind (aq o.2.1 t5) fun q=>
   Option.bind (Ic k q.1) fun v2=>
   Uf k L t5 m2 q o ((!v2)||((cD (aV (.int .i32)) m2 q.1).getD false))
  )
 else
  some ((0:Int))
def BC(k:Nat)(o:aB):Nat->Int->(List (Int×Bool))->Option Int
 |0,_,_=>none
 |n+1,t5,m2=>O8 k o (BC k o n) t5 m2
def QR(k:Nat)(o:aB)(L:Int->bK->Option Int)(t3:Int)(m1:List bu):Option Int:=
 if decide (t3<(List.length o.1:Int))then
  (
   Option.bind (aq o.1 t3) fun q=>
   Option.bind (GP k q) fun v1=>
   MK L t3 m1 q ((!v1)||((cD (aV .str) m1 q).getD false))
  )
 else
  BC k o k (0:Int) ([]:List (Int×Bool))
def vF(k:Nat)(o:aB):Nat->Int->bK->Option Int
 |0,_,_=>none
 |n+1,t3,m1=>QR k o (vF k o n) t3 m1
def Rf(k:Nat)(o:aB)(t2:Bool):Option Int:=
 if t2 then
  some ((7:Int))
 else
  vF k o k (0:Int) ([]:List bu)
def KU(k:Nat)(o:aB)(t1:Bool):Option Int:=
 Rf k o (t1||(decide ((128:Int)<(List.length o.2.1:Int))))
def gi(k:Nat)(o:aB):Option Int:=
 KU k o (decide ((24:Int)<(List.length o.1:Int))||(decide ((List.length o.2.1:Int)<(1:Int))))
def Bn(t1:Bool):Option Bool:=
 some (t1)
def HP(k:Nat)(o:List UInt8):Option Bool:=
 if decide ((List.length o:Int)<=(32:Int))then
  (
   Option.bind (sn k o ([97,98,99,100,101,102,103,104,105,106,107,108,109,110,111,112,113,114,115,116,117,118,119,120,121,122,48,49,50,51,52,53,54,55,56,57,45]:List UInt8)) fun v1=>
   Bn (v1==([]:List UInt8))
  )
 else
  Bn false
def G3(k:Nat)(l1:cz)(t1:Int):Option Bool:=
 some (l1.1==t1)
def NY(k:Nat)(o:List aw)(f1:(Int×Unit))(q:Int->Option Int)(t1:Int):Option Int:=
 if decide (t1<(List.length o:Int))then
  (
   Option.bind (aq o t1) fun L=>
   Option.bind (G3 k L f1.1) fun v1=>
   if v1 then
    some (t1)
   else
    q (ai (t1+(1:Int)))
  )
 else
  some ((-1:Int))
def uG(k:Nat)(o:List aw)(f1:(Int×Unit)):Nat->Int->Option Int
 |0,_=>none
 |n+1,t1=>NY k o f1 (uG k o f1 n) t1
def G4(k:Nat)(o:List aw)(f1:(Int×Unit)):Option Int:=
 uG k o f1 k (0:Int)
def jf(k:Nat)(o:aB)(L:Int):Option hq:=
 Option.bind (gi k (o.1,o.2.1,())) fun v1=>
 if v1 !=(0:Int)then
  some (((0:Int),(0:Int),(0:Int),()),v1)
 else
  (
   Option.bind (G4 k o.2.1 (L,())) fun v2=>
   if decide (v2<(0:Int))then
    some (((0:Int),(0:Int),(0:Int),()),(5:Int))
   else
    (
     Option.bind (aq o.2.1 v2) fun q=>
     some ((q.1,q.2.1,q.2.2.1,()),(0:Int))
    )
  )
def ry(k:Nat)(o:aB)(q:Int):Option Bool:=
 Option.bind (jf k (o.1,o.2.1,()) q) fun v1=>
 some (v1.2==(0:Int))
def p0(k:Nat)(o:List UInt8)(l1:List (Int)):Option (Option (Option (Nat×Int))×Int×List (Int)):=
 Option.bind (CO k l1) fun v1=>
 Option.bind (aL (List.length l1+List.length (ee o)<=bq)) fun _=>
 some ((none:Option (Option (Nat×Int))),(List.length o:Int),l1++(ee o))
def qc(o:Int->(List (Int))->Option ba)(t1:Int)(t3:List (Int)):Option ba:=
 o (ai (t1+(1:Int))) t3
def KH(k:Nat)(L:aB)(O:Int)(R:Int)(q:Int->(List (Int))->Option ba)(t1:Int)(t2:List (Int)):Option ba:=
 if decide (t1<(List.length L.1:Int))then
  (
   Option.bind (aq L.1 t1) fun o=>
   Option.bind (aL (0<=t1)) fun _=>
   if(dt (BitVec.toNat (BitVec.ofInt 32 (Int.fdiv O (2^min (t1).toNat 32))&&&BitVec.ofInt 32 (1:Int))))==(1:Int)then
    (
     Option.bind (aL (List.length ([43]:List UInt8)+List.length o<=bq)) fun _=>
     Option.bind (p0 k (([43]:List UInt8)++o) t2) fun v3=>
     qc q t1 v3.2.2
    )
   else
    (
     Option.bind (aL (0<=t1)) fun _=>
     if(dt (BitVec.toNat (BitVec.ofInt 32 (Int.fdiv R (2^min (t1).toNat 32))&&&BitVec.ofInt 32 (1:Int))))==(1:Int)then
      (
       Option.bind (aL (List.length ([45]:List UInt8)+List.length o<=bq)) fun _=>
       Option.bind (p0 k (([45]:List UInt8)++o) t2) fun v4=>
       qc q t1 v4.2.2
      )
     else
      qc q t1 t2
    )
  )
 else
  (
   Option.bind (pP k t2) fun v5=>
   some (v5,(0:Int))
  )
def vD(k:Nat)(o:aB)(q:Int)(L:Int):Nat->Int->(List (Int))->Option ba
 |0,_,_=>none
 |n+1,t1,t2=>KH k o q L (vD k o q L n) t1 t2
def yO(k:Nat)(o:aB)(q:Int)(L:Int):Option ba:=
 Option.bind (gi k (o.1,o.2.1,())) fun v1=>
 if v1 !=(0:Int)then
  some (([]:List UInt8),v1)
 else
  (
   Option.bind (pm k (o.1,o.2.1,()) q L) fun v2=>
   if !v2 then
    some (([]:List UInt8),(20:Int))
   else
    vD k o q L k (0:Int) ([]:List (Int))
  )
def In(k:Nat)(o:aB)(q:Int)(L:Int):Option Bool:=
 Option.bind (yO k (o.1,o.2.1,()) q L) fun v1=>
 some (v1.2==(0:Int))
def K4(t1:Bool):Option Bool:=
 some (t1)
def u7(k:Nat)(o:aB)(q:Int)(L:Int)(O:Int):Option Bool:=
 if q !=(0:Int)then
  (
   Option.bind (ry k (o.1,o.2.1,()) q) fun v1=>
   K4 (v1&&((dt (BitVec.toNat (BitVec.ofInt 32 L|||BitVec.ofInt 32 O)))==(0:Int)))
  )
 else
  (
   Option.bind (In k (o.1,o.2.1,()) L O) fun v2=>
   some (v2)
  )
def Ak(k:Nat)(q:aB)(o:kV)(t2:Bool):Option Bool:=
 if t2 then
  some (false)
 else
  (
   Option.bind (u7 k (q.1,q.2.1,()) o.1 o.2.2.1 o.2.2.2.1) fun v1=>
   some (v1)
  )
def uv(k:Nat)(o:aB)(q:kV)(t3:Bool):Option Bool:=
 Ak k o q t3
def RN(k:Nat)(o:aB)(q:kV)(t4:Bool):Option Bool:=
 uv k o q t4
def Jh(k:Nat)(q:aB)(o:kV)(L:Int)(t1:Bool):Option Bool:=
 if t1 then
  Ak k q o true
 else
  (
   if o.1==(0:Int)then
    RN k q o (decide (o.2.1<(0:Int))||(decide (L<=o.2.1)))
   else
    uv k q o false
  )
def F0(k:Nat)(q:aB)(o:kV)(L:Int):Option Bool:=
 Jh k q o L ((o.1 !=(0:Int))&&(o.2.1 !=(0:Int)))
def Ra(o:List (Bool))(v1:Bool)(q:Int->Option Int)(t1:Int):Option Int:=
 if decide (t1<(List.length o:Int))then
  (
   Option.bind (aq o t1) fun L=>
   if v1==L then
    some (t1)
   else
    q (ai (t1+(1:Int)))
  )
 else
  some ((-1:Int))
def CS(o:List (Bool))(v1:Bool):Nat->Int->Option Int
 |0,_=>none
 |n+1,t1=>Ra o v1 (CS o v1 n) t1
def De(k:Nat)(o:List (Bool))(v1:Bool):Option Int:=
 CS o v1 k (0:Int)
def By(k:Nat)(o:List (Bool))(v1:Bool):Option Bool:=
 Option.bind (De k o v1) fun v2=>
 some (decide ((0:Int)<=v2))
def xF(t7:List (Bool))(o:Int)(q:Int->(List (Bool))->Option Bool)(t6:Int)(t9:Bool):Option Bool:=
 if t9 then
  some (false)
 else
  (
   Option.bind (aq t7 o) fun L=>
   q (ai (t6+(1:Int))) (List.set t7 (o).toNat true)
  )
def M7(t7:List (Bool))(o:Int)(q:Int->(List (Bool))->Option Bool)(t6:Int)(t8:Bool):Option Bool:=
 if t8 then
  xF t7 o q t6 true
 else
  (
   Option.bind (aq t7 o) fun L=>
   xF t7 o q t6 L
  )
def Pn(q:fh)(t2:Int)(L:ed)(O:Int->(List (Bool))->Option Bool)(R:Int->(List (Bool))->Option Bool)(t6:Int)(t7:List (Bool)):Option Bool:=
 if decide (t6<(List.length q.2.2.2.2.1:Int))then
  (
   Option.bind (aq q.2.2.2.2.1 t6) fun o=>
   M7 t7 o R t6 (decide (o<=t2)||(decide ((List.length L.1:Int)<=o)))
  )
 else
  O (ai (t2+(1:Int))) t7
def AQ(o:fh)(t2:Int)(q:ed)(L:Int->(List (Bool))->Option Bool):Nat->Int->(List (Bool))->Option Bool
 |0,_,_=>none
 |n+1,t6,t7=>Pn o t2 q L (AQ o t2 q L n) t6 t7
def BT(k:Nat)(o:fh)(t2:Int)(q:ed)(L:Int->(List (Bool))->Option Bool)(t3:List (Bool))(t5:Bool):Option Bool:=
 if t5 then
  some (false)
 else
  AQ o t2 q L k (0:Int) t3
def Kp(k:Nat)(o:fh)(t2:Int)(q:ed)(L:Int->(List (Bool))->Option Bool)(t3:List (Bool))(t10:Bool):Option Bool:=
 BT k o t2 q L t3 t10
def RL(k:Nat)(o:fh)(t2:Int)(q:ed)(L:Int->(List (Bool))->Option Bool)(t3:List (Bool))(t4:Bool):Option Bool:=
 if t4 then
  BT k o t2 q L t3 true
 else
  Kp k o t2 q L t3 (((dt (BitVec.toNat (BitVec.ofInt 32 o.2.2.1|||BitVec.ofInt 32 o.2.2.2.1)))!=(0:Int))&&(o.1 !=(3:Int)))
def rX(k:Nat)(o:fh)(t2:Int)(q:ed)(L:Int->(List (Bool))->Option Bool)(t3:List (Bool)):Option Bool:=
 RL k o t2 q L t3 ((o.2.1 !=(0:Int))&&(o.1 !=(2:Int)))
def nB(k:Nat)(o:fh)(t2:Int)(q:ed)(L:Int->(List (Bool))->Option Bool)(t3:List (Bool))(t13:Bool):Option Bool:=
 if t13 then
  (
   if(List.length o.2.2.2.2.1:Int)!=(0:Int)then
    some (false)
   else
    rX k o t2 q L t3
  )
 else
  some (false)
def wk(k:Nat)(o:fh)(t2:Int)(q:ed)(L:Int->(List (Bool))->Option Bool)(t3:List (Bool))(t12:Bool):Option Bool:=
 if t12 then
  (
   if(List.length o.2.2.2.2.1:Int)!=(1:Int)then
    some (false)
   else
    rX k o t2 q L t3
  )
 else
  (
   if o.1==(1:Int)then
    nB k o t2 q L t3 (o.1==(1:Int))
   else
    (
     if o.1==(2:Int)then
      nB k o t2 q L t3 (o.1==(2:Int))
     else
      (
       if o.1==(3:Int)then
        nB k o t2 q L t3 (o.1==(3:Int))
       else
        (
         if o.1==(4:Int)then
          nB k o t2 q L t3 (o.1==(4:Int))
         else
          nB k o t2 q L t3 (o.1==(5:Int))
        )
      )
    )
  )
def wV(k:Nat)(o:fh)(t2:Int)(q:ed)(L:Int->(List (Bool))->Option Bool)(t3:List (Bool))(t11:Bool):Option Bool:=
 if t11 then
  rX k o t2 q L t3
 else
  (
   if o.1==(8:Int)then
    wk k o t2 q L t3 (o.1==(8:Int))
   else
    wk k o t2 q L t3 (o.1==(9:Int))
  )
def Ro(k:Nat)(q:ed)(L:Int->(List (Bool))->Option Bool)(t2:Int)(t3:List (Bool)):Option Bool:=
 if decide (t2<(List.length q.1:Int))then
  (
   Option.bind (aq q.1 t2) fun o=>
   if o.1==(6:Int)then
    wV k o t2 q L t3 (o.1==(6:Int))
   else
    wV k o t2 q L t3 (o.1==(7:Int))
  )
 else
  (
   Option.bind (dD t3 (1:Int) (t3.length:Int)) fun O=>
   Option.bind (By k O false) fun v1=>
   some (!v1)
  )
def Aw(k:Nat)(o:ed):Nat->Int->(List (Bool))->Option Bool
 |0,_,_=>none
 |n+1,t2,t3=>Ro k o (Aw k o n) t2 t3
def NL(k:Nat)(o:ed)(t1:Bool):Option Bool:=
 if t1 then
  some (false)
 else
  (
   Option.bind (aL (0<=(List.length o.1:Int)/\(List.length o.1:Int)<=(List.length o.1:Int)/\(List.length o.1:Int)<=(bq:Int))) fun _=>
   Aw k o k (0:Int) (List.replicate ((List.length o.1:Int)).toNat false)
  )
def AN(k:Nat)(o:ed):Option Bool:=
 NL k o (decide ((List.length o.1:Int)<(1:Int))||(decide ((256:Int)<(List.length o.1:Int))))
def sN(o:Int->Option Int)(t1:Int):Option Int:=
 o (ai (t1+(1:Int)))
def TL(k:Nat)(O:ed)(q:aB)(L:Int->Option Int)(t1:Int):Option Int:=
 if decide (t1<(List.length O.1:Int))then
  (
   Option.bind (aq O.1 t1) fun o=>
   if o.1==(2:Int)then
    (
     Option.bind (jf k (q.1,q.2.1,()) o.2.1) fun v3=>
     if v3.2 !=(0:Int)then
      some ((40:Int))
     else
      sN L t1
    )
   else
    (
     if o.1==(3:Int)then
      (
       Option.bind (yO k (q.1,q.2.1,()) o.2.2.1 o.2.2.2.1) fun v4=>
       if v4.2 !=(0:Int)then
        some ((40:Int))
       else
        sN L t1
      )
     else
      sN L t1
    )
  )
 else
  some ((0:Int))
def yg(k:Nat)(o:ed)(q:aB):Nat->Int->Option Int
 |0,_=>none
 |n+1,t1=>TL k o q (yg k o q n) t1
def BQ(k:Nat)(o:aB)(q:ed):Option Int:=
 Option.bind (gi k (o.1,o.2.1,())) fun v1=>
 if v1 !=(0:Int)then
  some (v1)
 else
  (
   Option.bind (AN k (q.1,())) fun v2=>
   if !v2 then
    some ((40:Int))
   else
    yg k q o k (0:Int)
  )
def xK(t8:Bool):Option Int:=
 if t8 then
  some ((70:Int))
 else
  some ((0:Int))
def LN(k:Nat)(q:dd)(o:aB)(O:Int->Option Int)(t7:Int):Option Int:=
 if decide (t7<(List.length q.2.2.1:Int))then
  (
   Option.bind (aq q.2.2.1 t7) fun L=>
   Option.bind (F0 k (o.1,o.2.1,()) (L.1,L.2.1,L.2.2.1,L.2.2.2.1,()) (List.length q.2.1:Int)) fun v4=>
   if !v4 then
    some ((70:Int))
   else
    O (ai (t7+(1:Int)))
  )
 else
  (
   Option.bind (BQ k (o.1,o.2.1,()) (q.2.2.2.1.1,())) fun v5=>
   if v5 !=(0:Int)then
    xK true
   else
    (
     Option.bind (BQ k (o.1,o.2.1,()) (q.2.2.2.2.1.1,())) fun R=>
     xK (R !=(0:Int))
    )
  )
def AD(k:Nat)(o:dd)(q:aB):Nat->Int->Option Int
 |0,_=>none
 |n+1,t7=>LN k o q (AD k o q n) t7
def PB(k:Nat)(o:dd)(q:aB)(O:Int->Option Int)(t6:Int):Option Int:=
 if decide (t6<(List.length o.2.1:Int))then
  (
   Option.bind (aq o.2.1 t6) fun L=>
   Option.bind (u7 k (q.1,q.2.1,()) L.1 L.2.1 L.2.2.1) fun v3=>
   if !v3 then
    some ((70:Int))
   else
    O (ai (t6+(1:Int)))
  )
 else
  AD k o q k (0:Int)
def yU(k:Nat)(o:dd)(q:aB):Nat->Int->Option Int
 |0,_=>none
 |n+1,t6=>PB k o q (yU k o q n) t6
def Ph(k:Nat)(o:dd)(q:aB)(t5:Bool):Option Int:=
 if t5 then
  some ((70:Int))
 else
  yU k o q k (0:Int)
def O7(k:Nat)(o:dd)(q:aB)(t4:Bool):Option Int:=
 Ph k o q (t4||((ai ((List.length o.2.1:Int)+(List.length o.2.2.1:Int)))==(0:Int)))
def I5(k:Nat)(o:dd)(q:aB)(t3:Bool):Option Int:=
 O7 k o q (t3||(decide ((8:Int)<(List.length o.2.2.1:Int))))
def Mb(k:Nat)(o:dd)(q:aB)(t2:Bool):Option Int:=
 I5 k o q (t2||(decide ((8:Int)<(List.length o.2.1:Int))))
def NV(k:Nat)(o:dd)(q:aB)(t1:Bool):Option Int:=
 Mb k o q (t1||(decide ((3:Int)<o.2.2.2.2.2.1)))
def pz(k:Nat)(o:aB)(q:dd):Option Int:=
 Option.bind (gi k (o.1,o.2.1,())) fun v1=>
 if v1 !=(0:Int)then
  some (v1)
 else
  (
   Option.bind (HP k q.1) fun v2=>
   NV k q o ((!v2)||(decide (q.2.2.2.2.2.1<(1:Int))))
  )
def Me(k:Nat)(l1:List fg)(q:aB)(L:Int->Option Int)(t1:Int):Option Int:=
 if decide (t1<(List.length l1:Int))then
  (
   Option.bind (aq l1 t1) fun o=>
   Option.bind (pz k (q.1,q.2.1,()) (o.1,o.2.1,o.2.2.1,(o.2.2.2.1.1,()),(o.2.2.2.2.1.1,()),o.2.2.2.2.2.1,o.2.2.2.2.2.2.1,())) fun v2=>
   if v2 !=(0:Int)then
    some (v2)
   else
    L (ai (t1+(1:Int)))
  )
 else
  some ((0:Int))
def B7(k:Nat)(l1:List fg)(o:aB):Nat->Int->Option Int
 |0,_=>none
 |n+1,t1=>Me k l1 o (B7 k l1 o n) t1
def uk(k:Nat)(o:aB)(l1:List fg):Option Int:=
 Option.bind (gi k (o.1,o.2.1,())) fun v1=>
 if v1 !=(0:Int)then
  some (v1)
 else
  (
   if decide ((64:Int)<(List.length l1:Int))then
    some ((4:Int))
   else
    B7 k l1 o k (0:Int)
  )
end Go.Ev
namespace Go.Ev
open Go
set_option linter.unusedVariables false
end Go.Ev
namespace Go.Ev
open Go Go.Proofs Go.Sort
section
variable {X:Type}
structure Ut(lt:X->X->Bool)(S:X->Prop):Prop where
 Uu:∀x,S x->lt x x=false
 Ux:∀x y z,S x->S y->S z->lt x y=true->lt y z=true->lt x z=true
 Uq:∀x y,S x->S y->x≠y->lt x y=true\/lt y x=true
end
end Go.Ev
namespace Go.Ev
open Go
end Go.Ev
namespace Go.Ev
open Go
set_option linter.unusedVariables false
end Go.Ev
