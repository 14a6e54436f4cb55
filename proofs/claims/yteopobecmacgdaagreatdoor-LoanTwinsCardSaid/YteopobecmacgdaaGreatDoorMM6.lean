/- The evaluator as one function: what a piece of code asks is a tree, and what the tree owes is one equation. -/
import Derived.Test.YteopobecmacgdaaGreatDoorMM5
import Derived.Defers
import Derived.Test.YteopobecmacgdaaGreatDoorMM4
import Derived.Test.YteopobecmacgdaaGreatDoorMM1
import Derived.Shelf.SlSortCmp.Insertion
import Derived.Test.YteopobecmacgdaaGreatDoorTyA
set_option linter.unusedSectionVars false
set_option linter.unusedVariables false
set_option linter.unusedSimpArgs false
namespace Go.Ev
open Go Go.RowKit
variable [cm]
/-! Trees. -/
structure sI where
 u:ah
 aa:Option u.el
structure cL where
 u:ah
 aa:Option u.el
 v:u.el
inductive bv(al:Type):Type 1
 |ret (e:Option al)
 |ask {β:Type} (aa:Option β) (f:β->bv al)
 |ite (b:Bool) (x y:bv al)
 |cs {A o:Type} (aa:A⊕o) (f:A->bv al) (g:o->bv al)
 |jX (a b:Bool) (t:bv al)
 |fH (a b:List Prop) (t:bv al)
 |eqs (a b:Option af) (t:bv al)
 |jM (a b:sI) (t:bv al)
 |fX {A:Type} (q:A->bv al) (O:A->Option al) (t:bv al)
 |iM {A:Type} (q:(A->Option al)->A->bv al) (F:Nat->A->Option al) (t:bv al)
variable {al:Type}
def bv.den:bv al->Option al
 |.ret e=>e
 |.ask aa f=>Option.bind aa fun x=>(f x).den
 |.ite b x y=>if b then x.den else y.den
 |.cs aa f g=>Ss aa (fun a=>(f a).den) fun b=>(g b).den
 |.jX _ _ t=>t.den
 |.fH _ _ t=>t.den
 |.eqs _ _ t=>t.den
 |.jM _ _ t=>t.den
 |.fX _ _ t=>t.den
 |.iM _ _ t=>t.den
def bv.ib:bv al->Prop
 |.ret _=>True
 |.ask _ f=>∀x,(f x).ib
 |.ite _ x y=>x.ib/\y.ib
 |.cs _ f g=>(∀a,(f a).ib)/\∀b,(g b).ib
 |.jX a b t=>a=b/\t.ib
 |.fH a b t=>a=b/\t.ib
 |.eqs a b t=>a=b/\t.ib
 |.jM a b t=>a=b/\t.ib
 |.fX o q t=>(∀z,(o z).den=q z)/\(∀z,(o z).ib)/\t.ib
 |.iM o F t=>(∀z,F 0 z=none)/\(∀n z,(o (F n) z).den=F (n+1) z)/\(∀n z,(o (F n) z).ib)/\t.ib
inductive fw(al:Type):Type 1
 |nil
 |ask {β:Type} (aa:Option β) (f:β->fw al)
 |ite (b:Bool) (x y:fw al)
 |cs {A o:Type} (aa:A⊕o) (f:A->fw al) (g:o->fw al)
 |b (a:Bool) (c:fw al)
 |p (a:List Prop) (c:fw al)
 |s (a:Option af) (c:fw al)
 |q (a:sI) (c:fw al)
 |fX {A:Type} (g:A->Option al) (O:A->fw al) (c:fw al)
 |iM {A:Type} (g0:A->Option al) (g:Nat->A->Option al) (O:Nat->A->fw al) (c:fw al)
def bv.eB:bv al->fw al
 |.ret _=>.nil
 |.ask aa f=>.ask aa fun x=>(f x).eB
 |.ite b x y=>.ite b x.eB y.eB
 |.cs aa f g=>.cs aa (fun a=>(f a).eB) fun b=>(g b).eB
 |.jX a _ t=>.b a t.eB
 |.fH a _ t=>.p a t.eB
 |.eqs a _ t=>.s a t.eB
 |.jM a _ t=>.q a t.eB
 |.fX o _ t=>.fX (fun z=>(o z).den) (fun z=>(o z).eB) t.eB
 |.iM o F t=>.iM (F 0) (fun n z=>(o (F n) z).den) (fun n z=>(o (F n) z).eB) t.eB
def bv.eA:bv al->fw al
 |.ret _=>.nil
 |.ask aa f=>.ask aa fun x=>(f x).eA
 |.ite b x y=>.ite b x.eA y.eA
 |.cs aa f g=>.cs aa (fun a=>(f a).eA) fun b=>(g b).eA
 |.jX _ b t=>.b b t.eA
 |.fH _ b t=>.p b t.eA
 |.eqs _ b t=>.s b t.eA
 |.jM _ b t=>.q b t.eA
 |.fX o q t=>.fX q (fun z=>(o z).eA) t.eA
 |.iM o F t=>.iM (fun _=>none) (fun n=>F (n+1)) (fun n z=>(o (F n) z).eA) t.eA
theorem bv.gG:∀(t:bv al),t.eB=t.eA->t.ib
 |.ret _,_=>trivial
 |.ask aa f,h=>by
  simp only[eB,eA,fw.ask.injEq,heq_eq_eq,true_and]at h
  exact fun x=>gG (f x) (congrFun h x)
 |.ite b x y,h=>by
  simp only[eB,eA,fw.ite.injEq,true_and]at h
  exact⟨gG x h.1,gG y h.2⟩
 |.cs aa f g,h=>by
  simp only[eB,eA,fw.cs.injEq,heq_eq_eq,true_and]at h
  exact⟨fun a=>gG (f a) (congrFun h.1 a),fun b=>gG (g b) (congrFun h.2 b)⟩
 |.jX a b t,h=>by
  simp only[eB,eA,fw.b.injEq]at h
  exact⟨h.1,gG t h.2⟩
 |.fH a b t,h=>by
  simp only[eB,eA,fw.p.injEq]at h
  exact⟨h.1,gG t h.2⟩
 |.eqs a b t,h=>by
  simp only[eB,eA,fw.s.injEq]at h
  exact⟨h.1,gG t h.2⟩
 |.jM a b t,h=>by
  simp only[eB,eA,fw.q.injEq]at h
  exact⟨h.1,gG t h.2⟩
 |.fX o q t,h=>by
  simp only[eB,eA,fw.fX.injEq,heq_eq_eq,true_and]at h
  exact⟨fun z=>congrFun h.1 z,fun z=>gG _ (congrFun h.2.1 z),gG t h.2.2⟩
 |.iM o F t,h=>by
  simp only[eB,eA,fw.iM.injEq,heq_eq_eq,true_and]at h
  exact⟨fun z=>congrFun h.1 z,fun n z=>congrFun (congrFun h.2.1 n) z,fun n z=>gG _ (congrFun (congrFun h.2.2.1 n) z),gG t h.2.2.2⟩
/-! Lists of data of given shapes. -/
def db:List ah->Type
 |[]=>Unit
 |[t]=>t.el
 |t::u::us=>t.el×db (u::us)
def dQ:(us:List ah)->db us->List ak
 |[],_=>[]
 |[t],x=>[⟨t,x⟩]
 |t::u::us,x=>⟨t,x.1⟩::dQ (u::us) x.2
def ge:(us:List ah)->List ak->Option (db us)
 |[],vs=>match vs with
  |[]=>some ()
  |_=>none
 |[t],vs=>match vs with
  |[v]=>v.as t
  |_=>none
 |t::u::us,vs=>match vs with
  |v::vs=>match v.as t,ge (u::us) vs with
   |some x,some y=>some (x,y)
   |_,_=>none
  |[]=>none
theorem ah.beq_refl:∀t:ah,t.beq t=true
 |.int k=>by cases k<;>rfl
 |.bool=>rfl
 |.str=>rfl
 |.ab t=>beq_refl t
 |.unit=>rfl
 |.pair a b=>by simp only[ah.beq,beq_refl a,beq_refl b,Bool.and_self]
 |.ptr t=>beq_refl t
 |.fn f t=>by simp only[ah.beq,Nat.beq_refl,beq_refl t,Bool.and_self]
 |.err=>rfl
 |.cO=>rfl
 |.dj=>rfl
 |.cP n t=>by simp only[ah.beq,Nat.beq_refl,beq_refl t,Bool.and_self]
 |.alt n a b=>by simp only[ah.beq,Nat.beq_refl,beq_refl a,beq_refl b,Bool.and_self]
 |.arr n t=>by simp only[ah.beq,Nat.beq_refl,beq_refl t,Bool.and_self]
 |.map a b=>by simp only[ah.beq,beq_refl a,beq_refl b,Bool.and_self]
theorem ak.Hc(t:ah)(x:t.el):ak.as ⟨t,x⟩ t=some x:=by
 unfold ak.as
 split
 ·rfl
 ·rename_i h
  exact absurd (ah.beq_refl t) (by rw[h];decide)
theorem M9:∀(us:List ah) (x:db us),ge us (dQ us x)=some x
 |[],_=>rfl
 |[t],x=>ak.Hc t x
 |t::u::us,x=>by
  have h:=M9 (u::us) x.2
  show(match ak.as ⟨t,x.1⟩ t,ge (u::us) (dQ (u::us) x.2)with
   |some x,some y=>some (x,y)
   |_,_=>none)=some x
  rw[ak.Hc,h]
  rfl
theorem BT:∀(us:List ah) (vs:List ak) (x:db us),ge us vs=some x->vs=dQ us x
 |[],vs,x,h=>by
  unfold ge at h
  split at h
  ·rfl
  ·cases h
 |[t],vs,x,h=>by
  match vs,h with
  |[v],h=>
   have e:=ak.dx (v:=v) (u:=t) (x:=x) h
   subst e
   rfl
  |[],h=>cases h
  |_::_::_,h=>cases h
 |t::u::us,vs,x,h=>by
  unfold ge at h
  split at h
  ·rename_i v vs
   split at h
   ·rename_i a b o q
    cases h
    show v::vs=⟨t,a⟩::dQ (u::us) b
    rw[<-BT (u::us) vs b q,ak.dx o]
   ·cases h
  ·cases h
theorem kL:∀(us:List ah) (x:db us),(dQ us x).length=us.length
 |[],_=>rfl
 |[_],_=>rfl
 |_::u::us,x=>by
  show(dQ (u::us) x.2).length+1=_
  rw[kL (u::us) x.2]
  rfl
theorem pM:∀(us:List ah) (x:db us) (v:ak),v∈dQ us x->v.t∈us
 |[],_,v,h=>by cases h
 |[_],_,v,h=>by
  rcases List.mem_cons.1 h with rfl|h
  ·exact List.mem_cons_self
  ·cases h
 |t::u::us,x,v,h=>by
  rcases List.mem_cons.1 (show v∈⟨t,x.1⟩::dQ (u::us) x.2 from h)with rfl|h
  ·exact List.mem_cons_self
  ·exact List.mem_cons_of_mem _ (pM (u::us) x.2 v h)
/-! What is known of functions, as0 functions. -/
structure aS where
 eZ:List ah
 cU:List ah
 fc:List ah
 fn:db eZ->Option (db cU)
def aS.aT(F:aS):jk:=⟨F.cU.all ah.flat,F.cU.length,F.fc,fun o aq=>match ge F.eZ o,ge F.cU aq with
 |some x,some y=>F.fn x=some y
 |_,_=>False⟩
structure aG(P:Program)(G:World->Prop) where
 f:Nat
 F:aS
 ok:aV P G f F.aT
structure cX(P:Program)(G:World->Prop)(α β:Type) where
 f:Nat
 F:b8 α β
 X:af->Option α
 fn:α->Option β
 ok:cq P G f F
 rel:∀x y,fn x=some y->F.rel x y
structure u5{α β:Type}(P:Program)(G:World->Prop)(f:Nat)(F:b8 α β):Prop where
 enters:∀args w,(callFunc f args).run P w=.ok (.enter f args) w
 calls:∀(cx:bJ),cx.P=P->cx.n=F.n->(∀w,Frame cx.w0 w cx.X->G w)->∀x y,F.rel x y->∀(vs:List Value) (w:World) (u:FrameMode),vs.length=(F.S x).ab.length->Go.Ev.al cx (F.S x) (vs.toArray++Array.replicate (F.n-vs.toArray.size) undef) w->
  CallsD P f vs.toArray u w fun e o w'=>o=u/\∃v aA q,e=.returned v/\ao cx aA (F.bg x y) q w'/\sp w' (au cx aA (F.bg x y).ids) aA v (F.aq x y)
structure D5(P:Program)(G:World->Prop)(α β:Type) where
 f:Nat
 F:b8 α β
 X:af->Option α
 fn:α->Option β
 ok:u5 P G f F
 rel:∀x y,fn x=some y->F.rel x y
structure uU(P:Program)(G:World->Prop) where
 f:Nat
 e:Nat
 t:ah
 fn:List t.el->List t.el
 ok:xd P G f e t fun xs o=>o=fn xs
def cC(P:Program)(G:World->Prop)(n:Nat)(l:List (aG P G)):Env:=⟨P,G,n,l.map fun p=>(p.f,p.F.aT)⟩
def Cs{P:Program}{G:World->Prop}:List (aG P G)->Nat->Option aS
 |[],_=>none
 |p::l,n=>bif Nat.beq p.f n then some p.F else Cs l n
theorem jy{P:Program}{G:World->Prop}{n:Nat}{l:List (aG P G)}{cx:bJ}(o:cx.P=P)(q:cx.n=n)(O:∀w,Frame cx.w0 w cx.X->G w):bE (cC P G n l) cx:=
 ⟨o,q,O,fun f F h=>by
  obtain⟨p,R,e⟩:=List.mem_map.1 h
  cases e
  exact p.ok⟩
/-! Holes of a state. -/
inductive il where
 |ab (i:Nat) (t:ah)
 |rw(r e:Nat) (t:ah)
 |ae (b i:Nat) (t:ah)
 |it (b:Nat)
 |mp (b:Nat) (k v:ah)
 |mL (b:Nat) (t:ah)
 |bw (b:Nat) (t:ah)
def il.T:il->Type
 |.ab _ t=>t.el
 |.rw _ _ t=>List t.el
 |.ae _ _ t=>t.el
 |.it _=>Nat
 |.mp _ k v=>List (k.el×v.el)
 |.mL _ t=>t.el
 |.bw _ t=>List t.el
def fV:List il->Type
 |[]=>Unit
 |[h]=>h.T
 |h::g::o=>h.T×fV (g::o)
def TE(c:cV)(t:ah):Option (List t.el):=ak.as ⟨.ab c.t,c.xs⟩ (.ab t)
def It(s:Option ap)(t:ah):Option t.el:=match s with
 |some (.val u x)=>ak.as ⟨u,x⟩ t
 |some (.vptr u x)=>ak.as ⟨u,x⟩ t
 |_=>none
def il.get(st:af):(h:il)->Option h.T
 |.ab i t=>It (look st.ab i) t
 |.rw r _ t=>match look st.rw r with
  |some c=>TE c t
  |none=>none
 |.ae b i t=>match look st.ae b with
  |some (.cells l _)=>It l[i]? t
  |_=>none
 |.it b=>match look st.ae b with
  |some (.iter _ p)=>some p
  |_=>none
 |.mp b k v=>match look st.ae b with
  |some (.mp k' v' ps)=>ak.as ⟨.map k' v',some ps⟩ (.map k v)|>.bind id
  |_=>none
 |.mL b t=>match look st.ae b with
  |some (.aY u x _)=>ak.as ⟨u,x⟩ t
  |_=>none
 |.bw b t=>match look st.ae b with
  |some (.bw _ k xs _)=>ak.as ⟨.ab k.u,xs⟩ (.ab t)
  |_=>none
def bz(st:af):(o:List il)->Option (fV o)
 |[]=>some ()
 |[h]=>h.get st
 |h::g::o=>match h.get st,bz st (g::o)with
  |some x,some y=>some (x,y)
  |_,_=>none
def nt{α:Type}:List (Nat×α)->Nat->α->List (Nat×α)
 |[],i,v=>[(i,v)]
 |(k,u)::r,i,v=>bif Nat.beq k i then(k,v)::r else(k,u)::nt r i v
def il.put(st:af):(h:il)->h.T->af
 |.ab i t,x=>{st with ab:=nt st.ab i (.val t x)}
 |.rw r e t,xs=>{st with rw:=nt st.rw r ⟨e,t,xs⟩}
 |.ae b i t,x=>match look st.ae b with
  |some (.cells l e)=>{st with ae:=nt st.ae b (.cells (l.set i (.val t x)) e)}
  |_=>st
 |.it b,p=>match look st.ae b with
  |some (.iter s _)=>{st with ae:=nt st.ae b (.iter s p)}
  |_=>st
 |.mp b k v,ps=>{st with ae:=nt st.ae b (.mp k v ps)}
 |.mL b t,x=>match look st.ae b with
  |some (.aY _ _ e)=>{st with ae:=nt st.ae b (.aY t x e)}
  |_=>st
 |.bw b t,z=>match look st.ae b with
  |some (.bw e k _ h)=>match ak.as ⟨.ab t,z⟩ (.ab k.u)with
   |some o=>{st with ae:=nt st.ae b (.bw e k o h)}
   |none=>st
  |_=>st
def Pd(st:af):(o:List il)->fV o->af
 |[],_=>st
 |[h],x=>h.put st x
 |h::g::o,x=>Pd (h.put st x.1) (g::o) x.2
def ux{α:Type}(l:List (Nat×α)):List Nat->List (Nat×α)
 |[]=>[]
 |k::o=>match look l k with
  |some v=>(k,v)::ux l o
  |none=>ux l o
def aB(q bs aq:List Nat){o:List il}(st:af)(z:fV o):af:=Pd ⟨ux st.ab q,ux st.ae bs,ux st.rw aq⟩ o z
/-! Hints: where ways meet, where rounds begin, which answers are wanted again. -/
inductive bd(P:Program)(G:World->Prop)(al:Type):Type 1
 |z
 |ad (n:Nat) (h:bd P G al)
 |a (u:ah) (f:u.el->bd P G al)
 |ac (us:List ah) (f:db us->bd P G al)
 |u (i:Nat) (h:bd P G al)
 |t (h:bd P G al)
 |f (h:bd P G al)
 |c (x y:bd P G al)
 |T (h:bd P G al)
 |F (h:bd P G al)
 |j (o:List il) (S:af->fV o->af) (q:fV o->Option al) (x:bd P G al) (y:fV o->bd P G al)
 |bi (o:List il) (S:af->fV o->af) (F:Nat->fV o->Option al) (k:Nat) (y:(fV o->Option al)->fV o->bd P G al)
 |bc (m:Nat) (h:bd P G al)
 |Pn (m:Nat) (q:Bool->Option al) (h:Bool->bd P G al)
 |g (m:Nat) (q:Bool->Option al) (x y:bd P G al) (h:Bool->bd P G al)
 |iu (m:Nat) (o:List il) (S:af->fV o->af) (q:fV o->Option al) (x y:bd P G al) (h:fV o->bd P G al)
 |bQ {α β:Type} (O:cX P G α β) (ρ ρ':List (Nat×Nat)) (h:β->bd P G al)
 |Kh {α β:Type} (O:cX P G α β) (i j:Nat) (ρ ρ':List (Nat×Nat)) (h:β->bd P G al)
 |ci (U:uU P G) (h:bd P G al)
 |mV (r:Nat) (h:bd P G al)
 |jN (n:Nat) (h:bd P G al)
 |gm (a b c:List Nat) (h:bd P G al)
 |aJ (b c:List Nat) (h:bd P G al)
 |bB (r:Nat) (h:bd P G al)
 |md (a b c d:List Nat) (h:bd P G al)
 |qc (a b:List Nat) (c2 c3 c4 c5 c6:Nat) (h:bd P G al)
 |wQ (a b:List Nat) (i:Nat) (c d:List Nat) (h:bd P G al)
 |mk (h:bd P G al)
 |cT (W:List (List Nat)) (h:bd P G al)
 |fJ (R bs aq:List Nat) (ρ:List (Nat×Nat))
 |un (d:Nat) (h:bd P G al)
 |gX (R bs aq:List Nat) (h:bd P G al)
 |FL (n d:Nat) (h:bd P G al)
 |Jz (n d:Nat) (t r:ah) (x:t.el->bd P G al) (y:r.el->bd P G al)
 |an (d f:Nat) (x y:bd P G al)
 |iT {α β:Type} (O:D5 P G α β) (ρ ρ':List (Nat×Nat))
variable {P:Program} {G:World->Prop}
def bd.dec:bd P G al->bd P G al
 |.ad n h=>match n with
  |0=>h
  |1=>h
  |n+2=>.ad (n+1) h
 |h=>h
def bd.fork:bd P G al->bd P G al×bd P G al
 |.t h=>(h,.z)
 |.f h=>(.z,h)
 |.c x y=>(x,y)
 |_=>(.z,.z)
/-! Questions of an operation. -/
inductive fh:Type 1
 |nil
 |k (p:Prop) (d:Decidable p) (q:fh)
 |t (u:ah) (aa:Option u.el) (p:u.el->Prop) (ok:∀y,aa=some y->p y) (q:u.el->fh)
 |c (us:List ah) (aa:Option (db us)) (p:db us->Prop) (ok:∀y,aa=some y->p y)
 |e (u:ah) (a b:Option u.el) (p:Prop) (ok:a=b->p) (q:fh)
def cW(o:List cL):Prop:=∀e∈o,e.aa=some e.v
def fq:fh->bd P G al->List cL->List ak->List Prop->(List ak->List Prop->bd P G al->List cL->bv al)->bv al
 |.nil,h,o,orc,ps,k=>k orc ps h o
 |.k p d q,h,o,orc,ps,k=>.ask (@aP p d) fun _=>fq q h o orc (ps++[p]) k
 |.t u aa p _ q,h,o,orc,ps,k=>match h with
  |.u i h'=>match o[i]? with
   |some e=>.jM ⟨u,aa⟩ ⟨e.u,e.aa⟩ (match ak.as ⟨e.u,e.v⟩ u with
    |some y=>fq (q y) h' o (orc++[⟨u,y⟩]) (ps++[p y]) k
    |none=>.ret none)
   |none=>.ret none
  |.a R g=>.ask aa fun y=>match ak.as ⟨u,y⟩ R with
   |some O=>fq (q y) (g O) (⟨u,aa,y⟩::o) (orc++[⟨u,y⟩]) (ps++[p y]) k
   |none=>.ret none
  |h=>.ask aa fun y=>fq (q y) h.dec (⟨u,aa,y⟩::o) (orc++[⟨u,y⟩]) (ps++[p y]) k
 |.c us aa p _,h,o,orc,ps,k=>match h with
  |.ac U g=>.ask aa fun y=>match ge U (dQ us y)with
   |some O=>k (orc++dQ us y) (ps++[p y]) (g O) o
   |none=>.ret none
  |h=>.ask aa fun y=>k (orc++dQ us y) (ps++[p y]) h.dec o
 |.e u a b p _ q,h,o,orc,ps,k=>.jM ⟨u,a⟩ ⟨u,b⟩ (fq q h o orc (ps++[p]) k)
abbrev fh.same(u:ah)(a b:Option u.el)(o:fh):fh:=.e u a b (a=b) id o
theorem nI:∀{l:List Prop} {p:Prop},bW l->p->bW (l++[p])
 |[],_,_,h=>⟨h,trivial⟩
 |_::_,_,⟨o,q⟩,h=>⟨o,nI q h⟩
theorem cW.cons{o:List cL}(h:cW o){u:ah}{aa:Option u.el}{y:u.el}(q:aa=some y):cW (⟨u,aa,y⟩::o):=fun e he=>by
 rcases List.mem_cons.1 he with rfl|he
 ·exact q
 ·exact h e he
theorem cW.nil:cW []:=fun _ h=>by cases h
structure bA(t:bv al)(r:al):Prop where
 ok:t.ib
 den:t.den=some r
theorem bA.no{p:Prop}{r:al}(h:bA (.ret none) r):p:=by cases h.den
theorem bA.ask{r:al}{β:Type}{aa:Option β}{f:β->bv al}(h:bA (.ask aa f) r):∃x,aa=some x/\bA (f x) r:=
 let⟨x,o,q⟩:=bind_some h.den
 ⟨x,o,h.ok x,q⟩
theorem bA.ite{r:al}{b:Bool}{x y:bv al}(h:bA (.ite b x y) r):(b=true/\bA x r)\/(b=false/\bA y r):=by
 cases b with
 |true=>exact .inl ⟨rfl,h.ok.1,h.den⟩
 |false=>exact .inr ⟨rfl,h.ok.2,h.den⟩
theorem bA.cs{r:al}{A o:Type}{aa:A⊕o}{f:A->bv al}{g:o->bv al}(h:bA (.cs aa f g) r):(∃a,aa=.inl a/\bA (f a) r)\/∃b,aa=.inr b/\bA (g b) r:=by
 cases aa with
 |inl a=>exact .inl ⟨a,rfl,h.ok.1 a,h.den⟩
 |inr b=>exact .inr ⟨b,rfl,h.ok.2 b,h.den⟩
theorem bA.jX{r:al}{a b:Bool}{t:bv al}(h:bA (.jX a b t) r):a=b/\bA t r:=⟨h.ok.1,h.ok.2,h.den⟩
theorem bA.fH{r:al}{a b:List Prop}{t:bv al}(h:bA (.fH a b t) r):a=b/\bA t r:=⟨h.ok.1,h.ok.2,h.den⟩
theorem bA.eqs{r:al}{a b:Option af}{t:bv al}(h:bA (.eqs a b t) r):a=b/\bA t r:=⟨h.ok.1,h.ok.2,h.den⟩
theorem bA.jM{r:al}{a b:sI}{t:bv al}(h:bA (.jM a b t) r):a=b/\bA t r:=⟨h.ok.1,h.ok.2,h.den⟩
theorem bA.fX{r:al}{A:Type}{body:A->bv al}{o:A->Option al}{t:bv al}(h:bA (.fX body o t) r):(∀z,o z=some r->bA (body z) r)/\bA t r:=
 ⟨fun z q=>⟨h.ok.2.1 z,(h.ok.1 z).trans q⟩,h.ok.2.2,h.den⟩
theorem bA.iM{r:al}{A:Type}{body:(A->Option al)->A->bv al}{F:Nat->A->Option al}{t:bv al}(h:bA (.iM body F t) r):
  (∀z,F 0 z=none)/\(∀n z,F (n+1) z=some r->bA (body (F n) z) r)/\bA t r:=
 ⟨h.ok.1,fun n z o=>⟨h.ok.2.2.1 n z,(h.ok.2.1 n z).trans o⟩,h.ok.2.2.2,h.den⟩
def Zk(k:List ak->List Prop->bd P G al->List cL->bv al)(r:al):Prop:=
 ∃orc ps h o,bW ps/\cW o/\bA (k orc ps h o) r
theorem jR{r:al}{k:List ak->List Prop->bd P G al->List cL->bv al}:∀(W:fh) {h:bd P G al} {Y:List cL} {orc:List ak} {ps:List Prop},cW Y->bW ps->
  bA (fq W h Y orc ps k) r->Zk k r
 |.nil,h,Y,orc,ps,q,R,o=>⟨orc,ps,h,Y,R,q,o⟩
 |.k p d W,h,Y,orc,ps,q,R,o=>by
  obtain⟨x,U,O⟩:=o.ask
  exact jR W q (nI R (dH U)) O
 |.t u aa p ok W,h,Y,orc,ps,q,R,o=>by
  unfold fq at o
  split at o
  ·rename_i i h'
   split at o
   ·rename_i e la
    obtain⟨aJ,o⟩:=o.jM
    have lb:=q e (List.mem_of_getElem? la)
    obtain⟨lc,ld,Z⟩:=e
    simp only[sI.mk.injEq]at aJ
    obtain⟨rfl,aJ⟩:=aJ
    simp only[heq_eq_eq]at aJ
    subst aJ
    simp only[ak.Hc]at o
    exact jR (W Z) q (nI R (ok Z lb)) o
   ·exact o.no
  ·rename_i le g
   obtain⟨y,U,O⟩:=o.ask
   split at O
   ·exact jR (W y) (q.cons U) (nI R (ok y U)) O
   ·exact O.no
  ·obtain⟨y,U,O⟩:=o.ask
   exact jR (W y) (q.cons U) (nI R (ok y U)) O
 |.c us aa p ok,h,Y,orc,ps,q,R,o=>by
  unfold fq at o
  split at o
  ·obtain⟨y,U,O⟩:=o.ask
   split at O
   ·exact⟨_,_,_,_,nI R (ok y U),q,O⟩
   ·exact O.no
  ·obtain⟨y,U,O⟩:=o.ask
   exact⟨_,_,_,_,nI R (ok y U),q,O⟩
 |.e u a b p ok W,h,Y,orc,ps,q,R,o=>by
  obtain⟨aJ,o⟩:=o.jM
  simp only[sI.mk.injEq,heq_eq_eq,true_and]at aJ
  exact jR W q (nI R (ok aJ)) o
end Go.Ev
namespace Go.Ev
open Go Go.RowKit
variable [cm]
variable {al:Type} {P:Program} {G:World->Prop}
def nA{u:ah}(xs:List u.el)(n:Int):fh:=.t u (ar xs n) (fun y=>ar xs n=some y) (fun _ h=>h) (fun _=>.nil)
def vB:(t:ah)->t.el->List nl->fh
 |_,_,[]=>.nil
 |t,x,.f off u::p=>match dd t x off u with
  |some y=>vB u y p
  |none=>.nil
 |.arr _ u,xs,.x j _::p=>.t u (ar (show List u.el from xs) j) (fun y=>ar (show List u.el from xs) j=some y) (fun _ h=>h) (fun y=>vB u y p)
 |_,_,.x _ _::_=>.nil
def Jt(b:Int):fh:=.k (b≠0) inferInstance .nil
def HY(b:Int):fh:=.k (0<=b) inferInstance .nil
def aae(a b:List UInt8):fh:=.k (a.length+b.length<=bF) inferInstance .nil
def Wa(a:Option (Option (Nat×Int))):fh:=.k (a≠some none) inferInstance .nil
def QW(s:List UInt8):fh:=.k (s.length<=bF) inferInstance .nil
def Q3(o:BinOp)(y:Operand)(a b:ak):fh:=
 match a,b with
 |⟨.int _,_⟩,⟨.int _,b⟩=>match o with
  |.quo=>Jt b
  |.rem=>Jt b
  |.shl=>HY b
  |.shr=>HY b
  |_=>.nil
 |⟨.str,a⟩,⟨.str,b⟩=>match o with
  |.add=>aae a b
  |_=>.nil
 |⟨.err,a⟩,⟨.err,_⟩=>match pZ y with
  |true=>.nil
  |false=>Wa a
 |_,_=>.nil
def TR(P:Program)(st:af)(src o:TypeId)(x:Operand):fh:=
 match(aW st x).map (nR st),P.underlying o with
 |some (.val (.ab (.int .i32)) xs),some .string=>QW (cz xs)
 |some (.val .str s),some (.slice e)=>match P.underlying e with
  |some (.int .i32)=>.nil
  |_=>.nil
 |_,_=>.nil
theorem Kz{F:aS}{o:List ak}{x:db F.eZ}(h:ge F.eZ o=some x)(y:db F.cU)(q:F.fn x=some y):F.aT.rel o (dQ F.cU y):=by
 show(match ge F.eZ o,ge F.cU (dQ F.cU y)with
  |some x,some y=>F.fn x=some y
  |_,_=>False)
 rw[h,M9]
 exact q
def TQ(an:List (aG P G))(E:Env)(st:af)(c:Call):fh:=
 match c.callee with
 |.value x=>match tN E st x with
  |some (f,F,l)=>match oD E st F.flat c.argTypes.toList c.args.toList,Cs an f with
   |some R,some o=>match h:ge o.eZ (R++l)with
    |some x=>.c o.cU (o.fn x) (fun y=>o.aT.rel (R++l) (dQ o.cU y)) (Kz h)
    |none=>.nil
   |_,_=>.nil
  |none=>.nil
 |.invoke x name=>match HC E.P st x name with
  |some (f,u)=>match Cs an f with
   |some o=>match oD E st o.aT.flat c.argTypes.toList c.args.toList with
    |some R=>match h:ge o.eZ (u::R)with
     |some x=>.c o.cU (o.fn x) (fun y=>o.aT.rel (u::R) (dQ o.cU y)) (Kz h)
     |none=>.nil
    |none=>.nil
   |none=>.nil
  |none=>.nil
 |.builtin .len=>match c.args.toList with
  |[x]=>match aW st x with
   |some (.sub b i)=>match look st.ae b with
    |some (.bw _ k xs none)=>nA (u:=k.u) xs i
    |_=>.nil
   |_=>.nil
  |_=>.nil
 |.builtin .append=>match c.args.toList,c.argTypes.toList with
  |[.tmp a,x],[t,O]=>match look st.ab a with
   |some (.sub b i)=>match look st.ae b with
    |some (.bw _ k xs none)=>.t k.u (ar xs i) (fun y=>ar xs i=some y) (fun _ h=>h) fun U=>match dd k.u U k.off (.ab k.t)with
     |some q=>match na E.P st k.t O x with
      |some W=>.k ((fp q).length+W.length<=bF) inferInstance .nil
      |none=>.nil
     |none=>.nil
    |_=>.nil
   |some (.osl b)=>match look st.ae b,aW st x with
    |some (.bw _ k xs none),some (.osl Y)=>match look st.ae Y with
     |some (.bw _ Z la none)=>match ak.as ⟨.ab Z.u,la⟩ (.ab k.u)with
      |some q=>.k (xs.length+(fp q).length<=bF) inferInstance .nil
      |none=>.nil
     |_=>.nil
    |_,_=>.nil
   |_=>match sb E.P st 0 t (.tmp a)with
    |some (_,r)=>match na E.P st r.t O x with
     |some q=>.k (r.xs.length+q.length<=bF) inferInstance .nil
     |none=>.nil
    |none=>.nil
  |[s,x],[t,O]=>match sb E.P st 0 t s with
   |some (_,r)=>match na E.P st r.t O x with
    |some q=>.k (r.xs.length+q.length<=bF) inferInstance .nil
    |none=>.nil
   |none=>.nil
  |_,_=>.nil
 |.builtin .copy=>match c.args.toList,c.argTypes.toList with
  |[x,y],[_,O]=>match aW st x with
   |some (.row r)=>match look st.rw r with
    |some c=>match na E.P st c.t O y with
     |some q=>.k (q.length<=c.xs.length) inferInstance .nil
     |none=>.nil
    |none=>.nil
   |_=>.nil
  |_,_=>.nil
 |_=>.nil
def J9(k:eF)(xs:List k.u.el)(i j:Int)(O:k.u.el->(ah.ab k.t).el->k.t.el->fh):fh:=
 .t k.u (ar xs i) (fun y=>ar xs i=some y) (fun _ h=>h) fun q=>match dd k.u q k.off (.ab k.t)with
  |some o=>.t k.t (ar (fp o) j) (fun y=>ar (fp o) j=some y) (fun _ h=>h) fun z=>O q o z
  |none=>.nil
def FI:Op->Bool
 |.call c=>match c.callee with
  |.value _=>true
  |_=>false
 |_=>false
def LG:Op->Bool
 |.assign (.const (.slice none 0 0))=>true
 |.move (.const (.slice none 0 0))=>true
 |.makeSlice _ _ _=>true
 |_=>false
def LR(E:Env)(st:af)(aa:Oper):fh:=
 match aa.op with
 |.makeSlice t l c=>match ew E.P t,eL (aW st l),eL (aW st c)with
  |some (e,_),some n,some o=>match pz E.P e with
   |some k=>.k (0<=n/\n<=o/\o<=(bF:Int)) inferInstance (.same k.u (cE k.u (cl k.u) k.off ⟨.ab k.t,[]⟩) (some (cl k.u)) (.same (.ab k.t) (dd k.u (cl k.u) k.off (.ab k.t)) (some (show(ah.ab k.t).el from[])) .nil))
   |none=>.nil
  |_,_,_=>.nil
 |_=>.nil
def jL(an:List (aG P G))(E:Env)(q:af)(aa:Oper):fh:=
 let st:=iw (zg q (iy E aa.op)) (iy E aa.op)
 match aa.op with
 |.binOp lb _ x y _=>match dL st x,dL st y with
  |some a,some b=>Q3 lb y a b
  |_,_=>.nil
 |.convert src lc x=>TR E.P st src lc x
 |.index _ x i=>match dL st x,eL (aW st i)with
  |some ⟨.str,s⟩,some n=>.t (.int .u8) (eE s n) (fun b=>eE s n=some b) (fun _ h=>h) (fun _=>.nil)
  |some ⟨.arr _ u,xs⟩,some n=>nA (u:=u) xs n
  |_,_=>.nil
 |.indexAddr t x i=>match aW st x,eL (aW st i)with
  |some (.val (.ab u) xs),some n=>nA (u:=u) xs n
  |some (.row r),some n=>match look st.rw r with
   |some c=>nA c.xs n
   |none=>.nil
  |some (.vptr (.arr _ u) xs),some n=>nA (u:=u) xs n
  |some (.dP _ _),some n=>match ty E.P t with
   |some (.arr len _)=>.k (0<=n/\n<(len:Int)) inferInstance .nil
   |_=>.nil
  |some (.ep r i0 ld le),some n=>match look st.rw r,ty E.P t with
   |some c,some (.arr len u)=>match c.t.beq u&&(i0==0&&(Nat.beq ld 0&&Nat.beq le c.t.cells))with
    |true=>.t c.t (ar c.xs n) (fun y=>ar c.xs n=some y) (fun _ h=>h) (fun _=>.k (c.xs.length=len) inferInstance .nil)
    |false=>.nil
   |_,_=>.nil
  |some (.osl b),some n=>match look st.ae b with
   |some (.ba _ _ xs)=>.k (0<=n/\n<(xs.length:Int)) inferInstance .nil
   |some (.bw _ _ xs _)=>.k (0<=n/\n<(xs.length:Int)) inferInstance .nil
   |_=>.nil
  |some (.sub b i0),some n=>match look st.ae b with
   |some (.bw _ k xs none)=>.t k.u (ar xs i0) (fun y=>ar xs i0=some y) (fun _ h=>h) fun o=>match dd k.u o k.off (.ab k.t)with
    |some O=>.k (0<=n/\n<((fp O).length:Int)) inferInstance .nil
    |none=>.nil
   |_=>.nil
  |_,_=>.nil
 |.load _ x=>match aW st x with
  |some (.en b i _ _)=>match look st.ae b with
   |some (.bw _ k xs none)=>nA (u:=k.u) xs i
   |_=>.nil
  |some (.fA b i j _ _)=>match look st.ae b with
   |some (.bw _ k xs none)=>J9 k xs i j fun _ _ _=>.nil
   |_=>.nil
  |some (.ep r i _ _)=>match look st.rw r with
   |some c=>nA c.xs i
   |none=>.nil
  |some (.dP b p)=>match look st.ae b with
   |some (.aY t x _)=>vB t x p
   |_=>.nil
  |_=>.nil
 |.store _ x v=>match aW q x with
  |some (.en b i off _)=>match look q.ae b,aW q v with
   |some (.bw _ k xs none),some (.val W z)=>.t k.u (ar xs i) (fun y=>ar xs i=some y) (fun _ h=>h) fun o=>match cE k.u o off ⟨W,z⟩,cE k.u o k.off ⟨.ab k.t,[]⟩with
    |some R,some U=>.same k.u (cE k.u R k.off ⟨.ab k.t,[]⟩) (some ((cE k.u U off ⟨W,z⟩).getD U)) (.same (.ab k.t) (dd k.u R k.off (.ab k.t)) (dd k.u o k.off (.ab k.t)) .nil)
    |_,_=>.nil
   |some (.bw _ k xs h),some (.row r)=>match look q.rw r with
    |some c=>match ak.as ⟨.ab c.t,c.xs⟩ (.ab k.t)with
     |some O=>.t k.u (ar xs i) (fun y=>ar xs i=some y) (fun _ h=>h) fun o=>match cE k.u o k.off ⟨.ab k.t,O⟩with
      |some R=>.same k.u (cE k.u R k.off ⟨.ab k.t,[]⟩) (cE k.u o k.off ⟨.ab k.t,[]⟩) (.same (.ab k.t) (dd k.u R k.off (.ab k.t)) (some O) (match h with
       |none=>.nil
       |some i0=>.e (.int .i64) (some i0) (some i) (i0=i) Option.some.inj .nil))
      |none=>.nil
     |none=>.nil
    |none=>.nil
   |_,_=>.nil
  |some (.fA b i j off _)=>match look q.ae b,aW q v with
   |some (.bw _ k xs none),some (.val W z)=>J9 k xs i j fun o O z0=>match cE k.t z0 off ⟨W,z⟩with
    |some la=>match cE k.u o k.off ⟨.ab k.t,(fp O).set j.toNat la⟩with
     |some R=>.same k.u (cE k.u R k.off ⟨.ab k.t,[]⟩) (cE k.u o k.off ⟨.ab k.t,[]⟩) (.same (.ab k.t) (dd k.u R k.off (.ab k.t)) (some ((fp O).set j.toNat la)) .nil)
     |none=>.nil
    |none=>.nil
   |_,_=>.nil
  |some (.ep r i _ _)=>match look q.rw r with
   |some c=>nA c.xs i
   |none=>.nil
  |some (.dP b p)=>match look q.ae b with
   |some (.aY t x _)=>vB t x p
   |_=>.nil
  |some (.gb b n)=>match look q.ae b with
   |some (.ba _ _ xs)=>.k (0<=n/\n<(xs.length:Int)) inferInstance .nil
   |_=>.nil
  |_=>.nil
 |.slice _ x Y Z none=>match aW st x with
  |some (.val .str s)=>match dN.uC st Y,dN.tn st Z (List.length (α:=UInt8) s)with
   |some l,some h=>.t .str (dK (show List UInt8 from s) l h) (fun y=>dK (show List UInt8 from s) l h=some y) (fun _ h=>h) (fun _=>.nil)
   |_,_=>.nil
  |some (.val (.ab u) xs)=>match dN.uC st Y,dN.tn st Z (List.length (α:=u.el) xs)with
   |some l,some h=>.t (.ab u) (dK (show List u.el from xs) l h) (fun y=>dK (show List u.el from xs) l h=some y) (fun _ h=>h) (fun _=>.nil)
   |_,_=>.nil
  |some (.row r)=>match look st.rw r,Z with
   |some c,some h=>match eL (aW st h)with
    |some n=>.k (0<=n/\n<=(c.xs.length:Int)) inferInstance .nil
    |none=>.nil
   |_,_=>.nil
  |some (.ep r _ _ _)=>match look st.rw r,Y with
   |some c,some l=>match eL (aW st l),r5 E.P (match aa.op with|.slice t _ _ _ _=>t|_=>0)with
    |some n,some (len,_)=>.t (.ab c.t) (dK c.xs n (c.xs.length:Int)) (fun y=>dK c.xs n (c.xs.length:Int)=some y) (fun _ h=>h) (fun _=>.k (c.xs.length=len) inferInstance .nil)
    |_,_=>.nil
   |_,_=>.nil
  |_=>.nil
 |.makeSlice _ l c=>match eL (aW st l),eL (aW st c)with
  |some n,some k=>.k (0<=n/\n<=k/\k<=(bF:Int)) inferInstance .nil
  |_,_=>.nil
 |.buildSlice t _ ps=>match ps.toList with
  |[(0,x)]=>match aW st x,ew E.P t with
   |some (.fe l),some (e,_)=>match pz E.P e with
    |some k=>match l[k.off]?,oB k.off k.t 0 l with
     |some (.r r),some lf=>match look st.rw r,pack k.u lf with
      |some c,some (U,[])=>match ak.as ⟨.ab c.t,c.xs⟩ (.ab k.t)with
       |some O=>match cE k.u U k.off ⟨.ab k.t,O⟩with
        |some o=>.same k.u (cE k.u o k.off ⟨.ab k.t,[]⟩) (some U) (.same (.ab k.t) (dd k.u o k.off (.ab k.t)) (some O) .nil)
        |none=>.nil
       |none=>.nil
      |_,_=>.nil
     |_,_=>.nil
    |none=>.nil
   |_,_=>.nil
  |_=>.nil
 |.call c=>TQ an E st c
 |_=>.nil
variable {cx:bJ} {st st':af} {T:Array Value} {w:World} {E:Env} {Q:di} {ops:Array Oper} {l:List Oper}
variable [aj cx]
def fs(P:Program)(G:World->Prop)(al:Type):=af->bd P G al->List cL->bv al
def fin(E:Env)(st:af)(aa:Oper)(k:fs P G al)(orc:List ak)(ps:List Prop)(h:bd P G al)(o:List cL):bv al:=
 match nb E st aa orc with
 |some (st',[],ob)=>.fH ob ps (k st' h o)
 |_=>.ret none
def pK(an:List (aG P G))(E:Env)(st:af)(aa:Oper)(h:bd P G al)(q:List cL)(k:fs P G al):bv al:=
 match FI aa.op,h with
 |true,.ci O h=>match Hz st aa O.f with
  |some r=>match look st.rw r with
   |some c=>match ak.as ⟨.ab c.t,c.xs⟩ (.ab O.t),Nat.beq c.e O.e with
    |some xs,true=>match Ef st aa E.n r ⟨O.e,O.t,O.fn xs⟩with
     |some st'=>k st' h q
     |none=>.ret none
    |_,_=>.ret none
   |none=>.ret none
  |none=>.ret none
 |true,.bQ o ρ ρ' U=>match pw E st aa o.F.n o.f ρ with
  |some R=>match o.X R with
   |some x=>.eqs (some R) (some (o.F.S x)) (.ask (o.fn x) fun y=>match ki st (o.F.bg x y) aa o.F.n E.n ρ ρ' (o.F.aq x y)with
    |some st'=>k st' (U y) q
    |none=>.ret none)
   |none=>.ret none
  |none=>.ret none
 |true,.Kh o i j ρ ρ' U=>match ghost E.P st aa i j with
  |some W=>match FT E W aa o.F.n o.f ρ i j with
   |some R=>match o.X R with
    |some x=>.eqs (some R) (some (o.F.S x)) (.ask (o.fn x) fun y=>match ki W (o.F.bg x y) aa o.F.n E.n ρ ρ' (o.F.aq x y)with
     |some st'=>k st' (U y) q
     |none=>.ret none)
    |none=>.ret none
   |none=>.ret none
  |none=>.ret none
 |_,h=>match LG aa.op with
  |true=>match h with
   |.mk h=>fq (LR E st aa) h q [⟨.unit,()⟩] [] (fin E st aa k)
   |h=>fq (jL an E st aa) h.dec q [] [] (fin E st aa k)
  |false=>match aa.op with
  |.next x true=>match aW st x with
   |some (.iter b)=>match look st.ae b with
    |some (.iter s p)=>.ite (decide (p<s.length)) (fin E st aa k [im true] [p<s.length] h.fork.1 q) (fin E st aa k [im false] [s.length<=p] h.fork.2 q)
    |_=>.ret none
   |_=>.ret none
  |_=>match h with
   |.un d h=>match Nat.beq (aa.dst.getD 0) d with
    |true=>fq (jL an E st aa) h q [⟨.unit,()⟩] [] (fin E st aa k)
    |false=>fq (jL an E st aa) (.un d h) q [] [] (fin E st aa k)
   |h=>fq (jL an E st aa) h q [] [] (fin E st aa k)
def sT(an:List (aG P G))(E:Env)(st:af)(aa:Oper)(h:bd P G al)(o:List cL)(k:fs P G al):bv al:=
 match FI aa.op,h with
 |true,.mV r h'=>match look st.rw r,aa.guard with
  |some c,none=>pK an E (st.freeze r c) aa h' o k
  |_,_=>.ret none
 |_,.FL n d h'=>match Nat.beq (aa.dst.getD 0) n with
  |true=>match Gb E.P st d,aa.guard with
   |some st',none=>pK an E st' aa h' o k
   |_,_=>.ret none
  |false=>pK an E st aa (.FL n d h') o k
 |_,h=>pK an E st aa h o k
def zF(ops:Array Oper)(st:af)(g:Nat×Bool):Option (Nat×Bool):=
 match(ops[g.1]?).bind (·.dst)with
 |some d=>match look st.ab d with
  |some (.val .bool b)=>some (d,b)
  |_=>none
 |none=>none
def iQ(st:af)(o:Nat):af:={st with ab:=del st.ab o}
def qf(cd:List Oper->af->Option (af×List ak×List Prop))(l:List Oper)(st:af)(o:Nat)(b:Bool)(d:Nat):Option (af×Bool):=
 match cd l (gU st o b)with
 |some (s,[],[])=>match look s.ab d with
  |some (.val .bool x)=>match s.norm (d::dn (del (iQ st o).ab d)) (dn st.ae) (dn st.rw)with
   |some q=>some (q,x)
   |none=>none
  |_=>none
 |_=>none
def pF(o:List il)(S:fV o->af)(q:fV o->Option al)(st:af):bv al:=
 match bz st o with
 |some z=>.eqs (st.norm (dn (S z).ab) (dn (S z).ae) (dn (S z).rw)) (some (S z)) (.ret (q z))
 |none=>.ret none
def tF(o:af)(d:Nat)(q:Bool->Option al)(st:af):bv al:=
 match look st.ab d with
 |some (.val .bool v)=>.eqs (st.norm (d::dn (del o.ab d)) (dn o.ae) (dn o.rw)) (some (o.put d (.val .bool v))) (.ret (q v))
 |_=>.ret none
def D0(l:List Oper)(m:Nat):Option Nat:=match l[m]? with
 |some aa=>aa.dst
 |none=>none
abbrev rQ(P:Program)(G:World->Prop)(al:Type):=af->Oper->bd P G al->List cL->fs P G al->bv al
def gi(q:Nat)(fj:af->List Oper->Option (af×List Oper))(step:rQ P G al)(cd:List Oper->af->Option (af×List ak×List Prop))(ops:Array Oper):Nat->List Oper->af->bd P G al->List cL->fs P G al->bv al
 |0,_,_,_,_,_=>.ret none
 |n+1,lf,st,h,O,K=>match lf with
  |[]=>K st h O
  |aa::l=>match aa.guard with
   |none=>match fj st (aa::l)with
    |some (st',lg)=>gi q fj step cd ops n lg st' h O K
    |none=>step st aa h O fun st' h' Z=>gi q fj step cd ops n l st' h' Z K
   |some g=>match h with
    |.bc m h'=>match zF ops st g,D0 (aa::l) m with
     |some (o,b),some d=>match qf cd ((aa::l).take (m+1)) st o true d,qf cd ((aa::l).take (m+1)) st o false d with
      |some (la,U),some (lb,W)=>.eqs (some (gU st o b)) (some st) (.eqs (some la) (some ((iQ st o).put d (.val .bool U))) (.eqs (some lb) (some ((iQ st o).put d (.val .bool W)))
        (gi q fj step cd ops n (l.drop m) ((iQ st o).put d (.val .bool (bif b then U else W))) h' O K)))
      |_,_=>.ret none
     |_,_=>.ret none
    |.Pn m R Y=>match zF ops st g,D0 (aa::l) m with
     |some (o,b),some d=>match qf cd ((aa::l).take (m+1)) st o true d,qf cd ((aa::l).take (m+1)) st o false d with
      |some (la,U),some (lb,W)=>.eqs (some (gU st o b)) (some st) (.eqs (some la) (some ((iQ st o).put d (.val .bool U))) (.eqs (some lb) (some ((iQ st o).put d (.val .bool W)))
        (.fX (fun v=>gi q fj step cd ops n (l.drop m) ((iQ st o).put d (.val .bool v)) (Y v) [] K) R (.ret (R (bif b then U else W))))))
      |_,_=>.ret none
     |_,_=>.ret none
    |.g m R lc ld Y=>match zF ops st g,D0 (aa::l) m with
     |some (o,b),some d=>.eqs (some (gU st o b)) (some st) (.fX (fun v=>gi q fj step cd ops n (l.drop m) ((iQ st o).put d (.val .bool v)) (Y v) [] K) R
       (.ite b (gi q fj step cd ops n ((aa::l).take (m+1)) (gU st o true) lc O fun st' _ _=>tF (iQ st o) d R st')
        (gi q fj step cd ops n ((aa::l).take (m+1)) (gU st o false) ld O fun st' _ _=>tF (iQ st o) d R st')))
     |_,_=>.ret none
    |.iu m le S R lc ld Y=>match zF ops st g with
     |some (o,b)=>.eqs (some (gU st o b)) (some st) (.fX (fun z=>gi q fj step cd ops n (l.drop m) (S st z) (Y z) [] K) R
       (.ite b (gi q fj step cd ops n ((aa::l).take (m+1)) (gU st o true) lc O fun st' _ _=>pF le (S st) R st')
        (gi q fj step cd ops n ((aa::l).take (m+1)) (gU st o false) ld O fun st' _ _=>pF le (S st) R st')))
     |none=>.ret none
    |h=>match eT ops st aa with
     |some true=>step st aa h.dec O fun st' h' Z=>gi q fj step cd ops n l st' h' Z K
     |some false=>match aa.dst with
      |some d=>match Nat.blt d q with
       |true=>gi q fj step cd ops n l (st.put d .undef) h.dec O K
       |false=>.ret none
      |none=>gi q fj step cd ops n l st h.dec O K
     |none=>.ret none
def O5(E:Env)(st:af)(aa:Oper)(d:Nat)(k:fs P G al)(orc:List ak)(ps:List Prop)(h:bd P G al)(o:List cL):bv al:=
 match ga E st aa orc with
 |some ⟨aU,[],ob⟩=>.fH ob ps (k (st.put d aU) h o)
 |_=>.ret none
def Cz(an:List (aG P G))(E:Env):rQ P G al:=fun st aa h o k=>
 match aa.dst with
 |some d=>match Nat.blt d E.n with
  |true=>fq (jL an E st aa) h o [] [] (O5 E st aa d k)
  |false=>.ret none
 |none=>.ret none
def Nh(E:Env)(st:af)(aa:Oper)(d:Nat)(k:fs P G al)(orc:List ak)(ps:List Prop)(h:bd P G al)(o:List cL):bv al:=
 match ga E st aa orc with
 |some ⟨aU,[],ob⟩=>match yI E.P aa aU with
  |true=>.fH ob ps (k (st.put d aU) h o)
  |false=>.ret none
 |_=>.ret none
def B8(an:List (aG P G))(E:Env):rQ P G al:=fun st aa h o k=>
 match aa.dst with
 |some d=>match Nat.blt d E.n with
  |true=>fq (jL an E st aa) h o [] [] (Nh E st aa d k)
  |false=>.ret none
 |none=>.ret none
def nC(an:List (aG P G))(E:Env)(ops:Array Oper)(l:List Oper):af->bd P G al->List cL->fs P G al->bv al:=gi E.n (zq E) (sT an E) (fun l st=>fU E ops l st []) ops 5000 l
def nW(an:List (aG P G))(E:Env)(ops:Array Oper)(l:List Oper):af->bd P G al->List cL->fs P G al->bv al:=gi E.n (fun _ _=>none) (Cz an E) (fun l st=>gH E ops l st []) ops 5000 l
def vJ(an:List (aG P G))(E:Env)(ops:Array Oper)(l:List Oper):af->bd P G al->List cL->fs P G al->bv al:=gi E.n (fun _ _=>none) (B8 an E) (fun _ _=>none) ops 5000 l
def tS(an:List (aG P G))(E:Env)(ops:Array Oper)(aa:Oper)(d:Nat)(orc:List ak)(ps:List Prop)(q:List Nat)(K:fs P G al):List Nat->af->bd P G al->List cL->bv al
 |[],st,h,o=>nC an E ops (bN ops q) st h o K
 |c::R,st,h,o=>match ops[c]? with
  |some O=>match eT ops st O with
   |some true=>sT an E st O h o fun st' h' U=>match ga E st' aa orc,look st'.ab d with
    |some r,some aU=>match pC aU with
     |true=>.eqs (some ⟨[(d,r.aU)],[],[]⟩) (some ⟨[(d,aU)],[],[]⟩) (.fH r.ob ps (tS an E ops aa d orc ps q K R st' h' U))
     |false=>.ret none
    |_,_=>.ret none
   |_=>.ret none
  |none=>.ret none
def Kj(an:List (aG P G))(E:Env)(aa:Oper)(d:Nat)(K:List ak->List Prop->fs P G al):fs P G al:=fun st h o=>
 fq (jL an E st aa) h o [] [] fun orc ps h o=>match ga E st aa orc with
  |some r=>.fH r.ob ps (K orc ps (st.put d r.aU) h o)
  |none=>.ret none
def xO(an:List (aG P G))(E:Env)(ops:Array Oper)(K:fs P G al):List Nat->af->bd P G al->List cL->bv al
 |[],st,h,o=>K st h o
 |c::C,st,h,o=>match ops[c]? with
  |some aa=>match eT ops st aa,aa.dst with
   |some true,some d=>match Nat.blt d E.n with
    |true=>fq (jL an E st aa) h o [] [] fun orc ps h o=>match xn E st aa orc with
     |some ⟨aU,_,ob⟩=>.fH ob ps (xO an E ops K C (st.put d aU) h o)
     |none=>.ret none
    |false=>.ret none
   |_,_=>.ret none
  |none=>.ret none
/-! Regions gone through in any order. -/
inductive fI(P:Program)(G:World->Prop):Type 1
 |aa (orc:List ak) (ps:List Prop)
 |b {α β:Type} (z:Option Nat) (o:cX P G α β) (ρ ρ':List (Nat×Nat)) (x:α) (y:β)
def o8:fI P G->Prop
 |.aa _ ps=>bW ps
 |.b _ o _ _ x y=>o.fn x=some y
def sn(st:af):Option Nat->Option af
 |none=>some st
 |some r=>match look st.rw r with
  |some c=>some (st.freeze r c)
  |none=>none
def isAny:ap->Bool
 |.any=>true
 |_=>false
def OJ(s:af):Option af:=s.norm (dn (s.ab.filter fun p=>!isAny p.2)) (dn s.ae) (dn s.rw)
def WU(E:Env)(st:af)(aa:Oper):fI P G->Option af
 |.aa orc _=>match nb E st aa orc with
  |some (st',[],_)=>OJ st'
  |_=>none
 |.b z o ρ ρ' x y=>match sn st z with
  |some st=>match ki st (o.F.bg x y) aa o.F.n E.n ρ ρ' (o.F.aq x y)with
   |some st'=>OJ st'
   |none=>none
  |none=>none
def ve:List (Nat×fI P G)->Nat->Option (fI P G)
 |[],_=>none
 |(k,v)::r,n=>bif Nat.beq k n then some v else ve r n
def oZ(E:Env)(ops:Array Oper)(o:List (Nat×fI P G))(st:af):List Nat->Option af
 |[]=>some st
 |i::q=>match oZ E ops o st q with
  |some s=>match ops[i]?,ve o i with
   |some aa,some cT=>WU E s aa cT
   |_,_=>none
  |none=>none
def B0(E:Env)(s:af)(aa:Oper)(t:af)(rest:bv al):fI P G->bv al
 |.aa orc ps=>match nb E s aa orc with
  |some (q,[],ob)=>.eqs (q.norm (dn t.ab) (dn t.ae) (dn t.rw)) (some t) (.fH ob ps rest)
  |_=>.ret none
 |.b z o ρ ρ' x y=>match sn s z with
  |some s=>match pw E s aa o.F.n o.f ρ,ki s (o.F.bg x y) aa o.F.n E.n ρ ρ' (o.F.aq x y)with
   |some O,some q=>.eqs (some O) (some (o.F.S x)) (.eqs (q.norm (dn t.ab) (dn t.ae) (dn t.rw)) (some t) rest)
   |_,_=>.ret none
  |none=>.ret none
def xi(E:Env)(ops:Array Oper)(o:List (Nat×fI P G))(st:af):List (List Nat×Nat)->bv al->bv al
 |[],rest=>rest
 |(q,i)::l,rest=>match oZ E ops o st q,oZ E ops o st (nF i q),ops[i]?,ve o i with
  |some s,some t,some aa,some cT=>match aa.guard with
   |none=>B0 E s aa t (xi E ops o st l rest) cT
   |some _=>.ret none
  |_,_,_,_=>.ret none
def oQ(E:Env)(st:af)(aa:Oper)(K:af->bd P G al->List cL->fI P G->bv al)(orc:List ak)(ps:List Prop)(h:bd P G al)(o:List cL):bv al:=
 match nb E st aa orc with
 |some (st',[],_)=>K st' h o (.aa orc ps)
 |_=>.ret none
def wk(E:Env)(st:af)(aa:Oper)(z:Option Nat)(h:bd P G al)(O:List cL)(K:af->bd P G al->List cL->fI P G->bv al):bv al:=
 match h with
 |.bQ o ρ ρ' R=>match sn st z with
  |some st=>match pw E st aa o.F.n o.f ρ with
   |some q=>match o.X q with
    |some x=>.eqs (some q) (some (o.F.S x)) (.ask (o.fn x) fun y=>match ki st (o.F.bg x y) aa o.F.n E.n ρ ρ' (o.F.aq x y)with
     |some st'=>K st' (R y) O (.b z o ρ ρ' x y)
     |none=>.ret none)
    |none=>.ret none
   |none=>.ret none
  |none=>.ret none
 |_=>.ret none
def G7(an:List (aG P G))(E:Env)(st:af)(aa:Oper)(h:bd P G al)(o:List cL)(K:af->bd P G al->List cL->fI P G->bv al):bv al:=
 match FI aa.op,h with
 |true,.mV r h'=>wk E st aa (some r) h' o K
 |true,.bQ q ρ ρ' O=>wk E st aa none (.bQ q ρ ρ' O) o K
 |_,h=>match LG aa.op with
  |true=>match h with
   |.mk h=>fq (LR E st aa) h o [⟨.unit,()⟩] [] (oQ E st aa K)
   |h=>fq (jL an E st aa) h.dec o [] [] (oQ E st aa K)
  |false=>match h with
   |.un d h=>match Nat.beq (aa.dst.getD 0) d with
    |true=>fq (jL an E st aa) h o [⟨.unit,()⟩] [] (oQ E st aa K)
    |false=>fq (jL an E st aa) (.un d h) o [] [] (oQ E st aa K)
   |h=>fq (jL an E st aa) h o [] [] (oQ E st aa K)
def vS(an:List (aG P G))(E:Env)(ops:Array Oper):List Nat->af->bd P G al->List cL->List (Nat×fI P G)->(bd P G al->List cL->List (Nat×fI P G)->bv al)->bv al
 |[],_,h,o,q,K=>K h o q
 |i::is,st,h,o,q,K=>match ops[i]? with
  |some aa=>G7 an E st aa h o fun st' h' O cT=>vS an E ops is st' h' O ((i,cT)::q) K
  |none=>.ret none
def VE(ops:Array Oper)(q:List (List Nat)):List (List Nat×Nat):=q.flatMap fun o=>(Region.ready .any ops (mv ops.size o)).map fun i=>(o,i)
def Aq(an:List (aG P G))(E:Env)(ops:Array Oper)(o:List (List Nat))(st:af)(h:bd P G al)(O:List cL)(K:fs P G al):bv al:=
 match E.P.follows .mixedOrders,AG .any ops (List.range ops.size).reverse o with
 |true,true=>vS an E ops (List.range ops.size) st h O [] fun h' R q=>match oZ E ops q st (List.range ops.size).reverse with
  |some t=>xi E ops q st (VE ops o) (K t h' R)
  |none=>.ret none
 |_,_=>.ret none
abbrev kB(P:Program)(G:World->Prop)(al:Type):=Exit->af->bd P G al->List cL->bv al
def sE(h:bd P G al)(st:af):Option af:=match h with
 |.fJ o bs aq ρ=>(st.norm o bs aq).bind (·.cb ρ)
 |_=>some st
def ends(a:af->bv al)(K:kB P G al):kB P G al:=fun e st h o=>match e with
 |.normal=>match sE h st with
  |some s=>a s
  |none=>.ret none
 |e=>K e st h o
def rO(an:List (aG P G))(E:Env)(ops:Array Oper)(O:Bool)(st:af)(h:bd P G al)(q:List cL)(K:kB P G al):bv al:=
 match O with
  |false=>nC an E ops ops.toList st h q fun st' h' o=>K .normal st' h' o
  |true=>match h with
   |.jN m h'=>match E.P.follows .mixedOrders,Region.lexTailB .any ops m with
    |true,true=>nW an E ops (ops.toList.take m) st h' q fun st' h' o=>nC an E ops (ops.toList.drop m) st' h' o fun st' h' o=>K .normal st' h' o
    |_,_=>.ret none
   |.gm a b c h'=>match E.P.follows .mixedOrders,AK .any ops a b c,Nat.beq (a.length+(b.length+c.length)) ops.toList.length with
    |true,true,true=>vJ an E ops (bN ops a) st h' q fun st' h' o=>nW an E ops (bN ops b) st' h' o fun st' h' o=>nC an E ops (bN ops c) st' h' o fun st' h' o=>K .normal st' h' o
    |_,_,_=>.ret none
   |.wQ a b i c c2 h'=>match ops.toList[i]? with
    |some aa=>match aa.dst,aa.guard,iX aa&&(!(aa.looksAt ops.toList.toArray).contains (aa.dst.getD 0)&&(Nat.blt (aa.dst.getD 0) E.n&&Nat.beq (a.length+(b.length+(c.length+c2.length+1))) ops.toList.length)),E.P.follows .mixedOrders,pI .any ops a b i c c2 with
     |some d,none,true,true,true=>vJ an E ops (bN ops a) st h' q fun st' h' o=>nW an E ops (bN ops b) st' h' o (Kj an E aa d fun orc ps st' h' o=>tS an E ops aa d orc ps c2 (fun st' h' o=>K .normal st' h' o) c st' h' o)
     |_,_,_,_,_=>.ret none
    |none=>.ret none
   |.qc a b c2 c3 c4 c5 c6 h'=>match E.P.follows .mixedOrders,FO .any ops a b c2 c3 c4 c5 c6,Nat.beq (a.length+(b.length+5)) ops.toList.length,wa ops.toList.toArray c2 c3 c4 c5 c6 with
    |true,true,true,some C=>vJ an E ops (bN ops a) st h' q fun st' h' o=>nW an E ops (bN ops b) st' h' o fun st' h' o=>match Dn E st' C with
     |some st'=>K .normal st' h' o
     |none=>.ret none
    |_,_,_,_=>.ret none
   |.md a b c d h'=>match E.P.follows .mixedOrders,BB .any ops a b c d,Nat.beq (a.length+(b.length+(c.length+d.length))) ops.toList.length with
    |true,true,true=>vJ an E ops (bN ops a) st h' q fun st' h' o=>nW an E ops (bN ops b) st' h' o fun st' h' o=>nC an E ops (bN ops c) st' h' o fun st' h' o=>
      nW an E ops (bN ops d) st' h' o fun st' h' o=>K .normal st' h' o
    |_,_,_=>.ret none
   |.aJ b c h'=>match E.P.follows .mixedOrders,xX .any ops b c,Nat.beq (b.length+c.length) ops.toList.length with
    |true,true,true=>nW an E ops (bN ops b) st h' q fun st' h' o=>xO an E ops (fun st' h' o=>K .normal st' h' o) c st' h' o
    |_,_,_=>.ret none
   |.cT R h'=>Aq an E ops R st h' q fun st' h' o=>K .normal st' h' o
   |h=>match E.P.follows .mixedOrders,Region.lexB .any ops with
    |true,true=>nW an E ops ops.toList st h.dec q fun st' h' o=>K .normal st' h' o
    |_,_=>.ret none
def og:bd P G al->af->(af->bd P G al->bv al)->bv al
 |.Jz n d t r o q,st,k=>match look st.ab d with
  |some (.val u x)=>match r.agg,ak.as ⟨u,x⟩ (.alt n t r)with
   |false,some y=>.cs (show t.el⊕r.el from y) (fun a=>og (o a) (st.put d (.val (.cP n t) a)) k) fun b=>og (q b) (st.put d (.val r b)) k
   |_,_=>.ret none
  |_=>.ret none
 |.an d f o q,st,k=>match look st.ab d with
  |some (.val .dj x)=>.ite (abC x f) (og o (st.put d (.clos f [])) k) (og q st k)
  |_=>.ret none
 |h,st,k=>k st h
def run(an:List (aG P G))(E:Env):Code->af->bd P G al->List cL->kB P G al->bv al
 |.skip,st,h,o,K=>K .normal st h o
 |.exit id,st,h,o,K=>K (.exit id) st h o
 |.ret,st,h,o,K=>K .ret st h o
 |.block id c,st,h,o,K=>run an E c st h o fun e st' h' q=>match e with
  |.normal=>K .normal st' h' q
  |.ret=>K .ret st' h' q
  |.exit i=>match Nat.beq i id with
   |true=>K .normal st' h' q
   |false=>K (.exit i) st' h' q
  |_=>.ret none
 |.seq x y,st,h,o,K=>match h with
  |.j O S U Y Z=>.fX (fun z=>run an E y (S st z) (Z z) [] K) U (run an E x st Y o (ends (pF O (S st) U) K))
  |h=>run an E x st h.dec o fun e st' h' q=>match e with
   |.normal=>run an E y st' h' q K
   |e=>K e st' h' q
 |.cond c x y,st,h,o,K=>match aW st c with
  |some (.val .bool b)=>match h with
   |.T h'=>.jX b true (run an E x st h' o K)
   |.F h'=>.jX b false (run an E y st h' o K)
   |h=>.ite b (run an E x st h.fork.1 o K) (run an E y st h.fork.2 o K)
  |_=>.ret none
 |.loop c,st,h,_,K=>match h with
  |.bi O S F k la=>match bz st O with
   |some z0=>.iM (fun W z=>run an E c (S st z) (la W z) [] (ends (pF O (S st) W) K)) F (.eqs (st.norm (dn (S st z0).ab) (dn (S st z0).ae) (dn (S st z0).rw)) (some (S st z0)) (.ret (F k z0)))
   |none=>.ret none
  |_=>.ret none
 |.region _ ops R,st,h,o,K=>og h st fun st h=>match h with
  |.bB r h'=>match look st.rw r with
   |some c=>rO an E ops R (st.freeze r c) h' o K
   |none=>.ret none
  |.gX lb bs aq h'=>match st.norm lb bs aq with
   |some st'=>rO an E ops R st' h' o K
   |none=>.ret none
  |h=>rO an E ops R st h o K
 |_,_,_,_,_=>.ret none
end Go.Ev
namespace Go.Ev
open Go Go.RowKit
variable [cm]
variable {al:Type} {P:Program} {G:World->Prop}
variable {cx:bJ} {st st':af} {T:Array Value} {w:World} {E:Env} {Q:di} {ops:Array Oper} {l:List Oper}
variable [aj cx]
theorem vP(o:bE E cx){aa:Oper}(q:eT ops st aa=some true){orc:List ak}{ob:List Prop}(O:nb E st aa orc=some (st',[],ob))(R:bW ob)(h:bU cx ops Q l st'):bU cx ops Q (aa::l) st:=by
 refine uy o 1 (orc:=orc) (ob:=ob++[]) ?_ (by rw[List.append_nil];exact R) h
 show fU E ops [aa] st orc=_
 unfold fU
 rw[q]
 simp only[O,fU]
theorem Ao{r:al}{aa:Oper}{k:fs P G al}{orc:List ak}{ps:List Prop}{h:bd P G al}{q:List cL}(o:bA (fin E st aa k orc ps h q) r)(O:bW ps):
  ∃st' ob,nb E st aa orc=some (st',[],ob)/\bW ob/\bA (k st' h q) r:=by
 unfold fin at o
 split at o
 ·rename_i st' ob R
  obtain⟨e,U⟩:=o.fH
  exact⟨st',_,R,e▸O,U⟩
 ·exact o.no
theorem zi{an:List (aG P G)}{cN:Nat}(R:bE (cC P G cN an) cx){r:al}{aa:Oper}{h:bd P G al}{le:List cL}{k:fs P G al}(U:eT ops st aa=some true)(W:cW le)
  (o:bA (pK an (cC P G cN an) st aa h le k) r)(Y:∀st' h' lf,cW lf->bA (k st' h' lf) r->bU cx ops Q l st'):bU cx ops Q (aa::l) st:=by
 unfold pK at o
 split at o
 ·rename_i lj h' _
  split at o
  ·rename_i lk Z
   split at o
   ·rename_i c ll
    split at o
    ·rename_i xs lm ln
     split at o
     ·rename_i st' la
      have lo:=Du (Nat.eq_of_beq_eq_true ln) lm
      subst lo
      exact X3 R lj.ok xs (lj.fn xs) rfl lk U Z ll la (Y _ _ _ W o)
     ·exact o.no
    ·exact o.no
   ·exact o.no
  ·exact o.no
 ·rename_i α β lb ρ ρ' lp _
  split at o
  ·rename_i lq Z
   split at o
   ·rename_i x lr
    obtain⟨e,lg⟩:=o.eqs
    obtain⟨y,lh,O⟩:=lg.ask
    split at O
    ·rename_i st' la
     exact DQ R lb.ok x y (lb.rel x y lh) rfl U (Z.trans e) la (Y _ _ _ W O)
    ·exact O.no
   ·exact o.no
  ·exact o.no
 ·rename_i α β lb i j ρ ρ' lp _
  split at o
  ·rename_i lv ls
   split at o
   ·rename_i lq Z
    split at o
    ·rename_i x lr
     obtain⟨e,lg⟩:=o.eqs
     obtain⟨y,lh,O⟩:=lg.ask
     split at O
     ·rename_i st' la
      exact Ug R lb.ok x y (lb.rel x y lh) rfl ls U (Z.trans e) la (Y _ _ _ W O)
     ·exact O.no
    ·exact o.no
   ·exact o.no
  ·exact o.no
 ·have last:∀{orc:List ak} {q:fh} {h:bd P G al},bA (fq q h le orc [] (fin (cC P G cN an) st aa k)) r->bU cx ops Q (aa::l) st:=fun o=>by
   obtain⟨orc,ps,h',lf,lt,lu,o⟩:=jR (ps:=[]) _ W trivial o
   obtain⟨st',ob,lc,ld,o⟩:=Ao o lt
   exact vP R U lc ld (Y _ _ _ lu o)
  split at o
  ·split at o
   ·exact last o
   ·exact last o
  split at o
  ·split at o
   ·split at o
    ·rcases o.ite with ⟨li,o⟩|⟨li,o⟩
     ·obtain⟨st',ob,lc,ld,o⟩:=Ao o ⟨of_decide_eq_true li,trivial⟩
      exact vP R U lc ld (Y _ _ _ W o)
     ·obtain⟨st',ob,lc,ld,o⟩:=Ao o ⟨Nat.le_of_not_lt (of_decide_eq_false li),trivial⟩
      exact vP R U lc ld (Y _ _ _ W o)
    ·exact o.no
   ·exact o.no
  ·split at o
   ·split at o
    ·exact last o
    ·exact last o
   ·exact last o
theorem r6{aa:Oper}(h:aa.guard=none):eT ops st aa=some true:=by unfold eT;rw[h]
theorem LB{an:List (aG P G)}{cN:Nat}(q:bE (cC P G cN an) cx){r:al}{aa:Oper}{h:bd P G al}{Y:List cL}{k:fs P G al}(Z:eT ops st aa=some true)(O:cW Y)
  (o:bA (sT an (cC P G cN an) st aa h Y k) r)(R:∀st' h' la,cW la->bA (k st' h' la) r->bU cx ops Q l st'):bU cx ops Q (aa::l) st:=by
 unfold sT at o
 split at o
 ·split at o
  ·rename_i c lb U
   have:=zi (l:=l) (ops:=ops) (Q:=Q) q (r6 U) O o R
   rintro T w ⟨m,W⟩
   exact this T w ⟨m,W.freeze (be lb)⟩
  ·exact o.no
 ·split at o
  ·split at o
   ·rename_i ld lc U
    have:=zi (l:=l) (ops:=ops) (Q:=Q) q (r6 U) O o R
    rintro T w ⟨m,W⟩
    exact this T w ⟨m,Zd W lc⟩
   ·exact o.no
  ·exact zi q Z O o R
 ·exact zi q Z O o R
structure zK(cx:bJ)(ops:Array Oper)(Z:Nat)(r:al)(q:Type)(W:q->List Oper->af->Prop)(N:q->af->Prop)(fj:af->List Oper->Option (af×List Oper))(step:rQ P G al)(cd:List Oper->af->Option (af×List ak×List Prop)):Prop where
 nil:∀i st,N i st->W i [] st
 norm:∀i st st' o bs aq,st.norm o bs aq=some st'->N i st'->N i st
 pv:∀i l st st' o bs aq,st.norm o bs aq=some st'->W i l st'->W i l st
 step:∀i aa l st h O (k:fs P G al),eT ops st aa=some true->cW O->bA (step st aa h O k) r->(∀st' h' R,cW R->bA (k st' h' R) r->W i l st')->W i (aa::l) st
 undef:∀i aa l st,eT ops st aa=some false->(match aa.dst with
  |some d=>Nat.blt d Z=true/\W i l (st.put d .undef)
  |none=>W i l st)->W i (aa::l) st
 join:∀i n l st (A:Type) (F:A->Prop) (S:A->af),(∀a,F a->W i (l.drop n) (S a))->(∀U,(∀a,F a->N U (S a))->W U (l.take n) st)->W i l st
 fj:∀i l st st' Y,fj st l=some (st',Y)->W i Y st'->W i l st
 cd:∀i m l st s,cd (l.take m) st=some (s,[],[])->W i (l.drop m) s->W i l st
theorem yV{cd:List Oper->af->Option (af×List ak×List Prop)}{l:List Oper}{st:af}{gs d:Nat}{b:Bool}{s:af}{x:Bool}(h:qf cd l st gs b d=some (s,x)):
  ∃o,cd l (gU st gs b)=some (o,[],[])/\o.norm (d::dn (del (iQ st gs).ab d)) (dn st.ae) (dn st.rw)=some s:=by
 unfold qf at h
 split at h
 ·rename_i o q
  split at h
  ·split at h
   ·rename_i R O
    cases h
    exact⟨o,q,O⟩
   ·cases h
  ·cases h
 ·cases h
theorem F3{r:al}{q:List il}{S:fV q->af}{O:fV q->Option al}(o:bA (pF q S O st) r):∃z,st.norm (dn (S z).ab) (dn (S z).ae) (dn (S z).rw)=some (S z)/\O z=some r:=by
 unfold pF at o
 split at o
 ·rename_i z _
  obtain⟨R,o⟩:=o.eqs
  exact⟨z,R,o.den⟩
 ·exact o.no
theorem QB{r:al}{q:af}{d:Nat}{O:Bool->Option al}(o:bA (tF q d O st) r):∃v,st.norm (d::dn (del q.ab d)) (dn q.ae) (dn q.rw)=some (q.put d (.val .bool v))/\O v=some r:=by
 unfold tF at o
 split at o
 ·rename_i v _
  obtain⟨R,o⟩:=o.eqs
  exact⟨v,R,o.den⟩
 ·exact o.no
theorem gc{lz:Nat}{r:al}{ll:Type}{W:ll->List Oper->af->Prop}{N:ll->af->Prop}{fj:af->List Oper->Option (af×List Oper)}{step:rQ P G al}{cd:List Oper->af->Option (af×List ak×List Prop)}
  (X:zK cx ops lz r ll W N fj step cd):∀(n:Nat) {i:ll} {l:List Oper} {st:af} {h:bd P G al} {lj:List cL} {K:fs P G al},(∀st' h' lb,cW lb->bA (K st' h' lb) r->N i st')->cW lj->
   bA (gi lz fj step cd ops n l st h lj K) r->W i l st:=by
 intro n
 induction n with
 |zero=>intro i l st h lj K _ _ o;exact o.no
 |succ n R=>
  intro i l st h lj K la U o
  unfold gi at o
  split at o
  ·exact X.nil i st (la _ _ _ U o)
  ·rename_i aa l
   have lA:∀(m Y:Nat) (b:Bool) (i:ll),gU st Y b=st->(∀ln,b=ln->W i ((aa::l).take (m+1)) (gU st Y ln))->W i ((aa::l).take (m+1)) st:=fun m Y b i q lc=>q▸lc b rfl
   split at o
   ·rename_i lB
    split at o
    ·rename_i st' lE lF
     exact X.fj i _ st st' lE lF (R la U o)
    ·exact X.step i aa l st h lj _ (r6 lB) U o fun st' h' lb lo ld=>R la lo ld
   ·rename_i g lB
    split at o
    ·rename_i m h'
     split at o
     ·rename_i Y b d lp ai
      split at o
      ·rename_i lG lH lI lJ lq lr
       obtain⟨q,ls⟩:=o.eqs
       obtain⟨le,lt⟩:=ls.eqs
       obtain⟨lf,lu⟩:=lt.eqs
       have le:=Option.some.inj le
       have lf:=Option.some.inj lf
       have lm:=R (i:=i) la U lu
       have q:=Option.some.inj q
       cases b with
       |true=>
        obtain⟨lg,O,Z⟩:=yV lq
        refine X.cd i (m+1) (aa::l) st lg (by rw[q]at O;exact O) ?_
        exact X.pv i _ _ _ _ _ _ Z (le▸lm)
       |false=>
        obtain⟨lg,O,Z⟩:=yV lr
        refine X.cd i (m+1) (aa::l) st lg (by rw[q]at O;exact O) ?_
        exact X.pv i _ _ _ _ _ _ Z (lf▸lm)
      ·exact o.no
     ·exact o.no
    ·rename_i m lk lC
     split at o
     ·rename_i Y b d lp ai
      split at o
      ·rename_i lG lH lI lJ lq lr
       obtain⟨q,ls⟩:=o.eqs
       obtain⟨le,lt⟩:=ls.eqs
       obtain⟨lf,lu⟩:=lt.eqs
       have le:=Option.some.inj le
       have lf:=Option.some.inj lf
       obtain⟨lc,lK⟩:=lu.fX
       have lm:=R (i:=i) la cW.nil (lc _ lK.den)
       have q:=Option.some.inj q
       cases b with
       |true=>
        obtain⟨lg,O,Z⟩:=yV lq
        refine X.cd i (m+1) (aa::l) st lg (by rw[q]at O;exact O) ?_
        exact X.pv i _ _ _ _ _ _ Z (le▸lm)
       |false=>
        obtain⟨lg,O,Z⟩:=yV lr
        refine X.cd i (m+1) (aa::l) st lg (by rw[q]at O;exact O) ?_
        exact X.pv i _ _ _ _ _ _ Z (lf▸lm)
      ·exact o.no
     ·exact o.no
    ·rename_i m lk lL lM lC
     split at o
     ·rename_i Y b d lp ai
      obtain⟨q,o⟩:=o.eqs
      obtain⟨lc,o⟩:=o.fX
      have q:=Option.some.inj q
      refine X.join i (m+1) (aa::l) st Bool (fun v=>lk v=some r) (fun v=>(iQ st Y).put d (.val .bool v)) (fun v lv=>R la cW.nil (lc v lv)) fun lh lw=>?_
      have fin:∀st' (h':bd P G al) (lb:List cL),cW lb->bA (tF (iQ st Y) d lk st') r->N lh st':=fun st' _ _ _ ld=>by
       obtain⟨v,O,Z⟩:=QB ld
       exact X.norm lh _ _ _ _ _ O (lw v Z)
      refine lA m Y b lh q fun ln lx=>?_
      subst lx
      rcases o.ite with ⟨e,li⟩|⟨e,li⟩
      ·rw[e];exact R fin U li
      ·rw[e];exact R fin U li
     ·exact o.no
    ·rename_i m lD S lk lL lM lC
     split at o
     ·rename_i Y b lp
      obtain⟨q,o⟩:=o.eqs
      obtain⟨lc,o⟩:=o.fX
      have q:=Option.some.inj q
      refine X.join i (m+1) (aa::l) st (fV lD) (fun v=>lk v=some r) (S st) (fun v lv=>R la cW.nil (lc v lv)) fun lh lw=>?_
      have fin:∀st' (h':bd P G al) (lb:List cL),cW lb->bA (pF lD (S st) lk st') r->N lh st':=fun st' _ _ _ ld=>by
       obtain⟨v,O,Z⟩:=F3 ld
       exact X.norm lh _ _ _ _ _ O (lw v Z)
      refine lA m Y b lh q fun ln lx=>?_
      subst lx
      rcases o.ite with ⟨e,li⟩|⟨e,li⟩
      ·rw[e];exact R fin U li
      ·rw[e];exact R fin U li
     ·exact o.no
    ·split at o
     ·rename_i ly
      exact X.step i aa l st _ lj _ ly U o fun st' h' lb lo ld=>R la lo ld
     ·rename_i ly
      refine X.undef i aa l st ly ?_
      split at o
      ·rename_i d ai
       split at o
       ·rename_i lN
        try rw[ai]
        exact⟨lN,R la U o⟩
       ·exact o.no
      ·rename_i ai
       try rw[ai]
       exact R la U o
     ·exact o.no
theorem qv{an:List (aG P G)}{cN:Nat}(o:bE (cC P G cN an) cx)(r:al):zK cx ops cN r di (fun Q l st=>bU cx ops Q l st) (fun Q st=>N cx Q .normal st) (zq (cC P G cN an)) (sT an (cC P G cN an)) (fun l st=>fU (cC P G cN an) ops l st []) where
 nil:=fun _ _ h=>kN h
 norm:=fun _ _ _ _ _ _ q h=>h.norm q
 pv:=fun _ _ _ _ _ _ _ q h=>h.norm q
 step:=fun _ _ _ _ _ _ _ O R U W=>LB o O R U W
 undef:=fun Q aa l st O h=>by
  split at h
  ·rename_i d ai
   refine uy o 1 (orc:=[]) (ob:=[]) ?_ trivial h.2
   show fU _ ops [aa] st []=_
   unfold fU
   rw[O]
   simp only[ai,show Nat.blt d (cC P G cN an).n=true from h.1,fU]
  ·rename_i ai
   refine uy o 1 (orc:=[]) (ob:=[]) ?_ trivial h
   show fU _ ops [aa] st []=_
   unfold fU
   rw[O]
   simp only[ai,fU]
 join:=fun _ n _ _ _ F S Y Z=>Ed F S n Y fun h=>Z _ h
 fj:=fun _ _ _ _ _ la h=>Z5 o la h
 cd:=fun _ m _ _ _ q h=>uy o m q trivial h
theorem nw{an:List (aG P G)}{cN:Nat}(Y:bE (cC P G cN an) cx)(r:al):zK cx ops cN r (World->Act->Prop) (fun K l st=>o2 cx ops K l st) (fun K st=>qh cx K st) (fun _ _=>none) (Cz an (cC P G cN an)) (fun l st=>gH (cC P G cN an) ops l st []) where
 nil:=fun _ _ h=>XS h
 norm:=fun _ _ _ _ _ _ O h=>fun T w q=>h T w (q.norm O)
 pv:=fun _ _ _ _ _ _ _ O h=>fun T w q=>h T w (q.norm O)
 step:=fun K aa l st h ll k W la o lb=>by
  unfold Cz at o
  split at o
  ·rename_i d ai
   split at o
   ·rename_i lc
    obtain⟨orc,ps,h',lm,ld,le,o⟩:=jR (orc:=[]) (ps:=[]) _ la trivial o
    unfold O5 at o
    split at o
    ·rename_i aU ob Z
     obtain⟨e,lf⟩:=o.fH
     intro T w q
     have lg:=lb _ _ _ le lf
     have:=oe (P:=cx.P) (ops:=ops) (l1:=[aa]) (l2:=l) (C:=Ext w) (Q':=K w) (a:=⟨T,aj.D cx⟩)
      (nk Y (l:=[aa]) (orc:=orc) (orc':=[]) (ob:=ob++[]) q (by unfold gH;rw[W];simp only[ai,Z,lc,gH]) (by rw[List.append_nil,e];exact ld) fun R U=>lg R w U)
     exact this
    ·exact o.no
   ·exact o.no
  ·exact o.no
 undef:=fun K aa l st W h=>by
  intro T w q
  have key:∀st',gH (cC P G cN an) ops [aa] st []=some (st',[],[])->o2 cx ops K l st'->wpQuiet cx.P ops (Ext w) (K w) (aa::l) ⟨T,aj.D cx⟩:=fun st' Z lh=>
   oe (P:=cx.P) (ops:=ops) (l1:=[aa]) (l2:=l) (nk Y q Z trivial fun R U=>lh R w U)
  split at h
  ·rename_i d ai
   refine key (st.put d .undef) ?_ h.2
   unfold gH
   rw[W]
   simp only[ai,show Nat.blt d (cC P G cN an).n=true from h.1,gH]
  ·rename_i ai
   refine key st ?_ h
   unfold gH
   rw[W]
   simp only[ai,gH]
 fj:=fun _ _ _ _ _ li _=>by cases li
 join:=fun _ n _ _ _ F S lj lk=>Qx F S n lj fun K h=>lk K h
 cd:=fun K m l st s O h=>by
  intro T w q
  have:=oe (P:=cx.P) (ops:=ops) (l1:=l.take m) (l2:=l.drop m) (nk Y q O trivial fun R U=>h R w U)
  rwa [List.take_append_drop]at this
theorem vV{an:List (aG P G)}{cN:Nat}(R:bE (cC P G cN an) cx)(r:al):zK cx ops cN r (World->Act->Prop) (fun K l st=>pf cx ops K l st) (fun K st=>qh cx K st) (fun _ _=>none) (B8 an (cC P G cN an)) (fun _ _=>none) where
 nil:=fun _ _ h=>XM h
 norm:=fun _ _ _ _ _ _ q h=>fun T w U=>h T w (U.norm q)
 pv:=fun _ _ _ _ _ _ _ q h=>fun T w U=>h T w (U.norm q)
 step:=fun K aa l st h lj k O W o Y=>by
  unfold B8 at o
  split at o
  ·rename_i d ai
   split at o
   ·rename_i Z
    obtain⟨orc,ps,h',lk,la,lb,o⟩:=jR (orc:=[]) (ps:=[]) _ W trivial o
    unfold Nh at o
    split at o
    ·rename_i aU ob lc
     split at o
     ·rename_i ld
      obtain⟨e,le⟩:=o.fH
      have lf:=Y _ _ _ lb le
      exact Cu R (orc:=orc) (ob:=ob++[]) (by unfold iI;rw[O];simp only[ai,lc,Z,ld,iI]) (by rw[List.append_nil,e];exact la) lf
     ·exact o.no
    ·exact o.no
   ·exact o.no
  ·exact o.no
 undef:=fun K aa l st O h=>by
  split at h
  ·rename_i d ai
   refine Cu R (orc:=[]) (ob:=[]) (st':=st.put d .undef) ?_ trivial h.2
   unfold iI
   rw[O]
   simp only[ai,show Nat.blt d (cC P G cN an).n=true from h.1,iI]
  ·rename_i ai
   refine Cu R (orc:=[]) (ob:=[]) (st':=st) ?_ trivial h
   unfold iI
   rw[O]
   simp only[ai,iI]
 fj:=fun _ _ _ _ _ lg _=>by cases lg
 join:=fun _ n _ _ _ F S lh li=>Zs F S n lh fun K h=>li K h
 cd:=fun _ _ _ _ _ q _=>by cases q
theorem TC{an:List (aG P G)}{cN:Nat}(Z:bE (cC P G cN an) cx){r:al}{aa:Oper}{d:Nat}{orc:List ak}{ps:List Prop}{la:List Nat}{K:fs P G al}(le:iX aa=true)(lf:bW ps)(lg:∀st' h' U,cW U->bA (K st' h' U) r->N cx Q .normal st'):
  ∀(O:List Nat) {st:af} {h:bd P G al} {W:List cL},cW W->bA (tS an (cC P G cN an) ops aa d orc ps la K O st h W) r->∀T w,Ev.al cx st T w->jI cx.P ops (dT Q) aa d la O ⟨T,aj.D cx⟩ w:=by
 intro O
 induction O with
 |nil=>
  intro st h W lb o T w R
  unfold tS nC at o
  unfold jI
  refine gc (qv Z r) 5000 (i:=dT Q) ?_ lb o T w R
  exact fun st' h' U lc q T w R=>⟨rfl,lg _ _ _ lc q T w R⟩
 |cons c O lh=>
  intro st h W lb o T w R
  unfold tS at o
  split at o
  case h_2=>exact o.no
  rename_i lq li
  split at o
  case h_2=>exact o.no
  rename_i lj
  refine FJ li (LB (ops:=ops) (l:=[]) (Q:=jv cx ops aa d la O Q) Z lj lb o fun st' h' U lc q=>?_) R
  split at q
  case h_2=>exact q.no
  rename_i lr aU lk ll
  split at q
  case h_2=>exact q.no
  rename_i ai
  obtain⟨Y,lm⟩:=q.eqs
  obtain⟨ln,lo⟩:=lm.fH
  have Y:=Option.some.inj Y
  simp only[af.mk.injEq,List.cons.injEq,Prod.mk.injEq,and_true,true_and]at Y
  subst Y
  exact kN fun lp w' ld=>⟨rfl,FS Z ld le lk (ln▸lf) ll ai,lh lc lo lp w' ld⟩
theorem Ur{an:List (aG P G)}{cN:Nat}(U:bE (cC P G cN an) cx){r:al}{K:fs P G al}{w0:World}(W:∀st' h' O,cW O->bA (K st' h' O) r->N cx Q .normal st'):
  ∀(C:List Nat) {st:af} {h:bd P G al} {q:List cL},cW q->bA (xO an (cC P G cN an) ops K C st h q) r->∀T w,Ev.al cx st T w->Ext w0 w->jF cx.P ops (dT Q) (Ext w0) (bN ops C) ⟨T,aj.D cx⟩ w:=by
 intro C
 induction C with
 |nil=>
  intro st h q R o T w Y lh
  exact⟨rfl,W _ _ _ R o T w Y⟩
 |cons c C Z=>
  intro st h q R o
  unfold xO at o
  split at o
  case h_2=>exact o.no
  rename_i aa la
  split at o
  case h_2=>exact o.no
  rename_i d lb ai
  split at o
  case h_2=>exact o.no
  rename_i lc
  obtain⟨orc,ps,h',O,ld,le,o⟩:=jR (orc:=[]) (ps:=[]) _ R trivial o
  dsimp only at o
  split at o
  case h_2=>exact o.no
  rename_i aU orc' ob lf
  obtain⟨e,lg⟩:=o.fH
  unfold bN
  rw[la]
  exact UE U lb ai lc lf (e▸ld) (Z le lg)
theorem Uk{id:Nat}{l:List Oper}(n:Nat)(o:cx.P.follows .mixedOrders=true)(q:Region.lexTailB .any l.toArray n=true)
  (h:o2 cx l.toArray (fun w a=>∀w',Ext w w'->wpList cx.P l.toArray Q (l.drop n) a w') (l.take n) st):W cx Q (.region id l.toArray true) st:=by
 intro T w O
 exact QD (C:=Ext w) n o q (Ext.refl w).drew (h T w O)
theorem I1{h:bd P G al}{s:af}{e:Exit}(o:sE h st=some s)(q:N cx Q e s):N cx Q e st:=by
 unfold sE at o
 split at o
 ·exact Nc _ _ _ _ o q
 ·cases o;exact q
theorem K6{r:al}{a:af->bv al}{K:kB P G al}{Q':Act->World->Prop}(O:∀st,bA (a st) r->N cx (Exit.then Q' Q) .normal st)(R:∀e st h o,cW o->bA (K e st h o) r->N cx Q e st):
  ∀e st h o,cW o->bA (ends a K e st h o) r->N cx (Exit.then Q' Q) e st:=by
 intro e st h o U q
 cases e with
 |normal=>
  unfold ends at q
  dsimp only at q
  split at q
  ·rename_i s W
   exact I1 W (O s q)
  ·exact q.no
 |_=>exact R _ st h o U q
/-! Regions gone through in any order. -/
theorem abs{o:List (Nat×fI P G)}{n:Nat}{v:fI P G}(h:ve o n=some v):∃k,(k,v)∈o:=by
 induction o with
 |nil=>cases h
 |cons p r O=>
  obtain⟨k,u⟩:=p
  unfold ve at h
  cases q:Nat.beq k n with
  |true=>rw[q]at h;cases h;exact⟨k,List.mem_cons_self⟩
  |false=>
   rw[q]at h
   obtain⟨k',R⟩:=O h
   exact⟨k',List.mem_cons_of_mem _ R⟩
theorem tq{r:al}{aa:Oper}{K:af->bd P G al->List cL->fI P G->bv al}{q:fh}{h:bd P G al}{R:List cL}{orc:List ak}(U:cW R)(o:bA (fq q h R orc [] (oQ E st aa K)) r):
  ∃st' h' O cT,cW O/\o8 cT/\bA (K st' h' O cT) r:=by
 obtain⟨orc,ps,h',O,W,Y,o⟩:=jR (ps:=[]) _ U trivial o
 unfold oQ at o
 split at o
 ·exact⟨_,_,_,.aa orc ps,Y,W,o⟩
 ·exact o.no
theorem abI{s:af}{z:Option Nat}(h:sn st z=some s)(o:bU cx ops Q l s):bU cx ops Q l st:=by
 unfold sn at h
 split at h
 ·cases h;exact o
 ·split at h
  ·rename_i c q
   cases h
   rintro T w ⟨m,O⟩
   exact o T w ⟨m,O.freeze (be q)⟩
  ·cases h
theorem KG{r:al}{aa:Oper}{z:Option Nat}{h:bd P G al}{O:List cL}{K:af->bd P G al->List cL->fI P G->bv al}(U:cW O)(o:bA (wk E st aa z h O K) r):
  ∃st' h' R cT,cW R/\o8 cT/\bA (K st' h' R cT) r:=by
 unfold wk at o
 split at o
 ·rename_i α β W ρ ρ' la
  split at o
  ·split at o
   ·split at o
    ·obtain⟨_,Y⟩:=o.eqs
     obtain⟨y,Z,q⟩:=Y.ask
     split at q
     ·exact⟨_,_,_,.b z W ρ ρ' _ y,U,Z,q⟩
     ·exact q.no
    ·exact o.no
   ·exact o.no
  ·exact o.no
 ·exact o.no
theorem acf{an:List (aG P G)}{r:al}{aa:Oper}{h:bd P G al}{O:List cL}{K:af->bd P G al->List cL->fI P G->bv al}(q:cW O)(o:bA (G7 an E st aa h O K) r):
  ∃st' h' R cT,cW R/\o8 cT/\bA (K st' h' R cT) r:=by
 unfold G7 at o
 split at o
 ·exact KG q o
 ·exact KG q o
 ·split at o
  ·split at o
   ·exact tq q o
   ·exact tq q o
  ·split at o
   ·split at o
    ·exact tq q o
    ·exact tq q o
   ·exact tq q o
theorem IM{an:List (aG P G)}{r:al}{K:bd P G al->List cL->List (Nat×fI P G)->bv al}:∀(is:List Nat) {st:af} {h:bd P G al} {q:List cL} {O:List (Nat×fI P G)},cW q->(∀p∈O,o8 p.2)->
  bA (vS an E ops is st h q O K) r->∃h' R Z,cW R/\(∀p∈Z,o8 p.2)/\bA (K h' R Z) r
 |[],st,h,q,O,U,W,o=>⟨h,q,O,U,W,o⟩
 |i::is,st,h,q,O,U,W,o=>by
  unfold vS at o
  split at o
  ·obtain⟨st',h',R,cT,la,lb,o⟩:=acf U o
   refine IM is la (fun p Y=>?_) o
   rcases List.mem_cons.1 Y with rfl|Y
   ·exact lb
   ·exact W p Y
  ·exact o.no
theorem Rb{an:List (aG P G)}{cN:Nat}(R:bE (cC P G cN an) cx){r:al}{s t:af}{aa:Oper}{rest:bv al}{cT:fI P G}(U:o8 cT)(W:aa.guard=none)(o:bA (B0 (cC P G cN an) s aa t rest cT) r):uI cx ops aa s t/\bA rest r:=by
 unfold B0 at o
 split at o
 ·split at o
  ·rename_i Z ob la
   obtain⟨q,o⟩:=o.eqs
   obtain⟨lb,o⟩:=o.fH
   exact⟨fun Q O=>vP R (r6 W) la (lb▸U) (kN (O.norm q)),o⟩
  ·exact o.no
 ·rename_i z α β Y ρ ρ' x y
  split at o
  ·rename_i lg lc
   split at o
   ·rename_i lh Z ld le
    obtain⟨lf,o⟩:=o.eqs
    obtain⟨q,o⟩:=o.eqs
    exact⟨fun Q O=>abI lc (DQ R Y.ok x y (Y.rel x y U) rfl (r6 W) (ld.trans lf) le (kN (O.norm q))),o⟩
   ·exact o.no
  ·exact o.no
theorem H6{an:List (aG P G)}{cN:Nat}(R:bE (cC P G cN an) cx){r:al}{O:List (Nat×fI P G)}{st:af}{rest:bv al}(U:∀p∈O,o8 p.2):∀(l:List (List Nat×Nat)),bA (xi (cC P G cN an) ops O st l rest) r->
  (∀p∈l,∃aa s W,ops[p.2]? =some aa/\oZ (cC P G cN an) ops O st p.1=some s/\oZ (cC P G cN an) ops O st (nF p.2 p.1)=some W/\uI cx ops aa s W)/\bA rest r
 |[],o=>⟨fun p q=>(by cases q),o⟩
 |(lf,i)::l,o=>by
  unfold xi at o
  split at o
  ·rename_i s t aa cT Y Z la lb
   split at o
   ·rename_i lc
    obtain⟨k,ld⟩:=abs lb
    obtain⟨le,o⟩:=Rb (ops:=ops) R (U _ ld) lc o
    obtain⟨i1,i2⟩:=H6 R U l o
    refine⟨fun p q=>?_,i2⟩
    rcases List.mem_cons.1 q with rfl|q
    ·exact⟨aa,s,t,la,Y,Z,le⟩
    ·exact i1 p q
   ·exact o.no
  ·exact o.no
theorem abO{an:List (aG P G)}{cN:Nat}(O:bE (cC P G cN an) cx){r:al}{id:Nat}{Z:List (List Nat)}{h:bd P G al}{R:List cL}{K:fs P G al}{Q:di}
  (la:∀st' h' q,cW q->bA (K st' h' q) r->N cx Q .normal st')(lb:cW R)(o:bA (Aq an (cC P G cN an) ops Z st h R K) r):W cx Q (.region id ops true) st:=by
 unfold Aq at o
 split at o
 ·rename_i lc ld
  obtain⟨h',q,le,lf,lg,o⟩:=IM _ lb (fun p lh=>(by cases lh)) o
  split at o
  ·rename_i t li
   obtain⟨lj,lk⟩:=H6 (cx:=cx) O lg _ o
   refine Ut (by rw[O.P];exact lc) ld (S:=oZ (cC P G cN an) ops le st) (fun U ll i lm=>?_) rfl fun s Y=>?_
   ·exact lj (U,i) (List.mem_flatMap.2 ⟨U,ll,List.mem_map.2 ⟨i,lm,rfl⟩⟩)
   ·rw[li]at Y
    cases Y
    exact la _ _ _ lf lk
  ·exact o.no
 ·exact o.no
theorem Ax{an:List (aG P G)}{cN:Nat}(q:bE (cC P G cN an) cx){r:al}{id:Nat}{ops:Array Oper}{draw:Bool}{st:af}{h:bd P G al}{ll:List cL}{K:kB P G al}{Q:di}
  (lq:∀e st' h' Z,cW Z->bA (K e st' h' Z) r->N cx Q e st')(ld:cW ll)(U:bA (rO an (cC P G cN an) ops draw st h ll K) r):W cx Q (.region id ops draw) st:=by
 obtain⟨l⟩:=ops
 unfold rO at U
 have le:∀st' h' Z,cW Z->bA (K .normal st' h' Z) r->N cx Q .normal st':=fun _ _ _=>lq _ _ _ _
 split at U
 ·exact aZ (gc (qv q r) 5000 (i:=Q) le ld U)
 ·split at U
  ·rename_i m h'
   split at U
   ·rename_i lb lc
    refine Uk m (by rw[q.P];exact lb) lc ?_
    refine gc (nw q r) 5000 (i:=fun w a=>∀w',Ext w w'->wpList cx.P l.toArray Q (l.drop m) a w') ?_ ld U
    intro st' h' Z O o T w Y w' la
    exact gc (qv q r) 5000 (i:=Q) le O o T w' (Y.ext la)
   ·exact U.no
  ·rename_i a b c h'
   split at U
   ·rename_i lb lc lf
    refine Va (Q:=Q) a b c (by rw[q.P];exact lb) lc (Nat.eq_of_beq_eq_true lf) ?_
    refine gc (vV q r) 5000 (i:=fun w R=>wpQuiet cx.P l.toArray (Ext w) (fun R=>∀w',Ext w w'->wpList cx.P l.toArray (dT Q) (bN l.toArray c) R w') (bN l.toArray b) R) ?_ ld U
    intro st' h' Z O o T w Y
    refine gc (nw q r) 5000 (i:=fun w R=>∀w',Ext w w'->wpList cx.P l.toArray (dT Q) (bN l.toArray c) R w') ?_ O o T w Y
    intro st' h' Z O o T w Y w' la
    refine gc (qv q r) 5000 (i:=dT Q) ?_ O o T w' (Y.ext la)
    intro st' h' Z O o T w Y
    exact⟨rfl,le _ _ _ O o T w Y⟩
   ·exact U.no
  ·rename_i a b i c c2 h'
   split at U
   case h_2=>exact U.no
   rename_i aa lr
   split at U
   case h_2=>exact U.no
   rename_i d ai ls lj lb lc
   rw[ai]at lj
   simp only[Bool.and_eq_true,Bool.not_eq_true',Option.getD_some]at lj
   obtain⟨lm,lt,ln,lf⟩:=lj
   refine Pk (Q:=Q) q a b i c c2 lb lc (Nat.eq_of_beq_eq_true lf) lr ai ls lt ln ?_
   refine gc (vV q r) 5000 (i:=fun w R=>wpQuiet cx.P l.toArray (Ext w) (fun R=>∀w',Ext w w'->d<R.tmps.size/\∃v,(execOp R.eval aa).run cx.P w'=.ok (.value v) w'/\jI cx.P l.toArray (dT Q) aa d c2 c (R.put aa.dst v) w') (bN l.toArray b) R) ?_ ld U
   intro st' h' Z O o T w Y
   refine gc (nw q r) 5000 (i:=fun w R=>∀w',Ext w w'->d<R.tmps.size/\∃v,(execOp R.eval aa).run cx.P w'=.ok (.value v) w'/\jI cx.P l.toArray (dT Q) aa d c2 c (R.put aa.dst v) w') ?_ O o T w Y
   intro st' h' Z O o T w Y w' la
   unfold Kj at o
   obtain⟨orc,ps,h',Z,lo,O,o⟩:=jR (orc:=[]) (ps:=[]) _ O trivial o
   dsimp only at o
   split at o
   case h_2=>exact o.no
   rename_i lx lk
   obtain⟨e,o⟩:=o.fH
   have lp:d<cx.n:=by rw[q.n];exact dg ln
   obtain⟨m,lg⟩:=Y.ext la
   obtain⟨v,lu,lv⟩:=AL q lg lm lk (e▸lo)
   refine⟨by rw[lg.size];exact lp,v,lu w' (Ext.refl w'),?_⟩
   rw[ai]
   exact TC q lm lo le c O o _ _ ⟨m,lg.put lp lv⟩
  ·rename_i a b c2 c3 c4 c5 c6 h'
   split at U
   case h_2=>exact U.no
   rename_i C lb lc lf lw
   refine Xt (Q:=Q) q a b c2 c3 c4 c5 c6 lb lc (Nat.eq_of_beq_eq_true lf) lw ?_
   refine gc (vV q r) 5000 (i:=fun w R=>wpQuiet cx.P l.toArray (Ext w) (fun R=>∀w',Ext w w'->∃v2 v3 v4 v5 lh li,rY cx.P (dT Q) C R w' v2 v3 v4 v5 lh li) (bN l.toArray b) R) ?_ ld U
   intro st' h' Z O o T w Y
   refine gc (nw q r) 5000 (i:=fun w R=>∀w',Ext w w'->∃v2 v3 v4 v5 lh li,rY cx.P (dT Q) C R w' v2 v3 v4 v5 lh li) ?_ O o T w Y
   intro st' h' Z O o T w Y w' la
   split at o
   case h_2=>exact o.no
   rename_i ly lk
   obtain⟨m,lg⟩:=Y.ext la
   obtain⟨v2,v3,v4,v5,lh,li,F⟩:=Sz q lg lk
   exact⟨v2,v3,v4,v5,lh,li,F (le _ _ _ O o)⟩
  ·rename_i a b c d h'
   split at U
   case h_2=>exact U.no
   rename_i lb lc lf
   refine QS (Q:=Q) a b c d (by rw[q.P];exact lb) lc (Nat.eq_of_beq_eq_true lf) ?_
   refine gc (vV q r) 5000 (i:=fun w R=>wpQuiet cx.P l.toArray (Ext w) (fun R=>∀w',Ext w w'->wpList cx.P l.toArray (uY cx l.toArray d Q) (bN l.toArray c) R w') (bN l.toArray b) R) ?_ ld U
   intro st' h' Z O o T w Y
   refine gc (nw q r) 5000 (i:=fun w R=>∀w',Ext w w'->wpList cx.P l.toArray (uY cx l.toArray d Q) (bN l.toArray c) R w') ?_ O o T w Y
   intro st' h' Z O o T w Y w' la
   refine gc (qv q r) 5000 (i:=uY cx l.toArray d Q) ?_ O o T w' (Y.ext la)
   intro st' h' Z O o T w Y
   refine⟨rfl,?_⟩
   refine gc (nw q r) 5000 (i:=fun w a=>∀w',Ext w w'->dT Q .normal a w') ?_ O o T w Y
   intro st' h' Z O o T w Y w' la
   exact⟨rfl,le _ _ _ O o T w' (Y.ext la)⟩
  ·rename_i b c h'
   split at U
   case h_2=>exact U.no
   rename_i lb lc lf
   refine Vy (Q:=Q) b c (by rw[q.P];exact lb) lc (Nat.eq_of_beq_eq_true lf) ?_
   refine gc (nw q r) 5000 (i:=fun w R=>∀w',Ext w w'->jF cx.P l.toArray (dT Q) (Ext w) (bN l.toArray c) R w') ?_ ld U
   intro st' h' Z O o T w Y w' la
   exact Ur q le c O o T w' (Y.ext la) la
  ·rename_i lz h'
   exact abO q le ld U
  ·split at U
   ·rename_i lb lc
    refine GX q lb lc ?_
    refine gc (nw q r) 5000 (i:=fun w a=>∀w',Ext w w'->Q .normal a w') ?_ ld U
    intro st' h' Z O o T w Y w' la
    exact le _ _ _ O o T w' (Y.ext la)
   ·exact U.no
theorem ao.Dr{m:Nat->Value}(h:ao cx m st T w){d:Nat}{s o:ap}(ai:look st.ab d=some s)(O:∀v,aX w (au cx m st.ids) m v s->aX w (au cx m st.ids) m v o):ao cx m (st.put d o) T w:=by
 obtain⟨v,q,R⟩:=h.de d s (be ai)
 have U:d<T.size:=(Array.getElem?_eq_some_iff.1 q).1
 have:=h.put (d:=d) (by rw[<-h.size];exact U) (O v R)
 have e:T.setIfInBounds d v=T:=by
  apply Array.ext (by simp)
  intro i W Z
  rw[Array.getElem_setIfInBounds (by simpa using W)]
  split
  ·rename_i Y
   subst Y
   exact((Array.getElem?_eq_some_iff.1 q).2).symm
  ·rfl
 rwa [e]at this
theorem SZ{r:al}{Q:di}{c:Code}:∀(h:bd P G al) {st:af} {k:af->bd P G al->bv al},(∀st' h',bA (k st' h') r->W cx Q c st')->bA (og h st k) r->W cx Q c st:=by
 intro h
 induction h with
 |Jz n d t Z le lf la lb=>
  intro st k O o
  unfold og at o
  split at o
  case h_2=>exact o.no
  rename_i u x ai
  split at o
  case h_2=>exact o.no
  rename_i y lg lh
  have e:=ak.dx lh
  cases e
  rcases o.cs with ⟨a,lc,R⟩|⟨b,ld,R⟩
  ·rintro T w ⟨m,U⟩
   refine la a O R T w ⟨m,U.Dr ai fun v q=>?_⟩
   have q:bf w (au cx m st.ids) v (.alt n t Z) y:=q
   have lc:y=.inl a:=lc
   subst lc
   exact(bC (t:=.cP n t) rfl).2 ((bC (t:=.alt n t Z) rfl).1 q)
  ·rintro T w ⟨m,U⟩
   refine lb b O R T w ⟨m,U.Dr ai fun v q=>?_⟩
   have q:bf w (au cx m st.ids) v (.alt n t Z) y:=q
   have ld:y=.inr b:=ld
   subst ld
   have Y:=((bC (t:=.alt n t Z) rfl).1 q).2
   exact(bC lg).2 Y
 |an d f le lf la lb=>
  intro st k O o
  unfold og at o
  split at o
  case h_2=>exact o.no
  rename_i x ai
  rcases o.ite with ⟨e,R⟩|⟨e,R⟩
  ·rintro T w ⟨m,U⟩
   refine la O R T w ⟨m,U.Dr ai fun v q=>?_⟩
   have q:bf w (au cx m st.ids) v .dj x:=q
   have Y:[v]=[OO x]:=(bC (t:=.dj) rfl).1 q
   have li:x=some f:=by
    cases x with
    |none=>cases e
    |some g=>exact congrArg some (Nat.eq_of_beq_eq_true e)
   rw[li]at Y
   simp only[List.cons.injEq,and_true]at Y
   exact Y
  ·exact lb O R
 |_=>intro st k O o;exact O _ _ o
theorem vd{an:List (aG P G)}{cN:Nat}(lh:bE (cC P G cN an) cx){r:al}:∀(c:Code) {st:af} {h:bd P G al} {U:List cL} {K:kB P G al} {Q:di},
  (∀e st' h' lb,cW lb->bA (K e st' h' lb) r->N cx Q e st')->cW U->bA (run an (cC P G cN an) c st h U K) r->W cx Q c st:=by
 intro c
 induction c with
 |skip=>intro st h U K Q q O o;exact dV (q _ _ _ _ O o)
 |exit id=>intro st h U K Q q O o;exact mC (q _ _ _ _ O o)
 |ret=>intro st h U K Q q O o;exact ft (q _ _ _ _ O o)
 |block id c li=>
  intro st h U K Q q O o
  refine gt (li ?_ O o)
  intro e st' h' lb Z R
  split at R
  ·exact jS (q _ _ _ _ Z R)
  ·exact gK (q _ _ _ _ Z R)
  ·rename_i i
   split at R
   ·rename_i lc
    have lc:=Nat.eq_of_beq_eq_true lc
    subst lc
    exact mF (q _ _ _ _ Z R)
   ·rename_i lc
    exact aa9 lc (q _ _ _ _ Z R)
  ·exact R.no
 |seq x y ld le=>
  intro st h U K Q q O o
  unfold run at o
  split at o
  ·rename_i lg S lm lt lu
   obtain⟨ll,Y⟩:=o.fX
   refine my (α:=fV lg) (fun z=>lm z=some r) (S st) (fun z lf=>le q cW.nil (ll z lf)) fun ln=>?_
   refine ld (K6 (fun st' R=>?_) q) O Y
   obtain⟨z,lj,lk⟩:=F3 R
   exact(ln z lk).norm lj
  ·refine aM (ld ?_ O o)
   intro e st' h' lb Z R
   cases e with
   |normal=>exact aN (le q Z R)
   |_=>exact q _ st' h' lb Z R
 |cond c x y ld le=>
  intro st h U K Q q O o
  unfold run at o
  split at o
  ·rename_i b la
   split at o
   ·obtain⟨e,Y⟩:=o.jX
    exact dI la (fun _=>ld q O Y) fun h=>by rw[e]at h;cases h
   ·obtain⟨e,Y⟩:=o.jX
    exact dI la (fun h=>by rw[e]at h;cases h) fun _=>le q O Y
   ·rcases o.ite with ⟨e,Y⟩|⟨e,Y⟩
    ·exact dI la (fun _=>ld q O Y) fun h=>by rw[e]at h;cases h
    ·exact dI la (fun h=>by rw[e]at h;cases h) fun _=>le q O Y
  ·exact o.no
 |loop c li=>
  intro st h U K Q q O o
  unfold run at o
  split at o
  ·rename_i lg S F k ll
   split at o
   ·rename_i z0 lv
    obtain⟨lo,lp,Y⟩:=o.iM
    obtain⟨e,lq⟩:=Y.eqs
    refine W.norm (nd (fun n z=>F n z=some r) (S st) ?_ lq.den) e
    intro n z lf
    cases n with
    |zero=>rw[lo]at lf;cases lf
    |succ n=>
     refine li (K6 (fun st' R=>?_) q) cW.nil (lp n z lf)
     obtain⟨lr,lj,lk⟩:=F3 R
     exact(ka (F:=fun n z=>F n z=some r) lr (Nat.lt_succ_self n) lk).norm lj
   ·exact o.no
  ·exact o.no
 |region id ops lw=>
  intro st h U K Q q O o
  unfold run at o
  refine SZ h (fun st h o=>?_) o
  split at o
  ·rename_i lx h'
   split at o
   ·rename_i c la
    rintro T w ⟨m,ls⟩
    exact Ax lh q O o T w ⟨m,ls.freeze (be la)⟩
   ·exact o.no
  ·split at o
   ·rename_i st' lg
    exact W.norm (Ax lh q O o) lg
   ·exact o.no
  ·exact Ax lh q O o
 |_=>intro st h U K Q q O o;exact o.no
def Lv{α:Type}(b:Bool)(aa:Option α):Option α:=bif b then aa else none
theorem ace{α:Type}{b:Bool}{aa:Option α}{y:α}(h:Lv b aa=some y):b=true/\aa=some y:=by
 cases b with
 |true=>exact⟨rfl,h⟩
 |false=>cases h
/-! Results of a wider shape. -/
def kE:(t:ah)->ak->Option t.el
 |.cO,v=>match v with
  |⟨.cP _ _,_⟩=>some ()
  |⟨.err,_⟩=>some ()
  |v=>v.as .cO
 |.alt n u r,v=>match v.as (.alt n u r)with
  |some y=>some y
  |none=>match v with
   |⟨.cP o q,y⟩=>match Nat.beq o n,ak.as ⟨q,y⟩ u with
    |true,some z=>some (.inl z)
    |_,_=>match kE r ⟨.cP o q,y⟩with
     |some z=>some (.inr z)
     |none=>none
   |v=>match v.t.agg,kE r v with
    |false,some z=>some (.inr z)
    |_,_=>none
 |t,v=>v.as t
theorem G0{w:World}{M:Nat->Prop}{u:Value}:∀(t:ah) {v:ak} {y:t.el},kE t v=some y->bf w M u v.t v.x->bf w M u t y:=by
 have O:∀(t:ah) {v:ak} {y:t.el},v.as t=some y->bf w M u v.t v.x->bf w M u t y:=by
  intro t v y h o
  have e:=ak.dx h
  subst e
  exact o
 have one:∀{t:ah} {x:t.el},t.agg=false->bf w M u t x->u.oneCell'=true:=fun W o=>hU _ ((bC W).1 o) _ List.mem_cons_self
 intro t
 induction t with
 |cO=>
  intro v y h o
  unfold kE at h
  split at h
  ·exact(bC (t:=.cO) rfl).2 ⟨u,rfl,one rfl o⟩
  ·exact(bC (t:=.cO) rfl).2 ⟨u,rfl,one rfl o⟩
  ·exact O _ h o
 |alt n a r lg Y=>
  intro v y h o
  have key:∀{v:ak} {z:r.el},v.t.agg=false->kE r v=some z->bf w M u v.t v.x->bf w M u (.alt n a r) (.inr z):=by
   intro v z Z q o
   have la:=Y q o
   refine(bC (t:=.alt n a r) rfl).2 ⟨rfl,?_⟩
   have:=jP la
   have lb:=one Z o
   have lc:u.cells.toList=[u]:=by cases u<;>first|rfl|(simp[Value.oneCell']at lb)
   rw[lc]at this
   exact this
  unfold kE at h
  split at h
  ·rename_i lh ld
   cases h
   exact O _ ld o
  ·split at h
   ·rename_i li lj lk
    split at h
    ·rename_i z R q
     cases h
     have R:=Nat.eq_of_beq_eq_true R
     subst R
     have e:=ak.dx q
     cases e
     obtain⟨v0,U,le⟩:=(bC (t:=.cP _ _) rfl).1 o
     simp only[List.cons.injEq,and_true]at U
     subst U
     exact(bC (t:=.alt _ _ r) rfl).2 ⟨v0,rfl,le⟩
    ·split at h
     ·rename_i z q
      cases h
      exact key rfl q o
     ·cases h
   ·split at h
    ·rename_i z lf q
     cases h
     exact key lf q o
    ·cases h
 |_=>intro v y h o;exact O _ h o
def iY:(us:List ah)->List ak->Option (db us)
 |[],vs=>match vs with
  |[]=>some ()
  |_=>none
 |[t],vs=>match vs with
  |[v]=>kE t v
  |_=>none
 |t::u::us,vs=>match vs with
  |v::vs=>match kE t v,iY (u::us) vs with
   |some x,some y=>some (x,y)
   |_,_=>none
  |[]=>none
theorem Lz{w:World}{M:Nat->Prop}:∀(us:List ah) {aq:List ak} {y:db us} {vs:List Value},iY us aq=some y->eg w M vs aq->eg w M vs (dQ us y)
 |[],aq,y,vs,h,q=>by
  unfold iY at h
  split at h
  ·exact q
  ·cases h
 |[t],aq,y,vs,h,q=>by
  match aq,h with
  |[v],h=>
   match vs,q with
   |[u],⟨o,O⟩=>exact⟨G0 t (show kE t v=some y from h) o,O⟩
   |[],o=>exact o.elim
   |_::_::_,⟨_,o⟩=>exact o.elim
  |[],h=>cases h
  |_::_::_,h=>cases h
 |t::u::us,aq,y,vs,h,q=>by
  unfold iY at h
  split at h
  ·rename_i v W
   split at h
   ·rename_i a b o O
    cases h
    match vs,q with
    |v0::vs,⟨R,U⟩=>exact⟨G0 t o R,Lz (u::us) O U⟩
    |[],o=>exact o.elim
   ·cases h
  ·cases h
theorem N8{w:World}{M:Nat->Prop}{v:Value}:∀(us:List ah) {aq:List ak} {y:db us},iY us aq=some y->kQ w M v aq->kQ w M v (dQ us y)
 |[],aq,y,h,o=>trivial
 |[t],aq,y,h,o=>by
  match aq,h,o with
  |[u],h,o=>exact G0 t (show kE t u=some y from h) o
  |[],h,_=>cases h
  |_::_::_,h,_=>cases h
 |t::u::us,aq,y,h,o=>by
  match aq,h,o with
  |a::b::aq,h,⟨vs,e,o⟩=>
   have q:=Lz (t::u::us) h o
   match us,y,q with
   |[],y,q=>exact⟨vs,e,q⟩
   |_::_,y,q=>exact⟨vs,e,q⟩
  |[],h,_=>cases h
  |[a],h,_=>
   exfalso
   have O:iY (u::us) []=none:=by cases us<;>rfl
   unfold iY at h
   simp only[O]at h
   split at h
   ·rename_i R q
    cases q
   ·cases h
theorem Ag{P:Program}{n:Nat}{M:Nat->Prop}{w0:World}{fn:Func}{aq:List ak}{e:Exit}{us:List ah}{y:db us}{m0:Nat->Value}(U:e=.ret\/e=.normal)(Y:iD P (kI st) fn.results.toList=some aq)(W:iY us aq=some y):
  N ⟨P,n,w0,M,fun _=>False,m0⟩ (tM P fn M w0 (dQ us y)) e st:=by
 intro T w Z
 have h:=xP (M:=M) (w0:=w0) (n:=n) U Y T w Z
 rcases U with rfl|rfl
 ·obtain⟨o,v,q,v',e,O,R⟩:=h
  exact⟨o,v,q,v',e,N8 us W O,R⟩
 ·obtain⟨o,v,q,v',e,O,R⟩:=h
  exact⟨o,v,q,v',e,N8 us W O,R⟩
/-! Contracts. -/
def aaM(o:Program)(q:List ResultVar)(cU:List ah):kB P G (db cU):=fun e st _ _=>
 match e with
 |.ret=>match iD o (kI st) q with
  |some aq=>.ret (iY cU aq)
  |none=>.ret none
 |.normal=>match iD o (kI st) q with
  |some aq=>.ret (iY cU aq)
  |none=>.ret none
 |_=>.ret none
def qG(P:Program)(G:World->Prop)(n:Nat)(an:List (aG P G))(c:Code)(o:List ResultVar)(F:aS)(h:db F.eZ->bd P G (db F.cU))(x:db F.eZ):bv (db F.cU):=
 run an (cC P G n an) c ⟨mG 0 (dQ F.eZ x),[],[]⟩ (h x) [] (aaM P o F.cU)
theorem jp{F:aS}{o aq:List ak}(h:F.aT.rel o aq):∃x y,o=dQ F.eZ x/\aq=dQ F.cU y/\F.fn x=some y:=by
 have h:(match ge F.eZ o,ge F.cU aq with
  |some x,some y=>F.fn x=some y
  |_,_=>False):=h
 split at h
 ·rename_i x y q O
  exact⟨x,y,BT _ _ _ q,BT _ _ _ O,h⟩
 ·exact h.elim
theorem bl{P:Program}{G:World->Prop}(U:∀w w',Frame w w' (fun _=>False)->G w->G w'){f:FuncId}{fn:Func}{c:Code}(W:P.funcs[f]? =some fn)(Y:(fn.name== "runtime.NumGoroutine")=false)(Z:fn.body=some c)
  {n:Nat}(R:fn.ntmps=n)(F:aS)(ai:Nat.ble F.eZ.length n=true)(an:List (aG P G))(h:db F.eZ->bd P G (db F.cU))
  (la:(fun x=>((qG P G n an c fn.results.toList F h x).eB,(qG P G n an c fn.results.toList F h x).den))=fun x=>((qG P G n an c fn.results.toList F h x).eA,F.fn x)):aV P G f F.aT:=by
 refine By U W Y Z ?_ ?_
 ·intro lb aq h
  obtain⟨x,y,rfl,rfl,_⟩:=jp h
  refine⟨by rw[kL,R];exact Nat.le_of_ble_eq_true ai,kL _ _,fun lc u ld=>?_⟩
  exact List.all_eq_true.1 lc _ (pM _ _ u ld)
 ·intro w0 M lb aq le h
  obtain⟨x,y,rfl,rfl,lf⟩:=jp h
  have lg:bE (cC P G n an) ⟨P,fn.ntmps,w0,M,fun _=>False,fun _=>undef⟩:=jy rfl R le
  have O:=congrFun la x
  simp only[Prod.mk.injEq]at O
  refine vd lg c (r:=y) ?_ cW.nil ⟨bv.gG _ O.1,O.2.trans lf⟩
  intro e st' h' lj _ o
  have key:∀q,(q=.ret\/q=.normal)->bA (match iD P (kI st') fn.results.toList with
    |some aq=>bv.ret (iY F.cU aq)
    |none=>.ret none) y->N ⟨P,fn.ntmps,w0,M,fun _=>False,fun _=>undef⟩ (tM P fn M w0 (dQ F.cU y)) q st':=by
   intro q lh o
   split at o
   ·rename_i aq li
    exact Ag lh li o.den
   ·exact o.no
  cases e with
  |ret=>exact key _ (.inl rfl) o
  |normal=>exact key _ (.inr rfl) o
  |_=>exact o.no
theorem Zj{P:Program}{G:World->Prop}(Z:∀w w',Frame w w' (fun _=>False)->G w->G w'){f:FuncId}{fn:Func}{c:Code}(la:P.funcs[f]? =some fn)(lb:(fn.name== "runtime.NumGoroutine")=false)(lc:fn.body=some c)
  {n:Nat}(W:fn.ntmps=n)(F:aS)(ai:Nat.ble F.eZ.length n=true)(an:List (aG P G))(R:List ah)(q:db R->db F.eZ)(Y:db R->Option (db F.cU))(ld:∀z y,F.fn z=some y->∃x,q x=z/\Y x=some y)(h:db R->bd P G (db F.cU))
  (le:(fun x=>((qG P G n an c fn.results.toList F (fun _=>h x) (q x)).eB,(qG P G n an c fn.results.toList F (fun _=>h x) (q x)).den))=fun x=>((qG P G n an c fn.results.toList F (fun _=>h x) (q x)).eA,Y x)):aV P G f F.aT:=by
 refine By Z la lb lc ?_ ?_
 ·intro lf aq h
  obtain⟨x,y,rfl,rfl,_⟩:=jp h
  refine⟨by rw[kL,W];exact Nat.le_of_ble_eq_true ai,kL _ _,fun lg u lh=>?_⟩
  exact List.all_eq_true.1 lg _ (pM _ _ u lh)
 ·intro w0 M lf aq li lj
  obtain⟨z,y,rfl,rfl,lk⟩:=jp lj
  obtain⟨x,rfl,ll⟩:=ld z y lk
  have lm:bE (cC P G n an) ⟨P,fn.ntmps,w0,M,fun _=>False,fun _=>undef⟩:=jy rfl W li
  have U:=congrFun le x
  simp only[Prod.mk.injEq]at U
  refine vd lm c (r:=y) ?_ cW.nil ⟨bv.gG _ U.1,U.2.trans ll⟩
  intro e st' h' lp _ o
  have key:∀O,(O=.ret\/O=.normal)->bA (match iD P (kI st') fn.results.toList with
    |some aq=>bv.ret (iY F.cU aq)
    |none=>.ret none) y->N ⟨P,fn.ntmps,w0,M,fun _=>False,fun _=>undef⟩ (tM P fn M w0 (dQ F.cU y)) O st':=by
   intro O ln o
   split at o
   ·rename_i aq lo
    exact Ag ln lo o.den
   ·exact o.no
  cases e with
  |ret=>exact key _ (.inl rfl) o
  |normal=>exact key _ (.inr rfl) o
  |_=>exact o.no
theorem Oa{P:Program}{G:World->Prop}{f:FuncId}{fn:Func}{c:Code}(q:P.funcs[f]? =some fn)(O:(fn.name== "runtime.NumGoroutine")=false)(R:fn.body=some c)(F:aS)(h:∀x,F.fn x=none):aV P G f F.aT where
 enters:=enters_of q O R
 shape:=fun U aq o=>by
  obtain⟨x,y,_,_,e⟩:=jp o
  rw[h]at e
  cases e
 calls:=fun w M vs U aq _ _ o=>by
  obtain⟨x,y,_,_,e⟩:=jp o
  rw[h]at e
  cases e
/-! Contracts of functions that change what their caller owns. -/
def ow:Nat->List ap->List (Nat×ap)
 |_,[]=>[]
 |k,s::l=>(k,s)::ow (k+1) l
def B6{α β:Type}(o:Program)(q:List ResultVar)(F:b8 α β)(O:af->Option β)(bs R:List Nat)(x:α)(st:af):bv β:=
 match pH o st q,st.norm [] bs R with
 |some aq,some s=>match O ⟨ow 0 aq,s.ae,s.rw⟩with
  |some y=>.eqs (some ⟨ow 0 aq,s.ae,s.rw⟩) (some ⟨ow 0 (F.aq x y),(F.bg x y).ae,(F.bg x y).rw⟩) (.eqs (some s) (some (F.bg x y)) (.ret (some y)))
  |none=>.ret none
 |_,_=>.ret none
def QZ{α β:Type}(o:Program)(q:List ResultVar)(F:b8 α β)(O:af->Option β)(bs R:List Nat)(x:α):kB P G β:=fun e st h _=>
 let t:=match sE h st with
  |some st=>B6 o q F O bs R x st
  |none=>.ret none
 match e with
 |.ret=>t
 |.normal=>t
 |_=>.ret none
theorem JT:∀{k:Nat} {a b:List ap},ow k a=ow k b->a=b
 |_,[],[],_=>rfl
 |_,[],_::_,h=>by cases h
 |_,_::_,[],h=>by cases h
 |k,x::a,y::b,h=>by
  simp only[ow,List.cons.injEq,Prod.mk.injEq,true_and]at h
  rw[h.1,JT h.2]
def mw(P:Program)(G:World->Prop){α β:Type}(an:List (aG P G))(c:Code)(o:List ResultVar)(F:b8 α β)(q:af->Option β)(bs O:List Nat)(h:α->bd P G β)(x:α):bv β:=
 run an (cC P G F.n an) c (F.S x) (h x) [] (QZ P o F q bs O x)
theorem J8{P:Program}{G:World->Prop}{fn:Func}{c:Code}{α β:Type}
  (F:b8 α β)(an:List (aG P G))(Z:α->Option β)(lb:∀x y,F.rel x y->Z x=some y)(O:af->Option β)(bs q:List Nat)(h:α->bd P G β)
  (lc:(fun x=>((mw P G an c fn.results.toList F O bs q h x).eB,(mw P G an c fn.results.toList F O bs q h x).den))=fun x=>((mw P G an c fn.results.toList F O bs q h x).eA,Z x)):
  ∀cx:bJ,cx.P=P->cx.n=F.n->(∀w,Frame cx.w0 w cx.X->G w)->∀x y,F.rel x y->W cx (uS cx.P fn cx (F.bg x y) (F.aq x y)) c (F.S x):=by
 intro cx la ld le x y lf
 have lg:bE (cC P G F.n an) cx:=jy la ld le
 have Y:=congrFun lc x
 simp only[Prod.mk.injEq]at Y
 refine vd lg c (r:=y) ?_ cW.nil ⟨bv.gG _ Y.1,Y.2.trans (lb x y lf)⟩
 intro e st' h' lp _ o
 have key:∀R,(R=.ret\/R=.normal)->bA (match sE h' st' with
   |some st'=>B6 P fn.results.toList F O bs q x st'
   |none=>.ret none) y->N cx (uS cx.P fn cx (F.bg x y) (F.aq x y)) R st':=by
  intro R lh o
  split at o
  ·rename_i lq li
   refine I1 li ?_
   unfold B6 at o
   split at o
   ·rename_i aq s lj lk
    split at o
    ·obtain⟨U,ll⟩:=o.eqs
     obtain⟨lm,ln⟩:=ll.eqs
     have lo:=Option.some.inj ln.den
     subst lo
     have U:=Option.some.inj U
     simp only[af.mk.injEq]at U
     exact fN la bs q lh (by rw[lj,JT U.1]) (by rw[lk,Option.some.inj lm])
    ·exact o.no
   ·exact o.no
  ·exact o.no
 cases e with
 |ret=>exact key _ (.inl rfl) o
 |normal=>exact key _ (.inr rfl) o
 |_=>exact o.no
theorem dO{P:Program}{G:World->Prop}{f:FuncId}{fn:Func}{c:Code}{α β:Type}(R:P.funcs[f]? =some fn)(U:(fn.name== "runtime.NumGoroutine")=false)(W:fn.body=some c)
  (F:b8 α β)(Y:fn.ntmps=F.n)(an:List (aG P G))(O:α->Option β)(Z:∀x y,F.rel x y->O x=some y)(o:af->Option β)(bs q:List Nat)(h:α->bd P G β)
  (la:(fun x=>((mw P G an c fn.results.toList F o bs q h x).eB,(mw P G an c fn.results.toList F o bs q h x).den))=fun x=>((mw P G an c fn.results.toList F o bs q h x).eA,O x)):cq P G f F:=
 pb R U W Y (J8 F an O Z o bs q h la)
theorem U7{F:aS}{fn:Func}{n:Nat}(q:fn.ntmps=n)(ai:Nat.ble F.eZ.length n=true):∀o aq,F.aT.rel o aq->o.length<=fn.ntmps/\aq.length=F.aT.fQ/\(F.aT.flat=true->∀u∈aq,u.t.flat=true):=by
 intro o aq h
 obtain⟨x,y,rfl,rfl,_⟩:=jp h
 exact⟨by rw[kL,q];exact Nat.le_of_ble_eq_true ai,kL _ _,fun O u R=>List.all_eq_true.1 O _ (pM _ _ u R)⟩
theorem NS{P:Program}{G:World->Prop}{f:Nat}{C:jk}(h:aV P G f C)(F:aS)(q:∀x y,F.fn x=some y->C.rel (dQ F.eZ x) (dQ F.cU y)):aV P G f F.aT where
 enters:=h.enters
 shape:=fun O aq o=>by
  obtain⟨x,y,rfl,rfl,_⟩:=jp o
  exact⟨kL _ _,fun R u U=>List.all_eq_true.1 R _ (pM _ _ u U)⟩
 calls:=fun w M vs O aq W Y o=>by
  obtain⟨x,y,rfl,rfl,e⟩:=jp o
  exact h.calls w M vs _ _ W Y (q x y e)
theorem CQ{P:Program}{G:World->Prop}{f:FuncId}{fn:Func}{c:Code}{α β:Type}(o:P.funcs[f]? =some fn)(q:(fn.name== "runtime.NumGoroutine")=false)(O:fn.body=some c)(F:b8 α β)(h:∀x y,F.rel x y->False):cq P G f F where
 enters:=enters_of o q O
 calls:=fun _ _ _ _ x y R=>(h x y R).elim
def vC{o:Type}(f:o):Unit->o:=fun _=>f
def cg{o q O:Type}(f:o->q->O):o×q->O:=fun z=>f z.1 z.2
def dF{o q O:Type}(g:o×q->O):o->q->O:=fun R U=>g (R,U)
def gD{o q O R:Type}(f:o->q->O->R):o×q×O->R:=fun z=>f z.1 z.2.1 z.2.2
def gM{o q O R:Type}(g:o×q×O->R):o->q->O->R:=fun U W Y=>g (U,W,Y)
def uH{o q O R U:Type}(f:o->q->O->R->U):o×q×O×R->U:=fun z=>f z.1 z.2.1 z.2.2.1 z.2.2.2
def vZ{o q O R U:Type}(g:o×q×O×R->U):o->q->O->R->U:=fun W Y Z la=>g (W,Y,Z,la)
def Tc{o q O R U W:Type}(f:o->q->O->R->U->W):o×q×O×R×U->W:=fun z=>f z.1 z.2.1 z.2.2.1 z.2.2.2.1 z.2.2.2.2
def yc{o q O R U W:Type}(g:o×q×O×R×U->W):o->q->O->R->U->W:=fun Y Z la lb lc=>g (Y,Z,la,lb,lc)
def UH{o q O R U W Y Z la:Type}(f:o->q->O->R->U->W->Y->Z->la):o×q×O×R×U×W×Y×Z->la:=fun z=>f z.1 z.2.1 z.2.2.1 z.2.2.2.1 z.2.2.2.2.1 z.2.2.2.2.2.1 z.2.2.2.2.2.2.1 z.2.2.2.2.2.2.2
def TF{o q O R U W Y Z la:Type}(g:o×q×O×R×U×W×Y×Z->la):o->q->O->R->U->W->Y->Z->la:=fun lb lc ld le lf lg lh li=>g (lb,lc,ld,le,lf,lg,lh,li)
def KI{o q O R U W Y Z la lb:Type}(f:o->q->O->R->U->W->Y->Z->la->lb):o×q×O×R×U×W×Y×Z×la->lb:=fun z=>f z.1 z.2.1 z.2.2.1 z.2.2.2.1 z.2.2.2.2.1 z.2.2.2.2.2.1 z.2.2.2.2.2.2.1 z.2.2.2.2.2.2.2.1 z.2.2.2.2.2.2.2.2
def R1{o q O R U W Y Z la lb:Type}(g:o×q×O×R×U×W×Y×Z×la->lb):o->q->O->R->U->W->Y->Z->la->lb:=fun lc ld le lf lg lh li lj lk=>g (lc,ld,le,lf,lg,lh,li,lj,lk)
def RA{o q O R U W Y Z la lb lc:Type}(f:o->q->O->R->U->W->Y->Z->la->lb->lc):o×q×O×R×U×W×Y×Z×la×lb->lc:=fun z=>f z.1 z.2.1 z.2.2.1 z.2.2.2.1 z.2.2.2.2.1 z.2.2.2.2.2.1 z.2.2.2.2.2.2.1 z.2.2.2.2.2.2.2.1 z.2.2.2.2.2.2.2.2.1 z.2.2.2.2.2.2.2.2.2
def Gz{o q O R U W Y Z la lb lc:Type}(g:o×q×O×R×U×W×Y×Z×la×lb->lc):o->q->O->R->U->W->Y->Z->la->lb->lc:=fun ld le lf lg lh li lj lk ll lm=>g (ld,le,lf,lg,lh,li,lj,lk,ll,lm)
def ZB{o q O R U W Y Z la lb lc ld:Type}(f:o->q->O->R->U->W->Y->Z->la->lb->lc->ld):o×q×O×R×U×W×Y×Z×la×lb×lc->ld:=fun z=>f z.1 z.2.1 z.2.2.1 z.2.2.2.1 z.2.2.2.2.1 z.2.2.2.2.2.1 z.2.2.2.2.2.2.1 z.2.2.2.2.2.2.2.1 z.2.2.2.2.2.2.2.2.1 z.2.2.2.2.2.2.2.2.2.1 z.2.2.2.2.2.2.2.2.2.2
def zC{o q O R U W Y Z la lb lc ld le:Type}(f:o->q->O->R->U->W->Y->Z->la->lb->lc->ld->le):o×q×O×R×U×W×Y×Z×la×lb×lc×ld->le:=fun z=>f z.1 z.2.1 z.2.2.1 z.2.2.2.1 z.2.2.2.2.1 z.2.2.2.2.2.1 z.2.2.2.2.2.2.1 z.2.2.2.2.2.2.2.1 z.2.2.2.2.2.2.2.2.1 z.2.2.2.2.2.2.2.2.2.1 z.2.2.2.2.2.2.2.2.2.2.1 z.2.2.2.2.2.2.2.2.2.2.2
def Dw{o q O R U W Y Z la lb lc ld le:Type}(g:o×q×O×R×U×W×Y×Z×la×lb×lc×ld->le):o->q->O->R->U->W->Y->Z->la->lb->lc->ld->le:=fun lf lg lh li lj lk ll lm ln lo lp lq=>g (lf,lg,lh,li,lj,lk,ll,lm,ln,lo,lp,lq)
def V0{o q O R U W Y Z la lb lc ld le lf:Type}(f:o->q->O->R->U->W->Y->Z->la->lb->lc->ld->le->lf):o×q×O×R×U×W×Y×Z×la×lb×lc×ld×le->lf:=fun z=>f z.1 z.2.1 z.2.2.1 z.2.2.2.1 z.2.2.2.2.1 z.2.2.2.2.2.1 z.2.2.2.2.2.2.1 z.2.2.2.2.2.2.2.1 z.2.2.2.2.2.2.2.2.1 z.2.2.2.2.2.2.2.2.2.1 z.2.2.2.2.2.2.2.2.2.2.1 z.2.2.2.2.2.2.2.2.2.2.2.1 z.2.2.2.2.2.2.2.2.2.2.2.2
def Pz{o q O R U W Y Z la lb lc ld le lf:Type}(g:o×q×O×R×U×W×Y×Z×la×lb×lc×ld×le->lf):o->q->O->R->U->W->Y->Z->la->lb->lc->ld->le->lf:=fun lg lh li lj lk ll lm ln lo lp lq lr ls=>g (lg,lh,li,lj,lk,ll,lm,ln,lo,lp,lq,lr,ls)
def Ll{o q O R U W Y Z la lb lc ld le lf lg:Type}(f:o->q->O->R->U->W->Y->Z->la->lb->lc->ld->le->lf->lg):o×q×O×R×U×W×Y×Z×la×lb×lc×ld×le×lf->lg:=fun z=>f z.1 z.2.1 z.2.2.1 z.2.2.2.1 z.2.2.2.2.1 z.2.2.2.2.2.1 z.2.2.2.2.2.2.1 z.2.2.2.2.2.2.2.1 z.2.2.2.2.2.2.2.2.1 z.2.2.2.2.2.2.2.2.2.1 z.2.2.2.2.2.2.2.2.2.2.1 z.2.2.2.2.2.2.2.2.2.2.2.1 z.2.2.2.2.2.2.2.2.2.2.2.2.1 z.2.2.2.2.2.2.2.2.2.2.2.2.2
def ZS{o q O R U W Y Z la lb lc ld le lf lg lh:Type}(f:o->q->O->R->U->W->Y->Z->la->lb->lc->ld->le->lf->lg->lh):o×q×O×R×U×W×Y×Z×la×lb×lc×ld×le×lf×lg->lh:=fun z=>f z.1 z.2.1 z.2.2.1 z.2.2.2.1 z.2.2.2.2.1 z.2.2.2.2.2.1 z.2.2.2.2.2.2.1 z.2.2.2.2.2.2.2.1 z.2.2.2.2.2.2.2.2.1 z.2.2.2.2.2.2.2.2.2.1 z.2.2.2.2.2.2.2.2.2.2.1 z.2.2.2.2.2.2.2.2.2.2.2.1 z.2.2.2.2.2.2.2.2.2.2.2.2.1 z.2.2.2.2.2.2.2.2.2.2.2.2.2.1 z.2.2.2.2.2.2.2.2.2.2.2.2.2.2
def abM{o q O R U W Y Z la lb lc ld le lf lg lh:Type}(g:o×q×O×R×U×W×Y×Z×la×lb×lc×ld×le×lf×lg->lh):o->q->O->R->U->W->Y->Z->la->lb->lc->ld->le->lf->lg->lh:=fun li lj lk ll lm ln lo lp lq lr ls lt lu lv lw=>g (li,lj,lk,ll,lm,ln,lo,lp,lq,lr,ls,lt,lu,lv,lw)
def aaT{o q O R U W Y Z la lb lc ld le lf lg lh li lj lk ll:Type}(f:o->q->O->R->U->W->Y->Z->la->lb->lc->ld->le->lf->lg->lh->li->lj->lk->ll):o×q×O×R×U×W×Y×Z×la×lb×lc×ld×le×lf×lg×lh×li×lj×lk->ll:=fun z=>f z.1 z.2.1 z.2.2.1 z.2.2.2.1 z.2.2.2.2.1 z.2.2.2.2.2.1 z.2.2.2.2.2.2.1 z.2.2.2.2.2.2.2.1 z.2.2.2.2.2.2.2.2.1 z.2.2.2.2.2.2.2.2.2.1 z.2.2.2.2.2.2.2.2.2.2.1 z.2.2.2.2.2.2.2.2.2.2.2.1 z.2.2.2.2.2.2.2.2.2.2.2.2.1 z.2.2.2.2.2.2.2.2.2.2.2.2.2.1 z.2.2.2.2.2.2.2.2.2.2.2.2.2.2.1 z.2.2.2.2.2.2.2.2.2.2.2.2.2.2.2.1 z.2.2.2.2.2.2.2.2.2.2.2.2.2.2.2.2.1 z.2.2.2.2.2.2.2.2.2.2.2.2.2.2.2.2.2.1 z.2.2.2.2.2.2.2.2.2.2.2.2.2.2.2.2.2.2
def Ti{o q O R U W Y Z la lb lc ld le lf lg lh li lj lk ll:Type}(g:o×q×O×R×U×W×Y×Z×la×lb×lc×ld×le×lf×lg×lh×li×lj×lk->ll):o->q->O->R->U->W->Y->Z->la->lb->lc->ld->le->lf->lg->lh->li->lj->lk->ll:=fun lm ln lo lp lq lr ls lt lu lv lw lx ly lz lA lB lC lD lE=>g (lm,ln,lo,lp,lq,lr,ls,lt,lu,lv,lw,lx,ly,lz,lA,lB,lC,lD,lE)
end Go.Ev
namespace Go.Ev
open Go Go.RowKit
variable [cm]
variable {P:Program} {G:World->Prop}
variable {cx:bJ} {m:Nat->Value} {st st':af} {T:Array Value} {w w':World} {E:Env}
theorem R2{f:FuncId}{fn:Func}{c:Code}{α β:Type}{F:b8 α β}(o:P.funcs[f]? =some fn)(O:(fn.name== "runtime.NumGoroutine")=false)(q:fn.body=some c)(R:fn.ntmps=F.n)
  (U:∀cx:bJ,cx.P=P->cx.n=F.n->(∀w,Frame cx.w0 w cx.X->G w)->∀x y,F.rel x y->W cx (uS cx.P fn cx (F.bg x y) (F.aq x y)) c (F.S x)):u5 P G f F where
 enters:=enters_of o O q
 calls:=fun cx Y Z la x y lb vs w u _ h=>by
  subst Y
  refine callsD_of_wp o q ?_
  rw[R]
  exact U cx rfl Z la x y lb _ _ h
theorem K4{f:FuncId}{fn:Func}{c:Code}{α β:Type}(R:P.funcs[f]? =some fn)(U:(fn.name== "runtime.NumGoroutine")=false)(W:fn.body=some c)
  (F:b8 α β)(Y:fn.ntmps=F.n)(an:List (aG P G))(O:α->Option β)(Z:∀x y,F.rel x y->O x=some y)(o:af->Option β)(bs q:List Nat)(h:α->bd P G β)
  (la:(fun x=>((mw P G an c fn.results.toList F o bs q h x).eB,(mw P G an c fn.results.toList F o bs q h x).den))=fun x=>((mw P G an c fn.results.toList F o bs q h x).eA,O x)):u5 P G f F:=
 R2 R U W Y (J8 F an O Z o bs q h la)
def af.BG(st:af)(ρ:List (Nat×Nat)):Option af:=
 match nodupB (ρ.map (·.1)),nodupB (ρ.map (·.2)),nodupB (af.ids ⟨[],eH ρ st.ae ρ,eP st.rw ρ⟩)with
 |true,true,true=>some ⟨st.ab.map fun p=>(p.1,p.2.cb ρ),eH ρ st.ae ρ,eP st.rw ρ⟩
 |_,_,_=>none
theorem ao.Qh(h:ao cx m st T w){ρ:List (Nat×Nat)}(Z:st.BG ρ=some st'):∃aA,ao {cx with m0:=aA} aA st' T w:=by
 unfold af.BG at Z
 split at Z
 case h_2=>cases Z
 rename_i la lb lc
 cases Z
 have la:=gT la
 have lb:=gT lb
 have lc:=gT lc
 obtain⟨aA,ll⟩:∃aA:Nat->Value,aA=fun j=>match inv ρ j with|some i=>m i|none=>undef:=⟨_,rfl⟩
 have q:∀i j,(i,j)∈ρ->aA j=m i:=by
  intro i j o
  rw[ll]
  simp only
  rw[qD lb o]
 have ld:∀{j:Nat},j∈af.ids ⟨st.ab.map fun p=>(p.1,p.2.cb ρ),eH ρ st.ae ρ,eP st.rw ρ⟩->∃i,(i,j)∈ρ/\i∈st.ids:=fun O=>uv O
 have le:∀b,b<w.heap.size->au {cx with m0:=aA} aA (af.ids ⟨st.ab.map fun p=>(p.1,p.2.cb ρ),eH ρ st.ae ρ,eP st.rw ρ⟩) b->au cx m st.ids b:=by
  rintro b _ (lm|⟨j,O,lh⟩)
  ·exact .inl lm
  ·obtain⟨i,o,R⟩:=ld O
   rw[q i j o]at lh
   exact .inr ⟨i,R,lh⟩
 have lf:∀b,b<w.heap.size->¬au cx m st.ids b->w.heap[b]? =w.heap[b]? :=fun _ _ _=>rfl
 have li:∀v s,aX w (au cx m st.ids) m v s->aX w (au {cx with m0:=aA} aA (af.ids ⟨st.ab.map fun p=>(p.1,p.2.cb ρ),eH ρ st.ae ρ,eP st.rw ρ⟩)) aA v (s.cb ρ):=
  fun v s ln=>xN q (fG lf le ln)
 refine⟨aA,{size:=h.size,frame:=h.frame,outer:=h.outer,de:=?_,boxes:=?_,rows:=?_,apart:=?_,keys:=lc,fixed:=fun _ _ _ _ _=>rfl,kept:=fun _ _ _ _ _=>rfl}⟩
 ·intro i aU R
  obtain⟨⟨j,s⟩,lo,lp⟩:=List.mem_map.1 R
  cases lp
  obtain⟨v,U,W⟩:=h.de j s lo
  exact⟨v,U,li v s W⟩
 ·intro j c' O
  obtain⟨i,c,o,R,rfl⟩:=mK O
  obtain⟨g,U,W,lg⟩:=h.boxes i c R
  rw[q i j o]
  exact⟨g,j7.2 U,W,jA lf le (ig U) (fun _ _=>rfl) li lg⟩
 ·intro j c O
  obtain⟨i,o,R⟩:=mM O
  obtain⟨cells,U,W,lg⟩:=h.rows i c R
  exact⟨cells,by rw[q i j o];exact U,fun g Y=>W g (by rw[q i j o]at Y;exact Y),dD (fun _ _=>cS lf le c.t) lg⟩
 ·intro lv lw lq lr ls g Y lj
  obtain⟨i1,lk,lt⟩:=ld lq
  obtain⟨i2,a2,lu⟩:=ld lr
  rw[q _ _ lk]at Y
  rw[q _ _ a2]at lj
  refine h.apart i1 i2 lt lu ?_ g Y lj
  rintro rfl
  exact ls (wM la lk a2)
def sq(o:Nat)(st:af)(bs:List Nat):Bool:=bs.all fun b=>Nat.ble o b&&match look st.ae b with
 |some c=>c.one
 |none=>false
theorem D3(q:ao cx m st T w):∀{bs:List Nat},sq cx.n st bs=true->bs.map m=bs.map cx.m0
 |[],_=>rfl
 |b::bs,h=>by
  unfold sq at h
  rw[List.all_cons,Bool.and_eq_true,Bool.and_eq_true]at h
  obtain⟨⟨O,o⟩,R⟩:=h
  split at o
  ·rename_i c U
   rw[List.map_cons,List.map_cons,q.fixed b c (be U) o (Nat.le_of_ble_eq_true O),D3 q R]
  ·cases o
def Ab(st:af)(aa:Oper):Option (Nat×List Nat):=
 match aa.op,aa.guard,aa.dst with
 |.defer c,none,none=>match c.callee,c.args.toList with
  |.value x,[]=>match aW st x with
   |some (.clos f bs)=>some (f,bs)
   |_=>none
  |_,_=>none
 |_,_,_=>none
def o6(f:Nat)(m0:Nat->Value)(bs:List Nat):Deferred:={target:=.fn (.func f) (bs.map m0).toArray,args:=#[]}
theorem TW(q:ao cx m st T w){ops:Array Oper}{Q:di}{aa:Oper}{f:Nat}{bs:List Nat}(ai:Ab st aa=some (f,bs))(O:sq cx.n st bs=true)(h:Q .normal ⟨T,[o6 f cx.m0 bs]⟩ w):
  wpList cx.P ops Q [aa] ⟨T,[]⟩ w:=by
 unfold Ab at ai
 split at ai
 case h_2=>cases ai
 rename_i c R U W
 split at ai
 case h_2=>cases ai
 rename_i x Y o
 split at ai
 case h_2=>cases ai
 rename_i lf lg Z
 cases ai
 have la:Act.eval ⟨T,aj.D cx⟩ x=.func (.func f) #[] (bs.map m).toArray:=bj q Z
 have o:c.args=#[]:=by rw[<-Array.toArray_toList (xs:=c.args),o]
 refine wpList_step fun K lb=>?_
 have lc:Region.wanted aa (yielded ops T)=true:=by unfold Region.wanted;rw[U]
 rw[lc]
 simp only[if_true]
 unfold Oper.wp
 have ld:(execOp (Act.eval ⟨T,[]⟩) aa).run cx.P w=.ok (.defer (o6 f cx.m0 bs)) w:=by
  have le:Act.eval ⟨T,[]⟩ x=.func (.func f) #[] (bs.map m).toArray:=la
  simp only[execOp,R,resolve,Y,o,List.map_toArray,List.map_nil,le,Deferred.ofValue,Sem.run_bind,Sem.run_pure,Result.andThen_ok,D3 q O,o6]
  rfl
 rw[ld]
 show K (Act.put {tmps:=T,defers:=[o6 f cx.m0 bs]} aa.dst undef) w
 rw[W]
 exact lb _ _ h
theorem YY[aj cx]{o:Type}{r:o}{an:List (aG P G)}{cN:Nat}(R:bE (cC P G cN an) cx){ops:Array Oper}{Q:di}{l:List Oper}{h:bd P G o}{q:List cL}{K:fs P G o}
  (U:∀st' h' O,cW O->bA (K st' h' O) r->N cx Q .normal st')(W:cW q)(Y:bA (nC an (cC P G cN an) ops l st h q K) r):bU cx ops Q l st:=
 gc (qv R r) 5000 (i:=Q) U W Y
def wz(P:Program)(fn:Func)(M:Nat->Prop)(w0:World)(aq:List ak):di:=
 bodyPostD P fn fun e w'=>∃v,e=.returned v/\kQ w' M v aq/\Ext w0 w'
def OE{cU:List ah}(R:Program)(U:List ResultVar)(q f:Nat)(bs:List Nat)(st:af)(h:bd P G (db cU)):bv (db cU):=
 match h with
 |.iT o ρ ρ'=>match sq q st bs&&(rj st bs&&Nat.beq o.f f),jD st o.F.n ρ (bs.map fun b=>ap.ptr b 0)with
  |true,some O=>match o.X O with
   |some x=>.eqs (some O) (some (o.F.S x)) (.ask (o.fn x) fun y=>match sY st (o.F.bg x y) o.F.n q ρ ρ' with
    |some st'=>match iD R (kI st') U with
     |some aq=>.ret (iY cU aq)
     |none=>.ret none
    |none=>.ret none)
   |none=>.ret none
  |_,_=>.ret none
 |_=>.ret none
def vF{cU:List ah}(o:Program)(q:List ResultVar)(O f:Nat)(bs:List Nat)(st:af)(h:bd P G (db cU)):bv (db cU):=OE o q O f bs (kI st) h
theorem OF{cU:List ah}{fn:Func}{n:Nat}{M:Nat->Prop}{w0:World}{m0:Nat->Value}{f:Nat}{bs:List Nat}{h:bd P G (db cU)}{y:db cU}{e:Exit}(Z:e=.ret\/e=.normal)
  (la:∀w,Frame w0 w (fun _=>False)->G w)(lb:bA (vF P fn.results.toList n f bs st h) y):
  @N _ ⟨P,n,w0,M,fun _=>False,m0⟩ ⟨[o6 f m0 bs]⟩ (wz P fn M w0 (dQ cU y)) e st:=by
 rintro T w ⟨m,lc⟩
 have o:=lb
 unfold vF at o
 have q:=Dm (l:=st.ae) (Fk (l:=st.ae) (DW (l:=st.rw) lc))
 replace q:ao _ m (kI st) T w:=q
 generalize kI st=st at o q
 have key:Leaves P fn T (fun e w'=>∃v,e=.returned v/\kQ w' M v (dQ cU y)/\Ext w0 w') [o6 f m0 bs] .returning w:=by
  unfold OE at o
  split at o
  case h_2=>exact o.no
  rename_i O ρ ρ'
  split at o
  case h_2=>exact o.no
  rename_i ly Y W
  rw[Bool.and_eq_true,Bool.and_eq_true]at Y
  obtain⟨ld,le,R⟩:=Y
  have R:=Nat.eq_of_beq_eq_true R
  subst R
  split at o
  case h_2=>exact o.no
  rename_i x lz
  obtain⟨lf,lg⟩:=o.eqs
  have lh:=Option.some.inj lf
  subst lh
  obtain⟨z,li,U⟩:=lg.ask
  split at U
  case h_2=>exact U.no
  rename_i lA lj
  split at U
  case h_2=>exact U.no
  rename_i aq lk
  obtain⟨ll,lm⟩:=GI W
  have ln:=vi q le
  have lo:=G8 q W ln
  have lp:bs.map m=bs.map m0:=D3 q ld
  have lq:(O.F.S x).ab.length=bs.length:=by rw[Af W,List.length_map]
  have lr:=O.ok.calls (sub ⟨P,n,w0,M,fun _=>False,m0⟩ m st w O.F.n ρ) rfl rfl (fun w' R=>la w' (Cr q R)) x z (O.rel x z li) _ w .returning (by rw[lq,List.length_map]) ⟨_,lo⟩
  refine leaves_cons (f:=O.f) (args:=(bs.map m).toArray) (by intro ls;cases ls) ?_ ?_
  ·show(callFunc O.f (#[]++(bs.map m0).toArray)).run P w=_
   rw[<-lp,Array.empty_append]
   exact O.ok.enters _ _
  ·refine lr.mono ?_
   rintro e lB w' ⟨rfl,v,aA,lC,rfl,lt,_⟩
   obtain⟨m2,lu,_⟩:=CN q ll lm lt lj
   have lv:=Ag (M:=M) (w0:=w0) (n:=n) (m0:=m0) (e:=.ret) (.inl rfl) lk U.den T w' ⟨m2,lu⟩
   obtain⟨_,v',lw,lx⟩:=lv
   exact⟨v',lw,lx⟩
 rcases Z with rfl|rfl<;>exact key
def VC{cU:List ah}(o:Program)(q:List ResultVar)(O f:Nat)(bs:List Nat):kB P G (db cU):=fun e st h _=>
 match e with
 |.ret=>vF o q O f bs st h
 |.normal=>vF o q O f bs st h
 |_=>.ret none
def sD(P:Program)(G:World->Prop)(n:Nat)(an:List (aG P G))(O:Code)(ops:Array Oper)(rest:Code)(R:List ResultVar)(F:aS)(ρ:List (Nat×Nat))(h:db F.eZ->bd P G (db F.cU))(x:db F.eZ):bv (db F.cU):=
 run an (cC P G n an) O ⟨mG 0 (dQ F.eZ x),[],[]⟩ (h x) [] fun e st h o=>match e with
  |.normal=>match ops.toList.reverse with
   |aa::l=>nC an (cC P G n an) ops l.reverse st h o fun st h o=>match st.BG ρ with
    |some q=>match Ab q aa with
     |some (f,bs)=>match sq n q bs with
      |true=>run an (cC P G n an) rest q h o (VC P R n f bs)
      |false=>.ret none
     |none=>.ret none
    |none=>.ret none
   |[]=>.ret none
  |_=>.ret none
theorem M1(li:∀w w',Frame w w' (fun _=>False)->G w->G w'){f:FuncId}{fn:Func}{o:Code}{id:Nat}{ops:Array Oper}{rest:Code}(la:P.funcs[f]? =some fn)(lj:(fn.name== "runtime.NumGoroutine")=false)(lb:fn.body=some (.seq o (.seq (.region id ops false) rest)))
  {n:Nat}(lc:fn.ntmps=n)(F:aS)(ai:Nat.ble F.eZ.length n=true)(an:List (aG P G))(ρ:List (Nat×Nat))(h:db F.eZ->bd P G (db F.cU))
  (lk:(fun x=>((sD P G n an o ops rest fn.results.toList F ρ h x).eB,(sD P G n an o ops rest fn.results.toList F ρ h x).den))=fun x=>((sD P G n an o ops rest fn.results.toList F ρ h x).eA,F.fn x)):aV P G f F.aT where
 enters:=enters_of la lj lb
 shape:=fun ll aq h=>by
  obtain⟨x,y,rfl,rfl,_⟩:=jp h
  exact⟨kL _ _,fun lm u ln=>List.all_eq_true.1 lm _ (pM _ _ u ln)⟩
 calls:=fun w0 M vs ll aq lo lp lq lr=>by
  obtain⟨x,y,rfl,rfl,ls⟩:=jp lq
  have R:∀w,Frame w0 w (fun _=>False)->G w:=fun w' h=>li w0 w' h lo
  refine calls_of_wp_defers la lb ?_
  have lt:(dQ F.eZ x).length<=fn.ntmps:=by rw[kL,lc];exact Nat.le_of_ble_eq_true ai
  have U:=congrFun lk x
  simp only[Prod.mk.injEq]at U
  have ld:bA (sD P G n an o ops rest fn.results.toList F ρ h x) y:=⟨bv.gG _ U.1,U.2.trans ls⟩
  subst lc
  have le:bE (cC P G fn.ntmps an) ⟨P,fn.ntmps,w0,M,fun _=>False,fun _=>undef⟩:=jy rfl rfl R
  have lu:W ⟨P,fn.ntmps,w0,M,fun _=>False,fun _=>undef⟩ (wz P fn M w0 (dQ F.cU y)) (.seq o (.seq (.region id ops false) rest)) ⟨mG 0 (dQ F.eZ x),[],[]⟩:=by
   refine aM ?_
   unfold sD at ld
   refine vd le o ?_ cW.nil ld
   intro e lv lI lJ lw O
   cases e with
   |normal=>
    refine aN (aM ?_)
    simp only at O
    split at O
    case h_2=>exact O.no
    rename_i aa l lx
    have ly:ops=(l.reverse++[aa]).toArray:=by
     have:ops.toList=l.reverse++[aa]:=by rw[<-List.reverse_reverse ops.toList,lx,List.reverse_cons]
     rw[<-this]
    have lz:bU ⟨P,fn.ntmps,w0,M,fun _=>False,fun _=>undef⟩ ops (Exit.then (rest.wp P (wz P fn M w0 (dQ F.cU y))) (wz P fn M w0 (dQ F.cU y))) (l.reverse++[aa]) lv:=by
     intro T w Y
     refine tQ ?_
     refine YY le ?_ lw O T w Y
     intro lK lL lM lA q lf lg lB
     show wpList P ops _ [aa] ⟨lf,[]⟩ lg
     split at q
     case h_2=>exact q.no
     rename_i lN lC
     split at q
     case h_2=>exact q.no
     rename_i lD bs lE
     split at q
     case h_2=>exact q.no
     rename_i lF
     obtain⟨m2,lG⟩:=lB
     obtain⟨m3,lh⟩:=lG.Qh lC
     refine TW lh lE lF ?_
     have lH:bE (cC P G fn.ntmps an) ⟨P,fn.ntmps,w0,M,fun _=>False,m3⟩:=jy rfl rfl R
     letI lO:aj ⟨P,fn.ntmps,w0,M,fun _=>False,m3⟩:=⟨[o6 lD m3 bs]⟩
     refine vd lH (r:=y) rest ?_ lA q lf lg ⟨m3,lh⟩
     intro e lP lQ lR _ Z
     cases e with
     |ret=>exact OF (.inl rfl) R Z
     |normal=>exact OF (.inr rfl) R Z
     |_=>exact Z.no
    intro T w Y
    have:=lz T w Y
    rw[ly]at this⊢
    exact wp_region_lit this
   |_=>exact O.no
  exact lu _ _ (entry lp lr lt)
theorem MA{f:Nat}{d c O:List ah}{fn:Nat->db d->Option (db c)}(h:∀k,aV P G f (aS.aT ⟨d,c,O,fn k⟩))(g:db d->Nat):aV P G f (aS.aT ⟨d,c,O,fun x=>fn (g x) x⟩):=
 have key:∀o aq,(aS.aT ⟨d,c,O,fun x=>fn (g x) x⟩).rel o aq->∃k,(aS.aT ⟨d,c,O,fn k⟩).rel o aq:=by
  intro o aq q
  cases R:ge d o with
  |none=>simp only[aS.aT,R]at q
  |some x=>
   cases W:ge c aq with
   |none=>simp only[aS.aT,R,W]at q
   |some y=>
    refine⟨g x,?_⟩
    simp only[aS.aT,R,W]at q⊢
    exact q
 {enters:=(h 0).enters
  shape:=fun o aq q=>let⟨k,U⟩:=key o aq q;(h k).shape o aq U
  calls:=fun w M vs o aq Y Z q la=>let⟨k,U⟩:=key o aq q;(h k).calls w M vs o aq Y Z U la}
end Go.Ev
namespace Go.Ev
open Go
set_option linter.unusedVariables false
def D4(o:List UInt8)(q:(List UInt8)->Option (List UInt8))(t1:Bool):Option (List UInt8):=
 if t1 then
  (
   Option.bind (dK o (0:Int) (ag ((List.length o:Int)-(1:Int)))) fun O=>
   q O
  )
 else
  some (o)
def abu(c1:Int)(q:(List UInt8)->Option (List UInt8))(o:List UInt8):Option (List UInt8):=
 if decide ((0:Int)<(List.length o:Int))then
  (
   Option.bind (eE o (ag ((List.length o:Int)-(1:Int)))) fun O=>
   D4 o q (O==c1)
  )
 else
  D4 o q false
def Eu(c1:Int):Nat->(List UInt8)->Option (List UInt8)
 |0,_=>none
 |n+1,o=>abu c1 (Eu c1 n) o
def Ki(k:Nat)(o:List UInt8)(c1:Int):Option (List UInt8):=
 Eu c1 k o
def Ak(o:List UInt8)(q:(List UInt8)->Option (List UInt8))(t1:Bool):Option (List UInt8):=
 if t1 then
  (
   Option.bind (dK o (1:Int) (o.length:Int)) fun O=>
   q O
  )
 else
  some (o)
def QO(c1:Int)(q:(List UInt8)->Option (List UInt8))(o:List UInt8):Option (List UInt8):=
 if decide ((0:Int)<(List.length o:Int))then
  (
   Option.bind (eE o (0:Int)) fun O=>
   Ak o q (O==c1)
  )
 else
  Ak o q false
def BW(c1:Int):Nat->(List UInt8)->Option (List UInt8)
 |0,_=>none
 |n+1,o=>QO c1 (BW c1 n) o
def IA(k:Nat)(o:List UInt8)(c1:Int):Option (List UInt8):=
 BW c1 k o
def Xb(O:List UInt8)(R:Int->(List (Bool))->Option (List (Bool)×Bool))(i1:Int)(q:List (Bool)):Option (List (Bool)×Bool):=
 if decide (i1<(List.length O:Int))then
  (
   Option.bind (eE O i1) fun o=>
   if decide ((128:Int)<=o)then
    some (q,false)
   else
    (
     Option.bind (aP (0<=o/\o<(256:Int))) fun _=>
     Option.bind (ar q o) fun U=>
     R (ag (i1+(1:Int))) (List.set q (o).toNat true)
    )
  )
 else
  some (q,true)
def GL(o:List UInt8):Nat->Int->(List (Bool))->Option (List (Bool)×Bool)
 |0,_,_=>none
 |n+1,i1,q=>Xb o (GL o n) i1 q
def qV(k:Nat)(o:List UInt8):Option (List (Bool)×Bool):=
 GL o k (0:Int) (List.replicate 256 false)
def o3(k:Nat)(o:List (Bool))(c1:Int):Option Bool:=
 Option.bind (ar o c1) fun q=>
 some (q)
def sB(o:List UInt8):Option (List UInt8):=
 some (o)
def CB(k:Nat)(q:List (Bool))(O:(List UInt8)->Option (List UInt8))(o:List UInt8):Option (List UInt8):=
 if decide ((0:Int)<(List.length o:Int))then
  (
   Option.bind (eE o (ag ((List.length o:Int)-(1:Int)))) fun R=>
   Option.bind (o3 k q R) fun v1=>
   if !v1 then
    sB o
   else
    (
     Option.bind (dK o (0:Int) (ag ((List.length o:Int)-(1:Int)))) fun U=>
     O U
    )
  )
 else
  sB o
def oV(k:Nat)(o:List (Bool)):Nat->(List UInt8)->Option (List UInt8)
 |0,_=>none
 |n+1,q=>CB k o (oV k o n) q
def yL(k:Nat)(o:List UInt8)(q:List (Bool)):Option (List UInt8):=
 oV k q k o
def rW(o:List UInt8):Option (List UInt8):=
 some (o)
def Gf(k:Nat)(q:List (Bool))(O:(List UInt8)->Option (List UInt8))(o:List UInt8):Option (List UInt8):=
 if decide ((0:Int)<(List.length o:Int))then
  (
   Option.bind (eE o (0:Int)) fun R=>
   Option.bind (o3 k q R) fun v1=>
   if !v1 then
    rW o
   else
    (
     Option.bind (dK o (1:Int) (o.length:Int)) fun U=>
     O U
    )
  )
 else
  rW o
def oU(k:Nat)(o:List (Bool)):Nat->(List UInt8)->Option (List UInt8)
 |0,_=>none
 |n+1,q=>Gf k o (oU k o n) q
def yQ(k:Nat)(o:List UInt8)(q:List (Bool)):Option (List UInt8):=
 oU k q k o
def Me(k:Nat)(o:List UInt8)(q:List UInt8):Option (List UInt8):=
 none
def OG(k:Nat)(o:List UInt8)(q:List UInt8):Option (List UInt8):=
 none
def sX(k:Nat)(o:List UInt8)(q:List UInt8)(t2:Bool):Option (List UInt8):=
 if t2 then
  (
   Option.bind (eE o (0:Int)) fun O=>
   Option.bind (Ki k q O) fun v1=>
   Option.bind (eE o (0:Int)) fun R=>
   Option.bind (IA k v1 R) fun v2=>
   some (v2)
  )
 else
  (
   Option.bind (qV k o) fun v3=>
   if v3.2 then
    (
     Option.bind (yL k q v3.1) fun v4=>
     Option.bind (yQ k v4 v3.1) fun v5=>
     some (v5)
    )
   else
    (
     Option.bind (Me k q o) fun U=>
     Option.bind (OG k U o) fun W=>
     some (W)
    )
  )
def Fw(k:Nat)(q:List UInt8)(o:List UInt8)(t1:Bool):Option (List UInt8):=
 if t1 then
  some (q)
 else
  (
   if(List.length o:Int)==(1:Int)then
    (
     Option.bind (eE o (0:Int)) fun O=>
     sX k o q (decide (O<(128:Int)))
    )
   else
    sX k o q false
  )
def od(k:Nat)(o:List UInt8)(q:List UInt8):Option (List UInt8):=
 Fw k o q ((o==([]:List UInt8))||(q==([]:List UInt8)))
def vw(t2:Bool):Option Bool:=
 some (t2)
def E2(k:Nat)(o:List UInt8)(t1:Bool):Option Bool:=
 if t1 then
  (
   Option.bind (od k o ([97,98,99,100,101,102,103,104,105,106,107,108,109,110,111,112,113,114,115,116,117,118,119,120,121,122]:List UInt8)) fun v1=>
   vw (v1==([]:List UInt8))
  )
 else
  vw false
def qU(k:Nat)(o:List UInt8):Option Bool:=
 E2 k o ((!(o==([]:List UInt8)))&&(decide ((List.length o:Int)<=(32:Int))))
def oo(t2:Bool):Option Bool:=
 if t2 then
  some (false)
 else
  some (true)
def r3(o:Int)(t1:Bool):Option Bool:=
 if t1 then
  some (true)
 else
  (
   if decide (o<(161:Int))then
    oo (decide (o<(161:Int)))
   else
    (
     if decide ((1114111:Int)<o)then
      oo (decide ((1114111:Int)<o))
     else
      (
       if o==(65533:Int)then
        oo (o==(65533:Int))
       else
        (
         Option.bind (aP (0<=(11:Int))) fun _=>
         oo ((Int.fdiv o (2^min ((11:Int)).toNat 32))==(27:Int))
        )
      )
    )
  )
def FZ(o:Int)(t4:Bool):Option Bool:=
 r3 o t4
def Bd(o:Int)(t3:Bool):Option Bool:=
 if t3 then
  r3 o t3
 else
  FZ o (decide ((65:Int)<=o)&&(decide (o<=(90:Int))))
def ro(k:Nat)(o:Int):Option Bool:=
 Bd o (decide ((97:Int)<=o)&&(decide (o<=(122:Int))))
def IC(t1:Bool):Option Bool:=
 some (t1)
def k9(k:Nat)(o:aH)(q:Int)(O:Int):Option Bool:=
 Option.bind (aP (0<=(List.length o.1:Int))) fun _=>
 IC (((Int.fdiv (cH (BitVec.toNat (BitVec.ofInt 32 q|||BitVec.ofInt 32 O))) (2^min ((List.length o.1:Int)).toNat 32))==(0:Int))&&((cH (BitVec.toNat (BitVec.ofInt 32 q&&&BitVec.ofInt 32 O)))==(0:Int)))
def Bs(o:Int->bS->Option Int)(t3:Int)(m1:List bD)(q:List UInt8)(t4:Bool):Option Int:=
 if t4 then
  some ((7:Int))
 else
  o (ag (t3+(1:Int))) (cn (aR .str) m1 q true)
def qy(aC:Int->nf->Option Int)(t5:Int)(m2:List (Int×Bool))(o:cK)(t7:Bool):Option Int:=
 if t7 then
  some ((7:Int))
 else
  aC (ag (t5+(1:Int))) (cn (aR (.int .i32)) m2 o.1 true)
def BX(k:Nat)(aC:Int->nf->Option Int)(t5:Int)(m2:List (Int×Bool))(o:cK)(q:aH)(t6:Bool):Option Int:=
 if t6 then
  qy aC t5 m2 o true
 else
  (
   Option.bind (k9 k (q.1,q.2.1,()) o.2.1 o.2.2.1) fun v3=>
   qy aC t5 m2 o (!v3)
  )
def zS(k:Nat)(o:aH)(aC:Int->nf->Option Int)(t5:Int)(m2:List (Int×Bool)):Option Int:=
 if decide (t5<(List.length o.2.1:Int))then
  (
   Option.bind (ar o.2.1 t5) fun q=>
   Option.bind (ro k q.1) fun v2=>
   BX k aC t5 m2 q o ((!v2)||((bM (aR (.int .i32)) m2 q.1).getD false))
  )
 else
  some ((0:Int))
def k8(k:Nat)(o:aH):Nat->Int->nf->Option Int
 |0,_,_=>none
 |n+1,t5,m2=>zS k o (k8 k o n) t5 m2
def GK(k:Nat)(o:aH)(O:Int->bS->Option Int)(t3:Int)(m1:List bD):Option Int:=
 if decide (t3<(List.length o.1:Int))then
  (
   Option.bind (ar o.1 t3) fun q=>
   Option.bind (qU k q) fun v1=>
   Bs O t3 m1 q ((!v1)||((bM (aR .str) m1 q).getD false))
  )
 else
  k8 k o k (0:Int) ([]:List (Int×Bool))
def pd(k:Nat)(o:aH):Nat->Int->bS->Option Int
 |0,_,_=>none
 |n+1,t3,m1=>GK k o (pd k o n) t3 m1
def DG(k:Nat)(o:aH)(t2:Bool):Option Int:=
 if t2 then
  some ((7:Int))
 else
  pd k o k (0:Int) ([]:List bD)
def Az(k:Nat)(o:aH)(t1:Bool):Option Int:=
 DG k o (t1||(decide ((128:Int)<(List.length o.2.1:Int))))
def eK(k:Nat)(o:aH):Option Int:=
 Az k o (decide ((24:Int)<(List.length o.1:Int))||(decide ((List.length o.2.1:Int)<(1:Int))))
def zT(t1:Bool):Option Bool:=
 some (t1)
def xU(k:Nat)(o:List UInt8):Option Bool:=
 if decide ((List.length o:Int)<=(32:Int))then
  (
   Option.bind (od k o ([97,98,99,100,101,102,103,104,105,106,107,108,109,110,111,112,113,114,115,116,117,118,119,120,121,122,48,49,50,51,52,53,54,55,56,57,45]:List UInt8)) fun v1=>
   zT (v1==([]:List UInt8))
  )
 else
  zT false
def Bg(k:Nat)(l1:cK)(t1:Int):Option Bool:=
 some (l1.1==t1)
def Jq(k:Nat)(o:List ax)(f1:(Int×Unit))(q:Int->Option Int)(t1:Int):Option Int:=
 if decide (t1<(List.length o:Int))then
  (
   Option.bind (ar o t1) fun O=>
   Option.bind (Bg k O f1.1) fun v1=>
   if v1 then
    some (t1)
   else
    q (ag (t1+(1:Int)))
  )
 else
  some ((-1:Int))
def uN(k:Nat)(o:List ax)(f1:(Int×Unit)):Nat->Int->Option Int
 |0,_=>none
 |n+1,t1=>Jq k o f1 (uN k o f1 n) t1
def yv(k:Nat)(o:List ax)(f1:(Int×Unit)):Option Int:=
 uN k o f1 k (0:Int)
def jw(k:Nat)(o:aH)(O:Int):Option jE:=
 Option.bind (eK k (o.1,o.2.1,())) fun v1=>
 if v1 !=(0:Int)then
  some (((0:Int),(0:Int),(0:Int),()),v1)
 else
  (
   Option.bind (yv k o.2.1 (O,())) fun v2=>
   if decide (v2<(0:Int))then
    some (((0:Int),(0:Int),(0:Int),()),(5:Int))
   else
    (
     Option.bind (ar o.2.1 v2) fun q=>
     some ((q.1,q.2.1,q.2.2.1,()),(0:Int))
    )
  )
def qM(k:Nat)(o:aH)(q:Int):Option Bool:=
 Option.bind (jw k (o.1,o.2.1,()) q) fun v1=>
 some (v1.2==(0:Int))
def oF(k:Nat)(o:List UInt8)(l1:List (Int)):Option (Option (Option (Nat×Int))×Int×List (Int)):=
 Option.bind (yG k l1) fun v1=>
 Option.bind (aP (List.length l1+List.length (dM o)<=bF)) fun _=>
 some ((none:Option (Option (Nat×Int))),(List.length o:Int),l1++(dM o))
def oW(o:Int->(List (Int))->Option bh)(t1:Int)(t3:List (Int)):Option bh:=
 o (ag (t1+(1:Int))) t3
def Jo(k:Nat)(O:aH)(R:Int)(U:Int)(q:Int->(List (Int))->Option bh)(t1:Int)(t2:List (Int)):Option bh:=
 if decide (t1<(List.length O.1:Int))then
  (
   Option.bind (ar O.1 t1) fun o=>
   Option.bind (aP (0<=t1)) fun _=>
   if(cH (BitVec.toNat (BitVec.ofInt 32 (Int.fdiv R (2^min (t1).toNat 32))&&&BitVec.ofInt 32 (1:Int))))==(1:Int)then
    (
     Option.bind (aP (List.length ([43]:List UInt8)+List.length o<=bF)) fun _=>
     Option.bind (oF k (([43]:List UInt8)++o) t2) fun v3=>
     oW q t1 v3.2.2
    )
   else
    (
     Option.bind (aP (0<=t1)) fun _=>
     if(cH (BitVec.toNat (BitVec.ofInt 32 (Int.fdiv U (2^min (t1).toNat 32))&&&BitVec.ofInt 32 (1:Int))))==(1:Int)then
      (
       Option.bind (aP (List.length ([45]:List UInt8)+List.length o<=bF)) fun _=>
       Option.bind (oF k (([45]:List UInt8)++o) t2) fun v4=>
       oW q t1 v4.2.2
      )
     else
      oW q t1 t2
    )
  )
 else
  (
   Option.bind (rs k t2) fun v5=>
   some (v5,(0:Int))
  )
def rk(k:Nat)(o:aH)(q:Int)(O:Int):Nat->Int->(List (Int))->Option bh
 |0,_,_=>none
 |n+1,t1,t2=>Jo k o q O (rk k o q O n) t1 t2
def vj(k:Nat)(o:aH)(q:Int)(O:Int):Option bh:=
 Option.bind (eK k (o.1,o.2.1,())) fun v1=>
 if v1 !=(0:Int)then
  some (([]:List UInt8),v1)
 else
  (
   Option.bind (k9 k (o.1,o.2.1,()) q O) fun v2=>
   if !v2 then
    some (([]:List UInt8),(20:Int))
   else
    rk k o q O k (0:Int) ([]:List (Int))
  )
def wS(k:Nat)(o:aH)(q:Int)(O:Int):Option Bool:=
 Option.bind (vj k (o.1,o.2.1,()) q O) fun v1=>
 some (v1.2==(0:Int))
def Yr(t1:Bool):Option Bool:=
 some (t1)
def rZ(k:Nat)(o:aH)(q:Int)(O:Int)(R:Int):Option Bool:=
 if q !=(0:Int)then
  (
   Option.bind (qM k (o.1,o.2.1,()) q) fun v1=>
   Yr (v1&&((cH (BitVec.toNat (BitVec.ofInt 32 O|||BitVec.ofInt 32 R)))==(0:Int)))
  )
 else
  (
   Option.bind (wS k (o.1,o.2.1,()) O R) fun v2=>
   some (v2)
  )
def oh(k:Nat)(q:aH)(o:nu)(t2:Bool):Option Bool:=
 if t2 then
  some (false)
 else
  (
   Option.bind (rZ k (q.1,q.2.1,()) o.1 o.2.2.1 o.2.2.2.1) fun v1=>
   some (v1)
  )
def sO(k:Nat)(o:aH)(q:nu)(t3:Bool):Option Bool:=
 oh k o q t3
def Jx(k:Nat)(o:aH)(q:nu)(t4:Bool):Option Bool:=
 sO k o q t4
def AB(k:Nat)(q:aH)(o:nu)(O:Int)(t1:Bool):Option Bool:=
 if t1 then
  oh k q o true
 else
  (
   if o.1==(0:Int)then
    Jx k q o (decide (o.2.1<(0:Int))||(decide (O<=o.2.1)))
   else
    sO k q o false
  )
def p8(k:Nat)(q:aH)(o:nu)(O:Int):Option Bool:=
 AB k q o O ((o.1 !=(0:Int))&&(o.2.1 !=(0:Int)))
def DI(o:List (Bool))(v1:Bool)(q:Int->Option Int)(t1:Int):Option Int:=
 if decide (t1<(List.length o:Int))then
  (
   Option.bind (ar o t1) fun O=>
   if v1==O then
    some (t1)
   else
    q (ag (t1+(1:Int)))
  )
 else
  some ((-1:Int))
def po(o:List (Bool))(v1:Bool):Nat->Int->Option Int
 |0,_=>none
 |n+1,t1=>DI o v1 (po o v1 n) t1
def zy(k:Nat)(o:List (Bool))(v1:Bool):Option Int:=
 po o v1 k (0:Int)
def pl(k:Nat)(o:List (Bool))(v1:Bool):Option Bool:=
 Option.bind (zy k o v1) fun v2=>
 some (decide ((0:Int)<=v2))
def tW(t7:List (Bool))(o:Int)(aC:Int->(List (Bool))->Option Bool)(t6:Int)(t9:Bool):Option Bool:=
 if t9 then
  some (false)
 else
  (
   Option.bind (ar t7 o) fun q=>
   aC (ag (t6+(1:Int))) (List.set t7 (o).toNat true)
  )
def Bt(t7:List (Bool))(o:Int)(aC:Int->(List (Bool))->Option Bool)(t6:Int)(t8:Bool):Option Bool:=
 if t8 then
  tW t7 o aC t6 true
 else
  (
   Option.bind (ar t7 o) fun q=>
   tW t7 o aC t6 q
  )
def Cd(q:fZ)(t2:Int)(O:eX)(R:Int->(List (Bool))->Option Bool)(aC:Int->(List (Bool))->Option Bool)(t6:Int)(t7:List (Bool)):Option Bool:=
 if decide (t6<(List.length q.2.2.2.2.1:Int))then
  (
   Option.bind (ar q.2.2.2.2.1 t6) fun o=>
   Bt t7 o aC t6 (decide (o<=t2)||(decide ((List.length O.1:Int)<=o)))
  )
 else
  R (ag (t2+(1:Int))) t7
def o4(o:fZ)(t2:Int)(q:eX)(O:Int->(List (Bool))->Option Bool):Nat->Int->(List (Bool))->Option Bool
 |0,_,_=>none
 |n+1,t6,t7=>Cd o t2 q O (o4 o t2 q O n) t6 t7
def pE(k:Nat)(o:fZ)(t2:Int)(q:eX)(O:Int->(List (Bool))->Option Bool)(t3:List (Bool))(t5:Bool):Option Bool:=
 if t5 then
  some (false)
 else
  o4 o t2 q O k (0:Int) t3
def Ui(k:Nat)(o:fZ)(t2:Int)(q:eX)(O:Int->(List (Bool))->Option Bool)(t3:List (Bool))(t10:Bool):Option Bool:=
 pE k o t2 q O t3 t10
def Ai(k:Nat)(o:fZ)(t2:Int)(q:eX)(O:Int->(List (Bool))->Option Bool)(t3:List (Bool))(t4:Bool):Option Bool:=
 if t4 then
  pE k o t2 q O t3 true
 else
  Ui k o t2 q O t3 (((cH (BitVec.toNat (BitVec.ofInt 32 o.2.2.1|||BitVec.ofInt 32 o.2.2.2.1)))!=(0:Int))&&(o.1 !=(3:Int)))
def nL(k:Nat)(o:fZ)(t2:Int)(q:eX)(O:Int->(List (Bool))->Option Bool)(t3:List (Bool)):Option Bool:=
 Ai k o t2 q O t3 ((o.2.1 !=(0:Int))&&(o.1 !=(2:Int)))
def kG(k:Nat)(o:fZ)(t2:Int)(q:eX)(O:Int->(List (Bool))->Option Bool)(t3:List (Bool))(t13:Bool):Option Bool:=
 if t13 then
  (
   if(List.length o.2.2.2.2.1:Int)!=(0:Int)then
    some (false)
   else
    nL k o t2 q O t3
  )
 else
  some (false)
def oP(k:Nat)(o:fZ)(t2:Int)(q:eX)(O:Int->(List (Bool))->Option Bool)(t3:List (Bool))(t12:Bool):Option Bool:=
 if t12 then
  (
   if(List.length o.2.2.2.2.1:Int)!=(1:Int)then
    some (false)
   else
    nL k o t2 q O t3
  )
 else
  (
   if o.1==(1:Int)then
    kG k o t2 q O t3 (o.1==(1:Int))
   else
    (
     if o.1==(2:Int)then
      kG k o t2 q O t3 (o.1==(2:Int))
     else
      (
       if o.1==(3:Int)then
        kG k o t2 q O t3 (o.1==(3:Int))
       else
        (
         if o.1==(4:Int)then
          kG k o t2 q O t3 (o.1==(4:Int))
         else
          kG k o t2 q O t3 (o.1==(5:Int))
        )
      )
    )
  )
def o5(k:Nat)(o:fZ)(t2:Int)(q:eX)(O:Int->(List (Bool))->Option Bool)(t3:List (Bool))(t11:Bool):Option Bool:=
 if t11 then
  nL k o t2 q O t3
 else
  (
   if o.1==(8:Int)then
    oP k o t2 q O t3 (o.1==(8:Int))
   else
    oP k o t2 q O t3 (o.1==(9:Int))
  )
def BN(k:Nat)(q:eX)(O:Int->(List (Bool))->Option Bool)(t2:Int)(t3:List (Bool)):Option Bool:=
 if decide (t2<(List.length q.1:Int))then
  (
   Option.bind (ar q.1 t2) fun o=>
   if o.1==(6:Int)then
    o5 k o t2 q O t3 (o.1==(6:Int))
   else
    o5 k o t2 q O t3 (o.1==(7:Int))
  )
 else
  (
   Option.bind (dK t3 (1:Int) (t3.length:Int)) fun R=>
   Option.bind (pl k R false) fun v1=>
   some (!v1)
  )
def gL(k:Nat)(o:eX):Nat->Int->(List (Bool))->Option Bool
 |0,_,_=>none
 |n+1,t2,t3=>BN k o (gL k o n) t2 t3
def wm(k:Nat)(o:eX)(t1:Bool):Option Bool:=
 if t1 then
  some (false)
 else
  (
   Option.bind (aP (0<=(List.length o.1:Int)/\(List.length o.1:Int)<=(List.length o.1:Int)/\(List.length o.1:Int)<=(bF:Int))) fun _=>
   gL k o k (0:Int) (List.replicate ((List.length o.1:Int)).toNat false)
  )
def jW(k:Nat)(o:eX):Option Bool:=
 wm k o (decide ((List.length o.1:Int)<(1:Int))||(decide ((256:Int)<(List.length o.1:Int))))
def qH(o:Int->Option Int)(t1:Int):Option Int:=
 o (ag (t1+(1:Int)))
def Hr(k:Nat)(R:eX)(q:aH)(O:Int->Option Int)(t1:Int):Option Int:=
 if decide (t1<(List.length R.1:Int))then
  (
   Option.bind (ar R.1 t1) fun o=>
   if o.1==(2:Int)then
    (
     Option.bind (jw k (q.1,q.2.1,()) o.2.1) fun v3=>
     if v3.2 !=(0:Int)then
      some ((40:Int))
     else
      qH O t1
    )
   else
    (
     if o.1==(3:Int)then
      (
       Option.bind (vj k (q.1,q.2.1,()) o.2.2.1 o.2.2.2.1) fun v4=>
       if v4.2 !=(0:Int)then
        some ((40:Int))
       else
        qH O t1
      )
     else
      qH O t1
    )
  )
 else
  some ((0:Int))
def nZ(k:Nat)(o:eX)(q:aH):Nat->Int->Option Int
 |0,_=>none
 |n+1,t1=>Hr k o q (nZ k o q n) t1
def oK(k:Nat)(o:aH)(q:eX):Option Int:=
 Option.bind (eK k (o.1,o.2.1,())) fun v1=>
 if v1 !=(0:Int)then
  some (v1)
 else
  (
   Option.bind (jW k (q.1,())) fun v2=>
   if !v2 then
    some ((40:Int))
   else
    nZ k q o k (0:Int)
  )
def rB(t8:Bool):Option Int:=
 if t8 then
  some ((70:Int))
 else
  some ((0:Int))
def G5(k:Nat)(q:dB)(o:aH)(aC:Int->Option Int)(t7:Int):Option Int:=
 if decide (t7<(List.length q.2.2.1:Int))then
  (
   Option.bind (ar q.2.2.1 t7) fun O=>
   Option.bind (p8 k (o.1,o.2.1,()) (O.1,O.2.1,O.2.2.1,O.2.2.2.1,()) (List.length q.2.1:Int)) fun v4=>
   if !v4 then
    some ((70:Int))
   else
    aC (ag (t7+(1:Int)))
  )
 else
  (
   Option.bind (oK k (o.1,o.2.1,()) (q.2.2.2.1.1,())) fun v5=>
   if v5 !=(0:Int)then
    rB true
   else
    (
     Option.bind (oK k (o.1,o.2.1,()) (q.2.2.2.2.1.1,())) fun R=>
     rB (R !=(0:Int))
    )
  )
def nJ(k:Nat)(o:dB)(q:aH):Nat->Int->Option Int
 |0,_=>none
 |n+1,t7=>G5 k o q (nJ k o q n) t7
def Bl(k:Nat)(o:dB)(q:aH)(R:Int->Option Int)(t6:Int):Option Int:=
 if decide (t6<(List.length o.2.1:Int))then
  (
   Option.bind (ar o.2.1 t6) fun O=>
   Option.bind (rZ k (q.1,q.2.1,()) O.1 O.2.1 O.2.2.1) fun v3=>
   if !v3 then
    some ((70:Int))
   else
    R (ag (t6+(1:Int)))
  )
 else
  nJ k o q k (0:Int)
def pk(k:Nat)(o:dB)(q:aH):Nat->Int->Option Int
 |0,_=>none
 |n+1,t6=>Bl k o q (pk k o q n) t6
def FQ(k:Nat)(o:dB)(q:aH)(t5:Bool):Option Int:=
 if t5 then
  some ((70:Int))
 else
  pk k o q k (0:Int)
def Cp(k:Nat)(o:dB)(q:aH)(t4:Bool):Option Int:=
 FQ k o q (t4||((ag ((List.length o.2.1:Int)+(List.length o.2.2.1:Int)))==(0:Int)))
def Ep(k:Nat)(o:dB)(q:aH)(t3:Bool):Option Int:=
 Cp k o q (t3||(decide ((8:Int)<(List.length o.2.2.1:Int))))
def Ft(k:Nat)(o:dB)(q:aH)(t2:Bool):Option Int:=
 Ep k o q (t2||(decide ((8:Int)<(List.length o.2.1:Int))))
def Hd(k:Nat)(o:dB)(q:aH)(t1:Bool):Option Int:=
 Ft k o q (t1||(decide ((3:Int)<o.2.2.2.2.2.1)))
def mu(k:Nat)(o:aH)(q:dB):Option Int:=
 Option.bind (eK k (o.1,o.2.1,())) fun v1=>
 if v1 !=(0:Int)then
  some (v1)
 else
  (
   Option.bind (xU k q.1) fun v2=>
   Hd k q o ((!v2)||(decide (q.2.2.2.2.2.1<(1:Int))))
  )
def NH(k:Nat)(l1:List fr)(q:aH)(O:Int->Option Int)(t1:Int):Option Int:=
 if decide (t1<(List.length l1:Int))then
  (
   Option.bind (ar l1 t1) fun o=>
   Option.bind (mu k (q.1,q.2.1,()) (o.1,o.2.1,o.2.2.1,(o.2.2.2.1.1,()),(o.2.2.2.2.1.1,()),o.2.2.2.2.2.1,o.2.2.2.2.2.2.1,())) fun v2=>
   if v2 !=(0:Int)then
    some (v2)
   else
    O (ag (t1+(1:Int)))
  )
 else
  some ((0:Int))
def sF(k:Nat)(l1:List fr)(o:aH):Nat->Int->Option Int
 |0,_=>none
 |n+1,t1=>NH k l1 o (sF k l1 o n) t1
def uF(k:Nat)(o:aH)(l1:List fr):Option Int:=
 Option.bind (eK k (o.1,o.2.1,())) fun v1=>
 if v1 !=(0:Int)then
  some (v1)
 else
  (
   if decide ((64:Int)<(List.length l1:Int))then
    some ((4:Int))
   else
    sF k l1 o k (0:Int)
  )
end Go.Ev
namespace Go.Ev
open Go
set_option linter.unusedVariables false
end Go.Ev
namespace Go.Ev
open Go Go.Proofs Go.Sort
section
variable {X:Type}
def ins(lt:X->X->Bool)(x:X):List X->List X
 |[]=>[x]
 |y::l=>bif lt y x then y::ins lt x l else x::y::l
def Jd(lt:X->X->Bool):List X->List X
 |[]=>[]
 |x::l=>ins lt x (Jd lt l)
def mH(c:X->X->Option Int)(x y:X):Bool:=match c x y with
 |some n=>decide (n<0)
 |none=>false
def WB[DecidableEq X](c:X->X->Option Int)(l:List X):Bool:=
 l.all fun x=>l.all fun y=>(c x y).isSome&&(bif decide (x=y)then !mH c x y else(mH c x y||mH c y x)&&!(mH c x y&&mH c y x))&&l.all fun z=>!(mH c x y&&mH c y z)||mH c x z
def TU[DecidableEq X](c:X->X->Option Int)(l:List X):Option (List X):=bif WB c l then some (Jd (mH c) l)else none
structure acw(lt:X->X->Bool)(S:X->Prop):Prop where
 acp:∀x,S x->lt x x=false
 acB:∀x y z,S x->S y->S z->lt x y=true->lt y z=true->lt x z=true
 acy:∀x y,S x->S y->x≠y->lt x y=true\/lt y x=true
end
end Go.Ev
namespace Go.Ev
open Go
end Go.Ev
namespace Go.Ev
open Go
set_option linter.unusedVariables false
end Go.Ev
