/- The evaluator as one function: what a piece of code asks is a tree, and what the tree owes is one equation. -/
import Derived.Test.YteopobecmacgdaaGreatDoorMM5
import Derived.Defers
import Derived.Test.YteopobecmacgdaaGreatDoorMM4
import Derived.Test.YteopobecmacgdaaGreatDoorMM1
import Derived.Shelf.SlSortCmp.Insertion
import Derived.Test.YteopobecmacgdaaGreatDoorTyA
set_option linter.unusedSectionVars false
set_option linter.unusedVariables false
set_option linter.unusedSimpArgs false
namespace Go.Ev
open Go Go.RowKit
variable [b8]
/-! Trees. -/
structure sK where
 u:ag
 aa:Option u.el
structure cy where
 u:ag
 aa:Option u.el
 v:u.el
inductive bv(ak:Type):Type 1
 |ret (e:Option ak)
 |ask {β:Type} (aa:Option β) (f:β->bv ak)
 |ite (b:Bool) (x y:bv ak)
 |cs {A o:Type} (aa:A⊕o) (f:A->bv ak) (g:o->bv ak)
 |jM (a b:Bool) (t:bv ak)
 |fA (a b:List Prop) (t:bv ak)
 |eqs (a b:Option af) (t:bv ak)
 |jI (a b:sK) (t:bv ak)
 |fW {A:Type} (q:A->bv ak) (O:A->Option ak) (t:bv ak)
 |iI {A:Type} (q:(A->Option ak)->A->bv ak) (F:Nat->A->Option ak) (t:bv ak)
variable {ak:Type}
def bv.den:bv ak->Option ak
 |.ret e=>e
 |.ask aa f=>Option.bind aa fun x=>(f x).den
 |.ite b x y=>if b then x.den else y.den
 |.cs aa f g=>uA aa (fun a=>(f a).den) fun b=>(g b).den
 |.jM _ _ t=>t.den
 |.fA _ _ t=>t.den
 |.eqs _ _ t=>t.den
 |.jI _ _ t=>t.den
 |.fW _ _ t=>t.den
 |.iI _ _ t=>t.den
def bv.hO:bv ak->Prop
 |.ret _=>True
 |.ask _ f=>∀x,(f x).hO
 |.ite _ x y=>x.hO/\y.hO
 |.cs _ f g=>(∀a,(f a).hO)/\∀b,(g b).hO
 |.jM a b t=>a=b/\t.hO
 |.fA a b t=>a=b/\t.hO
 |.eqs a b t=>a=b/\t.hO
 |.jI a b t=>a=b/\t.hO
 |.fW o q t=>(∀z,(o z).den=q z)/\(∀z,(o z).hO)/\t.hO
 |.iI o F t=>(∀z,F 0 z=none)/\(∀n z,(o (F n) z).den=F (n+1) z)/\(∀n z,(o (F n) z).hO)/\t.hO
inductive fc(ak:Type):Type 1
 |nil
 |ask {β:Type} (aa:Option β) (f:β->fc ak)
 |ite (b:Bool) (x y:fc ak)
 |cs {A o:Type} (aa:A⊕o) (f:A->fc ak) (g:o->fc ak)
 |b (a:Bool) (c:fc ak)
 |p (a:List Prop) (c:fc ak)
 |s (a:Option af) (c:fc ak)
 |q (a:sK) (c:fc ak)
 |fW {A:Type} (g:A->Option ak) (O:A->fc ak) (c:fc ak)
 |iI {A:Type} (g0:A->Option ak) (g:Nat->A->Option ak) (O:Nat->A->fc ak) (c:fc ak)
def bv.eB:bv ak->fc ak
 |.ret _=>.nil
 |.ask aa f=>.ask aa fun x=>(f x).eB
 |.ite b x y=>.ite b x.eB y.eB
 |.cs aa f g=>.cs aa (fun a=>(f a).eB) fun b=>(g b).eB
 |.jM a _ t=>.b a t.eB
 |.fA a _ t=>.p a t.eB
 |.eqs a _ t=>.s a t.eB
 |.jI a _ t=>.q a t.eB
 |.fW o _ t=>.fW (fun z=>(o z).den) (fun z=>(o z).eB) t.eB
 |.iI o F t=>.iI (F 0) (fun n z=>(o (F n) z).den) (fun n z=>(o (F n) z).eB) t.eB
def bv.eE:bv ak->fc ak
 |.ret _=>.nil
 |.ask aa f=>.ask aa fun x=>(f x).eE
 |.ite b x y=>.ite b x.eE y.eE
 |.cs aa f g=>.cs aa (fun a=>(f a).eE) fun b=>(g b).eE
 |.jM _ b t=>.b b t.eE
 |.fA _ b t=>.p b t.eE
 |.eqs _ b t=>.s b t.eE
 |.jI _ b t=>.q b t.eE
 |.fW o q t=>.fW q (fun z=>(o z).eE) t.eE
 |.iI o F t=>.iI (fun _=>none) (fun n=>F (n+1)) (fun n z=>(o (F n) z).eE) t.eE
theorem bv.gR:∀(t:bv ak),t.eB=t.eE->t.hO
 |.ret _,_=>trivial
 |.ask aa f,h=>by
  simp only[eB,eE,fc.ask.injEq,heq_eq_eq,true_and]at h
  exact fun x=>gR (f x) (congrFun h x)
 |.ite b x y,h=>by
  simp only[eB,eE,fc.ite.injEq,true_and]at h
  exact⟨gR x h.1,gR y h.2⟩
 |.cs aa f g,h=>by
  simp only[eB,eE,fc.cs.injEq,heq_eq_eq,true_and]at h
  exact⟨fun a=>gR (f a) (congrFun h.1 a),fun b=>gR (g b) (congrFun h.2 b)⟩
 |.jM a b t,h=>by
  simp only[eB,eE,fc.b.injEq]at h
  exact⟨h.1,gR t h.2⟩
 |.fA a b t,h=>by
  simp only[eB,eE,fc.p.injEq]at h
  exact⟨h.1,gR t h.2⟩
 |.eqs a b t,h=>by
  simp only[eB,eE,fc.s.injEq]at h
  exact⟨h.1,gR t h.2⟩
 |.jI a b t,h=>by
  simp only[eB,eE,fc.q.injEq]at h
  exact⟨h.1,gR t h.2⟩
 |.fW o q t,h=>by
  simp only[eB,eE,fc.fW.injEq,heq_eq_eq,true_and]at h
  exact⟨fun z=>congrFun h.1 z,fun z=>gR _ (congrFun h.2.1 z),gR t h.2.2⟩
 |.iI o F t,h=>by
  simp only[eB,eE,fc.iI.injEq,heq_eq_eq,true_and]at h
  exact⟨fun z=>congrFun h.1 z,fun n z=>congrFun (congrFun h.2.1 n) z,fun n z=>gR _ (congrFun (congrFun h.2.2.1 n) z),gR t h.2.2.2⟩
/-! Lists of data of given shapes. -/
def dE:List ag->Type
 |[]=>Unit
 |[t]=>t.el
 |t::u::us=>t.el×dE (u::us)
def eK:(us:List ag)->dE us->List al
 |[],_=>[]
 |[t],x=>[⟨t,x⟩]
 |t::u::us,x=>⟨t,x.1⟩::eK (u::us) x.2
def gi:(us:List ag)->List al->Option (dE us)
 |[],vs=>match vs with
  |[]=>some ()
  |_=>none
 |[t],vs=>match vs with
  |[v]=>v.as t
  |_=>none
 |t::u::us,vs=>match vs with
  |v::vs=>match v.as t,gi (u::us) vs with
   |some x,some y=>some (x,y)
   |_,_=>none
  |[]=>none
theorem ag.beq_refl:∀t:ag,t.beq t=true
 |.int k=>by cases k<;>rfl
 |.bool=>rfl
 |.str=>rfl
 |.ab t=>beq_refl t
 |.unit=>rfl
 |.pair a b=>by simp only[ag.beq,beq_refl a,beq_refl b,Bool.and_self]
 |.ptr t=>beq_refl t
 |.fn f t=>by simp only[ag.beq,Nat.beq_refl,beq_refl t,Bool.and_self]
 |.err=>rfl
 |.ck=>rfl
 |.cE=>rfl
 |.cB n t=>by simp only[ag.beq,Nat.beq_refl,beq_refl t,Bool.and_self]
 |.alt n a b=>by simp only[ag.beq,Nat.beq_refl,beq_refl a,beq_refl b,Bool.and_self]
 |.arr n t=>by simp only[ag.beq,Nat.beq_refl,beq_refl t,Bool.and_self]
 |.map a b=>by simp only[ag.beq,beq_refl a,beq_refl b,Bool.and_self]
theorem al.A7(t:ag)(x:t.el):al.as ⟨t,x⟩ t=some x:=by
 unfold al.as
 split
 ·rfl
 ·rename_i h
  exact absurd (ag.beq_refl t) (by rw[h];decide)
theorem JJ:∀(us:List ag) (x:dE us),gi us (eK us x)=some x
 |[],_=>rfl
 |[t],x=>al.A7 t x
 |t::u::us,x=>by
  have h:=JJ (u::us) x.2
  show(match al.as ⟨t,x.1⟩ t,gi (u::us) (eK (u::us) x.2)with
   |some x,some y=>some (x,y)
   |_,_=>none)=some x
  rw[al.A7,h]
  rfl
theorem AB:∀(us:List ag) (vs:List al) (x:dE us),gi us vs=some x->vs=eK us x
 |[],vs,x,h=>by
  unfold gi at h
  split at h
  ·rfl
  ·cases h
 |[t],vs,x,h=>by
  match vs,h with
  |[v],h=>
   have e:=al.dj (v:=v) (u:=t) (x:=x) h
   subst e
   rfl
  |[],h=>cases h
  |_::_::_,h=>cases h
 |t::u::us,vs,x,h=>by
  unfold gi at h
  split at h
  ·rename_i v vs
   split at h
   ·rename_i a b o q
    cases h
    show v::vs=⟨t,a⟩::eK (u::us) b
    rw[<-AB (u::us) vs b q,al.dj o]
   ·cases h
  ·cases h
theorem n9:∀(us:List ag) (x:dE us),(eK us x).length=us.length
 |[],_=>rfl
 |[_],_=>rfl
 |_::u::us,x=>by
  show(eK (u::us) x.2).length+1=_
  rw[n9 (u::us) x.2]
  rfl
theorem tE:∀(us:List ag) (x:dE us) (v:al),v∈eK us x->v.t∈us
 |[],_,v,h=>by cases h
 |[_],_,v,h=>by
  rcases List.mem_cons.1 h with rfl|h
  ·exact List.mem_cons_self
  ·cases h
 |t::u::us,x,v,h=>by
  rcases List.mem_cons.1 (show v∈⟨t,x.1⟩::eK (u::us) x.2 from h)with rfl|h
  ·exact List.mem_cons_self
  ·exact List.mem_cons_of_mem _ (tE (u::us) x.2 v h)
/-! What is known of functions, as0 functions. -/
structure aX where
 ga:List ag
 dZ:List ag
 eX:List ag
 fn:dE ga->Option (dE dZ)
def aX.aW(F:aX):jd:=⟨F.dZ.all ag.flat,F.dZ.length,F.eX,fun o au=>match gi F.ga o,gi F.dZ au with
 |some x,some y=>F.fn x=some y
 |_,_=>False⟩
structure aL(P:Program)(G:World->Prop) where
 f:Nat
 F:aX
 ok:a8 P G f F.aW
structure dM(P:Program)(G:World->Prop)(α β:Type) where
 f:Nat
 F:cY α β
 X:af->Option α
 fn:α->Option β
 ok:dc P G f F
 rel:∀x y,fn x=some y->F.rel x y
structure Wx{α β:Type}(P:Program)(G:World->Prop)(f:Nat)(F:cY α β):Prop where
 enters:∀args w,(callFunc f args).run P w=.ok (.enter f args) w
 calls:∀(cx:bI),cx.P=P->cx.n=F.n->(∀w,Frame cx.w0 w cx.X->G w)->∀x y,F.rel x y->∀(vs:List Value) (w:World) (u:FrameMode),vs.length=(F.S x).ab.length->Go.Ev.ak cx (F.S x) (vs.toArray++Array.replicate (F.n-vs.toArray.size) undef) w->
  CallsD P f vs.toArray u w fun e o w'=>o=u/\∃v aI q,e=.returned v/\an cx aI (F.bq x y) q w'/\vI w' (av cx aI (F.bq x y).ids) aI v (F.au x y)
structure Sk(P:Program)(G:World->Prop)(α β:Type) where
 f:Nat
 F:cY α β
 X:af->Option α
 fn:α->Option β
 ok:Wx P G f F
 rel:∀x y,fn x=some y->F.rel x y
structure sb(P:Program)(G:World->Prop) where
 f:Nat
 e:Nat
 t:ag
 fn:List t.el->List t.el
 ok:yw P G f e t fun xs o=>o=fn xs
structure zM(P:Program) where
 f:Nat
 e:Nat
 t:ag
 enters:∀args w,(callFunc f args).run P w=.ok (.enter f args) w
 ok:∀(n:Nat) (w:World),n<=bC->Calls P f #[.slice none 0 0,.int .i64 n] w fun r w'=>Ext w w'/\(r=.returned (.slice none 0 0)\/
  ∃cap cur,r=.returned (.slice (some ⟨w.heap.size,0,none⟩) 0 cap)/\w'.heap[w.heap.size]? =some (.cells cur e (0,0))/\cap<=maxLen/\cur.size=cap*t.cells)
def cK(P:Program)(G:World->Prop)(n:Nat)(l:List (aL P G)):Env:=⟨P,G,n,l.map fun p=>(p.f,p.F.aW)⟩
def AM{P:Program}{G:World->Prop}:List (aL P G)->Nat->Option aX
 |[],_=>none
 |p::l,n=>bif Nat.beq p.f n then some p.F else AM l n
theorem kK{P:Program}{G:World->Prop}{n:Nat}{l:List (aL P G)}{cx:bI}(o:cx.P=P)(q:cx.n=n)(O:∀w,Frame cx.w0 w cx.X->G w):bE (cK P G n l) cx:=
 ⟨o,q,O,fun f F h=>by
  obtain⟨p,R,e⟩:=List.mem_map.1 h
  cases e
  exact p.ok⟩
/-! Holes of a state. -/
inductive gZ where
 |ab (i:Nat) (t:ag)
 |rw(r e:Nat) (t:ag)
 |ad (b i:Nat) (t:ag)
 |it (b:Nat)
 |mp (b:Nat) (k v:ag)
 |zG (b:Nat) (t:ag)
 |bu (b:Nat) (t:ag)
def gZ.T:gZ->Type
 |.ab _ t=>t.el
 |.rw _ _ t=>List t.el
 |.ad _ _ t=>t.el
 |.it _=>Nat
 |.mp _ k v=>List (k.el×v.el)
 |.zG _ t=>t.el
 |.bu _ t=>List t.el
def fG:List gZ->Type
 |[]=>Unit
 |[h]=>h.T
 |h::g::o=>h.T×fG (g::o)
def Wv(c:cG)(t:ag):Option (List t.el):=al.as ⟨.ab c.t,c.xs⟩ (.ab t)
def Gy(s:Option ao)(t:ag):Option t.el:=match s with
 |some (.val u x)=>al.as ⟨u,x⟩ t
 |some (.vptr u x)=>al.as ⟨u,x⟩ t
 |_=>none
def gZ.get(st:af):(h:gZ)->Option h.T
 |.ab i t=>Gy (look st.ab i) t
 |.rw r _ t=>match look st.rw r with
  |some c=>Wv c t
  |none=>none
 |.ad b i t=>match look st.ad b with
  |some (.cells l _)=>Gy l[i]? t
  |_=>none
 |.it b=>match look st.ad b with
  |some (.iter _ p)=>some p
  |_=>none
 |.mp b k v=>match look st.ad b with
  |some (.mp k' v' ps)=>al.as ⟨.map k' v',some ps⟩ (.map k v)|>.bind id
  |_=>none
 |.zG b t=>match look st.ad b with
  |some (.aY u x _)=>al.as ⟨u,x⟩ t
  |_=>none
 |.bu b t=>match look st.ad b with
  |some (.bu _ k xs _)=>al.as ⟨.ab k.u,xs⟩ (.ab t)
  |_=>none
def cF(st:af):(o:List gZ)->Option (fG o)
 |[]=>some ()
 |[h]=>h.get st
 |h::g::o=>match h.get st,cF st (g::o)with
  |some x,some y=>some (x,y)
  |_,_=>none
def od{α:Type}:List (Nat×α)->Nat->α->List (Nat×α)
 |[],i,v=>[(i,v)]
 |(k,u)::r,i,v=>bif Nat.beq k i then(k,v)::r else(k,u)::od r i v
def gZ.put(st:af):(h:gZ)->h.T->af
 |.ab i t,x=>{st with ab:=od st.ab i (.val t x)}
 |.rw r e t,xs=>{st with rw:=od st.rw r ⟨e,t,xs⟩}
 |.ad b i t,x=>match look st.ad b with
  |some (.cells l e)=>{st with ad:=od st.ad b (.cells (l.set i (.val t x)) e)}
  |_=>st
 |.it b,p=>match look st.ad b with
  |some (.iter s _)=>{st with ad:=od st.ad b (.iter s p)}
  |_=>st
 |.mp b k v,ps=>{st with ad:=od st.ad b (.mp k v ps)}
 |.zG b t,x=>match look st.ad b with
  |some (.aY _ _ e)=>{st with ad:=od st.ad b (.aY t x e)}
  |_=>st
 |.bu b t,z=>match look st.ad b with
  |some (.bu e k _ h)=>match al.as ⟨.ab t,z⟩ (.ab k.u)with
   |some o=>{st with ad:=od st.ad b (.bu e k o h)}
   |none=>st
  |_=>st
def Kl(st:af):(o:List gZ)->fG o->af
 |[],_=>st
 |[h],x=>h.put st x
 |h::g::o,x=>Kl (h.put st x.1) (g::o) x.2
def tV{α:Type}(l:List (Nat×α)):List Nat->List (Nat×α)
 |[]=>[]
 |k::o=>match look l k with
  |some v=>(k,v)::tV l o
  |none=>tV l o
def aZ(q bs au:List Nat){o:List gZ}(st:af)(z:fG o):af:=Kl ⟨tV st.ab q,tV st.ad bs,tV st.rw au⟩ o z
/-! Hints: where ways meet, where rounds begin, which answers are wanted again. -/
inductive bh(P:Program)(G:World->Prop)(ak:Type):Type 1
 |z
 |aj (n:Nat) (h:bh P G ak)
 |a (u:ag) (f:u.el->bh P G ak)
 |ac (us:List ag) (f:dE us->bh P G ak)
 |u (i:Nat) (h:bh P G ak)
 |t (h:bh P G ak)
 |f (h:bh P G ak)
 |c (x y:bh P G ak)
 |T (h:bh P G ak)
 |F (h:bh P G ak)
 |j (o:List gZ) (S:af->fG o->af) (q:fG o->Option ak) (x:bh P G ak) (y:fG o->bh P G ak)
 |bJ (o:List gZ) (S:af->fG o->af) (F:Nat->fG o->Option ak) (k:Nat) (y:(fG o->Option ak)->fG o->bh P G ak)
 |bX (m:Nat) (h:bh P G ak)
 |MU (m:Nat) (q:Bool->Option ak) (h:Bool->bh P G ak)
 |g (m:Nat) (q:Bool->Option ak) (x y:bh P G ak) (h:Bool->bh P G ak)
 |iG (m:Nat) (o:List gZ) (S:af->fG o->af) (q:fG o->Option ak) (x y:bh P G ak) (h:fG o->bh P G ak)
 |cP {α β:Type} (O:dM P G α β) (ρ ρ':List (Nat×Nat)) (h:β->bh P G ak)
 |Gt {α β:Type} (O:dM P G α β) (i j:Nat) (ρ ρ':List (Nat×Nat)) (h:β->bh P G ak)
 |ci (R:sb P G) (h:bh P G ak)
 |rq (r:Nat) (h:bh P G ak)
 |nA (n:Nat) (h:bh P G ak)
 |mj (a b c:List Nat) (h:bh P G ak)
 |aM (b c:List Nat) (h:bh P G ak)
 |fr (r:Nat) (h:bh P G ak)
 |md (a b c d:List Nat) (h:bh P G ak)
 |rC (a b:List Nat) (c2 c3 c4 c5 c6:Nat) (h:bh P G ak)
 |O4 (a b:List Nat) (i:Nat) (c d:List Nat) (h:bh P G ak)
 |mk (h:bh P G ak)
 |dl (W:List (List Nat)) (h:bh P G ak)
 |gd (U bs au:List Nat) (ρ:List (Nat×Nat))
 |un (d:Nat) (h:bh P G ak)
 |yk (U bs au:List Nat) (h:bh P G ak)
 |KZ (n d:Nat) (h:bh P G ak)
 |rX (n d:Nat) (t r:ag) (x:t.el->bh P G ak) (y:r.el->bh P G ak)
 |ap (d f:Nat) (x y:bh P G ak)
 |Ef (R:zM P) (h:bh P G ak)
 |X4 {α β:Type} (O:Sk P G α β) (ρ ρ':List (Nat×Nat))
variable {P:Program} {G:World->Prop}
def bh.dec:bh P G ak->bh P G ak
 |.aj n h=>match n with
  |0=>h
  |1=>h
  |n+2=>.aj (n+1) h
 |h=>h
def bh.fork:bh P G ak->bh P G ak×bh P G ak
 |.t h=>(h,.z)
 |.f h=>(.z,h)
 |.c x y=>(x,y)
 |_=>(.z,.z)
/-! Questions of an operation. -/
inductive eY:Type 1
 |nil
 |k (p:Prop) (d:Decidable p) (q:eY)
 |t (u:ag) (aa:Option u.el) (p:u.el->Prop) (ok:∀y,aa=some y->p y) (q:u.el->eY)
 |c (us:List ag) (aa:Option (dE us)) (p:dE us->Prop) (ok:∀y,aa=some y->p y)
 |e (u:ag) (a b:Option u.el) (p:Prop) (ok:a=b->p) (q:eY)
def cQ(o:List cy):Prop:=∀e∈o,e.aa=some e.v
def eV:eY->bh P G ak->List cy->List al->List Prop->(List al->List Prop->bh P G ak->List cy->bv ak)->bv ak
 |.nil,h,o,orc,ps,k=>k orc ps h o
 |.k p d q,h,o,orc,ps,k=>.ask (@bk p d) fun _=>eV q h o orc (ps++[p]) k
 |.t u aa p _ q,h,o,orc,ps,k=>match h with
  |.u i h'=>match o[i]? with
   |some e=>.jI ⟨u,aa⟩ ⟨e.u,e.aa⟩ (match al.as ⟨e.u,e.v⟩ u with
    |some y=>eV (q y) h' o (orc++[⟨u,y⟩]) (ps++[p y]) k
    |none=>.ret none)
   |none=>.ret none
  |.a R g=>.ask aa fun y=>match al.as ⟨u,y⟩ R with
   |some O=>eV (q y) (g O) (⟨u,aa,y⟩::o) (orc++[⟨u,y⟩]) (ps++[p y]) k
   |none=>.ret none
  |h=>.ask aa fun y=>eV (q y) h.dec (⟨u,aa,y⟩::o) (orc++[⟨u,y⟩]) (ps++[p y]) k
 |.c us aa p _,h,o,orc,ps,k=>match h with
  |.ac U g=>.ask aa fun y=>match gi U (eK us y)with
   |some O=>k (orc++eK us y) (ps++[p y]) (g O) o
   |none=>.ret none
  |h=>.ask aa fun y=>k (orc++eK us y) (ps++[p y]) h.dec o
 |.e u a b p _ q,h,o,orc,ps,k=>.jI ⟨u,a⟩ ⟨u,b⟩ (eV q h o orc (ps++[p]) k)
abbrev eY.same(u:ag)(a b:Option u.el)(o:eY):eY:=.e u a b (a=b) id o
theorem nh:∀{l:List Prop} {p:Prop},bP l->p->bP (l++[p])
 |[],_,_,h=>⟨h,trivial⟩
 |_::_,_,⟨o,q⟩,h=>⟨o,nh q h⟩
theorem cQ.cons{o:List cy}(h:cQ o){u:ag}{aa:Option u.el}{y:u.el}(q:aa=some y):cQ (⟨u,aa,y⟩::o):=fun e he=>by
 rcases List.mem_cons.1 he with rfl|he
 ·exact q
 ·exact h e he
theorem cQ.nil:cQ []:=fun _ h=>by cases h
structure bD(t:bv ak)(r:ak):Prop where
 ok:t.hO
 den:t.den=some r
theorem bD.no{p:Prop}{r:ak}(h:bD (.ret none) r):p:=by cases h.den
theorem bD.ask{r:ak}{β:Type}{aa:Option β}{f:β->bv ak}(h:bD (.ask aa f) r):∃x,aa=some x/\bD (f x) r:=
 let⟨x,o,q⟩:=bind_some h.den
 ⟨x,o,h.ok x,q⟩
theorem bD.ite{r:ak}{b:Bool}{x y:bv ak}(h:bD (.ite b x y) r):(b=true/\bD x r)\/(b=false/\bD y r):=by
 cases b with
 |true=>exact .inl ⟨rfl,h.ok.1,h.den⟩
 |false=>exact .inr ⟨rfl,h.ok.2,h.den⟩
theorem bD.cs{r:ak}{A o:Type}{aa:A⊕o}{f:A->bv ak}{g:o->bv ak}(h:bD (.cs aa f g) r):(∃a,aa=.inl a/\bD (f a) r)\/∃b,aa=.inr b/\bD (g b) r:=by
 cases aa with
 |inl a=>exact .inl ⟨a,rfl,h.ok.1 a,h.den⟩
 |inr b=>exact .inr ⟨b,rfl,h.ok.2 b,h.den⟩
theorem bD.jM{r:ak}{a b:Bool}{t:bv ak}(h:bD (.jM a b t) r):a=b/\bD t r:=⟨h.ok.1,h.ok.2,h.den⟩
theorem bD.fA{r:ak}{a b:List Prop}{t:bv ak}(h:bD (.fA a b t) r):a=b/\bD t r:=⟨h.ok.1,h.ok.2,h.den⟩
theorem bD.eqs{r:ak}{a b:Option af}{t:bv ak}(h:bD (.eqs a b t) r):a=b/\bD t r:=⟨h.ok.1,h.ok.2,h.den⟩
theorem bD.jI{r:ak}{a b:sK}{t:bv ak}(h:bD (.jI a b t) r):a=b/\bD t r:=⟨h.ok.1,h.ok.2,h.den⟩
theorem bD.fW{r:ak}{A:Type}{body:A->bv ak}{o:A->Option ak}{t:bv ak}(h:bD (.fW body o t) r):(∀z,o z=some r->bD (body z) r)/\bD t r:=
 ⟨fun z q=>⟨h.ok.2.1 z,(h.ok.1 z).trans q⟩,h.ok.2.2,h.den⟩
theorem bD.iI{r:ak}{A:Type}{body:(A->Option ak)->A->bv ak}{F:Nat->A->Option ak}{t:bv ak}(h:bD (.iI body F t) r):
  (∀z,F 0 z=none)/\(∀n z,F (n+1) z=some r->bD (body (F n) z) r)/\bD t r:=
 ⟨h.ok.1,fun n z o=>⟨h.ok.2.2.1 n z,(h.ok.2.1 n z).trans o⟩,h.ok.2.2.2,h.den⟩
def WZ(k:List al->List Prop->bh P G ak->List cy->bv ak)(r:ak):Prop:=
 ∃orc ps h o,bP ps/\cQ o/\bD (k orc ps h o) r
theorem jT{r:ak}{k:List al->List Prop->bh P G ak->List cy->bv ak}:∀(W:eY) {h:bh P G ak} {X:List cy} {orc:List al} {ps:List Prop},cQ X->bP ps->
  bD (eV W h X orc ps k) r->WZ k r
 |.nil,h,X,orc,ps,q,R,o=>⟨orc,ps,h,X,R,q,o⟩
 |.k p d W,h,X,orc,ps,q,R,o=>by
  obtain⟨x,U,O⟩:=o.ask
  exact jT W q (nh R (dx U)) O
 |.t u aa p ok W,h,X,orc,ps,q,R,o=>by
  unfold eV at o
  split at o
  ·rename_i i h'
   split at o
   ·rename_i e Z
    obtain⟨aM,o⟩:=o.jI
    have la:=q e (List.mem_of_getElem? Z)
    obtain⟨lb,lc,Y⟩:=e
    simp only[sK.mk.injEq]at aM
    obtain⟨rfl,aM⟩:=aM
    simp only[heq_eq_eq]at aM
    subst aM
    simp only[al.A7]at o
    exact jT (W Y) q (nh R (ok Y la)) o
   ·exact o.no
  ·rename_i ld g
   obtain⟨y,U,O⟩:=o.ask
   split at O
   ·exact jT (W y) (q.cons U) (nh R (ok y U)) O
   ·exact O.no
  ·obtain⟨y,U,O⟩:=o.ask
   exact jT (W y) (q.cons U) (nh R (ok y U)) O
 |.c us aa p ok,h,X,orc,ps,q,R,o=>by
  unfold eV at o
  split at o
  ·obtain⟨y,U,O⟩:=o.ask
   split at O
   ·exact⟨_,_,_,_,nh R (ok y U),q,O⟩
   ·exact O.no
  ·obtain⟨y,U,O⟩:=o.ask
   exact⟨_,_,_,_,nh R (ok y U),q,O⟩
 |.e u a b p ok W,h,X,orc,ps,q,R,o=>by
  obtain⟨aM,o⟩:=o.jI
  simp only[sK.mk.injEq,heq_eq_eq,true_and]at aM
  exact jT W q (nh R (ok aM)) o
end Go.Ev
namespace Go.Ev
open Go Go.RowKit
variable [b8]
variable {ak:Type} {P:Program} {G:World->Prop}
def nH{u:ag}(xs:List u.el)(n:Int):eY:=.t u (aB xs n) (fun y=>aB xs n=some y) (fun _ h=>h) (fun _=>.nil)
def y9:(t:ag)->t.el->List nQ->eY
 |_,_,[]=>.nil
 |t,x,.f off u::p=>match cM t x off u with
  |some y=>y9 u y p
  |none=>.nil
 |.arr _ u,xs,.x j _::p=>.t u (aB (show List u.el from xs) j) (fun y=>aB (show List u.el from xs) j=some y) (fun _ h=>h) (fun y=>y9 u y p)
 |_,_,.x _ _::_=>.nil
def G0(b:Int):eY:=.k (b≠0) inferInstance .nil
def Gj(b:Int):eY:=.k (0<=b) inferInstance .nil
def TY(a b:List UInt8):eY:=.k (a.length+b.length<=bC) inferInstance .nil
def Ri(a:Option (Option (Nat×Int))):eY:=.k (a≠some none) inferInstance .nil
def TJ(s:List UInt8):eY:=.k (s.length<=bC) inferInstance .nil
def TI(o:BinOp)(y:Operand)(a b:al):eY:=
 match a,b with
 |⟨.int _,_⟩,⟨.int _,b⟩=>match o with
  |.quo=>G0 b
  |.rem=>G0 b
  |.shl=>Gj b
  |.shr=>Gj b
  |_=>.nil
 |⟨.str,a⟩,⟨.str,b⟩=>match o with
  |.add=>TY a b
  |_=>.nil
 |⟨.err,a⟩,⟨.err,_⟩=>match rt y with
  |true=>.nil
  |false=>Ri a
 |_,_=>.nil
def Pu(P:Program)(st:af)(src o:TypeId)(x:Operand):eY:=
 match(aS st x).map (mZ st),P.underlying o with
 |some (.val (.ab (.int .i32)) xs),some .string=>TJ (cz xs)
 |some (.val .str s),some (.slice e)=>match P.underlying e with
  |some (.int .i32)=>.nil
  |_=>.nil
 |_,_=>.nil
theorem IY{F:aX}{o:List al}{x:dE F.ga}(h:gi F.ga o=some x)(y:dE F.dZ)(q:F.fn x=some y):F.aW.rel o (eK F.dZ y):=by
 show(match gi F.ga o,gi F.dZ (eK F.dZ y)with
  |some x,some y=>F.fn x=some y
  |_,_=>False)
 rw[h,JJ]
 exact q
def PG(ap:List (aL P G))(E:Env)(st:af)(c:Call):eY:=
 match c.callee with
 |.value x=>match sB E st x with
  |some (f,F,l)=>match pC E st F.flat c.argTypes.toList c.args.toList,AM ap f with
   |some R,some o=>match h:gi o.ga (R++l)with
    |some x=>.c o.dZ (o.fn x) (fun y=>o.aW.rel (R++l) (eK o.dZ y)) (IY h)
    |none=>.nil
   |_,_=>.nil
  |none=>.nil
 |.invoke x name=>match FB E.P st x name with
  |some (f,u)=>match AM ap f with
   |some o=>match pC E st o.aW.flat c.argTypes.toList c.args.toList with
    |some R=>match h:gi o.ga (u::R)with
     |some x=>.c o.dZ (o.fn x) (fun y=>o.aW.rel (u::R) (eK o.dZ y)) (IY h)
     |none=>.nil
    |none=>.nil
   |none=>.nil
  |none=>.nil
 |.builtin .len=>match c.args.toList with
  |[x]=>match aS st x with
   |some (.sub b i)=>match look st.ad b with
    |some (.bu _ k xs none)=>nH (u:=k.u) xs i
    |_=>.nil
   |_=>.nil
  |_=>.nil
 |.builtin .append=>match c.args.toList,c.argTypes.toList with
  |[.tmp a,x],[t,O]=>match look st.ab a with
   |some (.sub b i)=>match look st.ad b with
    |some (.bu _ k xs none)=>.t k.u (aB xs i) (fun y=>aB xs i=some y) (fun _ h=>h) fun U=>match cM k.u U k.off (.ab k.t)with
     |some q=>match mS E.P st k.t O x with
      |some W=>.k ((e1 q).length+W.length<=bC) inferInstance .nil
      |none=>.nil
     |none=>.nil
    |_=>.nil
   |some (.osl b)=>match look st.ad b,aS st x with
    |some (.bu _ k xs none),some (.osl X)=>match look st.ad X with
     |some (.bu _ aA Y none)=>match al.as ⟨.ab aA.u,Y⟩ (.ab k.u)with
      |some q=>.k (xs.length+(e1 q).length<=bC) inferInstance .nil
      |none=>.nil
     |_=>.nil
    |_,_=>.nil
   |_=>match vE E.P st 0 t (.tmp a)with
    |some (_,r)=>match mS E.P st r.t O x with
     |some q=>.k (r.xs.length+q.length<=bC) inferInstance .nil
     |none=>.nil
    |none=>.nil
  |[s,x],[t,O]=>match vE E.P st 0 t s with
   |some (_,r)=>match mS E.P st r.t O x with
    |some q=>.k (r.xs.length+q.length<=bC) inferInstance .nil
    |none=>.nil
   |none=>.nil
  |_,_=>.nil
 |.builtin .copy=>match c.args.toList,c.argTypes.toList with
  |[x,y],[_,O]=>match aS st x with
   |some (.row r)=>match look st.rw r with
    |some c=>match mS E.P st c.t O y with
     |some q=>.k (q.length<=c.xs.length) inferInstance .nil
     |none=>.nil
    |none=>.nil
   |_=>.nil
  |_,_=>.nil
 |_=>.nil
def Jp(k:ee)(xs:List k.u.el)(i j:Int)(O:k.u.el->(ag.ab k.t).el->k.t.el->eY):eY:=
 .t k.u (aB xs i) (fun y=>aB xs i=some y) (fun _ h=>h) fun q=>match cM k.u q k.off (.ab k.t)with
  |some o=>.t k.t (aB (e1 o) j) (fun y=>aB (e1 o) j=some y) (fun _ h=>h) fun z=>O q o z
  |none=>.nil
def DZ:Op->Bool
 |.call c=>match c.callee with
  |.value _=>true
  |_=>false
 |_=>false
def MK:Op->Bool
 |.assign (.const (.slice none 0 0))=>true
 |.move (.const (.slice none 0 0))=>true
 |.makeSlice _ _ _=>true
 |_=>false
def L5(E:Env)(st:af)(aa:Oper):eY:=
 match aa.op with
 |.makeSlice t l c=>match dY E.P t,eA (aS st l),eA (aS st c)with
  |some (e,_),some n,some o=>match oz E.P e with
   |some k=>.k (0<=n/\n<=o/\o<=(bC:Int)) inferInstance (.same k.u (cm k.u (b9 k.u) k.off ⟨.ab k.t,[]⟩) (some (b9 k.u)) (.same (.ab k.t) (cM k.u (b9 k.u) k.off (.ab k.t)) (some (show(ag.ab k.t).el from[])) .nil))
   |none=>.nil
  |_,_,_=>.nil
 |_=>.nil
def jE(ap:List (aL P G))(E:Env)(q:af)(aa:Oper):eY:=
 let st:=ip (yI q (ir E aa.op)) (ir E aa.op)
 match aa.op with
 |.binOp Z _ x y _=>match dC st x,dC st y with
  |some a,some b=>TI Z y a b
  |_,_=>.nil
 |.convert src la x=>Pu E.P st src la x
 |.index _ x i=>match dC st x,eA (aS st i)with
  |some ⟨.str,s⟩,some n=>.t (.int .u8) (ft s n) (fun b=>ft s n=some b) (fun _ h=>h) (fun _=>.nil)
  |some ⟨.arr _ u,xs⟩,some n=>nH (u:=u) xs n
  |_,_=>.nil
 |.indexAddr t x i=>match aS st x,eA (aS st i)with
  |some (.val (.ab u) xs),some n=>nH (u:=u) xs n
  |some (.row r),some n=>match look st.rw r with
   |some c=>nH c.xs n
   |none=>.nil
  |some (.vptr (.arr _ u) xs),some n=>nH (u:=u) xs n
  |some (.dW _ _),some n=>match ty E.P t with
   |some (.arr len _)=>.k (0<=n/\n<(len:Int)) inferInstance .nil
   |_=>.nil
  |some (.dU r i0 lb lc),some n=>match look st.rw r,ty E.P t with
   |some c,some (.arr len u)=>match c.t.beq u&&(i0==0&&(Nat.beq lb 0&&Nat.beq lc c.t.cells))with
    |true=>.t c.t (aB c.xs n) (fun y=>aB c.xs n=some y) (fun _ h=>h) (fun _=>.k (c.xs.length=len) inferInstance .nil)
    |false=>.nil
   |_,_=>.nil
  |some (.osl b),some n=>match look st.ad b with
   |some (.bd _ _ xs)=>.k (0<=n/\n<(xs.length:Int)) inferInstance .nil
   |some (.bu _ _ xs _)=>.k (0<=n/\n<(xs.length:Int)) inferInstance .nil
   |_=>.nil
  |some (.sub b i0),some n=>match look st.ad b with
   |some (.bu _ k xs none)=>.t k.u (aB xs i0) (fun y=>aB xs i0=some y) (fun _ h=>h) fun o=>match cM k.u o k.off (.ab k.t)with
    |some O=>.k (0<=n/\n<((e1 O).length:Int)) inferInstance .nil
    |none=>.nil
   |_=>.nil
  |_,_=>.nil
 |.load _ x=>match aS st x with
  |some (.dT b i _ _)=>match look st.ad b with
   |some (.bu _ k xs none)=>nH (u:=k.u) xs i
   |_=>.nil
  |some (.fq b i j _ _)=>match look st.ad b with
   |some (.bu _ k xs none)=>Jp k xs i j fun _ _ _=>.nil
   |_=>.nil
  |some (.dU r i _ _)=>match look st.rw r with
   |some c=>nH c.xs i
   |none=>.nil
  |some (.dW b p)=>match look st.ad b with
   |some (.aY t x _)=>y9 t x p
   |_=>.nil
  |_=>.nil
 |.store _ x v=>match aS q x with
  |some (.dT b i off _)=>match look q.ad b,aS q v with
   |some (.bu _ k xs none),some (.val W z)=>.t k.u (aB xs i) (fun y=>aB xs i=some y) (fun _ h=>h) fun o=>match cm k.u o off ⟨W,z⟩,cm k.u o k.off ⟨.ab k.t,[]⟩with
    |some R,some U=>.same k.u (cm k.u R k.off ⟨.ab k.t,[]⟩) (some ((cm k.u U off ⟨W,z⟩).getD U)) (.same (.ab k.t) (cM k.u R k.off (.ab k.t)) (cM k.u o k.off (.ab k.t)) .nil)
    |_,_=>.nil
   |some (.bu _ k xs h),some (.row r)=>match look q.rw r with
    |some c=>match al.as ⟨.ab c.t,c.xs⟩ (.ab k.t)with
     |some O=>.t k.u (aB xs i) (fun y=>aB xs i=some y) (fun _ h=>h) fun o=>match cm k.u o k.off ⟨.ab k.t,O⟩with
      |some R=>.same k.u (cm k.u R k.off ⟨.ab k.t,[]⟩) (cm k.u o k.off ⟨.ab k.t,[]⟩) (.same (.ab k.t) (cM k.u R k.off (.ab k.t)) (some O) (match h with
       |none=>.nil
       |some i0=>.e (.int .i64) (some i0) (some i) (i0=i) Option.some.inj .nil))
      |none=>.nil
     |none=>.nil
    |none=>.nil
   |_,_=>.nil
  |some (.fq b i j off _)=>match look q.ad b,aS q v with
   |some (.bu _ k xs none),some (.val W z)=>Jp k xs i j fun o O z0=>match cm k.t z0 off ⟨W,z⟩with
    |some Y=>match cm k.u o k.off ⟨.ab k.t,(e1 O).set j.toNat Y⟩with
     |some R=>.same k.u (cm k.u R k.off ⟨.ab k.t,[]⟩) (cm k.u o k.off ⟨.ab k.t,[]⟩) (.same (.ab k.t) (cM k.u R k.off (.ab k.t)) (some ((e1 O).set j.toNat Y)) .nil)
     |none=>.nil
    |none=>.nil
   |_,_=>.nil
  |some (.dU r i _ _)=>match look q.rw r with
   |some c=>nH c.xs i
   |none=>.nil
  |some (.dW b p)=>match look q.ad b with
   |some (.aY t x _)=>y9 t x p
   |_=>.nil
  |some (.fT b n)=>match look q.ad b with
   |some (.bd _ _ xs)=>.k (0<=n/\n<(xs.length:Int)) inferInstance .nil
   |_=>.nil
  |_=>.nil
 |.slice _ x X hi none=>match aS st x with
  |some (.val .str s)=>match dA.r9 st X,dA.sm st hi (List.length (α:=UInt8) s)with
   |some l,some h=>.t .str (dz (show List UInt8 from s) l h) (fun y=>dz (show List UInt8 from s) l h=some y) (fun _ h=>h) (fun _=>.nil)
   |_,_=>.nil
  |some (.val (.ab u) xs)=>match dA.r9 st X,dA.sm st hi (List.length (α:=u.el) xs)with
   |some l,some h=>.t (.ab u) (dz (show List u.el from xs) l h) (fun y=>dz (show List u.el from xs) l h=some y) (fun _ h=>h) (fun _=>.nil)
   |_,_=>.nil
  |some (.row r)=>match look st.rw r,hi with
   |some c,some h=>match eA (aS st h)with
    |some n=>.k (0<=n/\n<=(c.xs.length:Int)) inferInstance .nil
    |none=>.nil
   |_,_=>.nil
  |some (.dU r _ _ _)=>match look st.rw r,X with
   |some c,some l=>match eA (aS st l),se E.P (match aa.op with|.slice t _ _ _ _=>t|_=>0)with
    |some n,some (len,_)=>.t (.ab c.t) (dz c.xs n (c.xs.length:Int)) (fun y=>dz c.xs n (c.xs.length:Int)=some y) (fun _ h=>h) (fun _=>.k (c.xs.length=len) inferInstance .nil)
    |_,_=>.nil
   |_,_=>.nil
  |_=>.nil
 |.makeSlice _ l c=>match eA (aS st l),eA (aS st c)with
  |some n,some k=>.k (0<=n/\n<=k/\k<=(bC:Int)) inferInstance .nil
  |_,_=>.nil
 |.buildSlice t _ ps=>match ps.toList with
  |[(0,x)]=>match aS st x,dY E.P t with
   |some (.eZ l),some (e,_)=>match oz E.P e with
    |some k=>match l[k.off]?,oR k.off k.t 0 l with
     |some (.r r),some ld=>match look st.rw r,pack k.u ld with
      |some c,some (U,[])=>match al.as ⟨.ab c.t,c.xs⟩ (.ab k.t)with
       |some O=>match cm k.u U k.off ⟨.ab k.t,O⟩with
        |some o=>.same k.u (cm k.u o k.off ⟨.ab k.t,[]⟩) (some U) (.same (.ab k.t) (cM k.u o k.off (.ab k.t)) (some O) .nil)
        |none=>.nil
       |none=>.nil
      |_,_=>.nil
     |_,_=>.nil
    |none=>.nil
   |_,_=>.nil
  |_=>.nil
 |.call c=>PG ap E st c
 |_=>.nil
variable {cx:bI} {st st':af} {T:Array Value} {w:World} {E:Env} {Q:cZ} {ops:Array Oper} {l:List Oper}
variable [ah cx]
def fg(P:Program)(G:World->Prop)(ak:Type):=af->bh P G ak->List cy->bv ak
def fin(E:Env)(st:af)(aa:Oper)(k:fg P G ak)(orc:List al)(ps:List Prop)(h:bh P G ak)(o:List cy):bv ak:=
 match mK E st aa orc with
 |some (st',[],ob)=>.fA ob ps (k st' h o)
 |_=>.ret none
def Ff(E:Env)(st:af)(aa:Oper)(f:Nat):Option (Nat×Int):=
 match aa.op with
 |.call c=>match c.callee,c.args.toList,aa.dst with
  |.value x,[.const (.slice none 0 0),y],some d=>match aS st x,aS st y with
   |some (.clos o []),some (.val (.int .i64) n)=>match Nat.beq o f,Nat.blt d E.n with
    |true,true=>some (d,n)
    |_,_=>none
   |_,_=>none
  |_,_,_=>none
 |_=>none
def p8(ap:List (aL P G))(E:Env)(st:af)(aa:Oper)(h:bh P G ak)(q:List cy)(k:fg P G ak):bv ak:=
 match DZ aa.op,h with
 |true,.Ef O h=>match Ff E st aa O.f with
  |some (d,n)=>.ask (@bk (0<=n/\n<=(bC:Int)) inferInstance) fun _=>k ((st.dq d ⟨O.e,O.t,[]⟩).put d (.row d)) h q
  |none=>.ret none
 |true,.ci O h=>match E0 st aa O.f with
  |some r=>match look st.rw r with
   |some c=>match al.as ⟨.ab c.t,c.xs⟩ (.ab O.t),Nat.beq c.e O.e with
    |some xs,true=>match BZ st aa E.n r ⟨O.e,O.t,O.fn xs⟩with
     |some st'=>k st' h q
     |none=>.ret none
    |_,_=>.ret none
   |none=>.ret none
  |none=>.ret none
 |true,.cP o ρ ρ' U=>match oO E st aa o.F.n o.f ρ with
  |some R=>match o.X R with
   |some x=>.eqs (some R) (some (o.F.S x)) (.ask (o.fn x) fun y=>match jP st (o.F.bq x y) aa o.F.n E.n ρ ρ' (o.F.au x y)with
    |some st'=>k st' (U y) q
    |none=>.ret none)
   |none=>.ret none
  |none=>.ret none
 |true,.Gt o i j ρ ρ' U=>match ghost E.P st aa i j with
  |some W=>match Ez E W aa o.F.n o.f ρ i j with
   |some R=>match o.X R with
    |some x=>.eqs (some R) (some (o.F.S x)) (.ask (o.fn x) fun y=>match jP W (o.F.bq x y) aa o.F.n E.n ρ ρ' (o.F.au x y)with
     |some st'=>k st' (U y) q
     |none=>.ret none)
    |none=>.ret none
   |none=>.ret none
  |none=>.ret none
 |_,h=>match MK aa.op with
  |true=>match h with
   |.mk h=>eV (L5 E st aa) h q [⟨.unit,()⟩] [] (fin E st aa k)
   |h=>eV (jE ap E st aa) h.dec q [] [] (fin E st aa k)
  |false=>match aa.op with
  |.next x true=>match aS st x with
   |some (.iter b)=>match look st.ad b with
    |some (.iter s p)=>.ite (decide (p<s.length)) (fin E st aa k [gK true] [p<s.length] h.fork.1 q) (fin E st aa k [gK false] [s.length<=p] h.fork.2 q)
    |_=>.ret none
   |_=>.ret none
  |_=>match h with
   |.un d h=>match Nat.beq (aa.dst.getD 0) d with
    |true=>eV (jE ap E st aa) h q [⟨.unit,()⟩] [] (fin E st aa k)
    |false=>eV (jE ap E st aa) (.un d h) q [] [] (fin E st aa k)
   |h=>eV (jE ap E st aa) h q [] [] (fin E st aa k)
def si(ap:List (aL P G))(E:Env)(st:af)(aa:Oper)(h:bh P G ak)(o:List cy)(k:fg P G ak):bv ak:=
 match DZ aa.op,h with
 |true,.rq r h'=>match look st.rw r,aa.guard with
  |some c,none=>p8 ap E (st.freeze r c) aa h' o k
  |_,_=>.ret none
 |_,.KZ n d h'=>match Nat.beq (aa.dst.getD 0) n with
  |true=>match AK E.P st d,aa.guard with
   |some st',none=>p8 ap E st' aa h' o k
   |_,_=>.ret none
  |false=>p8 ap E st aa (.KZ n d h') o k
 |_,h=>p8 ap E st aa h o k
def wP(ops:Array Oper)(st:af)(g:Nat×Bool):Option (Nat×Bool):=
 match(ops[g.1]?).bind (·.dst)with
 |some d=>match look st.ab d with
  |some (.val .bool b)=>some (d,b)
  |_=>none
 |none=>none
def ja(st:af)(o:Nat):af:={st with ab:=del st.ab o}
def rE(b6:List Oper->af->Option (af×List al×List Prop))(l:List Oper)(st:af)(o:Nat)(b:Bool)(d:Nat):Option (af×Bool):=
 match b6 l (fJ st o b)with
 |some (s,[],[])=>match look s.ab d with
  |some (.val .bool x)=>match s.norm (d::cV (del (ja st o).ab d)) (cV st.ad) (cV st.rw)with
   |some q=>some (q,x)
   |none=>none
  |_=>none
 |_=>none
def o3(o:List gZ)(S:fG o->af)(q:fG o->Option ak)(st:af):bv ak:=
 match cF st o with
 |some z=>.eqs (st.norm (cV (S z).ab) (cV (S z).ad) (cV (S z).rw)) (some (S z)) (.ret (q z))
 |none=>.ret none
def sv(o:af)(d:Nat)(q:Bool->Option ak)(st:af):bv ak:=
 match look st.ab d with
 |some (.val .bool v)=>.eqs (st.norm (d::cV (del o.ab d)) (cV o.ad) (cV o.rw)) (some (o.put d (.val .bool v))) (.ret (q v))
 |_=>.ret none
def EL(l:List Oper)(m:Nat):Option Nat:=match l[m]? with
 |some aa=>aa.dst
 |none=>none
abbrev sI(P:Program)(G:World->Prop)(ak:Type):=af->Oper->bh P G ak->List cy->fg P G ak->bv ak
def gq(q:Nat)(eT:af->List Oper->Option (af×List Oper))(step:sI P G ak)(b6:List Oper->af->Option (af×List al×List Prop))(ops:Array Oper):Nat->List Oper->af->bh P G ak->List cy->fg P G ak->bv ak
 |0,_,_,_,_,_=>.ret none
 |n+1,le,st,h,O,K=>match le with
  |[]=>K st h O
  |aa::l=>match aa.guard with
   |none=>match eT st (aa::l)with
    |some (st',lf)=>gq q eT step b6 ops n lf st' h O K
    |none=>step st aa h O fun st' h' Y=>gq q eT step b6 ops n l st' h' Y K
   |some g=>match h with
    |.bX m h'=>match wP ops st g,EL (aa::l) m with
     |some (o,b),some d=>match rE b6 ((aa::l).take (m+1)) st o true d,rE b6 ((aa::l).take (m+1)) st o false d with
      |some (Z,U),some (la,W)=>.eqs (some (fJ st o b)) (some st) (.eqs (some Z) (some ((ja st o).put d (.val .bool U))) (.eqs (some la) (some ((ja st o).put d (.val .bool W)))
        (gq q eT step b6 ops n (l.drop m) ((ja st o).put d (.val .bool (bif b then U else W))) h' O K)))
      |_,_=>.ret none
     |_,_=>.ret none
    |.MU m R X=>match wP ops st g,EL (aa::l) m with
     |some (o,b),some d=>match rE b6 ((aa::l).take (m+1)) st o true d,rE b6 ((aa::l).take (m+1)) st o false d with
      |some (Z,U),some (la,W)=>.eqs (some (fJ st o b)) (some st) (.eqs (some Z) (some ((ja st o).put d (.val .bool U))) (.eqs (some la) (some ((ja st o).put d (.val .bool W)))
        (.fW (fun v=>gq q eT step b6 ops n (l.drop m) ((ja st o).put d (.val .bool v)) (X v) [] K) R (.ret (R (bif b then U else W))))))
      |_,_=>.ret none
     |_,_=>.ret none
    |.g m R lb lc X=>match wP ops st g,EL (aa::l) m with
     |some (o,b),some d=>.eqs (some (fJ st o b)) (some st) (.fW (fun v=>gq q eT step b6 ops n (l.drop m) ((ja st o).put d (.val .bool v)) (X v) [] K) R
       (.ite b (gq q eT step b6 ops n ((aa::l).take (m+1)) (fJ st o true) lb O fun st' _ _=>sv (ja st o) d R st')
        (gq q eT step b6 ops n ((aa::l).take (m+1)) (fJ st o false) lc O fun st' _ _=>sv (ja st o) d R st')))
     |_,_=>.ret none
    |.iG m ld S R lb lc X=>match wP ops st g with
     |some (o,b)=>.eqs (some (fJ st o b)) (some st) (.fW (fun z=>gq q eT step b6 ops n (l.drop m) (S st z) (X z) [] K) R
       (.ite b (gq q eT step b6 ops n ((aa::l).take (m+1)) (fJ st o true) lb O fun st' _ _=>o3 ld (S st) R st')
        (gq q eT step b6 ops n ((aa::l).take (m+1)) (fJ st o false) lc O fun st' _ _=>o3 ld (S st) R st')))
     |none=>.ret none
    |h=>match eF ops st aa with
     |some true=>step st aa h.dec O fun st' h' Y=>gq q eT step b6 ops n l st' h' Y K
     |some false=>match aa.dst with
      |some d=>match Nat.blt d q with
       |true=>gq q eT step b6 ops n l (st.put d .undef) h.dec O K
       |false=>.ret none
      |none=>gq q eT step b6 ops n l st h.dec O K
     |none=>.ret none
def F8(E:Env)(st:af)(aa:Oper)(d:Nat)(k:fg P G ak)(orc:List al)(ps:List Prop)(h:bh P G ak)(o:List cy):bv ak:=
 match jp E st aa orc with
 |some ⟨aU,[],ob⟩=>.fA ob ps (k (st.put d aU) h o)
 |_=>.ret none
def FJ(ap:List (aL P G))(E:Env):sI P G ak:=fun st aa h o k=>
 match aa.dst with
 |some d=>match Nat.blt d E.n with
  |true=>eV (jE ap E st aa) h o [] [] (F8 E st aa d k)
  |false=>.ret none
 |none=>.ret none
def KF(E:Env)(st:af)(aa:Oper)(d:Nat)(k:fg P G ak)(orc:List al)(ps:List Prop)(h:bh P G ak)(o:List cy):bv ak:=
 match jp E st aa orc with
 |some ⟨aU,[],ob⟩=>match zb E.P aa aU with
  |true=>.fA ob ps (k (st.put d aU) h o)
  |false=>.ret none
 |_=>.ret none
def Ed(ap:List (aL P G))(E:Env):sI P G ak:=fun st aa h o k=>
 match aa.dst with
 |some d=>match Nat.blt d E.n with
  |true=>eV (jE ap E st aa) h o [] [] (KF E st aa d k)
  |false=>.ret none
 |none=>.ret none
def rM(ap:List (aL P G))(E:Env)(ops:Array Oper)(l:List Oper):af->bh P G ak->List cy->fg P G ak->bv ak:=gq E.n (wR E) (si ap E) (fun l st=>fI E ops l st []) ops 5000 l
def og(ap:List (aL P G))(E:Env)(ops:Array Oper)(l:List Oper):af->bh P G ak->List cy->fg P G ak->bv ak:=gq E.n (fun _ _=>none) (FJ ap E) (fun l st=>gS E ops l st []) ops 5000 l
def zx(ap:List (aL P G))(E:Env)(ops:Array Oper)(l:List Oper):af->bh P G ak->List cy->fg P G ak->bv ak:=gq E.n (fun _ _=>none) (Ed ap E) (fun _ _=>none) ops 5000 l
def uZ(ap:List (aL P G))(E:Env)(ops:Array Oper)(aa:Oper)(d:Nat)(orc:List al)(ps:List Prop)(q:List Nat)(K:fg P G ak):List Nat->af->bh P G ak->List cy->bv ak
 |[],st,h,o=>rM ap E ops (bK ops q) st h o K
 |c::R,st,h,o=>match ops[c]? with
  |some O=>match eF ops st O with
   |some true=>si ap E st O h o fun st' h' U=>match jp E st' aa orc,look st'.ab d with
    |some r,some aU=>match AC aU with
     |true=>.eqs (some ⟨[(d,r.aU)],[],[]⟩) (some ⟨[(d,aU)],[],[]⟩) (.fA r.ob ps (uZ ap E ops aa d orc ps q K R st' h' U))
     |false=>.ret none
    |_,_=>.ret none
   |_=>.ret none
  |none=>.ret none
def Ki(ap:List (aL P G))(E:Env)(aa:Oper)(d:Nat)(K:List al->List Prop->fg P G ak):fg P G ak:=fun st h o=>
 eV (jE ap E st aa) h o [] [] fun orc ps h o=>match jp E st aa orc with
  |some r=>.fA r.ob ps (K orc ps (st.put d r.aU) h o)
  |none=>.ret none
def yW(ap:List (aL P G))(E:Env)(ops:Array Oper)(K:fg P G ak):List Nat->af->bh P G ak->List cy->bv ak
 |[],st,h,o=>K st h o
 |c::C,st,h,o=>match ops[c]? with
  |some aa=>match eF ops st aa,aa.dst with
   |some true,some d=>match Nat.blt d E.n with
    |true=>eV (jE ap E st aa) h o [] [] fun orc ps h o=>match yb E st aa orc with
     |some ⟨aU,_,ob⟩=>.fA ob ps (yW ap E ops K C (st.put d aU) h o)
     |none=>.ret none
    |false=>.ret none
   |_,_=>.ret none
  |none=>.ret none
/-! Regions gone through in any order. -/
inductive fw(P:Program)(G:World->Prop):Type 1
 |aa (orc:List al) (ps:List Prop)
 |b {α β:Type} (z:Option Nat) (o:dM P G α β) (ρ ρ':List (Nat×Nat)) (x:α) (y:β)
def oA:fw P G->Prop
 |.aa _ ps=>bP ps
 |.b _ o _ _ x y=>o.fn x=some y
def vM(st:af):Option Nat->Option af
 |none=>some st
 |some r=>match look st.rw r with
  |some c=>some (st.freeze r c)
  |none=>none
def isAny:ao->Bool
 |.any=>true
 |_=>false
def Hc(s:af):Option af:=s.norm (cV (s.ab.filter fun p=>!isAny p.2)) (cV s.ad) (cV s.rw)
def Oc(E:Env)(st:af)(aa:Oper):fw P G->Option af
 |.aa orc _=>match mK E st aa orc with
  |some (st',[],_)=>Hc st'
  |_=>none
 |.b z o ρ ρ' x y=>match vM st z with
  |some st=>match jP st (o.F.bq x y) aa o.F.n E.n ρ ρ' (o.F.au x y)with
   |some st'=>Hc st'
   |none=>none
  |none=>none
def uQ:List (Nat×fw P G)->Nat->Option (fw P G)
 |[],_=>none
 |(k,v)::r,n=>bif Nat.beq k n then some v else uQ r n
def oV(E:Env)(ops:Array Oper)(o:List (Nat×fw P G))(st:af):List Nat->Option af
 |[]=>some st
 |i::q=>match oV E ops o st q with
  |some s=>match ops[i]?,uQ o i with
   |some aa,some dl=>Oc E s aa dl
   |_,_=>none
  |none=>none
def AL(E:Env)(s:af)(aa:Oper)(t:af)(rest:bv ak):fw P G->bv ak
 |.aa orc ps=>match mK E s aa orc with
  |some (q,[],ob)=>.eqs (q.norm (cV t.ab) (cV t.ad) (cV t.rw)) (some t) (.fA ob ps rest)
  |_=>.ret none
 |.b z o ρ ρ' x y=>match vM s z with
  |some s=>match oO E s aa o.F.n o.f ρ,jP s (o.F.bq x y) aa o.F.n E.n ρ ρ' (o.F.au x y)with
   |some O,some q=>.eqs (some O) (some (o.F.S x)) (.eqs (q.norm (cV t.ab) (cV t.ad) (cV t.rw)) (some t) rest)
   |_,_=>.ret none
  |none=>.ret none
def zw(E:Env)(ops:Array Oper)(o:List (Nat×fw P G))(st:af):List (List Nat×Nat)->bv ak->bv ak
 |[],rest=>rest
 |(q,i)::l,rest=>match oV E ops o st q,oV E ops o st (nF i q),ops[i]?,uQ o i with
  |some s,some t,some aa,some dl=>match aa.guard with
   |none=>AL E s aa t (zw E ops o st l rest) dl
   |some _=>.ret none
  |_,_,_,_=>.ret none
def po(E:Env)(st:af)(aa:Oper)(K:af->bh P G ak->List cy->fw P G->bv ak)(orc:List al)(ps:List Prop)(h:bh P G ak)(o:List cy):bv ak:=
 match mK E st aa orc with
 |some (st',[],_)=>K st' h o (.aa orc ps)
 |_=>.ret none
def wr(E:Env)(st:af)(aa:Oper)(z:Option Nat)(h:bh P G ak)(O:List cy)(K:af->bh P G ak->List cy->fw P G->bv ak):bv ak:=
 match h with
 |.cP o ρ ρ' R=>match vM st z with
  |some st=>match oO E st aa o.F.n o.f ρ with
   |some q=>match o.X q with
    |some x=>.eqs (some q) (some (o.F.S x)) (.ask (o.fn x) fun y=>match jP st (o.F.bq x y) aa o.F.n E.n ρ ρ' (o.F.au x y)with
     |some st'=>K st' (R y) O (.b z o ρ ρ' x y)
     |none=>.ret none)
    |none=>.ret none
   |none=>.ret none
  |none=>.ret none
 |_=>.ret none
def DV(ap:List (aL P G))(E:Env)(st:af)(aa:Oper)(h:bh P G ak)(o:List cy)(K:af->bh P G ak->List cy->fw P G->bv ak):bv ak:=
 match DZ aa.op,h with
 |true,.rq r h'=>wr E st aa (some r) h' o K
 |true,.cP q ρ ρ' O=>wr E st aa none (.cP q ρ ρ' O) o K
 |_,h=>match MK aa.op with
  |true=>match h with
   |.mk h=>eV (L5 E st aa) h o [⟨.unit,()⟩] [] (po E st aa K)
   |h=>eV (jE ap E st aa) h.dec o [] [] (po E st aa K)
  |false=>match h with
   |.un d h=>match Nat.beq (aa.dst.getD 0) d with
    |true=>eV (jE ap E st aa) h o [⟨.unit,()⟩] [] (po E st aa K)
    |false=>eV (jE ap E st aa) (.un d h) o [] [] (po E st aa K)
   |h=>eV (jE ap E st aa) h o [] [] (po E st aa K)
def yr(ap:List (aL P G))(E:Env)(ops:Array Oper):List Nat->af->bh P G ak->List cy->List (Nat×fw P G)->(bh P G ak->List cy->List (Nat×fw P G)->bv ak)->bv ak
 |[],_,h,o,q,K=>K h o q
 |i::is,st,h,o,q,K=>match ops[i]? with
  |some aa=>DV ap E st aa h o fun st' h' O dl=>yr ap E ops is st' h' O ((i,dl)::q) K
  |none=>.ret none
def PH(ops:Array Oper)(q:List (List Nat)):List (List Nat×Nat):=q.flatMap fun o=>(Region.ready .any ops (mO ops.size o)).map fun i=>(o,i)
def BH(ap:List (aL P G))(E:Env)(ops:Array Oper)(o:List (List Nat))(st:af)(h:bh P G ak)(O:List cy)(K:fg P G ak):bv ak:=
 match E.P.follows .mixedOrders,EE .any ops (List.range ops.size).reverse o with
 |true,true=>yr ap E ops (List.range ops.size) st h O [] fun h' R q=>match oV E ops q st (List.range ops.size).reverse with
  |some t=>zw E ops q st (PH ops o) (K t h' R)
  |none=>.ret none
 |_,_=>.ret none
abbrev mP(P:Program)(G:World->Prop)(ak:Type):=Exit->af->bh P G ak->List cy->bv ak
def u7(h:bh P G ak)(st:af):Option af:=match h with
 |.gd o bs au ρ=>(st.norm o bs au).bind (·.ch ρ)
 |_=>some st
def ends(a:af->bv ak)(K:mP P G ak):mP P G ak:=fun e st h o=>match e with
 |.normal=>match u7 h st with
  |some s=>a s
  |none=>.ret none
 |e=>K e st h o
def vm(ap:List (aL P G))(E:Env)(ops:Array Oper)(O:Bool)(st:af)(h:bh P G ak)(q:List cy)(K:mP P G ak):bv ak:=
 match O with
  |false=>rM ap E ops ops.toList st h q fun st' h' o=>K .normal st' h' o
  |true=>match h with
   |.nA m h'=>match E.P.follows .mixedOrders,Region.lexTailB .any ops m with
    |true,true=>og ap E ops (ops.toList.take m) st h' q fun st' h' o=>rM ap E ops (ops.toList.drop m) st' h' o fun st' h' o=>K .normal st' h' o
    |_,_=>.ret none
   |.mj a b c h'=>match E.P.follows .mixedOrders,BW .any ops a b c,Nat.beq (a.length+(b.length+c.length)) ops.toList.length with
    |true,true,true=>zx ap E ops (bK ops a) st h' q fun st' h' o=>og ap E ops (bK ops b) st' h' o fun st' h' o=>rM ap E ops (bK ops c) st' h' o fun st' h' o=>K .normal st' h' o
    |_,_,_=>.ret none
   |.O4 a b i c c2 h'=>match ops.toList[i]? with
    |some aa=>match aa.dst,aa.guard,oS aa&&(!(aa.looksAt ops.toList.toArray).contains (aa.dst.getD 0)&&(Nat.blt (aa.dst.getD 0) E.n&&Nat.beq (a.length+(b.length+(c.length+c2.length+1))) ops.toList.length)),E.P.follows .mixedOrders,xz .any ops a b i c c2 with
     |some d,none,true,true,true=>zx ap E ops (bK ops a) st h' q fun st' h' o=>og ap E ops (bK ops b) st' h' o (Ki ap E aa d fun orc ps st' h' o=>uZ ap E ops aa d orc ps c2 (fun st' h' o=>K .normal st' h' o) c st' h' o)
     |_,_,_,_,_=>.ret none
    |none=>.ret none
   |.rC a b c2 c3 c4 c5 c6 h'=>match E.P.follows .mixedOrders,FX .any ops a b c2 c3 c4 c5 c6,Nat.beq (a.length+(b.length+5)) ops.toList.length,zh ops.toList.toArray c2 c3 c4 c5 c6 with
    |true,true,true,some C=>zx ap E ops (bK ops a) st h' q fun st' h' o=>og ap E ops (bK ops b) st' h' o fun st' h' o=>match EW E st' C with
     |some st'=>K .normal st' h' o
     |none=>.ret none
    |_,_,_,_=>.ret none
   |.md a b c d h'=>match E.P.follows .mixedOrders,AE .any ops a b c d,Nat.beq (a.length+(b.length+(c.length+d.length))) ops.toList.length with
    |true,true,true=>zx ap E ops (bK ops a) st h' q fun st' h' o=>og ap E ops (bK ops b) st' h' o fun st' h' o=>rM ap E ops (bK ops c) st' h' o fun st' h' o=>
      og ap E ops (bK ops d) st' h' o fun st' h' o=>K .normal st' h' o
    |_,_,_=>.ret none
   |.aM b c h'=>match E.P.follows .mixedOrders,zH .any ops b c,Nat.beq (b.length+c.length) ops.toList.length with
    |true,true,true=>og ap E ops (bK ops b) st h' q fun st' h' o=>yW ap E ops (fun st' h' o=>K .normal st' h' o) c st' h' o
    |_,_,_=>.ret none
   |.dl R h'=>BH ap E ops R st h' q fun st' h' o=>K .normal st' h' o
   |h=>match E.P.follows .mixedOrders,Region.lexB .any ops with
    |true,true=>og ap E ops ops.toList st h.dec q fun st' h' o=>K .normal st' h' o
    |_,_=>.ret none
def nf:bh P G ak->af->(af->bh P G ak->bv ak)->bv ak
 |.rX n d t r o q,st,k=>match look st.ab d with
  |some (.val u x)=>match r.agg,al.as ⟨u,x⟩ (.alt n t r)with
   |false,some y=>.cs (show t.el⊕r.el from y) (fun a=>nf (o a) (st.put d (.val (.cB n t) a)) k) fun b=>nf (q b) (st.put d (.val r b)) k
   |_,_=>.ret none
  |_=>.ret none
 |.ap d f o q,st,k=>match look st.ab d with
  |some (.val .cE x)=>.ite (oX x f) (nf o (st.put d (.clos f [])) k) (nf q st k)
  |_=>.ret none
 |h,st,k=>k st h
def run(ap:List (aL P G))(E:Env):Code->af->bh P G ak->List cy->mP P G ak->bv ak
 |.skip,st,h,o,K=>K .normal st h o
 |.exit id,st,h,o,K=>K (.exit id) st h o
 |.ret,st,h,o,K=>K .ret st h o
 |.block id c,st,h,o,K=>run ap E c st h o fun e st' h' q=>match e with
  |.normal=>K .normal st' h' q
  |.ret=>K .ret st' h' q
  |.exit i=>match Nat.beq i id with
   |true=>K .normal st' h' q
   |false=>K (.exit i) st' h' q
  |_=>.ret none
 |.seq x y,st,h,o,K=>match h with
  |.j O S U X Y=>.fW (fun z=>run ap E y (S st z) (Y z) [] K) U (run ap E x st X o (ends (o3 O (S st) U) K))
  |h=>run ap E x st h.dec o fun e st' h' q=>match e with
   |.normal=>run ap E y st' h' q K
   |e=>K e st' h' q
 |.cond c x y,st,h,o,K=>match aS st c with
  |some (.val .bool b)=>match h with
   |.T h'=>.jM b true (run ap E x st h' o K)
   |.F h'=>.jM b false (run ap E y st h' o K)
   |h=>.ite b (run ap E x st h.fork.1 o K) (run ap E y st h.fork.2 o K)
  |_=>.ret none
 |.loop c,st,h,_,K=>match h with
  |.bJ O S F k Z=>match cF st O with
   |some z0=>.iI (fun W z=>run ap E c (S st z) (Z W z) [] (ends (o3 O (S st) W) K)) F (.eqs (st.norm (cV (S st z0).ab) (cV (S st z0).ad) (cV (S st z0).rw)) (some (S st z0)) (.ret (F k z0)))
   |none=>.ret none
  |_=>.ret none
 |.region _ ops R,st,h,o,K=>nf h st fun st h=>match h with
  |.fr r h'=>match look st.rw r with
   |some c=>vm ap E ops R (st.freeze r c) h' o K
   |none=>.ret none
  |.yk la bs au h'=>match st.norm la bs au with
   |some st'=>vm ap E ops R st' h' o K
   |none=>.ret none
  |h=>vm ap E ops R st h o K
 |_,_,_,_,_=>.ret none
end Go.Ev
namespace Go.Ev
open Go Go.RowKit
variable [b8]
variable {ak:Type} {P:Program} {G:World->Prop}
variable {cx:bI} {st st':af} {T:Array Value} {w:World} {E:Env} {Q:cZ} {ops:Array Oper} {l:List Oper}
variable [ah cx]
theorem wD(o:bE E cx){aa:Oper}(q:eF ops st aa=some true){orc:List al}{ob:List Prop}(O:mK E st aa orc=some (st',[],ob))(R:bP ob)(h:bU cx ops Q l st'):bU cx ops Q (aa::l) st:=by
 refine sQ o 1 (orc:=orc) (ob:=ob++[]) ?_ (by rw[List.append_nil];exact R) h
 show fI E ops [aa] st orc=_
 unfold fI
 rw[q]
 simp only[O,fI]
theorem CH{r:ak}{aa:Oper}{k:fg P G ak}{orc:List al}{ps:List Prop}{h:bh P G ak}{q:List cy}(o:bD (fin E st aa k orc ps h q) r)(O:bP ps):
  ∃st' ob,mK E st aa orc=some (st',[],ob)/\bP ob/\bD (k st' h q) r:=by
 unfold fin at o
 split at o
 ·rename_i st' ob R
  obtain⟨e,U⟩:=o.fA
  exact⟨st',_,R,e▸O,U⟩
 ·exact o.no
theorem PD(X:bE E cx)(o:zM E.P){aa:Oper}{d:Nat}{n:Int}(le:eF ops st aa=some true)(q:Ff E st aa o.f=some (d,n))(lf:0<=n/\n<=(bC:Int))
  (h:bU cx ops Q l ((st.dq d ⟨o.e,o.t,[]⟩).put d (.row d))):bU cx ops Q (aa::l) st:=by
 rintro T w ⟨m,R⟩
 refine wpList_step fun K Y=>?_
 rw[iC ⟨m,R⟩ le]
 simp only[if_true]
 unfold Ff at q
 split at q
 case h_2=>cases q
 rename_i c lg
 split at q
 case h_2=>cases q
 rename_i x y d' lh li ai
 split at q
 case h_2=>cases q
 rename_i lj lx lk ll
 split at q
 case h_2=>cases q
 rename_i U lm
 cases q
 have U:=Nat.eq_of_beq_eq_true U
 have ln:Act.eval ⟨T,ah.D cx⟩ x=.func (.func lj) #[] (([]:List Nat).map m).toArray:=bf R lk
 have lo:Act.eval ⟨T,ah.D cx⟩ y=.int .i64 n:=da.1 (bf R ll)
 obtain⟨k,lp⟩:=Int.eq_ofNat_of_zero_le lf.1
 have lq:∀{Z:Program} (e:Z=E.P),∃O:zM Z,O.f=o.f/\O.e=o.e/\O.t=o.t:=fun e=>by subst e;exact⟨o,rfl,rfl,rfl⟩
 obtain⟨O,la,lr,ls⟩:=lq X.P
 have lb:=O.ok k w (by omega)
 have lc:=O.enters
 rw[la,<-U,lr,ls]at lb
 rw[la,<-U]at lc
 have W:d<cx.n:=by rw[X.n];exact cR lm
 unfold Oper.wp
 rw[vq lg lh ln lc w,li]
 simp only[List.map_cons,List.map_nil,List.append_nil,lo,lp]
 refine lb.mono ?_
 rintro e w' ⟨ld,lt⟩
 rcases lt with rfl|⟨cap,cur,rfl,lu,lv,lw⟩
 ·refine Y _ _ ?_
  rw[ai]
  exact h _ _ ⟨_,(tU (R.ext ld) d o.e (.inl W) o.t).put W (b7 _ _ _).symm⟩
 ·refine Y _ _ ?_
  rw[ai]
  exact h _ _ ⟨_,(r7 R d (.inl W) (xs:=[]) (cells:=[]) (u:=o.t) w' ld lu (Nat.zero_le _) lv lw (by simp) rfl).put W (b7 _ _ _).symm⟩
theorem ws{ap:List (aL P G)}{cC:Nat}(O:bE (cK P G cC ap) cx){r:ak}{aa:Oper}{h:bh P G ak}{lg:List cy}{k:fg P G ak}(R:eF ops st aa=some true)(U:cQ lg)
  (o:bD (p8 ap (cK P G cC ap) st aa h lg k) r)(W:∀st' h' lh,cQ lh->bD (k st' h' lh) r->bU cx ops Q l st'):bU cx ops Q (aa::l) st:=by
 unfold p8 at o
 split at o
 ·rename_i lf h' _
  split at o
  ·rename_i d n X
   obtain⟨_,Z,la⟩:=o.ask
   exact PD O lf R X (dx Z) (W _ _ _ U la)
  ·exact o.no
 ·rename_i lf h' _
  split at o
  ·rename_i lj X
   split at o
   ·rename_i c lk
    split at o
    ·rename_i xs ll lm
     split at o
     ·rename_i st' lb
      have ln:=BU (Nat.eq_of_beq_eq_true lm) ll
      subst ln
      exact Ox O lf.ok xs (lf.fn xs) rfl lj R X lk lb (W _ _ _ U o)
     ·exact o.no
    ·exact o.no
   ·exact o.no
  ·exact o.no
 ·rename_i α β lc ρ ρ' lo _
  split at o
  ·rename_i lp X
   split at o
   ·rename_i x lq
    obtain⟨e,la⟩:=o.eqs
    obtain⟨y,Z,Y⟩:=la.ask
    split at Y
    ·rename_i st' lb
     exact DX O lc.ok x y (lc.rel x y Z) rfl R (X.trans e) lb (W _ _ _ U Y)
    ·exact Y.no
   ·exact o.no
  ·exact o.no
 ·rename_i α β lc i j ρ ρ' lo _
  split at o
  ·rename_i lu lr
   split at o
   ·rename_i lp X
    split at o
    ·rename_i x lq
     obtain⟨e,la⟩:=o.eqs
     obtain⟨y,Z,Y⟩:=la.ask
     split at Y
     ·rename_i st' lb
      exact RN O lc.ok x y (lc.rel x y Z) rfl lr R (X.trans e) lb (W _ _ _ U Y)
     ·exact Y.no
    ·exact o.no
   ·exact o.no
  ·exact o.no
 ·have last:∀{orc:List al} {q:eY} {h:bh P G ak},bD (eV q h lg orc [] (fin (cK P G cC ap) st aa k)) r->bU cx ops Q (aa::l) st:=fun o=>by
   obtain⟨orc,ps,h',lh,ls,lt,o⟩:=jT (ps:=[]) _ U trivial o
   obtain⟨st',ob,ld,le,o⟩:=CH o ls
   exact wD O R ld le (W _ _ _ lt o)
  split at o
  ·split at o
   ·exact last o
   ·exact last o
  split at o
  ·split at o
   ·split at o
    ·rcases o.ite with ⟨li,o⟩|⟨li,o⟩
     ·obtain⟨st',ob,ld,le,o⟩:=CH o ⟨of_decide_eq_true li,trivial⟩
      exact wD O R ld le (W _ _ _ U o)
     ·obtain⟨st',ob,ld,le,o⟩:=CH o ⟨Nat.le_of_not_lt (of_decide_eq_false li),trivial⟩
      exact wD O R ld le (W _ _ _ U o)
    ·exact o.no
   ·exact o.no
  ·split at o
   ·split at o
    ·exact last o
    ·exact last o
   ·exact last o
theorem uq{aa:Oper}(h:aa.guard=none):eF ops st aa=some true:=by unfold eF;rw[h]
theorem HB{ap:List (aL P G)}{cC:Nat}(q:bE (cK P G cC ap) cx){r:ak}{aa:Oper}{h:bh P G ak}{X:List cy}{k:fg P G ak}(Y:eF ops st aa=some true)(O:cQ X)
  (o:bD (si ap (cK P G cC ap) st aa h X k) r)(R:∀st' h' Z,cQ Z->bD (k st' h' Z) r->bU cx ops Q l st'):bU cx ops Q (aa::l) st:=by
 unfold si at o
 split at o
 ·split at o
  ·rename_i c la U
   have:=ws (l:=l) (ops:=ops) (Q:=Q) q (uq U) O o R
   rintro T w ⟨m,W⟩
   exact this T w ⟨m,W.freeze (bc la)⟩
  ·exact o.no
 ·split at o
  ·split at o
   ·rename_i lc lb U
    have:=ws (l:=l) (ops:=ops) (Q:=Q) q (uq U) O o R
    rintro T w ⟨m,W⟩
    exact this T w ⟨m,WW W lb⟩
   ·exact o.no
  ·exact ws q Y O o R
 ·exact ws q Y O o R
structure zW(cx:bI)(ops:Array Oper)(Y:Nat)(r:ak)(q:Type)(W:q->List Oper->af->Prop)(N:q->af->Prop)(eT:af->List Oper->Option (af×List Oper))(step:sI P G ak)(b6:List Oper->af->Option (af×List al×List Prop)):Prop where
 nil:∀i st,N i st->W i [] st
 norm:∀i st st' o bs au,st.norm o bs au=some st'->N i st'->N i st
 pb:∀i l st st' o bs au,st.norm o bs au=some st'->W i l st'->W i l st
 step:∀i aa l st h O (k:fg P G ak),eF ops st aa=some true->cQ O->bD (step st aa h O k) r->(∀st' h' R,cQ R->bD (k st' h' R) r->W i l st')->W i (aa::l) st
 undef:∀i aa l st,eF ops st aa=some false->(match aa.dst with
  |some d=>Nat.blt d Y=true/\W i l (st.put d .undef)
  |none=>W i l st)->W i (aa::l) st
 join:∀i n l st (A:Type) (F:A->Prop) (S:A->af),(∀a,F a->W i (l.drop n) (S a))->(∀U,(∀a,F a->N U (S a))->W U (l.take n) st)->W i l st
 eT:∀i l st st' X,eT st l=some (st',X)->W i X st'->W i l st
 b6:∀i m l st s,b6 (l.take m) st=some (s,[],[])->W i (l.drop m) s->W i l st
theorem xK{b6:List Oper->af->Option (af×List al×List Prop)}{l:List Oper}{st:af}{gs d:Nat}{b:Bool}{s:af}{x:Bool}(h:rE b6 l st gs b d=some (s,x)):
  ∃o,b6 l (fJ st gs b)=some (o,[],[])/\o.norm (d::cV (del (ja st gs).ab d)) (cV st.ad) (cV st.rw)=some s:=by
 unfold rE at h
 split at h
 ·rename_i o q
  split at h
  ·split at h
   ·rename_i R O
    cases h
    exact⟨o,q,O⟩
   ·cases h
  ·cases h
 ·cases h
theorem BX{r:ak}{q:List gZ}{S:fG q->af}{O:fG q->Option ak}(o:bD (o3 q S O st) r):∃z,st.norm (cV (S z).ab) (cV (S z).ad) (cV (S z).rw)=some (S z)/\O z=some r:=by
 unfold o3 at o
 split at o
 ·rename_i z _
  obtain⟨R,o⟩:=o.eqs
  exact⟨z,R,o.den⟩
 ·exact o.no
theorem Xf{r:ak}{q:af}{d:Nat}{O:Bool->Option ak}(o:bD (sv q d O st) r):∃v,st.norm (d::cV (del q.ab d)) (cV q.ad) (cV q.rw)=some (q.put d (.val .bool v))/\O v=some r:=by
 unfold sv at o
 split at o
 ·rename_i v _
  obtain⟨R,o⟩:=o.eqs
  exact⟨v,R,o.den⟩
 ·exact o.no
theorem gI{lw:Nat}{r:ak}{li:Type}{W:li->List Oper->af->Prop}{N:li->af->Prop}{eT:af->List Oper->Option (af×List Oper)}{step:sI P G ak}{b6:List Oper->af->Option (af×List al×List Prop)}
  (X:zW cx ops lw r li W N eT step b6):∀(n:Nat) {i:li} {l:List Oper} {st:af} {h:bh P G ak} {lg:List cy} {K:fg P G ak},(∀st' h' Z,cQ Z->bD (K st' h' Z) r->N i st')->cQ lg->
   bD (gq lw eT step b6 ops n l st h lg K) r->W i l st:=by
 intro n
 induction n with
 |zero=>intro i l st h lg K _ _ o;exact o.no
 |succ n O=>
  intro i l st h lg K Y R o
  unfold gq at o
  split at o
  ·exact X.nil i st (Y _ _ _ R o)
  ·rename_i aa l
   have lx:∀(m U:Nat) (b:Bool) (i:li),fJ st U b=st->(∀lk,b=lk->W i ((aa::l).take (m+1)) (fJ st U lk))->W i ((aa::l).take (m+1)) st:=fun m U b i q la=>q▸la b rfl
   split at o
   ·rename_i ly
    split at o
    ·rename_i st' lB lC
     exact X.eT i _ st st' lB lC (O Y R o)
    ·exact X.step i aa l st h lg _ (uq ly) R o fun st' h' Z ll lb=>O Y ll lb
   ·rename_i g ly
    split at o
    ·rename_i m h'
     split at o
     ·rename_i U b d lm ai
      split at o
      ·rename_i lD lE lF lG ln lo
       obtain⟨q,lp⟩:=o.eqs
       obtain⟨ae,lq⟩:=lp.eqs
       obtain⟨lc,lr⟩:=lq.eqs
       have ae:=Option.some.inj ae
       have lc:=Option.some.inj lc
       have lj:=O (i:=i) Y R lr
       have q:=Option.some.inj q
       cases b with
       |true=>
        obtain⟨ld,aC,aA⟩:=xK ln
        refine X.b6 i (m+1) (aa::l) st ld (by rw[q]at aC;exact aC) ?_
        exact X.pb i _ _ _ _ _ _ aA (ae▸lj)
       |false=>
        obtain⟨ld,aC,aA⟩:=xK lo
        refine X.b6 i (m+1) (aa::l) st ld (by rw[q]at aC;exact aC) ?_
        exact X.pb i _ _ _ _ _ _ aA (lc▸lj)
      ·exact o.no
     ·exact o.no
    ·rename_i m lh lz
     split at o
     ·rename_i U b d lm ai
      split at o
      ·rename_i lD lE lF lG ln lo
       obtain⟨q,lp⟩:=o.eqs
       obtain⟨ae,lq⟩:=lp.eqs
       obtain⟨lc,lr⟩:=lq.eqs
       have ae:=Option.some.inj ae
       have lc:=Option.some.inj lc
       obtain⟨la,lH⟩:=lr.fW
       have lj:=O (i:=i) Y cQ.nil (la _ lH.den)
       have q:=Option.some.inj q
       cases b with
       |true=>
        obtain⟨ld,aC,aA⟩:=xK ln
        refine X.b6 i (m+1) (aa::l) st ld (by rw[q]at aC;exact aC) ?_
        exact X.pb i _ _ _ _ _ _ aA (ae▸lj)
       |false=>
        obtain⟨ld,aC,aA⟩:=xK lo
        refine X.b6 i (m+1) (aa::l) st ld (by rw[q]at aC;exact aC) ?_
        exact X.pb i _ _ _ _ _ _ aA (lc▸lj)
      ·exact o.no
     ·exact o.no
    ·rename_i m lh lI lJ lz
     split at o
     ·rename_i U b d lm ai
      obtain⟨q,o⟩:=o.eqs
      obtain⟨la,o⟩:=o.fW
      have q:=Option.some.inj q
      refine X.join i (m+1) (aa::l) st Bool (fun v=>lh v=some r) (fun v=>(ja st U).put d (.val .bool v)) (fun v ls=>O Y cQ.nil (la v ls)) fun le lt=>?_
      have fin:∀st' (h':bh P G ak) (Z:List cy),cQ Z->bD (sv (ja st U) d lh st') r->N le st':=fun st' _ _ _ lb=>by
       obtain⟨v,aC,aA⟩:=Xf lb
       exact X.norm le _ _ _ _ _ aC (lt v aA)
      refine lx m U b le q fun lk lu=>?_
      subst lu
      rcases o.ite with ⟨e,lf⟩|⟨e,lf⟩
      ·rw[e];exact O fin R lf
      ·rw[e];exact O fin R lf
     ·exact o.no
    ·rename_i m lA S lh lI lJ lz
     split at o
     ·rename_i U b lm
      obtain⟨q,o⟩:=o.eqs
      obtain⟨la,o⟩:=o.fW
      have q:=Option.some.inj q
      refine X.join i (m+1) (aa::l) st (fG lA) (fun v=>lh v=some r) (S st) (fun v ls=>O Y cQ.nil (la v ls)) fun le lt=>?_
      have fin:∀st' (h':bh P G ak) (Z:List cy),cQ Z->bD (o3 lA (S st) lh st') r->N le st':=fun st' _ _ _ lb=>by
       obtain⟨v,aC,aA⟩:=BX lb
       exact X.norm le _ _ _ _ _ aC (lt v aA)
      refine lx m U b le q fun lk lu=>?_
      subst lu
      rcases o.ite with ⟨e,lf⟩|⟨e,lf⟩
      ·rw[e];exact O fin R lf
      ·rw[e];exact O fin R lf
     ·exact o.no
    ·split at o
     ·rename_i lv
      exact X.step i aa l st _ lg _ lv R o fun st' h' Z ll lb=>O Y ll lb
     ·rename_i lv
      refine X.undef i aa l st lv ?_
      split at o
      ·rename_i d ai
       split at o
       ·rename_i lK
        try rw[ai]
        exact⟨lK,O Y R o⟩
       ·exact o.no
      ·rename_i ai
       try rw[ai]
       exact O Y R o
     ·exact o.no
theorem uL{ap:List (aL P G)}{cC:Nat}(o:bE (cK P G cC ap) cx)(r:ak):zW cx ops cC r cZ (fun Q l st=>bU cx ops Q l st) (fun Q st=>N cx Q .normal st) (wR (cK P G cC ap)) (si ap (cK P G cC ap)) (fun l st=>fI (cK P G cC ap) ops l st []) where
 nil:=fun _ _ h=>iE h
 norm:=fun _ _ _ _ _ _ q h=>h.norm q
 pb:=fun _ _ _ _ _ _ _ q h=>h.norm q
 step:=fun _ _ _ _ _ _ _ O R U W=>HB o O R U W
 undef:=fun Q aa l st O h=>by
  split at h
  ·rename_i d ai
   refine sQ o 1 (orc:=[]) (ob:=[]) ?_ trivial h.2
   show fI _ ops [aa] st []=_
   unfold fI
   rw[O]
   simp only[ai,show Nat.blt d (cK P G cC ap).n=true from h.1,fI]
  ·rename_i ai
   refine sQ o 1 (orc:=[]) (ob:=[]) ?_ trivial h
   show fI _ ops [aa] st []=_
   unfold fI
   rw[O]
   simp only[ai,fI]
 join:=fun _ n _ _ _ F S X Y=>iA F S n X fun h=>Y _ h
 eT:=fun _ _ _ _ _ Z h=>Og o Z h
 b6:=fun _ m _ _ _ q h=>sQ o m q trivial h
theorem nD{ap:List (aL P G)}{cC:Nat}(X:bE (cK P G cC ap) cx)(r:ak):zW cx ops cC r (World->Act->Prop) (fun K l st=>fO cx ops K l st) (fun K st=>mq cx K st) (fun _ _=>none) (FJ ap (cK P G cC ap)) (fun l st=>gS (cK P G cC ap) ops l st []) where
 nil:=fun _ _ h=>VG h
 norm:=fun _ _ _ _ _ _ O h=>fun T w q=>h T w (q.norm O)
 pb:=fun _ _ _ _ _ _ _ O h=>fun T w q=>h T w (q.norm O)
 step:=fun K aa l st h lk k W Z o la=>by
  unfold FJ at o
  split at o
  ·rename_i d ai
   split at o
   ·rename_i lb
    obtain⟨orc,ps,h',ll,lc,ld,o⟩:=jT (orc:=[]) (ps:=[]) _ Z trivial o
    unfold F8 at o
    split at o
    ·rename_i aU ob Y
     obtain⟨e,le⟩:=o.fA
     intro T w q
     have lf:=la _ _ _ ld le
     have:=jR (P:=cx.P) (ops:=ops) (l1:=[aa]) (l2:=l) (C:=Ext w) (Q':=K w) (a:=⟨T,ah.D cx⟩)
      (kr X (l:=[aa]) (orc:=orc) (orc':=[]) (ob:=ob++[]) q (by unfold gS;rw[W];simp only[ai,Y,lb,gS]) (by rw[List.append_nil,e];exact lc) fun R U=>lf R w U)
     exact this
    ·exact o.no
   ·exact o.no
  ·exact o.no
 undef:=fun K aa l st W h=>by
  intro T w q
  have key:∀st',gS (cK P G cC ap) ops [aa] st []=some (st',[],[])->fO cx ops K l st'->wpQuiet cx.P ops (Ext w) (K w) (aa::l) ⟨T,ah.D cx⟩:=fun st' Y lg=>
   jR (P:=cx.P) (ops:=ops) (l1:=[aa]) (l2:=l) (kr X q Y trivial fun R U=>lg R w U)
  split at h
  ·rename_i d ai
   refine key (st.put d .undef) ?_ h.2
   unfold gS
   rw[W]
   simp only[ai,show Nat.blt d (cK P G cC ap).n=true from h.1,gS]
  ·rename_i ai
   refine key st ?_ h
   unfold gS
   rw[W]
   simp only[ai,gS]
 eT:=fun _ _ _ _ _ lh _=>by cases lh
 join:=fun _ n _ _ _ F S li lj=>Hm F S n li fun K h=>lj K h
 b6:=fun K m l st s O h=>by
  intro T w q
  have:=jR (P:=cx.P) (ops:=ops) (l1:=l.take m) (l2:=l.drop m) (kr X q O trivial fun R U=>h R w U)
  rwa [List.take_append_drop]at this
theorem zX{ap:List (aL P G)}{cC:Nat}(R:bE (cK P G cC ap) cx)(r:ak):zW cx ops cC r (World->Act->Prop) (fun K l st=>pg cx ops K l st) (fun K st=>mq cx K st) (fun _ _=>none) (Ed ap (cK P G cC ap)) (fun _ _=>none) where
 nil:=fun _ _ h=>SO h
 norm:=fun _ _ _ _ _ _ q h=>fun T w U=>h T w (U.norm q)
 pb:=fun _ _ _ _ _ _ _ q h=>fun T w U=>h T w (U.norm q)
 step:=fun K aa l st h li k O W o X=>by
  unfold Ed at o
  split at o
  ·rename_i d ai
   split at o
   ·rename_i Y
    obtain⟨orc,ps,h',lj,Z,la,o⟩:=jT (orc:=[]) (ps:=[]) _ W trivial o
    unfold KF at o
    split at o
    ·rename_i aU ob lb
     split at o
     ·rename_i lc
      obtain⟨e,ld⟩:=o.fA
      have le:=X _ _ _ la ld
      exact Du R (orc:=orc) (ob:=ob++[]) (by unfold jg;rw[O];simp only[ai,lb,Y,lc,jg]) (by rw[List.append_nil,e];exact Z) le
     ·exact o.no
    ·exact o.no
   ·exact o.no
  ·exact o.no
 undef:=fun K aa l st O h=>by
  split at h
  ·rename_i d ai
   refine Du R (orc:=[]) (ob:=[]) (st':=st.put d .undef) ?_ trivial h.2
   unfold jg
   rw[O]
   simp only[ai,show Nat.blt d (cK P G cC ap).n=true from h.1,jg]
  ·rename_i ai
   refine Du R (orc:=[]) (ob:=[]) (st':=st) ?_ trivial h
   unfold jg
   rw[O]
   simp only[ai,jg]
 eT:=fun _ _ _ _ _ lf _=>by cases lf
 join:=fun _ n _ _ _ F S lg lh=>Wo F S n lg fun K h=>lh K h
 b6:=fun _ _ _ _ _ q _=>by cases q
theorem Qa{ap:List (aL P G)}{cC:Nat}(X:bE (cK P G cC ap) cx){r:ak}{aa:Oper}{d:Nat}{orc:List al}{ps:List Prop}{Y:List Nat}{K:fg P G ak}(lc:oS aa=true)(ld:bP ps)(le:∀st' h' U,cQ U->bD (K st' h' U) r->N cx Q .normal st'):
  ∀(O:List Nat) {st:af} {h:bh P G ak} {W:List cy},cQ W->bD (uZ ap (cK P G cC ap) ops aa d orc ps Y K O st h W) r->∀T w,Ev.ak cx st T w->jF cx.P ops (dR Q) aa d Y O ⟨T,ah.D cx⟩ w:=by
 intro O
 induction O with
 |nil=>
  intro st h W Z o T w R
  unfold uZ rM at o
  unfold jF
  refine gI (uL X r) 5000 (i:=dR Q) ?_ Z o T w R
  exact fun st' h' U la q T w R=>⟨rfl,le _ _ _ la q T w R⟩
 |cons c O lf=>
  intro st h W Z o T w R
  unfold uZ at o
  split at o
  case h_2=>exact o.no
  rename_i lo lg
  split at o
  case h_2=>exact o.no
  rename_i lh
  refine UK lg (HB (ops:=ops) (l:=[]) (Q:=vS cx ops aa d Y O Q) X lh Z o fun st' h' U la q=>?_) R
  split at q
  case h_2=>exact q.no
  rename_i lp aU li lj
  split at q
  case h_2=>exact q.no
  rename_i ai
  obtain⟨ae,lk⟩:=q.eqs
  obtain⟨ll,lm⟩:=lk.fA
  have ae:=Option.some.inj ae
  simp only[af.mk.injEq,List.cons.injEq,Prod.mk.injEq,and_true,true_and]at ae
  subst ae
  exact iE fun ln w' lb=>⟨rfl,VP X lb lc li (ll▸ld) lj ai,lf la lm ln w' lb⟩
theorem Oq{ap:List (aL P G)}{cC:Nat}(U:bE (cK P G cC ap) cx){r:ak}{K:fg P G ak}{w0:World}(W:∀st' h' O,cQ O->bD (K st' h' O) r->N cx Q .normal st'):
  ∀(C:List Nat) {st:af} {h:bh P G ak} {q:List cy},cQ q->bD (yW ap (cK P G cC ap) ops K C st h q) r->∀T w,Ev.ak cx st T w->Ext w0 w->jf cx.P ops (dR Q) (Ext w0) (bK ops C) ⟨T,ah.D cx⟩ w:=by
 intro C
 induction C with
 |nil=>
  intro st h q R o T w X lg
  exact⟨rfl,W _ _ _ R o T w X⟩
 |cons c C Y=>
  intro st h q R o
  unfold yW at o
  split at o
  case h_2=>exact o.no
  rename_i aa Z
  split at o
  case h_2=>exact o.no
  rename_i d la ai
  split at o
  case h_2=>exact o.no
  rename_i lb
  obtain⟨orc,ps,h',O,lc,ld,o⟩:=jT (orc:=[]) (ps:=[]) _ R trivial o
  dsimp only at o
  split at o
  case h_2=>exact o.no
  rename_i aU orc' ob le
  obtain⟨e,lf⟩:=o.fA
  unfold bK
  rw[Z]
  exact UE U la ai lb le (e▸lc) (Y ld lf)
theorem Oa{id:Nat}{l:List Oper}(n:Nat)(o:cx.P.follows .mixedOrders=true)(q:Region.lexTailB .any l.toArray n=true)
  (h:fO cx l.toArray (fun w a=>∀w',Ext w w'->wpList cx.P l.toArray Q (l.drop n) a w') (l.take n) st):W cx Q (.region id l.toArray true) st:=by
 intro T w O
 exact Sx (C:=Ext w) n o q (Ext.refl w).drew (h T w O)
theorem My{h:bh P G ak}{s:af}{e:Exit}(o:u7 h st=some s)(q:N cx Q e s):N cx Q e st:=by
 unfold u7 at o
 split at o
 ·exact LG _ _ _ _ o q
 ·cases o;exact q
theorem Kt{r:ak}{a:af->bv ak}{K:mP P G ak}{Q':Act->World->Prop}(O:∀st,bD (a st) r->N cx (Exit.then Q' Q) .normal st)(R:∀e st h o,cQ o->bD (K e st h o) r->N cx Q e st):
  ∀e st h o,cQ o->bD (ends a K e st h o) r->N cx (Exit.then Q' Q) e st:=by
 intro e st h o U q
 cases e with
 |normal=>
  unfold ends at q
  dsimp only at q
  split at q
  ·rename_i s W
   exact My W (O s q)
  ·exact q.no
 |_=>exact R _ st h o U q
/-! Regions gone through in any order. -/
theorem Pr{o:List (Nat×fw P G)}{n:Nat}{v:fw P G}(h:uQ o n=some v):∃k,(k,v)∈o:=by
 induction o with
 |nil=>cases h
 |cons p r O=>
  obtain⟨k,u⟩:=p
  unfold uQ at h
  cases q:Nat.beq k n with
  |true=>rw[q]at h;cases h;exact⟨k,List.mem_cons_self⟩
  |false=>
   rw[q]at h
   obtain⟨k',R⟩:=O h
   exact⟨k',List.mem_cons_of_mem _ R⟩
theorem uM{r:ak}{aa:Oper}{K:af->bh P G ak->List cy->fw P G->bv ak}{q:eY}{h:bh P G ak}{R:List cy}{orc:List al}(U:cQ R)(o:bD (eV q h R orc [] (po E st aa K)) r):
  ∃st' h' O dl,cQ O/\oA dl/\bD (K st' h' O dl) r:=by
 obtain⟨orc,ps,h',O,W,X,o⟩:=jT (ps:=[]) _ U trivial o
 unfold po at o
 split at o
 ·exact⟨_,_,_,.aa orc ps,X,W,o⟩
 ·exact o.no
theorem PR{s:af}{z:Option Nat}(h:vM st z=some s)(o:bU cx ops Q l s):bU cx ops Q l st:=by
 unfold vM at h
 split at h
 ·cases h;exact o
 ·split at h
  ·rename_i c q
   cases h
   rintro T w ⟨m,O⟩
   exact o T w ⟨m,O.freeze (bc q)⟩
  ·cases h
theorem JA{r:ak}{aa:Oper}{z:Option Nat}{h:bh P G ak}{O:List cy}{K:af->bh P G ak->List cy->fw P G->bv ak}(U:cQ O)(o:bD (wr E st aa z h O K) r):
  ∃st' h' R dl,cQ R/\oA dl/\bD (K st' h' R dl) r:=by
 unfold wr at o
 split at o
 ·rename_i α β W ρ ρ' Z
  split at o
  ·split at o
   ·split at o
    ·obtain⟨_,X⟩:=o.eqs
     obtain⟨y,Y,q⟩:=X.ask
     split at q
     ·exact⟨_,_,_,.b z W ρ ρ' _ y,U,Y,q⟩
     ·exact q.no
    ·exact o.no
   ·exact o.no
  ·exact o.no
 ·exact o.no
theorem XG{ap:List (aL P G)}{r:ak}{aa:Oper}{h:bh P G ak}{O:List cy}{K:af->bh P G ak->List cy->fw P G->bv ak}(q:cQ O)(o:bD (DV ap E st aa h O K) r):
  ∃st' h' R dl,cQ R/\oA dl/\bD (K st' h' R dl) r:=by
 unfold DV at o
 split at o
 ·exact JA q o
 ·exact JA q o
 ·split at o
  ·split at o
   ·exact uM q o
   ·exact uM q o
  ·split at o
   ·split at o
    ·exact uM q o
    ·exact uM q o
   ·exact uM q o
theorem Gr{ap:List (aL P G)}{r:ak}{K:bh P G ak->List cy->List (Nat×fw P G)->bv ak}:∀(is:List Nat) {st:af} {h:bh P G ak} {q:List cy} {O:List (Nat×fw P G)},cQ q->(∀p∈O,oA p.2)->
  bD (yr ap E ops is st h q O K) r->∃h' R Y,cQ R/\(∀p∈Y,oA p.2)/\bD (K h' R Y) r
 |[],st,h,q,O,U,W,o=>⟨h,q,O,U,W,o⟩
 |i::is,st,h,q,O,U,W,o=>by
  unfold yr at o
  split at o
  ·obtain⟨st',h',R,dl,Z,la,o⟩:=XG U o
   refine Gr is Z (fun p X=>?_) o
   rcases List.mem_cons.1 X with rfl|X
   ·exact la
   ·exact W p X
  ·exact o.no
theorem WV{ap:List (aL P G)}{cC:Nat}(O:bE (cK P G cC ap) cx){r:ak}{s t:af}{aa:Oper}{rest:bv ak}{dl:fw P G}(R:oA dl)(U:aa.guard=none)(o:bD (AL (cK P G cC ap) s aa t rest dl) r):tc cx ops aa s t/\bD rest r:=by
 unfold AL at o
 split at o
 ·split at o
  ·rename_i X ob Y
   obtain⟨ae,o⟩:=o.eqs
   obtain⟨Z,o⟩:=o.fA
   exact⟨fun Q q=>wD O (uq U) Y (Z▸R) (iE (q.norm ae)),o⟩
  ·exact o.no
 ·rename_i z α β W ρ ρ' x y
  split at o
  ·rename_i ld la
   split at o
   ·rename_i le X lb lc
    obtain⟨eC,o⟩:=o.eqs
    obtain⟨ae,o⟩:=o.eqs
    exact⟨fun Q q=>PR la (DX O W.ok x y (W.rel x y R) rfl (uq U) (lb.trans eC) lc (iE (q.norm ae))),o⟩
   ·exact o.no
  ·exact o.no
theorem La{ap:List (aL P G)}{cC:Nat}(R:bE (cK P G cC ap) cx){r:ak}{O:List (Nat×fw P G)}{st:af}{rest:bv ak}(U:∀p∈O,oA p.2):∀(l:List (List Nat×Nat)),bD (zw (cK P G cC ap) ops O st l rest) r->
  (∀p∈l,∃aa s W,ops[p.2]? =some aa/\oV (cK P G cC ap) ops O st p.1=some s/\oV (cK P G cC ap) ops O st (nF p.2 p.1)=some W/\tc cx ops aa s W)/\bD rest r
 |[],o=>⟨fun p q=>(by cases q),o⟩
 |(le,i)::l,o=>by
  unfold zw at o
  split at o
  ·rename_i s t aa dl X Y Z la
   split at o
   ·rename_i lb
    obtain⟨k,lc⟩:=Pr la
    obtain⟨ld,o⟩:=WV (ops:=ops) R (U _ lc) lb o
    obtain⟨i1,i2⟩:=La R U l o
    refine⟨fun p q=>?_,i2⟩
    rcases List.mem_cons.1 q with rfl|q
    ·exact⟨aa,s,t,Z,X,Y,ld⟩
    ·exact i1 p q
   ·exact o.no
  ·exact o.no
theorem Ow{ap:List (aL P G)}{cC:Nat}(O:bE (cK P G cC ap) cx){r:ak}{id:Nat}{Y:List (List Nat)}{h:bh P G ak}{R:List cy}{K:fg P G ak}{Q:cZ}
  (Z:∀st' h' q,cQ q->bD (K st' h' q) r->N cx Q .normal st')(la:cQ R)(o:bD (BH ap (cK P G cC ap) ops Y st h R K) r):W cx Q (.region id ops true) st:=by
 unfold BH at o
 split at o
 ·rename_i lb lc
  obtain⟨h',q,ld,le,lf,o⟩:=Gr _ la (fun p lg=>(by cases lg)) o
  split at o
  ·rename_i t lh
   obtain⟨li,lj⟩:=La (cx:=cx) O lf _ o
   refine Ok (by rw[O.P];exact lb) lc (S:=oV (cK P G cC ap) ops ld st) (fun U lk i hi=>?_) rfl fun s X=>?_
   ·exact li (U,i) (List.mem_flatMap.2 ⟨U,lk,List.mem_map.2 ⟨i,hi,rfl⟩⟩)
   ·rw[lh]at X
    cases X
    exact Z _ _ _ le lj
  ·exact o.no
 ·exact o.no
theorem CS{ap:List (aL P G)}{cC:Nat}(q:bE (cK P G cC ap) cx){r:ak}{id:Nat}{ops:Array Oper}{draw:Bool}{st:af}{h:bh P G ak}{lk:List cy}{K:mP P G ak}{Q:cZ}
  (lp:∀e st' h' Y,cQ Y->bD (K e st' h' Y) r->N cx Q e st')(lc:cQ lk)(U:bD (vm ap (cK P G cC ap) ops draw st h lk K) r):W cx Q (.region id ops draw) st:=by
 obtain⟨l⟩:=ops
 unfold vm at U
 have ld:∀st' h' Y,cQ Y->bD (K .normal st' h' Y) r->N cx Q .normal st':=fun _ _ _=>lp _ _ _ _
 split at U
 ·exact aP (gI (uL q r) 5000 (i:=Q) ld lc U)
 ·split at U
  ·rename_i m h'
   split at U
   ·rename_i la lb
    refine Oa m (by rw[q.P];exact la) lb ?_
    refine gI (nD q r) 5000 (i:=fun w a=>∀w',Ext w w'->wpList cx.P l.toArray Q (l.drop m) a w') ?_ lc U
    intro st' h' Y O o T w X w' Z
    exact gI (uL q r) 5000 (i:=Q) ld O o T w' (X.ext Z)
   ·exact U.no
  ·rename_i a b c h'
   split at U
   ·rename_i la lb le
    refine OK (Q:=Q) a b c (by rw[q.P];exact la) lb (Nat.eq_of_beq_eq_true le) ?_
    refine gI (zX q r) 5000 (i:=fun w R=>wpQuiet cx.P l.toArray (Ext w) (fun R=>∀w',Ext w w'->wpList cx.P l.toArray (dR Q) (bK l.toArray c) R w') (bK l.toArray b) R) ?_ lc U
    intro st' h' Y O o T w X
    refine gI (nD q r) 5000 (i:=fun w R=>∀w',Ext w w'->wpList cx.P l.toArray (dR Q) (bK l.toArray c) R w') ?_ O o T w X
    intro st' h' Y O o T w X w' Z
    refine gI (uL q r) 5000 (i:=dR Q) ?_ O o T w' (X.ext Z)
    intro st' h' Y O o T w X
    exact⟨rfl,ld _ _ _ O o T w X⟩
   ·exact U.no
  ·rename_i a b i c c2 h'
   split at U
   case h_2=>exact U.no
   rename_i aa hi
   split at U
   case h_2=>exact U.no
   rename_i d ai lq li la lb
   rw[ai]at li
   simp only[Bool.and_eq_true,Bool.not_eq_true',Option.getD_some]at li
   obtain⟨ll,lr,lm,le⟩:=li
   refine NC (Q:=Q) q a b i c c2 la lb (Nat.eq_of_beq_eq_true le) hi ai lq lr lm ?_
   refine gI (zX q r) 5000 (i:=fun w R=>wpQuiet cx.P l.toArray (Ext w) (fun R=>∀w',Ext w w'->d<R.tmps.size/\∃v,(execOp R.eval aa).run cx.P w'=.ok (.value v) w'/\jF cx.P l.toArray (dR Q) aa d c2 c (R.put aa.dst v) w') (bK l.toArray b) R) ?_ lc U
   intro st' h' Y O o T w X
   refine gI (nD q r) 5000 (i:=fun w R=>∀w',Ext w w'->d<R.tmps.size/\∃v,(execOp R.eval aa).run cx.P w'=.ok (.value v) w'/\jF cx.P l.toArray (dR Q) aa d c2 c (R.put aa.dst v) w') ?_ O o T w X
   intro st' h' Y O o T w X w' Z
   unfold Ki at o
   obtain⟨orc,ps,h',Y,ln,O,o⟩:=jT (orc:=[]) (ps:=[]) _ O trivial o
   dsimp only at o
   split at o
   case h_2=>exact o.no
   rename_i lv lj
   obtain⟨e,o⟩:=o.fA
   have lo:d<cx.n:=by rw[q.n];exact cR lm
   obtain⟨m,lf⟩:=X.ext Z
   obtain⟨v,ls,lt⟩:=H4 q lf ll lj (e▸ln)
   refine⟨by rw[lf.size];exact lo,v,ls w' (Ext.refl w'),?_⟩
   rw[ai]
   exact Qa q ll ln ld c O o _ _ ⟨m,lf.put lo lt⟩
  ·rename_i a b c2 c3 c4 c5 c6 h'
   split at U
   case h_2=>exact U.no
   rename_i C la lb le lu
   refine NF (Q:=Q) q a b c2 c3 c4 c5 c6 la lb (Nat.eq_of_beq_eq_true le) lu ?_
   refine gI (zX q r) 5000 (i:=fun w R=>wpQuiet cx.P l.toArray (Ext w) (fun R=>∀w',Ext w w'->∃v2 v3 v4 v5 lg lh,ue cx.P (dR Q) C R w' v2 v3 v4 v5 lg lh) (bK l.toArray b) R) ?_ lc U
   intro st' h' Y O o T w X
   refine gI (nD q r) 5000 (i:=fun w R=>∀w',Ext w w'->∃v2 v3 v4 v5 lg lh,ue cx.P (dR Q) C R w' v2 v3 v4 v5 lg lh) ?_ O o T w X
   intro st' h' Y O o T w X w' Z
   split at o
   case h_2=>exact o.no
   rename_i lw lj
   obtain⟨m,lf⟩:=X.ext Z
   obtain⟨v2,v3,v4,v5,lg,lh,F⟩:=R2 q lf lj
   exact⟨v2,v3,v4,v5,lg,lh,F (ld _ _ _ O o)⟩
  ·rename_i a b c d h'
   split at U
   case h_2=>exact U.no
   rename_i la lb le
   refine P8 (Q:=Q) a b c d (by rw[q.P];exact la) lb (Nat.eq_of_beq_eq_true le) ?_
   refine gI (zX q r) 5000 (i:=fun w R=>wpQuiet cx.P l.toArray (Ext w) (fun R=>∀w',Ext w w'->wpList cx.P l.toArray (sa cx l.toArray d Q) (bK l.toArray c) R w') (bK l.toArray b) R) ?_ lc U
   intro st' h' Y O o T w X
   refine gI (nD q r) 5000 (i:=fun w R=>∀w',Ext w w'->wpList cx.P l.toArray (sa cx l.toArray d Q) (bK l.toArray c) R w') ?_ O o T w X
   intro st' h' Y O o T w X w' Z
   refine gI (uL q r) 5000 (i:=sa cx l.toArray d Q) ?_ O o T w' (X.ext Z)
   intro st' h' Y O o T w X
   refine⟨rfl,?_⟩
   refine gI (nD q r) 5000 (i:=fun w a=>∀w',Ext w w'->dR Q .normal a w') ?_ O o T w X
   intro st' h' Y O o T w X w' Z
   exact⟨rfl,ld _ _ _ O o T w' (X.ext Z)⟩
  ·rename_i b c h'
   split at U
   case h_2=>exact U.no
   rename_i la lb le
   refine Q7 (Q:=Q) b c (by rw[q.P];exact la) lb (Nat.eq_of_beq_eq_true le) ?_
   refine gI (nD q r) 5000 (i:=fun w R=>∀w',Ext w w'->jf cx.P l.toArray (dR Q) (Ext w) (bK l.toArray c) R w') ?_ lc U
   intro st' h' Y O o T w X w' Z
   exact Oq q ld c O o T w' (X.ext Z) Z
  ·rename_i lx h'
   exact Ow q ld lc U
  ·split at U
   ·rename_i la lb
    refine uU q la lb ?_
    refine gI (nD q r) 5000 (i:=fun w a=>∀w',Ext w w'->Q .normal a w') ?_ lc U
    intro st' h' Y O o T w X w' Z
    exact ld _ _ _ O o T w' (X.ext Z)
   ·exact U.no
theorem an.EI{m:Nat->Value}(h:an cx m st T w){d:Nat}{s o:ao}(ai:look st.ab d=some s)(O:∀v,aT w (av cx m st.ids) m v s->aT w (av cx m st.ids) m v o):an cx m (st.put d o) T w:=by
 obtain⟨v,q,R⟩:=h.cT d s (bc ai)
 have U:d<T.size:=(Array.getElem?_eq_some_iff.1 q).1
 have:=h.put (d:=d) (by rw[<-h.size];exact U) (O v R)
 have e:T.setIfInBounds d v=T:=by
  apply Array.ext (by simp)
  intro i W X
  rw[Array.getElem_setIfInBounds (by simpa using W)]
  split
  ·rename_i hi
   subst hi
   exact((Array.getElem?_eq_some_iff.1 q).2).symm
  ·rfl
 rwa [e]at this
theorem Qz{r:ak}{Q:cZ}{c:Code}:∀(h:bh P G ak) {st:af} {k:af->bh P G ak->bv ak},(∀st' h',bD (k st' h') r->W cx Q c st')->bD (nf h st k) r->W cx Q c st:=by
 intro h
 induction h with
 |rX n d t Y ld le Z la=>
  intro st k O o
  unfold nf at o
  split at o
  case h_2=>exact o.no
  rename_i u x ai
  split at o
  case h_2=>exact o.no
  rename_i y lf lg
  have e:=al.dj lg
  cases e
  rcases o.cs with ⟨a,lb,R⟩|⟨b,lc,R⟩
  ·rintro T w ⟨m,U⟩
   refine Z a O R T w ⟨m,U.EI ai fun v q=>?_⟩
   have q:ba w (av cx m st.ids) v (.alt n t Y) y:=q
   have lb:y=.inl a:=lb
   subst lb
   exact(bA (t:=.cB n t) rfl).2 ((bA (t:=.alt n t Y) rfl).1 q)
  ·rintro T w ⟨m,U⟩
   refine la b O R T w ⟨m,U.EI ai fun v q=>?_⟩
   have q:ba w (av cx m st.ids) v (.alt n t Y) y:=q
   have lc:y=.inr b:=lc
   subst lc
   have X:=((bA (t:=.alt n t Y) rfl).1 q).2
   exact(bA lf).2 X
 |ap d f ld le Z la=>
  intro st k O o
  unfold nf at o
  split at o
  case h_2=>exact o.no
  rename_i x ai
  rcases o.ite with ⟨e,R⟩|⟨e,R⟩
  ·rintro T w ⟨m,U⟩
   refine Z O R T w ⟨m,U.EI ai fun v q=>?_⟩
   have q:ba w (av cx m st.ids) v .cE x:=q
   have X:[v]=[Hs x]:=(bA (t:=.cE) rfl).1 q
   have lh:x=some f:=by
    cases x with
    |none=>cases e
    |some g=>exact congrArg some (Nat.eq_of_beq_eq_true e)
   rw[lh]at X
   simp only[List.cons.injEq,and_true]at X
   exact X
  ·exact la O R
 |_=>intro st k O o;exact O _ _ o
theorem CN{ap:List (aL P G)}{cC:Nat}(lf:bE (cK P G cC ap) cx){r:ak}:∀(c:Code) {st:af} {h:bh P G ak} {U:List cy} {K:mP P G ak} {Q:cZ},
  (∀e st' h' la,cQ la->bD (K e st' h' la) r->N cx Q e st')->cQ U->bD (run ap (cK P G cC ap) c st h U K) r->W cx Q c st:=by
 intro c
 induction c with
 |skip=>intro st h U K Q q O o;exact dh (q _ _ _ _ O o)
 |exit id=>intro st h U K Q q O o;exact kR (q _ _ _ _ O o)
 |ret=>intro st h U K Q q O o;exact eM (q _ _ _ _ O o)
 |block id c lg=>
  intro st h U K Q q O o
  refine fX (lg ?_ O o)
  intro e st' h' la Y R
  split at R
  ·exact jC (q _ _ _ _ Y R)
  ·exact fP (q _ _ _ _ Y R)
  ·rename_i i
   split at R
   ·rename_i hi
    have hi:=Nat.eq_of_beq_eq_true hi
    subst hi
    exact kJ (q _ _ _ _ Y R)
   ·rename_i hi
    exact NV hi (q _ _ _ _ Y R)
  ·exact R.no
 |seq x y lb lc=>
  intro st h U K Q q O o
  unfold run at o
  split at o
  ·rename_i le S li lp lq
   obtain⟨lh,X⟩:=o.fW
   refine kG (α:=fG le) (fun z=>li z=some r) (S st) (fun z ld=>lc q cQ.nil (lh z ld)) fun lj=>?_
   refine lb (Kt (fun st' R=>?_) q) O X
   obtain⟨z,aC,aA⟩:=BX R
   exact(lj z aA).norm aC
  ·refine aG (lb ?_ O o)
   intro e st' h' la Y R
   cases e with
   |normal=>exact aF (lc q Y R)
   |_=>exact q _ st' h' la Y R
 |cond c x y lb lc=>
  intro st h U K Q q O o
  unfold run at o
  split at o
  ·rename_i b Z
   split at o
   ·obtain⟨e,X⟩:=o.jM
    exact db Z (fun _=>lb q O X) fun h=>by rw[e]at h;cases h
   ·obtain⟨e,X⟩:=o.jM
    exact db Z (fun h=>by rw[e]at h;cases h) fun _=>lc q O X
   ·rcases o.ite with ⟨e,X⟩|⟨e,X⟩
    ·exact db Z (fun _=>lb q O X) fun h=>by rw[e]at h;cases h
    ·exact db Z (fun h=>by rw[e]at h;cases h) fun _=>lc q O X
  ·exact o.no
 |loop c lg=>
  intro st h U K Q q O o
  unfold run at o
  split at o
  ·rename_i le S F k lh
   split at o
   ·rename_i z0 lr
    obtain⟨lk,ll,X⟩:=o.iI
    obtain⟨e,lm⟩:=X.eqs
    refine W.norm (kA (fun n z=>F n z=some r) (S st) ?_ lm.den) e
    intro n z ld
    cases n with
    |zero=>rw[lk]at ld;cases ld
    |succ n=>
     refine lg (Kt (fun st' R=>?_) q) cQ.nil (ll n z ld)
     obtain⟨ln,aC,aA⟩:=BX R
     exact(je (F:=fun n z=>F n z=some r) ln (Nat.lt_succ_self n) aA).norm aC
   ·exact o.no
  ·exact o.no
 |region id ops ls=>
  intro st h U K Q q O o
  unfold run at o
  refine Qz h (fun st h o=>?_) o
  split at o
  ·rename_i lt h'
   split at o
   ·rename_i c Z
    rintro T w ⟨m,lo⟩
    exact CS lf q O o T w ⟨m,lo.freeze (bc Z)⟩
   ·exact o.no
  ·split at o
   ·rename_i st' le
    exact W.norm (CS lf q O o) le
   ·exact o.no
  ·exact CS lf q O o
 |_=>intro st h U K Q q O o;exact o.no
def Gu{α:Type}(b:Bool)(aa:Option α):Option α:=bif b then aa else none
theorem Rd{α:Type}{b:Bool}{aa:Option α}{y:α}(h:Gu b aa=some y):b=true/\aa=some y:=by
 cases b with
 |true=>exact⟨rfl,h⟩
 |false=>cases h
/-! Results of a wider shape. -/
def kO:(t:ag)->al->Option t.el
 |.ck,v=>match v with
  |⟨.cB _ _,_⟩=>some ()
  |⟨.err,_⟩=>some ()
  |v=>v.as .ck
 |.alt n u r,v=>match v.as (.alt n u r)with
  |some y=>some y
  |none=>match v with
   |⟨.cB o q,y⟩=>match Nat.beq o n,al.as ⟨q,y⟩ u with
    |true,some z=>some (.inl z)
    |_,_=>match kO r ⟨.cB o q,y⟩with
     |some z=>some (.inr z)
     |none=>none
   |v=>match v.t.agg,kO r v with
    |false,some z=>some (.inr z)
    |_,_=>none
 |t,v=>v.as t
theorem AN{w:World}{M:Nat->Prop}{u:Value}:∀(t:ag) {v:al} {y:t.el},kO t v=some y->ba w M u v.t v.x->ba w M u t y:=by
 have base:∀(t:ag) {v:al} {y:t.el},v.as t=some y->ba w M u v.t v.x->ba w M u t y:=by
  intro t v y h o
  have e:=al.dj h
  subst e
  exact o
 have one:∀{t:ag} {x:t.el},t.agg=false->ba w M u t x->u.oneCell'=true:=fun R o=>hZ _ ((bA R).1 o) _ List.mem_cons_self
 intro t
 induction t with
 |ck=>
  intro v y h o
  unfold kO at h
  split at h
  ·exact(bA (t:=.ck) rfl).2 ⟨u,rfl,one rfl o⟩
  ·exact(bA (t:=.ck) rfl).2 ⟨u,rfl,one rfl o⟩
  ·exact base _ h o
 |alt n a r ld U=>
  intro v y h o
  have key:∀{v:al} {z:r.el},v.t.agg=false->kO r v=some z->ba w M u v.t v.x->ba w M u (.alt n a r) (.inr z):=by
   intro v z W q o
   have X:=U q o
   refine(bA (t:=.alt n a r) rfl).2 ⟨rfl,?_⟩
   have:=j7 X
   have Y:=one W o
   have Z:u.cells.toList=[u]:=by cases u<;>first|rfl|(simp[Value.oneCell']at Y)
   rw[Z]at this
   exact this
  unfold kO at h
  split at h
  ·rename_i le la
   cases h
   exact base _ la o
  ·split at h
   ·rename_i lf lg lh
    split at h
    ·rename_i z O q
     cases h
     have O:=Nat.eq_of_beq_eq_true O
     subst O
     have e:=al.dj q
     cases e
     obtain⟨v0,eC,lb⟩:=(bA (t:=.cB _ _) rfl).1 o
     simp only[List.cons.injEq,and_true]at eC
     subst eC
     exact(bA (t:=.alt _ _ r) rfl).2 ⟨v0,rfl,lb⟩
    ·split at h
     ·rename_i z q
      cases h
      exact key rfl q o
     ·cases h
   ·split at h
    ·rename_i z lc q
     cases h
     exact key lc q o
    ·cases h
 |_=>intro v y h o;exact base _ h o
def jr:(us:List ag)->List al->Option (dE us)
 |[],vs=>match vs with
  |[]=>some ()
  |_=>none
 |[t],vs=>match vs with
  |[v]=>kO t v
  |_=>none
 |t::u::us,vs=>match vs with
  |v::vs=>match kO t v,jr (u::us) vs with
   |some x,some y=>some (x,y)
   |_,_=>none
  |[]=>none
theorem Ji{w:World}{M:Nat->Prop}:∀(us:List ag) {au:List al} {y:dE us} {vs:List Value},jr us au=some y->dQ w M vs au->dQ w M vs (eK us y)
 |[],au,y,vs,h,q=>by
  unfold jr at h
  split at h
  ·exact q
  ·cases h
 |[t],au,y,vs,h,q=>by
  match au,h with
  |[v],h=>
   match vs,q with
   |[u],⟨o,O⟩=>exact⟨AN t (show kO t v=some y from h) o,O⟩
   |[],o=>exact o.elim
   |_::_::_,⟨_,o⟩=>exact o.elim
  |[],h=>cases h
  |_::_::_,h=>cases h
 |t::u::us,au,y,vs,h,q=>by
  unfold jr at h
  split at h
  ·rename_i v R
   split at h
   ·rename_i a b o O
    cases h
    match vs,q with
    |v0::vs,⟨aC,aA⟩=>exact⟨AN t o aC,Ji (u::us) O aA⟩
    |[],o=>exact o.elim
   ·cases h
  ·cases h
theorem HI{w:World}{M:Nat->Prop}{v:Value}:∀(us:List ag) {au:List al} {y:dE us},jr us au=some y->ol w M v au->ol w M v (eK us y)
 |[],au,y,h,o=>trivial
 |[t],au,y,h,o=>by
  match au,h,o with
  |[u],h,o=>exact AN t (show kO t u=some y from h) o
  |[],h,_=>cases h
  |_::_::_,h,_=>cases h
 |t::u::us,au,y,h,o=>by
  match au,h,o with
  |a::b::au,h,⟨vs,e,o⟩=>
   have q:=Ji (t::u::us) h o
   match us,y,q with
   |[],y,q=>exact⟨vs,e,q⟩
   |_::_,y,q=>exact⟨vs,e,q⟩
  |[],h,_=>cases h
  |[a],h,_=>
   exfalso
   have O:jr (u::us) []=none:=by cases us<;>rfl
   unfold jr at h
   simp only[O]at h
   split at h
   ·rename_i R q
    cases q
   ·cases h
theorem Ke{P:Program}{n:Nat}{M:Nat->Prop}{w0:World}{fn:Func}{au:List al}{e:Exit}{us:List ag}{y:dE us}{m0:Nat->Value}(U:e=.ret\/e=.normal)(X:iH P (pV st) fn.results.toList=some au)(W:jr us au=some y):
  N ⟨P,n,w0,M,fun _=>False,m0⟩ (sh P fn M w0 (eK us y)) e st:=by
 intro T w Y
 have h:=nw (M:=M) (w0:=w0) (n:=n) U X T w Y
 rcases U with rfl|rfl
 ·obtain⟨o,v,q,v',e,O,R⟩:=h
  exact⟨o,v,q,v',e,HI us W O,R⟩
 ·obtain⟨o,v,q,v',e,O,R⟩:=h
  exact⟨o,v,q,v',e,HI us W O,R⟩
/-! Contracts. -/
def Wn(o:Program)(q:List ResultVar)(dZ:List ag):mP P G (dE dZ):=fun e st _ _=>
 match e with
 |.ret=>match iH o (pV st) q with
  |some au=>.ret (jr dZ au)
  |none=>.ret none
 |.normal=>match iH o (pV st) q with
  |some au=>.ret (jr dZ au)
  |none=>.ret none
 |_=>.ret none
def qo(P:Program)(G:World->Prop)(n:Nat)(ap:List (aL P G))(c:Code)(o:List ResultVar)(F:aX)(h:dE F.ga->bh P G (dE F.dZ))(x:dE F.ga):bv (dE F.dZ):=
 run ap (cK P G n ap) c ⟨oo 0 (eK F.ga x),[],[]⟩ (h x) [] (Wn P o F.dZ)
theorem kE{F:aX}{o au:List al}(h:F.aW.rel o au):∃x y,o=eK F.ga x/\au=eK F.dZ y/\F.fn x=some y:=by
 have h:(match gi F.ga o,gi F.dZ au with
  |some x,some y=>F.fn x=some y
  |_,_=>False):=h
 split at h
 ·rename_i x y q O
  exact⟨x,y,AB _ _ _ q,AB _ _ _ O,h⟩
 ·exact h.elim
theorem bp{P:Program}{G:World->Prop}(U:∀w w',Frame w w' (fun _=>False)->G w->G w'){f:FuncId}{fn:Func}{c:Code}(W:P.funcs[f]? =some fn)(X:(fn.name== "runtime.NumGoroutine")=false)(Y:fn.body=some c)
  {n:Nat}(R:fn.ntmps=n)(F:aX)(ai:Nat.ble F.ga.length n=true)(ap:List (aL P G))(h:dE F.ga->bh P G (dE F.dZ))
  (Z:(fun x=>((qo P G n ap c fn.results.toList F h x).eB,(qo P G n ap c fn.results.toList F h x).den))=fun x=>((qo P G n ap c fn.results.toList F h x).eE,F.fn x)):a8 P G f F.aW:=by
 refine ER U W X Y ?_ ?_
 ·intro la au h
  obtain⟨x,y,rfl,rfl,_⟩:=kE h
  refine⟨by rw[n9,R];exact Nat.le_of_ble_eq_true ai,n9 _ _,fun lb u lc=>?_⟩
  exact List.all_eq_true.1 lb _ (tE _ _ u lc)
 ·intro w0 M la au ld h
  obtain⟨x,y,rfl,rfl,le⟩:=kE h
  have lf:bE (cK P G n ap) ⟨P,fn.ntmps,w0,M,fun _=>False,fun _=>undef⟩:=kK rfl R ld
  have O:=congrFun Z x
  simp only[Prod.mk.injEq]at O
  refine CN lf c (r:=y) ?_ cQ.nil ⟨bv.gR _ O.1,O.2.trans le⟩
  intro e st' h' li _ o
  have key:∀q,(q=.ret\/q=.normal)->bD (match iH P (pV st') fn.results.toList with
    |some au=>bv.ret (jr F.dZ au)
    |none=>.ret none) y->N ⟨P,fn.ntmps,w0,M,fun _=>False,fun _=>undef⟩ (sh P fn M w0 (eK F.dZ y)) q st':=by
   intro q lg o
   split at o
   ·rename_i au lh
    exact Ke lg lh o.den
   ·exact o.no
  cases e with
  |ret=>exact key _ (.inl rfl) o
  |normal=>exact key _ (.inr rfl) o
  |_=>exact o.no
theorem Pa{P:Program}{G:World->Prop}(Y:∀w w',Frame w w' (fun _=>False)->G w->G w'){f:FuncId}{fn:Func}{c:Code}(Z:P.funcs[f]? =some fn)(la:(fn.name== "runtime.NumGoroutine")=false)(lb:fn.body=some c)
  {n:Nat}(W:fn.ntmps=n)(F:aX)(ai:Nat.ble F.ga.length n=true)(ap:List (aL P G))(R:List ag)(q:dE R->dE F.ga)(X:dE R->Option (dE F.dZ))(lc:∀z y,F.fn z=some y->∃x,q x=z/\X x=some y)(h:dE R->bh P G (dE F.dZ))
  (ld:(fun x=>((qo P G n ap c fn.results.toList F (fun _=>h x) (q x)).eB,(qo P G n ap c fn.results.toList F (fun _=>h x) (q x)).den))=fun x=>((qo P G n ap c fn.results.toList F (fun _=>h x) (q x)).eE,X x)):a8 P G f F.aW:=by
 refine ER Y Z la lb ?_ ?_
 ·intro le au h
  obtain⟨x,y,rfl,rfl,_⟩:=kE h
  refine⟨by rw[n9,W];exact Nat.le_of_ble_eq_true ai,n9 _ _,fun lf u lg=>?_⟩
  exact List.all_eq_true.1 lf _ (tE _ _ u lg)
 ·intro w0 M le au lh li
  obtain⟨z,y,rfl,rfl,lj⟩:=kE li
  obtain⟨x,rfl,lk⟩:=lc z y lj
  have ll:bE (cK P G n ap) ⟨P,fn.ntmps,w0,M,fun _=>False,fun _=>undef⟩:=kK rfl W lh
  have U:=congrFun ld x
  simp only[Prod.mk.injEq]at U
  refine CN ll c (r:=y) ?_ cQ.nil ⟨bv.gR _ U.1,U.2.trans lk⟩
  intro e st' h' lo _ o
  have key:∀O,(O=.ret\/O=.normal)->bD (match iH P (pV st') fn.results.toList with
    |some au=>bv.ret (jr F.dZ au)
    |none=>.ret none) y->N ⟨P,fn.ntmps,w0,M,fun _=>False,fun _=>undef⟩ (sh P fn M w0 (eK F.dZ y)) O st':=by
   intro O lm o
   split at o
   ·rename_i au ln
    exact Ke lm ln o.den
   ·exact o.no
  cases e with
  |ret=>exact key _ (.inl rfl) o
  |normal=>exact key _ (.inr rfl) o
  |_=>exact o.no
theorem Gg{P:Program}{G:World->Prop}{f:FuncId}{fn:Func}{c:Code}(q:P.funcs[f]? =some fn)(O:(fn.name== "runtime.NumGoroutine")=false)(R:fn.body=some c)(F:aX)(h:∀x,F.fn x=none):a8 P G f F.aW where
 enters:=enters_of q O R
 shape:=fun U au o=>by
  obtain⟨x,y,_,_,e⟩:=kE o
  rw[h]at e
  cases e
 calls:=fun w M vs U au _ _ o=>by
  obtain⟨x,y,_,_,e⟩:=kE o
  rw[h]at e
  cases e
/-! Contracts of functions that change what their caller owns. -/
def o2:Nat->List ao->List (Nat×ao)
 |_,[]=>[]
 |k,s::l=>(k,s)::o2 (k+1) l
def Fb{α β:Type}(o:Program)(q:List ResultVar)(F:cY α β)(O:af->Option β)(bs R:List Nat)(x:α)(st:af):bv β:=
 match pD o st q,st.norm [] bs R with
 |some au,some s=>match O ⟨o2 0 au,s.ad,s.rw⟩with
  |some y=>.eqs (some ⟨o2 0 au,s.ad,s.rw⟩) (some ⟨o2 0 (F.au x y),(F.bq x y).ad,(F.bq x y).rw⟩) (.eqs (some s) (some (F.bq x y)) (.ret (some y)))
  |none=>.ret none
 |_,_=>.ret none
def NU{α β:Type}(o:Program)(q:List ResultVar)(F:cY α β)(O:af->Option β)(bs R:List Nat)(x:α):mP P G β:=fun e st h _=>
 let t:=match u7 h st with
  |some st=>Fb o q F O bs R x st
  |none=>.ret none
 match e with
 |.ret=>t
 |.normal=>t
 |_=>.ret none
theorem Ij:∀{k:Nat} {a b:List ao},o2 k a=o2 k b->a=b
 |_,[],[],_=>rfl
 |_,[],_::_,h=>by cases h
 |_,_::_,[],h=>by cases h
 |k,x::a,y::b,h=>by
  simp only[o2,List.cons.injEq,Prod.mk.injEq,true_and]at h
  rw[h.1,Ij h.2]
def qq(P:Program)(G:World->Prop){α β:Type}(ap:List (aL P G))(c:Code)(o:List ResultVar)(F:cY α β)(q:af->Option β)(bs O:List Nat)(h:α->bh P G β)(x:α):bv β:=
 run ap (cK P G F.n ap) c (F.S x) (h x) [] (NU P o F q bs O x)
theorem RD{P:Program}{G:World->Prop}{fn:Func}{c:Code}{α β:Type}
  (F:cY α β)(ap:List (aL P G))(X:α->Option β)(Z:∀x y,F.rel x y->X x=some y)(O:af->Option β)(bs q:List Nat)(h:α->bh P G β)
  (la:(fun x=>((qq P G ap c fn.results.toList F O bs q h x).eB,(qq P G ap c fn.results.toList F O bs q h x).den))=fun x=>((qq P G ap c fn.results.toList F O bs q h x).eE,X x)):
  ∀cx:bI,cx.P=P->cx.n=F.n->(∀w,Frame cx.w0 w cx.X->G w)->∀x y,F.rel x y->W cx (w9 cx.P fn cx (F.bq x y) (F.au x y)) c (F.S x):=by
 intro cx Y lb lc x y ld
 have le:bE (cK P G F.n ap) cx:=kK Y lb lc
 have U:=congrFun la x
 simp only[Prod.mk.injEq]at U
 refine CN le c (r:=y) ?_ cQ.nil ⟨bv.gR _ U.1,U.2.trans (Z x y ld)⟩
 intro e st' h' ln _ o
 have key:∀R,(R=.ret\/R=.normal)->bD (match u7 h' st' with
   |some st'=>Fb P fn.results.toList F O bs q x st'
   |none=>.ret none) y->N cx (w9 cx.P fn cx (F.bq x y) (F.au x y)) R st':=by
  intro R lf o
  split at o
  ·rename_i lo lg
   refine My lg ?_
   unfold Fb at o
   split at o
   ·rename_i au s lh li
    split at o
    ·obtain⟨ae,lj⟩:=o.eqs
     obtain⟨lk,ll⟩:=lj.eqs
     have lm:=Option.some.inj ll.den
     subst lm
     have ae:=Option.some.inj ae
     simp only[af.mk.injEq]at ae
     exact fZ Y bs q lf (by rw[lh,Ij ae.1]) (by rw[li,Option.some.inj lk])
    ·exact o.no
   ·exact o.no
  ·exact o.no
 cases e with
 |ret=>exact key _ (.inl rfl) o
 |normal=>exact key _ (.inr rfl) o
 |_=>exact o.no
theorem fQ{P:Program}{G:World->Prop}{f:FuncId}{fn:Func}{c:Code}{α β:Type}(R:P.funcs[f]? =some fn)(U:(fn.name== "runtime.NumGoroutine")=false)(W:fn.body=some c)
  (F:cY α β)(X:fn.ntmps=F.n)(ap:List (aL P G))(O:α->Option β)(Y:∀x y,F.rel x y->O x=some y)(o:af->Option β)(bs q:List Nat)(h:α->bh P G β)
  (Z:(fun x=>((qq P G ap c fn.results.toList F o bs q h x).eB,(qq P G ap c fn.results.toList F o bs q h x).den))=fun x=>((qq P G ap c fn.results.toList F o bs q h x).eE,O x)):dc P G f F:=
 ow R U W X (RD F ap O Y o bs q h Z)
theorem Pj{F:aX}{fn:Func}{n:Nat}(q:fn.ntmps=n)(ai:Nat.ble F.ga.length n=true):∀o au,F.aW.rel o au->o.length<=fn.ntmps/\au.length=F.aW.fH/\(F.aW.flat=true->∀u∈au,u.t.flat=true):=by
 intro o au h
 obtain⟨x,y,rfl,rfl,_⟩:=kE h
 exact⟨by rw[n9,q];exact Nat.le_of_ble_eq_true ai,n9 _ _,fun O u R=>List.all_eq_true.1 O _ (tE _ _ u R)⟩
theorem Mt{P:Program}{G:World->Prop}{f:Nat}{C:jd}(h:a8 P G f C)(F:aX)(q:∀x y,F.fn x=some y->C.rel (eK F.ga x) (eK F.dZ y)):a8 P G f F.aW where
 enters:=h.enters
 shape:=fun O au o=>by
  obtain⟨x,y,rfl,rfl,_⟩:=kE o
  exact⟨n9 _ _,fun R u U=>List.all_eq_true.1 R _ (tE _ _ u U)⟩
 calls:=fun w M vs O au W X o=>by
  obtain⟨x,y,rfl,rfl,e⟩:=kE o
  exact h.calls w M vs _ _ W X (q x y e)
theorem Jt{P:Program}{G:World->Prop}{f:FuncId}{fn:Func}{c:Code}{α β:Type}(o:P.funcs[f]? =some fn)(q:(fn.name== "runtime.NumGoroutine")=false)(O:fn.body=some c)(F:cY α β)(h:∀x y,F.rel x y->False):dc P G f F where
 enters:=enters_of o q O
 calls:=fun _ _ _ _ x y R=>(h x y R).elim
def HY{o:Type}(f:o):Unit->o:=fun _=>f
def cU{o q O:Type}(f:o->q->O):o×q->O:=fun z=>f z.1 z.2
def fy{o q O:Type}(g:o×q->O):o->q->O:=fun R U=>g (R,U)
def qR{o q O R:Type}(f:o->q->O->R):o×q×O->R:=fun z=>f z.1 z.2.1 z.2.2
def nI{o q O R:Type}(g:o×q×O->R):o->q->O->R:=fun U W X=>g (U,W,X)
def NJ{o q O R U:Type}(f:o->q->O->R->U):o×q×O×R->U:=fun z=>f z.1 z.2.1 z.2.2.1 z.2.2.2
def Rf{o q O R U:Type}(g:o×q×O×R->U):o->q->O->R->U:=fun W X Y Z=>g (W,X,Y,Z)
def Vp{o q O R U W X Y Z la:Type}(f:o->q->O->R->U->W->X->Y->Z->la):o×q×O×R×U×W×X×Y×Z->la:=fun z=>f z.1 z.2.1 z.2.2.1 z.2.2.2.1 z.2.2.2.2.1 z.2.2.2.2.2.1 z.2.2.2.2.2.2.1 z.2.2.2.2.2.2.2.1 z.2.2.2.2.2.2.2.2
def PL{o q O R U W X Y Z la:Type}(g:o×q×O×R×U×W×X×Y×Z->la):o->q->O->R->U->W->X->Y->Z->la:=fun lb lc ld le lf lg lh li lj=>g (lb,lc,ld,le,lf,lg,lh,li,lj)
def SG{o q O R U W X Y Z la lb lc:Type}(f:o->q->O->R->U->W->X->Y->Z->la->lb->lc):o×q×O×R×U×W×X×Y×Z×la×lb->lc:=fun z=>f z.1 z.2.1 z.2.2.1 z.2.2.2.1 z.2.2.2.2.1 z.2.2.2.2.2.1 z.2.2.2.2.2.2.1 z.2.2.2.2.2.2.2.1 z.2.2.2.2.2.2.2.2.1 z.2.2.2.2.2.2.2.2.2.1 z.2.2.2.2.2.2.2.2.2.2
def wg{o q O R U W X Y Z la lb lc ld:Type}(f:o->q->O->R->U->W->X->Y->Z->la->lb->lc->ld):o×q×O×R×U×W×X×Y×Z×la×lb×lc->ld:=fun z=>f z.1 z.2.1 z.2.2.1 z.2.2.2.1 z.2.2.2.2.1 z.2.2.2.2.2.1 z.2.2.2.2.2.2.1 z.2.2.2.2.2.2.2.1 z.2.2.2.2.2.2.2.2.1 z.2.2.2.2.2.2.2.2.2.1 z.2.2.2.2.2.2.2.2.2.2.1 z.2.2.2.2.2.2.2.2.2.2.2
def AT{o q O R U W X Y Z la lb lc ld:Type}(g:o×q×O×R×U×W×X×Y×Z×la×lb×lc->ld):o->q->O->R->U->W->X->Y->Z->la->lb->lc->ld:=fun le lf lg lh li lj lk ll lm ln lo lp=>g (le,lf,lg,lh,li,lj,lk,ll,lm,ln,lo,lp)
def IH{o q O R U W X Y Z la lb lc ld le lf:Type}(f:o->q->O->R->U->W->X->Y->Z->la->lb->lc->ld->le->lf):o×q×O×R×U×W×X×Y×Z×la×lb×lc×ld×le->lf:=fun z=>f z.1 z.2.1 z.2.2.1 z.2.2.2.1 z.2.2.2.2.1 z.2.2.2.2.2.1 z.2.2.2.2.2.2.1 z.2.2.2.2.2.2.2.1 z.2.2.2.2.2.2.2.2.1 z.2.2.2.2.2.2.2.2.2.1 z.2.2.2.2.2.2.2.2.2.2.1 z.2.2.2.2.2.2.2.2.2.2.2.1 z.2.2.2.2.2.2.2.2.2.2.2.2.1 z.2.2.2.2.2.2.2.2.2.2.2.2.2
def O2{o q O R U W X Y Z la lb lc ld le lf lg:Type}(f:o->q->O->R->U->W->X->Y->Z->la->lb->lc->ld->le->lf->lg):o×q×O×R×U×W×X×Y×Z×la×lb×lc×ld×le×lf->lg:=fun z=>f z.1 z.2.1 z.2.2.1 z.2.2.2.1 z.2.2.2.2.1 z.2.2.2.2.2.1 z.2.2.2.2.2.2.1 z.2.2.2.2.2.2.2.1 z.2.2.2.2.2.2.2.2.1 z.2.2.2.2.2.2.2.2.2.1 z.2.2.2.2.2.2.2.2.2.2.1 z.2.2.2.2.2.2.2.2.2.2.2.1 z.2.2.2.2.2.2.2.2.2.2.2.2.1 z.2.2.2.2.2.2.2.2.2.2.2.2.2.1 z.2.2.2.2.2.2.2.2.2.2.2.2.2.2
def Pt{o q O R U W X Y Z la lb lc ld le lf lg:Type}(g:o×q×O×R×U×W×X×Y×Z×la×lb×lc×ld×le×lf->lg):o->q->O->R->U->W->X->Y->Z->la->lb->lc->ld->le->lf->lg:=fun lh li lj lk ll lm ln lo lp lq lr ls lt lu lv=>g (lh,li,lj,lk,ll,lm,ln,lo,lp,lq,lr,ls,lt,lu,lv)
def Ts{o q O R U W X Y Z la lb lc ld le lf lg lh li lj lk:Type}(f:o->q->O->R->U->W->X->Y->Z->la->lb->lc->ld->le->lf->lg->lh->li->lj->lk):o×q×O×R×U×W×X×Y×Z×la×lb×lc×ld×le×lf×lg×lh×li×lj->lk:=fun z=>f z.1 z.2.1 z.2.2.1 z.2.2.2.1 z.2.2.2.2.1 z.2.2.2.2.2.1 z.2.2.2.2.2.2.1 z.2.2.2.2.2.2.2.1 z.2.2.2.2.2.2.2.2.1 z.2.2.2.2.2.2.2.2.2.1 z.2.2.2.2.2.2.2.2.2.2.1 z.2.2.2.2.2.2.2.2.2.2.2.1 z.2.2.2.2.2.2.2.2.2.2.2.2.1 z.2.2.2.2.2.2.2.2.2.2.2.2.2.1 z.2.2.2.2.2.2.2.2.2.2.2.2.2.2.1 z.2.2.2.2.2.2.2.2.2.2.2.2.2.2.2.1 z.2.2.2.2.2.2.2.2.2.2.2.2.2.2.2.2.1 z.2.2.2.2.2.2.2.2.2.2.2.2.2.2.2.2.2.1 z.2.2.2.2.2.2.2.2.2.2.2.2.2.2.2.2.2.2
def Vm{o q O R U W X Y Z la lb lc ld le lf lg lh li lj lk:Type}(g:o×q×O×R×U×W×X×Y×Z×la×lb×lc×ld×le×lf×lg×lh×li×lj->lk):o->q->O->R->U->W->X->Y->Z->la->lb->lc->ld->le->lf->lg->lh->li->lj->lk:=fun ll lm ln lo lp lq lr ls lt lu lv lw lx ly lz lA lB lC lD=>g (ll,lm,ln,lo,lp,lq,lr,ls,lt,lu,lv,lw,lx,ly,lz,lA,lB,lC,lD)
end Go.Ev
namespace Go.Ev
open Go Go.RowKit
variable [b8]
variable {P:Program} {G:World->Prop}
variable {cx:bI} {m:Nat->Value} {st st':af} {T:Array Value} {w w':World} {E:Env}
theorem Hb{f:Nat}{d c O:List ag}{fn:Nat->dE d->Option (dE c)}(h:∀k,a8 P G f (aX.aW ⟨d,c,O,fn k⟩))(g:dE d->Nat):a8 P G f (aX.aW ⟨d,c,O,fun x=>fn (g x) x⟩):=
 have key:∀o au,(aX.aW ⟨d,c,O,fun x=>fn (g x) x⟩).rel o au->∃k,(aX.aW ⟨d,c,O,fn k⟩).rel o au:=by
  intro o au q
  cases R:gi d o with
  |none=>simp only[aX.aW,R]at q
  |some x=>
   cases W:gi c au with
   |none=>simp only[aX.aW,R,W]at q
   |some y=>
    refine⟨g x,?_⟩
    simp only[aX.aW,R,W]at q⊢
    exact q
 {enters:=(h 0).enters
  shape:=fun o au q=>let⟨k,U⟩:=key o au q;(h k).shape o au U
  calls:=fun w M vs o au X Y q Z=>let⟨k,U⟩:=key o au q;(h k).calls w M vs o au X Y U Z}
end Go.Ev
namespace Go.Ev
open Go
set_option linter.unusedVariables false
def D9(o:List UInt8)(q:(List UInt8)->Option (List UInt8))(t1:Bool):Option (List UInt8):=
 if t1 then
  (
   Option.bind (dz o (0:Int) (am ((List.length o:Int)-(1:Int)))) fun O=>
   q O
  )
 else
  some (o)
def RY(c1:Int)(q:(List UInt8)->Option (List UInt8))(o:List UInt8):Option (List UInt8):=
 if decide ((0:Int)<(List.length o:Int))then
  (
   Option.bind (ft o (am ((List.length o:Int)-(1:Int)))) fun O=>
   D9 o q (O==c1)
  )
 else
  D9 o q false
def ET(c1:Int):Nat->(List UInt8)->Option (List UInt8)
 |0,_=>none
 |n+1,o=>RY c1 (ET c1 n) o
def Li(k:Nat)(o:List UInt8)(c1:Int):Option (List UInt8):=
 ET c1 k o
def DK(o:List UInt8)(q:(List UInt8)->Option (List UInt8))(t1:Bool):Option (List UInt8):=
 if t1 then
  (
   Option.bind (dz o (1:Int) (o.length:Int)) fun O=>
   q O
  )
 else
  some (o)
def UX(c1:Int)(q:(List UInt8)->Option (List UInt8))(o:List UInt8):Option (List UInt8):=
 if decide ((0:Int)<(List.length o:Int))then
  (
   Option.bind (ft o (0:Int)) fun O=>
   DK o q (O==c1)
  )
 else
  DK o q false
def Co(c1:Int):Nat->(List UInt8)->Option (List UInt8)
 |0,_=>none
 |n+1,o=>UX c1 (Co c1 n) o
def Gb(k:Nat)(o:List UInt8)(c1:Int):Option (List UInt8):=
 Co c1 k o
def Qx(O:List UInt8)(R:Int->(List (Bool))->Option (List (Bool)×Bool))(i1:Int)(q:List (Bool)):Option (List (Bool)×Bool):=
 if decide (i1<(List.length O:Int))then
  (
   Option.bind (ft O i1) fun o=>
   if decide ((128:Int)<=o)then
    some (q,false)
   else
    (
     Option.bind (bk (0<=o/\o<(256:Int))) fun _=>
     Option.bind (aB q o) fun U=>
     R (am (i1+(1:Int))) (List.set q (o).toNat true)
    )
  )
 else
  some (q,true)
def Bp(o:List UInt8):Nat->Int->(List (Bool))->Option (List (Bool)×Bool)
 |0,_,_=>none
 |n+1,i1,q=>Qx o (Bp o n) i1 q
def rK(k:Nat)(o:List UInt8):Option (List (Bool)×Bool):=
 Bp o k (0:Int) (List.replicate 256 false)
def pG(k:Nat)(o:List (Bool))(c1:Int):Option Bool:=
 Option.bind (aB o c1) fun q=>
 some (q)
def tX(o:List UInt8):Option (List UInt8):=
 some (o)
def CV(k:Nat)(q:List (Bool))(O:(List UInt8)->Option (List UInt8))(o:List UInt8):Option (List UInt8):=
 if decide ((0:Int)<(List.length o:Int))then
  (
   Option.bind (ft o (am ((List.length o:Int)-(1:Int)))) fun R=>
   Option.bind (pG k q R) fun v1=>
   if !v1 then
    tX o
   else
    (
     Option.bind (dz o (0:Int) (am ((List.length o:Int)-(1:Int)))) fun U=>
     O U
    )
  )
 else
  tX o
def oN(k:Nat)(o:List (Bool)):Nat->(List UInt8)->Option (List UInt8)
 |0,_=>none
 |n+1,q=>CV k o (oN k o n) q
def wz(k:Nat)(o:List UInt8)(q:List (Bool)):Option (List UInt8):=
 oN k q k o
def uD(o:List UInt8):Option (List UInt8):=
 some (o)
def Fx(k:Nat)(q:List (Bool))(O:(List UInt8)->Option (List UInt8))(o:List UInt8):Option (List UInt8):=
 if decide ((0:Int)<(List.length o:Int))then
  (
   Option.bind (ft o (0:Int)) fun R=>
   Option.bind (pG k q R) fun v1=>
   if !v1 then
    uD o
   else
    (
     Option.bind (dz o (1:Int) (o.length:Int)) fun U=>
     O U
    )
  )
 else
  uD o
def oD(k:Nat)(o:List (Bool)):Nat->(List UInt8)->Option (List UInt8)
 |0,_=>none
 |n+1,q=>Fx k o (oD k o n) q
def yi(k:Nat)(o:List UInt8)(q:List (Bool)):Option (List UInt8):=
 oD k q k o
def Ln(k:Nat)(o:List UInt8)(q:List UInt8):Option (List UInt8):=
 none
def He(k:Nat)(o:List UInt8)(q:List UInt8):Option (List UInt8):=
 none
def s5(k:Nat)(o:List UInt8)(q:List UInt8)(t2:Bool):Option (List UInt8):=
 if t2 then
  (
   Option.bind (ft o (0:Int)) fun O=>
   Option.bind (Li k q O) fun v1=>
   Option.bind (ft o (0:Int)) fun R=>
   Option.bind (Gb k v1 R) fun v2=>
   some (v2)
  )
 else
  (
   Option.bind (rK k o) fun v3=>
   if v3.2 then
    (
     Option.bind (wz k q v3.1) fun v4=>
     Option.bind (yi k v4 v3.1) fun v5=>
     some (v5)
    )
   else
    (
     Option.bind (Ln k q o) fun U=>
     Option.bind (He k U o) fun W=>
     some (W)
    )
  )
def FW(k:Nat)(q:List UInt8)(o:List UInt8)(t1:Bool):Option (List UInt8):=
 if t1 then
  some (q)
 else
  (
   if(List.length o:Int)==(1:Int)then
    (
     Option.bind (ft o (0:Int)) fun O=>
     s5 k o q (decide (O<(128:Int)))
    )
   else
    s5 k o q false
  )
def nP(k:Nat)(o:List UInt8)(q:List UInt8):Option (List UInt8):=
 FW k o q ((o==([]:List UInt8))||(q==([]:List UInt8)))
def wn(t2:Bool):Option Bool:=
 some (t2)
def C8(k:Nat)(o:List UInt8)(t1:Bool):Option Bool:=
 if t1 then
  (
   Option.bind (nP k o ([97,98,99,100,101,102,103,104,105,106,107,108,109,110,111,112,113,114,115,116,117,118,119,120,121,122]:List UInt8)) fun v1=>
   wn (v1==([]:List UInt8))
  )
 else
  wn false
def qk(k:Nat)(o:List UInt8):Option Bool:=
 C8 k o ((!(o==([]:List UInt8)))&&(decide ((List.length o:Int)<=(32:Int))))
def pJ(t2:Bool):Option Bool:=
 if t2 then
  some (false)
 else
  some (true)
def ui(o:Int)(t1:Bool):Option Bool:=
 if t1 then
  some (true)
 else
  (
   if decide (o<(161:Int))then
    pJ (decide (o<(161:Int)))
   else
    (
     if decide ((1114111:Int)<o)then
      pJ (decide ((1114111:Int)<o))
     else
      (
       if o==(65533:Int)then
        pJ (o==(65533:Int))
       else
        (
         Option.bind (bk (0<=(11:Int))) fun _=>
         pJ ((Int.fdiv o (2^min ((11:Int)).toNat 32))==(27:Int))
        )
      )
    )
  )
def An(o:Int)(t4:Bool):Option Bool:=
 ui o t4
def FM(o:Int)(t3:Bool):Option Bool:=
 if t3 then
  ui o t3
 else
  An o (decide ((65:Int)<=o)&&(decide (o<=(90:Int))))
def rB(k:Nat)(o:Int):Option Bool:=
 FM o (decide ((97:Int)<=o)&&(decide (o<=(122:Int))))
def I7(t1:Bool):Option Bool:=
 some (t1)
def kD(k:Nat)(o:be)(q:Int)(O:Int):Option Bool:=
 Option.bind (bk (0<=(List.length o.1:Int))) fun _=>
 I7 (((Int.fdiv (dm (BitVec.toNat (BitVec.ofInt 32 q|||BitVec.ofInt 32 O))) (2^min ((List.length o.1:Int)).toNat 32))==(0:Int))&&((dm (BitVec.toNat (BitVec.ofInt 32 q&&&BitVec.ofInt 32 O)))==(0:Int)))
def Fi(o:Int->bT->Option Int)(t3:Int)(m1:List bH)(q:List UInt8)(t4:Bool):Option Int:=
 if t4 then
  some ((7:Int))
 else
  o (am (t3+(1:Int))) (cl (aV .str) m1 q true)
def ru(bF:Int->iq->Option Int)(t5:Int)(m2:List (Int×Bool))(o:dO)(t7:Bool):Option Int:=
 if t7 then
  some ((7:Int))
 else
  bF (am (t5+(1:Int))) (cl (aV (.int .i32)) m2 o.1 true)
def Dh(k:Nat)(bF:Int->iq->Option Int)(t5:Int)(m2:List (Int×Bool))(o:dO)(q:be)(t6:Bool):Option Int:=
 if t6 then
  ru bF t5 m2 o true
 else
  (
   Option.bind (kD k (q.1,q.2.1,()) o.2.1 o.2.2.1) fun v3=>
   ru bF t5 m2 o (!v3)
  )
def Fh(k:Nat)(o:be)(bF:Int->iq->Option Int)(t5:Int)(m2:List (Int×Bool)):Option Int:=
 if decide (t5<(List.length o.2.1:Int))then
  (
   Option.bind (aB o.2.1 t5) fun q=>
   Option.bind (rB k q.1) fun v2=>
   Dh k bF t5 m2 q o ((!v2)||((bS (aV (.int .i32)) m2 q.1).getD false))
  )
 else
  some ((0:Int))
def kW(k:Nat)(o:be):Nat->Int->iq->Option Int
 |0,_,_=>none
 |n+1,t5,m2=>Fh k o (kW k o n) t5 m2
def EM(k:Nat)(o:be)(O:Int->bT->Option Int)(t3:Int)(m1:List bH):Option Int:=
 if decide (t3<(List.length o.1:Int))then
  (
   Option.bind (aB o.1 t3) fun q=>
   Option.bind (qk k q) fun v1=>
   Fi O t3 m1 q ((!v1)||((bS (aV .str) m1 q).getD false))
  )
 else
  kW k o k (0:Int) ([]:List (Int×Bool))
def oP(k:Nat)(o:be):Nat->Int->bT->Option Int
 |0,_,_=>none
 |n+1,t3,m1=>EM k o (oP k o n) t3 m1
def Eo(k:Nat)(o:be)(t2:Bool):Option Int:=
 if t2 then
  some ((7:Int))
 else
  oP k o k (0:Int) ([]:List bH)
def EB(k:Nat)(o:be)(t1:Bool):Option Int:=
 Eo k o (t1||(decide ((128:Int)<(List.length o.2.1:Int))))
def eP(k:Nat)(o:be):Option Int:=
 EB k o (decide ((24:Int)<(List.length o.1:Int))||(decide ((List.length o.2.1:Int)<(1:Int))))
def EK(t1:Bool):Option Bool:=
 some (t1)
def yS(k:Nat)(o:List UInt8):Option Bool:=
 if decide ((List.length o:Int)<=(32:Int))then
  (
   Option.bind (nP k o ([97,98,99,100,101,102,103,104,105,106,107,108,109,110,111,112,113,114,115,116,117,118,119,120,121,122,48,49,50,51,52,53,54,55,56,57,45]:List UInt8)) fun v1=>
   EK (v1==([]:List UInt8))
  )
 else
  EK false
def FS(k:Nat)(l1:dO)(t1:Int):Option Bool:=
 some (l1.1==t1)
def Mp(k:Nat)(o:List aH)(f1:(Int×Unit))(q:Int->Option Int)(t1:Int):Option Int:=
 if decide (t1<(List.length o:Int))then
  (
   Option.bind (aB o t1) fun O=>
   Option.bind (FS k O f1.1) fun v1=>
   if v1 then
    some (t1)
   else
    q (am (t1+(1:Int)))
  )
 else
  some ((-1:Int))
def uj(k:Nat)(o:List aH)(f1:(Int×Unit)):Nat->Int->Option Int
 |0,_=>none
 |n+1,t1=>Mp k o f1 (uj k o f1 n) t1
def zv(k:Nat)(o:List aH)(f1:(Int×Unit)):Option Int:=
 uj k o f1 k (0:Int)
def pB(k:Nat)(o:be)(O:Int):Option (dO×Int):=
 Option.bind (eP k (o.1,o.2.1,())) fun v1=>
 if v1 !=(0:Int)then
  some (((0:Int),(0:Int),(0:Int),()),v1)
 else
  (
   Option.bind (zv k o.2.1 (O,())) fun v2=>
   if decide (v2<(0:Int))then
    some (((0:Int),(0:Int),(0:Int),()),(5:Int))
   else
    (
     Option.bind (aB o.2.1 v2) fun q=>
     some ((q.1,q.2.1,q.2.2.1,()),(0:Int))
    )
  )
def rU(k:Nat)(o:be)(q:Int):Option Bool:=
 Option.bind (pB k (o.1,o.2.1,()) q) fun v1=>
 some (v1.2==(0:Int))
def pq(k:Nat)(o:List UInt8)(l1:List (Int)):Option (Option (Option (Nat×Int))×Int×List (Int)):=
 Option.bind (zn k l1) fun v1=>
 Option.bind (bk (List.length l1+List.length (dB o)<=bC)) fun _=>
 some ((none:Option (Option (Nat×Int))),(List.length o:Int),l1++(dB o))
def oE(o:Int->(List (Int))->Option cw)(t1:Int)(t3:List (Int)):Option cw:=
 o (am (t1+(1:Int))) t3
def KN(k:Nat)(O:be)(R:Int)(U:Int)(q:Int->(List (Int))->Option cw)(t1:Int)(t2:List (Int)):Option cw:=
 if decide (t1<(List.length O.1:Int))then
  (
   Option.bind (aB O.1 t1) fun o=>
   Option.bind (bk (0<=t1)) fun _=>
   if(dm (BitVec.toNat (BitVec.ofInt 32 (Int.fdiv R (2^min (t1).toNat 32))&&&BitVec.ofInt 32 (1:Int))))==(1:Int)then
    (
     Option.bind (bk (List.length ([43]:List UInt8)+List.length o<=bC)) fun _=>
     Option.bind (pq k (([43]:List UInt8)++o) t2) fun v3=>
     oE q t1 v3.2.2
    )
   else
    (
     Option.bind (bk (0<=t1)) fun _=>
     if(dm (BitVec.toNat (BitVec.ofInt 32 (Int.fdiv U (2^min (t1).toNat 32))&&&BitVec.ofInt 32 (1:Int))))==(1:Int)then
      (
       Option.bind (bk (List.length ([45]:List UInt8)+List.length o<=bC)) fun _=>
       Option.bind (pq k (([45]:List UInt8)++o) t2) fun v4=>
       oE q t1 v4.2.2
      )
     else
      oE q t1 t2
    )
  )
 else
  (
   Option.bind (qN k t2) fun v5=>
   some (v5,(0:Int))
  )
def qe(k:Nat)(o:be)(q:Int)(O:Int):Nat->Int->(List (Int))->Option cw
 |0,_,_=>none
 |n+1,t1,t2=>KN k o q O (qe k o q O n) t1 t2
def tr(k:Nat)(o:be)(q:Int)(O:Int):Option cw:=
 Option.bind (eP k (o.1,o.2.1,())) fun v1=>
 if v1 !=(0:Int)then
  some (([]:List UInt8),v1)
 else
  (
   Option.bind (kD k (o.1,o.2.1,()) q O) fun v2=>
   if !v2 then
    some (([]:List UInt8),(20:Int))
   else
    qe k o q O k (0:Int) ([]:List (Int))
  )
def xV(k:Nat)(o:be)(q:Int)(O:Int):Option Bool:=
 Option.bind (tr k (o.1,o.2.1,()) q O) fun v1=>
 some (v1.2==(0:Int))
def W6(t1:Bool):Option Bool:=
 some (t1)
def vH(k:Nat)(o:be)(q:Int)(O:Int)(R:Int):Option Bool:=
 if q !=(0:Int)then
  (
   Option.bind (rU k (o.1,o.2.1,()) q) fun v1=>
   W6 (v1&&((dm (BitVec.toNat (BitVec.ofInt 32 O|||BitVec.ofInt 32 R)))==(0:Int)))
  )
 else
  (
   Option.bind (xV k (o.1,o.2.1,()) O R) fun v2=>
   some (v2)
  )
def nN(k:Nat)(q:be)(o:nB)(t2:Bool):Option Bool:=
 if t2 then
  some (false)
 else
  (
   Option.bind (vH k (q.1,q.2.1,()) o.1 o.2.2.1 o.2.2.2.1) fun v1=>
   some (v1)
  )
def th(k:Nat)(o:be)(q:nB)(t3:Bool):Option Bool:=
 nN k o q t3
def Md(k:Nat)(o:be)(q:nB)(t4:Bool):Option Bool:=
 th k o q t4
def Ee(k:Nat)(q:be)(o:nB)(O:Int)(t1:Bool):Option Bool:=
 if t1 then
  nN k q o true
 else
  (
   if o.1==(0:Int)then
    Md k q o (decide (o.2.1<(0:Int))||(decide (O<=o.2.1)))
   else
    th k q o false
  )
def rg(k:Nat)(q:be)(o:nB)(O:Int):Option Bool:=
 Ee k q o O ((o.1 !=(0:Int))&&(o.2.1 !=(0:Int)))
def DG(o:List (Bool))(v1:Bool)(q:Int->Option Int)(t1:Int):Option Int:=
 if decide (t1<(List.length o:Int))then
  (
   Option.bind (aB o t1) fun O=>
   if v1==O then
    some (t1)
   else
    q (am (t1+(1:Int)))
  )
 else
  some ((-1:Int))
def px(o:List (Bool))(v1:Bool):Nat->Int->Option Int
 |0,_=>none
 |n+1,t1=>DG o v1 (px o v1 n) t1
def zr(k:Nat)(o:List (Bool))(v1:Bool):Option Int:=
 px o v1 k (0:Int)
def pt(k:Nat)(o:List (Bool))(v1:Bool):Option Bool:=
 Option.bind (zr k o v1) fun v2=>
 some (decide ((0:Int)<=v2))
def sj(t7:List (Bool))(o:Int)(bF:Int->(List (Bool))->Option Bool)(t6:Int)(t9:Bool):Option Bool:=
 if t9 then
  some (false)
 else
  (
   Option.bind (aB t7 o) fun q=>
   bF (am (t6+(1:Int))) (List.set t7 (o).toNat true)
  )
def B9(t7:List (Bool))(o:Int)(bF:Int->(List (Bool))->Option Bool)(t6:Int)(t8:Bool):Option Bool:=
 if t8 then
  sj t7 o bF t6 true
 else
  (
   Option.bind (aB t7 o) fun q=>
   sj t7 o bF t6 q
  )
def Ch(q:fU)(t2:Int)(ar:eN)(O:Int->(List (Bool))->Option Bool)(bF:Int->(List (Bool))->Option Bool)(t6:Int)(t7:List (Bool)):Option Bool:=
 if decide (t6<(List.length q.2.2.2.2.1:Int))then
  (
   Option.bind (aB q.2.2.2.2.1 t6) fun o=>
   B9 t7 o bF t6 (decide (o<=t2)||(decide ((List.length ar.1:Int)<=o)))
  )
 else
  O (am (t2+(1:Int))) t7
def pc(o:fU)(t2:Int)(ar:eN)(q:Int->(List (Bool))->Option Bool):Nat->Int->(List (Bool))->Option Bool
 |0,_,_=>none
 |n+1,t6,t7=>Ch o t2 ar q (pc o t2 ar q n) t6 t7
def pa(k:Nat)(o:fU)(t2:Int)(ar:eN)(q:Int->(List (Bool))->Option Bool)(t3:List (Bool))(t5:Bool):Option Bool:=
 if t5 then
  some (false)
 else
  pc o t2 ar q k (0:Int) t3
def QA(k:Nat)(o:fU)(t2:Int)(ar:eN)(q:Int->(List (Bool))->Option Bool)(t3:List (Bool))(t10:Bool):Option Bool:=
 pa k o t2 ar q t3 t10
def Eh(k:Nat)(o:fU)(t2:Int)(ar:eN)(q:Int->(List (Bool))->Option Bool)(t3:List (Bool))(t4:Bool):Option Bool:=
 if t4 then
  pa k o t2 ar q t3 true
 else
  QA k o t2 ar q t3 (((dm (BitVec.toNat (BitVec.ofInt 32 o.2.2.1|||BitVec.ofInt 32 o.2.2.2.1)))!=(0:Int))&&(o.1 !=(3:Int)))
def nM(k:Nat)(o:fU)(t2:Int)(ar:eN)(q:Int->(List (Bool))->Option Bool)(t3:List (Bool)):Option Bool:=
 Eh k o t2 ar q t3 ((o.2.1 !=(0:Int))&&(o.1 !=(2:Int)))
def kX(k:Nat)(o:fU)(t2:Int)(ar:eN)(q:Int->(List (Bool))->Option Bool)(t3:List (Bool))(t13:Bool):Option Bool:=
 if t13 then
  (
   if(List.length o.2.2.2.2.1:Int)!=(0:Int)then
    some (false)
   else
    nM k o t2 ar q t3
  )
 else
  some (false)
def oK(k:Nat)(o:fU)(t2:Int)(ar:eN)(q:Int->(List (Bool))->Option Bool)(t3:List (Bool))(t12:Bool):Option Bool:=
 if t12 then
  (
   if(List.length o.2.2.2.2.1:Int)!=(1:Int)then
    some (false)
   else
    nM k o t2 ar q t3
  )
 else
  (
   if o.1==(1:Int)then
    kX k o t2 ar q t3 (o.1==(1:Int))
   else
    (
     if o.1==(2:Int)then
      kX k o t2 ar q t3 (o.1==(2:Int))
     else
      (
       if o.1==(3:Int)then
        kX k o t2 ar q t3 (o.1==(3:Int))
       else
        (
         if o.1==(4:Int)then
          kX k o t2 ar q t3 (o.1==(4:Int))
         else
          kX k o t2 ar q t3 (o.1==(5:Int))
        )
      )
    )
  )
def pm(k:Nat)(o:fU)(t2:Int)(ar:eN)(q:Int->(List (Bool))->Option Bool)(t3:List (Bool))(t11:Bool):Option Bool:=
 if t11 then
  nM k o t2 ar q t3
 else
  (
   if o.1==(8:Int)then
    oK k o t2 ar q t3 (o.1==(8:Int))
   else
    oK k o t2 ar q t3 (o.1==(9:Int))
  )
def De(k:Nat)(ar:eN)(q:Int->(List (Bool))->Option Bool)(t2:Int)(t3:List (Bool)):Option Bool:=
 if decide (t2<(List.length ar.1:Int))then
  (
   Option.bind (aB ar.1 t2) fun o=>
   if o.1==(6:Int)then
    pm k o t2 ar q t3 (o.1==(6:Int))
   else
    pm k o t2 ar q t3 (o.1==(7:Int))
  )
 else
  (
   Option.bind (dz t3 (1:Int) (t3.length:Int)) fun O=>
   Option.bind (pt k O false) fun v1=>
   some (!v1)
  )
def gB(k:Nat)(ar:eN):Nat->Int->(List (Bool))->Option Bool
 |0,_,_=>none
 |n+1,t2,t3=>De k ar (gB k ar n) t2 t3
def xN(k:Nat)(ar:eN)(t1:Bool):Option Bool:=
 if t1 then
  some (false)
 else
  (
   Option.bind (bk (0<=(List.length ar.1:Int)/\(List.length ar.1:Int)<=(List.length ar.1:Int)/\(List.length ar.1:Int)<=(bC:Int))) fun _=>
   gB k ar k (0:Int) (List.replicate ((List.length ar.1:Int)).toNat false)
  )
def ka(k:Nat)(ar:eN):Option Bool:=
 xN k ar (decide ((List.length ar.1:Int)<(1:Int))||(decide ((256:Int)<(List.length ar.1:Int))))
def rI(o:Int->Option Int)(t1:Int):Option Int:=
 o (am (t1+(1:Int)))
def Ds(k:Nat)(ar:eN)(q:be)(O:Int->Option Int)(t1:Int):Option Int:=
 if decide (t1<(List.length ar.1:Int))then
  (
   Option.bind (aB ar.1 t1) fun o=>
   if o.1==(2:Int)then
    (
     Option.bind (pB k (q.1,q.2.1,()) o.2.1) fun v3=>
     if v3.2 !=(0:Int)then
      some ((40:Int))
     else
      rI O t1
    )
   else
    (
     if o.1==(3:Int)then
      (
       Option.bind (tr k (q.1,q.2.1,()) o.2.2.1 o.2.2.2.1) fun v4=>
       if v4.2 !=(0:Int)then
        some ((40:Int))
       else
        rI O t1
      )
     else
      rI O t1
    )
  )
 else
  some ((0:Int))
def mY(k:Nat)(ar:eN)(o:be):Nat->Int->Option Int
 |0,_=>none
 |n+1,t1=>Ds k ar o (mY k ar o n) t1
def pK(k:Nat)(o:be)(ar:eN):Option Int:=
 Option.bind (eP k (o.1,o.2.1,())) fun v1=>
 if v1 !=(0:Int)then
  some (v1)
 else
  (
   Option.bind (ka k (ar.1,())) fun v2=>
   if !v2 then
    some ((40:Int))
   else
    mY k ar o k (0:Int)
  )
def rb(t8:Bool):Option Int:=
 if t8 then
  some ((70:Int))
 else
  some ((0:Int))
def CG(k:Nat)(q:dJ)(o:be)(bF:Int->Option Int)(t7:Int):Option Int:=
 if decide (t7<(List.length q.2.2.1:Int))then
  (
   Option.bind (aB q.2.2.1 t7) fun O=>
   Option.bind (rg k (o.1,o.2.1,()) (O.1,O.2.1,O.2.2.1,O.2.2.2.1,()) (List.length q.2.1:Int)) fun v4=>
   if !v4 then
    some ((70:Int))
   else
    bF (am (t7+(1:Int)))
  )
 else
  (
   Option.bind (pK k (o.1,o.2.1,()) (q.2.2.2.1.1,())) fun v5=>
   if v5 !=(0:Int)then
    rb true
   else
    (
     Option.bind (pK k (o.1,o.2.1,()) (q.2.2.2.2.1.1,())) fun R=>
     rb (R !=(0:Int))
    )
  )
def nX(k:Nat)(o:dJ)(q:be):Nat->Int->Option Int
 |0,_=>none
 |n+1,t7=>CG k o q (nX k o q n) t7
def D0(k:Nat)(o:dJ)(q:be)(R:Int->Option Int)(t6:Int):Option Int:=
 if decide (t6<(List.length o.2.1:Int))then
  (
   Option.bind (aB o.2.1 t6) fun O=>
   Option.bind (vH k (q.1,q.2.1,()) O.1 O.2.1 O.2.2.1) fun v3=>
   if !v3 then
    some ((70:Int))
   else
    R (am (t6+(1:Int)))
  )
 else
  nX k o q k (0:Int)
def pM(k:Nat)(o:dJ)(q:be):Nat->Int->Option Int
 |0,_=>none
 |n+1,t6=>D0 k o q (pM k o q n) t6
def Bm(k:Nat)(o:dJ)(q:be)(t5:Bool):Option Int:=
 if t5 then
  some ((70:Int))
 else
  pM k o q k (0:Int)
def C4(k:Nat)(o:dJ)(q:be)(t4:Bool):Option Int:=
 Bm k o q (t4||((am ((List.length o.2.1:Int)+(List.length o.2.2.1:Int)))==(0:Int)))
def Fj(k:Nat)(o:dJ)(q:be)(t3:Bool):Option Int:=
 C4 k o q (t3||(decide ((8:Int)<(List.length o.2.2.1:Int))))
def Ao(k:Nat)(o:dJ)(q:be)(t2:Bool):Option Int:=
 Fj k o q (t2||(decide ((8:Int)<(List.length o.2.1:Int))))
def D1(k:Nat)(o:dJ)(q:be)(t1:Bool):Option Int:=
 Ao k o q (t1||(decide ((3:Int)<o.2.2.2.2.2.1)))
def nY(k:Nat)(o:be)(q:dJ):Option Int:=
 Option.bind (eP k (o.1,o.2.1,())) fun v1=>
 if v1 !=(0:Int)then
  some (v1)
 else
  (
   Option.bind (yS k q.1) fun v2=>
   D1 k q o ((!v2)||(decide (q.2.2.2.2.2.1<(1:Int))))
  )
def KT(k:Nat)(l1:List gl)(q:be)(O:Int->Option Int)(t1:Int):Option Int:=
 if decide (t1<(List.length l1:Int))then
  (
   Option.bind (aB l1 t1) fun o=>
   Option.bind (nY k (q.1,q.2.1,()) (o.1,o.2.1,o.2.2.1,(o.2.2.2.1.1,()),(o.2.2.2.2.1.1,()),o.2.2.2.2.2.1,o.2.2.2.2.2.2.1,())) fun v2=>
   if v2 !=(0:Int)then
    some (v2)
   else
    O (am (t1+(1:Int)))
  )
 else
  some ((0:Int))
def sN(k:Nat)(l1:List gl)(o:be):Nat->Int->Option Int
 |0,_=>none
 |n+1,t1=>KT k l1 o (sN k l1 o n) t1
def uS(k:Nat)(o:be)(l1:List gl):Option Int:=
 Option.bind (eP k (o.1,o.2.1,())) fun v1=>
 if v1 !=(0:Int)then
  some (v1)
 else
  (
   if decide ((64:Int)<(List.length l1:Int))then
    some ((4:Int))
   else
    sN k l1 o k (0:Int)
  )
end Go.Ev
namespace Go.Ev
open Go
set_option linter.unusedVariables false
end Go.Ev
namespace Go.Ev
open Go Go.Proofs Go.Sort
section
variable {X:Type}
def ins(lt:X->X->Bool)(x:X):List X->List X
 |[]=>[x]
 |y::l=>bif lt y x then y::ins lt x l else x::y::l
def Iy(lt:X->X->Bool):List X->List X
 |[]=>[]
 |x::l=>ins lt x (Iy lt l)
def mA(c:X->X->Option Int)(x y:X):Bool:=match c x y with
 |some n=>decide (n<0)
 |none=>false
def T2[DecidableEq X](c:X->X->Option Int)(l:List X):Bool:=
 l.all fun x=>l.all fun y=>(c x y).isSome&&(bif decide (x=y)then !mA c x y else(mA c x y||mA c y x)&&!(mA c x y&&mA c y x))&&l.all fun z=>!(mA c x y&&mA c y z)||mA c x z
def Q5[DecidableEq X](c:X->X->Option Int)(l:List X):Option (List X):=bif T2 c l then some (Iy (mA c) l)else none
structure X3(lt:X->X->Bool)(S:X->Prop):Prop where
 X5:∀x,S x->lt x x=false
 X7:∀x y z,S x->S y->S z->lt x y=true->lt y z=true->lt x z=true
 Ye:∀x y,S x->S y->x≠y->lt x y=true\/lt y x=true
end
end Go.Ev
namespace Go.Ev
open Go
end Go.Ev
namespace Go.Ev
open Go
set_option linter.unusedVariables false
end Go.Ev
namespace Go.Ev
open Go
set_option linter.unusedVariables false
def A6(o:be)(q:Int->iP->Option (Option iP×Int))(t1:Int)(m1:List (Int×Int)):Option (Option iP×Int):=
 if decide (t1<(List.length o.2.1:Int))then
  (
   Option.bind (aB o.2.1 t1) fun O=>
   q (am (t1+(1:Int))) (cl (aV (.int .i32)) m1 O.1 t1)
  )
 else
  some (some m1,(0:Int))
def nl(o:be):Nat->Int->iP->Option (Option iP×Int)
 |0,_,_=>none
 |n+1,t1,m1=>A6 o (nl o n) t1 m1
def wV(k:Nat)(o:be):Option (Option iP×Int):=
 Option.bind (eP k (o.1,o.2.1,())) fun v1=>
 if v1 !=(0:Int)then
  some ((none:Option iP),v1)
 else
  nl o k (0:Int) ([]:List (Int×Int))
def y2(k:Nat)(o:List UInt8):Option Int:=
 if decide ((65536:Int)<(List.length o:Int))then
  some ((3:Int))
 else
  some ((0:Int))
def G3(o:Int)(t1:Bool):Option Int:=
 if t1 then
  some ((-1:Int))
 else
  (
   if decide (o<=(65535:Int))then
    some ((3:Int))
   else
    (
     if decide (o<=(1114111:Int))then
      some ((4:Int))
     else
      some ((-1:Int))
    )
  )
def vO(k:Nat)(o:Int):Option Int:=
 if decide (o<(0:Int))then
  some ((-1:Int))
 else
  (
   if decide (o<=(127:Int))then
    some ((1:Int))
   else
    (
     if decide (o<=(2047:Int))then
      some ((2:Int))
     else
      G3 o (decide ((55296:Int)<=o)&&(decide (o<=(57343:Int))))
    )
  )
def rQ(k:Nat)(ar:kF)(l1:List fS):Option (Bool×List fS):=
 Option.bind (bk (List.length l1+List.length ([(ar.1,ar.2.1,ar.2.2.1,ar.2.2.2.1,())]:List fS)<=bC)) fun _=>
 some (true,l1++([(ar.1,ar.2.1,ar.2.2.1,ar.2.2.2.1,())]:List fS))
def nU(k:Nat)(q:List UInt8)(o:Nat)(t2:List fS)(O:Nat->kf->Option kf)(ar:Int)(R:Bool):Option kf:=
 Option.bind (rQ k (gE q o,(o:Int),ar,R,()) t2) fun v2=>
 if !v2.1 then
  some v2.2
 else
  O (o+ji q o) v2.2
def D4(k:Nat)(o:List UInt8)(O:Nat->kf->Option kf)(q:Nat)(t2:List fS):Option kf:=
 if decide (q<List.length o)then
  (
   Option.bind (vO k (gE o q)) fun v1=>
   if(gE o q)==(65533:Int)then
    (
     Option.bind (dz o (q:Int) (o.length:Int)) fun R=>
     Option.bind (utf8_DecodeRuneInString k R) fun v3=>
     if v3.2==(1:Int)then
      nU k o q t2 O (1:Int) true
     else
      nU k o q t2 O v1 false
    )
   else
    nU k o q t2 O v1 false
  )
 else
  some t2
def mf(k:Nat)(o:List UInt8):Nat->Nat->kf->Option kf
 |0,_,_=>none
 |n+1,q,t2=>D4 k o (mf k o n) q t2
def rF(k:Nat)(o:List UInt8)(l1:List fS):Option kf:=
 mf k o k 0 l1
def sT(k:Nat)(o:List UInt8):Option (List fS×Int):=
 Option.bind (y2 k o) fun v1=>
 if v1 !=(0:Int)then
  some (([]:List fS),v1)
 else
  (
   Option.bind (rF k o ([]:List fS)) fun v2=>
   some (v2,(0:Int))
  )
def CO(v1:(List fS×Int))(m1:Option iP)(O:Int->(List (Int))->Option cD)(t1:Int)(o:List (Int)):Option cD:=
 if decide (t1<(List.length v1.1:Int))then
  (
   Option.bind (aB v1.1 t1) fun q=>
   if q.2.2.2.1 then
    some (([]:List (Int)),(6:Int))
   else
    (
     if !((bS (aV (.int .i32)) (m1.getD []) q.1).isSome)then
      some (([]:List (Int)),(5:Int))
     else
      (
       if(List.length o:Int)==(64:Int)then
        some (([]:List (Int)),(4:Int))
       else
        (
         Option.bind (bk (List.length o+List.length ([q.1]:List (Int))<=bC)) fun _=>
         O (am (t1+(1:Int))) (o++([q.1]:List (Int)))
        )
      )
    )
  )
 else
  some (o,(0:Int))
def ni(v1:(List fS×Int))(m1:Option iP):Nat->Int->(List (Int))->Option cD
 |0,_,_=>none
 |n+1,t1,o=>CO v1 m1 (ni v1 m1 n) t1 o
def qT(k:Nat)(m1:Option iP)(o:List UInt8):Option cD:=
 Option.bind (sT k o) fun v1=>
 if v1.2 !=(0:Int)then
  some (([]:List (Int)),v1.2)
 else
  ni v1 m1 k (0:Int) ([]:List (Int))
def nd(k:Nat)(m1:Option iP)(o:List UInt8):Option cD:=
 if decide ((65536:Int)<(List.length o:Int))then
  (
   Option.bind (dz o (0:Int) (65536:Int)) fun q=>
   qT k m1 q
  )
 else
  qT k m1 o
def jO(k:Nat)(o:be)(q:List UInt8):Option cD:=
 Option.bind (wV k (o.1,o.2.1,())) fun v1=>
 if v1.2 !=(0:Int)then
  some (([]:List (Int)),v1.2)
 else
  (
   Option.bind (nd k v1.1 q) fun v2=>
   some (v2.1,v2.2)
  )
def xq(k:Nat)(o:Int):Option Int:=
 Option.bind (bk (0<=(24:Int))) fun _=>
 Option.bind (ft ([0,1,1,2,1,2,2,3,1,2,2,3,2,3,3,4,1,2,2,3,2,3,3,4,2,3,3,4,3,4,4,5,1,2,2,3,2,3,3,4,2,3,3,4,3,4,4,5,2,3,3,4,3,4,4,5,3,4,4,5,4,5,5,6,1,2,2,3,2,3,3,4,2,3,3,4,3,4,4,5,2,3,3,4,3,4,4,5,3,4,4,5,4,5,5,6,2,3,3,4,3,4,4,5,3,4,4,5,4,5,5,6,3,4,4,5,4,5,5,6,4,5,5,6,5,6,6,7,1,2,2,3,2,3,3,4,2,3,3,4,3,4,4,5,2,3,3,4,3,4,4,5,3,4,4,5,4,5,5,6,2,3,3,4,3,4,4,5,3,4,4,5,4,5,5,6,3,4,4,5,4,5,5,6,4,5,5,6,5,6,6,7,2,3,3,4,3,4,4,5,3,4,4,5,4,5,5,6,3,4,4,5,4,5,5,6,4,5,5,6,5,6,6,7,3,4,4,5,4,5,5,6,4,5,5,6,5,6,6,7,4,5,5,6,5,6,6,7,5,6,6,7,6,7,7,8]:List UInt8) (Int.fdiv o (2^min ((24:Int)).toNat 32))) fun q=>
 Option.bind (bk (0<=(16:Int))) fun _=>
 Option.bind (ft ([0,1,1,2,1,2,2,3,1,2,2,3,2,3,3,4,1,2,2,3,2,3,3,4,2,3,3,4,3,4,4,5,1,2,2,3,2,3,3,4,2,3,3,4,3,4,4,5,2,3,3,4,3,4,4,5,3,4,4,5,4,5,5,6,1,2,2,3,2,3,3,4,2,3,3,4,3,4,4,5,2,3,3,4,3,4,4,5,3,4,4,5,4,5,5,6,2,3,3,4,3,4,4,5,3,4,4,5,4,5,5,6,3,4,4,5,4,5,5,6,4,5,5,6,5,6,6,7,1,2,2,3,2,3,3,4,2,3,3,4,3,4,4,5,2,3,3,4,3,4,4,5,3,4,4,5,4,5,5,6,2,3,3,4,3,4,4,5,3,4,4,5,4,5,5,6,3,4,4,5,4,5,5,6,4,5,5,6,5,6,6,7,2,3,3,4,3,4,4,5,3,4,4,5,4,5,5,6,3,4,4,5,4,5,5,6,4,5,5,6,5,6,6,7,3,4,4,5,4,5,5,6,4,5,5,6,5,6,6,7,4,5,5,6,5,6,6,7,5,6,6,7,6,7,7,8]:List UInt8) (dm (BitVec.toNat (BitVec.ofInt 32 (Int.fdiv o (2^min ((16:Int)).toNat 32))&&&BitVec.ofInt 32 (255:Int))))) fun O=>
 Option.bind (bk (0<=(8:Int))) fun _=>
 Option.bind (ft ([0,1,1,2,1,2,2,3,1,2,2,3,2,3,3,4,1,2,2,3,2,3,3,4,2,3,3,4,3,4,4,5,1,2,2,3,2,3,3,4,2,3,3,4,3,4,4,5,2,3,3,4,3,4,4,5,3,4,4,5,4,5,5,6,1,2,2,3,2,3,3,4,2,3,3,4,3,4,4,5,2,3,3,4,3,4,4,5,3,4,4,5,4,5,5,6,2,3,3,4,3,4,4,5,3,4,4,5,4,5,5,6,3,4,4,5,4,5,5,6,4,5,5,6,5,6,6,7,1,2,2,3,2,3,3,4,2,3,3,4,3,4,4,5,2,3,3,4,3,4,4,5,3,4,4,5,4,5,5,6,2,3,3,4,3,4,4,5,3,4,4,5,4,5,5,6,3,4,4,5,4,5,5,6,4,5,5,6,5,6,6,7,2,3,3,4,3,4,4,5,3,4,4,5,4,5,5,6,3,4,4,5,4,5,5,6,4,5,5,6,5,6,6,7,3,4,4,5,4,5,5,6,4,5,5,6,5,6,6,7,4,5,5,6,5,6,6,7,5,6,6,7,6,7,7,8]:List UInt8) (dm (BitVec.toNat (BitVec.ofInt 32 (Int.fdiv o (2^min ((8:Int)).toNat 32))&&&BitVec.ofInt 32 (255:Int))))) fun R=>
 Option.bind (ft ([0,1,1,2,1,2,2,3,1,2,2,3,2,3,3,4,1,2,2,3,2,3,3,4,2,3,3,4,3,4,4,5,1,2,2,3,2,3,3,4,2,3,3,4,3,4,4,5,2,3,3,4,3,4,4,5,3,4,4,5,4,5,5,6,1,2,2,3,2,3,3,4,2,3,3,4,3,4,4,5,2,3,3,4,3,4,4,5,3,4,4,5,4,5,5,6,2,3,3,4,3,4,4,5,3,4,4,5,4,5,5,6,3,4,4,5,4,5,5,6,4,5,5,6,5,6,6,7,1,2,2,3,2,3,3,4,2,3,3,4,3,4,4,5,2,3,3,4,3,4,4,5,3,4,4,5,4,5,5,6,2,3,3,4,3,4,4,5,3,4,4,5,4,5,5,6,3,4,4,5,4,5,5,6,4,5,5,6,5,6,6,7,2,3,3,4,3,4,4,5,3,4,4,5,4,5,5,6,3,4,4,5,4,5,5,6,4,5,5,6,5,6,6,7,3,4,4,5,4,5,5,6,4,5,5,6,5,6,6,7,4,5,5,6,5,6,6,7,5,6,6,7,6,7,7,8]:List UInt8) (dm (BitVec.toNat (BitVec.ofInt 32 o&&&BitVec.ofInt 32 (255:Int))))) fun U=>
 some (am (nW ((nW ((nW (q+O))+R))+U)))
def uw(k:Nat)(o:dO)(q:dO):Option Int:=
 Option.bind (xq k (dm (BitVec.toNat (BitVec.ofInt 32 (dm (BitVec.toNat (BitVec.ofInt 32 o.2.1^^^BitVec.ofInt 32 q.2.1)))|||BitVec.ofInt 32 (dm (BitVec.toNat (BitVec.ofInt 32 o.2.2.1^^^BitVec.ofInt 32 q.2.2.1))))))) fun v1=>
 some (v1)
end Go.Ev
