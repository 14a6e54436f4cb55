/- The layouts of library functions at this program, as the kit's own tool wrote them. -/
import Derived.Test.YteopobecmacgdaaGreatDoorProg
import Derived.Shelf.Unicode.DecodeAny
import Derived.KernelRfl
import Derived.WalkKit
import Derived.IntWalk
import Derived.ChangeKeysEq
import Derived.Lib.Strings
import Derived.Laws.IdiomStrings
import Derived.Laws.Cover4
set_option linter.unusedSectionVars false
set_option linter.unusedVariables false
set_option linter.unusedSimpArgs false
namespace Go.Ev
open Go Go.Proofs Go.Shelf
set_option maxRecDepth 100000
def Px:Go.Shelf.Ren:=⟨fun|197=>158|260=>192|n=>n,fun|9=>9|21=>21|3=>3|4=>4|5=>5|105=>274|119=>269|0=>0|46=>233|139=>272|138=>271|n=>n,fun|3=>0|4=>1|n=>n⟩
theorem Pb:Go.Proofs.Lays.n197 Tryz.prog Px:={
 mixed:=by kernel_rfl
 f197:=Tryz.func158.trans (congrArg some (by kernel_rfl))
 f260:=Tryz.func192.trans (congrArg some (by kernel_rfl))
 t0:=Tryz.underlying0
 a0:=Tryz.isAgg0
 z0:=Tryz.sizeOf0
 v0:=Tryz.zeroValue0
 t3:=Tryz.underlying3
 a3:=Tryz.isAgg3
 z3:=Tryz.sizeOf3
 v3:=Tryz.zeroValue3
 t4:=Tryz.underlying4
 a4:=Tryz.isAgg4
 z4:=Tryz.sizeOf4
 v4:=Tryz.zeroValue4
 t5:=Tryz.underlying5
 a5:=Tryz.isAgg5
 z5:=Tryz.sizeOf5
 v5:=Tryz.zeroValue5
 t9:=Tryz.underlying9
 a9:=Tryz.isAgg9
 z9:=Tryz.sizeOf9
 v9:=Tryz.zeroValue9
 t21:=Tryz.underlying21
 a21:=Tryz.isAgg21
 z21:=Tryz.sizeOf21
 v21:=Tryz.zeroValue21
 t46:=Tryz.underlying233
 a46:=Tryz.isAgg233
 z46:=Tryz.sizeOf233
 v46:=Tryz.zeroValue233
 t105:=Tryz.underlying274
 a105:=Tryz.isAgg274
 z105:=Tryz.sizeOf274
 v105:=Tryz.zeroValue274
 t119:=Tryz.underlying269
 a119:=Tryz.isAgg269
 z119:=Tryz.sizeOf269
 t138:=Tryz.underlying271
 a138:=Tryz.isAgg271
 z138:=Tryz.sizeOf271
 v138:=Tryz.zeroValue271
 t139:=Tryz.underlying272
 a139:=Tryz.isAgg272
 z139:=Tryz.sizeOf272
 v139:=Tryz.zeroValue272
 g3:=by kernel_rfl
 g4:=by kernel_rfl}
def GD:Go.Shelf.Ren:=⟨fun|260=>192|n=>n,fun|9=>9|21=>21|3=>3|4=>4|5=>5|119=>269|0=>0|46=>233|139=>272|138=>271|n=>n,fun|3=>0|4=>1|n=>n⟩
theorem QS:Go.Proofs.Lays.n260 Tryz.prog GD:={
 mixed:=by kernel_rfl
 f260:=Tryz.func192.trans (congrArg some (by kernel_rfl))
 t0:=Tryz.underlying0
 a0:=Tryz.isAgg0
 z0:=Tryz.sizeOf0
 v0:=Tryz.zeroValue0
 t3:=Tryz.underlying3
 a3:=Tryz.isAgg3
 z3:=Tryz.sizeOf3
 v3:=Tryz.zeroValue3
 t4:=Tryz.underlying4
 a4:=Tryz.isAgg4
 z4:=Tryz.sizeOf4
 v4:=Tryz.zeroValue4
 t5:=Tryz.underlying5
 a5:=Tryz.isAgg5
 z5:=Tryz.sizeOf5
 v5:=Tryz.zeroValue5
 t9:=Tryz.underlying9
 a9:=Tryz.isAgg9
 z9:=Tryz.sizeOf9
 v9:=Tryz.zeroValue9
 t21:=Tryz.underlying21
 a21:=Tryz.isAgg21
 z21:=Tryz.sizeOf21
 v21:=Tryz.zeroValue21
 t46:=Tryz.underlying233
 a46:=Tryz.isAgg233
 z46:=Tryz.sizeOf233
 v46:=Tryz.zeroValue233
 t119:=Tryz.underlying269
 a119:=Tryz.isAgg269
 z119:=Tryz.sizeOf269
 t138:=Tryz.underlying271
 a138:=Tryz.isAgg271
 z138:=Tryz.sizeOf271
 v138:=Tryz.zeroValue271
 t139:=Tryz.underlying272
 a139:=Tryz.isAgg272
 z139:=Tryz.sizeOf272
 v139:=Tryz.zeroValue272
 g3:=by kernel_rfl
 g4:=by kernel_rfl}
end Go.Ev
namespace Go.Ev
open Go
inductive ag where
 |int (k:IntKind)
 |bool
 |str
 |ab (t:ag)
 |unit
 |pair (a b:ag)
 |ptr (t:ag)
 |fn (f:Nat) (t:ag)
 |err
 |arr (n:Nat) (t:ag)
 |map (k v:ag)
 |ck
 /-- An interface value that holds a value of the type n. -/
 |cy (n:Nat) (t:ag)
 /-- .. that, or else what r says. -/
 |alt (n:Nat) (t r:ag)
def ag.el:ag->Type
 |.int _=>Int
 |.bool=>Bool
 |.str=>List UInt8
 |.ab t=>List t.el
 |.unit=>Unit
 |.pair a b=>a.el×b.el
 |.ptr t=>t.el
 |.fn _ t=>t.el
 |.err=>Option (Option (Nat×Int))
 |.arr _ t=>List t.el
 |.map k v=>Option (List (k.el×v.el))
 |.ck=>Unit
 |.cy _ t=>t.el
 |.alt _ t r=>t.el⊕r.el
def ag.cells:ag->Nat
 |.int _=>1
 |.bool=>1
 |.str=>1
 |.ab _=>1
 |.unit=>0
 |.pair a b=>a.cells+b.cells
 |.ptr _=>1
 |.fn _ _=>1
 |.err=>1
 |.arr n t=>n*t.cells
 |.map _ _=>1
 |.ck=>1
 |.cy _ _=>1
 |.alt _ _ _=>1
def ag.mZ:ag->Bool
 |.unit=>true
 |.pair _ _=>true
 |_=>false
def ag.flat:ag->Bool
 |.int _=>true
 |.bool=>true
 |.str=>true
 |.ab _=>false
 |.unit=>true
 |.pair a b=>a.flat&&b.flat
 |.ptr _=>false
 |.fn _ _=>false
 |.err=>false
 |.arr _ t=>t.flat
 |.map _ _=>false
 |.ck=>false
 |.cy _ _=>false
 |.alt _ _ _=>false
def ag.agg:ag->Bool
 |.unit=>true
 |.pair _ _=>true
 |.arr _ _=>true
 |_=>false
theorem ag.Rd{t:ag}(h:t.mZ=true):t.agg=true:=by cases t<;>first|rfl|(simp[ag.mZ]at h)
def fS:IntKind->IntKind->Bool
 |.i8,.i8=>true
 |.i16,.i16=>true
 |.i32,.i32=>true
 |.i64,.i64=>true
 |.u8,.u8=>true
 |.u16,.u16=>true
 |.u32,.u32=>true
 |.u64,.u64=>true
 |_,_=>false
theorem kD{a b:IntKind}(h:fS a b=true):a=b:=by cases a<;>cases b<;>first|rfl|(simp[fS]at h)
def ag.beq:ag->ag->Bool
 |.int k,.int l=>fS k l
 |.bool,.bool=>true
 |.str,.str=>true
 |.ab a,.ab b=>a.beq b
 |.unit,.unit=>true
 |.pair a b,.pair c d=>a.beq c&&b.beq d
 |.ptr a,.ptr b=>a.beq b
 |.fn f a,.fn g b=>Nat.beq f g&&a.beq b
 |.err,.err=>true
 |.arr n a,.arr m b=>Nat.beq n m&&a.beq b
 |.map a b,.map c d=>a.beq c&&b.beq d
 |.ck,.ck=>true
 |.cy n a,.cy m b=>Nat.beq n m&&a.beq b
 |.alt n a b,.alt m c d=>Nat.beq n m&&(a.beq c&&b.beq d)
 |_,_=>false
theorem ag.eq_of_beq:∀{a b:ag},a.beq b=true->a=b:=by
 intro a
 induction a with
 |int k=>intro b h;cases b<;>simp only[ag.beq,Bool.false_eq_true]at h;rw[kD h]
 |bool=>intro b h;cases b<;>first|rfl|(simp only[ag.beq,Bool.false_eq_true]at h)
 |str=>intro b h;cases b<;>first|rfl|(simp only[ag.beq,Bool.false_eq_true]at h)
 |ab t o=>intro b h;cases b<;>simp only[ag.beq,Bool.false_eq_true]at h;rw[o h]
 |unit=>intro b h;cases b<;>first|rfl|(simp only[ag.beq,Bool.false_eq_true]at h)
 |pair x y q L=>
  intro b h
  cases b<;>simp only[ag.beq,Bool.false_eq_true,Bool.and_eq_true]at h
  rw[q h.1,L h.2]
 |ptr t o=>intro b h;cases b<;>simp only[ag.beq,Bool.false_eq_true]at h;rw[o h]
 |fn f t o=>intro b h;cases b<;>simp only[ag.beq,Bool.false_eq_true,Bool.and_eq_true]at h;rw[Nat.eq_of_beq_eq_true h.1,o h.2]
 |err=>intro b h;cases b<;>first|rfl|(simp only[ag.beq,Bool.false_eq_true]at h)
 |ck=>intro b h;cases b<;>first|rfl|(simp only[ag.beq,Bool.false_eq_true]at h)
 |cy n t o=>intro b h;cases b<;>simp only[ag.beq,Bool.false_eq_true,Bool.and_eq_true]at h;rw[Nat.eq_of_beq_eq_true h.1,o h.2]
 |alt n x y q L=>
  intro b h
  cases b<;>simp only[ag.beq,Bool.false_eq_true,Bool.and_eq_true]at h
  rw[Nat.eq_of_beq_eq_true h.1,q h.2.1,L h.2.2]
 |arr n t o=>intro b h;cases b<;>simp only[ag.beq,Bool.false_eq_true,Bool.and_eq_true]at h;rw[Nat.eq_of_beq_eq_true h.1,o h.2]
 |map x y q L=>
  intro b h
  cases b<;>simp only[ag.beq,Bool.false_eq_true,Bool.and_eq_true]at h
  rw[q h.1,L h.2]
structure ak where
 t:ag
 x:t.el
def ak.as(v:ak)(u:ag):Option u.el:=
 match h:v.t.beq u with
 |true=>some (ag.eq_of_beq h▸v.x)
 |false=>none
def bL{α:Type}(f:List Value->α->Prop):List Value->List α->Prop
 |cs,[]=>cs=[]
 |cs,x::xs=>∃o c2,cs=o++c2/\f o x/\bL f c2 xs
def kq{α:Type}(agg:Bool)(f:List Value->α->Prop)(v:Value)(x:α):Prop:=
 if agg then∃o:List Value,v=.agg o.toArray/\f o x else f [v] x
def dG{α o:Type}(q:Value->α->Prop)(L:Value->o->Prop):List MapEntry->List (α×o)->Prop
 |[],[]=>True
 |e::es,p::ps=>q e.key p.1/\L e.val p.2/\dG q L es ps
 |_,_=>False
def J0{α o:Type}(w:World)(M:Nat->Prop)(O:Value->α->Prop)(R:Value->o->Prop)(q:List Value):Option (List (α×o))->Prop
 |none=>q=[.map none]
 |some ps=>∃(b:Nat) (es:Array MapEntry) (L:Nat),q=[.map (some b)]/\w.heap[b]? =some (.map es L)/\¬M b/\(∀e∈es.toList,e.born<L)/\(es.toList.map (·.born)).Nodup/\dG O R es.toList ps
def pq{α q:Type}(n:Nat)(f:Value->α->Prop)(g:List Value->q->Prop)(o:List Value):α⊕q->Prop
 |.inl x=>∃v:Value,o=[.iface n v]/\f v x
 |.inr y=>o.length=1/\g o y
def aK(w:World)(M:Nat->Prop):(t:ag)->List Value->t.el->Prop
 |.int k,o,n=>o=[.int k n]
 |.bool,o,b=>o=[.bool b]
 |.str,o,s=>o=[.string ⟨s.toArray⟩]/\s.length<=maxLen
 |.ab t,o,xs=>∃(a:Option Addr) (cap:Nat) (cells:List Value),o=[.slice a xs.length cap]/\xs.length<=cap/\cap<=maxLen/\(a=none->cap=0)/\
   bL (aK w M t) cells xs/\∀j u,cells[j]? =some u->∃b,a=some b/\w.cell? (b.add j)=some u/\¬M b.block
 |.unit,o,_=>o=[]
 |.pair a b,o,x=>∃q c2,o=q++c2/\aK w M a q x.1/\aK w M b c2 x.2
 |.ptr t,o,x=>∃(a:Addr) (cells:List Value),o=[.pointer (some a)]/\aK w M t cells x/\∀j u,cells[j]? =some u->w.cell? (a.add j)=some u/\¬M a.block
 |.fn f t,o,x=>∃bs:List Value,o=[.func (.func f) #[] bs.toArray]/\aK w M t bs x
 |.err,o,b=>(b=none/\o=[.nilIface])\/(b=some none/\∃t v,o=[.iface t v])\/(∃t n,b=some (some (t,n))/\o=[.iface t (.int .i64 n)])
 |.arr n t,o,xs=>List.length (α:=t.el) xs=n/\bL (aK w M t) o xs
 |.map k v,o,x=>J0 w M (kq k.agg (aK w M k)) (kq v.agg (aK w M v)) o x
 |.ck,o,_=>∃v:Value,o=[v]/\v.oneCell'=true
 |.cy n t,o,x=>∃v:Value,o=[.iface n v]/\kq t.agg (aK w M t) v x
 |.alt n t r,o,x=>pq n (kq t.agg (aK w M t)) (aK w M r) o x
theorem cP{α:Type}{f g:List Value->α->Prop}(h:∀c x,f c x->g c x):∀{xs:List α} {cs:List Value},bL f cs xs->bL g cs xs
 |[],_,o=>o
 |_::_,_,⟨q,c2,e,L,O⟩=>⟨q,c2,e,h _ _ L,cP h O⟩
theorem qE{α:Type}{agg:Bool}{f g:List Value->α->Prop}(h:∀c x,f c x->g c x){v:Value}{x:α}(o:kq agg f v x):kq agg g v x:=by
 unfold kq at*
 split at o
 ·rename_i q;rw[if_pos q];obtain⟨L,e,O⟩:=o;exact⟨L,e,h _ _ O⟩
 ·rename_i q;rw[if_neg q];exact h _ _ o
theorem NA{α o:Type}{n:Nat}{f q:Value->α->Prop}{g L:List Value->o->Prop}(O:∀v x,f v x->q v x)(R:∀c y,g c y->L c y):∀{x:α⊕o} {cs:List Value},pq n f g cs x->pq n q L cs x
 |.inl _,_,⟨v,e,h⟩=>⟨v,e,O _ _ h⟩
 |.inr _,_,⟨e,h⟩=>⟨e,R _ _ h⟩
theorem I9{α o:Type}{n:Nat}{f:Value->α->Prop}{g:List Value->o->Prop}(L:∀c y,g c y->∀u∈c,u.oneCell'=true):∀{x:α⊕o} {cs:List Value},pq n f g cs x->cs.length=1/\∀u∈cs,u.oneCell'=true
 |.inl _,_,⟨v,e,_⟩=>by subst e;exact⟨rfl,fun u q=>by simp at q;subst q;rfl⟩
 |.inr _,_,⟨e,h⟩=>⟨e,L _ _ h⟩
theorem OO{α o:Type}{n:Nat}{f:Value->α->Prop}{g:List Value->o->Prop}:∀{x:α⊕o} {cs:List Value},pq n f g cs x->cs.length=1
 |.inl _,_,⟨v,e,_⟩=>by subst e;rfl
 |.inr _,_,⟨e,_⟩=>e
theorem ge{α o:Type}{q L:Value->α->Prop}{O R:Value->o->Prop}(U:∀v x,q v x->L v x)(V:∀v x,O v x->R v x):∀{es:List MapEntry} {ps:List (α×o)},dG q O es ps->dG L R es ps
 |[],[],h=>h
 |[],_::_,h=>h.elim
 |_::_,[],h=>h.elim
 |_::_,_::_,⟨W,Y,Z⟩=>⟨U _ _ W,V _ _ Y,ge U V Z⟩
theorem oP{α o:Type}{q:Value->α->Prop}{L:Value->o->Prop}:∀{es:List MapEntry} {ps:List (α×o)},dG q L es ps->es.length=ps.length
 |[],[],_=>rfl
 |[],_::_,h=>h.elim
 |_::_,[],h=>h.elim
 |_::_,_::_,⟨_,_,h⟩=>by simp[oP h]
theorem fG{w:World}{b:Nat}{aa:Obj}(h:w.heap[b]? =some aa):b<w.heap.size:=by
 rcases Nat.lt_or_ge b w.heap.size with o|o
 ·exact o
 ·rw[Array.getElem?_eq_none o]at h;cases h
theorem iC(a:Addr)(n:Nat):(a.add n).block=a.block:=by unfold Addr.add;split<;>rfl
theorem cq{w w':World}{M M':Nat->Prop}(V:∀b,b<w.heap.size->¬M b->w'.heap[b]? =w.heap[b]?)(W:∀b,b<w.heap.size->M' b->M b):
  ∀(t:ag) {cs:List Value} {x:t.el},aK w M t cs x->aK w' M' t cs x:=by
 intro t
 induction t with
 |int k=>exact fun h=>h
 |bool=>exact fun h=>h
 |str=>exact fun h=>h
 |unit=>exact fun h=>h
 |pair a b lb lc=>exact fun⟨ld,c2,e,o,q⟩=>⟨ld,c2,e,lb o,lc q⟩
 |ab t L=>
  rintro cs x ⟨a,cap,cells,e,o,q,Y,le,lf⟩
  refine⟨a,cap,cells,e,o,q,Y,cP (fun _ _=>L) le,fun j u Z=>?_⟩
  obtain⟨b,la,R,U⟩:=lf j u Z
  have O:b.block<w.heap.size:=by
   have:=World.block_lt_of_cell? w (b.add j) R
   rwa [iC]at this
  refine⟨b,la,?_,fun h=>U (W _ O h)⟩
  rw[World.cell?_of_block (w:=w) (by rw[iC];exact V _ O U)]
  exact R
 |ptr t L=>
  rintro cs x ⟨a,cells,e,o,q⟩
  refine⟨a,cells,e,L o,fun j u Z=>?_⟩
  obtain⟨R,U⟩:=q j u Z
  have O:a.block<w.heap.size:=by
   have:=World.block_lt_of_cell? w (a.add j) R
   rwa [iC]at this
  refine⟨?_,fun h=>U (W _ O h)⟩
  rw[World.cell?_of_block (w:=w) (by rw[iC];exact V _ O U)]
  exact R
 |fn f t L=>exact fun⟨bs,e,h⟩=>⟨bs,e,L h⟩
 |err=>exact fun h=>h
 |ck=>exact fun h=>h
 |cy n t L=>exact fun⟨v,e,h⟩=>⟨v,e,qE (fun _ _=>L) h⟩
 |alt n t r lg lh=>exact fun h=>NA (fun _ _=>qE fun _ _=>lg) (fun _ _=>lh) h
 |arr n t L=>exact fun⟨o,q⟩=>⟨o,cP (fun _ _=>L) q⟩
 |map k v li lj=>
  intro cs x h
  match x,h with
  |none,h=>exact h
  |some ps,⟨b,es,lk,e,o,q,la,ll,Y⟩=>
   have O:=fG o
   exact⟨b,es,lk,e,by rw[V b O q];exact o,fun R=>q (W b O R),la,ll,ge (fun _ _=>qE fun _ _=>li) (fun _ _=>qE fun _ _=>lj) Y⟩
theorem hO{w:World}{M:Nat->Prop}{t:ag}(q:∀(o:List Value) (x:t.el),aK w M t o x->o.length=t.cells):
  ∀(xs:List t.el) (o:List Value),bL (aK w M t) o xs->o.length=xs.length*t.cells
 |[],_,h=>by cases h;simp
 |x::xs,o,⟨R,c2,e,L,O⟩=>by
  subst e
  rw[List.length_append,q _ _ L,hO q xs c2 O,List.length_cons,Nat.succ_mul,Nat.add_comm]
theorem b6{w:World}{M:Nat->Prop}:∀(t:ag) {cs:List Value} {x:t.el},aK w M t cs x->cs.length=t.cells:=by
 intro t
 induction t with
 |int k=>intro cs x h;cases h;rfl
 |bool=>intro cs x h;cases h;rfl
 |str=>intro cs x h;cases h.1;rfl
 |unit=>intro cs x h;cases h;rfl
 |pair a b O R=>rintro cs x ⟨U,c2,e,q,L⟩;subst e;rw[List.length_append,O q,R L];rfl
 |ab t o=>rintro cs x ⟨a,cap,cells,e,_⟩;subst e;rfl
 |ptr t o=>rintro cs x ⟨a,cells,e,_⟩;subst e;rfl
 |fn f t o=>rintro cs x ⟨bs,e,_⟩;subst e;rfl
 |err=>rintro cs x (⟨_,e⟩|⟨_,t,v,e⟩|⟨t,n,_,e⟩)<;>subst e<;>rfl
 |ck=>rintro cs x ⟨v,e,_⟩;subst e;rfl
 |cy n t o=>rintro cs x ⟨v,e,_⟩;subst e;rfl
 |alt n t r V W=>intro cs x h;exact OO h
 |arr n t o=>
  rintro cs x ⟨q,L⟩
  have:=hO (fun cs x=>o) x cs L
  rw[this,q]
  rfl
 |map k v Y Z=>
  intro cs x h
  match x,h with
  |none,h=>have h:cs=[.map none]:=h;rw[h];rfl
  |some ps,⟨b,es,la,e,_⟩=>rw[e];rfl
theorem HR{α:Type}{f:List Value->α->Prop}(h:∀c x,f c x->∀u∈c,u.oneCell'=true):∀{xs:List α} {cs:List Value},bL f cs xs->∀u∈cs,u.oneCell'=true
 |[],_,o,u,hu=>by cases o;cases hu
 |_::_,_,⟨O,c2,e,q,L⟩,u,hu=>by
  subst e
  rcases List.mem_append.1 hu with hu|hu
  ·exact h _ _ q u hu
  ·exact HR h L u hu
theorem gh{w:World}{M:Nat->Prop}:∀(t:ag) {cs:List Value} {x:t.el},aK w M t cs x->∀u∈cs,u.oneCell'=true:=by
 intro t
 induction t with
 |int k=>intro cs x h u hu;cases h;simp at hu;subst hu;rfl
 |bool=>intro cs x h u hu;cases h;simp at hu;subst hu;rfl
 |str=>intro cs x h u hu;cases h.1;simp at hu;subst hu;rfl
 |unit=>intro cs x h u hu;cases h;simp at hu
 |pair a b O R=>
  rintro cs x ⟨W,c2,e,L,q⟩ u hu
  subst e
  rcases List.mem_append.1 hu with hu|hu
  ·exact O L u hu
  ·exact R q u hu
 |ab t o=>rintro cs x ⟨a,cap,cells,e,_⟩ u hu;subst e;simp at hu;subst hu;rfl
 |ptr t o=>rintro cs x ⟨a,cells,e,_⟩ u hu;subst e;simp at hu;subst hu;rfl
 |fn f t o=>rintro cs x ⟨bs,e,_⟩ u hu;subst e;simp at hu;subst hu;rfl
 |err=>rintro cs x (⟨_,e⟩|⟨_,t,v,e⟩|⟨t,n,_,e⟩) u hu<;>subst e<;>simp at hu<;>subst hu<;>rfl
 |ck=>rintro cs x ⟨v,e,h⟩ u hu;subst e;simp at hu;subst hu;exact h
 |cy n t o=>rintro cs x ⟨v,e,h⟩ u hu;subst e;simp at hu;subst hu;rfl
 |alt n t r Y U=>intro cs x h u hu;exact(I9 (fun c y V u hu=>U V u hu) h).2 u hu
 |arr n t o=>rintro cs x ⟨L,q⟩ u hu;exact HR (fun _ _=>o) q u hu
 |map k v Z la=>
  intro cs x h u hu
  match x,h with
  |none,h=>have h:cs=[.map none]:=h;rw[h]at hu;simp at hu;subst hu;rfl
  |some ps,⟨b,es,lb,e,_⟩=>rw[e]at hu;simp at hu;subst hu;rfl
theorem Fc{w w':World}{M M':Nat->Prop}:∀(t:ag) {cs:List Value} {x:t.el},t.flat=true->aK w M t cs x->aK w' M' t cs x:=by
 intro t
 induction t with
 |int k=>exact fun _ h=>h
 |bool=>exact fun _ h=>h
 |str=>exact fun _ h=>h
 |unit=>exact fun _ h=>h
 |pair a b R U=>intro cs x o ⟨V,c2,e,L,O⟩;simp only[ag.flat,Bool.and_eq_true]at o;exact⟨V,c2,e,R o.1 L,U o.2 O⟩
 |ab t q=>intro cs x o;simp[ag.flat]at o
 |ptr t q=>intro cs x o;simp[ag.flat]at o
 |fn f t q=>intro cs x o;simp[ag.flat]at o
 |err=>intro cs x o;simp[ag.flat]at o
 |ck=>intro cs x o;simp[ag.flat]at o
 |cy n t q=>intro cs x o;simp[ag.flat]at o
 |alt n t r W Y=>intro cs x o;simp[ag.flat]at o
 |arr n t q=>intro cs x o ⟨L,O⟩;exact⟨L,cP (fun _ _=>q o) O⟩
 |map k v Z la=>intro cs x o;simp[ag.flat]at o
def bc(w:World)(M:Nat->Prop)(v:Value)(t:ag)(x:t.el):Prop:=
 if t.agg then∃o:List Value,v=.agg o.toArray/\aK w M t o x else aK w M t [v] x
theorem iI{w:World}{M:Nat->Prop}{v:Value}{t:ag}{x:t.el}(h:bc w M v t x):aK w M t v.cells.toList x:=by
 unfold bc at h
 split at h
 ·obtain⟨V,rfl,h⟩:=h;simpa[Value.cells]using h
 ·rename_i L
  cases t with
  |int k=>cases h;rfl
  |bool=>cases h;rfl
  |str=>obtain⟨h,R⟩:=h;cases h;exact⟨rfl,R⟩
  |ab t=>obtain⟨a,cap,cells,e,r⟩:=h;cases e;exact⟨a,cap,cells,rfl,r⟩
  |ptr t=>obtain⟨a,cells,e,r⟩:=h;cases e;exact⟨a,cells,rfl,r⟩
  |fn f t=>obtain⟨bs,e,r⟩:=h;cases e;exact⟨bs,rfl,r⟩
  |err=>rcases h with ⟨o,e⟩|⟨o,t,v,e⟩|⟨t,n,o,e⟩<;>cases e;exact .inl ⟨o,rfl⟩;exact .inr (.inl ⟨o,t,v,rfl⟩);exact .inr (.inr ⟨t,n,o,rfl⟩)
  |ck=>
   obtain⟨u,e,q⟩:=h
   cases e
   have O:v.cells.toList=[v]:=by cases v<;>first|rfl|(simp[Value.oneCell']at q)
   exact⟨v,O,q⟩
  |cy n t=>obtain⟨u,e,r⟩:=h;cases e;exact⟨u,rfl,r⟩
  |alt n t r=>
   have q:=gh (.alt n t r) h v List.mem_cons_self
   have O:v.cells.toList=[v]:=by cases v<;>first|rfl|(simp[Value.oneCell']at q)
   rw[O]
   exact h
  |map k v'=>
   match x,h with
   |none,h=>have h:[v]=[.map none]:=h;cases h;rfl
   |some ps,⟨b,es,U,e,r⟩=>cases e;exact⟨b,es,U,rfl,r⟩
  |arr n t=>simp[ag.agg]at L
  |unit=>simp[ag.agg]at L
  |pair a b=>simp[ag.agg]at L
theorem cT{w w':World}{M M':Nat->Prop}(q:∀b,b<w.heap.size->¬M b->w'.heap[b]? =w.heap[b]?)(L:∀b,b<w.heap.size->M' b->M b)
  {v:Value}{t:ag}{x:t.el}(h:bc w M v t x):bc w' M' v t x:=by
 unfold bc at*
 split at h
 ·rename_i o;rw[if_pos o];obtain⟨O,rfl,h⟩:=h;exact⟨O,rfl,cq q L t h⟩
 ·rename_i o;rw[if_neg o];exact cq q L t h
theorem ug{w w':World}{M M':Nat->Prop}{v:Value}{t:ag}{x:t.el}(q:t.flat=true)(h:bc w M v t x):bc w' M' v t x:=by
 unfold bc at*
 split at h
 ·rename_i o;rw[if_pos o];obtain⟨L,rfl,h⟩:=h;exact⟨L,rfl,Fc t q h⟩
 ·rename_i o;rw[if_neg o];exact Fc t q h
def ct:(t:ag)->t.el->Nat->(u:ag)->Option u.el
 |.pair a b,x,off,u=>
  match Nat.beq off 0,ak.as ⟨.pair a b,x⟩ u with
  |true,some y=>some y
  |_,_=>bif Nat.blt off a.cells then ct a x.1 off u else ct b x.2 (off-a.cells) u
 |.arr n t,x,off,u=>
  match Nat.beq off 0,ak.as ⟨.arr n t,x⟩ u with
  |true,some y=>some y
  |_,_=>bif Nat.beq t.cells 0 then none else(match(show List t.el from x)[off/t.cells]? with
   |some z=>ct t z (off %t.cells) u
   |none=>none)
 |t,x,off,u=>bif Nat.beq off 0 then ak.as ⟨t,x⟩ u else none
def cb:(t:ag)->t.el->Nat->ak->Option t.el
 |.pair a b,x,off,v=>
  match Nat.beq off 0,v.as (.pair a b)with
  |true,some y=>some y
  |_,_=>bif Nat.blt off a.cells then(match cb a x.1 off v with|some y=>some (y,x.2)|none=>none)
   else(match cb b x.2 (off-a.cells) v with|some y=>some (x.1,y)|none=>none)
 |.arr n t,x,off,v=>
  match Nat.beq off 0,v.as (.arr n t)with
  |true,some y=>some y
  |_,_=>bif Nat.beq t.cells 0 then none else(match(show List t.el from x)[off/t.cells]? with
   |some z=>(match cb t z (off %t.cells) v with|some o=>some (List.set (show List t.el from x) (off/t.cells) o)|none=>none)
   |none=>none)
 |t,_,off,v=>bif Nat.beq off 0 then v.as t else none
end Go.Ev
namespace Go.Ev
open Go
inductive bQ where
 |v (u:ak)
 |r (r:Nat)
 |a
def bQ.is(b:Nat):bQ->Bool
 |.r c=>Nat.beq c b
 |_=>false
inductive j7 where
 |f (off:Nat) (u:ag)
 |x (j:Int) (o:Nat)
def fp:List j7->Nat
 |[]=>0
 |.f off _::p=>off+fp p
 |.x j o::p=>j.toNat*o+fp p
theorem qD:∀(p o:List j7),fp (p++o)=fp p+fp o
 |[],o=>by simp[fp]
 |.f off u::p,o=>by simp only[List.cons_append,fp,qD p o];omega
 |.x j q::p,o=>by simp only[List.cons_append,fp,qD p o];omega
inductive ao where
 |any
 |undef
 |val (t:ag) (x:t.el)
 |dq (l:List ak)
 |fr (l:List bQ)
 |ptr (b off:Nat)
 |eI (b:Nat)
 |vptr (t:ag) (x:t.el)
 |row (r:Nat)
 |dA (r:Nat) (i:Int) (off o:Nat)
 |clos (f:Nat) (bs:List Nat)
 |iter (b:Nat)
 |dm (b:Nat) (p:List j7)
 |osl (b:Nat)
 |ff (b:Nat) (i:Int)
 |sub (b:Nat) (i:Int)
 |bW (f b:Nat)
 |dy (b:Nat) (i:Int) (off o:Nat)
 |eH (b:Nat) (i j:Int) (off o:Nat)
 |aj (n:Int)
 |ep (l:List bQ)
structure cp where
 e:Nat
 t:ag
 xs:List t.el
inductive dW where
 |mp (k v:ag)
 |row (e:Nat) (t:ag)
def dW.el:dW->Type
 |.mp k v=>Option (List (k.el×v.el))
 |.row _ t=>List t.el
structure dH where
 u:ag
 off:Nat
 e:Nat
 t:ag
inductive bM where
 |cells (l:List ao) (e:Nat)
 |iter (s:List UInt8) (pos:Nat)
 |mp (k v:ag) (ps:List (k.el×v.el))
 |cj (k v:ag) (left last:List (k.el×v.el))
 |aP (t:ag) (x:t.el) (e:Nat)
 |raw (f:World->(Nat->Prop)->Nat->Prop)
 |aX (e:Nat) (k:dW) (xs:List (Option k.el))
 |bn (e:Nat) (k:dH) (xs:List k.u.el) (h:Option Int)
structure af where
 ab:List (Nat×ao)
 ad:List (Nat×bM)
 rw:List (Nat×cp)
def look{α:Type}:List (Nat×α)->Nat->Option α
 |[],_=>none
 |(k,v)::r,n=>bif Nat.beq k n then some v else look r n
def del{α:Type}:List (Nat×α)->Nat->List (Nat×α)
 |[],_=>[]
 |(k,v)::r,n=>bif Nat.beq k n then del r n else(k,v)::del r n
theorem aW{α:Type}{l:List (Nat×α)}{n:Nat}{v:α}(h:look l n=some v):(n,v)∈l:=by
 induction l with
 |nil=>simp[look]at h
 |cons p r q=>
  obtain⟨k,u⟩:=p
  unfold look at h
  cases o:Nat.beq k n with
  |true=>rw[o]at h;simp only[cond_true,Option.some.injEq]at h;subst h;rw[Nat.eq_of_beq_eq_true o];exact List.mem_cons_self
  |false=>rw[o]at h;exact List.mem_cons_of_mem _ (q h)
theorem cE{α:Type}{l:List (Nat×α)}{n k:Nat}{v:α}:(k,v)∈del l n↔(k,v)∈l/\k≠n:=by
 induction l with
 |nil=>simp[del]
 |cons p r R=>
  obtain⟨j,u⟩:=p
  unfold del
  cases L:Nat.beq j n with
  |true=>
   have O:=Nat.eq_of_beq_eq_true L
   simp only[cond_true,R,List.mem_cons,Prod.mk.injEq]
   constructor
   ·rintro⟨o,q⟩;exact⟨.inr o,q⟩
   ·rintro⟨⟨o,_⟩|o,q⟩
    ·exact absurd (o.trans O) q
    ·exact⟨o,q⟩
  |false=>
   have O:j≠n:=fun h=>by rw[h]at L;rw[Nat.beq_refl]at L;cases L
   simp only[cond_false,List.mem_cons,Prod.mk.injEq,R]
   constructor
   ·rintro(⟨o,q⟩|⟨o,q⟩)
    ·exact⟨.inl ⟨o,q⟩,o▸O⟩
    ·exact⟨.inr o,q⟩
   ·rintro⟨o|o,q⟩
    ·exact .inl o
    ·exact .inr ⟨o,q⟩
theorem jR{α:Type}(l:List (Nat×α))(n:Nat):(del l n).map (·.1)=(l.map (·.1)).filter (fun k=>!Nat.beq k n):=by
 induction l with
 |nil=>rfl
 |cons p r o=>
  obtain⟨j,u⟩:=p
  unfold del
  cases q:Nat.beq j n<;>simp[o,q]
def ao.refs(r:Nat):ao->Bool
 |.ptr b _=>Nat.beq b r
 |.eI b=>Nat.beq b r
 |.row b=>Nat.beq b r
 |.dA b _ _ _=>Nat.beq b r
 |.clos _ bs=>bs.any (Nat.beq · r)
 |.iter b=>Nat.beq b r
 |.dm b _=>Nat.beq b r
 |.osl b=>Nat.beq b r
 |.ff b _=>Nat.beq b r
 |.sub b _=>Nat.beq b r
 |.dy b _ _ _=>Nat.beq b r
 |.eH b _ _ _ _=>Nat.beq b r
 |.bW _ b=>Nat.beq b r
 |.ep l=>l.any (bQ.is r)
 |.fr l=>l.any (bQ.is r)
 |_=>false
def ao.cW(r:Nat)(s:ao):ao:=bif s.refs r then .any else s
def bM.map(f:ao->ao):bM->bM
 |.cells l e=>.cells (l.map f) e
 |.iter s p=>.iter s p
 |.mp k v ps=>.mp k v ps
 |.cj k v l a=>.cj k v l a
 |.aP t x e=>.aP t x e
 |.raw f=>.raw f
 |.aX e k xs=>.aX e k xs
 |.bn e k xs h=>.bn e k xs h
def af.cW(st:af)(r:Nat):af:=
 {ab:=st.ab.map fun p=>(p.1,p.2.cW r),ad:=(del st.ad r).map fun p=>(p.1,p.2.map (ao.cW r)),rw:=del st.rw r}
def af.put(st:af)(d:Nat)(v:ao):af:={st with ab:=(d,v)::del st.ab d}
def af.ids(st:af):List Nat:=st.ad.map (·.1)++st.rw.map (·.1)
def aP:Value->Option Nat
 |.pointer (some a)=>some a.block
 |.slice (some a) _ _=>some a.block
 |.map (some r)=>some r
 |_=>none
def own:Value->Nat->Prop
 |.tuple us,b=>∃u∈us.toList,aP u=some b
 |v,b=>aP v=some b
theorem fO{v:Value}{b:Nat}(h:aP v=some b):own v b:=by
 cases v<;>first|exact h|(simp[aP]at h)
def bytesOf(s:List UInt8):ByteArray:=⟨s.toArray⟩
structure bx where
 P:Program
 n:Nat
 w0:World
 A:Nat->Prop
 X:Nat->Prop
 m0:Nat->Value
def ar(cx:bx)(m:Nat->Value)(ids:List Nat)(b:Nat):Prop:=cx.A b\/∃i∈ids,own (m i) b
def dB(w:World)(M:Nat->Prop):List Value->List ak->Prop
 |[],[]=>True
 |v::vs,u::us=>bc w M v u.t u.x/\dB w M vs us
 |_,_=>False
def cM(w:World)(M:Nat->Prop)(m:Nat->Value):List Value->List bQ->Prop
 |[],[]=>True
 |v::vs,.v u::us=>bc w M v u.t u.x/\cM w M m vs us
 |v::vs,.r r::us=>v=m r/\cM w M m vs us
 |_::vs,.a::us=>cM w M m vs us
 |_,_=>False
def aN(w:World)(M:Nat->Prop)(m:Nat->Value)(v:Value):ao->Prop
 |.any=>True
 |.undef=>v=Go.undef
 |.val t x=>bc w M v t x
 |.dq l=>∃vs:List Value,v=.tuple vs.toArray/\dB w M vs l
 |.fr l=>∃vs:List Value,v=.tuple vs.toArray/\cM w M m vs l
 |.ptr b off=>∃g,m b=.pointer (some ⟨g,0,none⟩)/\v=.pointer (some ⟨g,off,none⟩)
 |.eI b=>v=.pointer none\/v=m b
 |.vptr t x=>∃a cells,v=.pointer (some a)/\aK w M t cells x/\∀j u,cells[j]? =some u->w.cell? (a.add j)=some u/\¬M a.block
 |.row r=>v=m r
 |.dA r i off o=>∃g n cap,m r=.slice (some ⟨g,0,none⟩) n cap/\v=.pointer (some ⟨g,i.toNat*o+off,none⟩)
 |.clos f bs=>v=.func (.func f) #[] (bs.map m).toArray
 |.iter b=>v=m b
 |.dm b p=>∃g,m b=.pointer (some ⟨g,0,none⟩)/\v=.pointer (some ⟨g,fp p,none⟩)
 |.osl b=>∃us,m b=.tuple (v::us).toArray
 |.ff b i=>∃g n cap us,m b=.tuple (.slice (some ⟨g,0,none⟩) n cap::us).toArray/\v=.pointer (some ⟨g,i.toNat,none⟩)
 |.sub b i=>∃r us,m b=.tuple (r::us).toArray/\us[i.toNat]? =some v
 |.bW f b=>v=.func (.func f) #[m b] #[]
 |.dy b i off o=>∃g n cap us,m b=.tuple (.slice (some ⟨g,0,none⟩) n cap::us).toArray/\v=.pointer (some ⟨g,i.toNat*o+off,none⟩)
 |.eH b i j off o=>∃r us g n cap,m b=.tuple (r::us).toArray/\us[i.toNat]? =some (.slice (some ⟨g,0,none⟩) n cap)/\v=.pointer (some ⟨g,j.toNat*o+off,none⟩)
 |.aj n=>∃a k cap,v=.slice a k cap/\(k:Int)=n
 |.ep l=>∃vs:List Value,v=.agg vs.toArray/\cM w M m vs l
def cg(w:World)(M:Nat->Prop)(m:Nat->Value):List Value->List ao->Prop
 |[],[]=>True
 |v::vs,u::us=>aN w M m v u/\cg w M m vs us
 |_,_=>False
def dI(w:World)(M:Nat->Prop)(t:ag)(v:Value)(x:t.el):Prop:=kq t.agg (aK w M t) v x
def eP(g:Nat):bM->Value
 |.cells _ _=>.pointer (some ⟨g,0,none⟩)
 |.iter _ _=>.pointer (some ⟨g,0,none⟩)
 |.mp _ _ _=>.map (some g)
 |.cj _ _ _ _=>.pointer (some ⟨g,0,none⟩)
 |.aP _ _ _=>.pointer (some ⟨g,0,none⟩)
 |.raw _=>.pointer (some ⟨g,0,none⟩)
 |.aX _ _ _=>.pointer (some ⟨g,0,none⟩)
 |.bn _ _ _ _=>.pointer (some ⟨g,0,none⟩)
def gO(v:Value)(g:Nat):bM->Prop
 |.aX _ _ _=>∃n cap us,v=.tuple (.slice (some ⟨g,0,none⟩) n cap::us).toArray
 |.bn _ _ _ _=>∃r us,v=.tuple (r::us).toArray
 |c=>v=eP g c
def bM.one:bM->Bool
 |.bn _ _ _ _=>false
 |_=>true
theorem jp{c:bM}{f:ao->ao}:(c.map f).one=c.one:=by cases c<;>rfl
theorem gg{v:Value}{g:Nat}{c:bM}(h:gO v g c)(o:c.one=true):own v g:=by
 cases c with
 |aX e k xs=>obtain⟨n,cap,us,rfl⟩:=h;exact⟨_,List.mem_cons_self,rfl⟩
 |bn e k xs q=>cases o
 |_=>cases h;rfl
theorem iF{v:Value}{g:Nat}{c:bM}{f:ao->ao}:gO v g (c.map f)↔gO v g c:=by cases c<;>exact Iff.rfl
def ji(w:World)(M:Nat->Prop)(u:Value):(k:dW)->k.el->Prop
 |.mp _ _,none=>u=.map none
 |.mp k v,some ps=>∃(r:Nat) (es:Array MapEntry) (o:Nat),u=.map (some r)/\w.heap[r]? =some (.map es o)/\(∀e∈es.toList,e.born<o)/\(es.toList.map (·.born)).Nodup/\dG (dI w M k) (dI w M v) es.toList ps
 |.row e t,xs=>∃cells,w.ownsRow 0 e t.cells u (List.length (α:=t.el) xs) cells/\bL (aK w M t) cells xs
def fV(w:World)(M:Nat->Prop)(k:dW):List (Option k.el)->List Value->List Value->Prop
 |[],[],[]=>True
 |none::xs,_::us,o::q=>o=undef/\fV w M k xs us q
 |some x::xs,u::us,o::q=>o=u/\ji w M u k x/\fV w M k xs us q
 |_,_,_=>False
def jn(w:World)(M:Nat->Prop)(k:dH)(L:Prop)(R:List Value)(v:Value)(x:k.u.el):Prop:=
 ∃o v1 O,R=o.set k.off v1/\o[k.off]? =some (.slice none 0 0)/\v1.oneCell'=true/\cb k.u x k.off ⟨.ab k.t,[]⟩=some O/\aK w M k.u o O/\(L->v=undef)/\
  (¬L->v=v1/\∃(q:List k.t.el) (cells:List Value),ct k.u x k.off (.ab k.t)=some q/\w.ownsRow 0 k.e k.t.cells v q.length cells/\bL (aK w M k.t) cells q)
def gA(h:Option Int)(n:Nat):Prop:=∃i,h=some i/\i.toNat=n
def eU(w:World)(M:Nat->Prop)(k:dH)(h:Option Int):Nat->List k.u.el->List Value->List Value->Prop
 |_,[],o,us=>o=[]/\us=[]
 |n,x::xs,o,us=>∃c d v vs,o=c++d/\c.length=k.u.cells/\us=v::vs/\jn w M k (gA h n) c v x/\eU w M k h (n+1) xs d vs
def gd(w:World)(M:Nat->Prop)(m:Nat->Value)(v:Value)(g:Nat):bM->Prop
 |.cells l e=>∃cells,w.heap[g]? =some (.cells cells e (0,0))/\cg w M m cells.toList l
 |.iter s p=>w.heap[g]? =some (.stringIter (bytesOf s) p)
 |.mp k v ps=>∃(es:Array MapEntry) (o:Nat),w.heap[g]? =some (.map es o)/\(∀e∈es.toList,e.born<o)/\(es.toList.map (·.born)).Nodup/\dG (dI w M k) (dI w M v) es.toList ps
 |.cj k v left last=>(w.heap[g]? =some (.mapIter none 0 #[] 0)/\left=[]/\last=[])\/∃(b:Nat) (es:Array MapEntry) (o:Nat) (seen:Array Nat),w.heap[g]? =some (.mapIter (some b) o seen o)/\w.heap[b]? =some (.map es o)/\¬M b/\
   (∀e∈es.toList,e.born<o)/\(es.toList.map (·.born)).Nodup/\dG (dI w M k) (dI w M v) (es.toList.filter fun e=>!seen.contains e.born) left/\
   (last=[]\/∃e p,last=[p]/\e∈es.toList/\seen.back?=some e.born/\dI w M k e.key p.1/\dI w M v e.val p.2)
 |.aP t x e=>∃cells,w.heap[g]? =some (.cells cells e (0,0))/\aK w M t cells.toList x
 |.raw f=>(∃aa,w.heap[g]? =some aa)/\∀(w':World) (M':Nat->Prop),(∀b,b<w.heap.size->¬M b->w'.heap[b]? =w.heap[b]?)->(∀b,b<w.heap.size->M' b->M b)->w'.heap[g]? =w.heap[g]? ->f w' M' g
 |.aX e k xs=>∃n cap us q,v=.tuple (.slice (some ⟨g,0,none⟩) n cap::q).toArray/\w.ownsRow 0 e 1 (.slice (some ⟨g,0,none⟩) n cap) xs.length us/\fV w M k xs us q/\(g::q.filterMap aP).Nodup
 |.bn e k xs h=>∃aj us cells,v=.tuple (aj::us).toArray/\w.ownsRow 0 e k.u.cells aj xs.length cells/\eU w M k h 0 xs cells us/\((aj::us).filterMap aP).Nodup
class bV where
 d:Prop
instance(priority:=low) Uy:bV:=⟨False⟩
variable [bV]
class ah(cx:bx) where
 D:List Deferred
instance(priority:=low) UC(cx:bx):ah cx:=⟨[]⟩
structure Frame(w0 w:World)(X:Nat->Prop):Prop where
 os:w.os=w0.os
 tape:w.tape=w0.tape
 output:w.output=w0.output
 size:w0.heap.size<=w.heap.size
 block:∀b,b<w0.heap.size->¬X b->w.heap[b]? =w0.heap[b]?
 drawn:bV.d->w0.drawn<=w.drawn
def dT:Nat:=10000000
structure an(cx:bx)(m:Nat->Value)(st:af)(T:Array Value)(w:World):Prop where
 size:T.size=cx.n
 frame:Frame cx.w0 w cx.X
 outer:∀b,cx.A b->b<cx.w0.heap.size/\¬cx.X b
 cv:∀i aM,(i,aM)∈st.ab->∃v,T[i]? =some v/\aN w (ar cx m st.ids) m v aM
 boxes:∀b c,(b,c)∈st.ad->∃g,gO (m b) g c/\(∀o,own (m b) o->cx.w0.heap.size<=o\/cx.X o)/\gd w (ar cx m st.ids) m (m b) g c
 rows:∀r c,(r,c)∈st.rw->∃cells,w.ownsRow 0 c.e c.t.cells (m r) c.xs.length cells/\(∀g,own (m r) g->cx.w0.heap.size<=g\/cx.X g)/\bL (aK w (ar cx m st.ids) c.t) cells c.xs
 apart:∀i j,i∈st.ids->j∈st.ids->i≠j->∀g,own (m i) g->¬own (m j) g
 keys:st.ids.Nodup
 fixed:∀b c,(b,c)∈st.ad->c.one=true->cx.n<=b->m b=cx.m0 b
 kept:∀r c,(r,c)∈st.rw->cx.n<=r->dT<=r->m r=cx.m0 r
def al(cx:bx)(st:af)(T:Array Value)(w:World):Prop:=∃m,an cx m st T w
def bt(m:Nat->Value)(r:Nat)(u:Value):Nat->Value:=fun i=>if i=r then u else m i
theorem b7(m:Nat->Value)(r:Nat)(u:Value):bt m r u r=u:=by simp[bt]
theorem cF(m:Nat->Value){r i:Nat}(u:Value)(h:i≠r):bt m r u i=m i:=by simp[bt,h]
theorem beq_false{a b:Nat}(h:Nat.beq a b=false):a≠b:=fun e=>by rw[e,Nat.beq_refl]at h;cases h
theorem oK{w w':World}{M M':Nat->Prop}(o:∀b,b<w.heap.size->¬M b->w'.heap[b]? =w.heap[b]?)(q:∀b,b<w.heap.size->M' b->M b):
  ∀{vs:List Value} {l:List ak},dB w M vs l->dB w' M' vs l
 |[],[],_=>trivial
 |[],_::_,h=>h.elim
 |_::_,[],h=>h.elim
 |_::_,_::_,⟨L,O⟩=>⟨cT o q L,oK o q O⟩
theorem pN{w w':World}{M M':Nat->Prop}{m:Nat->Value}(o:∀b,b<w.heap.size->¬M b->w'.heap[b]? =w.heap[b]?)(q:∀b,b<w.heap.size->M' b->M b):
  ∀{vs:List Value} {l:List bQ},cM w M m vs l->cM w' M' m vs l
 |[],[],_=>trivial
 |[],_::_,h=>h.elim
 |_::_,[],h=>h.elim
 |_::_,.v _::_,⟨L,O⟩=>⟨cT o q L,pN o q O⟩
 |_::_,.r _::_,⟨L,O⟩=>⟨L,pN o q O⟩
 |_::vs,.a::us,h=>pN (vs:=vs) (l:=us) o q h
theorem pD{w:World}{M:Nat->Prop}{m:Nat->Value}{r:Nat}{u:Value}:∀{vs:List Value} {l:List bQ},l.any (bQ.is r)=false->cM w M m vs l->cM w M (bt m r u) vs l
 |[],[],_,_=>trivial
 |[],_::_,_,h=>h.elim
 |_::_,[],_,h=>h.elim
 |_::_,.v _::_,o,⟨q,L⟩=>⟨q,pD (by rw[List.any_cons,Bool.or_eq_false_iff]at o;exact o.2) L⟩
 |_::vs,.a::us,o,h=>pD (vs:=vs) (l:=us) (by rw[List.any_cons,Bool.or_eq_false_iff]at o;exact o.2) h
 |_::_,.r b::_,o,⟨q,L⟩=>by
  rw[List.any_cons,Bool.or_eq_false_iff]at o
  exact⟨by rw[cF _ _ (beq_false o.1)];exact q,pD o.2 L⟩
theorem eN{w w':World}{M M':Nat->Prop}{m:Nat->Value}(o:∀b,b<w.heap.size->¬M b->w'.heap[b]? =w.heap[b]?)(q:∀b,b<w.heap.size->M' b->M b)
  {v:Value}{s:ao}(h:aN w M m v s):aN w' M' m v s:=by
 cases s with
 |any=>trivial
 |undef=>exact h
 |val t x=>exact cT o q h
 |dq l=>obtain⟨vs,e,h⟩:=h;exact⟨vs,e,oK o q h⟩
 |fr l=>obtain⟨vs,e,h⟩:=h;exact⟨vs,e,pN o q h⟩
 |ptr b off=>exact h
 |eI b=>exact h
 |vptr t x=>
  obtain⟨a,cells,e,V,W⟩:=h
  refine⟨a,cells,e,cq o q t V,fun j u Y=>?_⟩
  obtain⟨L,O⟩:=W j u Y
  have R:a.block<w.heap.size:=by
   have:=World.block_lt_of_cell? w (a.add j) L
   rwa [iC]at this
  refine⟨?_,fun h=>O (q _ R h)⟩
  rw[World.cell?_of_block (w:=w) (by rw[iC];exact o _ R O)]
  exact L
 |row r=>exact h
 |dA r i off U=>exact h
 |clos f bs=>exact h
 |iter b=>exact h
 |dm b p=>exact h
 |osl b=>exact h
 |ff b i=>exact h
 |sub b i=>exact h
 |bW f b=>exact h
 |dy b i off U=>exact h
 |eH b i j off U=>exact h
 |aj n=>exact h
 |ep l=>obtain⟨vs,e,h⟩:=h;exact⟨vs,e,pN o q h⟩
theorem sD{w:World}{M:Nat->Prop}{m:Nat->Value}{r:Nat}{u:Value}{v:Value}{s:ao}(o:s.refs r=false)(h:aN w M m v s):aN w M (bt m r u) v s:=by
 cases s with
 |any=>trivial
 |undef=>exact h
 |val t x=>exact h
 |dq l=>exact h
 |fr l=>obtain⟨vs,e,h⟩:=h;exact⟨vs,e,pD o h⟩
 |vptr t x=>exact h
 |ptr b off=>obtain⟨g,q,L⟩:=h;exact⟨g,by rw[cF _ _ (beq_false o)];exact q,L⟩
 |eI b=>show _\/v=_;rw[cF _ _ (beq_false o)];exact h
 |row b=>show v=_;rw[cF _ _ (beq_false o)];exact h
 |dA b i off U=>obtain⟨g,n,cap,q,L⟩:=h;exact⟨g,n,cap,by rw[cF _ _ (beq_false o)];exact q,L⟩
 |iter b=>show v=_;rw[cF _ _ (beq_false o)];exact h
 |dm b p=>obtain⟨g,q,L⟩:=h;exact⟨g,by rw[cF _ _ (beq_false o)];exact q,L⟩
 |osl b=>obtain⟨us,q⟩:=h;exact⟨us,by rw[cF _ _ (beq_false o)];exact q⟩
 |ff b i=>obtain⟨g,n,cap,us,q,L⟩:=h;exact⟨g,n,cap,us,by rw[cF _ _ (beq_false o)];exact q,L⟩
 |sub b i=>obtain⟨O,us,q,L⟩:=h;exact⟨O,us,by rw[cF _ _ (beq_false o)];exact q,L⟩
 |bW f b=>show v=_;rw[cF _ _ (beq_false o)];exact h
 |dy b i off U=>obtain⟨g,n,cap,us,q,L⟩:=h;exact⟨g,n,cap,us,by rw[cF _ _ (beq_false o)];exact q,L⟩
 |eH b i j off U=>obtain⟨O,us,g,n,cap,q,L⟩:=h;exact⟨O,us,g,n,cap,by rw[cF _ _ (beq_false o)];exact q,L⟩
 |aj n=>exact h
 |ep l=>obtain⟨vs,e,h⟩:=h;exact⟨vs,e,pD o h⟩
 |clos f bs=>
  have R:bs.map (bt m r u)=bs.map m:=by
   apply List.map_congr_left
   intro b R
   apply cF
   intro e
   have:=List.any_eq_false.1 o b R
   rw[e,Nat.beq_refl]at this
   exact this rfl
  show v=_
  rw[R]
  exact h
theorem uV{w:World}{M:Nat->Prop}{m:Nat->Value}(r:Nat)(u:Value){v:Value}{s:ao}(h:aN w M m v s):aN w M (bt m r u) v (s.cW r):=by
 unfold ao.cW
 cases o:s.refs r with
 |true=>trivial
 |false=>exact sD o h
theorem pg{w w':World}{M M':Nat->Prop}{m aA:Nat->Value}{f:ao->ao}(o:∀v s,aN w M m v s->aN w' M' aA v (f s)):
  ∀{vs:List Value} {l:List ao},cg w M m vs l->cg w' M' aA vs (l.map f)
 |[],[],_=>trivial
 |[],_::_,h=>h.elim
 |_::_,[],h=>h.elim
 |_::_,_::_,⟨q,L⟩=>⟨o _ _ q,pg o L⟩
theorem Fp{w w':World}{M M':Nat->Prop}{u:Value}(L:∀b,b<w.heap.size->¬M b->w'.heap[b]? =w.heap[b]?)(O:∀b,b<w.heap.size->M' b->M b)(U:∀b,aP u=some b->w'.heap[b]? =w.heap[b]?):
  ∀{k:dW} {x:k.el},ji w M u k x->ji w' M' u k x
 |.mp _ _,none,h=>h
 |.mp k v,some ps,⟨r,es,Y,V,q,R,o,Z⟩=>⟨r,es,Y,V,by rw[U r (by rw[V];rfl)];exact q,R,o,ge (fun _ _ h=>cT L O h) (fun _ _ h=>cT L O h) Z⟩
 |.row e t,xs,⟨cells,q,R⟩=>by
  refine⟨cells,⟨q.1,?_⟩,cP (fun _ _=>cq L O t) R⟩
  rcases q.2 with o|⟨g,cap,cur,W,la,o,rest⟩
  ·exact .inl o
  ·exact .inr ⟨g,cap,cur,W,la,by rw[U g (by rw[W];rfl)];exact o,rest⟩
theorem nh{w w':World}{M M':Nat->Prop}{k:dW}(O:∀b,b<w.heap.size->¬M b->w'.heap[b]? =w.heap[b]?)(R:∀b,b<w.heap.size->M' b->M b):
  ∀{xs:List (Option k.el)} {us o:List Value},(∀u∈o,∀b,aP u=some b->w'.heap[b]? =w.heap[b]?)->fV w M k xs us o->fV w' M' k xs us o
 |[],[],[],_,_=>trivial
 |none::xs,_::us,W::o,q,⟨L,U⟩=>⟨L,nh O R (fun u V=>q u (List.mem_cons_of_mem _ V)) U⟩
 |some x::xs,u::us,W::o,q,⟨L,U,Y⟩=>⟨L,Fp O R (L▸q W List.mem_cons_self) U,nh O R (fun u V=>q u (List.mem_cons_of_mem _ V)) Y⟩
theorem Qy{w:World}{M:Nat->Prop}{u:Value}:∀{k:dW} {x:k.el},ji w M u k x->∀b,aP u=some b->b<w.heap.size
 |.mp _ _,none,h,b,o=>by cases h;cases o
 |.mp k v,some ps,⟨r,es,U,O,q,_⟩,b,o=>by rw[O]at o;cases o;exact fG q
 |.row e t,xs,⟨cells,q,V⟩,b,o=>by
  rcases q.2 with ⟨L,_⟩|⟨g,cap,cur,R,W,L,rest⟩
  ·rw[L]at o;cases o
  ·rw[R]at o;cases o;exact fG L
theorem zb{w:World}{M:Nat->Prop}{k:dW}:∀{xs:List (Option k.el)} {us q:List Value},fV w M k xs us q->∀u∈q,∀b,aP u=some b->b<w.heap.size
 |[],[],[],_,u,hu,_,_=>by cases hu
 |none::xs,_::us,R::q,⟨L,O⟩,u,hu,b,o=>by
  rcases List.mem_cons.1 hu with rfl|hu
  ·rw[L]at o;cases o
  ·exact zb O u hu b o
 |some x::xs,V::us,R::q,⟨L,O,U⟩,u,hu,b,o=>by
  rcases List.mem_cons.1 hu with rfl|hu
  ·rw[L]at o;exact Qy O b o
  ·exact zb U u hu b o
theorem nP{w w':World}{e q n:Nat}{v:Value}{cells:List Value}(h:w.ownsRow 0 e q v n cells)(O:∀b,aP v=some b->w'.heap[b]? =w.heap[b]?):w'.ownsRow 0 e q v n cells:=by
 refine⟨h.1,?_⟩
 rcases h.2 with o|⟨g,cap,cur,L,R,o,rest⟩
 ·exact .inl o
 ·exact .inr ⟨g,cap,cur,L,R,by rw[O g (by rw[L];rfl)];exact o,rest⟩
theorem tK{w w':World}{M M':Nat->Prop}{k:dH}{out o:Prop}{cs:List Value}{v:Value}{x:k.u.el}(q:∀b,b<w.heap.size->¬M b->w'.heap[b]? =w.heap[b]?)(L:∀b,b<w.heap.size->M' b->M b)(O:out↔o)(R:∀b,aP v=some b->w'.heap[b]? =w.heap[b]?)
  (h:jn w M k out cs v x):jn w' M' k o cs v x:=by
 obtain⟨U,v1,V,W,Y,Z,la,lb,lc,ld⟩:=h
 refine⟨U,v1,V,W,Y,Z,la,cq q L k.u lb,fun h=>lc (O.2 h),fun h=>?_⟩
 obtain⟨le,lf,cells,lg,lh,li⟩:=ld fun lj=>h (O.1 lj)
 exact⟨le,lf,cells,lg,nP lh R,cP (fun _ _=>cq q L k.t) li⟩
theorem oN{w w':World}{M M':Nat->Prop}{k:dH}{h h':Option Int}(o:∀b,b<w.heap.size->¬M b->w'.heap[b]? =w.heap[b]?)(q:∀b,b<w.heap.size->M' b->M b):
  ∀{xs:List k.u.el} {n:Nat} {cs us:List Value},(∀m,n<=m->(gA h m↔gA h' m))->(∀u∈us,∀b,aP u=some b->w'.heap[b]? =w.heap[b]?)->eU w M k h n xs cs us->eU w' M' k h' n xs cs us
 |[],_,_,_,_,_,R=>R
 |x::xs,n,cs,us,L,O,⟨c,d,v,vs,U,V,W,Y,Z⟩=>by
  subst W
  exact⟨c,d,v,vs,U,V,rfl,tK o q (L n (Nat.le_refl n)) (O v List.mem_cons_self) Y,oN o q (fun m lb=>L m (by omega)) (fun u la=>O u (List.mem_cons_of_mem _ la)) Z⟩
theorem J5{w:World}{M:Nat->Prop}{k:dH}{out:Prop}{cs:List Value}{v:Value}{x:k.u.el}(h:jn w M k out cs v x){b:Nat}(o:aP v=some b):b<w.heap.size:=by
 obtain⟨W,v1,Y,_,_,_,_,_,O,R⟩:=h
 by_cases L:out
 ·rw[O L]at o;cases o
 ·obtain⟨_,Z,cells,_,U,_⟩:=R L
  rcases U.2 with ⟨q,_⟩|⟨g,cap,cur,V,_,q,_⟩
  ·rw[q]at o;cases o
  ·rw[V]at o;cases o;exact fG q
theorem Ht{w:World}{M:Nat->Prop}{k:dH}{h:Option Int}:∀{xs:List k.u.el} {n:Nat} {cs us:List Value},eU w M k h n xs cs us->∀u∈us,∀b,aP u=some b->b<w.heap.size
 |[],_,_,_,q,u,hu,_,_=>by rw[q.2]at hu;cases hu
 |x::xs,n,cs,us,⟨c,d,v,vs,_,_,L,O,R⟩,u,hu,b,o=>by
  subst L
  rcases List.mem_cons.1 hu with rfl|hu
  ·exact J5 O o
  ·exact Ht R u hu b o
theorem cR{r:Value}{us:List Value}{b:Nat}:own (.tuple (r::us).toArray) b↔aP r=some b\/∃u∈us,aP u=some b:=by
 show(∃u∈r::us,aP u=some b)↔_
 simp
theorem ii{w w':World}{M M':Nat->Prop}{m aA:Nat->Value}{v0:Value}{g:Nat}{f:ao->ao}(R:∀b,b<w.heap.size->¬M b->w'.heap[b]? =w.heap[b]?)(U:∀b,b<w.heap.size->M' b->M b){c:bM}(lj:c.one=true->own v0 g)(Z:∀b,own v0 b->w'.heap[b]? =w.heap[b]?)(lk:∀v s,aN w M m v s->aN w' M' aA v (f s)):
  gd w M m v0 g c->gd w' M' aA v0 g (c.map f):=by
 have q:c.one=true->w'.heap[g]? =w.heap[g]? :=fun o=>Z g (lj o)
 intro W
 exact match c,q,W with
 |.cells _ _,q,⟨cells,o,L⟩=>⟨cells,by rw[q rfl];exact o,pg lk L⟩
 |.iter _ _,q,h=>by show w'.heap[g]? =_;rw[q rfl];exact h
 |.aP t x e,q,⟨cells,o,L⟩=>⟨cells,by rw[q rfl];exact o,cq R U t L⟩
 |.raw f,q,⟨⟨aa,ll⟩,h⟩=>⟨⟨aa,by rw[q rfl];exact ll⟩,fun lm ln lc a2 a3=>h lm ln
   (fun b O la=>by
    have e:=R b O la
    have ld:b<w'.heap.size:=by
     rcases Nat.lt_or_ge b w'.heap.size with o|o
     ·exact o
     ·rw[Array.getElem?_eq_none o,Array.getElem?_eq_getElem O]at e;cases e
    rw[lc b ld (fun W=>la (U b O W)),e])
   (fun b O W=>by
    refine Classical.byContradiction fun la=>?_
    have e:=R b O la
    have ld:b<w'.heap.size:=by
     rcases Nat.lt_or_ge b w'.heap.size with o|o
     ·exact o
     ·rw[Array.getElem?_eq_none o,Array.getElem?_eq_getElem O]at e;cases e
    exact la (U b O (a2 b ld W)))
   (by rw[a3,q rfl])⟩
 |.mp k v ps,q,⟨es,le,o,L,V,Y⟩=>⟨es,le,by rw[q rfl];exact o,L,V,ge (fun _ _ h=>cT R U h) (fun _ _ h=>cT R U h) Y⟩
 |.cj k v l a,q,.inl ⟨o,L⟩=>.inl ⟨by rw[q rfl];exact o,L⟩
 |.cj k v l a,q,.inr ⟨b,es,le,seen,o,L,V,Y,lb,lo,lp⟩=>
  have lg:=fG L
  .inr ⟨b,es,le,seen,by rw[q rfl];exact o,by rw[R b lg V];exact L,fun W=>V (U b lg W),Y,lb,ge (fun _ _ h=>cT R U h) (fun _ _ h=>cT R U h) lo,
   lp.imp id fun⟨e,p,lc,a2,a3,a4,a5⟩=>⟨e,p,lc,a2,a3,cT R U a4,cT R U a5⟩⟩
 |.aX e k xs,q,⟨n,cap,us,lq,o,L,V,Y⟩=>by
  refine⟨n,cap,us,lq,o,⟨L.1,?_⟩,nh R U (fun u lf b O=>Z b (by rw[o];exact cR.2 (.inr ⟨u,lf,O⟩))) V,Y⟩
  rcases L.2 with lb|⟨lh,lr,cur,li,ls,lb,rest⟩
  ·exact .inl lb
  ·exact .inr ⟨lh,lr,cur,li,ls,by rw[Z lh (by rw[o];exact cR.2 (.inl (by rw[li];rfl)))];exact lb,rest⟩
 |.bn e k xs h,_,⟨aj,us,cells,o,L,V,Y⟩=>by
  refine⟨aj,us,cells,o,nP L fun b O=>Z b (by rw[o];exact cR.2 (.inl O)),oN R U (fun _ _=>Iff.rfl) (fun u lf b O=>Z b (by rw[o];exact cR.2 (.inr ⟨u,lf,O⟩))) V,Y⟩
theorem Fj{w:World}{M:Nat->Prop}{m:Nat->Value}{v0:Value}{g:Nat}{c:bM}(L:gO v0 g c)(h:gd w M m v0 g c):∀b,own v0 b->b<w.heap.size:=by
 have key:(∃aa,w.heap[g]? =some aa)->v0=eP g c->∀b,own v0 b->b<w.heap.size:=by
  rintro⟨aa,la⟩ e b o
  rw[e]at o
  have q:own (eP g c) b->b=g:=by cases c<;>(intro Z;exact(Option.some.inj Z).symm)
  rw[q o]
  exact(Array.getElem?_eq_some_iff.1 la).1
 cases c with
 |cells l e=>obtain⟨cells,q,_⟩:=h;exact key ⟨_,q⟩ L
 |iter s p=>exact key ⟨_,h⟩ L
 |aP t x e=>obtain⟨cells,q,_⟩:=h;exact key ⟨_,q⟩ L
 |raw f=>exact key h.1 L
 |mp k v ps=>obtain⟨es,lb,q,_⟩:=h;exact key ⟨_,q⟩ L
 |cj k v l a=>
  rcases h with ⟨q,_⟩|⟨b,es,lb,seen,q,_⟩
  ·exact key ⟨_,q⟩ L
  ·exact key ⟨_,q⟩ L
 |bn e k xs Z=>
  obtain⟨aj,us,cells,rfl,O,R,_⟩:=h
  intro b o
  rcases cR.1 o with o|⟨u,U,o⟩
  ·rcases O.2 with ⟨V,_⟩|⟨g,cap,cur,W,_,V,_⟩
   ·rw[V]at o;cases o
   ·rw[W]at o;cases o;exact fG V
  ·exact Ht R u U b o
 |aX e k xs=>
  obtain⟨n,cap,us,lc,rfl,O,R,_⟩:=h
  intro b o
  rcases cR.1 o with o|⟨u,U,o⟩
  ·rcases O.2 with ⟨Y,_⟩|⟨ld,le,cur,W,lf,Y,rest⟩
   ·cases Y
   ·cases W;cases o;exact fG Y
  ·exact zb R u U b o
theorem C0{w:World}{e L n:Nat}{v:Value}{cells:List Value}(h:w.ownsRow 0 e L v n cells){g:Nat}(o:own v g):aP v=some g:=by
 rcases h.2 with ⟨q,_⟩|⟨O,cap,cur,q,_⟩<;>rw[q]at o⊢<;>exact o
theorem bM.map_id(c:bM):c.map id=c:=by cases c<;>simp[bM.map]
theorem wD{w w':World}{M M':Nat->Prop}{m:Nat->Value}{v0:Value}{g:Nat}{c:bM}(L:c.one=true->own v0 g)(O:∀b,own v0 b->w'.heap[b]? =w.heap[b]?)(o:∀b,b<w.heap.size->¬M b->w'.heap[b]? =w.heap[b]?)(q:∀b,b<w.heap.size->M' b->M b)
  (h:gd w M m v0 g c):gd w' M' m v0 g c:=by
 have:=ii (f:=id) o q L O (fun v s R=>eN (m:=m) o q R) h
 rwa [bM.map_id]at this
end Go.Ev
namespace Go.Ev
open Go Go.RowKit
variable [bV]
variable {cx:bx} {m:Nat->Value} {st:af} {T:Array Value} {w w':World}
variable [ah cx]
theorem Frame.refl(w:World)(X:Nat->Prop):Frame w w X:=⟨rfl,rfl,rfl,Nat.le_refl _,fun _ _ _=>rfl,fun _=>Nat.le_refl _⟩
structure Same(w w':World):Prop where
 os:w'.os=w.os
 tape:w'.tape=w.tape
 output:w'.output=w.output
 size:w.heap.size<=w'.heap.size
 drawn:bV.d->w.drawn<=w'.drawn
structure Ext(w w':World):Prop extends Same w w' where
 block:∀b,b<w.heap.size->w'.heap[b]? =w.heap[b]?
theorem Ext.refl(w:World):Ext w w:={os:=rfl,tape:=rfl,output:=rfl,size:=Nat.le_refl _,drawn:=fun _=>Nat.le_refl _,block:=fun _ _=>rfl}
theorem Ext.Av{w w':World}(h:Below w.heap.size w w')(aj:bV.d->w.drawn<=w'.drawn):Ext w w':={os:=h.os,tape:=h.tape,output:=h.output,size:=h.size,drawn:=aj,block:=h.block}
theorem Ext.below{w w':World}(h:Ext w w'):Below w.heap.size w w':=⟨h.os,h.tape,h.output,h.size,h.block⟩
theorem Ext.trans{a b c:World}(h:Ext a b)(k:Ext b c):Ext a c:=Ext.Av (h.below.trans (k.below.mono h.size)) (fun d=>Nat.le_trans (h.drawn d) (k.drawn d))
theorem Ext.drew{w w':World}(h:Ext w w'):Ext w w'.drew:=Ext.Av h.below.drew (fun d=>Nat.le_succ_of_le (h.drawn d))
theorem Frame.step(h:Frame cx.w0 w cx.X)(o:Same w w')(O:∀b,b<cx.w0.heap.size->¬cx.X b->w'.heap[b]? =w.heap[b]?):Frame cx.w0 w' cx.X:=
 ⟨o.os.trans h.os,o.tape.trans h.tape,o.output.trans h.output,Nat.le_trans h.size o.size,fun b q L=>(O b q L).trans (h.block b q L),fun d=>Nat.le_trans (h.drawn d) (o.drawn d)⟩
theorem an.put(h:an cx m st T w){d:Nat}(aj:d<cx.n){v:Value}{s:ao}(q:aN w (ar cx m st.ids) m v s):an cx m (st.put d s) (T.setIfInBounds d v) w:=
 {h with
  size:=by rw[Array.size_setIfInBounds];exact h.size
  cv:=fun i aM o=>by
   rcases List.mem_cons.1 o with o|o
   ·cases o
    exact⟨v,by rw[Array.getElem?_setIfInBounds_self_of_lt (by rw[h.size];exact aj)],q⟩
   ·obtain⟨o,L⟩:=cE.1 o
    obtain⟨v',O,R⟩:=h.cv i aM o
    exact⟨v',by rw[Array.getElem?_setIfInBounds_ne (fun e=>L e.symm)];exact O,R⟩}
theorem an.lt(h:an cx m st T w){i g:Nat}(q:i∈st.ids)(o:own (m i) g):g<w.heap.size/\(cx.w0.heap.size<=g\/cx.X g):=by
 rcases List.mem_append.1 q with q|q
 ·obtain⟨⟨b,c⟩,L,rfl⟩:=List.mem_map.1 q
  obtain⟨V,O,R,Y⟩:=h.boxes b c L
  exact⟨Fj O Y g o,R g o⟩
 ·obtain⟨⟨r,c⟩,L,rfl⟩:=List.mem_map.1 q
  obtain⟨cells,O,R,_⟩:=h.rows r c L
  refine⟨?_,R g o⟩
  rcases O.2 with ⟨U,_⟩|⟨V,cap,cur,U,_,W,_⟩
  ·dsimp only at o;rw[U]at o;cases o
  ·dsimp only at o
   rw[U]at o
   cases o
   rcases Nat.lt_or_ge V w.heap.size with h|h
   ·exact h
   ·rw[Array.getElem?_eq_none h]at W;cases W
theorem an.xE(h:an cx m st T w){b:Nat}(o:ar cx m st.ids b):b<w.heap.size:=by
 rcases o with o|⟨i,q,L⟩
 ·exact Nat.lt_of_lt_of_le (h.outer b o).1 h.frame.size
 ·exact(h.lt q L).1
theorem an.ext(h:an cx m st T w)(o:Ext w w'):an cx m st T w':=by
 have R:∀b,b<w.heap.size->¬ar cx m st.ids b->w'.heap[b]? =w.heap[b]? :=fun b q _=>o.block b q
 have U:∀b,b<w.heap.size->ar cx m st.ids b->ar cx m st.ids b:=fun _ _ h=>h
 exact{h with
  frame:=h.frame.step o.toSame fun b q _=>o.block b (Nat.lt_of_lt_of_le q h.frame.size)
  cv:=fun i aM Y=>let⟨v,Z,q⟩:=h.cv i aM Y;⟨v,Z,eN R U q⟩
  boxes:=fun b c q=>by
   obtain⟨g,L,V,O⟩:=h.boxes b c q
   exact⟨g,L,V,wD (gg L) (fun W la=>o.block W (Fj L O W la)) R U O⟩
  rows:=fun r c lb=>by
   obtain⟨cells,L,V,O⟩:=h.rows r c lb
   refine⟨cells,L.kept (row:=none) ⟨o.os,o.tape,o.output,o.size,fun k lc _=>o.block k lc⟩ ?_,V,cP (fun _ _=>cq R U c.t) O⟩
   cases ld:(m r).ownBlock
   ·exact .inl rfl
   ·exact .inr (by simp)}
theorem kr(st:af)(r:Nat):∀i,i∈(st.cW r).ids↔i∈st.ids/\i≠r:=by
 intro i
 simp only[af.ids,af.cW,List.map_map,List.mem_append,List.mem_map,Function.comp]
 constructor
 ·rintro(⟨⟨b,c⟩,o,rfl⟩|⟨⟨b,c⟩,o,rfl⟩)
  ·obtain⟨q,L⟩:=cE.1 o;exact⟨.inl ⟨_,q,rfl⟩,L⟩
  ·obtain⟨q,L⟩:=cE.1 o;exact⟨.inr ⟨_,q,rfl⟩,L⟩
 ·rintro⟨⟨⟨b,c⟩,o,rfl⟩|⟨⟨b,c⟩,o,rfl⟩,O⟩
  ·exact .inl ⟨(b,c),cE.2 ⟨o,O⟩,rfl⟩
  ·exact .inr ⟨(b,c),cE.2 ⟨o,O⟩,rfl⟩
theorem HX{st:af}(h:st.ids.Nodup)(r:Nat):(st.cW r).ids.Nodup:=by
 have e:(st.cW r).ids=st.ids.filter (fun k=>!Nat.beq k r):=by
  have o:((del st.ad r).map fun p=>(p.1,p.2.map (ao.cW r))).map (·.1)=(del st.ad r).map (·.1):=by simp[List.map_map,Function.comp_def]
  show((del st.ad r).map fun p=>(p.1,p.2.map (ao.cW r))).map (·.1)++(del st.rw r).map (·.1)=_
  rw[o,jR,jR,<-List.filter_append]
  rfl
 rw[e]
 exact h.filter _
structure cX(cx:bx)(m:Nat->Value)(st:af)(w:World)(r:Nat)(u:Value)(w':World):Prop where
 same:Same w w'
 block:∀b,b<w.heap.size->¬(r∈st.ids/\own (m r) b)->w'.heap[b]? =w.heap[b]?
 place:∀g,own u g->(r∈st.ids/\own (m r) g)\/(w.heap.size<=g/\g<w'.heap.size)
theorem cX.keeps{r:Nat}{u:Value}(o:cX cx m st w r u w'):∀b,b<w.heap.size->¬ar cx m st.ids b->w'.heap[b]? =w.heap[b]? :=
 fun b q L=>o.block b q fun⟨O,R⟩=>L (.inr ⟨r,O,R⟩)
theorem cX.mut{r:Nat}{u:Value}{ids:List Nat}(q:∀i,i∈ids->i=r\/i∈st.ids)(L:cX cx m st w r u w'):
  ∀b,b<w.heap.size->ar cx (bt m r u) ids b->ar cx m st.ids b:=by
 rintro b R (h|⟨i,O,o⟩)
 ·exact .inl h
 ·by_cases e:i=r
  ·subst e
   rw[b7]at o
   rcases L.place b o with h|h
   ·exact .inr ⟨i,h.1,h.2⟩
   ·omega
  ·rw[cF _ _ e]at o
   exact .inr ⟨i,(q i O).resolve_left e,o⟩
theorem an.Gq(h:an cx m st T w){r:Nat}{u:Value}(o:cX cx m st w r u w'):Frame cx.w0 w' cx.X:=
 h.frame.step o.same fun b L O=>o.block b (Nat.lt_of_lt_of_le L h.frame.size) fun⟨R,U⟩=>by
  rcases(h.lt R U).2 with q|q
  ·omega
  ·exact O q
theorem an.Ir(h:an cx m st T w){r:Nat}{u:Value}{ids:List Nat}(q:∀i,i∈ids->i=r\/i∈st.ids)(o:cX cx m st w r u w'):
  ∀i aM,(i,aM)∈(st.cW r).ab->∃v,T[i]? =some v/\aN w' (ar cx (bt m r u) ids) (bt m r u) v aM:=by
 intro i aM L
 obtain⟨⟨j,s⟩,O,R⟩:=List.mem_map.1 L
 cases R
 obtain⟨v,U,V⟩:=h.cv j s O
 exact⟨v,U,uV r u (eN o.keeps (o.mut q) V:aN w' (ar cx (bt m r u) ids) m v s)⟩
theorem an.Dg(h:an cx m st T w){r:Nat}{u:Value}{ids:List Nat}(R:∀i,i∈ids->i=r\/i∈st.ids)(q:cX cx m st w r u w'):
  ∀b c,(b,c)∈(st.cW r).ad->∃g,gO (bt m r u b) g c/\(∀O,own (bt m r u b) O->cx.w0.heap.size<=O\/cx.X O)/\gd w' (ar cx (bt m r u) ids) (bt m r u) (bt m r u b) g c:=by
 intro b c Z
 obtain⟨⟨j,s⟩,L,la⟩:=List.mem_map.1 Z
 cases la
 obtain⟨L,U⟩:=cE.1 L
 obtain⟨g,V,lb,lc⟩:=h.boxes j s L
 have W:j∈st.ids:=List.mem_append.2 (.inl (List.mem_map.2 ⟨_,L,rfl⟩))
 have ld:∀o,own (m j) o->w'.heap[o]? =w.heap[o]? :=fun o Y=>q.block o (h.lt W Y).1 fun⟨le,lf⟩=>h.apart r j le W (fun e=>U e.symm) o lf Y
 rw[cF _ _ U]
 exact⟨g,iF.2 V,lb,ii q.keeps (q.mut R) (gg V) ld (fun v s lg=>uV r u (eN q.keeps (q.mut R) lg:aN w' (ar cx (bt m r u) ids) m v s)) lc⟩
theorem an.Hx(h:an cx m st T w){r:Nat}{u:Value}{ids:List Nat}(Y:∀i,i∈ids->i=r\/i∈st.ids)(o:cX cx m st w r u w'):
  ∀b c,(b,c)∈(st.cW r).rw->∃cells,w'.ownsRow 0 c.e c.t.cells (bt m r u b) c.xs.length cells/\(∀g,own (bt m r u b) g->cx.w0.heap.size<=g\/cx.X g)/\
   bL (aK w' (ar cx (bt m r u) ids) c.t) cells c.xs:=by
 intro b c Z
 obtain⟨L,O⟩:=cE.1 Z
 obtain⟨cells,R,la,lb⟩:=h.rows b c L
 have U:b∈st.ids:=List.mem_append.2 (.inr (List.mem_map.2 ⟨_,L,rfl⟩))
 rw[cF _ _ O]
 refine⟨cells,⟨R.1,?_⟩,la,cP (fun _ _=>cq o.keeps (o.mut Y) c.t) lb⟩
 rcases R.2 with q|⟨g,cap,cur,V,lc,q,rest⟩
 ·exact .inl q
 ·have W:own (m b) g:=by rw[V];exact fO rfl
  exact .inr ⟨g,cap,cur,V,lc,by rw[o.block g (h.lt U W).1 fun⟨ld,le⟩=>h.apart r b ld U (fun e=>O e.symm) g le W];exact q,rest⟩
theorem an.GR(h:an cx m st T w){r:Nat}{u:Value}{ids:List Nat}(R:∀i,i∈ids->i=r\/i∈st.ids)(Z:cX cx m st w r u w'):
  ∀i j,i∈ids->j∈ids->i≠j->∀g,own (bt m r u i) g->¬own (bt m r u j) g:=by
 intro i j lc la L g q o
 by_cases U:i=r
 ·subst U
  rw[b7]at q
  rw[cF _ _ (fun e=>L e.symm)]at o
  have lb:=(R j la).resolve_left (fun e=>L e.symm)
  rcases Z.place g q with ⟨O,V⟩|⟨O,_⟩
  ·exact h.apart i j O lb L g V o
  ·have:=(h.lt lb o).1;omega
 ·rw[cF _ _ U]at q
  have W:=(R i lc).resolve_left U
  by_cases Y:j=r
  ·subst Y
   rw[b7]at o
   rcases Z.place g o with ⟨O,V⟩|⟨O,_⟩
   ·exact h.apart i j W O L g q V
   ·have:=(h.lt W q).1;omega
  ·rw[cF _ _ Y]at o
   exact h.apart i j W ((R j la).resolve_left Y) L g q o
def af.cN(st:af)(r:Nat)(c:bM):af:={st.cW r with ad:=(r,c)::(st.cW r).ad}
def af.da(st:af)(r:Nat)(c:cp):af:={st.cW r with rw:=(r,c)::(st.cW r).rw}
theorem sx(st:af)(r:Nat)(c:bM):(st.cN r c).ids=r::(st.cW r).ids:=rfl
theorem EE(st:af)(r:Nat)(c:cp):∀i,i∈(st.da r c).ids↔i=r\/i∈(st.cW r).ids:=by
 intro i
 simp only[af.ids,af.da,List.map_cons,List.mem_append,List.mem_cons]
 constructor
 ·rintro(h|h|h)
  ·exact .inr (.inl h)
  ·exact .inl h
  ·exact .inr (.inr h)
 ·rintro(h|h|h)
  ·exact .inr (.inl h)
  ·exact .inl h
  ·exact .inr (.inr h)
theorem an.HL(h:an cx m st T w){r:Nat}{u:Value}{b:Nat}{c:bM}(o:(b,c)∈(st.cW r).ad)(q:c.one=true)(L:cx.n<=b):bt m r u b=cx.m0 b:=by
 obtain⟨⟨W,c'⟩,O,R⟩:=List.mem_map.1 o
 cases R
 obtain⟨U,V⟩:=cE.1 O
 rw[cF _ _ V]
 exact h.fixed _ _ U (jp.symm.trans q) L
theorem an.Fb(h:an cx m st T w){r:Nat}{u:Value}{b:Nat}{c:cp}(o:(b,c)∈(st.cW r).rw)(q:cx.n<=b)(L:dT<=b):bt m r u b=cx.m0 b:=by
 obtain⟨O,R⟩:=cE.1 o
 rw[cF _ _ R]
 exact h.kept _ _ O q L
theorem an.Qs(h:an cx m st T w){r:Nat}(lc:r<cx.n){g:Nat}{c:bM}{u:Value}(V:gO u g c)(L:cX cx m st w r u w')
  (W:∀R,own u R->cx.w0.heap.size<=R\/cx.X R)(Y:gd w' (ar cx (bt m r u) (st.cN r c).ids) (bt m r u) u g c):
  an cx (bt m r u) (st.cN r c) T w':=by
 have O:∀i,i∈(st.cN r c).ids->i=r\/i∈st.ids:=by
  intro i q
  rw[sx]at q
  rcases List.mem_cons.1 q with q|q
  ·exact .inl q
  ·exact .inr ((kr st r i).1 q).1
 refine{size:=h.size,frame:=h.Gq L,outer:=h.outer,cv:=h.Ir O L,boxes:=?_,rows:=h.Hx O L,apart:=h.GR O L,keys:=?_,fixed:=?_,kept:=fun b c' o U Z=>h.Fb o U Z}
 ·intro b c' o
  rcases List.mem_cons.1 o with o|o
  ·cases o
   rw[b7]
   exact⟨g,V,W,Y⟩
  ·exact h.Dg O L b c' o
 ·rw[sx]
  exact List.nodup_cons.2 ⟨fun la=>((kr st r r).1 la).2 rfl,HX h.keys r⟩
 ·intro b c' o lb U
  rcases List.mem_cons.1 o with o|o
  ·cases o;omega
  ·exact h.HL o lb U
def bM.uO:bM->Bool
 |.aX _ _ _=>false
 |.bn _ _ _ _=>false
 |_=>true
theorem LX{c:bM}(o:c.uO=true)(g:Nat):gO (eP g c) g c:=by
 cases c<;>first|rfl|cases o
theorem jE{c:bM}{g b:Nat}(h:own (eP g c) b):b=g:=by
 cases c<;>exact(Option.some.inj h).symm
theorem an.cN(h:an cx m st T w){r:Nat}(o:r<cx.n){g:Nat}{c:bM}(q:cX cx m st w r (eP g c) w')
  (L:cx.w0.heap.size<=g\/cx.X g)(O:gd w' (ar cx (bt m r (eP g c)) (st.cN r c).ids) (bt m r (eP g c)) (eP g c) g c)(R:c.uO=true:=by rfl):
  an cx (bt m r (eP g c)) (st.cN r c) T w':=
 h.Qs o (LX R g) q (fun V U=>by rw[jE U];exact L) O
theorem an.box(h:an cx m st T w){b:Nat}{c:bM}(L:(b,c)∈st.ad)(o:c.uO=true:=by rfl):∃g,m b=eP g c/\(cx.w0.heap.size<=g\/cx.X g)/\gd w (ar cx m st.ids) m (eP g c) g c:=by
 obtain⟨g,q,O,R⟩:=h.boxes b c L
 have e:m b=eP g c:=by cases c<;>first|exact q|cases o
 exact⟨g,e,O g (gg q (by cases c<;>first|rfl|cases o)),by rw[<-e];exact R⟩
theorem an.da(h:an cx m st T w){r:Nat}{u:Value}(q:r<cx.n\/r<dT)(L:cX cx m st w r u w'){cells:List Value}{c:cp}
  (Y:∀g,own u g->cx.w0.heap.size<=g\/cx.X g)(V:w'.ownsRow 0 c.e c.t.cells u c.xs.length cells)
  (Z:bL (aK w' (ar cx (bt m r u) (st.da r c).ids) c.t) cells c.xs):
  an cx (bt m r u) (st.da r c) T w':=by
 have R:∀i,i∈(st.da r c).ids->i=r\/i∈st.ids:=by
  intro i O
  rcases(EE st r c i).1 O with O|O
  ·exact .inl O
  ·exact .inr ((kr st r i).1 O).1
 refine{size:=h.size,frame:=h.Gq L,outer:=h.outer,cv:=h.Ir R L,boxes:=h.Dg R L,rows:=?_,apart:=h.GR R L,keys:=?_,fixed:=fun b c' o la U=>h.HL o la U,kept:=fun b c' o U W=>?_}
 rotate_left 2
 ·rcases List.mem_cons.1 o with o|o
  ·cases o
   rcases q with q|q
   ·exact absurd U (Nat.not_le.2 q)
   ·exact absurd W (Nat.not_le.2 q)
  ·exact h.Fb o U W
 ·intro b c' o
  rcases List.mem_cons.1 o with o|o
  ·cases o
   rw[b7]
   exact⟨cells,V,Y,Z⟩
  ·exact h.Hx R L b c' o
 ·have lb:(st.da r c).ids.Perm (r::(st.cW r).ids):=by
   show((st.cW r).ad.map (·.1)++r::(st.cW r).rw.map (·.1)).Perm _
   exact List.perm_middle
  exact lb.nodup_iff.2 (List.nodup_cons.2 ⟨fun V=>((kr st r r).1 V).2 rfl,HX h.keys r⟩)
theorem cX.fresh(h:an cx m st T w)(r:Nat)(u:Value)(o:Ext w w')(q:∀g,own u g->w.heap.size<=g/\g<w'.heap.size):cX cx m st w r u w':=
 ⟨o.toSame,fun b L _=>o.block b L,fun g O=>.inr (q g O)⟩
end Go.Ev
namespace Go.Ev
open Go Go.RowKit
variable [bV]
variable {cx:bx} {m:Nat->Value} {st:af} {T:Array Value} {w w':World}
variable [ah cx]
theorem jB{ids q:List Nat}(h:∀i,i∈q->i∈ids){b:Nat}(o:ar cx m q b):ar cx m ids b:=by
 rcases o with o|⟨i,L,O⟩
 ·exact .inl o
 ·exact .inr ⟨i,h i L,O⟩
def af.cL(st:af)(r:Nat)(c:bM):af:={st with ad:=(r,c)::del st.ad r}
def af.setRow(st:af)(r:Nat)(c:cp):af:={st with rw:=(r,c)::del st.rw r}
theorem LK{l:List (Nat×bM)}{k:List Nat}(h:(l.map (·.1)++k).Nodup)(r:Nat):((del l r).map (·.1)++k).Nodup:=by
 rw[jR]
 exact h.sublist (List.Sublist.append List.filter_sublist (List.Sublist.refl _))
theorem iZ{r:Nat}{L:bM}(O:(r,L)∈st.ad)(R:st.ids.Nodup)(c:bM):(∀i,i∈(st.cL r c).ids↔i∈st.ids)/\(st.cL r c).ids.Nodup:=by
 have U:∀i,i∈(st.cL r c).ids↔i∈st.ids:=by
  intro i
  simp only[af.ids,af.cL,List.map_cons,List.mem_append,List.mem_cons,List.mem_map]
  constructor
  ·rintro((h|⟨⟨b,s⟩,o,rfl⟩)|h)
   ·exact .inl ⟨(r,L),O,h.symm⟩
   ·exact .inl ⟨_,(cE.1 o).1,rfl⟩
   ·exact .inr h
  ·rintro(⟨⟨b,s⟩,o,rfl⟩|h)
   ·by_cases e:b=r
    ·exact .inl (.inl e)
    ·exact .inl (.inr ⟨(b,s),cE.2 ⟨o,e⟩,rfl⟩)
   ·exact .inr h
 refine⟨U,?_⟩
 show(r::((del st.ad r).map (·.1)++st.rw.map (·.1))).Nodup
 refine List.nodup_cons.2 ⟨fun q=>?_,LK R r⟩
 rcases List.mem_append.1 q with q|q
 ·obtain⟨⟨b,s⟩,o,e⟩:=List.mem_map.1 q
  exact(cE.1 o).2 e
 ·exact(List.nodup_append.1 R).2.2 r (List.mem_map.2 ⟨_,O,rfl⟩) r q rfl
theorem k7{r:Nat}{L:cp}(O:(r,L)∈st.rw)(R:st.ids.Nodup)(c:cp):(∀i,i∈(st.setRow r c).ids↔i∈st.ids)/\(st.setRow r c).ids.Nodup:=by
 have U:∀i,i∈(st.setRow r c).ids↔i∈st.ids:=by
  intro i
  simp only[af.ids,af.setRow,List.map_cons,List.mem_append,List.mem_cons,List.mem_map]
  constructor
  ·rintro(h|h|⟨⟨b,s⟩,o,rfl⟩)
   ·exact .inl h
   ·exact .inr ⟨(r,L),O,h.symm⟩
   ·exact .inr ⟨_,(cE.1 o).1,rfl⟩
  ·rintro(h|⟨⟨b,s⟩,o,rfl⟩)
   ·exact .inl h
   ·by_cases e:b=r
    ·exact .inr (.inl e)
    ·exact .inr (.inr ⟨(b,s),cE.2 ⟨o,e⟩,rfl⟩)
 refine⟨U,?_⟩
 have o:(st.setRow r c).ids.Perm (r::(st.ad.map (·.1)++(del st.rw r).map (·.1))):=by
  show(st.ad.map (·.1)++r::(del st.rw r).map (·.1)).Perm _
  exact List.perm_middle
 refine o.nodup_iff.2 (List.nodup_cons.2 ⟨fun q=>?_,?_⟩)
 ·rcases List.mem_append.1 q with q|q
  ·exact(List.nodup_append.1 R).2.2 r q r (List.mem_map.2 ⟨_,O,rfl⟩) rfl
  ·obtain⟨⟨b,s⟩,o,e⟩:=List.mem_map.1 q
   exact(cE.1 o).2 e
 ·rw[jR]
  exact R.sublist (List.Sublist.append (List.Sublist.refl _) List.filter_sublist)
structure Touch(m:Nat->Value)(w:World)(r:Nat)(w':World):Prop where
 same:Same w w'
 block:∀b,b<w.heap.size->¬own (m r) b->w'.heap[b]? =w.heap[b]?
theorem an.fU{r:Nat}(o:r∈st.ids)(q:Touch m w r w'){ids:List Nat}(L:∀i,i∈ids↔i∈st.ids):
  (∀b,b<w.heap.size->¬ar cx m st.ids b->w'.heap[b]? =w.heap[b]?)/\(∀b,b<w.heap.size->ar cx m ids b->ar cx m st.ids b):=
 ⟨fun b O R=>q.block b O fun e=>R (.inr ⟨r,o,e⟩),fun _ _ h=>jB (fun i U=>(L i).1 U) h⟩
theorem an.B6(h:an cx m st T w){r:Nat}(L:r∈st.ids)(o:Touch m w r w'):Frame cx.w0 w' cx.X:=
 h.frame.step o.same fun b O R=>o.block b (Nat.lt_of_lt_of_le O h.frame.size) fun e=>by
  rcases(h.lt L e).2 with q|q
  ·omega
  ·exact R q
theorem an.Hs(h:an cx m st T w){r:Nat}(L:r∈st.ids)(O:Touch m w r w'){j g:Nat}(o:j∈st.ids)(R:j≠r)(q:own (m j) g):w'.heap[g]? =w.heap[g]? :=
 O.block g (h.lt o q).1 fun e=>h.apart r j L o (fun e=>R e.symm) g e q
theorem an.FN(h:an cx m st T w){r:Nat}(q:r∈st.ids)(L:Touch m w r w'){ids:List Nat}(U:∀i,i∈ids↔i∈st.ids){b:Nat}{c:bM}(O:(b,c)∈st.ad)(V:b≠r):
  ∃g,gO (m b) g c/\(∀o,own (m b) o->cx.w0.heap.size<=o\/cx.X o)/\gd w' (ar cx m ids) m (m b) g c:=by
 obtain⟨W,Y⟩:=an.fU (cx:=cx) q L U
 obtain⟨g,R,Z,la⟩:=h.boxes b c O
 have lb:b∈st.ids:=List.mem_append.2 (.inl (List.mem_map.2 ⟨_,O,rfl⟩))
 exact⟨g,R,Z,wD (gg R) (fun ld lc=>h.Hs q L lb V lc) W Y la⟩
theorem an.DM(h:an cx m st T w){r:Nat}(q:r∈st.ids)(L:Touch m w r w'){ids:List Nat}(V:∀i,i∈ids↔i∈st.ids){b:Nat}{c:cp}(O:(b,c)∈st.rw)(W:b≠r):
  ∃cells,w'.ownsRow 0 c.e c.t.cells (m b) c.xs.length cells/\(∀g,own (m b) g->cx.w0.heap.size<=g\/cx.X g)/\bL (aK w' (ar cx m ids) c.t) cells c.xs:=by
 obtain⟨Y,Z⟩:=an.fU (cx:=cx) q L V
 obtain⟨cells,R,la,lb⟩:=h.rows b c O
 have lc:b∈st.ids:=List.mem_append.2 (.inr (List.mem_map.2 ⟨_,O,rfl⟩))
 refine⟨cells,⟨R.1,?_⟩,la,cP (fun _ _=>cq Y Z c.t) lb⟩
 rcases R.2 with o|⟨g,cap,cur,U,ld,o,rest⟩
 ·exact .inl o
 ·have le:own (m b) g:=by rw[U];exact fO rfl
  exact .inr ⟨g,cap,cur,U,ld,by rw[h.Hs q L lc W le];exact o,rest⟩
theorem an.DG(h:an cx m st T w){r:Nat}(o:r∈st.ids)(q:Touch m w r w'){ids:List Nat}(L:∀i,i∈ids↔i∈st.ids):
  ∀i aM,(i,aM)∈st.ab->∃v,T[i]? =some v/\aN w' (ar cx m ids) m v aM:=fun i aM O=>by
 obtain⟨R,U⟩:=an.fU (cx:=cx) o q L
 obtain⟨v,V,W⟩:=h.cv i aM O
 exact⟨v,V,eN R U W⟩
theorem an.cL(h:an cx m st T w){r:Nat}{U c:bM}(q:(r,U)∈st.ad)(O:Touch m w r w'){g:Nat}
  (Z:gO (m r) g c)(la:gd w' (ar cx m (st.cL r c).ids) m (m r) g c)(V:c.one=true->U.one=true:=by first|exact id|exact fun _=>rfl):an cx m (st.cL r c) T w':=by
 obtain⟨L,lb⟩:=iZ q h.keys c
 have R:r∈st.ids:=List.mem_append.2 (.inl (List.mem_map.2 ⟨_,q,rfl⟩))
 refine{size:=h.size,frame:=h.B6 R O,outer:=h.outer,cv:=h.DG R O L,boxes:=?_,rows:=?_,apart:=?_,keys:=lb,fixed:=?_,kept:=h.kept}
 ·intro b c' o
  rcases List.mem_cons.1 o with o|o
  ·cases o
   obtain⟨lg,lh,lc,_⟩:=h.boxes r U q
   exact⟨g,Z,lc,la⟩
  ·obtain⟨V,ld⟩:=cE.1 o
   exact h.FN R O L V ld
 ·intro b c' o
  refine h.DM R O L o ?_
  rintro rfl
  exact(List.nodup_append.1 h.keys).2.2 b (List.mem_map.2 ⟨_,q,rfl⟩) b (List.mem_map.2 ⟨_,o,rfl⟩) rfl
 ·exact fun i j le lf=>h.apart i j ((L i).1 le) ((L j).1 lf)
 ·intro b c' o W Y
  rcases List.mem_cons.1 o with o|o
  ·cases o;exact h.fixed _ _ q (V W) Y
  ·exact h.fixed _ _ (cE.1 o).1 W Y
theorem an.Oh(h:an cx m st T w){r:Nat}{O c:cp}(R:(r,O)∈st.rw):∀b c',(b,c')∈(st.setRow r c).rw->cx.n<=b->dT<=b->m b=cx.m0 b:=by
 intro b c' o q L
 rcases List.mem_cons.1 o with o|o
 ·cases o;exact h.kept _ _ R q L
 ·exact h.kept _ _ (cE.1 o).1 q L
theorem an.setRow(h:an cx m st T w){r:Nat}{U c:cp}(q:(r,U)∈st.rw)(O:Touch m w r w'){cells:List Value}
  (V:w'.ownsRow 0 c.e c.t.cells (m r) c.xs.length cells)(W:bL (aK w' (ar cx m (st.setRow r c).ids) c.t) cells c.xs):an cx m (st.setRow r c) T w':=by
 obtain⟨L,Y⟩:=k7 q h.keys c
 have R:r∈st.ids:=List.mem_append.2 (.inr (List.mem_map.2 ⟨_,q,rfl⟩))
 refine{size:=h.size,frame:=h.B6 R O,outer:=h.outer,cv:=h.DG R O L,boxes:=?_,rows:=?_,apart:=?_,keys:=Y,fixed:=h.fixed,kept:=h.Oh q}
 ·intro b c' o
  refine h.FN R O L o ?_
  rintro rfl
  exact(List.nodup_append.1 h.keys).2.2 b (List.mem_map.2 ⟨_,o,rfl⟩) b (List.mem_map.2 ⟨_,q,rfl⟩) rfl
 ·intro b c' o
  rcases List.mem_cons.1 o with o|o
  ·cases o
   obtain⟨_,_,Z,_⟩:=h.rows r U q
   exact⟨cells,V,Z,W⟩
  ·obtain⟨la,lb⟩:=cE.1 o
   exact h.DM R O L la lb
 ·exact fun i j lc ld=>h.apart i j ((L i).1 lc) ((L j).1 ld)
theorem an.weaken(h:an cx m st T w){st':af}(lb:∀i aM,(i,aM)∈st'.ab->(i,aM)∈st.ab)(O:∀p,p∈st'.ad->p∈st.ad)(R:∀p,p∈st'.rw->p∈st.rw)(lc:st'.ids.Nodup):an cx m st' T w:=by
 have U:∀i,i∈st'.ids->i∈st.ids:=by
  intro i o
  rcases List.mem_append.1 o with o|o
  ·obtain⟨p,V,rfl⟩:=List.mem_map.1 o;exact List.mem_append.2 (.inl (List.mem_map.2 ⟨p,O p V,rfl⟩))
  ·obtain⟨p,V,rfl⟩:=List.mem_map.1 o;exact List.mem_append.2 (.inr (List.mem_map.2 ⟨p,R p V,rfl⟩))
 have W:∀b,b<w.heap.size->¬ar cx m st.ids b->w.heap[b]? =w.heap[b]? :=fun _ _ _=>rfl
 have Y:∀b,b<w.heap.size->ar cx m st'.ids b->ar cx m st.ids b:=fun _ _ h=>jB U h
 refine{size:=h.size,frame:=h.frame,outer:=h.outer,cv:=fun i aM o=>?_,boxes:=fun b c q=>?_,rows:=fun b c q=>?_,apart:=fun i j o ld=>h.apart i j (U i o) (U j ld),keys:=lc,fixed:=fun b c q=>h.fixed b c (O _ q),kept:=fun b c q=>h.kept b c (R _ q)}
 ·obtain⟨v,le,lf⟩:=h.cv i aM (lb i aM o)
  exact⟨v,le,eN W Y lf⟩
 ·obtain⟨g,L,Z,la⟩:=h.boxes b c (O _ q)
  exact⟨g,L,Z,wD (gg L) (fun _ _=>rfl) W Y la⟩
 ·obtain⟨cells,L,Z,la⟩:=h.rows b c (R _ q)
  exact⟨cells,L,Z,cP (fun _ _=>cq W Y c.t) la⟩
def kf{α:Type}(l:List (Nat×α)):List Nat->Option (List (Nat×α))
 |[]=>some []
 |k::o=>match look l k,kf l o with
  |some v,some r=>some ((k,v)::r)
  |_,_=>none
theorem mW{α:Type}{l:List (Nat×α)}:∀{q:List Nat} {r:List (Nat×α)},kf l q=some r->∀p,p∈r->p∈l
 |[],r,h,p,o=>by cases h;simp at o
 |k::q,r,h,p,o=>by
  unfold kf at h
  split at h
  ·rename_i v R L O
   cases h
   rcases List.mem_cons.1 o with rfl|o
   ·exact aW L
   ·exact mW O p o
  ·cases h
theorem xN{α:Type}{l:List (Nat×α)}:∀{o:List Nat} {r:List (Nat×α)},kf l o=some r->r.map (·.1)=o
 |[],r,h=>by cases h;rfl
 |k::o,r,h=>by
  unfold kf at h
  split at h
  ·rename_i v L O q
   cases h
   simp[xN q]
  ·cases h
def nodupB:List Nat->Bool
 |[]=>true
 |k::o=>!(o.any (Nat.beq k))&&nodupB o
theorem fP:∀{l:List Nat},nodupB l=true->l.Nodup
 |[],_=>List.nodup_nil
 |k::q,h=>by
  simp only[nodupB,Bool.and_eq_true,Bool.not_eq_true']at h
  refine List.nodup_cons.2 ⟨fun o=>?_,fP h.2⟩
  have:=List.any_eq_false.1 h.1 k o
  rw[Nat.beq_refl]at this
  exact this rfl
def af.norm(st:af)(o bs ap:List Nat):Option af:=
 match kf st.ab o,kf st.ad bs,kf st.rw ap,nodupB (bs++ap)with
 |some a,some b,some c,true=>some ⟨a,b,c⟩
 |_,_,_,_=>none
theorem an.norm(h:an cx m st T w){R bs ap:List Nat}{st':af}(o:st.norm R bs ap=some st'):an cx m st' T w:=by
 unfold af.norm at o
 split at o
 ·rename_i a b c U L O V
  cases o
  refine h.weaken (fun i aM W=>mW U _ W) (fun p q=>mW L p q) (fun p q=>mW O p q) ?_
  show(b.map (·.1)++c.map (·.1)).Nodup
  rw[xN L,xN O]
  exact fP V
 ·cases o
theorem an.qK(h:an cx m st T w){r:Nat}{c:cp}(O:(r,c)∈st.rw){M:Nat->Prop}(R:∀b,b<w.heap.size->M b->ar cx m st.ids b)(U:∀g,own (m r) g->¬M g):
  aK w M (.ab c.t) [m r] c.xs:=by
 obtain⟨cells,L,lb,V⟩:=h.rows r c O
 rcases L.2 with ⟨o,W⟩|⟨g,cap,cur,o,_,lc,Y,Z,ld,le⟩
 ·have la:c.xs=[]:=List.eq_nil_of_length_eq_zero W
  rw[la,o]
  refine⟨none,0,[],rfl,Nat.le_refl _,by decide,fun _=>rfl,rfl,fun j u q=>by simp at q⟩
 ·refine⟨some ⟨g,0,none⟩,cap,cells,by rw[o],Y,Z,(fun e=>by cases e),cP (fun _ _=>cq (fun _ _ _=>rfl) R c.t) V,fun j u q=>⟨_,rfl,?_,U g (by rw[o];rfl)⟩⟩
  exact L.cells (g:=g) (by rw[o];rfl) j u q
def bQ.freeze(r:Nat)(c:cp):bQ->bQ
 |.r b=>bif Nat.beq b r then .v ⟨.ab c.t,c.xs⟩else .r b
 |s=>s
def ao.freeze(r:Nat)(c:cp):ao->ao
 |.row b=>bif Nat.beq b r then .val (.ab c.t) c.xs else .row b
 |.fr l=>.fr (l.map (bQ.freeze r c))
 |.ep l=>.ep (l.map (bQ.freeze r c))
 |s=>s
theorem mX{w:World}{M:Nat->Prop}{m:Nat->Value}{r:Nat}{c:cp}(o:aK w M (.ab c.t) [m r] c.xs):∀{vs:List Value} {l:List bQ},cM w M m vs l->cM w M m vs (l.map (bQ.freeze r c))
 |[],[],_=>trivial
 |[],_::_,h=>h.elim
 |_::_,[],h=>h.elim
 |_::_,.v _::_,⟨q,L⟩=>⟨q,mX o L⟩
 |_::vs,.a::l,h=>mX (vs:=vs) (l:=l) o h
 |v::_,.r b::_,⟨q,L⟩=>by
  show cM _ _ _ _ ((bif Nat.beq b r then .v ⟨.ab c.t,c.xs⟩else .r b)::_)
  cases O:Nat.beq b r with
  |false=>exact⟨q,mX o L⟩
  |true=>
   have e:=Nat.eq_of_beq_eq_true O
   subst e
   subst q
   exact⟨o,mX o L⟩
def af.freeze(st:af)(r:Nat)(c:cp):af:=
 {ab:=st.ab.map fun p=>(p.1,p.2.freeze r c),ad:=st.ad.map fun p=>(p.1,p.2.map (ao.freeze r c)),rw:=del st.rw r}
theorem an.freeze(h:an cx m st T w){r:Nat}{c:cp}(la:(r,c)∈st.rw):an cx m (st.freeze r c) T w:=by
 have W:∀i,i∈(st.freeze r c).ids->i∈st.ids/\i≠r:=by
  intro i o
  have lm:∀c',(r,c')∉st.ad:=fun c' lb=>(List.nodup_append.1 h.keys).2.2 r (List.mem_map.2 ⟨_,lb,rfl⟩) r (List.mem_map.2 ⟨_,la,rfl⟩) rfl
  rcases List.mem_append.1 o with o|o
  ·obtain⟨⟨b,s⟩,q,rfl⟩:=List.mem_map.1 o
   obtain⟨⟨lu,ln⟩,lh,O⟩:=List.mem_map.1 q
   cases O
   exact⟨List.mem_append.2 (.inl (List.mem_map.2 ⟨_,lh,rfl⟩)),fun e=>lm ln (by simp only at e;rw[<-e];exact lh)⟩
  ·obtain⟨⟨b,s⟩,q,rfl⟩:=List.mem_map.1 o
   obtain⟨R,L⟩:=cE.1 q
   exact⟨List.mem_append.2 (.inr (List.mem_map.2 ⟨_,R,rfl⟩)),L⟩
 have li:r∈st.ids:=List.mem_append.2 (.inr (List.mem_map.2 ⟨_,la,rfl⟩))
 have lc:∀b,b<w.heap.size->¬ar cx m st.ids b->w.heap[b]? =w.heap[b]? :=fun _ _ _=>rfl
 have Y:∀b,b<w.heap.size->ar cx m (st.freeze r c).ids b->ar cx m st.ids b:=fun _ _ h=>jB (fun i o=>(W i o).1) h
 have ld:aK w (ar cx m (st.freeze r c).ids) (.ab c.t) [m r] c.xs:=by
  refine h.qK la Y fun g lj=>?_
  rintro(lo|⟨i,o,lp⟩)
  ·have R:=h.outer g lo
   rcases(h.lt li lj).2 with L|L
   ·omega
   ·exact R.2 L
  ·obtain⟨R,L⟩:=W i o
   exact h.apart i r R li L g lp lj
 have lk:∀v s,aN w (ar cx m st.ids) m v s->aN w (ar cx m (st.freeze r c).ids) m v (s.freeze r c):=by
  intro v s ll
  have Z:=eN (w':=w) (m:=m) lc Y ll
  cases s with
  |row b=>
   show aN _ _ _ _ (bif Nat.beq b r then .val (.ab c.t) c.xs else .row b)
   cases lb:Nat.beq b r with
   |false=>exact Z
   |true=>
    have e:=Nat.eq_of_beq_eq_true lb
    subst e
    have:v=m b:=ll
    subst this
    exact ld
  |fr l=>obtain⟨vs,e,le⟩:=Z;exact⟨vs,e,mX ld le⟩
  |ep l=>obtain⟨vs,e,le⟩:=Z;exact⟨vs,e,mX ld le⟩
  |_=>exact Z
 have lq:(st.freeze r c).ids.Sublist st.ids:=by
  have V:(st.freeze r c).ad.map (·.1)=st.ad.map (·.1):=by simp[af.freeze,List.map_map,Function.comp_def]
  show((st.freeze r c).ad.map (·.1)++(del st.rw r).map (·.1)).Sublist (st.ad.map (·.1)++st.rw.map (·.1))
  rw[V,jR]
  exact List.Sublist.append (List.Sublist.refl _) List.filter_sublist
 refine{size:=h.size,frame:=h.frame,outer:=h.outer,cv:=fun i aM o=>?_,boxes:=fun b c' U=>?_,rows:=fun b c' U=>?_,apart:=fun i j o lr=>h.apart i j (W i o).1 (W j lr).1,keys:=h.keys.sublist lq,fixed:=?_,kept:=fun b c' U=>h.kept b c' (cE.1 U).1}
 ·obtain⟨⟨j,s⟩,q,O⟩:=List.mem_map.1 o
  cases O
  obtain⟨v,R,L⟩:=h.cv j s q
  exact⟨v,R,lk v s L⟩
 ·obtain⟨⟨j,s⟩,q,O⟩:=List.mem_map.1 U
  cases O
  obtain⟨g,V,lf,lg⟩:=h.boxes j s q
  exact⟨g,iF.2 V,lf,ii lc Y (gg V) (fun _ _=>rfl) lk lg⟩
 ·obtain⟨q,_⟩:=cE.1 U
  obtain⟨cells,V,lf,lg⟩:=h.rows b c' q
  exact⟨cells,V,lf,cP (fun _ _=>cq lc Y c'.t) lg⟩
 ·intro b c' U ls lt
  obtain⟨⟨j,s⟩,q,O⟩:=List.mem_map.1 U
  cases O
  exact h.fixed _ _ q (jp.symm.trans ls) lt
/-! A map given up: it is only read from here on. -/
def bQ.mI(r:Nat)(k v:ag)(ps:List (k.el×v.el)):bQ->bQ
 |.v u=>.v u
 |.r b=>bif Nat.beq b r then .v ⟨.map k v,some ps⟩else .r b
 |.a=>.a
def ao.mI(r:Nat)(k v:ag)(ps:List (k.el×v.el)):ao->ao
 |.iter b=>bif Nat.beq b r then .val (.map k v) (some ps)else .iter b
 |.row b=>bif Nat.beq b r then .val (.map k v) (some ps)else .row b
 |.fr l=>.fr (l.map (bQ.mI r k v ps))
 |.ep l=>.ep (l.map (bQ.mI r k v ps))
 |s=>bif s.refs r then .any else s
def af.eT(st:af)(r:Nat)(k v:ag)(ps:List (k.el×v.el)):af:=
 {ab:=st.ab.map fun p=>(p.1,p.2.mI r k v ps),ad:=(del st.ad r).map fun p=>(p.1,p.2.map (ao.mI r k v ps)),rw:=st.rw}
theorem nq{w:World}{M:Nat->Prop}{m:Nat->Value}{r:Nat}{k v:ag}{ps:List (k.el×v.el)}(o:aK w M (.map k v) [m r] (some ps)):∀{vs:List Value} {l:List bQ},cM w M m vs l->cM w M m vs (l.map (bQ.mI r k v ps))
 |[],[],_=>trivial
 |[],_::_,h=>h.elim
 |_::_,[],h=>h.elim
 |_::_,.v u::_,⟨q,L⟩=>⟨q,nq o L⟩
 |_::vs,.a::l,h=>nq (vs:=vs) (l:=l) o h
 |x::_,.r b::_,⟨q,L⟩=>by
  show cM w M m _ ((bif Nat.beq b r then bQ.v ⟨.map k v,some ps⟩else bQ.r b)::_)
  cases O:Nat.beq b r with
  |false=>exact⟨q,nq o L⟩
  |true=>
   have e:=Nat.eq_of_beq_eq_true O
   subst e
   refine⟨?_,nq o L⟩
   rw[q]
   exact o
theorem an.eT(h:an cx m st T w){r:Nat}{k v:ag}{ps:List (k.el×v.el)}(lf:(r,bM.mp k v ps)∈st.ad):an cx m (st.eT r k v ps) T w:=by
 have lb:∀i,i∈(st.eT r k v ps).ids->i∈st.ids/\i≠r:=by
  intro i L
  have ln:∀c',(r,c')∉st.rw:=fun c' lg=>(List.nodup_append.1 h.keys).2.2 r (List.mem_map.2 ⟨_,lf,rfl⟩) r (List.mem_map.2 ⟨_,lg,rfl⟩) rfl
  rcases List.mem_append.1 L with L|L
  ·obtain⟨⟨b,s⟩,O,rfl⟩:=List.mem_map.1 L
   obtain⟨⟨lB,lC⟩,lo,U⟩:=List.mem_map.1 O
   cases U
   obtain⟨W,Y⟩:=cE.1 lo
   exact⟨List.mem_append.2 (.inl (List.mem_map.2 ⟨_,W,rfl⟩)),Y⟩
  ·obtain⟨⟨b,s⟩,O,rfl⟩:=List.mem_map.1 L
   exact⟨List.mem_append.2 (.inr (List.mem_map.2 ⟨_,O,rfl⟩)),fun e=>ln s (by simp only at e;rw[<-e];exact O)⟩
 have lk:r∈st.ids:=List.mem_append.2 (.inl (List.mem_map.2 ⟨_,lf,rfl⟩))
 have Z:∀b,b<w.heap.size->¬ar cx m st.ids b->w.heap[b]? =w.heap[b]? :=fun _ _ _=>rfl
 have la:∀b,b<w.heap.size->ar cx m (st.eT r k v ps).ids b->ar cx m st.ids b:=fun _ _ h=>jB (fun i L=>(lb i L).1) h
 obtain⟨g0,R,lc,es,lp,W,Y,lq,lr⟩:=h.box lf
 have ll:own (m r) g0:=by rw[R];exact fO rfl
 have ld:aK w (ar cx m (st.eT r k v ps).ids) (.map k v) [m r] (some ps):=by
  refine⟨g0,es,lp,by rw[R];rfl,W,?_,Y,lq,ge (fun _ _ h=>cT Z la h) (fun _ _ h=>cT Z la h) lr⟩
  rintro(ls|⟨i,L,lt⟩)
  ·have lh:=h.outer g0 ls
   rcases(h.lt lk ll).2 with le|le
   ·omega
   ·exact lh.2 le
  ·obtain⟨lh,le⟩:=lb i L
   exact h.apart i r lh lk le g0 lt ll
 have lm:∀v' s,aN w (ar cx m st.ids) m v' s->aN w (ar cx m (st.eT r k v ps).ids) m v' (s.mI r k v ps):=by
  intro v' s lu
  have o:=eN (w':=w) (m:=m) Z la lu
  have q:∀s:ao,aN w (ar cx m (st.eT r k v ps).ids) m v' s->aN w (ar cx m (st.eT r k v ps).ids) m v' (bif s.refs r then .any else s):=by
   intro s lv
   cases s.refs r with
   |true=>trivial
   |false=>exact lv
  have aj:∀b,v'=m b->aN w (ar cx m (st.eT r k v ps).ids) m v' (bif Nat.beq b r then .val (.map k v) (some ps)else .iter b)/\aN w (ar cx m (st.eT r k v ps).ids) m v' (bif Nat.beq b r then .val (.map k v) (some ps)else .row b):=by
   intro b e
   cases lg:Nat.beq b r with
   |false=>exact⟨e,e⟩
   |true=>
    have lw:=Nat.eq_of_beq_eq_true lg
    subst lw
    subst e
    exact⟨ld,ld⟩
  cases s with
  |iter b=>exact(aj b o).1
  |row b=>exact(aj b o).2
  |fr l=>obtain⟨vs,e,li⟩:=o;exact⟨vs,e,nq ld li⟩
  |ep l=>obtain⟨vs,e,li⟩:=o;exact⟨vs,e,nq ld li⟩
  |any=>exact q _ o
  |undef=>exact q _ o
  |val t x=>exact q _ o
  |dq l=>exact q _ o
  |ptr b aa=>exact q _ o
  |eI b=>exact q _ o
  |vptr t x=>exact q _ o
  |dA a b c d=>exact q _ o
  |clos f bs=>exact q _ o
  |dm b p=>exact q _ o
  |osl b=>exact q _ o
  |ff b i=>exact q _ o
  |sub b i=>exact q _ o
  |bW f b=>exact q _ o
  |dy b i aa s=>exact q _ o
  |eH b i j aa s=>exact q _ o
  |aj n=>exact q _ o
 have lx:(st.eT r k v ps).ids.Sublist st.ids:=by
  have R:(st.eT r k v ps).ad.map (·.1)=(del st.ad r).map (·.1):=by simp[af.eT,List.map_map,Function.comp_def]
  show((st.eT r k v ps).ad.map (·.1)++st.rw.map (·.1)).Sublist (st.ad.map (·.1)++st.rw.map (·.1))
  rw[R,jR]
  exact List.Sublist.append List.filter_sublist (List.Sublist.refl _)
 refine{size:=h.size,frame:=h.frame,outer:=h.outer,cv:=fun i aM L=>?_,boxes:=fun b c' V=>?_,rows:=fun b c' V=>?_,apart:=fun i j L ly=>h.apart i j (lb i L).1 (lb j ly).1,keys:=h.keys.sublist lx,fixed:=?_,kept:=fun b c' V=>h.kept b c' V}
 ·obtain⟨⟨j,s⟩,O,U⟩:=List.mem_map.1 L
  cases U
  obtain⟨v,W,Y⟩:=h.cv j s O
  exact⟨v,W,lm v s Y⟩
 ·obtain⟨⟨j,s⟩,O,U⟩:=List.mem_map.1 V
  cases U
  obtain⟨g,R,lc,lj⟩:=h.boxes j s (cE.1 O).1
  exact⟨g,iF.2 R,lc,ii Z la (gg R) (fun _ _=>rfl) lm lj⟩
 ·obtain⟨cells,R,lc,lj⟩:=h.rows b c' V
  exact⟨cells,R,lc,cP (fun _ _=>cq Z la c'.t) lj⟩
 ·intro b c' V lz lA
  obtain⟨⟨j,s⟩,O,U⟩:=List.mem_map.1 V
  cases U
  exact h.fixed _ _ (cE.1 O).1 (jp.symm.trans lz) lA
end Go.Ev
namespace Go.Ev
open Go Go.RowKit
variable [bV]
theorem ak.cO{v:ak}{u:ag}{x:u.el}(h:v.as u=some x):v=⟨u,x⟩:=by
 unfold ak.as at h
 split at h
 ·rename_i o
  obtain⟨t,y⟩:=v
  have e:t=u:=ag.eq_of_beq o
  subst e
  simp only[Option.some.injEq]at h
  subst h
  rfl
 ·cases h
def fieldsOf(f:TypeId->Option ag):Nat->List Field->Option ag
 |_,[]=>some .unit
 |off,o::q=>
  bif Nat.beq o.offset off then
   match f o.type with
   |some a=>match fieldsOf f (off+a.cells) q with
    |some b=>some (.pair a b)
    |none=>none
   |none=>none
  else none
def cH(P:Program):Nat->TypeId->Option ag
 |0,_=>none
 |d+1,t=>
  match P.info? t,P.underlying t with
  |some i,some (.int k)=>bif Nat.beq i.size 1 then some (.int k)else none
  |some i,some .bool=>bif Nat.beq i.size 1 then some .bool else none
  |some i,some .string=>bif Nat.beq i.size 1 then some .str else none
  |some i,some (.slice e)=>bif Nat.beq i.size 1 then(match cH P d e with|some u=>some (.ab u)|none=>none)else none
  |some i,some (.struct o)=>match fieldsOf (cH P d) 0 o.toList with
   |some u=>bif Nat.beq i.size u.cells then some u else none
   |none=>none
  |some i,some (.interface _)=>bif Nat.beq i.size 1 then some .err else none
  |some i,some (.array n e)=>match cH P d e with
   |some u=>bif Nat.beq i.size (n*u.cells)then some (.arr n u)else none
   |none=>none
  |some i,some (.map k e)=>bif Nat.beq i.size 1 then(match cH P d k,cH P d e with
   |some a,some b=>some (.map a b)
   |_,_=>none)else none
  |some i,some (.func _ _ _)=>bif Nat.beq i.size 1 then some .ck else none
  |some i,some (.pointer _)=>bif Nat.beq i.size 1 then some .ck else none
  |_,_=>none
def iu:Nat:=12
def ty(P:Program)(t:TypeId):Option ag:=cH P iu t
theorem E0{f:TypeId->Option ag}{off:Nat}{o:List Field}{u:ag}(h:fieldsOf f off o=some u):u.agg=true:=by
 cases o with
 |nil=>simp only[fieldsOf,Option.some.injEq]at h;subst h;rfl
 |cons L o=>
  unfold fieldsOf at h
  cases q:Nat.beq L.offset off with
  |false=>rw[q]at h;cases h
  |true=>
   rw[q,cond_true]at h
   split at h
   ·split at h
    ·cases h;rfl
    ·cases h
   ·cases h
theorem JF{f:TypeId->Option ag}{off:Nat}{o:List Field}{u:ag}(h:fieldsOf f off o=some u):u=.unit\/∃a b,u=.pair a b:=by
 cases o with
 |nil=>simp only[fieldsOf,Option.some.injEq]at h;exact .inl h.symm
 |cons L o=>
  unfold fieldsOf at h
  cases q:Nat.beq L.offset off with
  |false=>rw[q]at h;cases h
  |true=>
   rw[q,cond_true]at h
   split at h
   ·split at h
    ·cases h;exact .inr ⟨_,_,rfl⟩
    ·cases h
   ·cases h
theorem cQ{P:Program}{d:Nat}{t:TypeId}{u:ag}(h:cH P d t=some u):∃i,P.info? t=some i/\i.size=u.cells/\
  (match u with
   |.ptr _=>False
   |.fn _ _=>False
   |.cy _ _=>False
   |.alt _ _ _=>False
   |.err=>∃U,P.underlying t=some (.interface U)
   |.ck=>(∃a b c,P.underlying t=some (.func a b c))\/∃e,P.underlying t=some (.pointer e)
   |.int k=>P.underlying t=some (.int k)
   |.bool=>P.underlying t=some .bool
   |.str=>P.underlying t=some .string
   |.ab v=>∃e d',P.underlying t=some (.slice e)/\cH P d' e=some v
   |.arr n v=>∃e d',P.underlying t=some (.array n e)/\cH P d' e=some v
   |.map a b=>∃k e d',P.underlying t=some (.map k e)/\cH P d' k=some a/\cH P d' e=some b
   |_=>∃R d',P.underlying t=some (.struct R)/\fieldsOf (cH P d') 0 R.toList=some u):=by
 cases d with
 |zero=>cases h
 |succ d=>
  unfold cH at h
  split at h
  ·rename_i i k q L
   cases o:Nat.beq i.size 1<;>rw[o]at h<;>cases h
   exact⟨i,q,Nat.eq_of_beq_eq_true o,L⟩
  ·rename_i i q L
   cases o:Nat.beq i.size 1<;>rw[o]at h<;>cases h
   exact⟨i,q,Nat.eq_of_beq_eq_true o,L⟩
  ·rename_i i q L
   cases o:Nat.beq i.size 1<;>rw[o]at h<;>cases h
   exact⟨i,q,Nat.eq_of_beq_eq_true o,L⟩
  ·rename_i i e q L
   cases o:Nat.beq i.size 1<;>rw[o]at h
   ·cases h
   ·rw[cond_true]at h
    split at h
    ·rename_i v O;cases h;exact⟨i,q,Nat.eq_of_beq_eq_true o,e,d,L,O⟩
    ·cases h
  ·rename_i i R q L
   split at h
   ·rename_i v O
    cases o:Nat.beq i.size v.cells<;>rw[o]at h<;>cases h
    have V:=JF O
    refine⟨i,q,Nat.eq_of_beq_eq_true o,?_⟩
    rcases V with rfl|⟨a,b,rfl⟩<;>exact⟨R,d,L,O⟩
   ·cases h
  ·rename_i i U q L
   cases o:Nat.beq i.size 1<;>rw[o]at h<;>cases h
   exact⟨i,q,Nat.eq_of_beq_eq_true o,U,L⟩
  ·rename_i i n e q L
   split at h
   ·rename_i v O
    cases o:Nat.beq i.size (n*v.cells)<;>rw[o]at h<;>cases h
    exact⟨i,q,Nat.eq_of_beq_eq_true o,e,d,L,O⟩
   ·cases h
  ·rename_i i k e q L
   cases o:Nat.beq i.size 1<;>rw[o]at h
   ·cases h
   ·rw[cond_true]at h
    split at h
    ·rename_i a b V W;cases h;exact⟨i,q,Nat.eq_of_beq_eq_true o,k,e,d,L,V,W⟩
    ·cases h
  ·rename_i i a b c q L
   cases o:Nat.beq i.size 1<;>rw[o]at h<;>cases h
   exact⟨i,q,Nat.eq_of_beq_eq_true o,.inl ⟨a,b,c,L⟩⟩
  ·rename_i i e q L
   cases o:Nat.beq i.size 1<;>rw[o]at h<;>cases h
   exact⟨i,q,Nat.eq_of_beq_eq_true o,.inr ⟨e,L⟩⟩
  ·cases h
theorem iV{P:Program}{d:Nat}{t:TypeId}{u:ag}(h:cH P d t=some u)(w:World):(isAgg t).run P w=.ok u.agg w:=by
 obtain⟨i,_,_,o⟩:=cQ h
 unfold isAgg
 cases u with
 |int k=>simp[run_underlying o,ag.agg]
 |bool=>simp[run_underlying o,ag.agg]
 |str=>simp[run_underlying o,ag.agg]
 |ab v=>obtain⟨e,d',q,_⟩:=o;simp[run_underlying q,ag.agg]
 |ptr v=>exact o.elim
 |fn f v=>exact o.elim
 |err=>obtain⟨O,q⟩:=o;simp[run_underlying q,ag.agg]
 |ck=>rcases o with ⟨_,_,_,q⟩|⟨_,q⟩<;>simp[run_underlying q,ag.agg]
 |cy n v=>exact o.elim
 |alt n v r=>exact o.elim
 |arr n v=>obtain⟨e,d',q,_⟩:=o;simp[run_underlying q,ag.agg]
 |map a b=>obtain⟨k,e,d',q,_⟩:=o;simp[run_underlying q,ag.agg]
 |unit=>obtain⟨L,d',q,_⟩:=o;simp[run_underlying q,ag.agg]
 |pair a b=>obtain⟨L,d',q,_⟩:=o;simp[run_underlying q,ag.agg]
theorem eB{P:Program}{d:Nat}{t:TypeId}{u:ag}(h:cH P d t=some u)(w:World):(sizeOf t).run P w=.ok u.cells w:=by
 obtain⟨i,o,q,_⟩:=cQ h
 simp[sizeOf,typeInfo,o,q]
theorem jC{w:World}{M:Nat->Prop}{t:ag}:∀{xs:List t.el} {cs:List Value} {i:Nat} {x:t.el},bL (aK w M t) cs xs->xs[i]? =some x->
  ∃o c2 c3,cs=o++c2++c3/\o.length=i*t.cells/\aK w M t c2 x
 |[],_,_,_,_,h=>by simp at h
 |y::O,cs,0,x,⟨o,c2,e,q,L⟩,h=>by
  simp at h
  subst h
  exact⟨[],o,c2,by simpa using e,by simp,q⟩
 |y::O,cs,i+1,x,⟨o,c2,e,q,L⟩,h=>by
  obtain⟨d1,d2,d3,aj,R,U⟩:=jC L (by simpa using h)
  refine⟨o++d1,d2,d3,by rw[e,aj];simp,?_,U⟩
  rw[List.length_append,b6 t q,R,Nat.succ_mul,Nat.add_comm]
theorem oT{w:World}{M:Nat->Prop}{t:ag}:∀{xs:List t.el} {cs:List Value} {i:Nat} {x:t.el},bL (aK w M t) cs xs->xs[i]? =some x->
  ∃o c2 c3,cs=o++c2++c3/\o.length=i*t.cells/\aK w M t c2 x/\∀q x',aK w M t q x'->bL (aK w M t) (o++q++c3) (xs.set i x')
 |[],_,_,_,_,h=>by simp at h
 |y::R,cs,0,x,⟨o,c2,e,L,O⟩,h=>by
  simp at h
  subst h
  exact⟨[],o,c2,by simpa using e,by simp,L,fun q x' h'=>⟨q,c2,by simp,h',O⟩⟩
 |y::R,cs,i+1,x,⟨o,c2,e,L,O⟩,h=>by
  obtain⟨d1,d2,d3,aj,U,V,W⟩:=oT O (by simpa using h)
  refine⟨o++d1,d2,d3,by rw[e,aj];simp,?_,V,fun q x' h'=>⟨o,d1++q++d3,by simp,L,W q x' h'⟩⟩
  rw[List.length_append,b6 t L,U,Nat.succ_mul,Nat.add_comm]
theorem cw{a b:Nat}(h:Nat.blt a b=true):a<b:=by
 have:a+1<=b:=by simpa[Nat.blt]using h
 omega
theorem D5{a b:Nat}(h:Nat.blt a b=false):b<=a:=by
 rcases Nat.lt_or_ge a b with o|o
 ·have:Nat.blt a b=true:=by
   have:a+1<=b:=o
   simpa[Nat.blt]using this
  rw[this]at h;cases h
 ·exact o
theorem gc{t:ag}{x:t.el}{off:Nat}{u:ag}{y:u.el}(h:(bif Nat.beq off 0 then ak.as ⟨t,x⟩ u else none)=some y):off=0/\(⟨t,x⟩:ak)=⟨u,y⟩:=by
 cases o:Nat.beq off 0 with
 |false=>rw[o]at h;cases h
 |true=>rw[o]at h;exact⟨Nat.eq_of_beq_eq_true o,ak.cO h⟩
theorem ml{w:World}{M:Nat->Prop}:∀(t:ag) {cs:List Value} {x:t.el} {off:Nat} {u:ag} {y:u.el},aK w M t cs x->ct t x off u=some y->
  ∃q c2 c3,cs=q++c2++c3/\q.length=off/\aK w M u c2 y:=by
 intro t
 induction t with
 |int k=>intro cs x off u y o h;obtain⟨rfl,e⟩:=gc (t:=.int k) h;cases e;exact⟨[],cs,[],by simp,rfl,o⟩
 |bool=>intro cs x off u y o h;obtain⟨rfl,e⟩:=gc (t:=.bool) h;cases e;exact⟨[],cs,[],by simp,rfl,o⟩
 |str=>intro cs x off u y o h;obtain⟨rfl,e⟩:=gc (t:=.str) h;cases e;exact⟨[],cs,[],by simp,rfl,o⟩
 |ab t L=>intro cs x off u y o h;obtain⟨rfl,e⟩:=gc (t:=.ab t) h;cases e;exact⟨[],cs,[],by simp,rfl,o⟩
 |ptr t L=>intro cs x off u y o h;obtain⟨rfl,e⟩:=gc (t:=.ptr t) h;cases e;exact⟨[],cs,[],by simp,rfl,o⟩
 |fn f t L=>intro cs x off u y o h;obtain⟨rfl,e⟩:=gc (t:=.fn f t) h;cases e;exact⟨[],cs,[],by simp,rfl,o⟩
 |err=>intro cs x off u y o h;obtain⟨rfl,e⟩:=gc (t:=.err) h;cases e;exact⟨[],cs,[],by simp,rfl,o⟩
 |ck=>intro cs x off u y o h;obtain⟨rfl,e⟩:=gc (t:=.ck) h;cases e;exact⟨[],cs,[],by simp,rfl,o⟩
 |cy n t L=>intro cs x off u y o h;obtain⟨rfl,e⟩:=gc (t:=.cy n t) h;cases e;exact⟨[],cs,[],by simp,rfl,o⟩
 |alt n t r _ _=>intro cs x off u y o h;obtain⟨rfl,e⟩:=gc (t:=.alt n t r) h;cases e;exact⟨[],cs,[],by simp,rfl,o⟩
 |arr n t L=>
  intro cs x off u y o h
  unfold ct at h
  split at h
  ·rename_i Z R U
   cases h
   have e:=ak.cO U
   cases e
   exact⟨[],cs,[],by simp,(Nat.eq_of_beq_eq_true R).symm,o⟩
  ·cases W:Nat.beq t.cells 0 with
   |true=>rw[W]at h;cases h
   |false=>
    rw[W,cond_false]at h
    split at h
    ·rename_i z la
     obtain⟨q,c2,c3,rfl,O,V⟩:=jC o.2 la
     obtain⟨d1,d2,d3,rfl,aj,lb⟩:=L V h
     refine⟨q++d1,d2,d3++c3,by simp,?_,lb⟩
     rw[List.length_append,O,aj,Nat.mul_comm]
     exact Nat.div_add_mod off t.cells
    ·cases h
 |map a b _ _=>intro cs x off u y o h;obtain⟨rfl,e⟩:=gc (t:=.map a b) h;cases e;exact⟨[],cs,[],by simp,rfl,o⟩
 |unit=>intro cs x off u y o h;obtain⟨rfl,e⟩:=gc (t:=.unit) h;cases e;exact⟨[],cs,[],by simp,rfl,o⟩
 |pair a b lc ld=>
  intro cs x off u y o h
  unfold ct at h
  split at h
  ·rename_i Z R U
   cases h
   have e:=ak.cO U
   cases e
   exact⟨[],cs,[],by simp,(Nat.eq_of_beq_eq_true R).symm,o⟩
  ·obtain⟨q,c2,rfl,Y,V⟩:=o
   cases O:Nat.blt off a.cells with
   |true=>
    rw[O,cond_true]at h
    obtain⟨d1,d2,d3,rfl,aj,o⟩:=lc Y h
    exact⟨d1,d2,d3++c2,by simp,aj,o⟩
   |false=>
    rw[O,cond_false]at h
    obtain⟨d1,d2,d3,rfl,aj,o⟩:=ld V h
    refine⟨q++d1,d2,d3,by simp,?_,o⟩
    rw[List.length_append,b6 a Y,aj]
    have:=D5 O
    omega
theorem eD{t:ag}{off:Nat}{v:ak}{y:t.el}(h:(bif Nat.beq off 0 then v.as t else none)=some y):off=0/\v=⟨t,y⟩:=by
 cases o:Nat.beq off 0 with
 |false=>rw[o]at h;cases h
 |true=>rw[o]at h;exact⟨Nat.eq_of_beq_eq_true o,ak.cO h⟩
theorem mU{w:World}{M:Nat->Prop}{v:ak}{O:List Value}(lc:aK w M v.t O v.x):∀(t:ag) {cs:List Value} {x:t.el} {off:Nat} {y:t.el},aK w M t cs x->cb t x off v=some y->
  ∃L c2 c3,cs=L++c2++c3/\L.length=off/\c2.length=O.length/\aK w M t (L++O++c3) y:=by
 intro t
 have q:∀(t:ag) (cs:List Value) (x:t.el) (off:Nat) (y:t.el),aK w M t cs x->(off=0/\v=⟨t,y⟩)->∃L c2 c3,cs=L++c2++c3/\L.length=off/\c2.length=O.length/\aK w M t (L++O++c3) y:=by
  rintro t cs x off y o ⟨rfl,e⟩
  subst e
  exact⟨[],cs,[],by simp,rfl,by rw[b6 t o,b6 t lc],by simpa using lc⟩
 induction t with
 |int k=>intro cs x off y o h;exact q (.int k) cs x off y o (eD (t:=.int k) h)
 |bool=>intro cs x off y o h;exact q .bool cs x off y o (eD (t:=.bool) h)
 |str=>intro cs x off y o h;exact q .str cs x off y o (eD (t:=.str) h)
 |ab t U=>intro cs x off y o h;exact q (.ab t) cs x off y o (eD (t:=.ab t) h)
 |ptr t U=>intro cs x off y o h;exact q (.ptr t) cs x off y o (eD (t:=.ptr t) h)
 |fn f t U=>intro cs x off y o h;exact q (.fn f t) cs x off y o (eD (t:=.fn f t) h)
 |err=>intro cs x off y o h;exact q .err cs x off y o (eD (t:=.err) h)
 |ck=>intro cs x off y o h;exact q .ck cs x off y o (eD (t:=.ck) h)
 |cy n t U=>intro cs x off y o h;exact q (.cy n t) cs x off y o (eD (t:=.cy n t) h)
 |alt n t r _ _=>intro cs x off y o h;exact q (.alt n t r) cs x off y o (eD (t:=.alt n t r) h)
 |arr n t U=>
  intro cs x off y o h
  unfold cb at h
  split at h
  ·rename_i Z la R
   cases h
   exact q _ cs x off _ o ⟨Nat.eq_of_beq_eq_true la,ak.cO R⟩
  ·cases ld:Nat.beq t.cells 0 with
   |true=>rw[ld]at h;cases h
   |false=>
    rw[ld,cond_false]at h
    split at h
    ·rename_i z le
     split at h
     ·rename_i lk lf
      cases h
      obtain⟨L,c2,c3,rfl,V,Y,lg⟩:=oT o.2 le
      obtain⟨d1,d2,d3,rfl,aj,W,lh⟩:=U Y lf
      refine⟨L++d1,d2,d3++c3,by simp,?_,W,?_,?_⟩
      ·rw[List.length_append,V,aj,Nat.mul_comm]
       exact Nat.div_add_mod off t.cells
      ·rw[List.length_set];exact o.1
      ·have:=lg _ _ lh
       simpa using this
     ·cases h
    ·cases h
 |map a b _ _=>intro cs x off y o h;exact q (.map a b) cs x off y o (eD (t:=.map a b) h)
 |unit=>intro cs x off y o h;exact q .unit cs x off y o (eD (t:=.unit) h)
 |pair a b li lj=>
  intro cs x off y o h
  unfold cb at h
  split at h
  ·rename_i Z la R
   cases h
   exact q _ cs x off _ o ⟨Nat.eq_of_beq_eq_true la,ak.cO R⟩
  ·obtain⟨L,c2,rfl,lb,Y⟩:=o
   cases V:Nat.blt off a.cells with
   |true=>
    rw[V,cond_true]at h
    split at h
    ·rename_i Z R
     cases h
     obtain⟨d1,d2,d3,rfl,aj,W,o⟩:=li lb R
     exact⟨d1,d2,d3++c2,by simp,aj,W,d1++O++d3,c2,by simp,o,Y⟩
    ·cases h
   |false=>
    rw[V,cond_false]at h
    split at h
    ·rename_i Z R
     cases h
     obtain⟨d1,d2,d3,rfl,aj,W,o⟩:=lj Y R
     refine⟨L++d1,d2,d3,by simp,?_,W,L,d1++O++d3,by simp,lb,o⟩
     rw[List.length_append,b6 a lb,aj]
     have:=D5 V
     omega
    ·cases h
def bX:(t:ag)->t.el
 |.int _=>(0:Int)
 |.bool=>false
 |.str=>[]
 |.ab _=>[]
 |.unit=>()
 |.pair a b=>(bX a,bX b)
 |.ptr t=>bX t
 |.fn _ t=>bX t
 |.err=>none
 |.ck=>()
 |.cy _ t=>bX t
 |.alt _ _ r=>.inr (bX r)
 |.arr n t=>List.replicate n (bX t)
 |.map _ _=>none
def sE(f:List Value->Option (List Value)):Nat->List Value->Option (List Value)
 |0,r=>some r
 |n+1,r=>match f r with
  |some o=>sE f n o
  |none=>none
def fi:ag->List Value->Option (List Value)
 |.int k,.int k' n::r=>bif fS k k'&&n==0 then some r else none
 |.bool,.bool b::r=>bif b then none else some r
 |.str,.string s::r=>bif s.data.isEmpty then some r else none
 |.ab _,.slice none n c::r=>bif Nat.beq n 0&&Nat.beq c 0 then some r else none
 |.unit,r=>some r
 |.err,.nilIface::r=>some r
 |.ck,v::r=>bif v.oneCell' then some r else none
 |.map _ _,.map none::r=>some r
 |.arr n t,r=>sE (fi t) n r
 |.pair a b,r=>match fi a r with
  |some o=>fi b o
  |none=>none
 |_,_=>none
theorem EL{α:Type}{f:List Value->α->Prop}{z:List Value->Option (List Value)}{y:α}(h:∀{cs r:List Value},z cs=some r->∃c,cs=c++r/\f c y):∀(n:Nat) {cs r:List Value},sE z n cs=some r->∃c,cs=c++r/\bL f c (List.replicate n y)
 |0,cs,r,o=>by cases o;exact⟨[],rfl,rfl⟩
 |n+1,cs,r,o=>by
  unfold sE at o
  split at o
  ·rename_i U L
   obtain⟨q,rfl,O⟩:=h L
   obtain⟨c2,rfl,R⟩:=EL h n o
   exact⟨q++c2,by simp,q,c2,rfl,O,R⟩
  ·cases o
theorem HT{w:World}{M:Nat->Prop}:∀(t:ag) {cs r:List Value},fi t cs=some r->∃c,cs=c++r/\aK w M t c (bX t):=by
 intro t
 induction t with
 |int k=>
  intro cs r h
  unfold fi at h
  split at h<;>try contradiction
  ·rename_i lc k' n L o;cases o
   cases q:(fS k k'&&n==0)<;>rw[q]at h<;>cases h
   simp only[Bool.and_eq_true,beq_iff_eq]at q
   rw[<-kD q.1,q.2]
   exact⟨[_],rfl,rfl⟩
  all_goals (rename_i o;cases o)
 |bool=>
  intro cs r h
  unfold fi at h
  split at h<;>try contradiction
  ·rename_i b L _
   cases b<;>cases h
   exact⟨[_],rfl,rfl⟩
  all_goals (rename_i o;cases o)
 |str=>
  intro cs r h
  unfold fi at h
  split at h<;>try contradiction
  ·rename_i s L _
   cases q:s.data.isEmpty<;>rw[q]at h<;>cases h
   have:s=⟨#[]⟩:=by cases s;simp at q;rw[q]
   rw[this]
   exact⟨[_],rfl,rfl,by decide⟩
  all_goals (rename_i o;cases o)
 |ab t O=>
  intro cs r h
  unfold fi at h
  split at h<;>try contradiction
  ·rename_i n c L o;cases o
   cases q:(Nat.beq n 0&&Nat.beq c 0)<;>rw[q]at h<;>cases h
   simp only[Bool.and_eq_true]at q
   rw[Nat.eq_of_beq_eq_true q.1,Nat.eq_of_beq_eq_true q.2]
   exact⟨[_],rfl,none,0,[],rfl,Nat.le_refl _,by decide,fun _=>rfl,rfl,fun j u W=>by simp at W⟩
  all_goals (rename_i o;cases o)
 |unit=>intro cs r h;cases h;exact⟨[],rfl,rfl⟩
 |ptr t O=>intro cs r h;simp[fi]at h
 |fn f t O=>intro cs r h;simp[fi]at h
 |cy f t O=>intro cs r h;simp[fi]at h
 |alt n t r _ _=>intro cs r h;simp[fi]at h
 |err=>
  intro cs r h
  unfold fi at h
  split at h<;>try contradiction
  ·cases h;exact⟨[_],rfl,.inl ⟨rfl,rfl⟩⟩
  all_goals (rename_i o;cases o)
 |ck=>
  intro cs r h
  unfold fi at h
  split at h<;>try contradiction
  ·rename_i v L _
   cases q:v.oneCell'<;>rw[q]at h<;>cases h
   exact⟨[_],rfl,_,rfl,q⟩
  all_goals (rename_i o;cases o)
 |map a b _ _=>
  intro cs r h
  unfold fi at h
  split at h<;>try contradiction
  ·cases h;exact⟨[_],rfl,rfl⟩
  all_goals (rename_i o;cases o)
 |arr n t O=>
  intro cs r h
  simp only[fi]at h
  obtain⟨c,R,U⟩:=EL (f:=aK w M t) (y:=bX t) (fun Y=>O Y) n h
  exact⟨c,R,List.length_replicate,U⟩
 |pair a b Z la=>
  intro cs r h
  simp only[fi]at h
  split at h
  ·rename_i L lb
   obtain⟨V,rfl,R⟩:=Z lb
   obtain⟨c2,rfl,U⟩:=la h
   exact⟨V++c2,by simp,V,c2,rfl,R,U⟩
  ·cases h
end Go.Ev
namespace Go.Ev
open Go Go.RowKit
variable [bV]
variable {P:Program} {w:World} {M:Nat->Prop} {v:Value}
theorem cJ{k:IntKind}{n:Int}:bc w M v (.int k) n↔v=.int k n:=by simp[bc,ag.agg,aK]
theorem dj{b:Bool}:bc w M v .bool b↔v=.bool b:=by simp[bc,ag.agg,aK]
theorem dV{s:List UInt8}:bc w M v .str s↔v=.string ⟨s.toArray⟩/\s.length<=maxLen:=by simp[bc,ag.agg,aK]
theorem bA{t:ag}{x:t.el}(h:t.agg=false):bc w M v t x↔aK w M t [v] x:=by simp[bc,h]
theorem dK{t:ag}{x:t.el}(h:t.agg=true):bc w M v t x↔∃o:List Value,v=.agg o.toArray/\aK w M t o x:=by simp[bc,h]
def bq:Nat:=2147483648
theorem oC:bq<=maxLen:=by decide
theorem gH(s:List UInt8):(bytesOf s).size=s.length:=by simp[bytesOf,ByteArray.size]
theorem wm(s:List UInt8):(bytesOf s).toList=s:=by rw[Lib.toList_data];rfl
theorem Nn(a b:List UInt8):bytesOf a++bytesOf b=bytesOf (a++b):=by
 apply ByteArray.ext
 simp[bytesOf]
def bJ:List Prop->Prop
 |[]=>True
 |p::r=>p/\bJ r
def tz(o:BinOp)(k:IntKind)(a b:Int):Option (ak×List Prop):=
 match o with
 |.add=>some (⟨.int k,k.wrap (a+b)⟩,[])
 |.sub=>some (⟨.int k,k.wrap (a-b)⟩,[])
 |.mul=>some (⟨.int k,k.wrap (a*b)⟩,[])
 |.quo=>some (⟨.int k,k.wrap (a.tdiv b)⟩,[b≠0])
 |.rem=>some (⟨.int k,a.tmod b⟩,[b≠0])
 |.and=>some (⟨.int k,k.wrap (BitVec.ofInt k.bits a&&&BitVec.ofInt k.bits b).toNat⟩,[])
 |.or=>some (⟨.int k,k.wrap (BitVec.ofInt k.bits a|||BitVec.ofInt k.bits b).toNat⟩,[])
 |.xor=>some (⟨.int k,k.wrap (BitVec.ofInt k.bits a^^^BitVec.ofInt k.bits b).toNat⟩,[])
 |.andNot=>some (⟨.int k,k.wrap (BitVec.ofInt k.bits a&&&~~~BitVec.ofInt k.bits b).toNat⟩,[])
 |.eql=>some (⟨.bool,a==b⟩,[])
 |.neq=>some (⟨.bool,a !=b⟩,[])
 |.lss=>some (⟨.bool,decide (a<b)⟩,[])
 |.leq=>some (⟨.bool,decide (a<=b)⟩,[])
 |.gtr=>some (⟨.bool,decide (b<a)⟩,[])
 |.geq=>some (⟨.bool,decide (b<=a)⟩,[])
 |_=>none
def Cd(o:BinOp)(k:IntKind)(a b:Int):Option (ak×List Prop):=
 match o with
 |.shl=>some (⟨.int k,k.wrap (a*2^min b.toNat k.bits)⟩,[0<=b])
 |.shr=>some (⟨.int k,a.fdiv (2^min b.toNat k.bits)⟩,[0<=b])
 |_=>none
def wb(o:BinOp)(a b:Bool):Option (ak×List Prop):=
 match o with
 |.eql=>some (⟨.bool,a==b⟩,[])
 |.neq=>some (⟨.bool,!(a==b)⟩,[])
 |_=>none
def Ck(o:BinOp)(a b:List UInt8):Option (ak×List Prop):=
 match o with
 |.add=>some (⟨.str,a++b⟩,[a.length+b.length<=bq])
 |.eql=>some (⟨.bool,a==b⟩,[])
 |.neq=>some (⟨.bool,!(a==b)⟩,[])
 |.lss=>some (⟨.bool,Op.bytesLess a b⟩,[])
 |.leq=>some (⟨.bool,Op.bytesLess a b||a==b⟩,[])
 |.gtr=>some (⟨.bool,!(Op.bytesLess a b||a==b)⟩,[])
 |.geq=>some (⟨.bool,!(Op.bytesLess a b)⟩,[])
 |_=>none
def Eh(a b:Int):Bool:=a==b
def Da(a b:Bool):Bool:=a==b
def eqStr(a b:List UInt8):Bool:=a==b
def jl{α:Type}(f:α->α->Bool):List α->List α->Bool
 |[],[]=>true
 |x::xs,y::o=>f x y&&jl f xs o
 |_,_=>false
def aV:(t:ag)->t.el->t.el->Bool
 |.int _,a,b=>Eh a b
 |.bool,a,b=>Da a b
 |.str,a,b=>eqStr a b
 |.unit,_,_=>true
 |.pair s t,a,b=>aV s a.1 b.1&&aV t a.2 b.2
 |.arr _ t,a,b=>jl (aV t) a b
 |_,_,_=>false
def dJ(P:Program):Nat->TypeId->Bool
 |0,_=>false
 |d+1,t=>match P.underlying t with
  |some (.int _)=>true
  |some .bool=>true
  |some .string=>true
  |some (.struct o)=>!P.stoodInHeld t&&o.toList.all fun f=>f.name != "_" &&dJ P d f.type
  |some (.array _ e)=>dJ P d e
  |_=>false
theorem oI{d:Nat}{t:TypeId}{u:ag}(q:cH P d t=some u){pre c post:List Value}{x:u.el}(L:aK w M u c x)(R:World):
  ∃v,(part t (pre++c++post).toArray pre.length).run P R=.ok v R/\bc w M v u x:=by
 have O:=b6 u L
 cases o:u.agg with
 |true=>
  refine⟨.agg c.toArray,?_,by rw[bc,if_pos o];exact⟨c,rfl,L⟩⟩
  unfold part
  rw[Sem.run_bind,iV q,o]
  simp only[Result.andThen_ok,if_true,Sem.run_bind,eB q,Sem.run_pure]
  have e:(pre++c++post).toArray.extract pre.length (pre.length+u.cells)=c.toArray:=by
   rw[<-O]
   apply Array.ext'
   simp[List.extract_eq_take_drop]
  rw[e]
 |false=>
  have U:u.cells=1:=by cases u<;>first|rfl|(simp[ag.agg]at o)
  rw[U]at O
  match c,O with
  |[v],_=>
   refine⟨v,?_,by rw[bc,if_neg (by rw[o];decide)];exact L⟩
   unfold part
   rw[Sem.run_bind,iV q,o]
   simp only[Result.andThen_ok,Bool.false_eq_true,if_false]
   have e:(pre++[v]++post).toArray[pre.length]? =some v:=by simp
   rw[e]
   rfl
theorem Hp{d O:Nat}(Z:∀(t:TypeId) (u:ag),cH P d t=some u->∀d',dJ P d' t=true->d'<=O->∀(w w' o:World) (M M':Nat->Prop) (v v':Value) (x y:u.el),bc w M v u x->bc w' M' v' u y->(Op.equalIn O t v v').run P o=.ok (aV u x y) o):
  ∀(L:List Field) (off:Nat) (u:ag),fieldsOf (cH P d) off L=some u->∀d',d'<=O->(L.all fun f=>f.name != "_" &&dJ P d' f.type)=true->∀(w w' o:World) (M M':Nat->Prop) (pre q c c':List Value) (x y:u.el),pre.length=off->q.length=off->aK w M u c x->aK w' M' u c' y->
   (Op.eqFields O (pre++c).toArray (q++c').toArray L).run P o=.ok (aV u x y) o
 |[],off,u,h,_,_,_,w,w',o,M,M',pre,q,c,c',x,y,_,_,_,_=>by
  simp only[fieldsOf,Option.some.injEq]at h
  subst h
  simp[Op.eqFields,aV]
 |f::L,off,u,h,d',aj,R,w,w',o,M,M',pre,q,c,c',x,y,la,lb,lg,lh=>by
  unfold fieldsOf at h
  cases U:Nat.beq f.offset off with
  |false=>rw[U]at h;cases h
  |true=>
   have li:=Nat.eq_of_beq_eq_true U
   rw[U,cond_true]at h
   split at h
   ·rename_i a V
    split at h
    ·rename_i b lj
     cases h
     rw[List.all_cons,Bool.and_eq_true,Bool.and_eq_true]at R
     obtain⟨lk,c2,rfl,lc,ch⟩:=lg
     obtain⟨ll,ld,rfl,le,mC⟩:=lh
     obtain⟨v,W,lm⟩:=oI (P:=P) V (pre:=pre) (post:=c2) lc o
     obtain⟨v',Y,ln⟩:=oI (P:=P) V (pre:=q) (post:=ld) le o
     have lo:f.name≠ "_" :=by simpa using R.1.1
     rw[List.append_assoc]at W Y
     rw[la]at W
     rw[lb]at Y
     simp only[Op.eqFields,if_pos lo,li,Sem.run_bind,W,Y,Result.andThen_ok,Z f.type a V d' R.1.2 aj w w' o M M' v v' x.1 y.1 lm ln]
     cases lf:aV a x.1 y.1 with
     |false=>
      simp only[Bool.not_false,if_true,Sem.run_pure]
      simp[aV,lf]
     |true=>
      simp only[Bool.not_true,Bool.false_eq_true,if_false]
      have:=Hp Z L (off+a.cells) b lj d' aj R.2 w w' o M M' (pre++lk) (q++ll) c2 ld x.2 y.2 (by rw[List.length_append,la,b6 a lc]) (by rw[List.length_append,lb,b6 a le]) ch mC
      rw[List.append_assoc,List.append_assoc]at this
      rw[this]
      simp[aV,lf]
    ·cases h
   ·cases h
theorem Jv{P:Program}{d:Nat}{t:TypeId}{u:ag}(h:cH P d t=some u):P.cellsOf t=u.cells:=by
 obtain⟨i,o,q,_⟩:=cQ h
 simp[Program.cellsOf,o,q]
theorem IA{d W:Nat}{e:TypeId}{u:ag}(R:cH P d e=some u)(Y:∀(w w' o:World) (M M':Nat->Prop) (v v':Value) (x y:u.el),bc w M v u x->bc w' M' v' u y->(Op.equalIn W e v v').run P o=.ok (aV u x y) o):
  ∀(xs L:List u.el) (n:Nat) (w w' o:World) (M M':Nat->Prop) (pre q c c':List Value),pre.length=n*u.cells->q.length=n*u.cells->xs.length=L.length->bL (aK w M u) c xs->bL (aK w' M' u) c' L->
   (Op.eqItems W e u.cells (pre++c).toArray (q++c').toArray (List.range' n xs.length)).run P o=.ok (jl (aV u) xs L) o
 |[],[],n,w,w',o,M,M',pre,q,c,c',_,_,_,_,_=>by simp[Op.eqItems,jl]
 |[],_::_,_,_,_,_,_,_,_,_,_,_,_,_,O,_,_=>by simp at O
 |_::_,[],_,_,_,_,_,_,_,_,_,_,_,_,O,_,_=>by simp at O
 |x::xs,y::L,n,w,w',o,M,M',pre,q,c,c',Z,la,O,lf,lg=>by
  obtain⟨lh,c2,rfl,lb,ch⟩:=lf
  obtain⟨li,lc,rfl,ld,mC⟩:=lg
  obtain⟨v,U,lj⟩:=oI (P:=P) R (pre:=pre) (post:=c2) lb o
  obtain⟨v',V,lk⟩:=oI (P:=P) R (pre:=q) (post:=lc) ld o
  rw[List.append_assoc]at U V
  rw[Z]at U
  rw[la]at V
  rw[List.length_cons,List.range'_succ]
  simp only[Op.eqItems,Sem.run_bind,U,V,Result.andThen_ok,Y w w' o M M' v v' x y lj lk]
  cases le:aV u x y with
  |false=>simp[jl,le]
  |true=>
   simp only[Bool.not_true,Bool.false_eq_true,if_false]
   have:=IA R Y xs L (n+1) w w' o M M' (pre++lh) (q++li) c2 lc (by rw[List.length_append,Z,b6 u lb,Nat.succ_mul]) (by rw[List.length_append,la,b6 u ld,Nat.succ_mul]) (by simpa using O) ch mC
   rw[List.append_assoc,List.append_assoc]at this
   rw[this]
   simp[jl,le]
theorem nY:∀(d:Nat) (t:TypeId) (u:ag),cH P d t=some u->∀d',dJ P d' t=true->∀L,d'<=L->∀(w w' O:World) (M M':Nat->Prop) (v v':Value) (x y:u.el),bc w M v u x->bc w' M' v' u y->(Op.equalIn L t v v').run P O=.ok (aV u x y) O
 |0,_,_,h=>by cases h
 |d+1,t,u,h=>by
  intro d' q L lp w w' O M M' v v' x y W Y
  cases d' with
  |zero=>cases q
  |succ d'=>
   obtain⟨L,rfl⟩:∃k,L=k+1:=⟨L-1,by omega⟩
   unfold dJ at q
   unfold cH at h
   split at h
   ·rename_i i k R o
    cases U:Nat.beq i.size 1<;>rw[U]at h<;>cases h
    obtain rfl:=cJ.1 W
    obtain rfl:=cJ.1 Y
    exact run_equalIn_int O L t k k x y o
   ·rename_i i R o
    cases U:Nat.beq i.size 1<;>rw[U]at h<;>cases h
    obtain rfl:=dj.1 W
    obtain rfl:=dj.1 Y
    exact run_equalIn_bool' O L t x y o
   ·rename_i i R o
    cases U:Nat.beq i.size 1<;>rw[U]at h<;>cases h
    obtain⟨rfl,_⟩:=dV.1 W
    obtain⟨rfl,_⟩:=dV.1 Y
    rw[run_equalIn_string O L t _ _ o]
    have Z:=wm x
    have la:=wm y
    unfold bytesOf at Z la
    rw[Z,la]
    rfl
   ·rename_i i e R o
    rw[o]at q
    cases q
   ·rename_i i lb R o
    rw[o]at q
    simp only[Bool.and_eq_true,Bool.not_eq_true']at q
    split at h
    ·rename_i v0 V
     cases U:Nat.beq i.size v0.cells<;>rw[U]at h<;>cases h
     have lc:=E0 V
     obtain⟨c,rfl,lg⟩:=(dK lc).1 W
     obtain⟨c',rfl,lh⟩:=(dK lc).1 Y
     have ld:P.fieldsOf t=lb:=by unfold Program.fieldsOf;rw[o]
     rw[run_equalIn_struct O L t c.toArray c'.toArray (by rw[ld];exact o) q.1,ld]
     exact Hp (fun t u li lj lk aj=>nY d t u li lj lk L aj) lb.toList 0 u V d' (by omega) q.2 w w' O M M' [] [] c c' x y rfl rfl lg lh
    ·cases h
   ·rename_i i lq R o
    rw[o]at q
    cases q
   ·rename_i i n e R o
    rw[o]at q
    split at h
    ·rename_i v0 V
     cases U:Nat.beq i.size (n*v0.cells)<;>rw[U]at h<;>cases h
     obtain⟨c,rfl,le,ll⟩:=(dK (t:=.arr n v0) rfl).1 W
     obtain⟨c',rfl,lm,ln⟩:=(dK (t:=.arr n v0) rfl).1 Y
     obtain⟨lr,lo,ls,_⟩:=cQ V
     have lf:=IA V (fun w w' O M M' v v' x y=>nY d e v0 V d' q L (by omega) w w' O M M' v v' x y) x y 0 w w' O M M' [] [] c c' (by simp) (by simp) (le.trans lm.symm) ll ln
     rw[run_equalIn_array O L c.toArray c'.toArray o lo,Jv V,List.range_eq_range']
     rw[le]at lf
     exact lf
    ·cases h
   ·rename_i i k e R o
    rw[o]at q
    cases q
   ·rename_i i a b c R o
    rw[o]at q
    cases q
   ·rename_i i e R o
    rw[o]at q
    cases q
   ·cases h
def ru:BinOp->Bool
 |.shl=>true
 |.shr=>true
 |_=>false
def bin(P:Program)(q:BinOp)(t:TypeId)(x y:ak):Option (ak×List Prop):=
 match x,y with
 |⟨.int k,a⟩,⟨.int k',b⟩=>bif ru q then Cd q k a b else bif fS k k' then tz q k a b else none
 |⟨.bool,a⟩,⟨.bool,b⟩=>match P.underlying t with
  |some .bool=>wb q a b
  |_=>none
 |⟨.str,a⟩,⟨.str,b⟩=>Ck q a b
 |⟨.pair o L,a⟩,y=>match y.as (.pair o L),ty P t with
  |some b,some u=>match u.beq (.pair o L)&&dJ P 16 t&&!(P.eqGuardType P.depth t),q with
   |true,.eql=>some (⟨.bool,aV (.pair o L) a b⟩,[])
   |true,.neq=>some (⟨.bool,!(aV (.pair o L) a b)⟩,[])
   |_,_=>none
  |_,_=>none
 |⟨.arr O o,a⟩,y=>match y.as (.arr O o),ty P t with
  |some b,some u=>match u.beq (.arr O o)&&dJ P 16 t&&!(P.eqGuardType P.depth t),q with
   |true,.eql=>some (⟨.bool,aV (.arr O o) a b⟩,[])
   |true,.neq=>some (⟨.bool,!(aV (.arr O o) a b)⟩,[])
   |_,_=>none
  |_,_=>none
 |_,_=>none
def fF(P:Program)(s:Sem Value)(v:Value):Prop:=∀w,s.run P w=.ok v w
theorem qY{op:BinOp}{t:TypeId}{x y:Operand}{k k':IntKind}{a b:Int}(w:World):(eqGuard op t x y (.int k a) (.int k' b)).run P w=.ok () w:=by cases op<;>rfl
theorem s8{op:BinOp}{t:TypeId}{x y:Operand}{a b:Bool}(w:World):(eqGuard op t x y (.bool a) (.bool b)).run P w=.ok () w:=by cases op<;>rfl
theorem qf{op:BinOp}{t:TypeId}{x y:Operand}{a b:ByteArray}(w:World):(eqGuard op t x y (.string a) (.string b)).run P w=.ok () w:=by cases op<;>rfl
theorem qI{op:BinOp}{t:TypeId}{k:IntKind}{a b:Int}(o:ru op=false):binOp op t (.int k a) (.int k b)=
  (match op with|.add|.sub|.mul=>Op.intArith op k a b|.quo|.rem=>Op.intDiv op k a b|.and|.or|.xor|.andNot=>Op.intBits op k a b|_=>Op.intCmp op a b):=by
 cases op<;>simp[binOp,ru]at o⊢
theorem Po{op:BinOp}{k:IntKind}{a b:Int}{t:TypeId}{r:ak}{ob:List Prop}(h:tz op k a b=some (r,ob))(o:bJ ob):
  ∃v,fF P (binOp op t (.int k a) (.int k b)) v/\∀w M,bc w M v r.t r.x:=by
 cases op<;>simp only[tz]at h<;>cases h
 case quo=>
  refine⟨_,fun w=>?_,fun _ _=>cJ.2 rfl⟩
  rw[qI rfl]
  show(if b=0 then _ else _:Sem Value).run P w=_
  rw[if_neg o.1]
  rfl
 case rem=>
  refine⟨_,fun w=>?_,fun _ _=>cJ.2 rfl⟩
  rw[qI rfl]
  show(if b=0 then _ else _:Sem Value).run P w=_
  rw[if_neg o.1]
  rfl
 all_goals first
  |exact⟨_,fun w=>by rw[qI rfl];rfl,fun _ _=>cJ.2 rfl⟩
  |exact⟨_,fun w=>by rw[qI rfl];rfl,fun _ _=>dj.2 rfl⟩
theorem K8{op:BinOp}{k k':IntKind}{a b:Int}{t:TypeId}{r:ak}{ob:List Prop}(h:Cd op k a b=some (r,ob))(o:bJ ob):
  ∃v,fF P (binOp op t (.int k a) (.int k' b)) v/\∀w M,bc w M v r.t r.x:=by
 cases op<;>simp only[Cd]at h<;>cases h
 all_goals
  have L:0<=b:=o.1
  have q:¬b<0:=by omega
  exact⟨_,fun w=>by simp[binOp,Op.shift,q],fun _ _=>cJ.2 rfl⟩
theorem IL{t:TypeId}(o:P.underlying t=some .bool){a b:Bool}(d:Nat)(w:World):(Op.equalIn (d+1) t (.bool a) (.bool b)).run P w=.ok (a==b) w:=by
 simp[Op.equalIn,run_underlying o]
theorem IY{op:BinOp}{a b:Bool}{t:TypeId}(o:P.underlying t=some .bool){r:ak}{ob:List Prop}(h:wb op a b=some (r,ob)):
  ∃v,fF P (binOp op t (.bool a) (.bool b)) v/\∀w M,bc w M v r.t r.x:=by
 have e:∀w,(Op.equal t (.bool a) (.bool b)).run P w=.ok (a==b) w:=fun w=>by
  exact IL o 9999 w
 cases op<;>simp only[wb]at h<;>cases h
 all_goals exact⟨_,fun w=>by simp[binOp,e],fun _ _=>dj.2 rfl⟩
theorem Nb{op:BinOp}{a b:List UInt8}{t:TypeId}{r:ak}{ob:List Prop}(h:Ck op a b=some (r,ob))(q:bJ ob):
  ∃v,fF P (binOp op t (.string (bytesOf a)) (.string (bytesOf b))) v/\∀w M,bc w M v r.t r.x:=by
 cases op<;>simp only[Ck]at h<;>cases h
 case add=>
  have o:a.length+b.length<=maxLen:=Nat.le_trans q.1 oC
  have L:¬(((bytesOf a).size+(bytesOf b).size:Nat):Int)>IntKind.i64.max:=by
   rw[gH,gH]
   have:IntKind.i64.max=9223372036854775807:=by decide
   rw[this]
   simp only[maxLen]at o
   omega
  refine⟨.string (bytesOf (a++b)),fun w=>?_,fun _ _=>dV.2 ⟨rfl,by rw[List.length_append];exact o⟩⟩
  simp only[binOp,Op.stringOp]
  rw[if_neg L,Nn]
  rfl
 all_goals exact⟨_,fun w=>by simp[binOp,Op.stringOp,wm],fun _ _=>dj.2 rfl⟩
theorem ww{op:BinOp}{t:TypeId}{x y:ak}{O R:Value}{ox oy:Operand}{r:ak}{ob:List Prop}(V:bc w M O x.t x.x)(W:bc w M R y.t y.x)
  (h:bin P op t x y=some (r,ob))(ld:bJ ob):
  ∃v,fF P (do eqGuard op t ox oy O R;binOp op t O R) v/\∀w M,bc w M v r.t r.x:=by
 have U:∀v,(∀w,(eqGuard op t ox oy O R).run P w=.ok () w)->fF P (binOp op t O R) v->fF P (do eqGuard op t ox oy O R;binOp op t O R) v:=by
  intro v li lj w
  rw[Sem.run_bind,li w]
  exact lj w
 unfold bin at h
 split at h
 ·rename_i k a k' b
  obtain rfl:=cJ.1 V
  obtain rfl:=cJ.1 W
  cases lh:ru op with
  |true=>
   rw[lh,cond_true]at h
   obtain⟨v,Y,Z⟩:=K8 (P:=P) (t:=t) (k':=k') h ld
   exact⟨v,U v (fun _=>by first|exact qY _|exact s8 _|exact qf _) Y,Z⟩
  |false=>
   rw[lh,cond_false]at h
   cases le:fS k k' with
   |false=>rw[le]at h;cases h
   |true=>
    rw[le,cond_true]at h
    obtain rfl:=kD le
    obtain⟨v,Y,Z⟩:=Po (P:=P) (t:=t) h ld
    exact⟨v,U v (fun _=>by first|exact qY _|exact s8 _|exact qf _) Y,Z⟩
 ·rename_i a b
  obtain rfl:=dj.1 V
  obtain rfl:=dj.1 W
  split at h
  ·rename_i lc
   obtain⟨v,Y,Z⟩:=IY lc h
   exact⟨v,U v (fun _=>by first|exact qY _|exact s8 _|exact qf _) Y,Z⟩
  ·cases h
 ·rename_i a b
  obtain⟨rfl,_⟩:=dV.1 V
  obtain⟨rfl,_⟩:=dV.1 W
  obtain⟨v,Y,Z⟩:=Nb (P:=P) (t:=t) h ld
  exact⟨v,U v (fun _=>by first|exact qY _|exact s8 _|exact qf _) Y,Z⟩
 ·rename_i L la a
  split at h
  ·rename_i b u lf lc
   have lg:=ak.cO lf
   subst lg
   have e:∀o:World,(u.beq (.pair L la)&&dJ P 16 t&&!(P.eqGuardType P.depth t))=true->(Op.equalIn 10000 t O R).run P o=.ok (aV (.pair L la) a b) o:=by
    intro o q
    simp only[Bool.and_eq_true]at q
    have:=ag.eq_of_beq q.1.1
    subst this
    exact nY iu t _ lc 16 q.1.2 10000 (by decide) w w o M M O R a b V W
   obtain⟨c,rfl,_⟩:=(dK (t:=.pair L la) rfl).1 V
   obtain⟨c',rfl,_⟩:=(dK (t:=.pair L la) rfl).1 W
   split at h
   ·rename_i q
    cases h
    refine⟨.bool (aV (.pair L la) a b),U _ (fun o=>?_) (fun o=>?_),fun _ _=>dj.2 rfl⟩
    ·simp only[Bool.and_eq_true,Bool.not_eq_true']at q
     exact run_eqGuard_agg o .eql t ox oy c.toArray c'.toArray q.2
    ·rw[run_eql_struct,e o q]
     rfl
   ·rename_i q
    cases h
    refine⟨.bool (!aV (.pair L la) a b),U _ (fun o=>?_) (fun o=>?_),fun _ _=>dj.2 rfl⟩
    ·simp only[Bool.and_eq_true,Bool.not_eq_true']at q
     exact run_eqGuard_agg o .neq t ox oy c.toArray c'.toArray q.2
    ·rw[run_neq_struct,e o q]
     rfl
   ·cases h
  ·cases h
 ·rename_i lb L a
  split at h
  ·rename_i b u lf lc
   have lg:=ak.cO lf
   subst lg
   have e:∀o:World,(u.beq (.arr lb L)&&dJ P 16 t&&!(P.eqGuardType P.depth t))=true->(Op.equalIn 10000 t O R).run P o=.ok (aV (.arr lb L) a b) o:=by
    intro o q
    simp only[Bool.and_eq_true]at q
    have:=ag.eq_of_beq q.1.1
    subst this
    exact nY iu t _ lc 16 q.1.2 10000 (by decide) w w o M M O R a b V W
   obtain⟨c,rfl,_⟩:=(dK (t:=.arr lb L) rfl).1 V
   obtain⟨c',rfl,_⟩:=(dK (t:=.arr lb L) rfl).1 W
   split at h
   ·rename_i q
    cases h
    refine⟨.bool (aV (.arr lb L) a b),U _ (fun o=>?_) (fun o=>?_),fun _ _=>dj.2 rfl⟩
    ·simp only[Bool.and_eq_true,Bool.not_eq_true']at q
     exact run_eqGuard_agg o .eql t ox oy c.toArray c'.toArray q.2
    ·rw[run_eql_struct,e o q]
     rfl
   ·rename_i q
    cases h
    refine⟨.bool (!aV (.arr lb L) a b),U _ (fun o=>?_) (fun o=>?_),fun _ _=>dj.2 rfl⟩
    ·simp only[Bool.and_eq_true,Bool.not_eq_true']at q
     exact run_eqGuard_agg o .neq t ox oy c.toArray c'.toArray q.2
    ·rw[run_neq_struct,e o q]
     rfl
   ·cases h
  ·cases h
 ·cases h
def N0(k:IntKind)(n:Int):Int:=k.wrap (0-n)
def un(o:UnOp)(x:ak):Option ak:=
 match o,x with
 |.not,⟨.bool,b⟩=>some ⟨.bool,!b⟩
 |.neg,⟨.int k,n⟩=>some ⟨.int k,N0 k n⟩
 |_,_=>none
theorem Tr{op:UnOp}{x r:ak}{o:Value}(q:bc w M o x.t x.x)(h:un op x=some r):∃v,fF P (Op.unary op o) v/\∀w M,bc w M v r.t r.x:=by
 unfold un at h
 split at h
 ·obtain rfl:=dj.1 q
  cases h
  exact⟨_,fun w=>by simp[Op.unary],fun _ _=>dj.2 rfl⟩
 ·obtain rfl:=cJ.1 q
  cases h
  exact⟨_,fun w=>rfl,fun _ _=>cJ.2 rfl⟩
 ·cases h
def conv(P:Program)(src o:TypeId)(x:ak):Option ak:=
 match x,P.underlying src,P.underlying o with
 |⟨.int _,n⟩,some _,some (.int k)=>some ⟨.int k,k.wrap n⟩
 |⟨.int _,n⟩,some _,some .string=>some ⟨.str,(Utf8.encode n).data.toList⟩
 |⟨.str,s⟩,some .string,some .string=>some ⟨.str,s⟩
 |_,_,_=>none
theorem P8(n:Int):(Utf8.encode n).data.toList.length<=maxLen:=by
 have:(Utf8.encode n).data.toList.length<=4:=by
  unfold Utf8.encode
  dsimp only
  repeat' split
  all_goals simp
 exact Nat.le_trans this (by decide)
theorem RP{src L:TypeId}{x r:ak}{O:Value}(q:bc w M O x.t x.x)(h:conv P src L x=some r):∃v,fF P (convert src L O) v/\∀w M,bc w M v r.t r.x:=by
 unfold conv at h
 split at h
 ·rename_i R n d k o aj
  obtain rfl:=cJ.1 q
  cases h
  exact⟨_,fun w=>by simp[convert,run_underlying o,run_underlying aj,Conv.intToInt],fun _ _=>cJ.2 rfl⟩
 ·rename_i R n d o aj
  obtain rfl:=cJ.1 q
  cases h
  refine⟨.string (Utf8.encode n),fun w=>?_,fun _ _=>dV.2 ⟨?_,P8 n⟩⟩
  ·simp[convert,run_underlying o,run_underlying aj,Conv.intToString]
  ·congr 1
 ·rename_i s o aj
  obtain⟨rfl,U⟩:=dV.1 q
  cases h
  exact⟨_,fun w=>by simp[convert,run_underlying o,run_underlying aj],fun _ _=>dV.2 ⟨rfl,U⟩⟩
 ·cases h
end Go.Ev
namespace Go.Ev
open Go Go.RowKit
variable [bV]
def H5:Value->Option ao
 |.bool b=>some (.val .bool b)
 |.int k n=>some (.val (.int k) n)
 |.string s=>bif Nat.ble s.data.toList.length maxLen then some (.val .str s.data.toList)else none
 |.nilIface=>some (.val .err none)
 |.pointer none=>some .any
 |.nilFunc=>some .any
 |_=>none
def aO(st:af):Operand->Option ao
 |.tmp t=>look st.ab t
 |.const v=>H5 v
 |.func f=>some (.clos f [])
 |.global _=>none
def cY(st:af)(x:Operand):Option ak:=
 match aO st x with
 |some (.val t x)=>some ⟨t,x⟩
 |_=>none
variable {cx:bx} {m:Nat->Value} {st:af} {T:Array Value} {w w':World}
variable [ah cx]
theorem EZ{t:Nat}{v:Value}(h:T[t]? =some v):(Act.eval ⟨T,ah.D cx⟩ (.tmp t))=v:=by
 show T.getD t undef=v
 rw[Array.getD_eq_getD_getElem?,h]
 rfl
theorem a8(h:an cx m st T w){x:Operand}{s:ao}(o:aO st x=some s):aN w (ar cx m st.ids) m (Act.eval ⟨T,ah.D cx⟩ x) s:=by
 cases x with
 |tmp t=>
  obtain⟨v,O,R⟩:=h.cv t s (aW o)
  rw[EZ O]
  exact R
 |const v=>
  cases v<;>simp only[aO,H5]at o
  case bool b=>cases o;exact dj.2 rfl
  case int k n=>cases o;exact cJ.2 rfl
  case pointer p=>cases p with
   |none=>cases o;exact trivial
   |some a=>cases o
  case nilFunc=>cases o;exact trivial
  case nilIface=>cases o;exact(bA (t:=.err) rfl).2 (.inl ⟨rfl,rfl⟩)
  case string L=>
   cases q:Nat.ble L.data.toList.length maxLen with
   |false=>rw[q]at o;cases o
   |true=>
    rw[q]at o
    cases o
    exact dV.2 ⟨by cases L;simp[Act.eval],Nat.le_of_ble_eq_true q⟩
  all_goals cases o
 |func f=>cases o;rfl
 |global g=>cases o
theorem cK(h:an cx m st T w){x:Operand}{u:ak}(o:cY st x=some u):bc w (ar cx m st.ids) (Act.eval ⟨T,ah.D cx⟩ x) u.t u.x:=by
 unfold cY at o
 split at o
 ·rename_i t y q
  cases o
  exact a8 h q
 ·cases o
def j5(st:af):ao->ao
 |.row r=>match look st.rw r with
  |some c=>.val (.ab c.t) c.xs
  |none=>.row r
 |.iter b=>match look st.ad b with
  |some (.mp k v ps)=>.val (.map k v) (some ps)
  |_=>.iter b
 |s=>s
theorem DR(h:an cx m st T w){v:Value}{s:ao}(o:aN w (ar cx m st.ids) m v s):aN w (fun _=>False) m v (j5 st s):=by
 have q:∀b,b<w.heap.size->¬ar cx m st.ids b->w.heap[b]? =w.heap[b]? :=fun _ _ _=>rfl
 have L:∀b,b<w.heap.size->False->ar cx m st.ids b:=fun _ _ h=>h.elim
 have O:=eN (M':=fun _=>False) q L o
 cases s with
 |row r=>
  simp only[j5]
  split
  ·rename_i c R
   have e:v=m r:=o
   rw[e]
   exact(bA (t:=.ab c.t) rfl).2 (h.qK (aW R) (fun b _ U=>U.elim) fun g _ U=>U)
  ·exact O
 |iter b=>
  simp only[j5]
  split
  ·rename_i k v' ps R
   have e:v=m b:=o
   obtain⟨g,V,_,es,W,Y,Z,la,lb⟩:=h.box (aW R)
   rw[e]
   exact(bA (t:=.map k v') rfl).2 ⟨g,es,W,by rw[V];rfl,Y,fun h=>h.elim,Z,la,ge (fun _ _ h=>cT q L h) (fun _ _ h=>cT q L h) lb⟩
  ·exact O
 |_=>exact O
def aq{α:Type}(xs:List α)(i:Int):Option α:=if 0<=i then xs[i.toNat]? else none
def fa(s:List UInt8)(i:Int):Option Int:=match aq s i with
 |some b=>some (b.toNat:Int)
 |none=>none
theorem gS{α:Type}{xs:List α}{i:Int}{x:α}(h:aq xs i=some x):0<=i/\i<xs.length/\xs[i.toNat]? =some x:=by
 unfold aq at h
 split at h
 ·rename_i o
  have:=(List.getElem?_eq_some_iff.1 h).1
  exact⟨o,by omega,h⟩
 ·cases h
def dD{α:Type}(s:List α)(o q:Int):Option (List α):=if 0<=o/\o<=q/\q<=s.length then some ((s.take q.toNat).drop o.toNat)else none
theorem qT{α:Type}{s r:List α}{o q:Int}(h:dD s o q=some r):0<=o/\o<=q/\q<=s.length/\r=(s.take q.toNat).drop o.toNat:=by
 unfold dD at h
 split at h
 ·rename_i L;cases h;exact⟨L.1,L.2.1,L.2.2,rfl⟩
 ·cases h
def ke(P:Program)(w:World)(s:Sem Value)(v:Value):Prop:=∀w',Ext w w'->s.run P w'=.ok v w'
theorem fF.steady{P:Program}{s:Sem Value}{v:Value}(h:fF P s v):ke P w s v:=fun w' _=>h w'
def eQ(xs:List Int):List UInt8:=xs.map fun n=>UInt8.ofNat n.toNat
def dC(xs:List Int):List UInt8:=(runesBytes xs).data.toList
def kH(s:List UInt8):Nat->Nat->List Int
 |0,_=>[]
 |n+1,i=>if i<s.length then((Utf8.decode (bytesOf s) i).1:Int)::kH s n (i+(Utf8.decode (bytesOf s) i).2)else[]
def eb(s:List UInt8):List Int:=kH s s.length 0
theorem tg{w:World}{M:Nat->Prop}{k:IntKind}:∀{xs:List Int} {cs:List Value},bL (aK w M (.int k)) cs xs->cs=xs.map (Value.int k)
 |[],_,h=>h
 |x::xs,_,⟨q,c2,e,o,L⟩=>by
  have o:q=[.int k x]:=o
  rw[e,o,tg L]
  rfl
theorem foldl_push:∀(l:List Int) (r:ByteArray),l.foldl (fun r n=>r.push (UInt8.ofNat n.toNat)) r=⟨r.data++(eQ l).toArray⟩
 |[],r=>by simp[eQ]
 |b::l,r=>by
  simp only[List.foldl_cons]
  rw[foldl_push l]
  simp[ByteArray.push,eQ]
theorem Sw{P:Program}{src o e:TypeId}(U:P.underlying src=some (.slice e))(V:P.underlying e=some (.int .u8))(aj:P.underlying o=some .string){v:Value}{xs:List Int}(q:bc w (fun _=>False) v (.ab (.int .u8)) xs):
  ke P w (convert src o v) (.string (bytesOf (eQ xs)))/\(eQ xs).length<=maxLen:=by
 obtain⟨a,cap,cells,L,W,Y,Z,la,lb⟩:∃(a:Option Addr) (cap:Nat) (cells:List Value),[v]=[.slice a (List.length (α:=Int) xs) cap]/\List.length (α:=Int) xs<=cap/\cap<=maxLen/\(a=none->cap=0)/\
  bL (aK w (fun _=>False) (.int .u8)) cells xs/\∀j u,cells[j]? =some u->∃b,a=some b/\w.cell? (b.add j)=some u/\¬False:=(bA (t:=.ab (.int .u8)) rfl).1 q
 clear q
 simp only[List.cons.injEq,and_true]at L
 subst L
 have lc:=tg la
 subst lc
 refine⟨fun w' ld=>?_,by unfold eQ;rw[List.length_map];exact Nat.le_trans W Y⟩
 rw[run_convert_bytes_string w' src o e a _ _ U V aj]
 cases a with
 |none=>
  have li:=Z rfl
  have le:xs=[]:=List.eq_nil_of_length_eq_zero (by omega)
  subst le
  rfl
 |some b=>
  have O:=run_loadCells_list (P:=P) w' b (xs.map (Value.int .u8)) (fun j u lf=>by
   obtain⟨lj,lg,R,_⟩:=lb j u lf
   cases lg
   rw[World.cell?_of_block (w:=w) (ld.block _ (World.block_lt_of_cell? w _ R))]
   exact R)
  rw[List.length_map]at O
  rw[run_bytesToString w' b xs.length cap xs O,foldl_push]
  have lh:ByteArray.empty.data=#[]:=rfl
  rw[lh]
  simp[bytesOf]
theorem Lt{P:Program}{src o e:TypeId}(q:P.underlying src=some (.slice e))(L:P.underlying e=some (.int .i32))(aj:P.underlying o=some .string){v:Value}{xs:List Int}(O:bc w (fun _=>False) v (.ab (.int .i32)) xs):
  ke P w (convert src o v) (.string (bytesOf (dC xs))):=by
 obtain⟨a,cap,cells,R,lf,lg,W,Y,Z⟩:∃(a:Option Addr) (cap:Nat) (cells:List Value),[v]=[.slice a (List.length (α:=Int) xs) cap]/\List.length (α:=Int) xs<=cap/\cap<=maxLen/\(a=none->cap=0)/\
  bL (aK w (fun _=>False) (.int .i32)) cells xs/\∀j u,cells[j]? =some u->∃b,a=some b/\w.cell? (b.add j)=some u/\¬False:=(bA (t:=.ab (.int .i32)) rfl).1 O
 clear O
 simp only[List.cons.injEq,and_true]at R
 subst R
 have la:=tg Y
 subst la
 intro w' lb
 have lc:bytesOf (dC xs)=runesBytes xs:=by unfold bytesOf dC;simp
 rw[lc]
 cases a with
 |none=>
  have lh:=W rfl
  have ld:xs=[]:=List.eq_nil_of_length_eq_zero (by omega)
  subst ld
  rw[run_convert_runes_nil w' src o e _ _ q L aj]
  rfl
 |some b=>
  rw[run_convert_runes w' src o e b xs.length cap xs (Nat.le_refl _) q L aj (fun j U=>?_),List.take_length]
  obtain⟨li,le,V,_⟩:=Z j (.int .i32 (xs.getD j 0)) (by rw[List.getElem?_map,List.getElem?_eq_getElem U];simp[List.getD_eq_getElem?_getD,U])
  cases le
  rw[World.cell?_of_block (w:=w) (lb.block _ (World.block_lt_of_cell? w _ V))]
  exact V
theorem DC(s:List UInt8):∀(n i:Nat) (o:Array Value),Conv.runesFrom (bytesOf s) n i o=o++((kH s n i).map (Value.int .i32)).toArray
 |0,_,o=>by simp[Conv.runesFrom,kH]
 |n+1,i,o=>by
  unfold Conv.runesFrom kH
  rw[gH]
  split
  ·simp only[]
   rw[DC s n]
   simp
  ·simp
theorem EW(s:List UInt8):∀(n i:Nat),(kH s n i).length<=n
 |0,_=>by simp[kH]
 |n+1,i=>by
  unfold kH
  split
  ·have:=EW s n (i+(Utf8.decode (bytesOf s) i).2);simp only[List.length_cons];omega
  ·simp
theorem add_zero(a:Addr):a.add 0=a:=by simp[Addr.add]
theorem add_add(a:Addr)(i j:Nat):(a.add i).add j=a.add (i+j):=by
 unfold Addr.add
 by_cases o:i=0<;>by_cases q:j=0<;>simp[o,q,Nat.add_assoc]
theorem fR(g aa n:Nat):(⟨g,aa,none⟩:Addr).add n=⟨g,aa+n,none⟩:=by
 unfold Addr.add
 split
 ·rename_i h;simp[h]
 ·rfl
def Holds(w:World)(M:Nat->Prop)(a:Addr)(t:ag)(x:t.el):Prop:=∃cells,aK w M t cells x/\∀j u,cells[j]? =some u->w.cell? (a.add j)=some u/\¬M a.block
theorem Holds.part{M:Nat->Prop}{a:Addr}{t:ag}{x:t.el}(h:Holds w M a t x){off:Nat}{u:ag}{y:u.el}(q:ct t x off u=some y):Holds w M (a.add off) u y:=by
 obtain⟨cells,L,O⟩:=h
 obtain⟨R,c2,c3,rfl,Z,U⟩:=ml t L q
 refine⟨c2,U,fun j v o=>?_⟩
 have la:=(List.getElem?_eq_some_iff.1 o).1
 have V:(R++c2++c3)[off+j]? =some v:=by
  rw[List.append_assoc,List.getElem?_append_right (by omega),List.getElem?_append_left (by omega),<-o]
  congr 1
  omega
 obtain⟨W,Y⟩:=O _ _ V
 exact⟨by rw[add_add];exact W,by rw[iC];exact Y⟩
theorem zt{P:Program}{w:World}{a:Addr}{cells:List Value}(h:∀j u,cells[j]? =some u->w.cell? (a.add j)=some u):(loadCells a cells.length).run P w=.ok cells.toArray w:=
 run_loadCells_list (P:=P) w a cells h
theorem Qc{P:Program}{a:Addr}{M:Nat->Prop}{tid d:Nat}{t:ag}{x:t.el}(R:cH P d tid=some t)(h:Holds w M a t x)(Z:0<t.cells):
  ∃v,ke P w (loadVar tid a) v/\bc w M v t x:=by
 obtain⟨cells,U,W⟩:=h
 have o:=b6 t U
 have V:∀w',Ext w w'->∀j u,cells[j]? =some u->w'.cell? (a.add j)=some u:=by
  intro w' q j u Y
  have L:=(W j u Y).1
  rw[World.cell?_of_block (w:=w) (q.block _ (World.block_lt_of_cell? w _ L))]
  exact L
 cases O:t.agg with
 |true=>
  refine⟨.agg cells.toArray,fun w' q=>?_,(dK O).2 ⟨cells,rfl,U⟩⟩
  unfold loadVar
  rw[Sem.run_bind,iV R,O]
  simp only[Result.andThen_ok,if_true,Sem.run_bind,eB R]
  rw[<-o,zt (V w' q)]
  rfl
 |false=>
  have la:t.cells=1:=by cases t<;>first|rfl|(simp[ag.agg]at O)
  match cells,o with
  |[c],_=>
   refine⟨c,fun w' q=>?_,(bA O).2 U⟩
   have L:=V w' q 0 c rfl
   rw[add_zero]at L
   unfold loadVar
   rw[Sem.run_bind,iV R,O]
   simp only[Result.andThen_ok,Bool.false_eq_true,if_false]
   simp[load,Sem.run,L]
  |[],o=>simp at o;omega
  |_::_::_,o=>simp at o;omega
def fieldInfo(P:Program)(s:TypeId)(f:Nat):Option (Nat×ag):=
 match P.underlying s with
 |some (.struct q)=>match q[f]? with
  |some o=>match ty P o.type with
   |some u=>bif Nat.beq u.cells 0 then none else some (o.offset,u)
   |none=>none
  |none=>none
 |_=>none
theorem r4{P:Program}{s:TypeId}{f off:Nat}{u:ag}(h:fieldInfo P s f=some (off,u)):
  ∃q o,P.underlying s=some (.struct q)/\q[f]? =some o/\ty P o.type=some u/\o.offset=off/\0<u.cells:=by
 unfold fieldInfo at h
 split at h
 ·rename_i q O
  split at h
  ·rename_i o R
   split at h
   ·rename_i U V
    cases L:Nat.beq U.cells 0 with
    |true=>rw[L]at h;cases h
    |false=>
     rw[L]at h
     cases h
     exact⟨q,o,O,R,V,rfl,Nat.pos_of_ne_zero (beq_false L)⟩
   ·cases h
  ·cases h
 ·cases h
theorem kO{P:Program}{s:TypeId}{f off:Nat}{u:ag}(h:fieldInfo P s f=some (off,u))(a:Addr)(w:World):
  (Instr.fieldAt s (.pointer (some a)) f).run P w=.ok (.pointer (some (a.add off))) w:=by
 obtain⟨R,U,o,q,L,rfl,V⟩:=r4 h
 have O:¬u.cells=0:=by omega
 simp only[Instr.fieldAt,Sem.run_bind,run_underlying o,Result.andThen_ok,q,Instr.sureAddr,Sem.run_pure,fieldPlace,eB L,if_neg O]
theorem Qr{P:Program}{s:TypeId}{f off:Nat}{u:ag}(h:fieldInfo P s f=some (off,u)){M:Nat->Prop}{t:ag}{x:t.el}{v:Value}(W:t.agg=true)(Y:bc w M v t x){y:u.el}(Z:ct t x off u=some y):
  ∃r,fF P (Instr.field s v f) r/\bc w M r u y:=by
 obtain⟨le,la,R,U,L,rfl,lf⟩:=r4 h
 obtain⟨lg,rfl,lb⟩:=(dK W).1 Y
 obtain⟨lc,c2,c3,rfl,V,O⟩:=ml t lb Z
 have o:=b6 u O
 cases q:u.agg with
 |true=>
  refine⟨.agg c2.toArray,fun w'=>?_,(dK q).2 ⟨c2,rfl,O⟩⟩
  simp only[Instr.field,Sem.run_bind,run_underlying R,Result.andThen_ok,U,asAgg,Sem.run_pure,part,iV L,q,if_true,eB L]
  congr 2
  apply Array.ext'
  rw[Array.toList_extract,List.extract_eq_take_drop,<-V,<-o]
  simp
 |false=>
  have lh:u.cells=1:=by cases u<;>first|rfl|(simp[ag.agg]at q)
  match c2,o with
  |[c],_=>
   refine⟨c,fun w'=>?_,(bA q).2 O⟩
   have ld:(lc++[c]++c3).toArray[la.offset]? =some c:=by
    rw[List.getElem?_toArray,<-V];simp
   simp only[Instr.field,Sem.run_bind,run_underlying R,Result.andThen_ok,U,asAgg,Sem.run_pure,part,iV L,q,Bool.false_eq_true,if_false,ld]
  |[],o=>simp at o;omega
  |_::_::_,o=>simp at o;omega
end Go.Ev
