/- The layouts of library functions at this program, as the kit's own tool wrote them. -/
import Derived.Test.YteopobecmacgdaaGreatDoorProg
import Derived.Shelf.Unicode.DecodeAny
import Derived.KernelRfl
import Derived.WalkKit
import Derived.IntWalk
import Derived.ChangeKeysEq
import Derived.Lib.Strings
import Derived.Laws.IdiomStrings
import Derived.Laws.Cover4
set_option linter.unusedSectionVars false
set_option linter.unusedVariables false
set_option linter.unusedSimpArgs false
namespace Go.Ev
open Go Go.Proofs Go.Shelf
set_option maxRecDepth 100000
def V3:Go.Shelf.Ren:=⟨fun|197=>158|260=>192|n=>n,fun|9=>9|21=>21|3=>3|4=>4|5=>5|105=>274|119=>269|0=>0|46=>233|139=>272|138=>271|n=>n,fun|3=>0|4=>1|n=>n⟩
theorem OG:Go.Proofs.Lays.n197 Tryz.prog V3:={
 mixed:=by kernel_rfl
 f197:=Tryz.func158.trans (congrArg some (by kernel_rfl))
 f260:=Tryz.func192.trans (congrArg some (by kernel_rfl))
 t0:=Tryz.underlying0
 a0:=Tryz.isAgg0
 z0:=Tryz.sizeOf0
 v0:=Tryz.zeroValue0
 t3:=Tryz.underlying3
 a3:=Tryz.isAgg3
 z3:=Tryz.sizeOf3
 v3:=Tryz.zeroValue3
 t4:=Tryz.underlying4
 a4:=Tryz.isAgg4
 z4:=Tryz.sizeOf4
 v4:=Tryz.zeroValue4
 t5:=Tryz.underlying5
 a5:=Tryz.isAgg5
 z5:=Tryz.sizeOf5
 v5:=Tryz.zeroValue5
 t9:=Tryz.underlying9
 a9:=Tryz.isAgg9
 z9:=Tryz.sizeOf9
 v9:=Tryz.zeroValue9
 t21:=Tryz.underlying21
 a21:=Tryz.isAgg21
 z21:=Tryz.sizeOf21
 v21:=Tryz.zeroValue21
 t46:=Tryz.underlying233
 a46:=Tryz.isAgg233
 z46:=Tryz.sizeOf233
 v46:=Tryz.zeroValue233
 t105:=Tryz.underlying274
 a105:=Tryz.isAgg274
 z105:=Tryz.sizeOf274
 v105:=Tryz.zeroValue274
 t119:=Tryz.underlying269
 a119:=Tryz.isAgg269
 z119:=Tryz.sizeOf269
 t138:=Tryz.underlying271
 a138:=Tryz.isAgg271
 z138:=Tryz.sizeOf271
 v138:=Tryz.zeroValue271
 t139:=Tryz.underlying272
 a139:=Tryz.isAgg272
 z139:=Tryz.sizeOf272
 v139:=Tryz.zeroValue272
 g3:=by kernel_rfl
 g4:=by kernel_rfl}
def HG:Go.Shelf.Ren:=⟨fun|260=>192|n=>n,fun|9=>9|21=>21|3=>3|4=>4|5=>5|119=>269|0=>0|46=>233|139=>272|138=>271|n=>n,fun|3=>0|4=>1|n=>n⟩
theorem SB:Go.Proofs.Lays.n260 Tryz.prog HG:={
 mixed:=by kernel_rfl
 f260:=Tryz.func192.trans (congrArg some (by kernel_rfl))
 t0:=Tryz.underlying0
 a0:=Tryz.isAgg0
 z0:=Tryz.sizeOf0
 v0:=Tryz.zeroValue0
 t3:=Tryz.underlying3
 a3:=Tryz.isAgg3
 z3:=Tryz.sizeOf3
 v3:=Tryz.zeroValue3
 t4:=Tryz.underlying4
 a4:=Tryz.isAgg4
 z4:=Tryz.sizeOf4
 v4:=Tryz.zeroValue4
 t5:=Tryz.underlying5
 a5:=Tryz.isAgg5
 z5:=Tryz.sizeOf5
 v5:=Tryz.zeroValue5
 t9:=Tryz.underlying9
 a9:=Tryz.isAgg9
 z9:=Tryz.sizeOf9
 v9:=Tryz.zeroValue9
 t21:=Tryz.underlying21
 a21:=Tryz.isAgg21
 z21:=Tryz.sizeOf21
 v21:=Tryz.zeroValue21
 t46:=Tryz.underlying233
 a46:=Tryz.isAgg233
 z46:=Tryz.sizeOf233
 v46:=Tryz.zeroValue233
 t119:=Tryz.underlying269
 a119:=Tryz.isAgg269
 z119:=Tryz.sizeOf269
 t138:=Tryz.underlying271
 a138:=Tryz.isAgg271
 z138:=Tryz.sizeOf271
 v138:=Tryz.zeroValue271
 t139:=Tryz.underlying272
 a139:=Tryz.isAgg272
 z139:=Tryz.sizeOf272
 v139:=Tryz.zeroValue272
 g3:=by kernel_rfl
 g4:=by kernel_rfl}
end Go.Ev
namespace Go.Ev
open Go
inductive ag where
 |int (k:IntKind)
 |bool
 |str
 |ab (t:ag)
 |unit
 |pair (a b:ag)
 |ptr (t:ag)
 |fn (f:Nat) (t:ag)
 |err
 |arr (n:Nat) (t:ag)
 |map (k v:ag)
 |cy
 /-- An interface value that holds a value of the type n. -/
 |cL (n:Nat) (t:ag)
 /-- .. that, or else what r says. -/
 |alt (n:Nat) (t r:ag)
def ag.el:ag->Type
 |.int _=>Int
 |.bool=>Bool
 |.str=>List UInt8
 |.ab t=>List t.el
 |.unit=>Unit
 |.pair a b=>a.el×b.el
 |.ptr t=>t.el
 |.fn _ t=>t.el
 |.err=>Option (Option (Nat×Int))
 |.arr _ t=>List t.el
 |.map k v=>Option (List (k.el×v.el))
 |.cy=>Unit
 |.cL _ t=>t.el
 |.alt _ t r=>t.el⊕r.el
def ag.cells:ag->Nat
 |.int _=>1
 |.bool=>1
 |.str=>1
 |.ab _=>1
 |.unit=>0
 |.pair a b=>a.cells+b.cells
 |.ptr _=>1
 |.fn _ _=>1
 |.err=>1
 |.arr n t=>n*t.cells
 |.map _ _=>1
 |.cy=>1
 |.cL _ _=>1
 |.alt _ _ _=>1
def ag.n9:ag->Bool
 |.unit=>true
 |.pair _ _=>true
 |_=>false
def ag.flat:ag->Bool
 |.int _=>true
 |.bool=>true
 |.str=>true
 |.ab _=>false
 |.unit=>true
 |.pair a b=>a.flat&&b.flat
 |.ptr _=>false
 |.fn _ _=>false
 |.err=>false
 |.arr _ t=>t.flat
 |.map _ _=>false
 |.cy=>false
 |.cL _ _=>false
 |.alt _ _ _=>false
def ag.agg:ag->Bool
 |.unit=>true
 |.pair _ _=>true
 |.arr _ _=>true
 |_=>false
theorem ag.VG{t:ag}(h:t.n9=true):t.agg=true:=by cases t<;>first|rfl|(simp[ag.n9]at h)
def gh:IntKind->IntKind->Bool
 |.i8,.i8=>true
 |.i16,.i16=>true
 |.i32,.i32=>true
 |.i64,.i64=>true
 |.u8,.u8=>true
 |.u16,.u16=>true
 |.u32,.u32=>true
 |.u64,.u64=>true
 |_,_=>false
theorem mr{a b:IntKind}(h:gh a b=true):a=b:=by cases a<;>cases b<;>first|rfl|(simp[gh]at h)
def ag.beq:ag->ag->Bool
 |.int k,.int l=>gh k l
 |.bool,.bool=>true
 |.str,.str=>true
 |.ab a,.ab b=>a.beq b
 |.unit,.unit=>true
 |.pair a b,.pair c d=>a.beq c&&b.beq d
 |.ptr a,.ptr b=>a.beq b
 |.fn f a,.fn g b=>Nat.beq f g&&a.beq b
 |.err,.err=>true
 |.arr n a,.arr m b=>Nat.beq n m&&a.beq b
 |.map a b,.map c d=>a.beq c&&b.beq d
 |.cy,.cy=>true
 |.cL n a,.cL m b=>Nat.beq n m&&a.beq b
 |.alt n a b,.alt m c d=>Nat.beq n m&&(a.beq c&&b.beq d)
 |_,_=>false
theorem ag.eq_of_beq:∀{a b:ag},a.beq b=true->a=b:=by
 intro a
 induction a with
 |int k=>intro b h;cases b<;>simp only[ag.beq,Bool.false_eq_true]at h;rw[mr h]
 |bool=>intro b h;cases b<;>first|rfl|(simp only[ag.beq,Bool.false_eq_true]at h)
 |str=>intro b h;cases b<;>first|rfl|(simp only[ag.beq,Bool.false_eq_true]at h)
 |ab t o=>intro b h;cases b<;>simp only[ag.beq,Bool.false_eq_true]at h;rw[o h]
 |unit=>intro b h;cases b<;>first|rfl|(simp only[ag.beq,Bool.false_eq_true]at h)
 |pair x y q L=>
  intro b h
  cases b<;>simp only[ag.beq,Bool.false_eq_true,Bool.and_eq_true]at h
  rw[q h.1,L h.2]
 |ptr t o=>intro b h;cases b<;>simp only[ag.beq,Bool.false_eq_true]at h;rw[o h]
 |fn f t o=>intro b h;cases b<;>simp only[ag.beq,Bool.false_eq_true,Bool.and_eq_true]at h;rw[Nat.eq_of_beq_eq_true h.1,o h.2]
 |err=>intro b h;cases b<;>first|rfl|(simp only[ag.beq,Bool.false_eq_true]at h)
 |cy=>intro b h;cases b<;>first|rfl|(simp only[ag.beq,Bool.false_eq_true]at h)
 |cL n t o=>intro b h;cases b<;>simp only[ag.beq,Bool.false_eq_true,Bool.and_eq_true]at h;rw[Nat.eq_of_beq_eq_true h.1,o h.2]
 |alt n x y q L=>
  intro b h
  cases b<;>simp only[ag.beq,Bool.false_eq_true,Bool.and_eq_true]at h
  rw[Nat.eq_of_beq_eq_true h.1,q h.2.1,L h.2.2]
 |arr n t o=>intro b h;cases b<;>simp only[ag.beq,Bool.false_eq_true,Bool.and_eq_true]at h;rw[Nat.eq_of_beq_eq_true h.1,o h.2]
 |map x y q L=>
  intro b h
  cases b<;>simp only[ag.beq,Bool.false_eq_true,Bool.and_eq_true]at h
  rw[q h.1,L h.2]
structure ak where
 t:ag
 x:t.el
def ak.as(v:ak)(u:ag):Option u.el:=
 match h:v.t.beq u with
 |true=>some (ag.eq_of_beq h▸v.x)
 |false=>none
def bM{α:Type}(f:List Value->α->Prop):List Value->List α->Prop
 |cs,[]=>cs=[]
 |cs,x::xs=>∃o c2,cs=o++c2/\f o x/\bM f c2 xs
def kR{α:Type}(agg:Bool)(f:List Value->α->Prop)(v:Value)(x:α):Prop:=
 if agg then∃o:List Value,v=.agg o.toArray/\f o x else f [v] x
def dQ{α β:Type}(o:Value->α->Prop)(q:Value->β->Prop):List MapEntry->List (α×β)->Prop
 |[],[]=>True
 |e::es,p::ps=>o e.key p.1/\q e.val p.2/\dQ o q es ps
 |_,_=>False
def L5{α β:Type}(w:World)(M:Nat->Prop)(L:Value->α->Prop)(O:Value->β->Prop)(o:List Value):Option (List (α×β))->Prop
 |none=>o=[.map none]
 |some ps=>∃(b:Nat) (es:Array MapEntry) (q:Nat),o=[.map (some b)]/\w.heap[b]? =some (.map es q)/\¬M b/\(∀e∈es.toList,e.born<q)/\(es.toList.map (·.born)).Nodup/\dQ L O es.toList ps
def rI{α β:Type}(n:Nat)(f:Value->α->Prop)(g:List Value->β->Prop)(o:List Value):α⊕β->Prop
 |.inl x=>∃v:Value,o=[.iface n v]/\f v x
 |.inr y=>o.length=1/\g o y
def aH(w:World)(M:Nat->Prop):(t:ag)->List Value->t.el->Prop
 |.int k,o,n=>o=[.int k n]
 |.bool,o,b=>o=[.bool b]
 |.str,o,s=>o=[.string ⟨s.toArray⟩]/\s.length<=maxLen
 |.ab t,o,xs=>∃(a:Option Addr) (cap:Nat) (cells:List Value),o=[.slice a xs.length cap]/\xs.length<=cap/\cap<=maxLen/\(a=none->cap=0)/\
   bM (aH w M t) cells xs/\∀j u,cells[j]? =some u->∃b,a=some b/\w.cell? (b.add j)=some u/\¬M b.block
 |.unit,o,_=>o=[]
 |.pair a b,o,x=>∃q c2,o=q++c2/\aH w M a q x.1/\aH w M b c2 x.2
 |.ptr t,o,x=>∃(a:Addr) (cells:List Value),o=[.pointer (some a)]/\aH w M t cells x/\∀j u,cells[j]? =some u->w.cell? (a.add j)=some u/\¬M a.block
 |.fn f t,o,x=>∃bs:List Value,o=[.func (.func f) #[] bs.toArray]/\aH w M t bs x
 |.err,o,b=>(b=none/\o=[.nilIface])\/(b=some none/\∃t v,o=[.iface t v])\/(∃t n,b=some (some (t,n))/\o=[.iface t (.int .i64 n)])
 |.arr n t,o,xs=>List.length (α:=t.el) xs=n/\bM (aH w M t) o xs
 |.map k v,o,x=>L5 w M (kR k.agg (aH w M k)) (kR v.agg (aH w M v)) o x
 |.cy,o,_=>∃v:Value,o=[v]/\v.oneCell'=true
 |.cL n t,o,x=>∃v:Value,o=[.iface n v]/\kR t.agg (aH w M t) v x
 |.alt n t r,o,x=>rI n (kR t.agg (aH w M t)) (aH w M r) o x
theorem di{α:Type}{f g:List Value->α->Prop}(h:∀c x,f c x->g c x):∀{xs:List α} {cs:List Value},bM f cs xs->bM g cs xs
 |[],_,o=>o
 |_::_,_,⟨q,c2,e,L,O⟩=>⟨q,c2,e,h _ _ L,di h O⟩
theorem rT{α:Type}{agg:Bool}{f g:List Value->α->Prop}(h:∀c x,f c x->g c x){v:Value}{x:α}(o:kR agg f v x):kR agg g v x:=by
 unfold kR at*
 split at o
 ·rename_i q;rw[if_pos q];obtain⟨L,e,O⟩:=o;exact⟨L,e,h _ _ O⟩
 ·rename_i q;rw[if_neg q];exact h _ _ o
theorem WR{α β:Type}{n:Nat}{f o:Value->α->Prop}{g q:List Value->β->Prop}(L:∀v x,f v x->o v x)(O:∀c y,g c y->q c y):∀{x:α⊕β} {cs:List Value},rI n f g cs x->rI n o q cs x
 |.inl _,_,⟨v,e,h⟩=>⟨v,e,L _ _ h⟩
 |.inr _,_,⟨e,h⟩=>⟨e,O _ _ h⟩
theorem R7{α β:Type}{n:Nat}{f:Value->α->Prop}{g:List Value->β->Prop}(q:∀c y,g c y->∀u∈c,u.oneCell'=true):∀{x:α⊕β} {cs:List Value},rI n f g cs x->cs.length=1/\∀u∈cs,u.oneCell'=true
 |.inl _,_,⟨v,e,_⟩=>by subst e;exact⟨rfl,fun u o=>by simp at o;subst o;rfl⟩
 |.inr _,_,⟨e,h⟩=>⟨e,q _ _ h⟩
theorem V8{α β:Type}{n:Nat}{f:Value->α->Prop}{g:List Value->β->Prop}:∀{x:α⊕β} {cs:List Value},rI n f g cs x->cs.length=1
 |.inl _,_,⟨v,e,_⟩=>by subst e;rfl
 |.inr _,_,⟨e,_⟩=>e
theorem gJ{α β:Type}{o q:Value->α->Prop}{L O:Value->β->Prop}(R:∀v x,o v x->q v x)(U:∀v x,L v x->O v x):∀{es:List MapEntry} {ps:List (α×β)},dQ o L es ps->dQ q O es ps
 |[],[],h=>h
 |[],_::_,h=>h.elim
 |_::_,[],h=>h.elim
 |_::_,_::_,⟨W,Y,Z⟩=>⟨R _ _ W,U _ _ Y,gJ R U Z⟩
theorem po{α β:Type}{o:Value->α->Prop}{q:Value->β->Prop}:∀{es:List MapEntry} {ps:List (α×β)},dQ o q es ps->es.length=ps.length
 |[],[],_=>rfl
 |[],_::_,h=>h.elim
 |_::_,[],h=>h.elim
 |_::_,_::_,⟨_,_,h⟩=>by simp[po h]
theorem fV{w:World}{b:Nat}{aa:Obj}(h:w.heap[b]? =some aa):b<w.heap.size:=by
 rcases Nat.lt_or_ge b w.heap.size with o|o
 ·exact o
 ·rw[Array.getElem?_eq_none o]at h;cases h
theorem jo(a:Addr)(n:Nat):(a.add n).block=a.block:=by unfold Addr.add;split<;>rfl
theorem cC{w w':World}{M M':Nat->Prop}(W:∀b,b<w.heap.size->¬M b->w'.heap[b]? =w.heap[b]?)(Y:∀b,b<w.heap.size->M' b->M b):
  ∀(t:ag) {cs:List Value} {x:t.el},aH w M t cs x->aH w' M' t cs x:=by
 intro t
 induction t with
 |int k=>exact fun h=>h
 |bool=>exact fun h=>h
 |str=>exact fun h=>h
 |unit=>exact fun h=>h
 |pair a b lc ld=>exact fun⟨le,c2,e,o,q⟩=>⟨le,c2,e,lc o,ld q⟩
 |ab t L=>
  rintro cs x ⟨a,cap,cells,e,o,q,Z,lf,lg⟩
  refine⟨a,cap,cells,e,o,q,Z,di (fun _ _=>L) lf,fun j u la=>?_⟩
  obtain⟨b,lb,R,U⟩:=lg j u la
  have O:b.block<w.heap.size:=by
   have:=World.block_lt_of_cell? w (b.add j) R
   rwa [jo]at this
  refine⟨b,lb,?_,fun h=>U (Y _ O h)⟩
  rw[World.cell?_of_block (w:=w) (by rw[jo];exact W _ O U)]
  exact R
 |ptr t L=>
  rintro cs x ⟨a,cells,e,o,q⟩
  refine⟨a,cells,e,L o,fun j u la=>?_⟩
  obtain⟨R,U⟩:=q j u la
  have O:a.block<w.heap.size:=by
   have:=World.block_lt_of_cell? w (a.add j) R
   rwa [jo]at this
  refine⟨?_,fun h=>U (Y _ O h)⟩
  rw[World.cell?_of_block (w:=w) (by rw[jo];exact W _ O U)]
  exact R
 |fn f t L=>exact fun⟨bs,e,h⟩=>⟨bs,e,L h⟩
 |err=>exact fun h=>h
 |cy=>exact fun h=>h
 |cL n t L=>exact fun⟨v,e,h⟩=>⟨v,e,rT (fun _ _=>L) h⟩
 |alt n t r lh li=>exact fun h=>WR (fun _ _=>rT fun _ _=>lh) (fun _ _=>li) h
 |arr n t L=>exact fun⟨o,q⟩=>⟨o,di (fun _ _=>L) q⟩
 |map k v lj lk=>
  intro cs x h
  match x,h with
  |none,h=>exact h
  |some ps,⟨b,es,ll,e,o,q,lb,lm,Z⟩=>
   have O:=fV o
   exact⟨b,es,ll,e,by rw[W b O q];exact o,fun R=>q (Y b O R),lb,lm,gJ (fun _ _=>rT fun _ _=>lj) (fun _ _=>rT fun _ _=>lk) Z⟩
theorem iq{w:World}{M:Nat->Prop}{t:ag}(q:∀(o:List Value) (x:t.el),aH w M t o x->o.length=t.cells):
  ∀(xs:List t.el) (o:List Value),bM (aH w M t) o xs->o.length=xs.length*t.cells
 |[],_,h=>by cases h;simp
 |x::xs,o,⟨R,c2,e,L,O⟩=>by
  subst e
  rw[List.length_append,q _ _ L,iq q xs c2 O,List.length_cons,Nat.succ_mul,Nat.add_comm]
theorem cf{w:World}{M:Nat->Prop}:∀(t:ag) {cs:List Value} {x:t.el},aH w M t cs x->cs.length=t.cells:=by
 intro t
 induction t with
 |int k=>intro cs x h;cases h;rfl
 |bool=>intro cs x h;cases h;rfl
 |str=>intro cs x h;cases h.1;rfl
 |unit=>intro cs x h;cases h;rfl
 |pair a b O R=>rintro cs x ⟨U,c2,e,q,L⟩;subst e;rw[List.length_append,O q,R L];rfl
 |ab t o=>rintro cs x ⟨a,cap,cells,e,_⟩;subst e;rfl
 |ptr t o=>rintro cs x ⟨a,cells,e,_⟩;subst e;rfl
 |fn f t o=>rintro cs x ⟨bs,e,_⟩;subst e;rfl
 |err=>rintro cs x (⟨_,e⟩|⟨_,t,v,e⟩|⟨t,n,_,e⟩)<;>subst e<;>rfl
 |cy=>rintro cs x ⟨v,e,_⟩;subst e;rfl
 |cL n t o=>rintro cs x ⟨v,e,_⟩;subst e;rfl
 |alt n t r W Y=>intro cs x h;exact V8 h
 |arr n t o=>
  rintro cs x ⟨q,L⟩
  have:=iq (fun cs x=>o) x cs L
  rw[this,q]
  rfl
 |map k v Z la=>
  intro cs x h
  match x,h with
  |none,h=>have h:cs=[.map none]:=h;rw[h];rfl
  |some ps,⟨b,es,lb,e,_⟩=>rw[e];rfl
theorem Gq{α:Type}{f:List Value->α->Prop}(h:∀c x,f c x->∀u∈c,u.oneCell'=true):∀{xs:List α} {cs:List Value},bM f cs xs->∀u∈cs,u.oneCell'=true
 |[],_,o,u,hu=>by cases o;cases hu
 |_::_,_,⟨O,c2,e,q,L⟩,u,hu=>by
  subst e
  rcases List.mem_append.1 hu with hu|hu
  ·exact h _ _ q u hu
  ·exact Gq h L u hu
theorem gy{w:World}{M:Nat->Prop}:∀(t:ag) {cs:List Value} {x:t.el},aH w M t cs x->∀u∈cs,u.oneCell'=true:=by
 intro t
 induction t with
 |int k=>intro cs x h u hu;cases h;simp at hu;subst hu;rfl
 |bool=>intro cs x h u hu;cases h;simp at hu;subst hu;rfl
 |str=>intro cs x h u hu;cases h.1;simp at hu;subst hu;rfl
 |unit=>intro cs x h u hu;cases h;simp at hu
 |pair a b O R=>
  rintro cs x ⟨Y,c2,e,L,q⟩ u hu
  subst e
  rcases List.mem_append.1 hu with hu|hu
  ·exact O L u hu
  ·exact R q u hu
 |ab t o=>rintro cs x ⟨a,cap,cells,e,_⟩ u hu;subst e;simp at hu;subst hu;rfl
 |ptr t o=>rintro cs x ⟨a,cells,e,_⟩ u hu;subst e;simp at hu;subst hu;rfl
 |fn f t o=>rintro cs x ⟨bs,e,_⟩ u hu;subst e;simp at hu;subst hu;rfl
 |err=>rintro cs x (⟨_,e⟩|⟨_,t,v,e⟩|⟨t,n,_,e⟩) u hu<;>subst e<;>simp at hu<;>subst hu<;>rfl
 |cy=>rintro cs x ⟨v,e,h⟩ u hu;subst e;simp at hu;subst hu;exact h
 |cL n t o=>rintro cs x ⟨v,e,h⟩ u hu;subst e;simp at hu;subst hu;rfl
 |alt n t r Z U=>intro cs x h u hu;exact(R7 (fun c y W u hu=>U W u hu) h).2 u hu
 |arr n t o=>rintro cs x ⟨L,q⟩ u hu;exact Gq (fun _ _=>o) q u hu
 |map k v la lb=>
  intro cs x h u hu
  match x,h with
  |none,h=>have h:cs=[.map none]:=h;rw[h]at hu;simp at hu;subst hu;rfl
  |some ps,⟨b,es,lc,e,_⟩=>rw[e]at hu;simp at hu;subst hu;rfl
theorem Gx{w w':World}{M M':Nat->Prop}:∀(t:ag) {cs:List Value} {x:t.el},t.flat=true->aH w M t cs x->aH w' M' t cs x:=by
 intro t
 induction t with
 |int k=>exact fun _ h=>h
 |bool=>exact fun _ h=>h
 |str=>exact fun _ h=>h
 |unit=>exact fun _ h=>h
 |pair a b R U=>intro cs x o ⟨W,c2,e,L,O⟩;simp only[ag.flat,Bool.and_eq_true]at o;exact⟨W,c2,e,R o.1 L,U o.2 O⟩
 |ab t q=>intro cs x o;simp[ag.flat]at o
 |ptr t q=>intro cs x o;simp[ag.flat]at o
 |fn f t q=>intro cs x o;simp[ag.flat]at o
 |err=>intro cs x o;simp[ag.flat]at o
 |cy=>intro cs x o;simp[ag.flat]at o
 |cL n t q=>intro cs x o;simp[ag.flat]at o
 |alt n t r Y Z=>intro cs x o;simp[ag.flat]at o
 |arr n t q=>intro cs x o ⟨L,O⟩;exact⟨L,di (fun _ _=>q o) O⟩
 |map k v la lb=>intro cs x o;simp[ag.flat]at o
def ba(w:World)(M:Nat->Prop)(v:Value)(t:ag)(x:t.el):Prop:=
 if t.agg then∃o:List Value,v=.agg o.toArray/\aH w M t o x else aH w M t [v] x
theorem jd{w:World}{M:Nat->Prop}{v:Value}{t:ag}{x:t.el}(h:ba w M v t x):aH w M t v.cells.toList x:=by
 unfold ba at h
 split at h
 ·obtain⟨W,rfl,h⟩:=h;simpa[Value.cells]using h
 ·rename_i L
  cases t with
  |int k=>cases h;rfl
  |bool=>cases h;rfl
  |str=>obtain⟨h,R⟩:=h;cases h;exact⟨rfl,R⟩
  |ab t=>obtain⟨a,cap,cells,e,r⟩:=h;cases e;exact⟨a,cap,cells,rfl,r⟩
  |ptr t=>obtain⟨a,cells,e,r⟩:=h;cases e;exact⟨a,cells,rfl,r⟩
  |fn f t=>obtain⟨bs,e,r⟩:=h;cases e;exact⟨bs,rfl,r⟩
  |err=>rcases h with ⟨o,e⟩|⟨o,t,v,e⟩|⟨t,n,o,e⟩<;>cases e;exact .inl ⟨o,rfl⟩;exact .inr (.inl ⟨o,t,v,rfl⟩);exact .inr (.inr ⟨t,n,o,rfl⟩)
  |cy=>
   obtain⟨u,e,q⟩:=h
   cases e
   have O:v.cells.toList=[v]:=by cases v<;>first|rfl|(simp[Value.oneCell']at q)
   exact⟨v,O,q⟩
  |cL n t=>obtain⟨u,e,r⟩:=h;cases e;exact⟨u,rfl,r⟩
  |alt n t r=>
   have q:=gy (.alt n t r) h v List.mem_cons_self
   have O:v.cells.toList=[v]:=by cases v<;>first|rfl|(simp[Value.oneCell']at q)
   rw[O]
   exact h
  |map k v'=>
   match x,h with
   |none,h=>have h:[v]=[.map none]:=h;cases h;rfl
   |some ps,⟨b,es,U,e,r⟩=>cases e;exact⟨b,es,U,rfl,r⟩
  |arr n t=>simp[ag.agg]at L
  |unit=>simp[ag.agg]at L
  |pair a b=>simp[ag.agg]at L
theorem dc{w w':World}{M M':Nat->Prop}(q:∀b,b<w.heap.size->¬M b->w'.heap[b]? =w.heap[b]?)(L:∀b,b<w.heap.size->M' b->M b)
  {v:Value}{t:ag}{x:t.el}(h:ba w M v t x):ba w' M' v t x:=by
 unfold ba at*
 split at h
 ·rename_i o;rw[if_pos o];obtain⟨O,rfl,h⟩:=h;exact⟨O,rfl,cC q L t h⟩
 ·rename_i o;rw[if_neg o];exact cC q L t h
theorem w5{w w':World}{M M':Nat->Prop}{v:Value}{t:ag}{x:t.el}(q:t.flat=true)(h:ba w M v t x):ba w' M' v t x:=by
 unfold ba at*
 split at h
 ·rename_i o;rw[if_pos o];obtain⟨L,rfl,h⟩:=h;exact⟨L,rfl,Gx t q h⟩
 ·rename_i o;rw[if_neg o];exact Gx t q h
def cI:(t:ag)->t.el->Nat->(u:ag)->Option u.el
 |.pair a b,x,off,u=>
  match Nat.beq off 0,ak.as ⟨.pair a b,x⟩ u with
  |true,some y=>some y
  |_,_=>bif Nat.blt off a.cells then cI a x.1 off u else cI b x.2 (off-a.cells) u
 |.arr n t,x,off,u=>
  match Nat.beq off 0,ak.as ⟨.arr n t,x⟩ u with
  |true,some y=>some y
  |_,_=>bif Nat.beq t.cells 0 then none else(match(show List t.el from x)[off/t.cells]? with
   |some z=>cI t z (off %t.cells) u
   |none=>none)
 |t,x,off,u=>bif Nat.beq off 0 then ak.as ⟨t,x⟩ u else none
def cp:(t:ag)->t.el->Nat->ak->Option t.el
 |.pair a b,x,off,v=>
  match Nat.beq off 0,v.as (.pair a b)with
  |true,some y=>some y
  |_,_=>bif Nat.blt off a.cells then(match cp a x.1 off v with|some y=>some (y,x.2)|none=>none)
   else(match cp b x.2 (off-a.cells) v with|some y=>some (x.1,y)|none=>none)
 |.arr n t,x,off,v=>
  match Nat.beq off 0,v.as (.arr n t)with
  |true,some y=>some y
  |_,_=>bif Nat.beq t.cells 0 then none else(match(show List t.el from x)[off/t.cells]? with
   |some z=>(match cp t z (off %t.cells) v with|some o=>some (List.set (show List t.el from x) (off/t.cells) o)|none=>none)
   |none=>none)
 |t,_,off,v=>bif Nat.beq off 0 then v.as t else none
end Go.Ev
namespace Go.Ev
open Go
inductive bV where
 |v (u:ak)
 |r (r:Nat)
 |a
def bV.is(b:Nat):bV->Bool
 |.r c=>Nat.beq c b
 |_=>false
inductive mC where
 |f (off:Nat) (u:ag)
 |x (j:Int) (o:Nat)
def fL:List mC->Nat
 |[]=>0
 |.f off _::p=>off+fL p
 |.x j o::p=>j.toNat*o+fL p
theorem rX:∀(p o:List mC),fL (p++o)=fL p+fL o
 |[],o=>by simp[fL]
 |.f off u::p,o=>by simp only[List.cons_append,fL,rX p o];omega
 |.x j q::p,o=>by simp only[List.cons_append,fL,rX p o];omega
inductive ao where
 |any
 |undef
 |val (t:ag) (x:t.el)
 |dD (l:List ak)
 |fM (l:List bV)
 |ptr (b off:Nat)
 |eX (b:Nat)
 |vptr (t:ag) (x:t.el)
 |row (r:Nat)
 |dN (r:Nat) (i:Int) (off o:Nat)
 |clos (f:Nat) (bs:List Nat)
 |iter (b:Nat)
 |dz (b:Nat) (p:List mC)
 |osl (b:Nat)
 |fC (b:Nat) (i:Int)
 |sub (b:Nat) (i:Int)
 |b9 (f b:Nat)
 |dM (b:Nat) (i:Int) (off o:Nat)
 |eV (b:Nat) (i j:Int) (off o:Nat)
 |ah (n:Int)
 |eO (l:List bV)
structure cE where
 e:Nat
 t:ag
 xs:List t.el
inductive eD where
 |mp (k v:ag)
 |row (e:Nat) (t:ag)
def eD.el:eD->Type
 |.mp k v=>Option (List (k.el×v.el))
 |.row _ t=>List t.el
structure dR where
 u:ag
 off:Nat
 e:Nat
 t:ag
inductive bT where
 |cells (l:List ao) (e:Nat)
 |iter (s:List UInt8) (pos:Nat)
 |mp (k v:ag) (ps:List (k.el×v.el))
 |cv (k v:ag) (left last:List (k.el×v.el))
 |aT (t:ag) (x:t.el) (e:Nat)
 |raw (f:World->(Nat->Prop)->Nat->Prop)
 |aZ (e:Nat) (k:eD) (xs:List (Option k.el))
 |bp (e:Nat) (k:dR) (xs:List k.u.el) (h:Option Int)
structure af where
 ab:List (Nat×ao)
 ad:List (Nat×bT)
 rw:List (Nat×cE)
def look{α:Type}:List (Nat×α)->Nat->Option α
 |[],_=>none
 |(k,v)::r,n=>bif Nat.beq k n then some v else look r n
def del{α:Type}:List (Nat×α)->Nat->List (Nat×α)
 |[],_=>[]
 |(k,v)::r,n=>bif Nat.beq k n then del r n else(k,v)::del r n
theorem a8{α:Type}{l:List (Nat×α)}{n:Nat}{v:α}(h:look l n=some v):(n,v)∈l:=by
 induction l with
 |nil=>simp[look]at h
 |cons p r q=>
  obtain⟨k,u⟩:=p
  unfold look at h
  cases o:Nat.beq k n with
  |true=>rw[o]at h;simp only[cond_true,Option.some.injEq]at h;subst h;rw[Nat.eq_of_beq_eq_true o];exact List.mem_cons_self
  |false=>rw[o]at h;exact List.mem_cons_of_mem _ (q h)
theorem cT{α:Type}{l:List (Nat×α)}{n k:Nat}{v:α}:(k,v)∈del l n↔(k,v)∈l/\k≠n:=by
 induction l with
 |nil=>simp[del]
 |cons p r R=>
  obtain⟨j,u⟩:=p
  unfold del
  cases L:Nat.beq j n with
  |true=>
   have O:=Nat.eq_of_beq_eq_true L
   simp only[cond_true,R,List.mem_cons,Prod.mk.injEq]
   constructor
   ·rintro⟨o,q⟩;exact⟨.inr o,q⟩
   ·rintro⟨⟨o,_⟩|o,q⟩
    ·exact absurd (o.trans O) q
    ·exact⟨o,q⟩
  |false=>
   have O:j≠n:=fun h=>by rw[h]at L;rw[Nat.beq_refl]at L;cases L
   simp only[cond_false,List.mem_cons,Prod.mk.injEq,R]
   constructor
   ·rintro(⟨o,q⟩|⟨o,q⟩)
    ·exact⟨.inl ⟨o,q⟩,o▸O⟩
    ·exact⟨.inr o,q⟩
   ·rintro⟨o|o,q⟩
    ·exact .inl o
    ·exact .inr ⟨o,q⟩
theorem kb{α:Type}(l:List (Nat×α))(n:Nat):(del l n).map (·.1)=(l.map (·.1)).filter (fun k=>!Nat.beq k n):=by
 induction l with
 |nil=>rfl
 |cons p r o=>
  obtain⟨j,u⟩:=p
  unfold del
  cases q:Nat.beq j n<;>simp[o,q]
def ao.refs(r:Nat):ao->Bool
 |.ptr b _=>Nat.beq b r
 |.eX b=>Nat.beq b r
 |.row b=>Nat.beq b r
 |.dN b _ _ _=>Nat.beq b r
 |.clos _ bs=>bs.any (Nat.beq · r)
 |.iter b=>Nat.beq b r
 |.dz b _=>Nat.beq b r
 |.osl b=>Nat.beq b r
 |.fC b _=>Nat.beq b r
 |.sub b _=>Nat.beq b r
 |.dM b _ _ _=>Nat.beq b r
 |.eV b _ _ _ _=>Nat.beq b r
 |.b9 _ b=>Nat.beq b r
 |.eO l=>l.any (bV.is r)
 |.fM l=>l.any (bV.is r)
 |_=>false
def ao.dl(r:Nat)(s:ao):ao:=bif s.refs r then .any else s
def bT.map(f:ao->ao):bT->bT
 |.cells l e=>.cells (l.map f) e
 |.iter s p=>.iter s p
 |.mp k v ps=>.mp k v ps
 |.cv k v l a=>.cv k v l a
 |.aT t x e=>.aT t x e
 |.raw f=>.raw f
 |.aZ e k xs=>.aZ e k xs
 |.bp e k xs h=>.bp e k xs h
def af.dl(st:af)(r:Nat):af:=
 {ab:=st.ab.map fun p=>(p.1,p.2.dl r),ad:=(del st.ad r).map fun p=>(p.1,p.2.map (ao.dl r)),rw:=del st.rw r}
def af.put(st:af)(d:Nat)(v:ao):af:={st with ab:=(d,v)::del st.ab d}
def af.ids(st:af):List Nat:=st.ad.map (·.1)++st.rw.map (·.1)
def aT:Value->Option Nat
 |.pointer (some a)=>some a.block
 |.slice (some a) _ _=>some a.block
 |.map (some r)=>some r
 |_=>none
def own:Value->Nat->Prop
 |.tuple us,b=>∃u∈us.toList,aT u=some b
 |v,b=>aT v=some b
theorem gi{v:Value}{b:Nat}(h:aT v=some b):own v b:=by
 cases v<;>first|exact h|(simp[aT]at h)
def bytesOf(s:List UInt8):ByteArray:=⟨s.toArray⟩
structure bB where
 P:Program
 n:Nat
 w0:World
 A:Nat->Prop
 X:Nat->Prop
 m0:Nat->Value
def ar(cx:bB)(m:Nat->Value)(ids:List Nat)(b:Nat):Prop:=cx.A b\/∃i∈ids,own (m i) b
def dL(w:World)(M:Nat->Prop):List Value->List ak->Prop
 |[],[]=>True
 |v::vs,u::us=>ba w M v u.t u.x/\dL w M vs us
 |_,_=>False
def cX(w:World)(M:Nat->Prop)(m:Nat->Value):List Value->List bV->Prop
 |[],[]=>True
 |v::vs,.v u::us=>ba w M v u.t u.x/\cX w M m vs us
 |v::vs,.r r::us=>v=m r/\cX w M m vs us
 |_::vs,.a::us=>cX w M m vs us
 |_,_=>False
def aS(w:World)(M:Nat->Prop)(m:Nat->Value)(v:Value):ao->Prop
 |.any=>True
 |.undef=>v=Go.undef
 |.val t x=>ba w M v t x
 |.dD l=>∃vs:List Value,v=.tuple vs.toArray/\dL w M vs l
 |.fM l=>∃vs:List Value,v=.tuple vs.toArray/\cX w M m vs l
 |.ptr b off=>∃g,m b=.pointer (some ⟨g,0,none⟩)/\v=.pointer (some ⟨g,off,none⟩)
 |.eX b=>v=.pointer none\/v=m b
 |.vptr t x=>∃a cells,v=.pointer (some a)/\aH w M t cells x/\∀j u,cells[j]? =some u->w.cell? (a.add j)=some u/\¬M a.block
 |.row r=>v=m r
 |.dN r i off o=>∃g n cap,m r=.slice (some ⟨g,0,none⟩) n cap/\v=.pointer (some ⟨g,i.toNat*o+off,none⟩)
 |.clos f bs=>v=.func (.func f) #[] (bs.map m).toArray
 |.iter b=>v=m b
 |.dz b p=>∃g,m b=.pointer (some ⟨g,0,none⟩)/\v=.pointer (some ⟨g,fL p,none⟩)
 |.osl b=>∃us,m b=.tuple (v::us).toArray
 |.fC b i=>∃g n cap us,m b=.tuple (.slice (some ⟨g,0,none⟩) n cap::us).toArray/\v=.pointer (some ⟨g,i.toNat,none⟩)
 |.sub b i=>∃r us,m b=.tuple (r::us).toArray/\us[i.toNat]? =some v
 |.b9 f b=>v=.func (.func f) #[m b] #[]
 |.dM b i off o=>∃g n cap us,m b=.tuple (.slice (some ⟨g,0,none⟩) n cap::us).toArray/\v=.pointer (some ⟨g,i.toNat*o+off,none⟩)
 |.eV b i j off o=>∃r us g n cap,m b=.tuple (r::us).toArray/\us[i.toNat]? =some (.slice (some ⟨g,0,none⟩) n cap)/\v=.pointer (some ⟨g,j.toNat*o+off,none⟩)
 |.ah n=>∃a k cap,v=.slice a k cap/\(k:Int)=n
 |.eO l=>∃vs:List Value,v=.agg vs.toArray/\cX w M m vs l
def ct(w:World)(M:Nat->Prop)(m:Nat->Value):List Value->List ao->Prop
 |[],[]=>True
 |v::vs,u::us=>aS w M m v u/\ct w M m vs us
 |_,_=>False
def dW(w:World)(M:Nat->Prop)(t:ag)(v:Value)(x:t.el):Prop:=kR t.agg (aH w M t) v x
def eZ(g:Nat):bT->Value
 |.cells _ _=>.pointer (some ⟨g,0,none⟩)
 |.iter _ _=>.pointer (some ⟨g,0,none⟩)
 |.mp _ _ _=>.map (some g)
 |.cv _ _ _ _=>.pointer (some ⟨g,0,none⟩)
 |.aT _ _ _=>.pointer (some ⟨g,0,none⟩)
 |.raw _=>.pointer (some ⟨g,0,none⟩)
 |.aZ _ _ _=>.pointer (some ⟨g,0,none⟩)
 |.bp _ _ _ _=>.pointer (some ⟨g,0,none⟩)
def ia(v:Value)(g:Nat):bT->Prop
 |.aZ _ _ _=>∃n cap us,v=.tuple (.slice (some ⟨g,0,none⟩) n cap::us).toArray
 |.bp _ _ _ _=>∃r us,v=.tuple (r::us).toArray
 |c=>v=eZ g c
def bT.one:bT->Bool
 |.bp _ _ _ _=>false
 |_=>true
theorem jS{c:bT}{f:ao->ao}:(c.map f).one=c.one:=by cases c<;>rfl
theorem gF{v:Value}{g:Nat}{c:bT}(h:ia v g c)(o:c.one=true):own v g:=by
 cases c with
 |aZ e k xs=>obtain⟨n,cap,us,rfl⟩:=h;exact⟨_,List.mem_cons_self,rfl⟩
 |bp e k xs q=>cases o
 |_=>cases h;rfl
theorem iT{v:Value}{g:Nat}{c:bT}{f:ao->ao}:ia v g (c.map f)↔ia v g c:=by cases c<;>exact Iff.rfl
def jK(w:World)(M:Nat->Prop)(u:Value):(k:eD)->k.el->Prop
 |.mp _ _,none=>u=.map none
 |.mp k v,some ps=>∃(r:Nat) (es:Array MapEntry) (o:Nat),u=.map (some r)/\w.heap[r]? =some (.map es o)/\(∀e∈es.toList,e.born<o)/\(es.toList.map (·.born)).Nodup/\dQ (dW w M k) (dW w M v) es.toList ps
 |.row e t,xs=>∃cells,w.ownsRow 0 e t.cells u (List.length (α:=t.el) xs) cells/\bM (aH w M t) cells xs
def gx(w:World)(M:Nat->Prop)(k:eD):List (Option k.el)->List Value->List Value->Prop
 |[],[],[]=>True
 |none::xs,_::us,o::q=>o=undef/\gx w M k xs us q
 |some x::xs,u::us,o::q=>o=u/\jK w M u k x/\gx w M k xs us q
 |_,_,_=>False
def j3(w:World)(M:Nat->Prop)(k:dR)(L:Prop)(R:List Value)(v:Value)(x:k.u.el):Prop:=
 ∃o v1 O,R=o.set k.off v1/\o[k.off]? =some (.slice none 0 0)/\v1.oneCell'=true/\cp k.u x k.off ⟨.ab k.t,[]⟩=some O/\aH w M k.u o O/\(L->v=undef)/\
  (¬L->v=v1/\∃(q:List k.t.el) (cells:List Value),cI k.u x k.off (.ab k.t)=some q/\w.ownsRow 0 k.e k.t.cells v q.length cells/\bM (aH w M k.t) cells q)
def gX(h:Option Int)(n:Nat):Prop:=∃i,h=some i/\i.toNat=n
def fl(w:World)(M:Nat->Prop)(k:dR)(h:Option Int):Nat->List k.u.el->List Value->List Value->Prop
 |_,[],o,us=>o=[]/\us=[]
 |n,x::xs,o,us=>∃c d v vs,o=c++d/\c.length=k.u.cells/\us=v::vs/\j3 w M k (gX h n) c v x/\fl w M k h (n+1) xs d vs
def gG(w:World)(M:Nat->Prop)(m:Nat->Value)(v:Value)(g:Nat):bT->Prop
 |.cells l e=>∃cells,w.heap[g]? =some (.cells cells e (0,0))/\ct w M m cells.toList l
 |.iter s p=>w.heap[g]? =some (.stringIter (bytesOf s) p)
 |.mp k v ps=>∃(es:Array MapEntry) (o:Nat),w.heap[g]? =some (.map es o)/\(∀e∈es.toList,e.born<o)/\(es.toList.map (·.born)).Nodup/\dQ (dW w M k) (dW w M v) es.toList ps
 |.cv k v left last=>(w.heap[g]? =some (.mapIter none 0 #[] 0)/\left=[]/\last=[])\/∃(b:Nat) (es:Array MapEntry) (o:Nat) (seen:Array Nat),w.heap[g]? =some (.mapIter (some b) o seen o)/\w.heap[b]? =some (.map es o)/\¬M b/\
   (∀e∈es.toList,e.born<o)/\(es.toList.map (·.born)).Nodup/\dQ (dW w M k) (dW w M v) (es.toList.filter fun e=>!seen.contains e.born) left/\
   (last=[]\/∃e p,last=[p]/\e∈es.toList/\seen.back?=some e.born/\dW w M k e.key p.1/\dW w M v e.val p.2)
 |.aT t x e=>∃cells,w.heap[g]? =some (.cells cells e (0,0))/\aH w M t cells.toList x
 |.raw f=>(∃aa,w.heap[g]? =some aa)/\∀(w':World) (M':Nat->Prop),(∀b,b<w.heap.size->¬M b->w'.heap[b]? =w.heap[b]?)->(∀b,b<w.heap.size->M' b->M b)->w'.heap[g]? =w.heap[g]? ->f w' M' g
 |.aZ e k xs=>∃n cap us q,v=.tuple (.slice (some ⟨g,0,none⟩) n cap::q).toArray/\w.ownsRow 0 e 1 (.slice (some ⟨g,0,none⟩) n cap) xs.length us/\gx w M k xs us q/\(g::q.filterMap aT).Nodup
 |.bp e k xs h=>∃ah us cells,v=.tuple (ah::us).toArray/\w.ownsRow 0 e k.u.cells ah xs.length cells/\fl w M k h 0 xs cells us/\((ah::us).filterMap aT).Nodup
class b8 where
 d:Prop
instance(priority:=low) XT:b8:=⟨False⟩
variable [b8]
class ai(cx:bB) where
 D:List Deferred
instance(priority:=low) X3(cx:bB):ai cx:=⟨[]⟩
structure Frame(w0 w:World)(X:Nat->Prop):Prop where
 os:w.os=w0.os
 tape:w.tape=w0.tape
 output:w.output=w0.output
 size:w0.heap.size<=w.heap.size
 block:∀b,b<w0.heap.size->¬X b->w.heap[b]? =w0.heap[b]?
 drawn:b8.d->w0.drawn<=w.drawn
def ep:Nat:=10000000
structure an(cx:bB)(m:Nat->Value)(st:af)(T:Array Value)(w:World):Prop where
 size:T.size=cx.n
 frame:Frame cx.w0 w cx.X
 outer:∀b,cx.A b->b<cx.w0.heap.size/\¬cx.X b
 cJ:∀i aO,(i,aO)∈st.ab->∃v,T[i]? =some v/\aS w (ar cx m st.ids) m v aO
 boxes:∀b c,(b,c)∈st.ad->∃g,ia (m b) g c/\(∀o,own (m b) o->cx.w0.heap.size<=o\/cx.X o)/\gG w (ar cx m st.ids) m (m b) g c
 rows:∀r c,(r,c)∈st.rw->∃cells,w.ownsRow 0 c.e c.t.cells (m r) c.xs.length cells/\(∀g,own (m r) g->cx.w0.heap.size<=g\/cx.X g)/\bM (aH w (ar cx m st.ids) c.t) cells c.xs
 apart:∀i j,i∈st.ids->j∈st.ids->i≠j->∀g,own (m i) g->¬own (m j) g
 keys:st.ids.Nodup
 fixed:∀b c,(b,c)∈st.ad->c.one=true->cx.n<=b->m b=cx.m0 b
 kept:∀r c,(r,c)∈st.rw->cx.n<=r->ep<=r->m r=cx.m0 r
def al(cx:bB)(st:af)(T:Array Value)(w:World):Prop:=∃m,an cx m st T w
def bx(m:Nat->Value)(r:Nat)(u:Value):Nat->Value:=fun i=>if i=r then u else m i
theorem cd(m:Nat->Value)(r:Nat)(u:Value):bx m r u r=u:=by simp[bx]
theorem cR(m:Nat->Value){r i:Nat}(u:Value)(h:i≠r):bx m r u i=m i:=by simp[bx,h]
theorem beq_false{a b:Nat}(h:Nat.beq a b=false):a≠b:=fun e=>by rw[e,Nat.beq_refl]at h;cases h
theorem rg{w w':World}{M M':Nat->Prop}(o:∀b,b<w.heap.size->¬M b->w'.heap[b]? =w.heap[b]?)(q:∀b,b<w.heap.size->M' b->M b):
  ∀{vs:List Value} {l:List ak},dL w M vs l->dL w' M' vs l
 |[],[],_=>trivial
 |[],_::_,h=>h.elim
 |_::_,[],h=>h.elim
 |_::_,_::_,⟨L,O⟩=>⟨dc o q L,rg o q O⟩
theorem pk{w w':World}{M M':Nat->Prop}{m:Nat->Value}(o:∀b,b<w.heap.size->¬M b->w'.heap[b]? =w.heap[b]?)(q:∀b,b<w.heap.size->M' b->M b):
  ∀{vs:List Value} {l:List bV},cX w M m vs l->cX w' M' m vs l
 |[],[],_=>trivial
 |[],_::_,h=>h.elim
 |_::_,[],h=>h.elim
 |_::_,.v _::_,⟨L,O⟩=>⟨dc o q L,pk o q O⟩
 |_::_,.r _::_,⟨L,O⟩=>⟨L,pk o q O⟩
 |_::vs,.a::us,h=>pk (vs:=vs) (l:=us) o q h
theorem p8{w:World}{M:Nat->Prop}{m:Nat->Value}{r:Nat}{u:Value}:∀{vs:List Value} {l:List bV},l.any (bV.is r)=false->cX w M m vs l->cX w M (bx m r u) vs l
 |[],[],_,_=>trivial
 |[],_::_,_,h=>h.elim
 |_::_,[],_,h=>h.elim
 |_::_,.v _::_,o,⟨q,L⟩=>⟨q,p8 (by rw[List.any_cons,Bool.or_eq_false_iff]at o;exact o.2) L⟩
 |_::vs,.a::us,o,h=>p8 (vs:=vs) (l:=us) (by rw[List.any_cons,Bool.or_eq_false_iff]at o;exact o.2) h
 |_::_,.r b::_,o,⟨q,L⟩=>by
  rw[List.any_cons,Bool.or_eq_false_iff]at o
  exact⟨by rw[cR _ _ (beq_false o.1)];exact q,p8 o.2 L⟩
theorem fh{w w':World}{M M':Nat->Prop}{m:Nat->Value}(o:∀b,b<w.heap.size->¬M b->w'.heap[b]? =w.heap[b]?)(q:∀b,b<w.heap.size->M' b->M b)
  {v:Value}{s:ao}(h:aS w M m v s):aS w' M' m v s:=by
 cases s with
 |any=>trivial
 |undef=>exact h
 |val t x=>exact dc o q h
 |dD l=>obtain⟨vs,e,h⟩:=h;exact⟨vs,e,rg o q h⟩
 |fM l=>obtain⟨vs,e,h⟩:=h;exact⟨vs,e,pk o q h⟩
 |ptr b off=>exact h
 |eX b=>exact h
 |vptr t x=>
  obtain⟨a,cells,e,W,Y⟩:=h
  refine⟨a,cells,e,cC o q t W,fun j u Z=>?_⟩
  obtain⟨L,O⟩:=Y j u Z
  have R:a.block<w.heap.size:=by
   have:=World.block_lt_of_cell? w (a.add j) L
   rwa [jo]at this
  refine⟨?_,fun h=>O (q _ R h)⟩
  rw[World.cell?_of_block (w:=w) (by rw[jo];exact o _ R O)]
  exact L
 |row r=>exact h
 |dN r i off U=>exact h
 |clos f bs=>exact h
 |iter b=>exact h
 |dz b p=>exact h
 |osl b=>exact h
 |fC b i=>exact h
 |sub b i=>exact h
 |b9 f b=>exact h
 |dM b i off U=>exact h
 |eV b i j off U=>exact h
 |ah n=>exact h
 |eO l=>obtain⟨vs,e,h⟩:=h;exact⟨vs,e,pk o q h⟩
theorem u7{w:World}{M:Nat->Prop}{m:Nat->Value}{r:Nat}{u:Value}{v:Value}{s:ao}(o:s.refs r=false)(h:aS w M m v s):aS w M (bx m r u) v s:=by
 cases s with
 |any=>trivial
 |undef=>exact h
 |val t x=>exact h
 |dD l=>exact h
 |fM l=>obtain⟨vs,e,h⟩:=h;exact⟨vs,e,p8 o h⟩
 |vptr t x=>exact h
 |ptr b off=>obtain⟨g,q,L⟩:=h;exact⟨g,by rw[cR _ _ (beq_false o)];exact q,L⟩
 |eX b=>show _\/v=_;rw[cR _ _ (beq_false o)];exact h
 |row b=>show v=_;rw[cR _ _ (beq_false o)];exact h
 |dN b i off U=>obtain⟨g,n,cap,q,L⟩:=h;exact⟨g,n,cap,by rw[cR _ _ (beq_false o)];exact q,L⟩
 |iter b=>show v=_;rw[cR _ _ (beq_false o)];exact h
 |dz b p=>obtain⟨g,q,L⟩:=h;exact⟨g,by rw[cR _ _ (beq_false o)];exact q,L⟩
 |osl b=>obtain⟨us,q⟩:=h;exact⟨us,by rw[cR _ _ (beq_false o)];exact q⟩
 |fC b i=>obtain⟨g,n,cap,us,q,L⟩:=h;exact⟨g,n,cap,us,by rw[cR _ _ (beq_false o)];exact q,L⟩
 |sub b i=>obtain⟨O,us,q,L⟩:=h;exact⟨O,us,by rw[cR _ _ (beq_false o)];exact q,L⟩
 |b9 f b=>show v=_;rw[cR _ _ (beq_false o)];exact h
 |dM b i off U=>obtain⟨g,n,cap,us,q,L⟩:=h;exact⟨g,n,cap,us,by rw[cR _ _ (beq_false o)];exact q,L⟩
 |eV b i j off U=>obtain⟨O,us,g,n,cap,q,L⟩:=h;exact⟨O,us,g,n,cap,by rw[cR _ _ (beq_false o)];exact q,L⟩
 |ah n=>exact h
 |eO l=>obtain⟨vs,e,h⟩:=h;exact⟨vs,e,p8 o h⟩
 |clos f bs=>
  have R:bs.map (bx m r u)=bs.map m:=by
   apply List.map_congr_left
   intro b R
   apply cR
   intro e
   have:=List.any_eq_false.1 o b R
   rw[e,Nat.beq_refl]at this
   exact this rfl
  show v=_
  rw[R]
  exact h
theorem Da{w:World}{M:Nat->Prop}{m:Nat->Value}(r:Nat)(u:Value){v:Value}{s:ao}(h:aS w M m v s):aS w M (bx m r u) v (s.dl r):=by
 unfold ao.dl
 cases o:s.refs r with
 |true=>trivial
 |false=>exact u7 o h
theorem pc{w w':World}{M M':Nat->Prop}{m ay:Nat->Value}{f:ao->ao}(o:∀v s,aS w M m v s->aS w' M' ay v (f s)):
  ∀{vs:List Value} {l:List ao},ct w M m vs l->ct w' M' ay vs (l.map f)
 |[],[],_=>trivial
 |[],_::_,h=>h.elim
 |_::_,[],h=>h.elim
 |_::_,_::_,⟨q,L⟩=>⟨o _ _ q,pc o L⟩
theorem HN{w w':World}{M M':Nat->Prop}{u:Value}(L:∀b,b<w.heap.size->¬M b->w'.heap[b]? =w.heap[b]?)(O:∀b,b<w.heap.size->M' b->M b)(U:∀b,aT u=some b->w'.heap[b]? =w.heap[b]?):
  ∀{k:eD} {x:k.el},jK w M u k x->jK w' M' u k x
 |.mp _ _,none,h=>h
 |.mp k v,some ps,⟨r,es,Z,W,q,R,o,la⟩=>⟨r,es,Z,W,by rw[U r (by rw[W];rfl)];exact q,R,o,gJ (fun _ _ h=>dc L O h) (fun _ _ h=>dc L O h) la⟩
 |.row e t,xs,⟨cells,q,R⟩=>by
  refine⟨cells,⟨q.1,?_⟩,di (fun _ _=>cC L O t) R⟩
  rcases q.2 with o|⟨g,cap,cur,Y,lb,o,rest⟩
  ·exact .inl o
  ·exact .inr ⟨g,cap,cur,Y,lb,by rw[U g (by rw[Y];rfl)];exact o,rest⟩
theorem oR{w w':World}{M M':Nat->Prop}{k:eD}(O:∀b,b<w.heap.size->¬M b->w'.heap[b]? =w.heap[b]?)(R:∀b,b<w.heap.size->M' b->M b):
  ∀{xs:List (Option k.el)} {us o:List Value},(∀u∈o,∀b,aT u=some b->w'.heap[b]? =w.heap[b]?)->gx w M k xs us o->gx w' M' k xs us o
 |[],[],[],_,_=>trivial
 |none::xs,_::us,Y::o,q,⟨L,U⟩=>⟨L,oR O R (fun u W=>q u (List.mem_cons_of_mem _ W)) U⟩
 |some x::xs,u::us,Y::o,q,⟨L,U,Z⟩=>⟨L,HN O R (L▸q Y List.mem_cons_self) U,oR O R (fun u W=>q u (List.mem_cons_of_mem _ W)) Z⟩
theorem Sf{w:World}{M:Nat->Prop}{u:Value}:∀{k:eD} {x:k.el},jK w M u k x->∀b,aT u=some b->b<w.heap.size
 |.mp _ _,none,h,b,o=>by cases h;cases o
 |.mp k v,some ps,⟨r,es,U,O,q,_⟩,b,o=>by rw[O]at o;cases o;exact fV q
 |.row e t,xs,⟨cells,q,W⟩,b,o=>by
  rcases q.2 with ⟨L,_⟩|⟨g,cap,cur,R,Y,L,rest⟩
  ·rw[L]at o;cases o
  ·rw[R]at o;cases o;exact fV L
theorem EO{w:World}{M:Nat->Prop}{k:eD}:∀{xs:List (Option k.el)} {us q:List Value},gx w M k xs us q->∀u∈q,∀b,aT u=some b->b<w.heap.size
 |[],[],[],_,u,hu,_,_=>by cases hu
 |none::xs,_::us,R::q,⟨L,O⟩,u,hu,b,o=>by
  rcases List.mem_cons.1 hu with rfl|hu
  ·rw[L]at o;cases o
  ·exact EO O u hu b o
 |some x::xs,W::us,R::q,⟨L,O,U⟩,u,hu,b,o=>by
  rcases List.mem_cons.1 hu with rfl|hu
  ·rw[L]at o;exact Sf O b o
  ·exact EO U u hu b o
theorem oZ{w w':World}{e q n:Nat}{v:Value}{cells:List Value}(h:w.ownsRow 0 e q v n cells)(O:∀b,aT v=some b->w'.heap[b]? =w.heap[b]?):w'.ownsRow 0 e q v n cells:=by
 refine⟨h.1,?_⟩
 rcases h.2 with o|⟨g,cap,cur,L,R,o,rest⟩
 ·exact .inl o
 ·exact .inr ⟨g,cap,cur,L,R,by rw[O g (by rw[L];rfl)];exact o,rest⟩
theorem vZ{w w':World}{M M':Nat->Prop}{k:dR}{out o:Prop}{cs:List Value}{v:Value}{x:k.u.el}(q:∀b,b<w.heap.size->¬M b->w'.heap[b]? =w.heap[b]?)(L:∀b,b<w.heap.size->M' b->M b)(O:out↔o)(R:∀b,aT v=some b->w'.heap[b]? =w.heap[b]?)
  (h:j3 w M k out cs v x):j3 w' M' k o cs v x:=by
 obtain⟨U,v1,W,Y,Z,la,lb,lc,ld,le⟩:=h
 refine⟨U,v1,W,Y,Z,la,lb,cC q L k.u lc,fun h=>ld (O.2 h),fun h=>?_⟩
 obtain⟨lf,lg,cells,lh,li,lj⟩:=le fun lk=>h (O.1 lk)
 exact⟨lf,lg,cells,lh,oZ li R,di (fun _ _=>cC q L k.t) lj⟩
theorem qL{w w':World}{M M':Nat->Prop}{k:dR}{h h':Option Int}(o:∀b,b<w.heap.size->¬M b->w'.heap[b]? =w.heap[b]?)(q:∀b,b<w.heap.size->M' b->M b):
  ∀{xs:List k.u.el} {n:Nat} {cs us:List Value},(∀m,n<=m->(gX h m↔gX h' m))->(∀u∈us,∀b,aT u=some b->w'.heap[b]? =w.heap[b]?)->fl w M k h n xs cs us->fl w' M' k h' n xs cs us
 |[],_,_,_,_,_,R=>R
 |x::xs,n,cs,us,L,O,⟨c,d,v,vs,U,W,Y,Z,la⟩=>by
  subst Y
  exact⟨c,d,v,vs,U,W,rfl,vZ o q (L n (Nat.le_refl n)) (O v List.mem_cons_self) Z,qL o q (fun m lc=>L m (by omega)) (fun u lb=>O u (List.mem_cons_of_mem _ lb)) la⟩
theorem OK{w:World}{M:Nat->Prop}{k:dR}{out:Prop}{cs:List Value}{v:Value}{x:k.u.el}(h:j3 w M k out cs v x){b:Nat}(o:aT v=some b):b<w.heap.size:=by
 obtain⟨Y,v1,Z,_,_,_,_,_,O,R⟩:=h
 by_cases L:out
 ·rw[O L]at o;cases o
 ·obtain⟨_,la,cells,_,U,_⟩:=R L
  rcases U.2 with ⟨q,_⟩|⟨g,cap,cur,W,_,q,_⟩
  ·rw[q]at o;cases o
  ·rw[W]at o;cases o;exact fV q
theorem FQ{w:World}{M:Nat->Prop}{k:dR}{h:Option Int}:∀{xs:List k.u.el} {n:Nat} {cs us:List Value},fl w M k h n xs cs us->∀u∈us,∀b,aT u=some b->b<w.heap.size
 |[],_,_,_,q,u,hu,_,_=>by rw[q.2]at hu;cases hu
 |x::xs,n,cs,us,⟨c,d,v,vs,_,_,L,O,R⟩,u,hu,b,o=>by
  subst L
  rcases List.mem_cons.1 hu with rfl|hu
  ·exact OK O o
  ·exact FQ R u hu b o
theorem dg{r:Value}{us:List Value}{b:Nat}:own (.tuple (r::us).toArray) b↔aT r=some b\/∃u∈us,aT u=some b:=by
 show(∃u∈r::us,aT u=some b)↔_
 simp
theorem iH{w w':World}{M M':Nat->Prop}{m ay:Nat->Value}{v0:Value}{g:Nat}{f:ao->ao}(R:∀b,b<w.heap.size->¬M b->w'.heap[b]? =w.heap[b]?)(U:∀b,b<w.heap.size->M' b->M b){c:bT}(lk:c.one=true->own v0 g)(la:∀b,own v0 b->w'.heap[b]? =w.heap[b]?)(ll:∀v s,aS w M m v s->aS w' M' ay v (f s)):
  gG w M m v0 g c->gG w' M' ay v0 g (c.map f):=by
 have q:c.one=true->w'.heap[g]? =w.heap[g]? :=fun o=>la g (lk o)
 intro Y
 exact match c,q,Y with
 |.cells _ _,q,⟨cells,o,L⟩=>⟨cells,by rw[q rfl];exact o,pc ll L⟩
 |.iter _ _,q,h=>by show w'.heap[g]? =_;rw[q rfl];exact h
 |.aT t x e,q,⟨cells,o,L⟩=>⟨cells,by rw[q rfl];exact o,cC R U t L⟩
 |.raw f,q,⟨⟨aa,lm⟩,h⟩=>⟨⟨aa,by rw[q rfl];exact lm⟩,fun ln lo ld a2 a3=>h ln lo
   (fun b O lb=>by
    have e:=R b O lb
    have le:b<w'.heap.size:=by
     rcases Nat.lt_or_ge b w'.heap.size with o|o
     ·exact o
     ·rw[Array.getElem?_eq_none o,Array.getElem?_eq_getElem O]at e;cases e
    rw[ld b le (fun Y=>lb (U b O Y)),e])
   (fun b O Y=>by
    refine Classical.byContradiction fun lb=>?_
    have e:=R b O lb
    have le:b<w'.heap.size:=by
     rcases Nat.lt_or_ge b w'.heap.size with o|o
     ·exact o
     ·rw[Array.getElem?_eq_none o,Array.getElem?_eq_getElem O]at e;cases e
    exact lb (U b O (a2 b le Y)))
   (by rw[a3,q rfl])⟩
 |.mp k v ps,q,⟨es,lf,o,L,W,Z⟩=>⟨es,lf,by rw[q rfl];exact o,L,W,gJ (fun _ _ h=>dc R U h) (fun _ _ h=>dc R U h) Z⟩
 |.cv k v l a,q,.inl ⟨o,L⟩=>.inl ⟨by rw[q rfl];exact o,L⟩
 |.cv k v l a,q,.inr ⟨b,es,lf,seen,o,L,W,Z,lc,lp,lq⟩=>
  have lh:=fV L
  .inr ⟨b,es,lf,seen,by rw[q rfl];exact o,by rw[R b lh W];exact L,fun Y=>W (U b lh Y),Z,lc,gJ (fun _ _ h=>dc R U h) (fun _ _ h=>dc R U h) lp,
   lq.imp id fun⟨e,p,ld,a2,a3,a4,a5⟩=>⟨e,p,ld,a2,a3,dc R U a4,dc R U a5⟩⟩
 |.aZ e k xs,q,⟨n,cap,us,lr,o,L,W,Z⟩=>by
  refine⟨n,cap,us,lr,o,⟨L.1,?_⟩,oR R U (fun u lg b O=>la b (by rw[o];exact dg.2 (.inr ⟨u,lg,O⟩))) W,Z⟩
  rcases L.2 with lc|⟨li,ls,cur,lj,lt,lc,rest⟩
  ·exact .inl lc
  ·exact .inr ⟨li,ls,cur,lj,lt,by rw[la li (by rw[o];exact dg.2 (.inl (by rw[lj];rfl)))];exact lc,rest⟩
 |.bp e k xs h,_,⟨ah,us,cells,o,L,W,Z⟩=>by
  refine⟨ah,us,cells,o,oZ L fun b O=>la b (by rw[o];exact dg.2 (.inl O)),qL R U (fun _ _=>Iff.rfl) (fun u lg b O=>la b (by rw[o];exact dg.2 (.inr ⟨u,lg,O⟩))) W,Z⟩
theorem HU{w:World}{M:Nat->Prop}{m:Nat->Value}{v0:Value}{g:Nat}{c:bT}(L:ia v0 g c)(h:gG w M m v0 g c):∀b,own v0 b->b<w.heap.size:=by
 have key:(∃aa,w.heap[g]? =some aa)->v0=eZ g c->∀b,own v0 b->b<w.heap.size:=by
  rintro⟨aa,lb⟩ e b o
  rw[e]at o
  have q:own (eZ g c) b->b=g:=by cases c<;>(intro la;exact(Option.some.inj la).symm)
  rw[q o]
  exact(Array.getElem?_eq_some_iff.1 lb).1
 cases c with
 |cells l e=>obtain⟨cells,q,_⟩:=h;exact key ⟨_,q⟩ L
 |iter s p=>exact key ⟨_,h⟩ L
 |aT t x e=>obtain⟨cells,q,_⟩:=h;exact key ⟨_,q⟩ L
 |raw f=>exact key h.1 L
 |mp k v ps=>obtain⟨es,lc,q,_⟩:=h;exact key ⟨_,q⟩ L
 |cv k v l a=>
  rcases h with ⟨q,_⟩|⟨b,es,lc,seen,q,_⟩
  ·exact key ⟨_,q⟩ L
  ·exact key ⟨_,q⟩ L
 |bp e k xs la=>
  obtain⟨ah,us,cells,rfl,O,R,_⟩:=h
  intro b o
  rcases dg.1 o with o|⟨u,U,o⟩
  ·rcases O.2 with ⟨W,_⟩|⟨g,cap,cur,Y,_,W,_⟩
   ·rw[W]at o;cases o
   ·rw[Y]at o;cases o;exact fV W
  ·exact FQ R u U b o
 |aZ e k xs=>
  obtain⟨n,cap,us,ld,rfl,O,R,_⟩:=h
  intro b o
  rcases dg.1 o with o|⟨u,U,o⟩
  ·rcases O.2 with ⟨Z,_⟩|⟨le,lf,cur,Y,lg,Z,rest⟩
   ·cases Z
   ·cases Y;cases o;exact fV Z
  ·exact EO R u U b o
theorem Bi{w:World}{e L n:Nat}{v:Value}{cells:List Value}(h:w.ownsRow 0 e L v n cells){g:Nat}(o:own v g):aT v=some g:=by
 rcases h.2 with ⟨q,_⟩|⟨O,cap,cur,q,_⟩<;>rw[q]at o⊢<;>exact o
theorem bT.map_id(c:bT):c.map id=c:=by cases c<;>simp[bT.map]
theorem Dv{w w':World}{M M':Nat->Prop}{m:Nat->Value}{v0:Value}{g:Nat}{c:bT}(L:c.one=true->own v0 g)(O:∀b,own v0 b->w'.heap[b]? =w.heap[b]?)(o:∀b,b<w.heap.size->¬M b->w'.heap[b]? =w.heap[b]?)(q:∀b,b<w.heap.size->M' b->M b)
  (h:gG w M m v0 g c):gG w' M' m v0 g c:=by
 have:=iH (f:=id) o q L O (fun v s R=>fh (m:=m) o q R) h
 rwa [bT.map_id]at this
end Go.Ev
namespace Go.Ev
open Go Go.RowKit
variable [b8]
variable {cx:bB} {m:Nat->Value} {st:af} {T:Array Value} {w w':World}
variable [ai cx]
theorem Frame.refl(w:World)(X:Nat->Prop):Frame w w X:=⟨rfl,rfl,rfl,Nat.le_refl _,fun _ _ _=>rfl,fun _=>Nat.le_refl _⟩
structure Same(w w':World):Prop where
 os:w'.os=w.os
 tape:w'.tape=w.tape
 output:w'.output=w.output
 size:w.heap.size<=w'.heap.size
 drawn:b8.d->w.drawn<=w'.drawn
structure Ext(w w':World):Prop extends Same w w' where
 block:∀b,b<w.heap.size->w'.heap[b]? =w.heap[b]?
theorem Ext.refl(w:World):Ext w w:={os:=rfl,tape:=rfl,output:=rfl,size:=Nat.le_refl _,drawn:=fun _=>Nat.le_refl _,block:=fun _ _=>rfl}
theorem Ext.BW{w w':World}(h:Below w.heap.size w w')(ah:b8.d->w.drawn<=w'.drawn):Ext w w':={os:=h.os,tape:=h.tape,output:=h.output,size:=h.size,drawn:=ah,block:=h.block}
theorem Ext.below{w w':World}(h:Ext w w'):Below w.heap.size w w':=⟨h.os,h.tape,h.output,h.size,h.block⟩
theorem Ext.trans{a b c:World}(h:Ext a b)(k:Ext b c):Ext a c:=Ext.BW (h.below.trans (k.below.mono h.size)) (fun d=>Nat.le_trans (h.drawn d) (k.drawn d))
theorem Ext.drew{w w':World}(h:Ext w w'):Ext w w'.drew:=Ext.BW h.below.drew (fun d=>Nat.le_succ_of_le (h.drawn d))
theorem Frame.step(h:Frame cx.w0 w cx.X)(o:Same w w')(O:∀b,b<cx.w0.heap.size->¬cx.X b->w'.heap[b]? =w.heap[b]?):Frame cx.w0 w' cx.X:=
 ⟨o.os.trans h.os,o.tape.trans h.tape,o.output.trans h.output,Nat.le_trans h.size o.size,fun b q L=>(O b q L).trans (h.block b q L),fun d=>Nat.le_trans (h.drawn d) (o.drawn d)⟩
theorem an.put(h:an cx m st T w){d:Nat}(ah:d<cx.n){v:Value}{s:ao}(q:aS w (ar cx m st.ids) m v s):an cx m (st.put d s) (T.setIfInBounds d v) w:=
 {h with
  size:=by rw[Array.size_setIfInBounds];exact h.size
  cJ:=fun i aO o=>by
   rcases List.mem_cons.1 o with o|o
   ·cases o
    exact⟨v,by rw[Array.getElem?_setIfInBounds_self_of_lt (by rw[h.size];exact ah)],q⟩
   ·obtain⟨o,L⟩:=cT.1 o
    obtain⟨v',O,R⟩:=h.cJ i aO o
    exact⟨v',by rw[Array.getElem?_setIfInBounds_ne (fun e=>L e.symm)];exact O,R⟩}
theorem an.lt(h:an cx m st T w){i g:Nat}(q:i∈st.ids)(o:own (m i) g):g<w.heap.size/\(cx.w0.heap.size<=g\/cx.X g):=by
 rcases List.mem_append.1 q with q|q
 ·obtain⟨⟨b,c⟩,L,rfl⟩:=List.mem_map.1 q
  obtain⟨W,O,R,Z⟩:=h.boxes b c L
  exact⟨HU O Z g o,R g o⟩
 ·obtain⟨⟨r,c⟩,L,rfl⟩:=List.mem_map.1 q
  obtain⟨cells,O,R,_⟩:=h.rows r c L
  refine⟨?_,R g o⟩
  rcases O.2 with ⟨U,_⟩|⟨W,cap,cur,U,_,Y,_⟩
  ·dsimp only at o;rw[U]at o;cases o
  ·dsimp only at o
   rw[U]at o
   cases o
   rcases Nat.lt_or_ge W w.heap.size with h|h
   ·exact h
   ·rw[Array.getElem?_eq_none h]at Y;cases Y
theorem an.DF(h:an cx m st T w){b:Nat}(o:ar cx m st.ids b):b<w.heap.size:=by
 rcases o with o|⟨i,q,L⟩
 ·exact Nat.lt_of_lt_of_le (h.outer b o).1 h.frame.size
 ·exact(h.lt q L).1
theorem an.ext(h:an cx m st T w)(o:Ext w w'):an cx m st T w':=by
 have R:∀b,b<w.heap.size->¬ar cx m st.ids b->w'.heap[b]? =w.heap[b]? :=fun b q _=>o.block b q
 have U:∀b,b<w.heap.size->ar cx m st.ids b->ar cx m st.ids b:=fun _ _ h=>h
 exact{h with
  frame:=h.frame.step o.toSame fun b q _=>o.block b (Nat.lt_of_lt_of_le q h.frame.size)
  cJ:=fun i aO Z=>let⟨v,la,q⟩:=h.cJ i aO Z;⟨v,la,fh R U q⟩
  boxes:=fun b c q=>by
   obtain⟨g,L,W,O⟩:=h.boxes b c q
   exact⟨g,L,W,Dv (gF L) (fun Y lb=>o.block Y (HU L O Y lb)) R U O⟩
  rows:=fun r c lc=>by
   obtain⟨cells,L,W,O⟩:=h.rows r c lc
   refine⟨cells,L.kept (row:=none) ⟨o.os,o.tape,o.output,o.size,fun k ld _=>o.block k ld⟩ ?_,W,di (fun _ _=>cC R U c.t) O⟩
   cases le:(m r).ownBlock
   ·exact .inl rfl
   ·exact .inr (by simp)}
theorem mq(st:af)(r:Nat):∀i,i∈(st.dl r).ids↔i∈st.ids/\i≠r:=by
 intro i
 simp only[af.ids,af.dl,List.map_map,List.mem_append,List.mem_map,Function.comp]
 constructor
 ·rintro(⟨⟨b,c⟩,o,rfl⟩|⟨⟨b,c⟩,o,rfl⟩)
  ·obtain⟨q,L⟩:=cT.1 o;exact⟨.inl ⟨_,q,rfl⟩,L⟩
  ·obtain⟨q,L⟩:=cT.1 o;exact⟨.inr ⟨_,q,rfl⟩,L⟩
 ·rintro⟨⟨⟨b,c⟩,o,rfl⟩|⟨⟨b,c⟩,o,rfl⟩,O⟩
  ·exact .inl ⟨(b,c),cT.2 ⟨o,O⟩,rfl⟩
  ·exact .inr ⟨(b,c),cT.2 ⟨o,O⟩,rfl⟩
theorem Ke{st:af}(h:st.ids.Nodup)(r:Nat):(st.dl r).ids.Nodup:=by
 have e:(st.dl r).ids=st.ids.filter (fun k=>!Nat.beq k r):=by
  have o:((del st.ad r).map fun p=>(p.1,p.2.map (ao.dl r))).map (·.1)=(del st.ad r).map (·.1):=by simp[List.map_map,Function.comp_def]
  show((del st.ad r).map fun p=>(p.1,p.2.map (ao.dl r))).map (·.1)++(del st.rw r).map (·.1)=_
  rw[o,kb,kb,<-List.filter_append]
  rfl
 rw[e]
 exact h.filter _
structure dk(cx:bB)(m:Nat->Value)(st:af)(w:World)(r:Nat)(u:Value)(w':World):Prop where
 same:Same w w'
 block:∀b,b<w.heap.size->¬(r∈st.ids/\own (m r) b)->w'.heap[b]? =w.heap[b]?
 place:∀g,own u g->(r∈st.ids/\own (m r) g)\/(w.heap.size<=g/\g<w'.heap.size)
theorem dk.keeps{r:Nat}{u:Value}(o:dk cx m st w r u w'):∀b,b<w.heap.size->¬ar cx m st.ids b->w'.heap[b]? =w.heap[b]? :=
 fun b q L=>o.block b q fun⟨O,R⟩=>L (.inr ⟨r,O,R⟩)
theorem dk.mut{r:Nat}{u:Value}{ids:List Nat}(q:∀i,i∈ids->i=r\/i∈st.ids)(L:dk cx m st w r u w'):
  ∀b,b<w.heap.size->ar cx (bx m r u) ids b->ar cx m st.ids b:=by
 rintro b R (h|⟨i,O,o⟩)
 ·exact .inl h
 ·by_cases e:i=r
  ·subst e
   rw[cd]at o
   rcases L.place b o with h|h
   ·exact .inr ⟨i,h.1,h.2⟩
   ·omega
  ·rw[cR _ _ e]at o
   exact .inr ⟨i,(q i O).resolve_left e,o⟩
theorem an.Jq(h:an cx m st T w){r:Nat}{u:Value}(o:dk cx m st w r u w'):Frame cx.w0 w' cx.X:=
 h.frame.step o.same fun b L O=>o.block b (Nat.lt_of_lt_of_le L h.frame.size) fun⟨R,U⟩=>by
  rcases(h.lt R U).2 with q|q
  ·omega
  ·exact O q
theorem an.Gk(h:an cx m st T w){r:Nat}{u:Value}{ids:List Nat}(q:∀i,i∈ids->i=r\/i∈st.ids)(o:dk cx m st w r u w'):
  ∀i aO,(i,aO)∈(st.dl r).ab->∃v,T[i]? =some v/\aS w' (ar cx (bx m r u) ids) (bx m r u) v aO:=by
 intro i aO L
 obtain⟨⟨j,s⟩,O,R⟩:=List.mem_map.1 L
 cases R
 obtain⟨v,U,W⟩:=h.cJ j s O
 exact⟨v,U,Da r u (fh o.keeps (o.mut q) W:aS w' (ar cx (bx m r u) ids) m v s)⟩
theorem an.HF(h:an cx m st T w){r:Nat}{u:Value}{ids:List Nat}(R:∀i,i∈ids->i=r\/i∈st.ids)(q:dk cx m st w r u w'):
  ∀b c,(b,c)∈(st.dl r).ad->∃g,ia (bx m r u b) g c/\(∀O,own (bx m r u b) O->cx.w0.heap.size<=O\/cx.X O)/\gG w' (ar cx (bx m r u) ids) (bx m r u) (bx m r u b) g c:=by
 intro b c la
 obtain⟨⟨j,s⟩,L,lb⟩:=List.mem_map.1 la
 cases lb
 obtain⟨L,U⟩:=cT.1 L
 obtain⟨g,W,lc,ld⟩:=h.boxes j s L
 have Y:j∈st.ids:=List.mem_append.2 (.inl (List.mem_map.2 ⟨_,L,rfl⟩))
 have le:∀o,own (m j) o->w'.heap[o]? =w.heap[o]? :=fun o Z=>q.block o (h.lt Y Z).1 fun⟨lf,lg⟩=>h.apart r j lf Y (fun e=>U e.symm) o lg Z
 rw[cR _ _ U]
 exact⟨g,iT.2 W,lc,iH q.keeps (q.mut R) (gF W) le (fun v s lh=>Da r u (fh q.keeps (q.mut R) lh:aS w' (ar cx (bx m r u) ids) m v s)) ld⟩
theorem an.KR(h:an cx m st T w){r:Nat}{u:Value}{ids:List Nat}(Z:∀i,i∈ids->i=r\/i∈st.ids)(o:dk cx m st w r u w'):
  ∀b c,(b,c)∈(st.dl r).rw->∃cells,w'.ownsRow 0 c.e c.t.cells (bx m r u b) c.xs.length cells/\(∀g,own (bx m r u b) g->cx.w0.heap.size<=g\/cx.X g)/\
   bM (aH w' (ar cx (bx m r u) ids) c.t) cells c.xs:=by
 intro b c la
 obtain⟨L,O⟩:=cT.1 la
 obtain⟨cells,R,lb,lc⟩:=h.rows b c L
 have U:b∈st.ids:=List.mem_append.2 (.inr (List.mem_map.2 ⟨_,L,rfl⟩))
 rw[cR _ _ O]
 refine⟨cells,⟨R.1,?_⟩,lb,di (fun _ _=>cC o.keeps (o.mut Z) c.t) lc⟩
 rcases R.2 with q|⟨g,cap,cur,W,ld,q,rest⟩
 ·exact .inl q
 ·have Y:own (m b) g:=by rw[W];exact gi rfl
  exact .inr ⟨g,cap,cur,W,ld,by rw[o.block g (h.lt U Y).1 fun⟨le,lf⟩=>h.apart r b le U (fun e=>O e.symm) g lf Y];exact q,rest⟩
theorem an.Gj(h:an cx m st T w){r:Nat}{u:Value}{ids:List Nat}(R:∀i,i∈ids->i=r\/i∈st.ids)(la:dk cx m st w r u w'):
  ∀i j,i∈ids->j∈ids->i≠j->∀g,own (bx m r u i) g->¬own (bx m r u j) g:=by
 intro i j ld lb L g q o
 by_cases U:i=r
 ·subst U
  rw[cd]at q
  rw[cR _ _ (fun e=>L e.symm)]at o
  have lc:=(R j lb).resolve_left (fun e=>L e.symm)
  rcases la.place g q with ⟨O,W⟩|⟨O,_⟩
  ·exact h.apart i j O lc L g W o
  ·have:=(h.lt lc o).1;omega
 ·rw[cR _ _ U]at q
  have Y:=(R i ld).resolve_left U
  by_cases Z:j=r
  ·subst Z
   rw[cd]at o
   rcases la.place g o with ⟨O,W⟩|⟨O,_⟩
   ·exact h.apart i j Y O L g q W
   ·have:=(h.lt Y q).1;omega
  ·rw[cR _ _ Z]at o
   exact h.apart i j Y ((R j lb).resolve_left Z) L g q o
def af.db(st:af)(r:Nat)(c:bT):af:={st.dl r with ad:=(r,c)::(st.dl r).ad}
def af.dn(st:af)(r:Nat)(c:cE):af:={st.dl r with rw:=(r,c)::(st.dl r).rw}
theorem sP(st:af)(r:Nat)(c:bT):(st.db r c).ids=r::(st.dl r).ids:=rfl
theorem JG(st:af)(r:Nat)(c:cE):∀i,i∈(st.dn r c).ids↔i=r\/i∈(st.dl r).ids:=by
 intro i
 simp only[af.ids,af.dn,List.map_cons,List.mem_append,List.mem_cons]
 constructor
 ·rintro(h|h|h)
  ·exact .inr (.inl h)
  ·exact .inl h
  ·exact .inr (.inr h)
 ·rintro(h|h|h)
  ·exact .inr (.inl h)
  ·exact .inl h
  ·exact .inr (.inr h)
theorem an.Ld(h:an cx m st T w){r:Nat}{u:Value}{b:Nat}{c:bT}(o:(b,c)∈(st.dl r).ad)(q:c.one=true)(L:cx.n<=b):bx m r u b=cx.m0 b:=by
 obtain⟨⟨Y,c'⟩,O,R⟩:=List.mem_map.1 o
 cases R
 obtain⟨U,W⟩:=cT.1 O
 rw[cR _ _ W]
 exact h.fixed _ _ U (jS.symm.trans q) L
theorem an.Ju(h:an cx m st T w){r:Nat}{u:Value}{b:Nat}{c:cE}(o:(b,c)∈(st.dl r).rw)(q:cx.n<=b)(L:ep<=b):bx m r u b=cx.m0 b:=by
 obtain⟨O,R⟩:=cT.1 o
 rw[cR _ _ R]
 exact h.kept _ _ O q L
theorem an.Wi(h:an cx m st T w){r:Nat}(ld:r<cx.n){g:Nat}{c:bT}{u:Value}(W:ia u g c)(L:dk cx m st w r u w')
  (Y:∀R,own u R->cx.w0.heap.size<=R\/cx.X R)(Z:gG w' (ar cx (bx m r u) (st.db r c).ids) (bx m r u) u g c):
  an cx (bx m r u) (st.db r c) T w':=by
 have O:∀i,i∈(st.db r c).ids->i=r\/i∈st.ids:=by
  intro i q
  rw[sP]at q
  rcases List.mem_cons.1 q with q|q
  ·exact .inl q
  ·exact .inr ((mq st r i).1 q).1
 refine{size:=h.size,frame:=h.Jq L,outer:=h.outer,cJ:=h.Gk O L,boxes:=?_,rows:=h.KR O L,apart:=h.Gj O L,keys:=?_,fixed:=?_,kept:=fun b c' o U la=>h.Ju o U la}
 ·intro b c' o
  rcases List.mem_cons.1 o with o|o
  ·cases o
   rw[cd]
   exact⟨g,W,Y,Z⟩
  ·exact h.HF O L b c' o
 ·rw[sP]
  exact List.nodup_cons.2 ⟨fun lb=>((mq st r r).1 lb).2 rfl,Ke h.keys r⟩
 ·intro b c' o lc U
  rcases List.mem_cons.1 o with o|o
  ·cases o;omega
  ·exact h.Ld o lc U
def bT.CV:bT->Bool
 |.aZ _ _ _=>false
 |.bp _ _ _ _=>false
 |_=>true
theorem Vj{c:bT}(o:c.CV=true)(g:Nat):ia (eZ g c) g c:=by
 cases c<;>first|rfl|cases o
theorem jU{c:bT}{g b:Nat}(h:own (eZ g c) b):b=g:=by
 cases c<;>exact(Option.some.inj h).symm
theorem an.db(h:an cx m st T w){r:Nat}(o:r<cx.n){g:Nat}{c:bT}(q:dk cx m st w r (eZ g c) w')
  (L:cx.w0.heap.size<=g\/cx.X g)(O:gG w' (ar cx (bx m r (eZ g c)) (st.db r c).ids) (bx m r (eZ g c)) (eZ g c) g c)(R:c.CV=true:=by rfl):
  an cx (bx m r (eZ g c)) (st.db r c) T w':=
 h.Wi o (Vj R g) q (fun W U=>by rw[jU U];exact L) O
theorem an.box(h:an cx m st T w){b:Nat}{c:bT}(L:(b,c)∈st.ad)(o:c.CV=true:=by rfl):∃g,m b=eZ g c/\(cx.w0.heap.size<=g\/cx.X g)/\gG w (ar cx m st.ids) m (eZ g c) g c:=by
 obtain⟨g,q,O,R⟩:=h.boxes b c L
 have e:m b=eZ g c:=by cases c<;>first|exact q|cases o
 exact⟨g,e,O g (gF q (by cases c<;>first|rfl|cases o)),by rw[<-e];exact R⟩
theorem an.dn(h:an cx m st T w){r:Nat}{u:Value}(q:r<cx.n\/r<ep)(L:dk cx m st w r u w'){cells:List Value}{c:cE}
  (Z:∀g,own u g->cx.w0.heap.size<=g\/cx.X g)(W:w'.ownsRow 0 c.e c.t.cells u c.xs.length cells)
  (la:bM (aH w' (ar cx (bx m r u) (st.dn r c).ids) c.t) cells c.xs):
  an cx (bx m r u) (st.dn r c) T w':=by
 have R:∀i,i∈(st.dn r c).ids->i=r\/i∈st.ids:=by
  intro i O
  rcases(JG st r c i).1 O with O|O
  ·exact .inl O
  ·exact .inr ((mq st r i).1 O).1
 refine{size:=h.size,frame:=h.Jq L,outer:=h.outer,cJ:=h.Gk R L,boxes:=h.HF R L,rows:=?_,apart:=h.Gj R L,keys:=?_,fixed:=fun b c' o lb U=>h.Ld o lb U,kept:=fun b c' o U Y=>?_}
 rotate_left 2
 ·rcases List.mem_cons.1 o with o|o
  ·cases o
   rcases q with q|q
   ·exact absurd U (Nat.not_le.2 q)
   ·exact absurd Y (Nat.not_le.2 q)
  ·exact h.Ju o U Y
 ·intro b c' o
  rcases List.mem_cons.1 o with o|o
  ·cases o
   rw[cd]
   exact⟨cells,W,Z,la⟩
  ·exact h.KR R L b c' o
 ·have lc:(st.dn r c).ids.Perm (r::(st.dl r).ids):=by
   show((st.dl r).ad.map (·.1)++r::(st.dl r).rw.map (·.1)).Perm _
   exact List.perm_middle
  exact lc.nodup_iff.2 (List.nodup_cons.2 ⟨fun W=>((mq st r r).1 W).2 rfl,Ke h.keys r⟩)
theorem dk.fresh(h:an cx m st T w)(r:Nat)(u:Value)(o:Ext w w')(q:∀g,own u g->w.heap.size<=g/\g<w'.heap.size):dk cx m st w r u w':=
 ⟨o.toSame,fun b L _=>o.block b L,fun g O=>.inr (q g O)⟩
end Go.Ev
namespace Go.Ev
open Go Go.RowKit
variable [b8]
variable {cx:bB} {m:Nat->Value} {st:af} {T:Array Value} {w w':World}
variable [ai cx]
theorem kj{ids q:List Nat}(h:∀i,i∈q->i∈ids){b:Nat}(o:ar cx m q b):ar cx m ids b:=by
 rcases o with o|⟨i,L,O⟩
 ·exact .inl o
 ·exact .inr ⟨i,h i L,O⟩
def af.cY(st:af)(r:Nat)(c:bT):af:={st with ad:=(r,c)::del st.ad r}
def af.setRow(st:af)(r:Nat)(c:cE):af:={st with rw:=(r,c)::del st.rw r}
theorem VV{l:List (Nat×bT)}{k:List Nat}(h:(l.map (·.1)++k).Nodup)(r:Nat):((del l r).map (·.1)++k).Nodup:=by
 rw[kb]
 exact h.sublist (List.Sublist.append List.filter_sublist (List.Sublist.refl _))
theorem jC{r:Nat}{L:bT}(O:(r,L)∈st.ad)(R:st.ids.Nodup)(c:bT):(∀i,i∈(st.cY r c).ids↔i∈st.ids)/\(st.cY r c).ids.Nodup:=by
 have U:∀i,i∈(st.cY r c).ids↔i∈st.ids:=by
  intro i
  simp only[af.ids,af.cY,List.map_cons,List.mem_append,List.mem_cons,List.mem_map]
  constructor
  ·rintro((h|⟨⟨b,s⟩,o,rfl⟩)|h)
   ·exact .inl ⟨(r,L),O,h.symm⟩
   ·exact .inl ⟨_,(cT.1 o).1,rfl⟩
   ·exact .inr h
  ·rintro(⟨⟨b,s⟩,o,rfl⟩|h)
   ·by_cases e:b=r
    ·exact .inl (.inl e)
    ·exact .inl (.inr ⟨(b,s),cT.2 ⟨o,e⟩,rfl⟩)
   ·exact .inr h
 refine⟨U,?_⟩
 show(r::((del st.ad r).map (·.1)++st.rw.map (·.1))).Nodup
 refine List.nodup_cons.2 ⟨fun q=>?_,VV R r⟩
 rcases List.mem_append.1 q with q|q
 ·obtain⟨⟨b,s⟩,o,e⟩:=List.mem_map.1 q
  exact(cT.1 o).2 e
 ·exact(List.nodup_append.1 R).2.2 r (List.mem_map.2 ⟨_,O,rfl⟩) r q rfl
theorem ni{r:Nat}{L:cE}(O:(r,L)∈st.rw)(R:st.ids.Nodup)(c:cE):(∀i,i∈(st.setRow r c).ids↔i∈st.ids)/\(st.setRow r c).ids.Nodup:=by
 have U:∀i,i∈(st.setRow r c).ids↔i∈st.ids:=by
  intro i
  simp only[af.ids,af.setRow,List.map_cons,List.mem_append,List.mem_cons,List.mem_map]
  constructor
  ·rintro(h|h|⟨⟨b,s⟩,o,rfl⟩)
   ·exact .inl h
   ·exact .inr ⟨(r,L),O,h.symm⟩
   ·exact .inr ⟨_,(cT.1 o).1,rfl⟩
  ·rintro(h|⟨⟨b,s⟩,o,rfl⟩)
   ·exact .inl h
   ·by_cases e:b=r
    ·exact .inr (.inl e)
    ·exact .inr (.inr ⟨(b,s),cT.2 ⟨o,e⟩,rfl⟩)
 refine⟨U,?_⟩
 have o:(st.setRow r c).ids.Perm (r::(st.ad.map (·.1)++(del st.rw r).map (·.1))):=by
  show(st.ad.map (·.1)++r::(del st.rw r).map (·.1)).Perm _
  exact List.perm_middle
 refine o.nodup_iff.2 (List.nodup_cons.2 ⟨fun q=>?_,?_⟩)
 ·rcases List.mem_append.1 q with q|q
  ·exact(List.nodup_append.1 R).2.2 r q r (List.mem_map.2 ⟨_,O,rfl⟩) rfl
  ·obtain⟨⟨b,s⟩,o,e⟩:=List.mem_map.1 q
   exact(cT.1 o).2 e
 ·rw[kb]
  exact R.sublist (List.Sublist.append (List.Sublist.refl _) List.filter_sublist)
structure Touch(m:Nat->Value)(w:World)(r:Nat)(w':World):Prop where
 same:Same w w'
 block:∀b,b<w.heap.size->¬own (m r) b->w'.heap[b]? =w.heap[b]?
theorem an.gw{r:Nat}(o:r∈st.ids)(q:Touch m w r w'){ids:List Nat}(L:∀i,i∈ids↔i∈st.ids):
  (∀b,b<w.heap.size->¬ar cx m st.ids b->w'.heap[b]? =w.heap[b]?)/\(∀b,b<w.heap.size->ar cx m ids b->ar cx m st.ids b):=
 ⟨fun b O R=>q.block b O fun e=>R (.inr ⟨r,o,e⟩),fun _ _ h=>kj (fun i U=>(L i).1 U) h⟩
theorem an.CE(h:an cx m st T w){r:Nat}(L:r∈st.ids)(o:Touch m w r w'):Frame cx.w0 w' cx.X:=
 h.frame.step o.same fun b O R=>o.block b (Nat.lt_of_lt_of_le O h.frame.size) fun e=>by
  rcases(h.lt L e).2 with q|q
  ·omega
  ·exact R q
theorem an.HR(h:an cx m st T w){r:Nat}(L:r∈st.ids)(O:Touch m w r w'){j g:Nat}(o:j∈st.ids)(R:j≠r)(q:own (m j) g):w'.heap[g]? =w.heap[g]? :=
 O.block g (h.lt o q).1 fun e=>h.apart r j L o (fun e=>R e.symm) g e q
theorem an.Jx(h:an cx m st T w){r:Nat}(q:r∈st.ids)(L:Touch m w r w'){ids:List Nat}(U:∀i,i∈ids↔i∈st.ids){b:Nat}{c:bT}(O:(b,c)∈st.ad)(W:b≠r):
  ∃g,ia (m b) g c/\(∀o,own (m b) o->cx.w0.heap.size<=o\/cx.X o)/\gG w' (ar cx m ids) m (m b) g c:=by
 obtain⟨Y,Z⟩:=an.gw (cx:=cx) q L U
 obtain⟨g,R,la,lb⟩:=h.boxes b c O
 have lc:b∈st.ids:=List.mem_append.2 (.inl (List.mem_map.2 ⟨_,O,rfl⟩))
 exact⟨g,R,la,Dv (gF R) (fun le ld=>h.HR q L lc W ld) Y Z lb⟩
theorem an.Jf(h:an cx m st T w){r:Nat}(q:r∈st.ids)(L:Touch m w r w'){ids:List Nat}(W:∀i,i∈ids↔i∈st.ids){b:Nat}{c:cE}(O:(b,c)∈st.rw)(Y:b≠r):
  ∃cells,w'.ownsRow 0 c.e c.t.cells (m b) c.xs.length cells/\(∀g,own (m b) g->cx.w0.heap.size<=g\/cx.X g)/\bM (aH w' (ar cx m ids) c.t) cells c.xs:=by
 obtain⟨Z,la⟩:=an.gw (cx:=cx) q L W
 obtain⟨cells,R,lb,lc⟩:=h.rows b c O
 have ld:b∈st.ids:=List.mem_append.2 (.inr (List.mem_map.2 ⟨_,O,rfl⟩))
 refine⟨cells,⟨R.1,?_⟩,lb,di (fun _ _=>cC Z la c.t) lc⟩
 rcases R.2 with o|⟨g,cap,cur,U,le,o,rest⟩
 ·exact .inl o
 ·have lf:own (m b) g:=by rw[U];exact gi rfl
  exact .inr ⟨g,cap,cur,U,le,by rw[h.HR q L ld Y lf];exact o,rest⟩
theorem an.Li(h:an cx m st T w){r:Nat}(o:r∈st.ids)(q:Touch m w r w'){ids:List Nat}(L:∀i,i∈ids↔i∈st.ids):
  ∀i aO,(i,aO)∈st.ab->∃v,T[i]? =some v/\aS w' (ar cx m ids) m v aO:=fun i aO O=>by
 obtain⟨R,U⟩:=an.gw (cx:=cx) o q L
 obtain⟨v,W,Y⟩:=h.cJ i aO O
 exact⟨v,W,fh R U Y⟩
theorem an.cY(h:an cx m st T w){r:Nat}{U c:bT}(q:(r,U)∈st.ad)(O:Touch m w r w'){g:Nat}
  (la:ia (m r) g c)(lb:gG w' (ar cx m (st.cY r c).ids) m (m r) g c)(W:c.one=true->U.one=true:=by first|exact id|exact fun _=>rfl):an cx m (st.cY r c) T w':=by
 obtain⟨L,lc⟩:=jC q h.keys c
 have R:r∈st.ids:=List.mem_append.2 (.inl (List.mem_map.2 ⟨_,q,rfl⟩))
 refine{size:=h.size,frame:=h.CE R O,outer:=h.outer,cJ:=h.Li R O L,boxes:=?_,rows:=?_,apart:=?_,keys:=lc,fixed:=?_,kept:=h.kept}
 ·intro b c' o
  rcases List.mem_cons.1 o with o|o
  ·cases o
   obtain⟨lh,li,ld,_⟩:=h.boxes r U q
   exact⟨g,la,ld,lb⟩
  ·obtain⟨W,le⟩:=cT.1 o
   exact h.Jx R O L W le
 ·intro b c' o
  refine h.Jf R O L o ?_
  rintro rfl
  exact(List.nodup_append.1 h.keys).2.2 b (List.mem_map.2 ⟨_,q,rfl⟩) b (List.mem_map.2 ⟨_,o,rfl⟩) rfl
 ·exact fun i j lf lg=>h.apart i j ((L i).1 lf) ((L j).1 lg)
 ·intro b c' o Y Z
  rcases List.mem_cons.1 o with o|o
  ·cases o;exact h.fixed _ _ q (W Y) Z
  ·exact h.fixed _ _ (cT.1 o).1 Y Z
theorem an.NP(h:an cx m st T w){r:Nat}{O c:cE}(R:(r,O)∈st.rw):∀b c',(b,c')∈(st.setRow r c).rw->cx.n<=b->ep<=b->m b=cx.m0 b:=by
 intro b c' o q L
 rcases List.mem_cons.1 o with o|o
 ·cases o;exact h.kept _ _ R q L
 ·exact h.kept _ _ (cT.1 o).1 q L
theorem an.setRow(h:an cx m st T w){r:Nat}{U c:cE}(q:(r,U)∈st.rw)(O:Touch m w r w'){cells:List Value}
  (W:w'.ownsRow 0 c.e c.t.cells (m r) c.xs.length cells)(Y:bM (aH w' (ar cx m (st.setRow r c).ids) c.t) cells c.xs):an cx m (st.setRow r c) T w':=by
 obtain⟨L,Z⟩:=ni q h.keys c
 have R:r∈st.ids:=List.mem_append.2 (.inr (List.mem_map.2 ⟨_,q,rfl⟩))
 refine{size:=h.size,frame:=h.CE R O,outer:=h.outer,cJ:=h.Li R O L,boxes:=?_,rows:=?_,apart:=?_,keys:=Z,fixed:=h.fixed,kept:=h.NP q}
 ·intro b c' o
  refine h.Jx R O L o ?_
  rintro rfl
  exact(List.nodup_append.1 h.keys).2.2 b (List.mem_map.2 ⟨_,o,rfl⟩) b (List.mem_map.2 ⟨_,q,rfl⟩) rfl
 ·intro b c' o
  rcases List.mem_cons.1 o with o|o
  ·cases o
   obtain⟨_,_,la,_⟩:=h.rows r U q
   exact⟨cells,W,la,Y⟩
  ·obtain⟨lb,lc⟩:=cT.1 o
   exact h.Jf R O L lb lc
 ·exact fun i j ld le=>h.apart i j ((L i).1 ld) ((L j).1 le)
theorem an.weaken(h:an cx m st T w){st':af}(lc:∀i aO,(i,aO)∈st'.ab->(i,aO)∈st.ab)(O:∀p,p∈st'.ad->p∈st.ad)(R:∀p,p∈st'.rw->p∈st.rw)(ld:st'.ids.Nodup):an cx m st' T w:=by
 have U:∀i,i∈st'.ids->i∈st.ids:=by
  intro i o
  rcases List.mem_append.1 o with o|o
  ·obtain⟨p,W,rfl⟩:=List.mem_map.1 o;exact List.mem_append.2 (.inl (List.mem_map.2 ⟨p,O p W,rfl⟩))
  ·obtain⟨p,W,rfl⟩:=List.mem_map.1 o;exact List.mem_append.2 (.inr (List.mem_map.2 ⟨p,R p W,rfl⟩))
 have Y:∀b,b<w.heap.size->¬ar cx m st.ids b->w.heap[b]? =w.heap[b]? :=fun _ _ _=>rfl
 have Z:∀b,b<w.heap.size->ar cx m st'.ids b->ar cx m st.ids b:=fun _ _ h=>kj U h
 refine{size:=h.size,frame:=h.frame,outer:=h.outer,cJ:=fun i aO o=>?_,boxes:=fun b c q=>?_,rows:=fun b c q=>?_,apart:=fun i j o le=>h.apart i j (U i o) (U j le),keys:=ld,fixed:=fun b c q=>h.fixed b c (O _ q),kept:=fun b c q=>h.kept b c (R _ q)}
 ·obtain⟨v,lf,lg⟩:=h.cJ i aO (lc i aO o)
  exact⟨v,lf,fh Y Z lg⟩
 ·obtain⟨g,L,la,lb⟩:=h.boxes b c (O _ q)
  exact⟨g,L,la,Dv (gF L) (fun _ _=>rfl) Y Z lb⟩
 ·obtain⟨cells,L,la,lb⟩:=h.rows b c (R _ q)
  exact⟨cells,L,la,di (fun _ _=>cC Y Z c.t) lb⟩
def mx{α:Type}(l:List (Nat×α)):List Nat->Option (List (Nat×α))
 |[]=>some []
 |k::o=>match look l k,mx l o with
  |some v,some r=>some ((k,v)::r)
  |_,_=>none
theorem nM{α:Type}{l:List (Nat×α)}:∀{q:List Nat} {r:List (Nat×α)},mx l q=some r->∀p,p∈r->p∈l
 |[],r,h,p,o=>by cases h;simp at o
 |k::q,r,h,p,o=>by
  unfold mx at h
  split at h
  ·rename_i v R L O
   cases h
   rcases List.mem_cons.1 o with rfl|o
   ·exact a8 L
   ·exact nM O p o
  ·cases h
theorem Ei{α:Type}{l:List (Nat×α)}:∀{o:List Nat} {r:List (Nat×α)},mx l o=some r->r.map (·.1)=o
 |[],r,h=>by cases h;rfl
 |k::o,r,h=>by
  unfold mx at h
  split at h
  ·rename_i v L O q
   cases h
   simp[Ei q]
  ·cases h
def nodupB:List Nat->Bool
 |[]=>true
 |k::o=>!(o.any (Nat.beq k))&&nodupB o
theorem gq:∀{l:List Nat},nodupB l=true->l.Nodup
 |[],_=>List.nodup_nil
 |k::q,h=>by
  simp only[nodupB,Bool.and_eq_true,Bool.not_eq_true']at h
  refine List.nodup_cons.2 ⟨fun o=>?_,gq h.2⟩
  have:=List.any_eq_false.1 h.1 k o
  rw[Nat.beq_refl]at this
  exact this rfl
def af.norm(st:af)(o bs ap:List Nat):Option af:=
 match mx st.ab o,mx st.ad bs,mx st.rw ap,nodupB (bs++ap)with
 |some a,some b,some c,true=>some ⟨a,b,c⟩
 |_,_,_,_=>none
theorem an.norm(h:an cx m st T w){R bs ap:List Nat}{st':af}(o:st.norm R bs ap=some st'):an cx m st' T w:=by
 unfold af.norm at o
 split at o
 ·rename_i a b c U L O W
  cases o
  refine h.weaken (fun i aO Y=>nM U _ Y) (fun p q=>nM L p q) (fun p q=>nM O p q) ?_
  show(b.map (·.1)++c.map (·.1)).Nodup
  rw[Ei L,Ei O]
  exact gq W
 ·cases o
theorem an.sc(h:an cx m st T w){r:Nat}{c:cE}(O:(r,c)∈st.rw){M:Nat->Prop}(R:∀b,b<w.heap.size->M b->ar cx m st.ids b)(U:∀g,own (m r) g->¬M g):
  aH w M (.ab c.t) [m r] c.xs:=by
 obtain⟨cells,L,lc,W⟩:=h.rows r c O
 rcases L.2 with ⟨o,Y⟩|⟨g,cap,cur,o,_,ld,Z,la,le,lf⟩
 ·have lb:c.xs=[]:=List.eq_nil_of_length_eq_zero Y
  rw[lb,o]
  refine⟨none,0,[],rfl,Nat.le_refl _,by decide,fun _=>rfl,rfl,fun j u q=>by simp at q⟩
 ·refine⟨some ⟨g,0,none⟩,cap,cells,by rw[o],Z,la,(fun e=>by cases e),di (fun _ _=>cC (fun _ _ _=>rfl) R c.t) W,fun j u q=>⟨_,rfl,?_,U g (by rw[o];rfl)⟩⟩
  exact L.cells (g:=g) (by rw[o];rfl) j u q
def bV.freeze(r:Nat)(c:cE):bV->bV
 |.r b=>bif Nat.beq b r then .v ⟨.ab c.t,c.xs⟩else .r b
 |s=>s
def ao.freeze(r:Nat)(c:cE):ao->ao
 |.row b=>bif Nat.beq b r then .val (.ab c.t) c.xs else .row b
 |.fM l=>.fM (l.map (bV.freeze r c))
 |.eO l=>.eO (l.map (bV.freeze r c))
 |s=>s
theorem oO{w:World}{M:Nat->Prop}{m:Nat->Value}{r:Nat}{c:cE}(o:aH w M (.ab c.t) [m r] c.xs):∀{vs:List Value} {l:List bV},cX w M m vs l->cX w M m vs (l.map (bV.freeze r c))
 |[],[],_=>trivial
 |[],_::_,h=>h.elim
 |_::_,[],h=>h.elim
 |_::_,.v _::_,⟨q,L⟩=>⟨q,oO o L⟩
 |_::vs,.a::l,h=>oO (vs:=vs) (l:=l) o h
 |v::_,.r b::_,⟨q,L⟩=>by
  show cX _ _ _ _ ((bif Nat.beq b r then .v ⟨.ab c.t,c.xs⟩else .r b)::_)
  cases O:Nat.beq b r with
  |false=>exact⟨q,oO o L⟩
  |true=>
   have e:=Nat.eq_of_beq_eq_true O
   subst e
   subst q
   exact⟨o,oO o L⟩
def af.freeze(st:af)(r:Nat)(c:cE):af:=
 {ab:=st.ab.map fun p=>(p.1,p.2.freeze r c),ad:=st.ad.map fun p=>(p.1,p.2.map (ao.freeze r c)),rw:=del st.rw r}
theorem an.freeze(h:an cx m st T w){r:Nat}{c:cE}(lb:(r,c)∈st.rw):an cx m (st.freeze r c) T w:=by
 have Y:∀i,i∈(st.freeze r c).ids->i∈st.ids/\i≠r:=by
  intro i o
  have ln:∀c',(r,c')∉st.ad:=fun c' lc=>(List.nodup_append.1 h.keys).2.2 r (List.mem_map.2 ⟨_,lc,rfl⟩) r (List.mem_map.2 ⟨_,lb,rfl⟩) rfl
  rcases List.mem_append.1 o with o|o
  ·obtain⟨⟨b,s⟩,q,rfl⟩:=List.mem_map.1 o
   obtain⟨⟨lv,lo⟩,li,O⟩:=List.mem_map.1 q
   cases O
   exact⟨List.mem_append.2 (.inl (List.mem_map.2 ⟨_,li,rfl⟩)),fun e=>ln lo (by simp only at e;rw[<-e];exact li)⟩
  ·obtain⟨⟨b,s⟩,q,rfl⟩:=List.mem_map.1 o
   obtain⟨R,L⟩:=cT.1 q
   exact⟨List.mem_append.2 (.inr (List.mem_map.2 ⟨_,R,rfl⟩)),L⟩
 have lj:r∈st.ids:=List.mem_append.2 (.inr (List.mem_map.2 ⟨_,lb,rfl⟩))
 have ld:∀b,b<w.heap.size->¬ar cx m st.ids b->w.heap[b]? =w.heap[b]? :=fun _ _ _=>rfl
 have Z:∀b,b<w.heap.size->ar cx m (st.freeze r c).ids b->ar cx m st.ids b:=fun _ _ h=>kj (fun i o=>(Y i o).1) h
 have le:aH w (ar cx m (st.freeze r c).ids) (.ab c.t) [m r] c.xs:=by
  refine h.sc lb Z fun g lk=>?_
  rintro(lp|⟨i,o,lq⟩)
  ·have R:=h.outer g lp
   rcases(h.lt lj lk).2 with L|L
   ·omega
   ·exact R.2 L
  ·obtain⟨R,L⟩:=Y i o
   exact h.apart i r R lj L g lq lk
 have ll:∀v s,aS w (ar cx m st.ids) m v s->aS w (ar cx m (st.freeze r c).ids) m v (s.freeze r c):=by
  intro v s lm
  have la:=fh (w':=w) (m:=m) ld Z lm
  cases s with
  |row b=>
   show aS _ _ _ _ (bif Nat.beq b r then .val (.ab c.t) c.xs else .row b)
   cases lc:Nat.beq b r with
   |false=>exact la
   |true=>
    have e:=Nat.eq_of_beq_eq_true lc
    subst e
    have:v=m b:=lm
    subst this
    exact le
  |fM l=>obtain⟨vs,e,lf⟩:=la;exact⟨vs,e,oO le lf⟩
  |eO l=>obtain⟨vs,e,lf⟩:=la;exact⟨vs,e,oO le lf⟩
  |_=>exact la
 have lr:(st.freeze r c).ids.Sublist st.ids:=by
  have W:(st.freeze r c).ad.map (·.1)=st.ad.map (·.1):=by simp[af.freeze,List.map_map,Function.comp_def]
  show((st.freeze r c).ad.map (·.1)++(del st.rw r).map (·.1)).Sublist (st.ad.map (·.1)++st.rw.map (·.1))
  rw[W,kb]
  exact List.Sublist.append (List.Sublist.refl _) List.filter_sublist
 refine{size:=h.size,frame:=h.frame,outer:=h.outer,cJ:=fun i aO o=>?_,boxes:=fun b c' U=>?_,rows:=fun b c' U=>?_,apart:=fun i j o ls=>h.apart i j (Y i o).1 (Y j ls).1,keys:=h.keys.sublist lr,fixed:=?_,kept:=fun b c' U=>h.kept b c' (cT.1 U).1}
 ·obtain⟨⟨j,s⟩,q,O⟩:=List.mem_map.1 o
  cases O
  obtain⟨v,R,L⟩:=h.cJ j s q
  exact⟨v,R,ll v s L⟩
 ·obtain⟨⟨j,s⟩,q,O⟩:=List.mem_map.1 U
  cases O
  obtain⟨g,W,lg,lh⟩:=h.boxes j s q
  exact⟨g,iT.2 W,lg,iH ld Z (gF W) (fun _ _=>rfl) ll lh⟩
 ·obtain⟨q,_⟩:=cT.1 U
  obtain⟨cells,W,lg,lh⟩:=h.rows b c' q
  exact⟨cells,W,lg,di (fun _ _=>cC ld Z c'.t) lh⟩
 ·intro b c' U lt lu
  obtain⟨⟨j,s⟩,q,O⟩:=List.mem_map.1 U
  cases O
  exact h.fixed _ _ q (jS.symm.trans lt) lu
/-! A map given up: it is only read from here on. -/
def bV.mO(r:Nat)(k v:ag)(ps:List (k.el×v.el)):bV->bV
 |.v u=>.v u
 |.r b=>bif Nat.beq b r then .v ⟨.map k v,some ps⟩else .r b
 |.a=>.a
def ao.mO(r:Nat)(k v:ag)(ps:List (k.el×v.el)):ao->ao
 |.iter b=>bif Nat.beq b r then .val (.map k v) (some ps)else .iter b
 |.row b=>bif Nat.beq b r then .val (.map k v) (some ps)else .row b
 |.fM l=>.fM (l.map (bV.mO r k v ps))
 |.eO l=>.eO (l.map (bV.mO r k v ps))
 |s=>bif s.refs r then .any else s
def af.fr(st:af)(r:Nat)(k v:ag)(ps:List (k.el×v.el)):af:=
 {ab:=st.ab.map fun p=>(p.1,p.2.mO r k v ps),ad:=(del st.ad r).map fun p=>(p.1,p.2.map (ao.mO r k v ps)),rw:=st.rw}
theorem oD{w:World}{M:Nat->Prop}{m:Nat->Value}{r:Nat}{k v:ag}{ps:List (k.el×v.el)}(o:aH w M (.map k v) [m r] (some ps)):∀{vs:List Value} {l:List bV},cX w M m vs l->cX w M m vs (l.map (bV.mO r k v ps))
 |[],[],_=>trivial
 |[],_::_,h=>h.elim
 |_::_,[],h=>h.elim
 |_::_,.v u::_,⟨q,L⟩=>⟨q,oD o L⟩
 |_::vs,.a::l,h=>oD (vs:=vs) (l:=l) o h
 |x::_,.r b::_,⟨q,L⟩=>by
  show cX w M m _ ((bif Nat.beq b r then bV.v ⟨.map k v,some ps⟩else bV.r b)::_)
  cases O:Nat.beq b r with
  |false=>exact⟨q,oD o L⟩
  |true=>
   have e:=Nat.eq_of_beq_eq_true O
   subst e
   refine⟨?_,oD o L⟩
   rw[q]
   exact o
theorem an.fr(h:an cx m st T w){r:Nat}{k v:ag}{ps:List (k.el×v.el)}(lg:(r,bT.mp k v ps)∈st.ad):an cx m (st.fr r k v ps) T w:=by
 have lc:∀i,i∈(st.fr r k v ps).ids->i∈st.ids/\i≠r:=by
  intro i L
  have lo:∀c',(r,c')∉st.rw:=fun c' lh=>(List.nodup_append.1 h.keys).2.2 r (List.mem_map.2 ⟨_,lg,rfl⟩) r (List.mem_map.2 ⟨_,lh,rfl⟩) rfl
  rcases List.mem_append.1 L with L|L
  ·obtain⟨⟨b,s⟩,O,rfl⟩:=List.mem_map.1 L
   obtain⟨⟨lC,lD⟩,lp,U⟩:=List.mem_map.1 O
   cases U
   obtain⟨Y,Z⟩:=cT.1 lp
   exact⟨List.mem_append.2 (.inl (List.mem_map.2 ⟨_,Y,rfl⟩)),Z⟩
  ·obtain⟨⟨b,s⟩,O,rfl⟩:=List.mem_map.1 L
   exact⟨List.mem_append.2 (.inr (List.mem_map.2 ⟨_,O,rfl⟩)),fun e=>lo s (by simp only at e;rw[<-e];exact O)⟩
 have ll:r∈st.ids:=List.mem_append.2 (.inl (List.mem_map.2 ⟨_,lg,rfl⟩))
 have la:∀b,b<w.heap.size->¬ar cx m st.ids b->w.heap[b]? =w.heap[b]? :=fun _ _ _=>rfl
 have lb:∀b,b<w.heap.size->ar cx m (st.fr r k v ps).ids b->ar cx m st.ids b:=fun _ _ h=>kj (fun i L=>(lc i L).1) h
 obtain⟨g0,R,ld,es,lq,Y,Z,lr,ls⟩:=h.box lg
 have lm:own (m r) g0:=by rw[R];exact gi rfl
 have le:aH w (ar cx m (st.fr r k v ps).ids) (.map k v) [m r] (some ps):=by
  refine⟨g0,es,lq,by rw[R];rfl,Y,?_,Z,lr,gJ (fun _ _ h=>dc la lb h) (fun _ _ h=>dc la lb h) ls⟩
  rintro(lt|⟨i,L,lu⟩)
  ·have li:=h.outer g0 lt
   rcases(h.lt ll lm).2 with lf|lf
   ·omega
   ·exact li.2 lf
  ·obtain⟨li,lf⟩:=lc i L
   exact h.apart i r li ll lf g0 lu lm
 have ln:∀v' s,aS w (ar cx m st.ids) m v' s->aS w (ar cx m (st.fr r k v ps).ids) m v' (s.mO r k v ps):=by
  intro v' s lv
  have o:=fh (w':=w) (m:=m) la lb lv
  have q:∀s:ao,aS w (ar cx m (st.fr r k v ps).ids) m v' s->aS w (ar cx m (st.fr r k v ps).ids) m v' (bif s.refs r then .any else s):=by
   intro s lw
   cases s.refs r with
   |true=>trivial
   |false=>exact lw
  have ah:∀b,v'=m b->aS w (ar cx m (st.fr r k v ps).ids) m v' (bif Nat.beq b r then .val (.map k v) (some ps)else .iter b)/\aS w (ar cx m (st.fr r k v ps).ids) m v' (bif Nat.beq b r then .val (.map k v) (some ps)else .row b):=by
   intro b e
   cases lh:Nat.beq b r with
   |false=>exact⟨e,e⟩
   |true=>
    have lx:=Nat.eq_of_beq_eq_true lh
    subst lx
    subst e
    exact⟨le,le⟩
  cases s with
  |iter b=>exact(ah b o).1
  |row b=>exact(ah b o).2
  |fM l=>obtain⟨vs,e,lj⟩:=o;exact⟨vs,e,oD le lj⟩
  |eO l=>obtain⟨vs,e,lj⟩:=o;exact⟨vs,e,oD le lj⟩
  |any=>exact q _ o
  |undef=>exact q _ o
  |val t x=>exact q _ o
  |dD l=>exact q _ o
  |ptr b aa=>exact q _ o
  |eX b=>exact q _ o
  |vptr t x=>exact q _ o
  |dN a b c d=>exact q _ o
  |clos f bs=>exact q _ o
  |dz b p=>exact q _ o
  |osl b=>exact q _ o
  |fC b i=>exact q _ o
  |sub b i=>exact q _ o
  |b9 f b=>exact q _ o
  |dM b i aa s=>exact q _ o
  |eV b i j aa s=>exact q _ o
  |ah n=>exact q _ o
 have ly:(st.fr r k v ps).ids.Sublist st.ids:=by
  have R:(st.fr r k v ps).ad.map (·.1)=(del st.ad r).map (·.1):=by simp[af.fr,List.map_map,Function.comp_def]
  show((st.fr r k v ps).ad.map (·.1)++st.rw.map (·.1)).Sublist (st.ad.map (·.1)++st.rw.map (·.1))
  rw[R,kb]
  exact List.Sublist.append List.filter_sublist (List.Sublist.refl _)
 refine{size:=h.size,frame:=h.frame,outer:=h.outer,cJ:=fun i aO L=>?_,boxes:=fun b c' W=>?_,rows:=fun b c' W=>?_,apart:=fun i j L lz=>h.apart i j (lc i L).1 (lc j lz).1,keys:=h.keys.sublist ly,fixed:=?_,kept:=fun b c' W=>h.kept b c' W}
 ·obtain⟨⟨j,s⟩,O,U⟩:=List.mem_map.1 L
  cases U
  obtain⟨v,Y,Z⟩:=h.cJ j s O
  exact⟨v,Y,ln v s Z⟩
 ·obtain⟨⟨j,s⟩,O,U⟩:=List.mem_map.1 W
  cases U
  obtain⟨g,R,ld,lk⟩:=h.boxes j s (cT.1 O).1
  exact⟨g,iT.2 R,ld,iH la lb (gF R) (fun _ _=>rfl) ln lk⟩
 ·obtain⟨cells,R,ld,lk⟩:=h.rows b c' W
  exact⟨cells,R,ld,di (fun _ _=>cC la lb c'.t) lk⟩
 ·intro b c' W lA lB
  obtain⟨⟨j,s⟩,O,U⟩:=List.mem_map.1 W
  cases U
  exact h.fixed _ _ (cT.1 O).1 (jS.symm.trans lA) lB
end Go.Ev
namespace Go.Ev
open Go Go.RowKit
variable [b8]
theorem ak.dd{v:ak}{u:ag}{x:u.el}(h:v.as u=some x):v=⟨u,x⟩:=by
 unfold ak.as at h
 split at h
 ·rename_i o
  obtain⟨t,y⟩:=v
  have e:t=u:=ag.eq_of_beq o
  subst e
  simp only[Option.some.injEq]at h
  subst h
  rfl
 ·cases h
def fieldsOf(f:TypeId->Option ag):Nat->List Field->Option ag
 |_,[]=>some .unit
 |off,o::q=>
  bif Nat.beq o.offset off then
   match f o.type with
   |some a=>match fieldsOf f (off+a.cells) q with
    |some b=>some (.pair a b)
    |none=>none
   |none=>none
  else none
def cG(P:Program):Nat->TypeId->Option ag
 |0,_=>none
 |d+1,t=>
  match P.info? t,P.underlying t with
  |some i,some (.int k)=>bif Nat.beq i.size 1 then some (.int k)else none
  |some i,some .bool=>bif Nat.beq i.size 1 then some .bool else none
  |some i,some .string=>bif Nat.beq i.size 1 then some .str else none
  |some i,some (.slice e)=>bif Nat.beq i.size 1 then(match cG P d e with|some u=>some (.ab u)|none=>none)else none
  |some i,some (.struct o)=>match fieldsOf (cG P d) 0 o.toList with
   |some u=>bif Nat.beq i.size u.cells then some u else none
   |none=>none
  |some i,some (.interface _)=>bif Nat.beq i.size 1 then some .err else none
  |some i,some (.array n e)=>match cG P d e with
   |some u=>bif Nat.beq i.size (n*u.cells)then some (.arr n u)else none
   |none=>none
  |some i,some (.map k e)=>bif Nat.beq i.size 1 then(match cG P d k,cG P d e with
   |some a,some b=>some (.map a b)
   |_,_=>none)else none
  |some i,some (.func _ _ _)=>bif Nat.beq i.size 1 then some .cy else none
  |some i,some (.pointer _)=>bif Nat.beq i.size 1 then some .cy else none
  |_,_=>none
def iy:Nat:=12
def ty(P:Program)(t:TypeId):Option ag:=cG P iy t
theorem Hs{f:TypeId->Option ag}{off:Nat}{o:List Field}{u:ag}(h:fieldsOf f off o=some u):u.agg=true:=by
 cases o with
 |nil=>simp only[fieldsOf,Option.some.injEq]at h;subst h;rfl
 |cons L o=>
  unfold fieldsOf at h
  cases q:Nat.beq L.offset off with
  |false=>rw[q]at h;cases h
  |true=>
   rw[q,cond_true]at h
   split at h
   ·split at h
    ·cases h;rfl
    ·cases h
   ·cases h
theorem Uq{f:TypeId->Option ag}{off:Nat}{o:List Field}{u:ag}(h:fieldsOf f off o=some u):u=.unit\/∃a b,u=.pair a b:=by
 cases o with
 |nil=>simp only[fieldsOf,Option.some.injEq]at h;exact .inl h.symm
 |cons L o=>
  unfold fieldsOf at h
  cases q:Nat.beq L.offset off with
  |false=>rw[q]at h;cases h
  |true=>
   rw[q,cond_true]at h
   split at h
   ·split at h
    ·cases h;exact .inr ⟨_,_,rfl⟩
    ·cases h
   ·cases h
theorem da{P:Program}{d:Nat}{t:TypeId}{u:ag}(h:cG P d t=some u):∃i,P.info? t=some i/\i.size=u.cells/\
  (match u with
   |.ptr _=>False
   |.fn _ _=>False
   |.cL _ _=>False
   |.alt _ _ _=>False
   |.err=>∃U,P.underlying t=some (.interface U)
   |.cy=>(∃a b c,P.underlying t=some (.func a b c))\/∃e,P.underlying t=some (.pointer e)
   |.int k=>P.underlying t=some (.int k)
   |.bool=>P.underlying t=some .bool
   |.str=>P.underlying t=some .string
   |.ab v=>∃e d',P.underlying t=some (.slice e)/\cG P d' e=some v
   |.arr n v=>∃e d',P.underlying t=some (.array n e)/\cG P d' e=some v
   |.map a b=>∃k e d',P.underlying t=some (.map k e)/\cG P d' k=some a/\cG P d' e=some b
   |_=>∃R d',P.underlying t=some (.struct R)/\fieldsOf (cG P d') 0 R.toList=some u):=by
 cases d with
 |zero=>cases h
 |succ d=>
  unfold cG at h
  split at h
  ·rename_i i k q L
   cases o:Nat.beq i.size 1<;>rw[o]at h<;>cases h
   exact⟨i,q,Nat.eq_of_beq_eq_true o,L⟩
  ·rename_i i q L
   cases o:Nat.beq i.size 1<;>rw[o]at h<;>cases h
   exact⟨i,q,Nat.eq_of_beq_eq_true o,L⟩
  ·rename_i i q L
   cases o:Nat.beq i.size 1<;>rw[o]at h<;>cases h
   exact⟨i,q,Nat.eq_of_beq_eq_true o,L⟩
  ·rename_i i e q L
   cases o:Nat.beq i.size 1<;>rw[o]at h
   ·cases h
   ·rw[cond_true]at h
    split at h
    ·rename_i v O;cases h;exact⟨i,q,Nat.eq_of_beq_eq_true o,e,d,L,O⟩
    ·cases h
  ·rename_i i R q L
   split at h
   ·rename_i v O
    cases o:Nat.beq i.size v.cells<;>rw[o]at h<;>cases h
    have W:=Uq O
    refine⟨i,q,Nat.eq_of_beq_eq_true o,?_⟩
    rcases W with rfl|⟨a,b,rfl⟩<;>exact⟨R,d,L,O⟩
   ·cases h
  ·rename_i i U q L
   cases o:Nat.beq i.size 1<;>rw[o]at h<;>cases h
   exact⟨i,q,Nat.eq_of_beq_eq_true o,U,L⟩
  ·rename_i i n e q L
   split at h
   ·rename_i v O
    cases o:Nat.beq i.size (n*v.cells)<;>rw[o]at h<;>cases h
    exact⟨i,q,Nat.eq_of_beq_eq_true o,e,d,L,O⟩
   ·cases h
  ·rename_i i k e q L
   cases o:Nat.beq i.size 1<;>rw[o]at h
   ·cases h
   ·rw[cond_true]at h
    split at h
    ·rename_i a b W Y;cases h;exact⟨i,q,Nat.eq_of_beq_eq_true o,k,e,d,L,W,Y⟩
    ·cases h
  ·rename_i i a b c q L
   cases o:Nat.beq i.size 1<;>rw[o]at h<;>cases h
   exact⟨i,q,Nat.eq_of_beq_eq_true o,.inl ⟨a,b,c,L⟩⟩
  ·rename_i i e q L
   cases o:Nat.beq i.size 1<;>rw[o]at h<;>cases h
   exact⟨i,q,Nat.eq_of_beq_eq_true o,.inr ⟨e,L⟩⟩
  ·cases h
theorem jx{P:Program}{d:Nat}{t:TypeId}{u:ag}(h:cG P d t=some u)(w:World):(isAgg t).run P w=.ok u.agg w:=by
 obtain⟨i,_,_,o⟩:=da h
 unfold isAgg
 cases u with
 |int k=>simp[run_underlying o,ag.agg]
 |bool=>simp[run_underlying o,ag.agg]
 |str=>simp[run_underlying o,ag.agg]
 |ab v=>obtain⟨e,d',q,_⟩:=o;simp[run_underlying q,ag.agg]
 |ptr v=>exact o.elim
 |fn f v=>exact o.elim
 |err=>obtain⟨O,q⟩:=o;simp[run_underlying q,ag.agg]
 |cy=>rcases o with ⟨_,_,_,q⟩|⟨_,q⟩<;>simp[run_underlying q,ag.agg]
 |cL n v=>exact o.elim
 |alt n v r=>exact o.elim
 |arr n v=>obtain⟨e,d',q,_⟩:=o;simp[run_underlying q,ag.agg]
 |map a b=>obtain⟨k,e,d',q,_⟩:=o;simp[run_underlying q,ag.agg]
 |unit=>obtain⟨L,d',q,_⟩:=o;simp[run_underlying q,ag.agg]
 |pair a b=>obtain⟨L,d',q,_⟩:=o;simp[run_underlying q,ag.agg]
theorem eK{P:Program}{d:Nat}{t:TypeId}{u:ag}(h:cG P d t=some u)(w:World):(sizeOf t).run P w=.ok u.cells w:=by
 obtain⟨i,o,q,_⟩:=da h
 simp[sizeOf,typeInfo,o,q]
theorem kq{w:World}{M:Nat->Prop}{t:ag}:∀{xs:List t.el} {cs:List Value} {i:Nat} {x:t.el},bM (aH w M t) cs xs->xs[i]? =some x->
  ∃o c2 c3,cs=o++c2++c3/\o.length=i*t.cells/\aH w M t c2 x
 |[],_,_,_,_,h=>by simp at h
 |y::O,cs,0,x,⟨o,c2,e,q,L⟩,h=>by
  simp at h
  subst h
  exact⟨[],o,c2,by simpa using e,by simp,q⟩
 |y::O,cs,i+1,x,⟨o,c2,e,q,L⟩,h=>by
  obtain⟨d1,d2,d3,ah,R,U⟩:=kq L (by simpa using h)
  refine⟨o++d1,d2,d3,by rw[e,ah];simp,?_,U⟩
  rw[List.length_append,cf t q,R,Nat.succ_mul,Nat.add_comm]
theorem pg{w:World}{M:Nat->Prop}{t:ag}:∀{xs:List t.el} {cs:List Value} {i:Nat} {x:t.el},bM (aH w M t) cs xs->xs[i]? =some x->
  ∃o c2 c3,cs=o++c2++c3/\o.length=i*t.cells/\aH w M t c2 x/\∀q x',aH w M t q x'->bM (aH w M t) (o++q++c3) (xs.set i x')
 |[],_,_,_,_,h=>by simp at h
 |y::R,cs,0,x,⟨o,c2,e,L,O⟩,h=>by
  simp at h
  subst h
  exact⟨[],o,c2,by simpa using e,by simp,L,fun q x' h'=>⟨q,c2,by simp,h',O⟩⟩
 |y::R,cs,i+1,x,⟨o,c2,e,L,O⟩,h=>by
  obtain⟨d1,d2,d3,ah,U,W,Y⟩:=pg O (by simpa using h)
  refine⟨o++d1,d2,d3,by rw[e,ah];simp,?_,W,fun q x' h'=>⟨o,d1++q++d3,by simp,L,Y q x' h'⟩⟩
  rw[List.length_append,cf t L,U,Nat.succ_mul,Nat.add_comm]
theorem cK{a b:Nat}(h:Nat.blt a b=true):a<b:=by
 have:a+1<=b:=by simpa[Nat.blt]using h
 omega
theorem Lf{a b:Nat}(h:Nat.blt a b=false):b<=a:=by
 rcases Nat.lt_or_ge a b with o|o
 ·have:Nat.blt a b=true:=by
   have:a+1<=b:=o
   simpa[Nat.blt]using this
  rw[this]at h;cases h
 ·exact o
theorem gI{t:ag}{x:t.el}{off:Nat}{u:ag}{y:u.el}(h:(bif Nat.beq off 0 then ak.as ⟨t,x⟩ u else none)=some y):off=0/\(⟨t,x⟩:ak)=⟨u,y⟩:=by
 cases o:Nat.beq off 0 with
 |false=>rw[o]at h;cases h
 |true=>rw[o]at h;exact⟨Nat.eq_of_beq_eq_true o,ak.dd h⟩
theorem nD{w:World}{M:Nat->Prop}:∀(t:ag) {cs:List Value} {x:t.el} {off:Nat} {u:ag} {y:u.el},aH w M t cs x->cI t x off u=some y->
  ∃q c2 c3,cs=q++c2++c3/\q.length=off/\aH w M u c2 y:=by
 intro t
 induction t with
 |int k=>intro cs x off u y o h;obtain⟨rfl,e⟩:=gI (t:=.int k) h;cases e;exact⟨[],cs,[],by simp,rfl,o⟩
 |bool=>intro cs x off u y o h;obtain⟨rfl,e⟩:=gI (t:=.bool) h;cases e;exact⟨[],cs,[],by simp,rfl,o⟩
 |str=>intro cs x off u y o h;obtain⟨rfl,e⟩:=gI (t:=.str) h;cases e;exact⟨[],cs,[],by simp,rfl,o⟩
 |ab t L=>intro cs x off u y o h;obtain⟨rfl,e⟩:=gI (t:=.ab t) h;cases e;exact⟨[],cs,[],by simp,rfl,o⟩
 |ptr t L=>intro cs x off u y o h;obtain⟨rfl,e⟩:=gI (t:=.ptr t) h;cases e;exact⟨[],cs,[],by simp,rfl,o⟩
 |fn f t L=>intro cs x off u y o h;obtain⟨rfl,e⟩:=gI (t:=.fn f t) h;cases e;exact⟨[],cs,[],by simp,rfl,o⟩
 |err=>intro cs x off u y o h;obtain⟨rfl,e⟩:=gI (t:=.err) h;cases e;exact⟨[],cs,[],by simp,rfl,o⟩
 |cy=>intro cs x off u y o h;obtain⟨rfl,e⟩:=gI (t:=.cy) h;cases e;exact⟨[],cs,[],by simp,rfl,o⟩
 |cL n t L=>intro cs x off u y o h;obtain⟨rfl,e⟩:=gI (t:=.cL n t) h;cases e;exact⟨[],cs,[],by simp,rfl,o⟩
 |alt n t r _ _=>intro cs x off u y o h;obtain⟨rfl,e⟩:=gI (t:=.alt n t r) h;cases e;exact⟨[],cs,[],by simp,rfl,o⟩
 |arr n t L=>
  intro cs x off u y o h
  unfold cI at h
  split at h
  ·rename_i la R U
   cases h
   have e:=ak.dd U
   cases e
   exact⟨[],cs,[],by simp,(Nat.eq_of_beq_eq_true R).symm,o⟩
  ·cases Y:Nat.beq t.cells 0 with
   |true=>rw[Y]at h;cases h
   |false=>
    rw[Y,cond_false]at h
    split at h
    ·rename_i z lb
     obtain⟨q,c2,c3,rfl,O,W⟩:=kq o.2 lb
     obtain⟨d1,d2,d3,rfl,ah,lc⟩:=L W h
     refine⟨q++d1,d2,d3++c3,by simp,?_,lc⟩
     rw[List.length_append,O,ah,Nat.mul_comm]
     exact Nat.div_add_mod off t.cells
    ·cases h
 |map a b _ _=>intro cs x off u y o h;obtain⟨rfl,e⟩:=gI (t:=.map a b) h;cases e;exact⟨[],cs,[],by simp,rfl,o⟩
 |unit=>intro cs x off u y o h;obtain⟨rfl,e⟩:=gI (t:=.unit) h;cases e;exact⟨[],cs,[],by simp,rfl,o⟩
 |pair a b ld le=>
  intro cs x off u y o h
  unfold cI at h
  split at h
  ·rename_i la R U
   cases h
   have e:=ak.dd U
   cases e
   exact⟨[],cs,[],by simp,(Nat.eq_of_beq_eq_true R).symm,o⟩
  ·obtain⟨q,c2,rfl,Z,W⟩:=o
   cases O:Nat.blt off a.cells with
   |true=>
    rw[O,cond_true]at h
    obtain⟨d1,d2,d3,rfl,ah,o⟩:=ld Z h
    exact⟨d1,d2,d3++c2,by simp,ah,o⟩
   |false=>
    rw[O,cond_false]at h
    obtain⟨d1,d2,d3,rfl,ah,o⟩:=le W h
    refine⟨q++d1,d2,d3,by simp,?_,o⟩
    rw[List.length_append,cf a Z,ah]
    have:=Lf O
    omega
theorem eL{t:ag}{off:Nat}{v:ak}{y:t.el}(h:(bif Nat.beq off 0 then v.as t else none)=some y):off=0/\v=⟨t,y⟩:=by
 cases o:Nat.beq off 0 with
 |false=>rw[o]at h;cases h
 |true=>rw[o]at h;exact⟨Nat.eq_of_beq_eq_true o,ak.dd h⟩
theorem pb{w:World}{M:Nat->Prop}{v:ak}{O:List Value}(ld:aH w M v.t O v.x):∀(t:ag) {cs:List Value} {x:t.el} {off:Nat} {y:t.el},aH w M t cs x->cp t x off v=some y->
  ∃L c2 c3,cs=L++c2++c3/\L.length=off/\c2.length=O.length/\aH w M t (L++O++c3) y:=by
 intro t
 have q:∀(t:ag) (cs:List Value) (x:t.el) (off:Nat) (y:t.el),aH w M t cs x->(off=0/\v=⟨t,y⟩)->∃L c2 c3,cs=L++c2++c3/\L.length=off/\c2.length=O.length/\aH w M t (L++O++c3) y:=by
  rintro t cs x off y o ⟨rfl,e⟩
  subst e
  exact⟨[],cs,[],by simp,rfl,by rw[cf t o,cf t ld],by simpa using ld⟩
 induction t with
 |int k=>intro cs x off y o h;exact q (.int k) cs x off y o (eL (t:=.int k) h)
 |bool=>intro cs x off y o h;exact q .bool cs x off y o (eL (t:=.bool) h)
 |str=>intro cs x off y o h;exact q .str cs x off y o (eL (t:=.str) h)
 |ab t U=>intro cs x off y o h;exact q (.ab t) cs x off y o (eL (t:=.ab t) h)
 |ptr t U=>intro cs x off y o h;exact q (.ptr t) cs x off y o (eL (t:=.ptr t) h)
 |fn f t U=>intro cs x off y o h;exact q (.fn f t) cs x off y o (eL (t:=.fn f t) h)
 |err=>intro cs x off y o h;exact q .err cs x off y o (eL (t:=.err) h)
 |cy=>intro cs x off y o h;exact q .cy cs x off y o (eL (t:=.cy) h)
 |cL n t U=>intro cs x off y o h;exact q (.cL n t) cs x off y o (eL (t:=.cL n t) h)
 |alt n t r _ _=>intro cs x off y o h;exact q (.alt n t r) cs x off y o (eL (t:=.alt n t r) h)
 |arr n t U=>
  intro cs x off y o h
  unfold cp at h
  split at h
  ·rename_i la lb R
   cases h
   exact q _ cs x off _ o ⟨Nat.eq_of_beq_eq_true lb,ak.dd R⟩
  ·cases le:Nat.beq t.cells 0 with
   |true=>rw[le]at h;cases h
   |false=>
    rw[le,cond_false]at h
    split at h
    ·rename_i z lf
     split at h
     ·rename_i ll lg
      cases h
      obtain⟨L,c2,c3,rfl,W,Z,lh⟩:=pg o.2 lf
      obtain⟨d1,d2,d3,rfl,ah,Y,li⟩:=U Z lg
      refine⟨L++d1,d2,d3++c3,by simp,?_,Y,?_,?_⟩
      ·rw[List.length_append,W,ah,Nat.mul_comm]
       exact Nat.div_add_mod off t.cells
      ·rw[List.length_set];exact o.1
      ·have:=lh _ _ li
       simpa using this
     ·cases h
    ·cases h
 |map a b _ _=>intro cs x off y o h;exact q (.map a b) cs x off y o (eL (t:=.map a b) h)
 |unit=>intro cs x off y o h;exact q .unit cs x off y o (eL (t:=.unit) h)
 |pair a b lj lk=>
  intro cs x off y o h
  unfold cp at h
  split at h
  ·rename_i la lb R
   cases h
   exact q _ cs x off _ o ⟨Nat.eq_of_beq_eq_true lb,ak.dd R⟩
  ·obtain⟨L,c2,rfl,lc,Z⟩:=o
   cases W:Nat.blt off a.cells with
   |true=>
    rw[W,cond_true]at h
    split at h
    ·rename_i la R
     cases h
     obtain⟨d1,d2,d3,rfl,ah,Y,o⟩:=lj lc R
     exact⟨d1,d2,d3++c2,by simp,ah,Y,d1++O++d3,c2,by simp,o,Z⟩
    ·cases h
   |false=>
    rw[W,cond_false]at h
    split at h
    ·rename_i la R
     cases h
     obtain⟨d1,d2,d3,rfl,ah,Y,o⟩:=lk Z R
     refine⟨L++d1,d2,d3,by simp,?_,Y,L,d1++O++d3,by simp,lc,o⟩
     rw[List.length_append,cf a lc,ah]
     have:=Lf W
     omega
    ·cases h
def ca:(t:ag)->t.el
 |.int _=>(0:Int)
 |.bool=>false
 |.str=>[]
 |.ab _=>[]
 |.unit=>()
 |.pair a b=>(ca a,ca b)
 |.ptr t=>ca t
 |.fn _ t=>ca t
 |.err=>none
 |.cy=>()
 |.cL _ t=>ca t
 |.alt _ _ r=>.inr (ca r)
 |.arr n t=>List.replicate n (ca t)
 |.map _ _=>none
def uK(f:List Value->Option (List Value)):Nat->List Value->Option (List Value)
 |0,r=>some r
 |n+1,r=>match f r with
  |some o=>uK f n o
  |none=>none
def fz:ag->List Value->Option (List Value)
 |.int k,.int k' n::r=>bif gh k k'&&n==0 then some r else none
 |.bool,.bool b::r=>bif b then none else some r
 |.str,.string s::r=>bif s.data.isEmpty then some r else none
 |.ab _,.slice none n c::r=>bif Nat.beq n 0&&Nat.beq c 0 then some r else none
 |.unit,r=>some r
 |.err,.nilIface::r=>some r
 |.cy,v::r=>bif v.oneCell' then some r else none
 |.map _ _,.map none::r=>some r
 |.arr n t,r=>uK (fz t) n r
 |.pair a b,r=>match fz a r with
  |some o=>fz b o
  |none=>none
 |_,_=>none
theorem Jw{α:Type}{f:List Value->α->Prop}{z:List Value->Option (List Value)}{y:α}(h:∀{cs r:List Value},z cs=some r->∃c,cs=c++r/\f c y):∀(n:Nat) {cs r:List Value},uK z n cs=some r->∃c,cs=c++r/\bM f c (List.replicate n y)
 |0,cs,r,o=>by cases o;exact⟨[],rfl,rfl⟩
 |n+1,cs,r,o=>by
  unfold uK at o
  split at o
  ·rename_i U L
   obtain⟨q,rfl,O⟩:=h L
   obtain⟨c2,rfl,R⟩:=Jw h n o
   exact⟨q++c2,by simp,q,c2,rfl,O,R⟩
  ·cases o
theorem Ko{w:World}{M:Nat->Prop}:∀(t:ag) {cs r:List Value},fz t cs=some r->∃c,cs=c++r/\aH w M t c (ca t):=by
 intro t
 induction t with
 |int k=>
  intro cs r h
  unfold fz at h
  split at h<;>try contradiction
  ·rename_i ld k' n L o;cases o
   cases q:(gh k k'&&n==0)<;>rw[q]at h<;>cases h
   simp only[Bool.and_eq_true,beq_iff_eq]at q
   rw[<-mr q.1,q.2]
   exact⟨[_],rfl,rfl⟩
  all_goals (rename_i o;cases o)
 |bool=>
  intro cs r h
  unfold fz at h
  split at h<;>try contradiction
  ·rename_i b L _
   cases b<;>cases h
   exact⟨[_],rfl,rfl⟩
  all_goals (rename_i o;cases o)
 |str=>
  intro cs r h
  unfold fz at h
  split at h<;>try contradiction
  ·rename_i s L _
   cases q:s.data.isEmpty<;>rw[q]at h<;>cases h
   have:s=⟨#[]⟩:=by cases s;simp at q;rw[q]
   rw[this]
   exact⟨[_],rfl,rfl,by decide⟩
  all_goals (rename_i o;cases o)
 |ab t O=>
  intro cs r h
  unfold fz at h
  split at h<;>try contradiction
  ·rename_i n c L o;cases o
   cases q:(Nat.beq n 0&&Nat.beq c 0)<;>rw[q]at h<;>cases h
   simp only[Bool.and_eq_true]at q
   rw[Nat.eq_of_beq_eq_true q.1,Nat.eq_of_beq_eq_true q.2]
   exact⟨[_],rfl,none,0,[],rfl,Nat.le_refl _,by decide,fun _=>rfl,rfl,fun j u Y=>by simp at Y⟩
  all_goals (rename_i o;cases o)
 |unit=>intro cs r h;cases h;exact⟨[],rfl,rfl⟩
 |ptr t O=>intro cs r h;simp[fz]at h
 |fn f t O=>intro cs r h;simp[fz]at h
 |cL f t O=>intro cs r h;simp[fz]at h
 |alt n t r _ _=>intro cs r h;simp[fz]at h
 |err=>
  intro cs r h
  unfold fz at h
  split at h<;>try contradiction
  ·cases h;exact⟨[_],rfl,.inl ⟨rfl,rfl⟩⟩
  all_goals (rename_i o;cases o)
 |cy=>
  intro cs r h
  unfold fz at h
  split at h<;>try contradiction
  ·rename_i v L _
   cases q:v.oneCell'<;>rw[q]at h<;>cases h
   exact⟨[_],rfl,_,rfl,q⟩
  all_goals (rename_i o;cases o)
 |map a b _ _=>
  intro cs r h
  unfold fz at h
  split at h<;>try contradiction
  ·cases h;exact⟨[_],rfl,rfl⟩
  all_goals (rename_i o;cases o)
 |arr n t O=>
  intro cs r h
  simp only[fz]at h
  obtain⟨c,R,U⟩:=Jw (f:=aH w M t) (y:=ca t) (fun Z=>O Z) n h
  exact⟨c,R,List.length_replicate,U⟩
 |pair a b la lb=>
  intro cs r h
  simp only[fz]at h
  split at h
  ·rename_i L lc
   obtain⟨W,rfl,R⟩:=la lc
   obtain⟨c2,rfl,U⟩:=lb h
   exact⟨W++c2,by simp,W,c2,rfl,R,U⟩
  ·cases h
end Go.Ev
namespace Go.Ev
open Go Go.RowKit
variable [b8]
variable {P:Program} {w:World} {M:Nat->Prop} {v:Value}
theorem cV{k:IntKind}{n:Int}:ba w M v (.int k) n↔v=.int k n:=by simp[ba,ag.agg,aH]
theorem dB{b:Bool}:ba w M v .bool b↔v=.bool b:=by simp[ba,ag.agg,aH]
theorem eG{s:List UInt8}:ba w M v .str s↔v=.string ⟨s.toArray⟩/\s.length<=maxLen:=by simp[ba,ag.agg,aH]
theorem bD{t:ag}{x:t.el}(h:t.agg=false):ba w M v t x↔aH w M t [v] x:=by simp[ba,h]
theorem dS{t:ag}{x:t.el}(h:t.agg=true):ba w M v t x↔∃o:List Value,v=.agg o.toArray/\aH w M t o x:=by simp[ba,h]
def br:Nat:=2147483648
theorem qc:br<=maxLen:=by decide
theorem gY(s:List UInt8):(bytesOf s).size=s.length:=by simp[bytesOf,ByteArray.size]
theorem y2(s:List UInt8):(bytesOf s).toList=s:=by rw[Lib.toList_data];rfl
theorem I9(a b:List UInt8):bytesOf a++bytesOf b=bytesOf (a++b):=by
 apply ByteArray.ext
 simp[bytesOf]
def bO:List Prop->Prop
 |[]=>True
 |p::r=>p/\bO r
def yi(o:BinOp)(k:IntKind)(a b:Int):Option (ak×List Prop):=
 match o with
 |.add=>some (⟨.int k,k.wrap (a+b)⟩,[])
 |.sub=>some (⟨.int k,k.wrap (a-b)⟩,[])
 |.mul=>some (⟨.int k,k.wrap (a*b)⟩,[])
 |.quo=>some (⟨.int k,k.wrap (a.tdiv b)⟩,[b≠0])
 |.rem=>some (⟨.int k,a.tmod b⟩,[b≠0])
 |.and=>some (⟨.int k,k.wrap (BitVec.ofInt k.bits a&&&BitVec.ofInt k.bits b).toNat⟩,[])
 |.or=>some (⟨.int k,k.wrap (BitVec.ofInt k.bits a|||BitVec.ofInt k.bits b).toNat⟩,[])
 |.xor=>some (⟨.int k,k.wrap (BitVec.ofInt k.bits a^^^BitVec.ofInt k.bits b).toNat⟩,[])
 |.andNot=>some (⟨.int k,k.wrap (BitVec.ofInt k.bits a&&&~~~BitVec.ofInt k.bits b).toNat⟩,[])
 |.eql=>some (⟨.bool,a==b⟩,[])
 |.neq=>some (⟨.bool,a !=b⟩,[])
 |.lss=>some (⟨.bool,decide (a<b)⟩,[])
 |.leq=>some (⟨.bool,decide (a<=b)⟩,[])
 |.gtr=>some (⟨.bool,decide (b<a)⟩,[])
 |.geq=>some (⟨.bool,decide (b<=a)⟩,[])
 |_=>none
def Aw(o:BinOp)(k:IntKind)(a b:Int):Option (ak×List Prop):=
 match o with
 |.shl=>some (⟨.int k,k.wrap (a*2^min b.toNat k.bits)⟩,[0<=b])
 |.shr=>some (⟨.int k,a.fdiv (2^min b.toNat k.bits)⟩,[0<=b])
 |_=>none
def zD(o:BinOp)(a b:Bool):Option (ak×List Prop):=
 match o with
 |.eql=>some (⟨.bool,a==b⟩,[])
 |.neq=>some (⟨.bool,!(a==b)⟩,[])
 |_=>none
def wA(o:BinOp)(a b:List UInt8):Option (ak×List Prop):=
 match o with
 |.add=>some (⟨.str,a++b⟩,[a.length+b.length<=br])
 |.eql=>some (⟨.bool,a==b⟩,[])
 |.neq=>some (⟨.bool,!(a==b)⟩,[])
 |.lss=>some (⟨.bool,Op.bytesLess a b⟩,[])
 |.leq=>some (⟨.bool,Op.bytesLess a b||a==b⟩,[])
 |.gtr=>some (⟨.bool,!(Op.bytesLess a b||a==b)⟩,[])
 |.geq=>some (⟨.bool,!(Op.bytesLess a b)⟩,[])
 |_=>none
def Fg(a b:Int):Bool:=a==b
def H2(a b:Bool):Bool:=a==b
def eqStr(a b:List UInt8):Bool:=a==b
def jA{α:Type}(f:α->α->Bool):List α->List α->Bool
 |[],[]=>true
 |x::xs,y::o=>f x y&&jA f xs o
 |_,_=>false
def aQ:(t:ag)->t.el->t.el->Bool
 |.int _,a,b=>Fg a b
 |.bool,a,b=>H2 a b
 |.str,a,b=>eqStr a b
 |.unit,_,_=>true
 |.pair s t,a,b=>aQ s a.1 b.1&&aQ t a.2 b.2
 |.arr _ t,a,b=>jA (aQ t) a b
 |_,_,_=>false
def dX(P:Program):Nat->TypeId->Bool
 |0,_=>false
 |d+1,t=>match P.underlying t with
  |some (.int _)=>true
  |some .bool=>true
  |some .string=>true
  |some (.struct o)=>!P.stoodInHeld t&&o.toList.all fun f=>f.name != "_" &&dX P d f.type
  |some (.array _ e)=>dX P d e
  |_=>false
theorem pN{d:Nat}{t:TypeId}{u:ag}(q:cG P d t=some u){pre c post:List Value}{x:u.el}(L:aH w M u c x)(R:World):
  ∃v,(part t (pre++c++post).toArray pre.length).run P R=.ok v R/\ba w M v u x:=by
 have O:=cf u L
 cases o:u.agg with
 |true=>
  refine⟨.agg c.toArray,?_,by rw[ba,if_pos o];exact⟨c,rfl,L⟩⟩
  unfold part
  rw[Sem.run_bind,jx q,o]
  simp only[Result.andThen_ok,if_true,Sem.run_bind,eK q,Sem.run_pure]
  have e:(pre++c++post).toArray.extract pre.length (pre.length+u.cells)=c.toArray:=by
   rw[<-O]
   apply Array.ext'
   simp[List.extract_eq_take_drop]
  rw[e]
 |false=>
  have U:u.cells=1:=by cases u<;>first|rfl|(simp[ag.agg]at o)
  rw[U]at O
  match c,O with
  |[v],_=>
   refine⟨v,?_,by rw[ba,if_neg (by rw[o];decide)];exact L⟩
   unfold part
   rw[Sem.run_bind,jx q,o]
   simp only[Result.andThen_ok,Bool.false_eq_true,if_false]
   have e:(pre++[v]++post).toArray[pre.length]? =some v:=by simp
   rw[e]
   rfl
theorem Ln{d O:Nat}(la:∀(t:TypeId) (u:ag),cG P d t=some u->∀d',dX P d' t=true->d'<=O->∀(w w' o:World) (M M':Nat->Prop) (v v':Value) (x y:u.el),ba w M v u x->ba w' M' v' u y->(Op.equalIn O t v v').run P o=.ok (aQ u x y) o):
  ∀(L:List Field) (off:Nat) (u:ag),fieldsOf (cG P d) off L=some u->∀d',d'<=O->(L.all fun f=>f.name != "_" &&dX P d' f.type)=true->∀(w w' o:World) (M M':Nat->Prop) (pre q c c':List Value) (x y:u.el),pre.length=off->q.length=off->aH w M u c x->aH w' M' u c' y->
   (Op.eqFields O (pre++c).toArray (q++c').toArray L).run P o=.ok (aQ u x y) o
 |[],off,u,h,_,_,_,w,w',o,M,M',pre,q,c,c',x,y,_,_,_,_=>by
  simp only[fieldsOf,Option.some.injEq]at h
  subst h
  simp[Op.eqFields,aQ]
 |f::L,off,u,h,d',ah,R,w,w',o,M,M',pre,q,c,c',x,y,lb,lc,lh,li=>by
  unfold fieldsOf at h
  cases U:Nat.beq f.offset off with
  |false=>rw[U]at h;cases h
  |true=>
   have lj:=Nat.eq_of_beq_eq_true U
   rw[U,cond_true]at h
   split at h
   ·rename_i a W
    split at h
    ·rename_i b lk
     cases h
     rw[List.all_cons,Bool.and_eq_true,Bool.and_eq_true]at R
     obtain⟨ll,c2,rfl,ld,bW⟩:=lh
     obtain⟨lm,le,rfl,lf,mT⟩:=li
     obtain⟨v,Y,ln⟩:=pN (P:=P) W (pre:=pre) (post:=c2) ld o
     obtain⟨v',Z,lo⟩:=pN (P:=P) W (pre:=q) (post:=le) lf o
     have lp:f.name≠ "_" :=by simpa using R.1.1
     rw[List.append_assoc]at Y Z
     rw[lb]at Y
     rw[lc]at Z
     simp only[Op.eqFields,if_pos lp,lj,Sem.run_bind,Y,Z,Result.andThen_ok,la f.type a W d' R.1.2 ah w w' o M M' v v' x.1 y.1 ln lo]
     cases lg:aQ a x.1 y.1 with
     |false=>
      simp only[Bool.not_false,if_true,Sem.run_pure]
      simp[aQ,lg]
     |true=>
      simp only[Bool.not_true,Bool.false_eq_true,if_false]
      have:=Ln la L (off+a.cells) b lk d' ah R.2 w w' o M M' (pre++ll) (q++lm) c2 le x.2 y.2 (by rw[List.length_append,lb,cf a ld]) (by rw[List.length_append,lc,cf a lf]) bW mT
      rw[List.append_assoc,List.append_assoc]at this
      rw[this]
      simp[aQ,lg]
    ·cases h
   ·cases h
theorem sI{P:Program}{d:Nat}{t:TypeId}{u:ag}(h:cG P d t=some u):P.cellsOf t=u.cells:=by
 obtain⟨i,o,q,_⟩:=da h
 simp[Program.cellsOf,o,q]
theorem Kv{d Y:Nat}{e:TypeId}{u:ag}(R:cG P d e=some u)(Z:∀(w w' o:World) (M M':Nat->Prop) (v v':Value) (x y:u.el),ba w M v u x->ba w' M' v' u y->(Op.equalIn Y e v v').run P o=.ok (aQ u x y) o):
  ∀(xs L:List u.el) (n:Nat) (w w' o:World) (M M':Nat->Prop) (pre q c c':List Value),pre.length=n*u.cells->q.length=n*u.cells->xs.length=L.length->bM (aH w M u) c xs->bM (aH w' M' u) c' L->
   (Op.eqItems Y e u.cells (pre++c).toArray (q++c').toArray (List.range' n xs.length)).run P o=.ok (jA (aQ u) xs L) o
 |[],[],n,w,w',o,M,M',pre,q,c,c',_,_,_,_,_=>by simp[Op.eqItems,jA]
 |[],_::_,_,_,_,_,_,_,_,_,_,_,_,_,O,_,_=>by simp at O
 |_::_,[],_,_,_,_,_,_,_,_,_,_,_,_,O,_,_=>by simp at O
 |x::xs,y::L,n,w,w',o,M,M',pre,q,c,c',la,lb,O,lg,lh=>by
  obtain⟨li,c2,rfl,lc,bW⟩:=lg
  obtain⟨lj,ld,rfl,le,mT⟩:=lh
  obtain⟨v,U,lk⟩:=pN (P:=P) R (pre:=pre) (post:=c2) lc o
  obtain⟨v',W,ll⟩:=pN (P:=P) R (pre:=q) (post:=ld) le o
  rw[List.append_assoc]at U W
  rw[la]at U
  rw[lb]at W
  rw[List.length_cons,List.range'_succ]
  simp only[Op.eqItems,Sem.run_bind,U,W,Result.andThen_ok,Z w w' o M M' v v' x y lk ll]
  cases lf:aQ u x y with
  |false=>simp[jA,lf]
  |true=>
   simp only[Bool.not_true,Bool.false_eq_true,if_false]
   have:=Kv R Z xs L (n+1) w w' o M M' (pre++li) (q++lj) c2 ld (by rw[List.length_append,la,cf u lc,Nat.succ_mul]) (by rw[List.length_append,lb,cf u le,Nat.succ_mul]) (by simpa using O) bW mT
   rw[List.append_assoc,List.append_assoc]at this
   rw[this]
   simp[jA,lf]
theorem rC:∀(d:Nat) (t:TypeId) (u:ag),cG P d t=some u->∀d',dX P d' t=true->∀L,d'<=L->∀(w w' O:World) (M M':Nat->Prop) (v v':Value) (x y:u.el),ba w M v u x->ba w' M' v' u y->(Op.equalIn L t v v').run P O=.ok (aQ u x y) O
 |0,_,_,h=>by cases h
 |d+1,t,u,h=>by
  intro d' q L lq w w' O M M' v v' x y Y Z
  cases d' with
  |zero=>cases q
  |succ d'=>
   obtain⟨L,rfl⟩:∃k,L=k+1:=⟨L-1,by omega⟩
   unfold dX at q
   unfold cG at h
   split at h
   ·rename_i i k R o
    cases U:Nat.beq i.size 1<;>rw[U]at h<;>cases h
    obtain rfl:=cV.1 Y
    obtain rfl:=cV.1 Z
    exact run_equalIn_int O L t k k x y o
   ·rename_i i R o
    cases U:Nat.beq i.size 1<;>rw[U]at h<;>cases h
    obtain rfl:=dB.1 Y
    obtain rfl:=dB.1 Z
    exact run_equalIn_bool' O L t x y o
   ·rename_i i R o
    cases U:Nat.beq i.size 1<;>rw[U]at h<;>cases h
    obtain⟨rfl,_⟩:=eG.1 Y
    obtain⟨rfl,_⟩:=eG.1 Z
    rw[run_equalIn_string O L t _ _ o]
    have la:=y2 x
    have lb:=y2 y
    unfold bytesOf at la lb
    rw[la,lb]
    rfl
   ·rename_i i e R o
    rw[o]at q
    cases q
   ·rename_i i lc R o
    rw[o]at q
    simp only[Bool.and_eq_true,Bool.not_eq_true']at q
    split at h
    ·rename_i v0 W
     cases U:Nat.beq i.size v0.cells<;>rw[U]at h<;>cases h
     have ld:=Hs W
     obtain⟨c,rfl,lh⟩:=(dS ld).1 Y
     obtain⟨c',rfl,li⟩:=(dS ld).1 Z
     have le:P.fieldsOf t=lc:=by unfold Program.fieldsOf;rw[o]
     rw[run_equalIn_struct O L t c.toArray c'.toArray (by rw[le];exact o) q.1,le]
     exact Ln (fun t u lj lk ll ah=>rC d t u lj lk ll L ah) lc.toList 0 u W d' (by omega) q.2 w w' O M M' [] [] c c' x y rfl rfl lh li
    ·cases h
   ·rename_i i lr R o
    rw[o]at q
    cases q
   ·rename_i i n e R o
    rw[o]at q
    split at h
    ·rename_i v0 W
     cases U:Nat.beq i.size (n*v0.cells)<;>rw[U]at h<;>cases h
     obtain⟨c,rfl,lf,lm⟩:=(dS (t:=.arr n v0) rfl).1 Y
     obtain⟨c',rfl,ln,lo⟩:=(dS (t:=.arr n v0) rfl).1 Z
     obtain⟨ls,lp,lt,_⟩:=da W
     have lg:=Kv W (fun w w' O M M' v v' x y=>rC d e v0 W d' q L (by omega) w w' O M M' v v' x y) x y 0 w w' O M M' [] [] c c' (by simp) (by simp) (lf.trans ln.symm) lm lo
     rw[run_equalIn_array O L c.toArray c'.toArray o lp,sI W,List.range_eq_range']
     rw[lf]at lg
     exact lg
    ·cases h
   ·rename_i i k e R o
    rw[o]at q
    cases q
   ·rename_i i a b c R o
    rw[o]at q
    cases q
   ·rename_i i e R o
    rw[o]at q
    cases q
   ·cases h
def u4:BinOp->Bool
 |.shl=>true
 |.shr=>true
 |_=>false
def bin(P:Program)(q:BinOp)(t:TypeId)(x y:ak):Option (ak×List Prop):=
 match x,y with
 |⟨.int k,a⟩,⟨.int k',b⟩=>bif u4 q then Aw q k a b else bif gh k k' then yi q k a b else none
 |⟨.bool,a⟩,⟨.bool,b⟩=>match P.underlying t with
  |some .bool=>zD q a b
  |_=>none
 |⟨.str,a⟩,⟨.str,b⟩=>wA q a b
 |⟨.pair o L,a⟩,y=>match y.as (.pair o L),ty P t with
  |some b,some u=>match u.beq (.pair o L)&&dX P 16 t&&!(P.eqGuardType P.depth t),q with
   |true,.eql=>some (⟨.bool,aQ (.pair o L) a b⟩,[])
   |true,.neq=>some (⟨.bool,!(aQ (.pair o L) a b)⟩,[])
   |_,_=>none
  |_,_=>none
 |⟨.arr O o,a⟩,y=>match y.as (.arr O o),ty P t with
  |some b,some u=>match u.beq (.arr O o)&&dX P 16 t&&!(P.eqGuardType P.depth t),q with
   |true,.eql=>some (⟨.bool,aQ (.arr O o) a b⟩,[])
   |true,.neq=>some (⟨.bool,!(aQ (.arr O o) a b)⟩,[])
   |_,_=>none
  |_,_=>none
 |_,_=>none
def gb(P:Program)(s:Sem Value)(v:Value):Prop:=∀w,s.run P w=.ok v w
theorem rR{op:BinOp}{t:TypeId}{x y:Operand}{k k':IntKind}{a b:Int}(w:World):(eqGuard op t x y (.int k a) (.int k' b)).run P w=.ok () w:=by cases op<;>rfl
theorem sg{op:BinOp}{t:TypeId}{x y:Operand}{a b:Bool}(w:World):(eqGuard op t x y (.bool a) (.bool b)).run P w=.ok () w:=by cases op<;>rfl
theorem rS{op:BinOp}{t:TypeId}{x y:Operand}{a b:ByteArray}(w:World):(eqGuard op t x y (.string a) (.string b)).run P w=.ok () w:=by cases op<;>rfl
theorem sM{op:BinOp}{t:TypeId}{k:IntKind}{a b:Int}(o:u4 op=false):binOp op t (.int k a) (.int k b)=
  (match op with|.add|.sub|.mul=>Op.intArith op k a b|.quo|.rem=>Op.intDiv op k a b|.and|.or|.xor|.andNot=>Op.intBits op k a b|_=>Op.intCmp op a b):=by
 cases op<;>simp[binOp,u4]at o⊢
theorem Wy{op:BinOp}{k:IntKind}{a b:Int}{t:TypeId}{r:ak}{ob:List Prop}(h:yi op k a b=some (r,ob))(o:bO ob):
  ∃v,gb P (binOp op t (.int k a) (.int k b)) v/\∀w M,ba w M v r.t r.x:=by
 cases op<;>simp only[yi]at h<;>cases h
 case quo=>
  refine⟨_,fun w=>?_,fun _ _=>cV.2 rfl⟩
  rw[sM rfl]
  show(if b=0 then _ else _:Sem Value).run P w=_
  rw[if_neg o.1]
  rfl
 case rem=>
  refine⟨_,fun w=>?_,fun _ _=>cV.2 rfl⟩
  rw[sM rfl]
  show(if b=0 then _ else _:Sem Value).run P w=_
  rw[if_neg o.1]
  rfl
 all_goals first
  |exact⟨_,fun w=>by rw[sM rfl];rfl,fun _ _=>cV.2 rfl⟩
  |exact⟨_,fun w=>by rw[sM rfl];rfl,fun _ _=>dB.2 rfl⟩
theorem QR{op:BinOp}{k k':IntKind}{a b:Int}{t:TypeId}{r:ak}{ob:List Prop}(h:Aw op k a b=some (r,ob))(o:bO ob):
  ∃v,gb P (binOp op t (.int k a) (.int k' b)) v/\∀w M,ba w M v r.t r.x:=by
 cases op<;>simp only[Aw]at h<;>cases h
 all_goals
  have L:0<=b:=o.1
  have q:¬b<0:=by omega
  exact⟨_,fun w=>by simp[binOp,Op.shift,q],fun _ _=>cV.2 rfl⟩
theorem Tq{t:TypeId}(o:P.underlying t=some .bool){a b:Bool}(d:Nat)(w:World):(Op.equalIn (d+1) t (.bool a) (.bool b)).run P w=.ok (a==b) w:=by
 simp[Op.equalIn,run_underlying o]
theorem P9{op:BinOp}{a b:Bool}{t:TypeId}(o:P.underlying t=some .bool){r:ak}{ob:List Prop}(h:zD op a b=some (r,ob)):
  ∃v,gb P (binOp op t (.bool a) (.bool b)) v/\∀w M,ba w M v r.t r.x:=by
 have e:∀w,(Op.equal t (.bool a) (.bool b)).run P w=.ok (a==b) w:=fun w=>by
  exact Tq o 9999 w
 cases op<;>simp only[zD]at h<;>cases h
 all_goals exact⟨_,fun w=>by simp[binOp,e],fun _ _=>dB.2 rfl⟩
theorem N2{op:BinOp}{a b:List UInt8}{t:TypeId}{r:ak}{ob:List Prop}(h:wA op a b=some (r,ob))(q:bO ob):
  ∃v,gb P (binOp op t (.string (bytesOf a)) (.string (bytesOf b))) v/\∀w M,ba w M v r.t r.x:=by
 cases op<;>simp only[wA]at h<;>cases h
 case add=>
  have o:a.length+b.length<=maxLen:=Nat.le_trans q.1 qc
  have L:¬(((bytesOf a).size+(bytesOf b).size:Nat):Int)>IntKind.i64.max:=by
   rw[gY,gY]
   have:IntKind.i64.max=9223372036854775807:=by decide
   rw[this]
   simp only[maxLen]at o
   omega
  refine⟨.string (bytesOf (a++b)),fun w=>?_,fun _ _=>eG.2 ⟨rfl,by rw[List.length_append];exact o⟩⟩
  simp only[binOp,Op.stringOp]
  rw[if_neg L,I9]
  rfl
 all_goals exact⟨_,fun w=>by simp[binOp,Op.stringOp,y2],fun _ _=>dB.2 rfl⟩
theorem zN{op:BinOp}{t:TypeId}{x y:ak}{O R:Value}{ox oy:Operand}{r:ak}{ob:List Prop}(W:ba w M O x.t x.x)(Y:ba w M R y.t y.x)
  (h:bin P op t x y=some (r,ob))(le:bO ob):
  ∃v,gb P (do eqGuard op t ox oy O R;binOp op t O R) v/\∀w M,ba w M v r.t r.x:=by
 have U:∀v,(∀w,(eqGuard op t ox oy O R).run P w=.ok () w)->gb P (binOp op t O R) v->gb P (do eqGuard op t ox oy O R;binOp op t O R) v:=by
  intro v lj lk w
  rw[Sem.run_bind,lj w]
  exact lk w
 unfold bin at h
 split at h
 ·rename_i k a k' b
  obtain rfl:=cV.1 W
  obtain rfl:=cV.1 Y
  cases li:u4 op with
  |true=>
   rw[li,cond_true]at h
   obtain⟨v,Z,la⟩:=QR (P:=P) (t:=t) (k':=k') h le
   exact⟨v,U v (fun _=>by first|exact rR _|exact sg _|exact rS _) Z,la⟩
  |false=>
   rw[li,cond_false]at h
   cases lf:gh k k' with
   |false=>rw[lf]at h;cases h
   |true=>
    rw[lf,cond_true]at h
    obtain rfl:=mr lf
    obtain⟨v,Z,la⟩:=Wy (P:=P) (t:=t) h le
    exact⟨v,U v (fun _=>by first|exact rR _|exact sg _|exact rS _) Z,la⟩
 ·rename_i a b
  obtain rfl:=dB.1 W
  obtain rfl:=dB.1 Y
  split at h
  ·rename_i ld
   obtain⟨v,Z,la⟩:=P9 ld h
   exact⟨v,U v (fun _=>by first|exact rR _|exact sg _|exact rS _) Z,la⟩
  ·cases h
 ·rename_i a b
  obtain⟨rfl,_⟩:=eG.1 W
  obtain⟨rfl,_⟩:=eG.1 Y
  obtain⟨v,Z,la⟩:=N2 (P:=P) (t:=t) h le
  exact⟨v,U v (fun _=>by first|exact rR _|exact sg _|exact rS _) Z,la⟩
 ·rename_i L lb a
  split at h
  ·rename_i b u lg ld
   have lh:=ak.dd lg
   subst lh
   have e:∀o:World,(u.beq (.pair L lb)&&dX P 16 t&&!(P.eqGuardType P.depth t))=true->(Op.equalIn 10000 t O R).run P o=.ok (aQ (.pair L lb) a b) o:=by
    intro o q
    simp only[Bool.and_eq_true]at q
    have:=ag.eq_of_beq q.1.1
    subst this
    exact rC iy t _ ld 16 q.1.2 10000 (by decide) w w o M M O R a b W Y
   obtain⟨c,rfl,_⟩:=(dS (t:=.pair L lb) rfl).1 W
   obtain⟨c',rfl,_⟩:=(dS (t:=.pair L lb) rfl).1 Y
   split at h
   ·rename_i q
    cases h
    refine⟨.bool (aQ (.pair L lb) a b),U _ (fun o=>?_) (fun o=>?_),fun _ _=>dB.2 rfl⟩
    ·simp only[Bool.and_eq_true,Bool.not_eq_true']at q
     exact run_eqGuard_agg o .eql t ox oy c.toArray c'.toArray q.2
    ·rw[run_eql_struct,e o q]
     rfl
   ·rename_i q
    cases h
    refine⟨.bool (!aQ (.pair L lb) a b),U _ (fun o=>?_) (fun o=>?_),fun _ _=>dB.2 rfl⟩
    ·simp only[Bool.and_eq_true,Bool.not_eq_true']at q
     exact run_eqGuard_agg o .neq t ox oy c.toArray c'.toArray q.2
    ·rw[run_neq_struct,e o q]
     rfl
   ·cases h
  ·cases h
 ·rename_i lc L a
  split at h
  ·rename_i b u lg ld
   have lh:=ak.dd lg
   subst lh
   have e:∀o:World,(u.beq (.arr lc L)&&dX P 16 t&&!(P.eqGuardType P.depth t))=true->(Op.equalIn 10000 t O R).run P o=.ok (aQ (.arr lc L) a b) o:=by
    intro o q
    simp only[Bool.and_eq_true]at q
    have:=ag.eq_of_beq q.1.1
    subst this
    exact rC iy t _ ld 16 q.1.2 10000 (by decide) w w o M M O R a b W Y
   obtain⟨c,rfl,_⟩:=(dS (t:=.arr lc L) rfl).1 W
   obtain⟨c',rfl,_⟩:=(dS (t:=.arr lc L) rfl).1 Y
   split at h
   ·rename_i q
    cases h
    refine⟨.bool (aQ (.arr lc L) a b),U _ (fun o=>?_) (fun o=>?_),fun _ _=>dB.2 rfl⟩
    ·simp only[Bool.and_eq_true,Bool.not_eq_true']at q
     exact run_eqGuard_agg o .eql t ox oy c.toArray c'.toArray q.2
    ·rw[run_eql_struct,e o q]
     rfl
   ·rename_i q
    cases h
    refine⟨.bool (!aQ (.arr lc L) a b),U _ (fun o=>?_) (fun o=>?_),fun _ _=>dB.2 rfl⟩
    ·simp only[Bool.and_eq_true,Bool.not_eq_true']at q
     exact run_eqGuard_agg o .neq t ox oy c.toArray c'.toArray q.2
    ·rw[run_neq_struct,e o q]
     rfl
   ·cases h
  ·cases h
 ·cases h
def OE(k:IntKind)(n:Int):Int:=k.wrap (0-n)
def un(o:UnOp)(x:ak):Option ak:=
 match o,x with
 |.not,⟨.bool,b⟩=>some ⟨.bool,!b⟩
 |.neg,⟨.int k,n⟩=>some ⟨.int k,OE k n⟩
 |_,_=>none
theorem Sk{op:UnOp}{x r:ak}{o:Value}(q:ba w M o x.t x.x)(h:un op x=some r):∃v,gb P (Op.unary op o) v/\∀w M,ba w M v r.t r.x:=by
 unfold un at h
 split at h
 ·obtain rfl:=dB.1 q
  cases h
  exact⟨_,fun w=>by simp[Op.unary],fun _ _=>dB.2 rfl⟩
 ·obtain rfl:=cV.1 q
  cases h
  exact⟨_,fun w=>rfl,fun _ _=>cV.2 rfl⟩
 ·cases h
def conv(P:Program)(src o:TypeId)(x:ak):Option ak:=
 match x,P.underlying src,P.underlying o with
 |⟨.int _,n⟩,some _,some (.int k)=>some ⟨.int k,k.wrap n⟩
 |⟨.int _,n⟩,some _,some .string=>some ⟨.str,(Utf8.encode n).data.toList⟩
 |⟨.str,s⟩,some .string,some .string=>some ⟨.str,s⟩
 |_,_,_=>none
theorem UI(n:Int):(Utf8.encode n).data.toList.length<=maxLen:=by
 have:(Utf8.encode n).data.toList.length<=4:=by
  unfold Utf8.encode
  dsimp only
  repeat' split
  all_goals simp
 exact Nat.le_trans this (by decide)
theorem Nh{src L:TypeId}{x r:ak}{O:Value}(q:ba w M O x.t x.x)(h:conv P src L x=some r):∃v,gb P (convert src L O) v/\∀w M,ba w M v r.t r.x:=by
 unfold conv at h
 split at h
 ·rename_i R n d k o ah
  obtain rfl:=cV.1 q
  cases h
  exact⟨_,fun w=>by simp[convert,run_underlying o,run_underlying ah,Conv.intToInt],fun _ _=>cV.2 rfl⟩
 ·rename_i R n d o ah
  obtain rfl:=cV.1 q
  cases h
  refine⟨.string (Utf8.encode n),fun w=>?_,fun _ _=>eG.2 ⟨?_,UI n⟩⟩
  ·simp[convert,run_underlying o,run_underlying ah,Conv.intToString]
  ·congr 1
 ·rename_i s o ah
  obtain⟨rfl,U⟩:=eG.1 q
  cases h
  exact⟨_,fun w=>by simp[convert,run_underlying o,run_underlying ah],fun _ _=>eG.2 ⟨rfl,U⟩⟩
 ·cases h
end Go.Ev
namespace Go.Ev
open Go Go.RowKit
variable [b8]
def KG:Value->Option ao
 |.bool b=>some (.val .bool b)
 |.int k n=>some (.val (.int k) n)
 |.string s=>bif Nat.ble s.data.toList.length maxLen then some (.val .str s.data.toList)else none
 |.nilIface=>some (.val .err none)
 |.pointer none=>some .any
 |.nilFunc=>some .any
 |_=>none
def aR(st:af):Operand->Option ao
 |.tmp t=>look st.ab t
 |.const v=>KG v
 |.func f=>some (.clos f [])
 |.global _=>none
def dm(st:af)(x:Operand):Option ak:=
 match aR st x with
 |some (.val t x)=>some ⟨t,x⟩
 |_=>none
variable {cx:bB} {m:Nat->Value} {st:af} {T:Array Value} {w w':World}
variable [ai cx]
theorem Jl{t:Nat}{v:Value}(h:T[t]? =some v):(Act.eval ⟨T,ai.D cx⟩ (.tmp t))=v:=by
 show T.getD t undef=v
 rw[Array.getD_eq_getD_getElem?,h]
 rfl
theorem be(h:an cx m st T w){x:Operand}{s:ao}(o:aR st x=some s):aS w (ar cx m st.ids) m (Act.eval ⟨T,ai.D cx⟩ x) s:=by
 cases x with
 |tmp t=>
  obtain⟨v,O,R⟩:=h.cJ t s (a8 o)
  rw[Jl O]
  exact R
 |const v=>
  cases v<;>simp only[aR,KG]at o
  case bool b=>cases o;exact dB.2 rfl
  case int k n=>cases o;exact cV.2 rfl
  case pointer p=>cases p with
   |none=>cases o;exact trivial
   |some a=>cases o
  case nilFunc=>cases o;exact trivial
  case nilIface=>cases o;exact(bD (t:=.err) rfl).2 (.inl ⟨rfl,rfl⟩)
  case string L=>
   cases q:Nat.ble L.data.toList.length maxLen with
   |false=>rw[q]at o;cases o
   |true=>
    rw[q]at o
    cases o
    exact eG.2 ⟨by cases L;simp[Act.eval],Nat.le_of_ble_eq_true q⟩
  all_goals cases o
 |func f=>cases o;rfl
 |global g=>cases o
theorem cW(h:an cx m st T w){x:Operand}{u:ak}(o:dm st x=some u):ba w (ar cx m st.ids) (Act.eval ⟨T,ai.D cx⟩ x) u.t u.x:=by
 unfold dm at o
 split at o
 ·rename_i t y q
  cases o
  exact be h q
 ·cases o
def mm(st:af):ao->ao
 |.row r=>match look st.rw r with
  |some c=>.val (.ab c.t) c.xs
  |none=>.row r
 |.iter b=>match look st.ad b with
  |some (.mp k v ps)=>.val (.map k v) (some ps)
  |_=>.iter b
 |s=>s
theorem Fi(h:an cx m st T w){v:Value}{s:ao}(o:aS w (ar cx m st.ids) m v s):aS w (fun _=>False) m v (mm st s):=by
 have q:∀b,b<w.heap.size->¬ar cx m st.ids b->w.heap[b]? =w.heap[b]? :=fun _ _ _=>rfl
 have L:∀b,b<w.heap.size->False->ar cx m st.ids b:=fun _ _ h=>h.elim
 have O:=fh (M':=fun _=>False) q L o
 cases s with
 |row r=>
  simp only[mm]
  split
  ·rename_i c R
   have e:v=m r:=o
   rw[e]
   exact(bD (t:=.ab c.t) rfl).2 (h.sc (a8 R) (fun b _ U=>U.elim) fun g _ U=>U)
  ·exact O
 |iter b=>
  simp only[mm]
  split
  ·rename_i k v' ps R
   have e:v=m b:=o
   obtain⟨g,W,_,es,Y,Z,la,lb,lc⟩:=h.box (a8 R)
   rw[e]
   exact(bD (t:=.map k v') rfl).2 ⟨g,es,Y,by rw[W];rfl,Z,fun h=>h.elim,la,lb,gJ (fun _ _ h=>dc q L h) (fun _ _ h=>dc q L h) lc⟩
  ·exact O
 |_=>exact O
def aq{α:Type}(xs:List α)(i:Int):Option α:=if 0<=i then xs[i.toNat]? else none
def dZ(s:List UInt8)(i:Int):Option Int:=match aq s i with
 |some b=>some (b.toNat:Int)
 |none=>none
theorem iC{α:Type}{xs:List α}{i:Int}{x:α}(h:aq xs i=some x):0<=i/\i<xs.length/\xs[i.toNat]? =some x:=by
 unfold aq at h
 split at h
 ·rename_i o
  have:=(List.getElem?_eq_some_iff.1 h).1
  exact⟨o,by omega,h⟩
 ·cases h
def dx{α:Type}(s:List α)(o q:Int):Option (List α):=if 0<=o/\o<=q/\q<=s.length then some ((s.take q.toNat).drop o.toNat)else none
theorem r3{α:Type}{s r:List α}{o q:Int}(h:dx s o q=some r):0<=o/\o<=q/\q<=s.length/\r=(s.take q.toNat).drop o.toNat:=by
 unfold dx at h
 split at h
 ·rename_i L;cases h;exact⟨L.1,L.2.1,L.2.2,rfl⟩
 ·cases h
def my(P:Program)(w:World)(s:Sem Value)(v:Value):Prop:=∀w',Ext w w'->s.run P w'=.ok v w'
theorem gb.steady{P:Program}{s:Sem Value}{v:Value}(h:gb P s v):my P w s v:=fun w' _=>h w'
def fa(xs:List Int):List UInt8:=xs.map fun n=>UInt8.ofNat n.toNat
def cS(xs:List Int):List UInt8:=(runesBytes xs).data.toList
def mD(s:List UInt8):Nat->Nat->List Int
 |0,_=>[]
 |n+1,i=>if i<s.length then((Utf8.decode (bytesOf s) i).1:Int)::mD s n (i+(Utf8.decode (bytesOf s) i).2)else[]
def eB(s:List UInt8):List Int:=mD s s.length 0
theorem uT{w:World}{M:Nat->Prop}{k:IntKind}:∀{xs:List Int} {cs:List Value},bM (aH w M (.int k)) cs xs->cs=xs.map (Value.int k)
 |[],_,h=>h
 |x::xs,_,⟨q,c2,e,o,L⟩=>by
  have o:q=[.int k x]:=o
  rw[e,o,uT L]
  rfl
theorem foldl_push:∀(l:List Int) (r:ByteArray),l.foldl (fun r n=>r.push (UInt8.ofNat n.toNat)) r=⟨r.data++(fa l).toArray⟩
 |[],r=>by simp[fa]
 |b::l,r=>by
  simp only[List.foldl_cons]
  rw[foldl_push l]
  simp[ByteArray.push,fa]
theorem Ua{P:Program}{src o e:TypeId}(U:P.underlying src=some (.slice e))(W:P.underlying e=some (.int .u8))(ah:P.underlying o=some .string){v:Value}{xs:List Int}(q:ba w (fun _=>False) v (.ab (.int .u8)) xs):
  my P w (convert src o v) (.string (bytesOf (fa xs)))/\(fa xs).length<=maxLen:=by
 obtain⟨a,cap,cells,L,Y,Z,la,lb,lc⟩:∃(a:Option Addr) (cap:Nat) (cells:List Value),[v]=[.slice a (List.length (α:=Int) xs) cap]/\List.length (α:=Int) xs<=cap/\cap<=maxLen/\(a=none->cap=0)/\
  bM (aH w (fun _=>False) (.int .u8)) cells xs/\∀j u,cells[j]? =some u->∃b,a=some b/\w.cell? (b.add j)=some u/\¬False:=(bD (t:=.ab (.int .u8)) rfl).1 q
 clear q
 simp only[List.cons.injEq,and_true]at L
 subst L
 have ld:=uT lb
 subst ld
 refine⟨fun w' le=>?_,by unfold fa;rw[List.length_map];exact Nat.le_trans Y Z⟩
 rw[run_convert_bytes_string w' src o e a _ _ U W ah]
 cases a with
 |none=>
  have lj:=la rfl
  have lf:xs=[]:=List.eq_nil_of_length_eq_zero (by omega)
  subst lf
  rfl
 |some b=>
  have O:=run_loadCells_list (P:=P) w' b (xs.map (Value.int .u8)) (fun j u lg=>by
   obtain⟨lk,lh,R,_⟩:=lc j u lg
   cases lh
   rw[World.cell?_of_block (w:=w) (le.block _ (World.block_lt_of_cell? w _ R))]
   exact R)
  rw[List.length_map]at O
  rw[run_bytesToString w' b xs.length cap xs O,foldl_push]
  have li:ByteArray.empty.data=#[]:=rfl
  rw[li]
  simp[bytesOf]
theorem OT{P:Program}{src o e:TypeId}(q:P.underlying src=some (.slice e))(L:P.underlying e=some (.int .i32))(ah:P.underlying o=some .string){v:Value}{xs:List Int}(O:ba w (fun _=>False) v (.ab (.int .i32)) xs):
  my P w (convert src o v) (.string (bytesOf (cS xs))):=by
 obtain⟨a,cap,cells,R,lg,lh,Y,Z,la⟩:∃(a:Option Addr) (cap:Nat) (cells:List Value),[v]=[.slice a (List.length (α:=Int) xs) cap]/\List.length (α:=Int) xs<=cap/\cap<=maxLen/\(a=none->cap=0)/\
  bM (aH w (fun _=>False) (.int .i32)) cells xs/\∀j u,cells[j]? =some u->∃b,a=some b/\w.cell? (b.add j)=some u/\¬False:=(bD (t:=.ab (.int .i32)) rfl).1 O
 clear O
 simp only[List.cons.injEq,and_true]at R
 subst R
 have lb:=uT Z
 subst lb
 intro w' lc
 have ld:bytesOf (cS xs)=runesBytes xs:=by unfold bytesOf cS;simp
 rw[ld]
 cases a with
 |none=>
  have li:=Y rfl
  have le:xs=[]:=List.eq_nil_of_length_eq_zero (by omega)
  subst le
  rw[run_convert_runes_nil w' src o e _ _ q L ah]
  rfl
 |some b=>
  rw[run_convert_runes w' src o e b xs.length cap xs (Nat.le_refl _) q L ah (fun j U=>?_),List.take_length]
  obtain⟨lj,lf,W,_⟩:=la j (.int .i32 (xs.getD j 0)) (by rw[List.getElem?_map,List.getElem?_eq_getElem U];simp[List.getD_eq_getElem?_getD,U])
  cases lf
  rw[World.cell?_of_block (w:=w) (lc.block _ (World.block_lt_of_cell? w _ W))]
  exact W
theorem FP(s:List UInt8):∀(n i:Nat) (o:Array Value),Conv.runesFrom (bytesOf s) n i o=o++((mD s n i).map (Value.int .i32)).toArray
 |0,_,o=>by simp[Conv.runesFrom,mD]
 |n+1,i,o=>by
  unfold Conv.runesFrom mD
  rw[gY]
  split
  ·simp only[]
   rw[FP s n]
   simp
  ·simp
theorem IQ(s:List UInt8):∀(n i:Nat),(mD s n i).length<=n
 |0,_=>by simp[mD]
 |n+1,i=>by
  unfold mD
  split
  ·have:=IQ s n (i+(Utf8.decode (bytesOf s) i).2);simp only[List.length_cons];omega
  ·simp
theorem add_zero(a:Addr):a.add 0=a:=by simp[Addr.add]
theorem add_add(a:Addr)(i j:Nat):(a.add i).add j=a.add (i+j):=by
 unfold Addr.add
 by_cases o:i=0<;>by_cases q:j=0<;>simp[o,q,Nat.add_assoc]
theorem gl(g aa n:Nat):(⟨g,aa,none⟩:Addr).add n=⟨g,aa+n,none⟩:=by
 unfold Addr.add
 split
 ·rename_i h;simp[h]
 ·rfl
def Holds(w:World)(M:Nat->Prop)(a:Addr)(t:ag)(x:t.el):Prop:=∃cells,aH w M t cells x/\∀j u,cells[j]? =some u->w.cell? (a.add j)=some u/\¬M a.block
theorem Holds.part{M:Nat->Prop}{a:Addr}{t:ag}{x:t.el}(h:Holds w M a t x){off:Nat}{u:ag}{y:u.el}(q:cI t x off u=some y):Holds w M (a.add off) u y:=by
 obtain⟨cells,L,O⟩:=h
 obtain⟨R,c2,c3,rfl,la,U⟩:=nD t L q
 refine⟨c2,U,fun j v o=>?_⟩
 have lb:=(List.getElem?_eq_some_iff.1 o).1
 have W:(R++c2++c3)[off+j]? =some v:=by
  rw[List.append_assoc,List.getElem?_append_right (by omega),List.getElem?_append_left (by omega),<-o]
  congr 1
  omega
 obtain⟨Y,Z⟩:=O _ _ W
 exact⟨by rw[add_add];exact Y,by rw[jo];exact Z⟩
theorem xB{P:Program}{w:World}{a:Addr}{cells:List Value}(h:∀j u,cells[j]? =some u->w.cell? (a.add j)=some u):(loadCells a cells.length).run P w=.ok cells.toArray w:=
 run_loadCells_list (P:=P) w a cells h
theorem S5{P:Program}{a:Addr}{M:Nat->Prop}{tid d:Nat}{t:ag}{x:t.el}(R:cG P d tid=some t)(h:Holds w M a t x)(la:0<t.cells):
  ∃v,my P w (loadVar tid a) v/\ba w M v t x:=by
 obtain⟨cells,U,Y⟩:=h
 have o:=cf t U
 have W:∀w',Ext w w'->∀j u,cells[j]? =some u->w'.cell? (a.add j)=some u:=by
  intro w' q j u Z
  have L:=(Y j u Z).1
  rw[World.cell?_of_block (w:=w) (q.block _ (World.block_lt_of_cell? w _ L))]
  exact L
 cases O:t.agg with
 |true=>
  refine⟨.agg cells.toArray,fun w' q=>?_,(dS O).2 ⟨cells,rfl,U⟩⟩
  unfold loadVar
  rw[Sem.run_bind,jx R,O]
  simp only[Result.andThen_ok,if_true,Sem.run_bind,eK R]
  rw[<-o,xB (W w' q)]
  rfl
 |false=>
  have lb:t.cells=1:=by cases t<;>first|rfl|(simp[ag.agg]at O)
  match cells,o with
  |[c],_=>
   refine⟨c,fun w' q=>?_,(bD O).2 U⟩
   have L:=W w' q 0 c rfl
   rw[add_zero]at L
   unfold loadVar
   rw[Sem.run_bind,jx R,O]
   simp only[Result.andThen_ok,Bool.false_eq_true,if_false]
   simp[load,Sem.run,L]
  |[],o=>simp at o;omega
  |_::_::_,o=>simp at o;omega
def fieldInfo(P:Program)(s:TypeId)(f:Nat):Option (Nat×ag):=
 match P.underlying s with
 |some (.struct q)=>match q[f]? with
  |some o=>match ty P o.type with
   |some u=>bif Nat.beq u.cells 0 then none else some (o.offset,u)
   |none=>none
  |none=>none
 |_=>none
theorem tg{P:Program}{s:TypeId}{f off:Nat}{u:ag}(h:fieldInfo P s f=some (off,u)):
  ∃q o,P.underlying s=some (.struct q)/\q[f]? =some o/\ty P o.type=some u/\o.offset=off/\0<u.cells:=by
 unfold fieldInfo at h
 split at h
 ·rename_i q O
  split at h
  ·rename_i o R
   split at h
   ·rename_i U W
    cases L:Nat.beq U.cells 0 with
    |true=>rw[L]at h;cases h
    |false=>
     rw[L]at h
     cases h
     exact⟨q,o,O,R,W,rfl,Nat.pos_of_ne_zero (beq_false L)⟩
   ·cases h
  ·cases h
 ·cases h
theorem k7{P:Program}{s:TypeId}{f off:Nat}{u:ag}(h:fieldInfo P s f=some (off,u))(a:Addr)(w:World):
  (Instr.fieldAt s (.pointer (some a)) f).run P w=.ok (.pointer (some (a.add off))) w:=by
 obtain⟨R,U,o,q,L,rfl,W⟩:=tg h
 have O:¬u.cells=0:=by omega
 simp only[Instr.fieldAt,Sem.run_bind,run_underlying o,Result.andThen_ok,q,Instr.sureAddr,Sem.run_pure,fieldPlace,eK L,if_neg O]
theorem Tj{P:Program}{s:TypeId}{f off:Nat}{u:ag}(h:fieldInfo P s f=some (off,u)){M:Nat->Prop}{t:ag}{x:t.el}{v:Value}(Y:t.agg=true)(Z:ba w M v t x){y:u.el}(la:cI t x off u=some y):
  ∃r,gb P (Instr.field s v f) r/\ba w M r u y:=by
 obtain⟨lf,lb,R,U,L,rfl,lg⟩:=tg h
 obtain⟨lh,rfl,lc⟩:=(dS Y).1 Z
 obtain⟨ld,c2,c3,rfl,W,O⟩:=nD t lc la
 have o:=cf u O
 cases q:u.agg with
 |true=>
  refine⟨.agg c2.toArray,fun w'=>?_,(dS q).2 ⟨c2,rfl,O⟩⟩
  simp only[Instr.field,Sem.run_bind,run_underlying R,Result.andThen_ok,U,asAgg,Sem.run_pure,part,jx L,q,if_true,eK L]
  congr 2
  apply Array.ext'
  rw[Array.toList_extract,List.extract_eq_take_drop,<-W,<-o]
  simp
 |false=>
  have li:u.cells=1:=by cases u<;>first|rfl|(simp[ag.agg]at q)
  match c2,o with
  |[c],_=>
   refine⟨c,fun w'=>?_,(bD q).2 O⟩
   have le:(ld++[c]++c3).toArray[lb.offset]? =some c:=by
    rw[List.getElem?_toArray,<-W];simp
   simp only[Instr.field,Sem.run_bind,run_underlying R,Result.andThen_ok,U,asAgg,Sem.run_pure,part,jx L,q,Bool.false_eq_true,if_false,le]
  |[],o=>simp at o;omega
  |_::_::_,o=>simp at o;omega
end Go.Ev
