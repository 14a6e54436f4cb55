/- The layouts of library functions at this program, as the kit's own tool wrote them. -/
import Derived.Test.YteopobecmacgdaaGreatDoorProg
import Derived.Shelf.Unicode.DecodeAny
import Derived.KernelRfl
import Derived.WalkKit
import Derived.IntWalk
import Derived.ChangeKeysEq
import Derived.Lib.Strings
import Derived.Laws.IdiomStrings
import Derived.Laws.Cover4
set_option linter.unusedSectionVars false
set_option linter.unusedVariables false
set_option linter.unusedSimpArgs false
namespace Go.Ev
open Go Go.Proofs Go.Shelf
set_option maxRecDepth 100000
def RS:Go.Shelf.Ren:=⟨fun|197=>158|260=>192|n=>n,fun|9=>9|21=>21|3=>3|4=>4|5=>5|105=>274|119=>269|0=>0|46=>233|139=>272|138=>271|n=>n,fun|3=>0|4=>1|n=>n⟩
theorem SC:Go.Proofs.Lays.n197 Tryz.prog RS:={
 mixed:=by kernel_rfl
 f197:=Tryz.func158.trans (congrArg some (by kernel_rfl))
 f260:=Tryz.func192.trans (congrArg some (by kernel_rfl))
 t0:=Tryz.underlying0
 a0:=Tryz.isAgg0
 z0:=Tryz.sizeOf0
 v0:=Tryz.zeroValue0
 t3:=Tryz.underlying3
 a3:=Tryz.isAgg3
 z3:=Tryz.sizeOf3
 v3:=Tryz.zeroValue3
 t4:=Tryz.underlying4
 a4:=Tryz.isAgg4
 z4:=Tryz.sizeOf4
 v4:=Tryz.zeroValue4
 t5:=Tryz.underlying5
 a5:=Tryz.isAgg5
 z5:=Tryz.sizeOf5
 v5:=Tryz.zeroValue5
 t9:=Tryz.underlying9
 a9:=Tryz.isAgg9
 z9:=Tryz.sizeOf9
 v9:=Tryz.zeroValue9
 t21:=Tryz.underlying21
 a21:=Tryz.isAgg21
 z21:=Tryz.sizeOf21
 v21:=Tryz.zeroValue21
 t46:=Tryz.underlying233
 a46:=Tryz.isAgg233
 z46:=Tryz.sizeOf233
 v46:=Tryz.zeroValue233
 t105:=Tryz.underlying274
 a105:=Tryz.isAgg274
 z105:=Tryz.sizeOf274
 v105:=Tryz.zeroValue274
 t119:=Tryz.underlying269
 a119:=Tryz.isAgg269
 z119:=Tryz.sizeOf269
 t138:=Tryz.underlying271
 a138:=Tryz.isAgg271
 z138:=Tryz.sizeOf271
 v138:=Tryz.zeroValue271
 t139:=Tryz.underlying272
 a139:=Tryz.isAgg272
 z139:=Tryz.sizeOf272
 v139:=Tryz.zeroValue272
 g3:=by kernel_rfl
 g4:=by kernel_rfl}
def K6:Go.Shelf.Ren:=⟨fun|260=>192|n=>n,fun|9=>9|21=>21|3=>3|4=>4|5=>5|119=>269|0=>0|46=>233|139=>272|138=>271|n=>n,fun|3=>0|4=>1|n=>n⟩
theorem Vc:Go.Proofs.Lays.n260 Tryz.prog K6:={
 mixed:=by kernel_rfl
 f260:=Tryz.func192.trans (congrArg some (by kernel_rfl))
 t0:=Tryz.underlying0
 a0:=Tryz.isAgg0
 z0:=Tryz.sizeOf0
 v0:=Tryz.zeroValue0
 t3:=Tryz.underlying3
 a3:=Tryz.isAgg3
 z3:=Tryz.sizeOf3
 v3:=Tryz.zeroValue3
 t4:=Tryz.underlying4
 a4:=Tryz.isAgg4
 z4:=Tryz.sizeOf4
 v4:=Tryz.zeroValue4
 t5:=Tryz.underlying5
 a5:=Tryz.isAgg5
 z5:=Tryz.sizeOf5
 v5:=Tryz.zeroValue5
 t9:=Tryz.underlying9
 a9:=Tryz.isAgg9
 z9:=Tryz.sizeOf9
 v9:=Tryz.zeroValue9
 t21:=Tryz.underlying21
 a21:=Tryz.isAgg21
 z21:=Tryz.sizeOf21
 v21:=Tryz.zeroValue21
 t46:=Tryz.underlying233
 a46:=Tryz.isAgg233
 z46:=Tryz.sizeOf233
 v46:=Tryz.zeroValue233
 t119:=Tryz.underlying269
 a119:=Tryz.isAgg269
 z119:=Tryz.sizeOf269
 t138:=Tryz.underlying271
 a138:=Tryz.isAgg271
 z138:=Tryz.sizeOf271
 v138:=Tryz.zeroValue271
 t139:=Tryz.underlying272
 a139:=Tryz.isAgg272
 z139:=Tryz.sizeOf272
 v139:=Tryz.zeroValue272
 g3:=by kernel_rfl
 g4:=by kernel_rfl}
end Go.Ev
namespace Go.Ev
open Go
inductive ag where
 |int (k:IntKind)
 |bool
 |str
 |ab (t:ag)
 |unit
 |pair (a b:ag)
 |ptr (t:ag)
 |fn (f:Nat) (t:ag)
 |err
 |arr (n:Nat) (t:ag)
 |map (k v:ag)
 |ck
 /-- A function with nothing captured, or nil: its number. -/
 |cE
 /-- An interface value that holds a value of the type n. -/
 |cB (n:Nat) (t:ag)
 /-- .. that, or else what r says. -/
 |alt (n:Nat) (t r:ag)
def ag.el:ag->Type
 |.int _=>Int
 |.bool=>Bool
 |.str=>List UInt8
 |.ab t=>List t.el
 |.unit=>Unit
 |.pair a b=>a.el×b.el
 |.ptr t=>t.el
 |.fn _ t=>t.el
 |.err=>Option (Option (Nat×Int))
 |.arr _ t=>List t.el
 |.map k v=>Option (List (k.el×v.el))
 |.ck=>Unit
 |.cE=>Option Nat
 |.cB _ t=>t.el
 |.alt _ t r=>t.el⊕r.el
def ag.cells:ag->Nat
 |.int _=>1
 |.bool=>1
 |.str=>1
 |.ab _=>1
 |.unit=>0
 |.pair a b=>a.cells+b.cells
 |.ptr _=>1
 |.fn _ _=>1
 |.err=>1
 |.arr n t=>n*t.cells
 |.map _ _=>1
 |.ck=>1
 |.cE=>1
 |.cB _ _=>1
 |.alt _ _ _=>1
def ag.pW:ag->Bool
 |.unit=>true
 |.pair _ _=>true
 |_=>false
def ag.flat:ag->Bool
 |.int _=>true
 |.bool=>true
 |.str=>true
 |.ab _=>false
 |.unit=>true
 |.pair a b=>a.flat&&b.flat
 |.ptr _=>false
 |.fn _ _=>false
 |.err=>false
 |.arr _ t=>t.flat
 |.map _ _=>false
 |.ck=>false
 |.cE=>false
 |.cB _ _=>false
 |.alt _ _ _=>false
def ag.agg:ag->Bool
 |.unit=>true
 |.pair _ _=>true
 |.arr _ _=>true
 |_=>false
theorem ag.PV{t:ag}(h:t.pW=true):t.agg=true:=by cases t<;>first|rfl|(simp[ag.pW]at h)
def gN:IntKind->IntKind->Bool
 |.i8,.i8=>true
 |.i16,.i16=>true
 |.i32,.i32=>true
 |.i64,.i64=>true
 |.u8,.u8=>true
 |.u16,.u16=>true
 |.u32,.u32=>true
 |.u64,.u64=>true
 |_,_=>false
theorem nq{a b:IntKind}(h:gN a b=true):a=b:=by cases a<;>cases b<;>first|rfl|(simp[gN]at h)
def ag.beq:ag->ag->Bool
 |.int k,.int l=>gN k l
 |.bool,.bool=>true
 |.str,.str=>true
 |.ab a,.ab b=>a.beq b
 |.unit,.unit=>true
 |.pair a b,.pair c d=>a.beq c&&b.beq d
 |.ptr a,.ptr b=>a.beq b
 |.fn f a,.fn g b=>Nat.beq f g&&a.beq b
 |.err,.err=>true
 |.arr n a,.arr m b=>Nat.beq n m&&a.beq b
 |.map a b,.map c d=>a.beq c&&b.beq d
 |.ck,.ck=>true
 |.cE,.cE=>true
 |.cB n a,.cB m b=>Nat.beq n m&&a.beq b
 |.alt n a b,.alt m c d=>Nat.beq n m&&(a.beq c&&b.beq d)
 |_,_=>false
theorem ag.eq_of_beq:∀{a b:ag},a.beq b=true->a=b:=by
 intro a
 induction a with
 |int k=>intro b h;cases b<;>simp only[ag.beq,Bool.false_eq_true]at h;rw[nq h]
 |bool=>intro b h;cases b<;>first|rfl|(simp only[ag.beq,Bool.false_eq_true]at h)
 |str=>intro b h;cases b<;>first|rfl|(simp only[ag.beq,Bool.false_eq_true]at h)
 |ab t o=>intro b h;cases b<;>simp only[ag.beq,Bool.false_eq_true]at h;rw[o h]
 |unit=>intro b h;cases b<;>first|rfl|(simp only[ag.beq,Bool.false_eq_true]at h)
 |pair x y q O=>
  intro b h
  cases b<;>simp only[ag.beq,Bool.false_eq_true,Bool.and_eq_true]at h
  rw[q h.1,O h.2]
 |ptr t o=>intro b h;cases b<;>simp only[ag.beq,Bool.false_eq_true]at h;rw[o h]
 |fn f t o=>intro b h;cases b<;>simp only[ag.beq,Bool.false_eq_true,Bool.and_eq_true]at h;rw[Nat.eq_of_beq_eq_true h.1,o h.2]
 |err=>intro b h;cases b<;>first|rfl|(simp only[ag.beq,Bool.false_eq_true]at h)
 |ck=>intro b h;cases b<;>first|rfl|(simp only[ag.beq,Bool.false_eq_true]at h)
 |cE=>intro b h;cases b<;>first|rfl|(simp only[ag.beq,Bool.false_eq_true]at h)
 |cB n t o=>intro b h;cases b<;>simp only[ag.beq,Bool.false_eq_true,Bool.and_eq_true]at h;rw[Nat.eq_of_beq_eq_true h.1,o h.2]
 |alt n x y q O=>
  intro b h
  cases b<;>simp only[ag.beq,Bool.false_eq_true,Bool.and_eq_true]at h
  rw[Nat.eq_of_beq_eq_true h.1,q h.2.1,O h.2.2]
 |arr n t o=>intro b h;cases b<;>simp only[ag.beq,Bool.false_eq_true,Bool.and_eq_true]at h;rw[Nat.eq_of_beq_eq_true h.1,o h.2]
 |map x y q O=>
  intro b h
  cases b<;>simp only[ag.beq,Bool.false_eq_true,Bool.and_eq_true]at h
  rw[q h.1,O h.2]
structure al where
 t:ag
 x:t.el
def al.as(v:al)(u:ag):Option u.el:=
 match h:v.t.beq u with
 |true=>some (ag.eq_of_beq h▸v.x)
 |false=>none
def bL{α:Type}(f:List Value->α->Prop):List Value->List α->Prop
 |cs,[]=>cs=[]
 |cs,x::xs=>∃c1 c2,cs=c1++c2/\f c1 x/\bL f c2 xs
def ng{α:Type}(agg:Bool)(f:List Value->α->Prop)(v:Value)(x:α):Prop:=
 if agg then∃cs:List Value,v=.agg cs.toArray/\f cs x else f [v] x
def ep{α β:Type}(o:Value->α->Prop)(q:Value->β->Prop):List MapEntry->List (α×β)->Prop
 |[],[]=>True
 |e::es,p::ps=>o e.key p.1/\q e.val p.2/\ep o q es ps
 |_,_=>False
def Qi{α β:Type}(w:World)(M:Nat->Prop)(q:Value->α->Prop)(O:Value->β->Prop)(cs:List Value):Option (List (α×β))->Prop
 |none=>cs=[.map none]
 |some ps=>∃(b:Nat) (es:Array MapEntry) (o:Nat),cs=[.map (some b)]/\w.heap[b]? =some (.map es o)/\¬M b/\(∀e∈es.toList,e.born<o)/\(es.toList.map (·.born)).Nodup/\ep q O es.toList ps
def vF{α β:Type}(n:Nat)(f:Value->α->Prop)(g:List Value->β->Prop)(cs:List Value):α⊕β->Prop
 |.inl x=>∃v:Value,cs=[.iface n v]/\f v x
 |.inr y=>cs.length=1/\g cs y
def Hs:Option Nat->Value
 |none=>.nilFunc
 |some n=>.func (.func n) #[] #[]
def aJ(w:World)(M:Nat->Prop):(t:ag)->List Value->t.el->Prop
 |.int k,cs,n=>cs=[.int k n]
 |.bool,cs,b=>cs=[.bool b]
 |.str,cs,s=>cs=[.string ⟨s.toArray⟩]/\s.length<=maxLen
 |.ab t,cs,xs=>∃(a:Option Addr) (cap:Nat) (cells:List Value),cs=[.slice a xs.length cap]/\xs.length<=cap/\cap<=maxLen/\(a=none->cap=0)/\
   bL (aJ w M t) cells xs/\∀j u,cells[j]? =some u->∃b,a=some b/\w.cell? (b.add j)=some u/\¬M b.block
 |.unit,cs,_=>cs=[]
 |.pair a b,cs,x=>∃c1 c2,cs=c1++c2/\aJ w M a c1 x.1/\aJ w M b c2 x.2
 |.ptr t,cs,x=>∃(a:Addr) (cells:List Value),cs=[.pointer (some a)]/\aJ w M t cells x/\∀j u,cells[j]? =some u->w.cell? (a.add j)=some u/\¬M a.block
 |.fn f t,cs,x=>∃bs:List Value,cs=[.func (.func f) #[] bs.toArray]/\aJ w M t bs x
 |.err,cs,b=>(b=none/\cs=[.nilIface])\/(b=some none/\∃t v,cs=[.iface t v])\/(∃t n,b=some (some (t,n))/\cs=[.iface t (.int .i64 n)])
 |.arr n t,cs,xs=>List.length (α:=t.el) xs=n/\bL (aJ w M t) cs xs
 |.map k v,cs,x=>Qi w M (ng k.agg (aJ w M k)) (ng v.agg (aJ w M v)) cs x
 |.ck,cs,_=>∃v:Value,cs=[v]/\v.oneCell'=true
 |.cE,cs,x=>cs=[Hs x]
 |.cB n t,cs,x=>∃v:Value,cs=[.iface n v]/\ng t.agg (aJ w M t) v x
 |.alt n t r,cs,x=>vF n (ng t.agg (aJ w M t)) (aJ w M r) cs x
theorem dy{α:Type}{f g:List Value->α->Prop}(h:∀c x,f c x->g c x):∀{xs:List α} {cs:List Value},bL f cs xs->bL g cs xs
 |[],_,o=>o
 |_::_,_,⟨c1,c2,e,q,O⟩=>⟨c1,c2,e,h _ _ q,dy h O⟩
theorem yV{α:Type}{agg:Bool}{f g:List Value->α->Prop}(h:∀c x,f c x->g c x){v:Value}{x:α}(o:ng agg f v x):ng agg g v x:=by
 unfold ng at*
 split at o
 ·rename_i q;rw[if_pos q];obtain⟨cs,e,O⟩:=o;exact⟨cs,e,h _ _ O⟩
 ·rename_i q;rw[if_neg q];exact h _ _ o
theorem Pk{α β:Type}{n:Nat}{f o:Value->α->Prop}{g q:List Value->β->Prop}(O:∀v x,f v x->o v x)(R:∀c y,g c y->q c y):∀{x:α⊕β} {cs:List Value},vF n f g cs x->vF n o q cs x
 |.inl _,_,⟨v,e,h⟩=>⟨v,e,O _ _ h⟩
 |.inr _,_,⟨e,h⟩=>⟨e,R _ _ h⟩
theorem OY{α β:Type}{n:Nat}{f:Value->α->Prop}{g:List Value->β->Prop}(q:∀c y,g c y->∀u∈c,u.oneCell'=true):∀{x:α⊕β} {cs:List Value},vF n f g cs x->cs.length=1/\∀u∈cs,u.oneCell'=true
 |.inl _,_,⟨v,e,_⟩=>by subst e;exact⟨rfl,fun u o=>by simp at o;subst o;rfl⟩
 |.inr _,_,⟨e,h⟩=>⟨e,q _ _ h⟩
theorem S6{α β:Type}{n:Nat}{f:Value->α->Prop}{g:List Value->β->Prop}:∀{x:α⊕β} {cs:List Value},vF n f g cs x->cs.length=1
 |.inl _,_,⟨v,e,_⟩=>by subst e;rfl
 |.inr _,_,⟨e,_⟩=>e
theorem ic{α β:Type}{o q:Value->α->Prop}{O R:Value->β->Prop}(U:∀v x,o v x->q v x)(W:∀v x,O v x->R v x):∀{es:List MapEntry} {ps:List (α×β)},ep o O es ps->ep q R es ps
 |[],[],h=>h
 |[],_::_,h=>h.elim
 |_::_,[],h=>h.elim
 |_::_,_::_,⟨X,Y,Z⟩=>⟨U _ _ X,W _ _ Y,ic U W Z⟩
theorem uc{α β:Type}{o:Value->α->Prop}{q:Value->β->Prop}:∀{es:List MapEntry} {ps:List (α×β)},ep o q es ps->es.length=ps.length
 |[],[],_=>rfl
 |[],_::_,h=>h.elim
 |_::_,[],h=>h.elim
 |_::_,_::_,⟨_,_,h⟩=>by simp[uc h]
theorem gx{w:World}{b:Nat}{aa:Obj}(h:w.heap[b]? =some aa):b<w.heap.size:=by
 rcases Nat.lt_or_ge b w.heap.size with o|o
 ·exact o
 ·rw[Array.getElem?_eq_none o]at h;cases h
theorem jQ(a:Addr)(n:Nat):(a.add n).block=a.block:=by unfold Addr.add;split<;>rfl
theorem cI{w w':World}{M M':Nat->Prop}(X:∀b,b<w.heap.size->¬M b->w'.heap[b]? =w.heap[b]?)(Y:∀b,b<w.heap.size->M' b->M b):
  ∀(t:ag) {cs:List Value} {x:t.el},aJ w M t cs x->aJ w' M' t cs x:=by
 intro t
 induction t with
 |int k=>exact fun h=>h
 |bool=>exact fun h=>h
 |str=>exact fun h=>h
 |unit=>exact fun h=>h
 |pair a b lc ld=>exact fun⟨c1,c2,e,o,q⟩=>⟨c1,c2,e,lc o,ld q⟩
 |ab t O=>
  rintro cs x ⟨a,cap,cells,e,o,q,Z,le,lf⟩
  refine⟨a,cap,cells,e,o,q,Z,dy (fun _ _=>O) le,fun j u la=>?_⟩
  obtain⟨b,lb,U,W⟩:=lf j u la
  have R:b.block<w.heap.size:=by
   have:=World.block_lt_of_cell? w (b.add j) U
   rwa [jQ]at this
  refine⟨b,lb,?_,fun h=>W (Y _ R h)⟩
  rw[World.cell?_of_block (w:=w) (by rw[jQ];exact X _ R W)]
  exact U
 |ptr t O=>
  rintro cs x ⟨a,cells,e,o,q⟩
  refine⟨a,cells,e,O o,fun j u la=>?_⟩
  obtain⟨U,W⟩:=q j u la
  have R:a.block<w.heap.size:=by
   have:=World.block_lt_of_cell? w (a.add j) U
   rwa [jQ]at this
  refine⟨?_,fun h=>W (Y _ R h)⟩
  rw[World.cell?_of_block (w:=w) (by rw[jQ];exact X _ R W)]
  exact U
 |fn f t O=>exact fun⟨bs,e,h⟩=>⟨bs,e,O h⟩
 |err=>exact fun h=>h
 |ck=>exact fun h=>h
 |cE=>exact fun h=>h
 |cB n t O=>exact fun⟨v,e,h⟩=>⟨v,e,yV (fun _ _=>O) h⟩
 |alt n t r lg lh=>exact fun h=>Pk (fun _ _=>yV fun _ _=>lg) (fun _ _=>lh) h
 |arr n t O=>exact fun⟨o,q⟩=>⟨o,dy (fun _ _=>O) q⟩
 |map k v li lj=>
  intro cs x h
  match x,h with
  |none,h=>exact h
  |some ps,⟨b,es,lk,e,o,q,lb,ll,Z⟩=>
   have R:=gx o
   exact⟨b,es,lk,e,by rw[X b R q];exact o,fun U=>q (Y b R U),lb,ll,ic (fun _ _=>yV fun _ _=>li) (fun _ _=>yV fun _ _=>lj) Z⟩
theorem jw{w:World}{M:Nat->Prop}{t:ag}(o:∀(cs:List Value) (x:t.el),aJ w M t cs x->cs.length=t.cells):
  ∀(xs:List t.el) (cs:List Value),bL (aJ w M t) cs xs->cs.length=xs.length*t.cells
 |[],_,h=>by cases h;simp
 |x::xs,cs,⟨c1,c2,e,q,O⟩=>by
  subst e
  rw[List.length_append,o _ _ q,jw o xs c2 O,List.length_cons,Nat.succ_mul,Nat.add_comm]
theorem cf{w:World}{M:Nat->Prop}:∀(t:ag) {cs:List Value} {x:t.el},aJ w M t cs x->cs.length=t.cells:=by
 intro t
 induction t with
 |int k=>intro cs x h;cases h;rfl
 |bool=>intro cs x h;cases h;rfl
 |str=>intro cs x h;cases h.1;rfl
 |unit=>intro cs x h;cases h;rfl
 |pair a b R U=>rintro cs x ⟨c1,c2,e,q,O⟩;subst e;rw[List.length_append,R q,U O];rfl
 |ab t o=>rintro cs x ⟨a,cap,cells,e,_⟩;subst e;rfl
 |ptr t o=>rintro cs x ⟨a,cells,e,_⟩;subst e;rfl
 |fn f t o=>rintro cs x ⟨bs,e,_⟩;subst e;rfl
 |err=>rintro cs x (⟨_,e⟩|⟨_,t,v,e⟩|⟨t,n,_,e⟩)<;>subst e<;>rfl
 |ck=>rintro cs x ⟨v,e,_⟩;subst e;rfl
 |cE=>intro cs x h;cases h;rfl
 |cB n t o=>rintro cs x ⟨v,e,_⟩;subst e;rfl
 |alt n t r W X=>intro cs x h;exact S6 h
 |arr n t o=>
  rintro cs x ⟨q,O⟩
  have:=jw (fun cs x=>o) x cs O
  rw[this,q]
  rfl
 |map k v Y Z=>
  intro cs x h
  match x,h with
  |none,h=>have h:cs=[.map none]:=h;rw[h];rfl
  |some ps,⟨b,es,la,e,_⟩=>rw[e];rfl
theorem JZ{α:Type}{f:List Value->α->Prop}(h:∀c x,f c x->∀u∈c,u.oneCell'=true):∀{xs:List α} {cs:List Value},bL f cs xs->∀u∈cs,u.oneCell'=true
 |[],_,o,u,hu=>by cases o;cases hu
 |_::_,_,⟨c1,c2,e,q,O⟩,u,hu=>by
  subst e
  rcases List.mem_append.1 hu with hu|hu
  ·exact h _ _ q u hu
  ·exact JZ h O u hu
theorem hZ{w:World}{M:Nat->Prop}:∀(t:ag) {cs:List Value} {x:t.el},aJ w M t cs x->∀u∈cs,u.oneCell'=true:=by
 intro t
 induction t with
 |int k=>intro cs x h u hu;cases h;simp at hu;subst hu;rfl
 |bool=>intro cs x h u hu;cases h;simp at hu;subst hu;rfl
 |str=>intro cs x h u hu;cases h.1;simp at hu;subst hu;rfl
 |unit=>intro cs x h u hu;cases h;simp at hu
 |pair a b R U=>
  rintro cs x ⟨c1,c2,e,O,q⟩ u hu
  subst e
  rcases List.mem_append.1 hu with hu|hu
  ·exact R O u hu
  ·exact U q u hu
 |ab t o=>rintro cs x ⟨a,cap,cells,e,_⟩ u hu;subst e;simp at hu;subst hu;rfl
 |ptr t o=>rintro cs x ⟨a,cells,e,_⟩ u hu;subst e;simp at hu;subst hu;rfl
 |fn f t o=>rintro cs x ⟨bs,e,_⟩ u hu;subst e;simp at hu;subst hu;rfl
 |err=>rintro cs x (⟨_,e⟩|⟨_,t,v,e⟩|⟨t,n,_,e⟩) u hu<;>subst e<;>simp at hu<;>subst hu<;>rfl
 |ck=>rintro cs x ⟨v,e,h⟩ u hu;subst e;simp at hu;subst hu;exact h
 |cE=>intro cs x h u hu;cases h;simp at hu;subst hu;cases x<;>rfl
 |cB n t o=>rintro cs x ⟨v,e,h⟩ u hu;subst e;simp at hu;subst hu;rfl
 |alt n t r Y W=>intro cs x h u hu;exact(OY (fun c y X u hu=>W X u hu) h).2 u hu
 |arr n t o=>rintro cs x ⟨O,q⟩ u hu;exact JZ (fun _ _=>o) q u hu
 |map k v Z la=>
  intro cs x h u hu
  match x,h with
  |none,h=>have h:cs=[.map none]:=h;rw[h]at hu;simp at hu;subst hu;rfl
  |some ps,⟨b,es,lb,e,_⟩=>rw[e]at hu;simp at hu;subst hu;rfl
theorem Hl{w w':World}{M M':Nat->Prop}:∀(t:ag) {cs:List Value} {x:t.el},t.flat=true->aJ w M t cs x->aJ w' M' t cs x:=by
 intro t
 induction t with
 |int k=>exact fun _ h=>h
 |bool=>exact fun _ h=>h
 |str=>exact fun _ h=>h
 |unit=>exact fun _ h=>h
 |pair a b U W=>intro cs x o ⟨c1,c2,e,O,R⟩;simp only[ag.flat,Bool.and_eq_true]at o;exact⟨c1,c2,e,U o.1 O,W o.2 R⟩
 |ab t q=>intro cs x o;simp[ag.flat]at o
 |ptr t q=>intro cs x o;simp[ag.flat]at o
 |fn f t q=>intro cs x o;simp[ag.flat]at o
 |err=>intro cs x o;simp[ag.flat]at o
 |ck=>intro cs x o;simp[ag.flat]at o
 |cE=>intro cs x o;simp[ag.flat]at o
 |cB n t q=>intro cs x o;simp[ag.flat]at o
 |alt n t r X Y=>intro cs x o;simp[ag.flat]at o
 |arr n t q=>intro cs x o ⟨O,R⟩;exact⟨O,dy (fun _ _=>q o) R⟩
 |map k v Z la=>intro cs x o;simp[ag.flat]at o
def ba(w:World)(M:Nat->Prop)(v:Value)(t:ag)(x:t.el):Prop:=
 if t.agg then∃cs:List Value,v=.agg cs.toArray/\aJ w M t cs x else aJ w M t [v] x
theorem j7{w:World}{M:Nat->Prop}{v:Value}{t:ag}{x:t.el}(h:ba w M v t x):aJ w M t v.cells.toList x:=by
 unfold ba at h
 split at h
 ·obtain⟨cs,rfl,h⟩:=h;simpa[Value.cells]using h
 ·rename_i O
  cases t with
  |int k=>cases h;rfl
  |bool=>cases h;rfl
  |str=>obtain⟨h,U⟩:=h;cases h;exact⟨rfl,U⟩
  |ab t=>obtain⟨a,cap,cells,e,r⟩:=h;cases e;exact⟨a,cap,cells,rfl,r⟩
  |ptr t=>obtain⟨a,cells,e,r⟩:=h;cases e;exact⟨a,cells,rfl,r⟩
  |fn f t=>obtain⟨bs,e,r⟩:=h;cases e;exact⟨bs,rfl,r⟩
  |err=>rcases h with ⟨o,e⟩|⟨o,t,v,e⟩|⟨t,n,o,e⟩<;>cases e;exact .inl ⟨o,rfl⟩;exact .inr (.inl ⟨o,t,v,rfl⟩);exact .inr (.inr ⟨t,n,o,rfl⟩)
  |cE=>cases h;cases x<;>rfl
  |ck=>
   obtain⟨u,e,q⟩:=h
   cases e
   have R:v.cells.toList=[v]:=by cases v<;>first|rfl|(simp[Value.oneCell']at q)
   exact⟨v,R,q⟩
  |cB n t=>obtain⟨u,e,r⟩:=h;cases e;exact⟨u,rfl,r⟩
  |alt n t r=>
   have q:=hZ (.alt n t r) h v List.mem_cons_self
   have R:v.cells.toList=[v]:=by cases v<;>first|rfl|(simp[Value.oneCell']at q)
   rw[R]
   exact h
  |map k v'=>
   match x,h with
   |none,h=>have h:[v]=[.map none]:=h;cases h;rfl
   |some ps,⟨b,es,W,e,r⟩=>cases e;exact⟨b,es,W,rfl,r⟩
  |arr n t=>simp[ag.agg]at O
  |unit=>simp[ag.agg]at O
  |pair a b=>simp[ag.agg]at O
theorem dt{w w':World}{M M':Nat->Prop}(q:∀b,b<w.heap.size->¬M b->w'.heap[b]? =w.heap[b]?)(O:∀b,b<w.heap.size->M' b->M b)
  {v:Value}{t:ag}{x:t.el}(h:ba w M v t x):ba w' M' v t x:=by
 unfold ba at*
 split at h
 ·rename_i o;rw[if_pos o];obtain⟨cs,rfl,h⟩:=h;exact⟨cs,rfl,cI q O t h⟩
 ·rename_i o;rw[if_neg o];exact cI q O t h
theorem DF{w w':World}{M M':Nat->Prop}{v:Value}{t:ag}{x:t.el}(q:t.flat=true)(h:ba w M v t x):ba w' M' v t x:=by
 unfold ba at*
 split at h
 ·rename_i o;rw[if_pos o];obtain⟨cs,rfl,h⟩:=h;exact⟨cs,rfl,Hl t q h⟩
 ·rename_i o;rw[if_neg o];exact Hl t q h
def cM:(t:ag)->t.el->Nat->(u:ag)->Option u.el
 |.pair a b,x,off,u=>
  match Nat.beq off 0,al.as ⟨.pair a b,x⟩ u with
  |true,some y=>some y
  |_,_=>bif Nat.blt off a.cells then cM a x.1 off u else cM b x.2 (off-a.cells) u
 |.arr n t,x,off,u=>
  match Nat.beq off 0,al.as ⟨.arr n t,x⟩ u with
  |true,some y=>some y
  |_,_=>bif Nat.beq t.cells 0 then none else(match(show List t.el from x)[off/t.cells]? with
   |some z=>cM t z (off %t.cells) u
   |none=>none)
 |t,x,off,u=>bif Nat.beq off 0 then al.as ⟨t,x⟩ u else none
def cm:(t:ag)->t.el->Nat->al->Option t.el
 |.pair a b,x,off,v=>
  match Nat.beq off 0,v.as (.pair a b)with
  |true,some y=>some y
  |_,_=>bif Nat.blt off a.cells then(match cm a x.1 off v with|some y=>some (y,x.2)|none=>none)
   else(match cm b x.2 (off-a.cells) v with|some y=>some (x.1,y)|none=>none)
 |.arr n t,x,off,v=>
  match Nat.beq off 0,v.as (.arr n t)with
  |true,some y=>some y
  |_,_=>bif Nat.beq t.cells 0 then none else(match(show List t.el from x)[off/t.cells]? with
   |some z=>(match cm t z (off %t.cells) v with|some o=>some (List.set (show List t.el from x) (off/t.cells) o)|none=>none)
   |none=>none)
 |t,_,off,v=>bif Nat.beq off 0 then v.as t else none
end Go.Ev
namespace Go.Ev
open Go
inductive bV where
 |v (u:al)
 |r (r:Nat)
 |a
def bV.is(b:Nat):bV->Bool
 |.r c=>Nat.beq c b
 |_=>false
inductive nQ where
 |f (off:Nat) (u:ag)
 |x (j:Int) (o:Nat)
def gc:List nQ->Nat
 |[]=>0
 |.f off _::p=>off+gc p
 |.x j o::p=>j.toNat*o+gc p
theorem z6:∀(p o:List nQ),gc (p++o)=gc p+gc o
 |[],o=>by simp[gc]
 |.f off u::p,o=>by simp only[List.cons_append,gc,z6 p o];omega
 |.x j q::p,o=>by simp only[List.cons_append,gc,z6 p o];omega
inductive ao where
 |any
 |undef
 |val (t:ag) (x:t.el)
 |dI (l:List al)
 |gu (l:List bV)
 |ptr (b off:Nat)
 |fp (b:Nat)
 |vptr (t:ag) (x:t.el)
 |row (r:Nat)
 |dU (r:Nat) (i:Int) (off o:Nat)
 |clos (f:Nat) (bs:List Nat)
 |iter (b:Nat)
 |dW (b:Nat) (p:List nQ)
 |osl (b:Nat)
 |fT (b:Nat) (i:Int)
 |sub (b:Nat) (i:Int)
 |ca (f b:Nat)
 |dT (b:Nat) (i:Int) (off o:Nat)
 |fq (b:Nat) (i j:Int) (off o:Nat)
 |ai (n:Int)
 |eZ (l:List bV)
structure cG where
 e:Nat
 t:ag
 xs:List t.el
inductive eQ where
 |mp (k v:ag)
 |row (e:Nat) (t:ag)
def eQ.el:eQ->Type
 |.mp k v=>Option (List (k.el×v.el))
 |.row _ t=>List t.el
structure ee where
 u:ag
 off:Nat
 e:Nat
 t:ag
inductive bQ where
 |cells (l:List ao) (e:Nat)
 |iter (s:List UInt8) (pos:Nat)
 |mp (k v:ag) (ps:List (k.el×v.el))
 |cu (k v:ag) (left last:List (k.el×v.el))
 |aY (t:ag) (x:t.el) (e:Nat)
 |raw (f:World->(Nat->Prop)->Nat->Prop)
 |bd (e:Nat) (k:eQ) (xs:List (Option k.el))
 |bu (e:Nat) (k:ee) (xs:List k.u.el) (h:Option Int)
structure af where
 ab:List (Nat×ao)
 ad:List (Nat×bQ)
 rw:List (Nat×cG)
def look{α:Type}:List (Nat×α)->Nat->Option α
 |[],_=>none
 |(k,v)::r,n=>bif Nat.beq k n then some v else look r n
def del{α:Type}:List (Nat×α)->Nat->List (Nat×α)
 |[],_=>[]
 |(k,v)::r,n=>bif Nat.beq k n then del r n else(k,v)::del r n
theorem bc{α:Type}{l:List (Nat×α)}{n:Nat}{v:α}(h:look l n=some v):(n,v)∈l:=by
 induction l with
 |nil=>simp[look]at h
 |cons p r q=>
  obtain⟨k,u⟩:=p
  unfold look at h
  cases o:Nat.beq k n with
  |true=>rw[o]at h;simp only[cond_true,Option.some.injEq]at h;subst h;rw[Nat.eq_of_beq_eq_true o];exact List.mem_cons_self
  |false=>rw[o]at h;exact List.mem_cons_of_mem _ (q h)
theorem cW{α:Type}{l:List (Nat×α)}{n k:Nat}{v:α}:(k,v)∈del l n↔(k,v)∈l/\k≠n:=by
 induction l with
 |nil=>simp[del]
 |cons p r U=>
  obtain⟨j,u⟩:=p
  unfold del
  cases O:Nat.beq j n with
  |true=>
   have R:=Nat.eq_of_beq_eq_true O
   simp only[cond_true,U,List.mem_cons,Prod.mk.injEq]
   constructor
   ·rintro⟨o,q⟩;exact⟨.inr o,q⟩
   ·rintro⟨⟨o,_⟩|o,q⟩
    ·exact absurd (o.trans R) q
    ·exact⟨o,q⟩
  |false=>
   have R:j≠n:=fun h=>by rw[h]at O;rw[Nat.beq_refl]at O;cases O
   simp only[cond_false,List.mem_cons,Prod.mk.injEq,U]
   constructor
   ·rintro(⟨o,q⟩|⟨o,q⟩)
    ·exact⟨.inl ⟨o,q⟩,o▸R⟩
    ·exact⟨.inr o,q⟩
   ·rintro⟨o|o,q⟩
    ·exact .inl o
    ·exact .inr ⟨o,q⟩
theorem mm{α:Type}(l:List (Nat×α))(n:Nat):(del l n).map (·.1)=(l.map (·.1)).filter (fun k=>!Nat.beq k n):=by
 induction l with
 |nil=>rfl
 |cons p r o=>
  obtain⟨j,u⟩:=p
  unfold del
  cases q:Nat.beq j n<;>simp[o,q]
def ao.refs(r:Nat):ao->Bool
 |.ptr b _=>Nat.beq b r
 |.fp b=>Nat.beq b r
 |.row b=>Nat.beq b r
 |.dU b _ _ _=>Nat.beq b r
 |.clos _ bs=>bs.any (Nat.beq · r)
 |.iter b=>Nat.beq b r
 |.dW b _=>Nat.beq b r
 |.osl b=>Nat.beq b r
 |.fT b _=>Nat.beq b r
 |.sub b _=>Nat.beq b r
 |.dT b _ _ _=>Nat.beq b r
 |.fq b _ _ _ _=>Nat.beq b r
 |.ca _ b=>Nat.beq b r
 |.eZ l=>l.any (bV.is r)
 |.gu l=>l.any (bV.is r)
 |_=>false
def ao.dv(r:Nat)(s:ao):ao:=bif s.refs r then .any else s
def bQ.map(f:ao->ao):bQ->bQ
 |.cells l e=>.cells (l.map f) e
 |.iter s p=>.iter s p
 |.mp k v ps=>.mp k v ps
 |.cu k v l a=>.cu k v l a
 |.aY t x e=>.aY t x e
 |.raw f=>.raw f
 |.bd e k xs=>.bd e k xs
 |.bu e k xs h=>.bu e k xs h
def af.dv(st:af)(r:Nat):af:=
 {ab:=st.ab.map fun p=>(p.1,p.2.dv r),ad:=(del st.ad r).map fun p=>(p.1,p.2.map (ao.dv r)),rw:=del st.rw r}
def af.put(st:af)(d:Nat)(v:ao):af:={st with ab:=(d,v)::del st.ab d}
def af.ids(st:af):List Nat:=st.ad.map (·.1)++st.rw.map (·.1)
def aY:Value->Option Nat
 |.pointer (some a)=>some a.block
 |.slice (some a) _ _=>some a.block
 |.map (some r)=>some r
 |_=>none
def own:Value->Nat->Prop
 |.tuple us,b=>∃u∈us.toList,aY u=some b
 |v,b=>aY v=some b
theorem gQ{v:Value}{b:Nat}(h:aY v=some b):own v b:=by
 cases v<;>first|exact h|(simp[aY]at h)
def bytesOf(s:List UInt8):ByteArray:=⟨s.toArray⟩
structure bI where
 P:Program
 n:Nat
 w0:World
 A:Nat->Prop
 X:Nat->Prop
 m0:Nat->Value
def av(cx:bI)(m:Nat->Value)(ids:List Nat)(b:Nat):Prop:=cx.A b\/∃i∈ids,own (m i) b
def dQ(w:World)(M:Nat->Prop):List Value->List al->Prop
 |[],[]=>True
 |v::vs,u::us=>ba w M v u.t u.x/\dQ w M vs us
 |_,_=>False
def de(w:World)(M:Nat->Prop)(m:Nat->Value):List Value->List bV->Prop
 |[],[]=>True
 |v::vs,.v u::us=>ba w M v u.t u.x/\de w M m vs us
 |v::vs,.r r::us=>v=m r/\de w M m vs us
 |_::vs,.a::us=>de w M m vs us
 |_,_=>False
def aT(w:World)(M:Nat->Prop)(m:Nat->Value)(v:Value):ao->Prop
 |.any=>True
 |.undef=>v=Go.undef
 |.val t x=>ba w M v t x
 |.dI l=>∃vs:List Value,v=.tuple vs.toArray/\dQ w M vs l
 |.gu l=>∃vs:List Value,v=.tuple vs.toArray/\de w M m vs l
 |.ptr b off=>∃g,m b=.pointer (some ⟨g,0,none⟩)/\v=.pointer (some ⟨g,off,none⟩)
 |.fp b=>v=.pointer none\/v=m b
 |.vptr t x=>∃a cells,v=.pointer (some a)/\aJ w M t cells x/\∀j u,cells[j]? =some u->w.cell? (a.add j)=some u/\¬M a.block
 |.row r=>v=m r
 |.dU r i off o=>∃g n cap,m r=.slice (some ⟨g,0,none⟩) n cap/\v=.pointer (some ⟨g,i.toNat*o+off,none⟩)
 |.clos f bs=>v=.func (.func f) #[] (bs.map m).toArray
 |.iter b=>v=m b
 |.dW b p=>∃g,m b=.pointer (some ⟨g,0,none⟩)/\v=.pointer (some ⟨g,gc p,none⟩)
 |.osl b=>∃us,m b=.tuple (v::us).toArray
 |.fT b i=>∃g n cap us,m b=.tuple (.slice (some ⟨g,0,none⟩) n cap::us).toArray/\v=.pointer (some ⟨g,i.toNat,none⟩)
 |.sub b i=>∃r us,m b=.tuple (r::us).toArray/\us[i.toNat]? =some v
 |.ca f b=>v=.func (.func f) #[m b] #[]
 |.dT b i off o=>∃g n cap us,m b=.tuple (.slice (some ⟨g,0,none⟩) n cap::us).toArray/\v=.pointer (some ⟨g,i.toNat*o+off,none⟩)
 |.fq b i j off o=>∃r us g n cap,m b=.tuple (r::us).toArray/\us[i.toNat]? =some (.slice (some ⟨g,0,none⟩) n cap)/\v=.pointer (some ⟨g,j.toNat*o+off,none⟩)
 |.ai n=>∃a k cap,v=.slice a k cap/\(k:Int)=n
 |.eZ l=>∃vs:List Value,v=.agg vs.toArray/\de w M m vs l
def ct(w:World)(M:Nat->Prop)(m:Nat->Value):List Value->List ao->Prop
 |[],[]=>True
 |v::vs,u::us=>aT w M m v u/\ct w M m vs us
 |_,_=>False
def eD(w:World)(M:Nat->Prop)(t:ag)(v:Value)(x:t.el):Prop:=ng t.agg (aJ w M t) v x
def fC(g:Nat):bQ->Value
 |.cells _ _=>.pointer (some ⟨g,0,none⟩)
 |.iter _ _=>.pointer (some ⟨g,0,none⟩)
 |.mp _ _ _=>.map (some g)
 |.cu _ _ _ _=>.pointer (some ⟨g,0,none⟩)
 |.aY _ _ _=>.pointer (some ⟨g,0,none⟩)
 |.raw _=>.pointer (some ⟨g,0,none⟩)
 |.bd _ _ _=>.pointer (some ⟨g,0,none⟩)
 |.bu _ _ _ _=>.pointer (some ⟨g,0,none⟩)
def iK(v:Value)(g:Nat):bQ->Prop
 |.bd _ _ _=>∃n cap us,v=.tuple (.slice (some ⟨g,0,none⟩) n cap::us).toArray
 |.bu _ _ _ _=>∃r us,v=.tuple (r::us).toArray
 |c=>v=fC g c
def bQ.one:bQ->Bool
 |.bu _ _ _ _=>false
 |_=>true
theorem mR{c:bQ}{f:ao->ao}:(c.map f).one=c.one:=by cases c<;>rfl
theorem ix{v:Value}{g:Nat}{c:bQ}(h:iK v g c)(o:c.one=true):own v g:=by
 cases c with
 |bd e k xs=>obtain⟨n,cap,us,rfl⟩:=h;exact⟨_,List.mem_cons_self,rfl⟩
 |bu e k xs q=>cases o
 |_=>cases h;rfl
theorem kQ{v:Value}{g:Nat}{c:bQ}{f:ao->ao}:iK v g (c.map f)↔iK v g c:=by cases c<;>exact Iff.rfl
def kp(w:World)(M:Nat->Prop)(u:Value):(k:eQ)->k.el->Prop
 |.mp _ _,none=>u=.map none
 |.mp k v,some ps=>∃(r:Nat) (es:Array MapEntry) (o:Nat),u=.map (some r)/\w.heap[r]? =some (.map es o)/\(∀e∈es.toList,e.born<o)/\(es.toList.map (·.born)).Nodup/\ep (eD w M k) (eD w M v) es.toList ps
 |.row e t,xs=>∃cells,w.ownsRow 0 e t.cells u (List.length (α:=t.el) xs) cells/\bL (aJ w M t) cells xs
def ij(w:World)(M:Nat->Prop)(k:eQ):List (Option k.el)->List Value->List Value->Prop
 |[],[],[]=>True
 |none::xs,_::us,o::q=>o=undef/\ij w M k xs us q
 |some x::xs,u::us,o::q=>o=u/\kp w M u k x/\ij w M k xs us q
 |_,_,_=>False
def mU(w:World)(M:Nat->Prop)(k:ee)(q:Prop)(cs:List Value)(v:Value)(x:k.u.el):Prop:=
 ∃L v1 O,cs=L.set k.off v1/\L[k.off]? =some (.slice none 0 0)/\v1.oneCell'=true/\cm k.u x k.off ⟨.ab k.t,[]⟩=some O/\aJ w M k.u L O/\(q->v=undef)/\
  (¬q->v=v1/\∃(o:List k.t.el) (cells:List Value),cM k.u x k.off (.ab k.t)=some o/\w.ownsRow 0 k.e k.t.cells v o.length cells/\bL (aJ w M k.t) cells o)
def iV(h:Option Int)(n:Nat):Prop:=∃i,h=some i/\i.toNat=n
def fF(w:World)(M:Nat->Prop)(k:ee)(h:Option Int):Nat->List k.u.el->List Value->List Value->Prop
 |_,[],cs,us=>cs=[]/\us=[]
 |n,x::xs,cs,us=>∃c d v vs,cs=c++d/\c.length=k.u.cells/\us=v::vs/\mU w M k (iV h n) c v x/\fF w M k h (n+1) xs d vs
def ii(w:World)(M:Nat->Prop)(m:Nat->Value)(v:Value)(g:Nat):bQ->Prop
 |.cells l e=>∃cells,w.heap[g]? =some (.cells cells e (0,0))/\ct w M m cells.toList l
 |.iter s p=>w.heap[g]? =some (.stringIter (bytesOf s) p)
 |.mp k v ps=>∃(es:Array MapEntry) (o:Nat),w.heap[g]? =some (.map es o)/\(∀e∈es.toList,e.born<o)/\(es.toList.map (·.born)).Nodup/\ep (eD w M k) (eD w M v) es.toList ps
 |.cu k v left last=>(w.heap[g]? =some (.mapIter none 0 #[] 0)/\left=[]/\last=[])\/∃(b:Nat) (es:Array MapEntry) (o:Nat) (seen:Array Nat),w.heap[g]? =some (.mapIter (some b) o seen o)/\w.heap[b]? =some (.map es o)/\¬M b/\
   (∀e∈es.toList,e.born<o)/\(es.toList.map (·.born)).Nodup/\ep (eD w M k) (eD w M v) (es.toList.filter fun e=>!seen.contains e.born) left/\
   (last=[]\/∃e p,last=[p]/\e∈es.toList/\seen.back?=some e.born/\eD w M k e.key p.1/\eD w M v e.val p.2)
 |.aY t x e=>∃cells,w.heap[g]? =some (.cells cells e (0,0))/\aJ w M t cells.toList x
 |.raw f=>(∃aa,w.heap[g]? =some aa)/\∀(w':World) (M':Nat->Prop),(∀b,b<w.heap.size->¬M b->w'.heap[b]? =w.heap[b]?)->(∀b,b<w.heap.size->M' b->M b)->w'.heap[g]? =w.heap[g]? ->f w' M' g
 |.bd e k xs=>∃n cap us q,v=.tuple (.slice (some ⟨g,0,none⟩) n cap::q).toArray/\w.ownsRow 0 e 1 (.slice (some ⟨g,0,none⟩) n cap) xs.length us/\ij w M k xs us q/\(g::q.filterMap aY).Nodup
 |.bu e k xs h=>∃ai us cells,v=.tuple (ai::us).toArray/\w.ownsRow 0 e k.u.cells ai xs.length cells/\fF w M k h 0 xs cells us/\((ai::us).filterMap aY).Nodup
class b8 where
 d:Prop
instance(priority:=low) X1:b8:=⟨False⟩
variable [b8]
class ah(cx:bI) where
 D:List Deferred
instance(priority:=low) Ya(cx:bI):ah cx:=⟨[]⟩
structure Frame(w0 w:World)(X:Nat->Prop):Prop where
 os:w.os=w0.os
 tape:w.tape=w0.tape
 output:w.output=w0.output
 size:w0.heap.size<=w.heap.size
 block:∀b,b<w0.heap.size->¬X b->w.heap[b]? =w0.heap[b]?
 drawn:b8.d->w0.drawn<=w.drawn
def eG:Nat:=10000000
structure an(cx:bI)(m:Nat->Value)(st:af)(T:Array Value)(w:World):Prop where
 size:T.size=cx.n
 frame:Frame cx.w0 w cx.X
 outer:∀b,cx.A b->b<cx.w0.heap.size/\¬cx.X b
 cT:∀i aU,(i,aU)∈st.ab->∃v,T[i]? =some v/\aT w (av cx m st.ids) m v aU
 boxes:∀b c,(b,c)∈st.ad->∃g,iK (m b) g c/\(∀o,own (m b) o->cx.w0.heap.size<=o\/cx.X o)/\ii w (av cx m st.ids) m (m b) g c
 rows:∀r c,(r,c)∈st.rw->∃cells,w.ownsRow 0 c.e c.t.cells (m r) c.xs.length cells/\(∀g,own (m r) g->cx.w0.heap.size<=g\/cx.X g)/\bL (aJ w (av cx m st.ids) c.t) cells c.xs
 apart:∀i j,i∈st.ids->j∈st.ids->i≠j->∀g,own (m i) g->¬own (m j) g
 keys:st.ids.Nodup
 fixed:∀b c,(b,c)∈st.ad->c.one=true->cx.n<=b->m b=cx.m0 b
 kept:∀r c,(r,c)∈st.rw->cx.n<=r->eG<=r->m r=cx.m0 r
def ak(cx:bI)(st:af)(T:Array Value)(w:World):Prop:=∃m,an cx m st T w
def bG(m:Nat->Value)(r:Nat)(u:Value):Nat->Value:=fun i=>if i=r then u else m i
theorem b7(m:Nat->Value)(r:Nat)(u:Value):bG m r u r=u:=by simp[bG]
theorem cX(m:Nat->Value){r i:Nat}(u:Value)(h:i≠r):bG m r u i=m i:=by simp[bG,h]
theorem beq_false{a b:Nat}(h:Nat.beq a b=false):a≠b:=fun e=>by rw[e,Nat.beq_refl]at h;cases h
theorem rJ{w w':World}{M M':Nat->Prop}(o:∀b,b<w.heap.size->¬M b->w'.heap[b]? =w.heap[b]?)(q:∀b,b<w.heap.size->M' b->M b):
  ∀{vs:List Value} {l:List al},dQ w M vs l->dQ w' M' vs l
 |[],[],_=>trivial
 |[],_::_,h=>h.elim
 |_::_,[],h=>h.elim
 |_::_,_::_,⟨O,R⟩=>⟨dt o q O,rJ o q R⟩
theorem vJ{w w':World}{M M':Nat->Prop}{m:Nat->Value}(o:∀b,b<w.heap.size->¬M b->w'.heap[b]? =w.heap[b]?)(q:∀b,b<w.heap.size->M' b->M b):
  ∀{vs:List Value} {l:List bV},de w M m vs l->de w' M' m vs l
 |[],[],_=>trivial
 |[],_::_,h=>h.elim
 |_::_,[],h=>h.elim
 |_::_,.v _::_,⟨O,R⟩=>⟨dt o q O,vJ o q R⟩
 |_::_,.r _::_,⟨O,R⟩=>⟨O,vJ o q R⟩
 |_::vs,.a::us,h=>vJ (vs:=vs) (l:=us) o q h
theorem sr{w:World}{M:Nat->Prop}{m:Nat->Value}{r:Nat}{u:Value}:∀{vs:List Value} {l:List bV},l.any (bV.is r)=false->de w M m vs l->de w M (bG m r u) vs l
 |[],[],_,_=>trivial
 |[],_::_,_,h=>h.elim
 |_::_,[],_,h=>h.elim
 |_::_,.v _::_,o,⟨q,O⟩=>⟨q,sr (by rw[List.any_cons,Bool.or_eq_false_iff]at o;exact o.2) O⟩
 |_::vs,.a::us,o,h=>sr (vs:=vs) (l:=us) (by rw[List.any_cons,Bool.or_eq_false_iff]at o;exact o.2) h
 |_::_,.r b::_,o,⟨q,O⟩=>by
  rw[List.any_cons,Bool.or_eq_false_iff]at o
  exact⟨by rw[cX _ _ (beq_false o.1)];exact q,sr o.2 O⟩
theorem fE{w w':World}{M M':Nat->Prop}{m:Nat->Value}(o:∀b,b<w.heap.size->¬M b->w'.heap[b]? =w.heap[b]?)(q:∀b,b<w.heap.size->M' b->M b)
  {v:Value}{s:ao}(h:aT w M m v s):aT w' M' m v s:=by
 cases s with
 |any=>trivial
 |undef=>exact h
 |val t x=>exact dt o q h
 |dI l=>obtain⟨vs,e,h⟩:=h;exact⟨vs,e,rJ o q h⟩
 |gu l=>obtain⟨vs,e,h⟩:=h;exact⟨vs,e,vJ o q h⟩
 |ptr b off=>exact h
 |fp b=>exact h
 |vptr t x=>
  obtain⟨a,cells,e,X,Y⟩:=h
  refine⟨a,cells,e,cI o q t X,fun j u Z=>?_⟩
  obtain⟨O,R⟩:=Y j u Z
  have U:a.block<w.heap.size:=by
   have:=World.block_lt_of_cell? w (a.add j) O
   rwa [jQ]at this
  refine⟨?_,fun h=>R (q _ U h)⟩
  rw[World.cell?_of_block (w:=w) (by rw[jQ];exact o _ U R)]
  exact O
 |row r=>exact h
 |dU r i off W=>exact h
 |clos f bs=>exact h
 |iter b=>exact h
 |dW b p=>exact h
 |osl b=>exact h
 |fT b i=>exact h
 |sub b i=>exact h
 |ca f b=>exact h
 |dT b i off W=>exact h
 |fq b i j off W=>exact h
 |ai n=>exact h
 |eZ l=>obtain⟨vs,e,h⟩:=h;exact⟨vs,e,vJ o q h⟩
theorem we{w:World}{M:Nat->Prop}{m:Nat->Value}{r:Nat}{u:Value}{v:Value}{s:ao}(o:s.refs r=false)(h:aT w M m v s):aT w M (bG m r u) v s:=by
 cases s with
 |any=>trivial
 |undef=>exact h
 |val t x=>exact h
 |dI l=>exact h
 |gu l=>obtain⟨vs,e,h⟩:=h;exact⟨vs,e,sr o h⟩
 |vptr t x=>exact h
 |ptr b off=>obtain⟨g,q,O⟩:=h;exact⟨g,by rw[cX _ _ (beq_false o)];exact q,O⟩
 |fp b=>show _\/v=_;rw[cX _ _ (beq_false o)];exact h
 |row b=>show v=_;rw[cX _ _ (beq_false o)];exact h
 |dU b i off W=>obtain⟨g,n,cap,q,O⟩:=h;exact⟨g,n,cap,by rw[cX _ _ (beq_false o)];exact q,O⟩
 |iter b=>show v=_;rw[cX _ _ (beq_false o)];exact h
 |dW b p=>obtain⟨g,q,O⟩:=h;exact⟨g,by rw[cX _ _ (beq_false o)];exact q,O⟩
 |osl b=>obtain⟨us,q⟩:=h;exact⟨us,by rw[cX _ _ (beq_false o)];exact q⟩
 |fT b i=>obtain⟨g,n,cap,us,q,O⟩:=h;exact⟨g,n,cap,us,by rw[cX _ _ (beq_false o)];exact q,O⟩
 |sub b i=>obtain⟨R,us,q,O⟩:=h;exact⟨R,us,by rw[cX _ _ (beq_false o)];exact q,O⟩
 |ca f b=>show v=_;rw[cX _ _ (beq_false o)];exact h
 |dT b i off W=>obtain⟨g,n,cap,us,q,O⟩:=h;exact⟨g,n,cap,us,by rw[cX _ _ (beq_false o)];exact q,O⟩
 |fq b i j off W=>obtain⟨R,us,g,n,cap,q,O⟩:=h;exact⟨R,us,g,n,cap,by rw[cX _ _ (beq_false o)];exact q,O⟩
 |ai n=>exact h
 |eZ l=>obtain⟨vs,e,h⟩:=h;exact⟨vs,e,sr o h⟩
 |clos f bs=>
  have U:bs.map (bG m r u)=bs.map m:=by
   apply List.map_congr_left
   intro b U
   apply cX
   intro e
   have:=List.any_eq_false.1 o b U
   rw[e,Nat.beq_refl]at this
   exact this rfl
  show v=_
  rw[U]
  exact h
theorem Ce{w:World}{M:Nat->Prop}{m:Nat->Value}(r:Nat)(u:Value){v:Value}{s:ao}(h:aT w M m v s):aT w M (bG m r u) v (s.dv r):=by
 unfold ao.dv
 cases o:s.refs r with
 |true=>trivial
 |false=>exact we o h
theorem vk{w w':World}{M M':Nat->Prop}{m aI:Nat->Value}{f:ao->ao}(o:∀v s,aT w M m v s->aT w' M' aI v (f s)):
  ∀{vs:List Value} {l:List ao},ct w M m vs l->ct w' M' aI vs (l.map f)
 |[],[],_=>trivial
 |[],_::_,h=>h.elim
 |_::_,[],h=>h.elim
 |_::_,_::_,⟨q,O⟩=>⟨o _ _ q,vk o O⟩
theorem JS{w w':World}{M M':Nat->Prop}{u:Value}(O:∀b,b<w.heap.size->¬M b->w'.heap[b]? =w.heap[b]?)(R:∀b,b<w.heap.size->M' b->M b)(W:∀b,aY u=some b->w'.heap[b]? =w.heap[b]?):
  ∀{k:eQ} {x:k.el},kp w M u k x->kp w' M' u k x
 |.mp _ _,none,h=>h
 |.mp k v,some ps,⟨r,es,Z,X,q,U,o,la⟩=>⟨r,es,Z,X,by rw[W r (by rw[X];rfl)];exact q,U,o,ic (fun _ _ h=>dt O R h) (fun _ _ h=>dt O R h) la⟩
 |.row e t,xs,⟨cells,q,U⟩=>by
  refine⟨cells,⟨q.1,?_⟩,dy (fun _ _=>cI O R t) U⟩
  rcases q.2 with o|⟨g,cap,cur,Y,lb,o,rest⟩
  ·exact .inl o
  ·exact .inr ⟨g,cap,cur,Y,lb,by rw[W g (by rw[Y];rfl)];exact o,rest⟩
theorem pZ{w w':World}{M M':Nat->Prop}{k:eQ}(R:∀b,b<w.heap.size->¬M b->w'.heap[b]? =w.heap[b]?)(U:∀b,b<w.heap.size->M' b->M b):
  ∀{xs:List (Option k.el)} {us o:List Value},(∀u∈o,∀b,aY u=some b->w'.heap[b]? =w.heap[b]?)->ij w M k xs us o->ij w' M' k xs us o
 |[],[],[],_,_=>trivial
 |none::xs,_::us,Y::o,q,⟨O,W⟩=>⟨O,pZ R U (fun u X=>q u (List.mem_cons_of_mem _ X)) W⟩
 |some x::xs,u::us,Y::o,q,⟨O,W,Z⟩=>⟨O,JS R U (O▸q Y List.mem_cons_self) W,pZ R U (fun u X=>q u (List.mem_cons_of_mem _ X)) Z⟩
theorem Rh{w:World}{M:Nat->Prop}{u:Value}:∀{k:eQ} {x:k.el},kp w M u k x->∀b,aY u=some b->b<w.heap.size
 |.mp _ _,none,h,b,o=>by cases h;cases o
 |.mp k v,some ps,⟨r,es,W,R,q,_⟩,b,o=>by rw[R]at o;cases o;exact gx q
 |.row e t,xs,⟨cells,q,X⟩,b,o=>by
  rcases q.2 with ⟨O,_⟩|⟨g,cap,cur,U,Y,O,rest⟩
  ·rw[O]at o;cases o
  ·rw[U]at o;cases o;exact gx O
theorem Cv{w:World}{M:Nat->Prop}{k:eQ}:∀{xs:List (Option k.el)} {us q:List Value},ij w M k xs us q->∀u∈q,∀b,aY u=some b->b<w.heap.size
 |[],[],[],_,u,hu,_,_=>by cases hu
 |none::xs,_::us,U::q,⟨O,R⟩,u,hu,b,o=>by
  rcases List.mem_cons.1 hu with rfl|hu
  ·rw[O]at o;cases o
  ·exact Cv R u hu b o
 |some x::xs,X::us,U::q,⟨O,R,W⟩,u,hu,b,o=>by
  rcases List.mem_cons.1 hu with rfl|hu
  ·rw[O]at o;exact Rh R b o
  ·exact Cv W u hu b o
theorem qH{w w':World}{e q n:Nat}{v:Value}{cells:List Value}(h:w.ownsRow 0 e q v n cells)(R:∀b,aY v=some b->w'.heap[b]? =w.heap[b]?):w'.ownsRow 0 e q v n cells:=by
 refine⟨h.1,?_⟩
 rcases h.2 with o|⟨g,cap,cur,O,U,o,rest⟩
 ·exact .inl o
 ·exact .inr ⟨g,cap,cur,O,U,by rw[R g (by rw[O];rfl)];exact o,rest⟩
theorem AQ{w w':World}{M M':Nat->Prop}{k:ee}{out o:Prop}{cs:List Value}{v:Value}{x:k.u.el}(q:∀b,b<w.heap.size->¬M b->w'.heap[b]? =w.heap[b]?)(O:∀b,b<w.heap.size->M' b->M b)(R:out↔o)(U:∀b,aY v=some b->w'.heap[b]? =w.heap[b]?)
  (h:mU w M k out cs v x):mU w' M' k o cs v x:=by
 obtain⟨L,v1,W,ae,X,Y,e4,Z,la,lb⟩:=h
 refine⟨L,v1,W,ae,X,Y,e4,cI q O k.u Z,fun h=>la (R.2 h),fun h=>?_⟩
 obtain⟨lc,ld,cells,le,lf,lg⟩:=lb fun lh=>h (R.1 lh)
 exact⟨lc,ld,cells,le,qH lf U,dy (fun _ _=>cI q O k.t) lg⟩
theorem r8{w w':World}{M M':Nat->Prop}{k:ee}{h h':Option Int}(o:∀b,b<w.heap.size->¬M b->w'.heap[b]? =w.heap[b]?)(q:∀b,b<w.heap.size->M' b->M b):
  ∀{xs:List k.u.el} {n:Nat} {cs us:List Value},(∀m,n<=m->(iV h m↔iV h' m))->(∀u∈us,∀b,aY u=some b->w'.heap[b]? =w.heap[b]?)->fF w M k h n xs cs us->fF w' M' k h' n xs cs us
 |[],_,_,_,_,_,U=>U
 |x::xs,n,cs,us,O,R,⟨c,d,v,vs,ae,W,X,e4,Y⟩=>by
  subst X
  exact⟨c,d,v,vs,ae,W,rfl,AQ o q (O n (Nat.le_refl n)) (R v List.mem_cons_self) e4,r8 o q (fun m la=>O m (by omega)) (fun u Z=>R u (List.mem_cons_of_mem _ Z)) Y⟩
theorem Wi{w:World}{M:Nat->Prop}{k:ee}{out:Prop}{cs:List Value}{v:Value}{x:k.u.el}(h:mU w M k out cs v x){b:Nat}(o:aY v=some b):b<w.heap.size:=by
 obtain⟨L,v1,Y,_,_,_,_,_,R,U⟩:=h
 by_cases O:out
 ·rw[R O]at o;cases o
 ·obtain⟨_,Z,cells,_,W,_⟩:=U O
  rcases W.2 with ⟨q,_⟩|⟨g,cap,cur,X,_,q,_⟩
  ·rw[q]at o;cases o
  ·rw[X]at o;cases o;exact gx q
theorem Nh{w:World}{M:Nat->Prop}{k:ee}{h:Option Int}:∀{xs:List k.u.el} {n:Nat} {cs us:List Value},fF w M k h n xs cs us->∀u∈us,∀b,aY u=some b->b<w.heap.size
 |[],_,_,_,q,u,hu,_,_=>by rw[q.2]at hu;cases hu
 |x::xs,n,cs,us,⟨c,d,v,vs,_,_,O,e4,R⟩,u,hu,b,o=>by
  subst O
  rcases List.mem_cons.1 hu with rfl|hu
  ·exact Wi e4 o
  ·exact Nh R u hu b o
theorem dr{r:Value}{us:List Value}{b:Nat}:own (.tuple (r::us).toArray) b↔aY r=some b\/∃u∈us,aY u=some b:=by
 show(∃u∈r::us,aY u=some b)↔_
 simp
theorem jS{w w':World}{M M':Nat->Prop}{m aI:Nat->Value}{v0:Value}{g:Nat}{f:ao->ao}(U:∀b,b<w.heap.size->¬M b->w'.heap[b]? =w.heap[b]?)(W:∀b,b<w.heap.size->M' b->M b){c:bQ}(lk:c.one=true->own v0 g)(la:∀b,own v0 b->w'.heap[b]? =w.heap[b]?)(ll:∀v s,aT w M m v s->aT w' M' aI v (f s)):
  ii w M m v0 g c->ii w' M' aI v0 g (c.map f):=by
 have q:c.one=true->w'.heap[g]? =w.heap[g]? :=fun o=>la g (lk o)
 intro Y
 exact match c,q,Y with
 |.cells _ _,q,⟨cells,o,O⟩=>⟨cells,by rw[q rfl];exact o,vk ll O⟩
 |.iter _ _,q,h=>by show w'.heap[g]? =_;rw[q rfl];exact h
 |.aY t x e,q,⟨cells,o,O⟩=>⟨cells,by rw[q rfl];exact o,cI U W t O⟩
 |.raw f,q,⟨⟨aa,lm⟩,h⟩=>⟨⟨aa,by rw[q rfl];exact lm⟩,fun ln lo ld a2 a3=>h ln lo
   (fun b R lb=>by
    have e:=U b R lb
    have le:b<w'.heap.size:=by
     rcases Nat.lt_or_ge b w'.heap.size with o|o
     ·exact o
     ·rw[Array.getElem?_eq_none o,Array.getElem?_eq_getElem R]at e;cases e
    rw[ld b le (fun Y=>lb (W b R Y)),e])
   (fun b R Y=>by
    refine Classical.byContradiction fun lb=>?_
    have e:=U b R lb
    have le:b<w'.heap.size:=by
     rcases Nat.lt_or_ge b w'.heap.size with o|o
     ·exact o
     ·rw[Array.getElem?_eq_none o,Array.getElem?_eq_getElem R]at e;cases e
    exact lb (W b R (a2 b le Y)))
   (by rw[a3,q rfl])⟩
 |.mp k v ps,q,⟨es,lf,o,O,X,Z⟩=>⟨es,lf,by rw[q rfl];exact o,O,X,ic (fun _ _ h=>dt U W h) (fun _ _ h=>dt U W h) Z⟩
 |.cu k v l a,q,.inl ⟨o,O⟩=>.inl ⟨by rw[q rfl];exact o,O⟩
 |.cu k v l a,q,.inr ⟨b,es,lf,seen,o,O,X,Z,lc,lp,lq⟩=>
  have lh:=gx O
  .inr ⟨b,es,lf,seen,by rw[q rfl];exact o,by rw[U b lh X];exact O,fun Y=>X (W b lh Y),Z,lc,ic (fun _ _ h=>dt U W h) (fun _ _ h=>dt U W h) lp,
   lq.imp id fun⟨e,p,ld,a2,a3,a4,a5⟩=>⟨e,p,ld,a2,a3,dt U W a4,dt U W a5⟩⟩
 |.bd e k xs,q,⟨n,cap,us,lr,o,O,X,Z⟩=>by
  refine⟨n,cap,us,lr,o,⟨O.1,?_⟩,pZ U W (fun u lg b R=>la b (by rw[o];exact dr.2 (.inr ⟨u,lg,R⟩))) X,Z⟩
  rcases O.2 with lc|⟨li,ls,cur,lj,lt,lc,rest⟩
  ·exact .inl lc
  ·exact .inr ⟨li,ls,cur,lj,lt,by rw[la li (by rw[o];exact dr.2 (.inl (by rw[lj];rfl)))];exact lc,rest⟩
 |.bu e k xs h,_,⟨ai,us,cells,o,O,X,Z⟩=>by
  refine⟨ai,us,cells,o,qH O fun b R=>la b (by rw[o];exact dr.2 (.inl R)),r8 U W (fun _ _=>Iff.rfl) (fun u lg b R=>la b (by rw[o];exact dr.2 (.inr ⟨u,lg,R⟩))) X,Z⟩
theorem F9{w:World}{M:Nat->Prop}{m:Nat->Value}{v0:Value}{g:Nat}{c:bQ}(O:iK v0 g c)(h:ii w M m v0 g c):∀b,own v0 b->b<w.heap.size:=by
 have key:(∃aa,w.heap[g]? =some aa)->v0=fC g c->∀b,own v0 b->b<w.heap.size:=by
  rintro⟨aa,lb⟩ e b o
  rw[e]at o
  have q:own (fC g c) b->b=g:=by cases c<;>(intro la;exact(Option.some.inj la).symm)
  rw[q o]
  exact(Array.getElem?_eq_some_iff.1 lb).1
 cases c with
 |cells l e=>obtain⟨cells,q,_⟩:=h;exact key ⟨_,q⟩ O
 |iter s p=>exact key ⟨_,h⟩ O
 |aY t x e=>obtain⟨cells,q,_⟩:=h;exact key ⟨_,q⟩ O
 |raw f=>exact key h.1 O
 |mp k v ps=>obtain⟨es,lc,q,_⟩:=h;exact key ⟨_,q⟩ O
 |cu k v l a=>
  rcases h with ⟨q,_⟩|⟨b,es,lc,seen,q,_⟩
  ·exact key ⟨_,q⟩ O
  ·exact key ⟨_,q⟩ O
 |bu e k xs la=>
  obtain⟨ai,us,cells,rfl,R,U,_⟩:=h
  intro b o
  rcases dr.1 o with o|⟨u,W,o⟩
  ·rcases R.2 with ⟨X,_⟩|⟨g,cap,cur,Y,_,X,_⟩
   ·rw[X]at o;cases o
   ·rw[Y]at o;cases o;exact gx X
  ·exact Nh U u W b o
 |bd e k xs=>
  obtain⟨n,cap,us,ld,rfl,R,U,_⟩:=h
  intro b o
  rcases dr.1 o with o|⟨u,W,o⟩
  ·rcases R.2 with ⟨Z,_⟩|⟨le,lf,cur,Y,lg,Z,rest⟩
   ·cases Z
   ·cases Y;cases o;exact gx Z
  ·exact Cv U u W b o
theorem Ck{w:World}{e O n:Nat}{v:Value}{cells:List Value}(h:w.ownsRow 0 e O v n cells){g:Nat}(o:own v g):aY v=some g:=by
 rcases h.2 with ⟨q,_⟩|⟨R,cap,cur,q,_⟩<;>rw[q]at o⊢<;>exact o
theorem bQ.map_id(c:bQ):c.map id=c:=by cases c<;>simp[bQ.map]
theorem Dc{w w':World}{M M':Nat->Prop}{m:Nat->Value}{v0:Value}{g:Nat}{c:bQ}(O:c.one=true->own v0 g)(R:∀b,own v0 b->w'.heap[b]? =w.heap[b]?)(o:∀b,b<w.heap.size->¬M b->w'.heap[b]? =w.heap[b]?)(q:∀b,b<w.heap.size->M' b->M b)
  (h:ii w M m v0 g c):ii w' M' m v0 g c:=by
 have:=jS (f:=id) o q O R (fun v s U=>fE (m:=m) o q U) h
 rwa [bQ.map_id]at this
end Go.Ev
namespace Go.Ev
open Go Go.RowKit
variable [b8]
variable {cx:bI} {m:Nat->Value} {st:af} {T:Array Value} {w w':World}
variable [ah cx]
theorem Frame.refl(w:World)(X:Nat->Prop):Frame w w X:=⟨rfl,rfl,rfl,Nat.le_refl _,fun _ _ _=>rfl,fun _=>Nat.le_refl _⟩
structure Same(w w':World):Prop where
 os:w'.os=w.os
 tape:w'.tape=w.tape
 output:w'.output=w.output
 size:w.heap.size<=w'.heap.size
 drawn:b8.d->w.drawn<=w'.drawn
structure Ext(w w':World):Prop extends Same w w' where
 block:∀b,b<w.heap.size->w'.heap[b]? =w.heap[b]?
theorem Ext.refl(w:World):Ext w w:={os:=rfl,tape:=rfl,output:=rfl,size:=Nat.le_refl _,drawn:=fun _=>Nat.le_refl _,block:=fun _ _=>rfl}
theorem Ext.tj{w w':World}(h:Below w.heap.size w w')(ai:b8.d->w.drawn<=w'.drawn):Ext w w':={os:=h.os,tape:=h.tape,output:=h.output,size:=h.size,drawn:=ai,block:=h.block}
theorem Ext.below{w w':World}(h:Ext w w'):Below w.heap.size w w':=⟨h.os,h.tape,h.output,h.size,h.block⟩
theorem Ext.trans{a b c:World}(h:Ext a b)(k:Ext b c):Ext a c:=Ext.tj (h.below.trans (k.below.mono h.size)) (fun d=>Nat.le_trans (h.drawn d) (k.drawn d))
theorem Ext.drew{w w':World}(h:Ext w w'):Ext w w'.drew:=Ext.tj h.below.drew (fun d=>Nat.le_succ_of_le (h.drawn d))
theorem Frame.step(h:Frame cx.w0 w cx.X)(o:Same w w')(R:∀b,b<cx.w0.heap.size->¬cx.X b->w'.heap[b]? =w.heap[b]?):Frame cx.w0 w' cx.X:=
 ⟨o.os.trans h.os,o.tape.trans h.tape,o.output.trans h.output,Nat.le_trans h.size o.size,fun b q O=>(R b q O).trans (h.block b q O),fun d=>Nat.le_trans (h.drawn d) (o.drawn d)⟩
theorem an.put(h:an cx m st T w){d:Nat}(ai:d<cx.n){v:Value}{s:ao}(o:aT w (av cx m st.ids) m v s):an cx m (st.put d s) (T.setIfInBounds d v) w:=
 {h with
  size:=by rw[Array.size_setIfInBounds];exact h.size
  cT:=fun i aU hi=>by
   rcases List.mem_cons.1 hi with hi|hi
   ·cases hi
    exact⟨v,by rw[Array.getElem?_setIfInBounds_self_of_lt (by rw[h.size];exact ai)],o⟩
   ·obtain⟨hi,q⟩:=cW.1 hi
    obtain⟨v',O,R⟩:=h.cT i aU hi
    exact⟨v',by rw[Array.getElem?_setIfInBounds_ne (fun e=>q e.symm)];exact O,R⟩}
theorem an.lt(h:an cx m st T w){i g:Nat}(hi:i∈st.ids)(o:own (m i) g):g<w.heap.size/\(cx.w0.heap.size<=g\/cx.X g):=by
 rcases List.mem_append.1 hi with hi|hi
 ·obtain⟨⟨b,c⟩,q,rfl⟩:=List.mem_map.1 hi
  obtain⟨W,O,R,Y⟩:=h.boxes b c q
  exact⟨F9 O Y g o,R g o⟩
 ·obtain⟨⟨r,c⟩,q,rfl⟩:=List.mem_map.1 hi
  obtain⟨cells,O,R,_⟩:=h.rows r c q
  refine⟨?_,R g o⟩
  rcases O.2 with ⟨U,_⟩|⟨W,cap,cur,U,_,X,_⟩
  ·dsimp only at o;rw[U]at o;cases o
  ·dsimp only at o
   rw[U]at o
   cases o
   rcases Nat.lt_or_ge W w.heap.size with h|h
   ·exact h
   ·rw[Array.getElem?_eq_none h]at X;cases X
theorem an.ym(h:an cx m st T w){b:Nat}(o:av cx m st.ids b):b<w.heap.size:=by
 rcases o with o|⟨i,hi,q⟩
 ·exact Nat.lt_of_lt_of_le (h.outer b o).1 h.frame.size
 ·exact(h.lt hi q).1
theorem an.ext(h:an cx m st T w)(o:Ext w w'):an cx m st T w':=by
 have R:∀b,b<w.heap.size->¬av cx m st.ids b->w'.heap[b]? =w.heap[b]? :=fun b q _=>o.block b q
 have U:∀b,b<w.heap.size->av cx m st.ids b->av cx m st.ids b:=fun _ _ h=>h
 exact{h with
  frame:=h.frame.step o.toSame fun b q _=>o.block b (Nat.lt_of_lt_of_le q h.frame.size)
  cT:=fun i aU hi=>let⟨v,Y,q⟩:=h.cT i aU hi;⟨v,Y,fE R U q⟩
  boxes:=fun b c q=>by
   obtain⟨g,ae,W,O⟩:=h.boxes b c q
   exact⟨g,ae,W,Dc (ix ae) (fun X Z=>o.block X (F9 ae O X Z)) R U O⟩
  rows:=fun r c la=>by
   obtain⟨cells,ae,W,O⟩:=h.rows r c la
   refine⟨cells,ae.kept (row:=none) ⟨o.os,o.tape,o.output,o.size,fun k lb _=>o.block k lb⟩ ?_,W,dy (fun _ _=>cI R U c.t) O⟩
   cases lc:(m r).ownBlock
   ·exact .inl rfl
   ·exact .inr (by simp)}
theorem nV(st:af)(r:Nat):∀i,i∈(st.dv r).ids↔i∈st.ids/\i≠r:=by
 intro i
 simp only[af.ids,af.dv,List.map_map,List.mem_append,List.mem_map,Function.comp]
 constructor
 ·rintro(⟨⟨b,c⟩,o,rfl⟩|⟨⟨b,c⟩,o,rfl⟩)
  ·obtain⟨q,O⟩:=cW.1 o;exact⟨.inl ⟨_,q,rfl⟩,O⟩
  ·obtain⟨q,O⟩:=cW.1 o;exact⟨.inr ⟨_,q,rfl⟩,O⟩
 ·rintro⟨⟨⟨b,c⟩,o,rfl⟩|⟨⟨b,c⟩,o,rfl⟩,R⟩
  ·exact .inl ⟨(b,c),cW.2 ⟨o,R⟩,rfl⟩
  ·exact .inr ⟨(b,c),cW.2 ⟨o,R⟩,rfl⟩
theorem G8{st:af}(h:st.ids.Nodup)(r:Nat):(st.dv r).ids.Nodup:=by
 have e:(st.dv r).ids=st.ids.filter (fun k=>!Nat.beq k r):=by
  have o:((del st.ad r).map fun p=>(p.1,p.2.map (ao.dv r))).map (·.1)=(del st.ad r).map (·.1):=by simp[List.map_map,Function.comp_def]
  show((del st.ad r).map fun p=>(p.1,p.2.map (ao.dv r))).map (·.1)++(del st.rw r).map (·.1)=_
  rw[o,mm,mm,<-List.filter_append]
  rfl
 rw[e]
 exact h.filter _
structure dw(cx:bI)(m:Nat->Value)(st:af)(w:World)(r:Nat)(u:Value)(w':World):Prop where
 same:Same w w'
 block:∀b,b<w.heap.size->¬(r∈st.ids/\own (m r) b)->w'.heap[b]? =w.heap[b]?
 place:∀g,own u g->(r∈st.ids/\own (m r) g)\/(w.heap.size<=g/\g<w'.heap.size)
theorem dw.keeps{r:Nat}{u:Value}(o:dw cx m st w r u w'):∀b,b<w.heap.size->¬av cx m st.ids b->w'.heap[b]? =w.heap[b]? :=
 fun b q O=>o.block b q fun⟨R,U⟩=>O (.inr ⟨r,R,U⟩)
theorem dw.mut{r:Nat}{u:Value}{ids:List Nat}(q:∀i,i∈ids->i=r\/i∈st.ids)(O:dw cx m st w r u w'):
  ∀b,b<w.heap.size->av cx (bG m r u) ids b->av cx m st.ids b:=by
 rintro b R (h|⟨i,hi,o⟩)
 ·exact .inl h
 ·by_cases e:i=r
  ·subst e
   rw[b7]at o
   rcases O.place b o with h|h
   ·exact .inr ⟨i,h.1,h.2⟩
   ·omega
  ·rw[cX _ _ e]at o
   exact .inr ⟨i,(q i hi).resolve_left e,o⟩
theorem an.Gq(h:an cx m st T w){r:Nat}{u:Value}(o:dw cx m st w r u w'):Frame cx.w0 w' cx.X:=
 h.frame.step o.same fun b O R=>o.block b (Nat.lt_of_lt_of_le O h.frame.size) fun⟨U,W⟩=>by
  rcases(h.lt U W).2 with q|q
  ·omega
  ·exact R q
theorem an.Lt(h:an cx m st T w){r:Nat}{u:Value}{ids:List Nat}(q:∀i,i∈ids->i=r\/i∈st.ids)(o:dw cx m st w r u w'):
  ∀i aU,(i,aU)∈(st.dv r).ab->∃v,T[i]? =some v/\aT w' (av cx (bG m r u) ids) (bG m r u) v aU:=by
 intro i aU hi
 obtain⟨⟨j,s⟩,O,R⟩:=List.mem_map.1 hi
 cases R
 obtain⟨v,U,W⟩:=h.cT j s O
 exact⟨v,U,Ce r u (fE o.keeps (o.mut q) W:aT w' (av cx (bG m r u) ids) m v s)⟩
theorem an.I9(h:an cx m st T w){r:Nat}{u:Value}{ids:List Nat}(U:∀i,i∈ids->i=r\/i∈st.ids)(q:dw cx m st w r u w'):
  ∀b c,(b,c)∈(st.dv r).ad->∃g,iK (bG m r u b) g c/\(∀R,own (bG m r u b) R->cx.w0.heap.size<=R\/cx.X R)/\ii w' (av cx (bG m r u) ids) (bG m r u) (bG m r u b) g c:=by
 intro b c Z
 obtain⟨⟨j,s⟩,O,la⟩:=List.mem_map.1 Z
 cases la
 obtain⟨O,W⟩:=cW.1 O
 obtain⟨g,ae,lb,lc⟩:=h.boxes j s O
 have X:j∈st.ids:=List.mem_append.2 (.inl (List.mem_map.2 ⟨_,O,rfl⟩))
 have ld:∀o,own (m j) o->w'.heap[o]? =w.heap[o]? :=fun o Y=>q.block o (h.lt X Y).1 fun⟨le,lf⟩=>h.apart r j le X (fun e=>W e.symm) o lf Y
 rw[cX _ _ W]
 exact⟨g,kQ.2 ae,lb,jS q.keeps (q.mut U) (ix ae) ld (fun v s lg=>Ce r u (fE q.keeps (q.mut U) lg:aT w' (av cx (bG m r u) ids) m v s)) lc⟩
theorem an.H1(h:an cx m st T w){r:Nat}{u:Value}{ids:List Nat}(Y:∀i,i∈ids->i=r\/i∈st.ids)(o:dw cx m st w r u w'):
  ∀b c,(b,c)∈(st.dv r).rw->∃cells,w'.ownsRow 0 c.e c.t.cells (bG m r u b) c.xs.length cells/\(∀g,own (bG m r u b) g->cx.w0.heap.size<=g\/cx.X g)/\
   bL (aJ w' (av cx (bG m r u) ids) c.t) cells c.xs:=by
 intro b c Z
 obtain⟨O,R⟩:=cW.1 Z
 obtain⟨cells,ae,la,lb⟩:=h.rows b c O
 have U:b∈st.ids:=List.mem_append.2 (.inr (List.mem_map.2 ⟨_,O,rfl⟩))
 rw[cX _ _ R]
 refine⟨cells,⟨ae.1,?_⟩,la,dy (fun _ _=>cI o.keeps (o.mut Y) c.t) lb⟩
 rcases ae.2 with q|⟨g,cap,cur,W,lc,q,rest⟩
 ·exact .inl q
 ·have X:own (m b) g:=by rw[W];exact gQ rfl
  exact .inr ⟨g,cap,cur,W,lc,by rw[o.block g (h.lt U X).1 fun⟨ld,le⟩=>h.apart r b ld U (fun e=>R e.symm) g le X];exact q,rest⟩
theorem an.JF(h:an cx m st T w){r:Nat}{u:Value}{ids:List Nat}(U:∀i,i∈ids->i=r\/i∈st.ids)(la:dw cx m st w r u w'):
  ∀i j,i∈ids->j∈ids->i≠j->∀g,own (bG m r u i) g->¬own (bG m r u j) g:=by
 intro i j hi lb O g q o
 by_cases W:i=r
 ·subst W
  rw[b7]at q
  rw[cX _ _ (fun e=>O e.symm)]at o
  have lc:=(U j lb).resolve_left (fun e=>O e.symm)
  rcases la.place g q with ⟨R,X⟩|⟨R,_⟩
  ·exact h.apart i j R lc O g X o
  ·have:=(h.lt lc o).1;omega
 ·rw[cX _ _ W]at q
  have Y:=(U i hi).resolve_left W
  by_cases Z:j=r
  ·subst Z
   rw[b7]at o
   rcases la.place g o with ⟨R,X⟩|⟨R,_⟩
   ·exact h.apart i j Y R O g q X
   ·have:=(h.lt Y q).1;omega
  ·rw[cX _ _ Z]at o
   exact h.apart i j Y ((U j lb).resolve_left Z) O g q o
def af.dn(st:af)(r:Nat)(c:bQ):af:={st.dv r with ad:=(r,c)::(st.dv r).ad}
def af.dq(st:af)(r:Nat)(c:cG):af:={st.dv r with rw:=(r,c)::(st.dv r).rw}
theorem w6(st:af)(r:Nat)(c:bQ):(st.dn r c).ids=r::(st.dv r).ids:=rfl
theorem Hn(st:af)(r:Nat)(c:cG):∀i,i∈(st.dq r c).ids↔i=r\/i∈(st.dv r).ids:=by
 intro i
 simp only[af.ids,af.dq,List.map_cons,List.mem_append,List.mem_cons]
 constructor
 ·rintro(h|h|h)
  ·exact .inr (.inl h)
  ·exact .inl h
  ·exact .inr (.inr h)
 ·rintro(h|h|h)
  ·exact .inr (.inl h)
  ·exact .inl h
  ·exact .inr (.inr h)
theorem an.KP(h:an cx m st T w){r:Nat}{u:Value}{b:Nat}{c:bQ}(o:(b,c)∈(st.dv r).ad)(q:c.one=true)(O:cx.n<=b):bG m r u b=cx.m0 b:=by
 obtain⟨⟨Y,c'⟩,R,U⟩:=List.mem_map.1 o
 cases U
 obtain⟨W,X⟩:=cW.1 R
 rw[cX _ _ X]
 exact h.fixed _ _ W (mR.symm.trans q) O
theorem an.Lc(h:an cx m st T w){r:Nat}{u:Value}{b:Nat}{c:cG}(o:(b,c)∈(st.dv r).rw)(q:cx.n<=b)(O:eG<=b):bG m r u b=cx.m0 b:=by
 obtain⟨R,U⟩:=cW.1 o
 rw[cX _ _ U]
 exact h.kept _ _ R q O
theorem an.Ou(h:an cx m st T w){r:Nat}(lc:r<cx.n){g:Nat}{c:bQ}{u:Value}(W:iK u g c)(q:dw cx m st w r u w')
  (X:∀R,own u R->cx.w0.heap.size<=R\/cx.X R)(Y:ii w' (av cx (bG m r u) (st.dn r c).ids) (bG m r u) u g c):
  an cx (bG m r u) (st.dn r c) T w':=by
 have O:∀i,i∈(st.dn r c).ids->i=r\/i∈st.ids:=by
  intro i hi
  rw[w6]at hi
  rcases List.mem_cons.1 hi with hi|hi
  ·exact .inl hi
  ·exact .inr ((nV st r i).1 hi).1
 refine{size:=h.size,frame:=h.Gq q,outer:=h.outer,cT:=h.Lt O q,boxes:=?_,rows:=h.H1 O q,apart:=h.JF O q,keys:=?_,fixed:=?_,kept:=fun b c' o U Z=>h.Lc o U Z}
 ·intro b c' o
  rcases List.mem_cons.1 o with o|o
  ·cases o
   rw[b7]
   exact⟨g,W,X,Y⟩
  ·exact h.I9 O q b c' o
 ·rw[w6]
  exact List.nodup_cons.2 ⟨fun la=>((nV st r r).1 la).2 rfl,G8 h.keys r⟩
 ·intro b c' o lb U
  rcases List.mem_cons.1 o with o|o
  ·cases o;omega
  ·exact h.KP o lb U
def bQ.CE:bQ->Bool
 |.bd _ _ _=>false
 |.bu _ _ _ _=>false
 |_=>true
theorem N0{c:bQ}(o:c.CE=true)(g:Nat):iK (fC g c) g c:=by
 cases c<;>first|rfl|cases o
theorem mB{c:bQ}{g b:Nat}(h:own (fC g c) b):b=g:=by
 cases c<;>exact(Option.some.inj h).symm
theorem an.dn(h:an cx m st T w){r:Nat}(o:r<cx.n){g:Nat}{c:bQ}(q:dw cx m st w r (fC g c) w')
  (O:cx.w0.heap.size<=g\/cx.X g)(R:ii w' (av cx (bG m r (fC g c)) (st.dn r c).ids) (bG m r (fC g c)) (fC g c) g c)(U:c.CE=true:=by rfl):
  an cx (bG m r (fC g c)) (st.dn r c) T w':=
 h.Ou o (N0 U g) q (fun X W=>by rw[mB W];exact O) R
theorem an.box(h:an cx m st T w){b:Nat}{c:bQ}(O:(b,c)∈st.ad)(o:c.CE=true:=by rfl):∃g,m b=fC g c/\(cx.w0.heap.size<=g\/cx.X g)/\ii w (av cx m st.ids) m (fC g c) g c:=by
 obtain⟨g,q,R,U⟩:=h.boxes b c O
 have e:m b=fC g c:=by cases c<;>first|exact q|cases o
 exact⟨g,e,R g (ix q (by cases c<;>first|rfl|cases o)),by rw[<-e];exact U⟩
theorem an.dq(h:an cx m st T w){r:Nat}{u:Value}(q:r<cx.n\/r<eG)(O:dw cx m st w r u w'){cells:List Value}{c:cG}
  (Y:∀g,own u g->cx.w0.heap.size<=g\/cx.X g)(W:w'.ownsRow 0 c.e c.t.cells u c.xs.length cells)
  (Z:bL (aJ w' (av cx (bG m r u) (st.dq r c).ids) c.t) cells c.xs):
  an cx (bG m r u) (st.dq r c) T w':=by
 have R:∀i,i∈(st.dq r c).ids->i=r\/i∈st.ids:=by
  intro i hi
  rcases(Hn st r c i).1 hi with hi|hi
  ·exact .inl hi
  ·exact .inr ((nV st r i).1 hi).1
 refine{size:=h.size,frame:=h.Gq O,outer:=h.outer,cT:=h.Lt R O,boxes:=h.I9 R O,rows:=?_,apart:=h.JF R O,keys:=?_,fixed:=fun b c' o la U=>h.KP o la U,kept:=fun b c' o U X=>?_}
 rotate_left 2
 ·rcases List.mem_cons.1 o with o|o
  ·cases o
   rcases q with q|q
   ·exact absurd U (Nat.not_le.2 q)
   ·exact absurd X (Nat.not_le.2 q)
  ·exact h.Lc o U X
 ·intro b c' o
  rcases List.mem_cons.1 o with o|o
  ·cases o
   rw[b7]
   exact⟨cells,W,Y,Z⟩
  ·exact h.H1 R O b c' o
 ·have lb:(st.dq r c).ids.Perm (r::(st.dv r).ids):=by
   show((st.dv r).ad.map (·.1)++r::(st.dv r).rw.map (·.1)).Perm _
   exact List.perm_middle
  exact lb.nodup_iff.2 (List.nodup_cons.2 ⟨fun W=>((nV st r r).1 W).2 rfl,G8 h.keys r⟩)
theorem dw.fresh(h:an cx m st T w)(r:Nat)(u:Value)(o:Ext w w')(q:∀g,own u g->w.heap.size<=g/\g<w'.heap.size):dw cx m st w r u w':=
 ⟨o.toSame,fun b O _=>o.block b O,fun g R=>.inr (q g R)⟩
end Go.Ev
namespace Go.Ev
open Go Go.RowKit
variable [b8]
variable {cx:bI} {m:Nat->Value} {st:af} {T:Array Value} {w w':World}
variable [ah cx]
theorem mM{ids q:List Nat}(h:∀i,i∈q->i∈ids){b:Nat}(o:av cx m q b):av cx m ids b:=by
 rcases o with o|⟨i,hi,O⟩
 ·exact .inl o
 ·exact .inr ⟨i,h i hi,O⟩
def af.dd(st:af)(r:Nat)(c:bQ):af:={st with ad:=(r,c)::del st.ad r}
def af.setRow(st:af)(r:Nat)(c:cG):af:={st with rw:=(r,c)::del st.rw r}
theorem SL{l:List (Nat×bQ)}{k:List Nat}(h:(l.map (·.1)++k).Nodup)(r:Nat):((del l r).map (·.1)++k).Nodup:=by
 rw[mm]
 exact h.sublist (List.Sublist.append List.filter_sublist (List.Sublist.refl _))
theorem ko{r:Nat}{O:bQ}(R:(r,O)∈st.ad)(U:st.ids.Nodup)(c:bQ):(∀i,i∈(st.dd r c).ids↔i∈st.ids)/\(st.dd r c).ids.Nodup:=by
 have W:∀i,i∈(st.dd r c).ids↔i∈st.ids:=by
  intro i
  simp only[af.ids,af.dd,List.map_cons,List.mem_append,List.mem_cons,List.mem_map]
  constructor
  ·rintro((h|⟨⟨b,s⟩,o,rfl⟩)|h)
   ·exact .inl ⟨(r,O),R,h.symm⟩
   ·exact .inl ⟨_,(cW.1 o).1,rfl⟩
   ·exact .inr h
  ·rintro(⟨⟨b,s⟩,o,rfl⟩|h)
   ·by_cases e:b=r
    ·exact .inl (.inl e)
    ·exact .inl (.inr ⟨(b,s),cW.2 ⟨o,e⟩,rfl⟩)
   ·exact .inr h
 refine⟨W,?_⟩
 show(r::((del st.ad r).map (·.1)++st.rw.map (·.1))).Nodup
 refine List.nodup_cons.2 ⟨fun q=>?_,SL U r⟩
 rcases List.mem_append.1 q with q|q
 ·obtain⟨⟨b,s⟩,o,e⟩:=List.mem_map.1 q
  exact(cW.1 o).2 e
 ·exact(List.nodup_append.1 U).2.2 r (List.mem_map.2 ⟨_,R,rfl⟩) r q rfl
theorem ou{r:Nat}{O:cG}(R:(r,O)∈st.rw)(U:st.ids.Nodup)(c:cG):(∀i,i∈(st.setRow r c).ids↔i∈st.ids)/\(st.setRow r c).ids.Nodup:=by
 have W:∀i,i∈(st.setRow r c).ids↔i∈st.ids:=by
  intro i
  simp only[af.ids,af.setRow,List.map_cons,List.mem_append,List.mem_cons,List.mem_map]
  constructor
  ·rintro(h|h|⟨⟨b,s⟩,o,rfl⟩)
   ·exact .inl h
   ·exact .inr ⟨(r,O),R,h.symm⟩
   ·exact .inr ⟨_,(cW.1 o).1,rfl⟩
  ·rintro(h|⟨⟨b,s⟩,o,rfl⟩)
   ·exact .inl h
   ·by_cases e:b=r
    ·exact .inr (.inl e)
    ·exact .inr (.inr ⟨(b,s),cW.2 ⟨o,e⟩,rfl⟩)
 refine⟨W,?_⟩
 have o:(st.setRow r c).ids.Perm (r::(st.ad.map (·.1)++(del st.rw r).map (·.1))):=by
  show(st.ad.map (·.1)++r::(del st.rw r).map (·.1)).Perm _
  exact List.perm_middle
 refine o.nodup_iff.2 (List.nodup_cons.2 ⟨fun q=>?_,?_⟩)
 ·rcases List.mem_append.1 q with q|q
  ·exact(List.nodup_append.1 U).2.2 r q r (List.mem_map.2 ⟨_,R,rfl⟩) rfl
  ·obtain⟨⟨b,s⟩,o,e⟩:=List.mem_map.1 q
   exact(cW.1 o).2 e
 ·rw[mm]
  exact U.sublist (List.Sublist.append (List.Sublist.refl _) List.filter_sublist)
structure Touch(m:Nat->Value)(w:World)(r:Nat)(w':World):Prop where
 same:Same w w'
 block:∀b,b<w.heap.size->¬own (m r) b->w'.heap[b]? =w.heap[b]?
theorem an.ia{r:Nat}(o:r∈st.ids)(q:Touch m w r w'){ids:List Nat}(O:∀i,i∈ids↔i∈st.ids):
  (∀b,b<w.heap.size->¬av cx m st.ids b->w'.heap[b]? =w.heap[b]?)/\(∀b,b<w.heap.size->av cx m ids b->av cx m st.ids b):=
 ⟨fun b R U=>q.block b R fun e=>U (.inr ⟨r,o,e⟩),fun _ _ h=>mM (fun i hi=>(O i).1 hi) h⟩
theorem an.B6(h:an cx m st T w){r:Nat}(O:r∈st.ids)(o:Touch m w r w'):Frame cx.w0 w' cx.X:=
 h.frame.step o.same fun b R U=>o.block b (Nat.lt_of_lt_of_le R h.frame.size) fun e=>by
  rcases(h.lt O e).2 with q|q
  ·omega
  ·exact U q
theorem an.KY(h:an cx m st T w){r:Nat}(O:r∈st.ids)(R:Touch m w r w'){j g:Nat}(o:j∈st.ids)(U:j≠r)(q:own (m j) g):w'.heap[g]? =w.heap[g]? :=
 R.block g (h.lt o q).1 fun e=>h.apart r j O o (fun e=>U e.symm) g e q
theorem an.GC(h:an cx m st T w){r:Nat}(q:r∈st.ids)(O:Touch m w r w'){ids:List Nat}(U:∀i,i∈ids↔i∈st.ids){b:Nat}{c:bQ}(R:(b,c)∈st.ad)(W:b≠r):
  ∃g,iK (m b) g c/\(∀o,own (m b) o->cx.w0.heap.size<=o\/cx.X o)/\ii w' (av cx m ids) m (m b) g c:=by
 obtain⟨aC,aA⟩:=an.ia (cx:=cx) q O U
 obtain⟨g,ae,X,Y⟩:=h.boxes b c R
 have Z:b∈st.ids:=List.mem_append.2 (.inl (List.mem_map.2 ⟨_,R,rfl⟩))
 exact⟨g,ae,X,Dc (ix ae) (fun lb la=>h.KY q O Z W la) aC aA Y⟩
theorem an.IT(h:an cx m st T w){r:Nat}(q:r∈st.ids)(O:Touch m w r w'){ids:List Nat}(W:∀i,i∈ids↔i∈st.ids){b:Nat}{c:cG}(R:(b,c)∈st.rw)(X:b≠r):
  ∃cells,w'.ownsRow 0 c.e c.t.cells (m b) c.xs.length cells/\(∀g,own (m b) g->cx.w0.heap.size<=g\/cx.X g)/\bL (aJ w' (av cx m ids) c.t) cells c.xs:=by
 obtain⟨aC,aA⟩:=an.ia (cx:=cx) q O W
 obtain⟨cells,ae,Y,Z⟩:=h.rows b c R
 have la:b∈st.ids:=List.mem_append.2 (.inr (List.mem_map.2 ⟨_,R,rfl⟩))
 refine⟨cells,⟨ae.1,?_⟩,Y,dy (fun _ _=>cI aC aA c.t) Z⟩
 rcases ae.2 with o|⟨g,cap,cur,U,lb,o,rest⟩
 ·exact .inl o
 ·have lc:own (m b) g:=by rw[U];exact gQ rfl
  exact .inr ⟨g,cap,cur,U,lb,by rw[h.KY q O la X lc];exact o,rest⟩
theorem an.IM(h:an cx m st T w){r:Nat}(o:r∈st.ids)(q:Touch m w r w'){ids:List Nat}(O:∀i,i∈ids↔i∈st.ids):
  ∀i aU,(i,aU)∈st.ab->∃v,T[i]? =some v/\aT w' (av cx m ids) m v aU:=fun i aU hi=>by
 obtain⟨aC,aA⟩:=an.ia (cx:=cx) o q O
 obtain⟨v,R,U⟩:=h.cT i aU hi
 exact⟨v,R,fE aC aA U⟩
theorem an.dd(h:an cx m st T w){r:Nat}{W c:bQ}(q:(r,W)∈st.ad)(R:Touch m w r w'){g:Nat}
  (la:iK (m r) g c)(lb:ii w' (av cx m (st.dd r c).ids) m (m r) g c)(X:c.one=true->W.one=true:=by first|exact id|exact fun _=>rfl):an cx m (st.dd r c) T w':=by
 obtain⟨O,lc⟩:=ko q h.keys c
 have U:r∈st.ids:=List.mem_append.2 (.inl (List.mem_map.2 ⟨_,q,rfl⟩))
 refine{size:=h.size,frame:=h.B6 U R,outer:=h.outer,cT:=h.IM U R O,boxes:=?_,rows:=?_,apart:=?_,keys:=lc,fixed:=?_,kept:=h.kept}
 ·intro b c' o
  rcases List.mem_cons.1 o with o|o
  ·cases o
   obtain⟨lg,ae,ld,_⟩:=h.boxes r W q
   exact⟨g,la,ld,lb⟩
  ·obtain⟨X,le⟩:=cW.1 o
   exact h.GC U R O X le
 ·intro b c' o
  refine h.IT U R O o ?_
  rintro rfl
  exact(List.nodup_append.1 h.keys).2.2 b (List.mem_map.2 ⟨_,q,rfl⟩) b (List.mem_map.2 ⟨_,o,rfl⟩) rfl
 ·exact fun i j hi lf=>h.apart i j ((O i).1 hi) ((O j).1 lf)
 ·intro b c' o Y Z
  rcases List.mem_cons.1 o with o|o
  ·cases o;exact h.fixed _ _ q (X Y) Z
  ·exact h.fixed _ _ (cW.1 o).1 Y Z
theorem an.XD(h:an cx m st T w){r:Nat}{R c:cG}(U:(r,R)∈st.rw):∀b c',(b,c')∈(st.setRow r c).rw->cx.n<=b->eG<=b->m b=cx.m0 b:=by
 intro b c' o q O
 rcases List.mem_cons.1 o with o|o
 ·cases o;exact h.kept _ _ U q O
 ·exact h.kept _ _ (cW.1 o).1 q O
theorem an.setRow(h:an cx m st T w){r:Nat}{W c:cG}(q:(r,W)∈st.rw)(R:Touch m w r w'){cells:List Value}
  (X:w'.ownsRow 0 c.e c.t.cells (m r) c.xs.length cells)(Y:bL (aJ w' (av cx m (st.setRow r c).ids) c.t) cells c.xs):an cx m (st.setRow r c) T w':=by
 obtain⟨O,Z⟩:=ou q h.keys c
 have U:r∈st.ids:=List.mem_append.2 (.inr (List.mem_map.2 ⟨_,q,rfl⟩))
 refine{size:=h.size,frame:=h.B6 U R,outer:=h.outer,cT:=h.IM U R O,boxes:=?_,rows:=?_,apart:=?_,keys:=Z,fixed:=h.fixed,kept:=h.XD q}
 ·intro b c' o
  refine h.GC U R O o ?_
  rintro rfl
  exact(List.nodup_append.1 h.keys).2.2 b (List.mem_map.2 ⟨_,o,rfl⟩) b (List.mem_map.2 ⟨_,q,rfl⟩) rfl
 ·intro b c' o
  rcases List.mem_cons.1 o with o|o
  ·cases o
   obtain⟨_,_,la,_⟩:=h.rows r W q
   exact⟨cells,X,la,Y⟩
  ·obtain⟨lb,lc⟩:=cW.1 o
   exact h.IT U R O lb lc
 ·exact fun i j hi ld=>h.apart i j ((O i).1 hi) ((O j).1 ld)
theorem an.weaken(h:an cx m st T w){st':af}(Y:∀i aU,(i,aU)∈st'.ab->(i,aU)∈st.ab)(q:∀p,p∈st'.ad->p∈st.ad)(O:∀p,p∈st'.rw->p∈st.rw)(Z:st'.ids.Nodup):an cx m st' T w:=by
 have R:∀i,i∈st'.ids->i∈st.ids:=by
  intro i hi
  rcases List.mem_append.1 hi with hi|hi
  ·obtain⟨p,U,rfl⟩:=List.mem_map.1 hi;exact List.mem_append.2 (.inl (List.mem_map.2 ⟨p,q p U,rfl⟩))
  ·obtain⟨p,U,rfl⟩:=List.mem_map.1 hi;exact List.mem_append.2 (.inr (List.mem_map.2 ⟨p,O p U,rfl⟩))
 have aC:∀b,b<w.heap.size->¬av cx m st.ids b->w.heap[b]? =w.heap[b]? :=fun _ _ _=>rfl
 have aA:∀b,b<w.heap.size->av cx m st'.ids b->av cx m st.ids b:=fun _ _ h=>mM R h
 refine{size:=h.size,frame:=h.frame,outer:=h.outer,cT:=fun i aU hi=>?_,boxes:=fun b c o=>?_,rows:=fun b c o=>?_,apart:=fun i j hi la=>h.apart i j (R i hi) (R j la),keys:=Z,fixed:=fun b c o=>h.fixed b c (q _ o),kept:=fun b c o=>h.kept b c (O _ o)}
 ·obtain⟨v,lb,lc⟩:=h.cT i aU (Y i aU hi)
  exact⟨v,lb,fE aC aA lc⟩
 ·obtain⟨g,ae,W,X⟩:=h.boxes b c (q _ o)
  exact⟨g,ae,W,Dc (ix ae) (fun _ _=>rfl) aC aA X⟩
 ·obtain⟨cells,ae,W,X⟩:=h.rows b c (O _ o)
  exact⟨cells,ae,W,dy (fun _ _=>cI aC aA c.t) X⟩
def na{α:Type}(l:List (Nat×α)):List Nat->Option (List (Nat×α))
 |[]=>some []
 |k::o=>match look l k,na l o with
  |some v,some r=>some ((k,v)::r)
  |_,_=>none
theorem qS{α:Type}{l:List (Nat×α)}:∀{q:List Nat} {r:List (Nat×α)},na l q=some r->∀p,p∈r->p∈l
 |[],r,h,p,o=>by cases h;simp at o
 |k::q,r,h,p,o=>by
  unfold na at h
  split at h
  ·rename_i v U O R
   cases h
   rcases List.mem_cons.1 o with rfl|o
   ·exact bc O
   ·exact qS R p o
  ·cases h
theorem EN{α:Type}{l:List (Nat×α)}:∀{o:List Nat} {r:List (Nat×α)},na l o=some r->r.map (·.1)=o
 |[],r,h=>by cases h;rfl
 |k::o,r,h=>by
  unfold na at h
  split at h
  ·rename_i v O R q
   cases h
   simp[EN q]
  ·cases h
def nodupB:List Nat->Bool
 |[]=>true
 |k::o=>!(o.any (Nat.beq k))&&nodupB o
theorem iM:∀{l:List Nat},nodupB l=true->l.Nodup
 |[],_=>List.nodup_nil
 |k::q,h=>by
  simp only[nodupB,Bool.and_eq_true,Bool.not_eq_true']at h
  refine List.nodup_cons.2 ⟨fun o=>?_,iM h.2⟩
  have:=List.any_eq_false.1 h.1 k o
  rw[Nat.beq_refl]at this
  exact this rfl
def af.norm(st:af)(o bs au:List Nat):Option af:=
 match na st.ab o,na st.ad bs,na st.rw au,nodupB (bs++au)with
 |some a,some b,some c,true=>some ⟨a,b,c⟩
 |_,_,_,_=>none
theorem an.norm(h:an cx m st T w){U bs au:List Nat}{st':af}(o:st.norm U bs au=some st'):an cx m st' T w:=by
 unfold af.norm at o
 split at o
 ·rename_i a b c W O R X
  cases o
  refine h.weaken (fun i aU hi=>qS W _ hi) (fun p q=>qS O p q) (fun p q=>qS R p q) ?_
  show(b.map (·.1)++c.map (·.1)).Nodup
  rw[EN O,EN R]
  exact iM X
 ·cases o
theorem an.zY(h:an cx m st T w){r:Nat}{c:cG}(O:(r,c)∈st.rw){M:Nat->Prop}(R:∀b,b<w.heap.size->M b->av cx m st.ids b)(U:∀g,own (m r) g->¬M g):
  aJ w M (.ab c.t) [m r] c.xs:=by
 obtain⟨cells,ae,lb,W⟩:=h.rows r c O
 rcases ae.2 with ⟨o,X⟩|⟨g,cap,cur,o,_,lc,Y,Z,ld,le⟩
 ·have la:c.xs=[]:=List.eq_nil_of_length_eq_zero X
  rw[la,o]
  refine⟨none,0,[],rfl,Nat.le_refl _,by decide,fun _=>rfl,rfl,fun j u q=>by simp at q⟩
 ·refine⟨some ⟨g,0,none⟩,cap,cells,by rw[o],Y,Z,(fun e=>by cases e),dy (fun _ _=>cI (fun _ _ _=>rfl) R c.t) W,fun j u q=>⟨_,rfl,?_,U g (by rw[o];rfl)⟩⟩
  exact ae.cells (g:=g) (by rw[o];rfl) j u q
def bV.freeze(r:Nat)(c:cG):bV->bV
 |.r b=>bif Nat.beq b r then .v ⟨.ab c.t,c.xs⟩else .r b
 |s=>s
def ao.freeze(r:Nat)(c:cG):ao->ao
 |.row b=>bif Nat.beq b r then .val (.ab c.t) c.xs else .row b
 |.gu l=>.gu (l.map (bV.freeze r c))
 |.eZ l=>.eZ (l.map (bV.freeze r c))
 |s=>s
theorem qC{w:World}{M:Nat->Prop}{m:Nat->Value}{r:Nat}{c:cG}(o:aJ w M (.ab c.t) [m r] c.xs):∀{vs:List Value} {l:List bV},de w M m vs l->de w M m vs (l.map (bV.freeze r c))
 |[],[],_=>trivial
 |[],_::_,h=>h.elim
 |_::_,[],h=>h.elim
 |_::_,.v _::_,⟨q,O⟩=>⟨q,qC o O⟩
 |_::vs,.a::l,h=>qC (vs:=vs) (l:=l) o h
 |v::_,.r b::_,⟨q,O⟩=>by
  show de _ _ _ _ ((bif Nat.beq b r then .v ⟨.ab c.t,c.xs⟩else .r b)::_)
  cases R:Nat.beq b r with
  |false=>exact⟨q,qC o O⟩
  |true=>
   have e:=Nat.eq_of_beq_eq_true R
   subst e
   subst q
   exact⟨o,qC o O⟩
def af.freeze(st:af)(r:Nat)(c:cG):af:=
 {ab:=st.ab.map fun p=>(p.1,p.2.freeze r c),ad:=st.ad.map fun p=>(p.1,p.2.map (ao.freeze r c)),rw:=del st.rw r}
theorem an.freeze(h:an cx m st T w){r:Nat}{c:cG}(Y:(r,c)∈st.rw):an cx m (st.freeze r c) T w:=by
 have W:∀i,i∈(st.freeze r c).ids->i∈st.ids/\i≠r:=by
  intro i hi
  have lj:∀c',(r,c')∉st.ad:=fun c' Z=>(List.nodup_append.1 h.keys).2.2 r (List.mem_map.2 ⟨_,Z,rfl⟩) r (List.mem_map.2 ⟨_,Y,rfl⟩) rfl
  rcases List.mem_append.1 hi with hi|hi
  ·obtain⟨⟨b,s⟩,o,rfl⟩:=List.mem_map.1 hi
   obtain⟨⟨lr,lk⟩,le,O⟩:=List.mem_map.1 o
   cases O
   exact⟨List.mem_append.2 (.inl (List.mem_map.2 ⟨_,le,rfl⟩)),fun e=>lj lk (by simp only at e;rw[<-e];exact le)⟩
  ·obtain⟨⟨b,s⟩,o,rfl⟩:=List.mem_map.1 hi
   obtain⟨R,q⟩:=cW.1 o
   exact⟨List.mem_append.2 (.inr (List.mem_map.2 ⟨_,R,rfl⟩)),q⟩
 have lf:r∈st.ids:=List.mem_append.2 (.inr (List.mem_map.2 ⟨_,Y,rfl⟩))
 have aC:∀b,b<w.heap.size->¬av cx m st.ids b->w.heap[b]? =w.heap[b]? :=fun _ _ _=>rfl
 have aA:∀b,b<w.heap.size->av cx m (st.freeze r c).ids b->av cx m st.ids b:=fun _ _ h=>mM (fun i hi=>(W i hi).1) h
 have la:aJ w (av cx m (st.freeze r c).ids) (.ab c.t) [m r] c.xs:=by
  refine h.zY Y aA fun g lg=>?_
  rintro(ll|⟨i,hi,lm⟩)
  ·have R:=h.outer g ll
   rcases(h.lt lf lg).2 with q|q
   ·omega
   ·exact R.2 q
  ·obtain⟨R,q⟩:=W i hi
   exact h.apart i r R lf q g lm lg
 have lh:∀v s,aT w (av cx m st.ids) m v s->aT w (av cx m (st.freeze r c).ids) m v (s.freeze r c):=by
  intro v s li
  have X:=fE (w':=w) (m:=m) aC aA li
  cases s with
  |row b=>
   show aT _ _ _ _ (bif Nat.beq b r then .val (.ab c.t) c.xs else .row b)
   cases Z:Nat.beq b r with
   |false=>exact X
   |true=>
    have e:=Nat.eq_of_beq_eq_true Z
    subst e
    have:v=m b:=li
    subst this
    exact la
  |gu l=>obtain⟨vs,e,lb⟩:=X;exact⟨vs,e,qC la lb⟩
  |eZ l=>obtain⟨vs,e,lb⟩:=X;exact⟨vs,e,qC la lb⟩
  |_=>exact X
 have ln:(st.freeze r c).ids.Sublist st.ids:=by
  have ae:(st.freeze r c).ad.map (·.1)=st.ad.map (·.1):=by simp[af.freeze,List.map_map,Function.comp_def]
  show((st.freeze r c).ad.map (·.1)++(del st.rw r).map (·.1)).Sublist (st.ad.map (·.1)++st.rw.map (·.1))
  rw[ae,mm]
  exact List.Sublist.append (List.Sublist.refl _) List.filter_sublist
 refine{size:=h.size,frame:=h.frame,outer:=h.outer,cT:=fun i aU hi=>?_,boxes:=fun b c' U=>?_,rows:=fun b c' U=>?_,apart:=fun i j hi lo=>h.apart i j (W i hi).1 (W j lo).1,keys:=h.keys.sublist ln,fixed:=?_,kept:=fun b c' U=>h.kept b c' (cW.1 U).1}
 ·obtain⟨⟨j,s⟩,o,O⟩:=List.mem_map.1 hi
  cases O
  obtain⟨v,R,q⟩:=h.cT j s o
  exact⟨v,R,lh v s q⟩
 ·obtain⟨⟨j,s⟩,o,O⟩:=List.mem_map.1 U
  cases O
  obtain⟨g,ae,lc,ld⟩:=h.boxes j s o
  exact⟨g,kQ.2 ae,lc,jS aC aA (ix ae) (fun _ _=>rfl) lh ld⟩
 ·obtain⟨o,_⟩:=cW.1 U
  obtain⟨cells,ae,lc,ld⟩:=h.rows b c' o
  exact⟨cells,ae,lc,dy (fun _ _=>cI aC aA c'.t) ld⟩
 ·intro b c' U lp lq
  obtain⟨⟨j,s⟩,o,O⟩:=List.mem_map.1 U
  cases O
  exact h.fixed _ _ o (mR.symm.trans lp) lq
/-! A map given up: it is only read from here on. -/
def bV.pI(r:Nat)(k v:ag)(ps:List (k.el×v.el)):bV->bV
 |.v u=>.v u
 |.r b=>bif Nat.beq b r then .v ⟨.map k v,some ps⟩else .r b
 |.a=>.a
def ao.pI(r:Nat)(k v:ag)(ps:List (k.el×v.el)):ao->ao
 |.iter b=>bif Nat.beq b r then .val (.map k v) (some ps)else .iter b
 |.row b=>bif Nat.beq b r then .val (.map k v) (some ps)else .row b
 |.gu l=>.gu (l.map (bV.pI r k v ps))
 |.eZ l=>.eZ (l.map (bV.pI r k v ps))
 |s=>bif s.refs r then .any else s
def af.fK(st:af)(r:Nat)(k v:ag)(ps:List (k.el×v.el)):af:=
 {ab:=st.ab.map fun p=>(p.1,p.2.pI r k v ps),ad:=(del st.ad r).map fun p=>(p.1,p.2.map (ao.pI r k v ps)),rw:=st.rw}
theorem qu{w:World}{M:Nat->Prop}{m:Nat->Value}{r:Nat}{k v:ag}{ps:List (k.el×v.el)}(o:aJ w M (.map k v) [m r] (some ps)):∀{vs:List Value} {l:List bV},de w M m vs l->de w M m vs (l.map (bV.pI r k v ps))
 |[],[],_=>trivial
 |[],_::_,h=>h.elim
 |_::_,[],h=>h.elim
 |_::_,.v u::_,⟨q,O⟩=>⟨q,qu o O⟩
 |_::vs,.a::l,h=>qu (vs:=vs) (l:=l) o h
 |x::_,.r b::_,⟨q,O⟩=>by
  show de w M m _ ((bif Nat.beq b r then bV.v ⟨.map k v,some ps⟩else bV.r b)::_)
  cases R:Nat.beq b r with
  |false=>exact⟨q,qu o O⟩
  |true=>
   have e:=Nat.eq_of_beq_eq_true R
   subst e
   refine⟨?_,qu o O⟩
   rw[q]
   exact o
theorem an.fK(h:an cx m st T w){r:Nat}{k v:ag}{ps:List (k.el×v.el)}(lc:(r,bQ.mp k v ps)∈st.ad):an cx m (st.fK r k v ps) T w:=by
 have Y:∀i,i∈(st.fK r k v ps).ids->i∈st.ids/\i≠r:=by
  intro i hi
  have lk:∀c',(r,c')∉st.rw:=fun c' ld=>(List.nodup_append.1 h.keys).2.2 r (List.mem_map.2 ⟨_,lc,rfl⟩) r (List.mem_map.2 ⟨_,ld,rfl⟩) rfl
  rcases List.mem_append.1 hi with hi|hi
  ·obtain⟨⟨b,s⟩,O,rfl⟩:=List.mem_map.1 hi
   obtain⟨⟨ly,lz⟩,ll,R⟩:=List.mem_map.1 O
   cases R
   obtain⟨W,X⟩:=cW.1 ll
   exact⟨List.mem_append.2 (.inl (List.mem_map.2 ⟨_,W,rfl⟩)),X⟩
  ·obtain⟨⟨b,s⟩,O,rfl⟩:=List.mem_map.1 hi
   exact⟨List.mem_append.2 (.inr (List.mem_map.2 ⟨_,O,rfl⟩)),fun e=>lk s (by simp only at e;rw[<-e];exact O)⟩
 have lh:r∈st.ids:=List.mem_append.2 (.inl (List.mem_map.2 ⟨_,lc,rfl⟩))
 have aC:∀b,b<w.heap.size->¬av cx m st.ids b->w.heap[b]? =w.heap[b]? :=fun _ _ _=>rfl
 have aA:∀b,b<w.heap.size->av cx m (st.fK r k v ps).ids b->av cx m st.ids b:=fun _ _ h=>mM (fun i hi=>(Y i hi).1) h
 obtain⟨g0,ae,Z,es,lm,W,X,ln,lo⟩:=h.box lc
 have li:own (m r) g0:=by rw[ae];exact gQ rfl
 have la:aJ w (av cx m (st.fK r k v ps).ids) (.map k v) [m r] (some ps):=by
  refine⟨g0,es,lm,by rw[ae];rfl,W,?_,X,ln,ic (fun _ _ h=>dt aC aA h) (fun _ _ h=>dt aC aA h) lo⟩
  rintro(lp|⟨i,hi,lq⟩)
  ·have le:=h.outer g0 lp
   rcases(h.lt lh li).2 with lb|lb
   ·omega
   ·exact le.2 lb
  ·obtain⟨le,lb⟩:=Y i hi
   exact h.apart i r le lh lb g0 lq li
 have lj:∀v' s,aT w (av cx m st.ids) m v' s->aT w (av cx m (st.fK r k v ps).ids) m v' (s.pI r k v ps):=by
  intro v' s lr
  have o:=fE (w':=w) (m:=m) aC aA lr
  have q:∀s:ao,aT w (av cx m (st.fK r k v ps).ids) m v' s->aT w (av cx m (st.fK r k v ps).ids) m v' (bif s.refs r then .any else s):=by
   intro s ls
   cases s.refs r with
   |true=>trivial
   |false=>exact ls
  have ai:∀b,v'=m b->aT w (av cx m (st.fK r k v ps).ids) m v' (bif Nat.beq b r then .val (.map k v) (some ps)else .iter b)/\aT w (av cx m (st.fK r k v ps).ids) m v' (bif Nat.beq b r then .val (.map k v) (some ps)else .row b):=by
   intro b e
   cases ld:Nat.beq b r with
   |false=>exact⟨e,e⟩
   |true=>
    have lt:=Nat.eq_of_beq_eq_true ld
    subst lt
    subst e
    exact⟨la,la⟩
  cases s with
  |iter b=>exact(ai b o).1
  |row b=>exact(ai b o).2
  |gu l=>obtain⟨vs,e,lf⟩:=o;exact⟨vs,e,qu la lf⟩
  |eZ l=>obtain⟨vs,e,lf⟩:=o;exact⟨vs,e,qu la lf⟩
  |any=>exact q _ o
  |undef=>exact q _ o
  |val t x=>exact q _ o
  |dI l=>exact q _ o
  |ptr b aa=>exact q _ o
  |fp b=>exact q _ o
  |vptr t x=>exact q _ o
  |dU a b c d=>exact q _ o
  |clos f bs=>exact q _ o
  |dW b p=>exact q _ o
  |osl b=>exact q _ o
  |fT b i=>exact q _ o
  |sub b i=>exact q _ o
  |ca f b=>exact q _ o
  |dT b i aa s=>exact q _ o
  |fq b i j aa s=>exact q _ o
  |ai n=>exact q _ o
 have lu:(st.fK r k v ps).ids.Sublist st.ids:=by
  have ae:(st.fK r k v ps).ad.map (·.1)=(del st.ad r).map (·.1):=by simp[af.fK,List.map_map,Function.comp_def]
  show((st.fK r k v ps).ad.map (·.1)++st.rw.map (·.1)).Sublist (st.ad.map (·.1)++st.rw.map (·.1))
  rw[ae,mm]
  exact List.Sublist.append List.filter_sublist (List.Sublist.refl _)
 refine{size:=h.size,frame:=h.frame,outer:=h.outer,cT:=fun i aU hi=>?_,boxes:=fun b c' U=>?_,rows:=fun b c' U=>?_,apart:=fun i j hi lv=>h.apart i j (Y i hi).1 (Y j lv).1,keys:=h.keys.sublist lu,fixed:=?_,kept:=fun b c' U=>h.kept b c' U}
 ·obtain⟨⟨j,s⟩,O,R⟩:=List.mem_map.1 hi
  cases R
  obtain⟨v,W,X⟩:=h.cT j s O
  exact⟨v,W,lj v s X⟩
 ·obtain⟨⟨j,s⟩,O,R⟩:=List.mem_map.1 U
  cases R
  obtain⟨g,ae,Z,lg⟩:=h.boxes j s (cW.1 O).1
  exact⟨g,kQ.2 ae,Z,jS aC aA (ix ae) (fun _ _=>rfl) lj lg⟩
 ·obtain⟨cells,ae,Z,lg⟩:=h.rows b c' U
  exact⟨cells,ae,Z,dy (fun _ _=>cI aC aA c'.t) lg⟩
 ·intro b c' U lw lx
  obtain⟨⟨j,s⟩,O,R⟩:=List.mem_map.1 U
  cases R
  exact h.fixed _ _ (cW.1 O).1 (mR.symm.trans lw) lx
end Go.Ev
namespace Go.Ev
open Go Go.RowKit
variable [b8]
theorem al.dj{v:al}{u:ag}{x:u.el}(h:v.as u=some x):v=⟨u,x⟩:=by
 unfold al.as at h
 split at h
 ·rename_i o
  obtain⟨t,y⟩:=v
  have e:t=u:=ag.eq_of_beq o
  subst e
  simp only[Option.some.injEq]at h
  subst h
  rfl
 ·cases h
def fieldsOf(f:TypeId->Option ag):Nat->List Field->Option ag
 |_,[]=>some .unit
 |off,o::ap=>
  bif Nat.beq o.offset off then
   match f o.type with
   |some a=>match fieldsOf f (off+a.cells) ap with
    |some b=>some (.pair a b)
    |none=>none
   |none=>none
  else none
def isNamed:TypeDesc->Bool
 |.named _ _=>true
 |_=>false
def cN(P:Program):Nat->TypeId->Option ag
 |0,_=>none
 |d+1,t=>
  match P.info? t,P.underlying t with
  |some i,some (.int k)=>bif Nat.beq i.size 1 then some (.int k)else none
  |some i,some .bool=>bif Nat.beq i.size 1 then some .bool else none
  |some i,some .string=>bif Nat.beq i.size 1 then some .str else none
  |some i,some (.slice e)=>bif Nat.beq i.size 1 then(match cN P d e with|some u=>some (.ab u)|none=>none)else none
  |some i,some (.struct ap)=>match fieldsOf (cN P d) 0 ap.toList with
   |some u=>bif Nat.beq i.size u.cells then some u else none
   |none=>none
  |some i,some (.interface _)=>bif Nat.beq i.size 1 then some .err else none
  |some i,some (.array n e)=>match cN P d e with
   |some u=>bif Nat.beq i.size (n*u.cells)then some (.arr n u)else none
   |none=>none
  |some i,some (.map k e)=>bif Nat.beq i.size 1 then(match cN P d k,cN P d e with
   |some a,some b=>some (.map a b)
   |_,_=>none)else none
  |some i,some (.func _ au _)=>bif Nat.beq i.size 1 then(bif isNamed i.desc&&!Nat.beq au.size 0 then some .cE else some .ck)else none
  |some i,some (.pointer _)=>bif Nat.beq i.size 1 then some .ck else none
  |_,_=>none
def jA:Nat:=12
def ty(P:Program)(t:TypeId):Option ag:=cN P jA t
theorem KA{f:TypeId->Option ag}{off:Nat}{ap:List Field}{u:ag}(h:fieldsOf f off ap=some u):u.agg=true:=by
 cases ap with
 |nil=>simp only[fieldsOf,Option.some.injEq]at h;subst h;rfl
 |cons q ap=>
  unfold fieldsOf at h
  cases o:Nat.beq q.offset off with
  |false=>rw[o]at h;cases h
  |true=>
   rw[o,cond_true]at h
   split at h
   ·split at h
    ·cases h;rfl
    ·cases h
   ·cases h
theorem OF{f:TypeId->Option ag}{off:Nat}{ap:List Field}{u:ag}(h:fieldsOf f off ap=some u):u=.unit\/∃a b,u=.pair a b:=by
 cases ap with
 |nil=>simp only[fieldsOf,Option.some.injEq]at h;exact .inl h.symm
 |cons q ap=>
  unfold fieldsOf at h
  cases o:Nat.beq q.offset off with
  |false=>rw[o]at h;cases h
  |true=>
   rw[o,cond_true]at h
   split at h
   ·split at h
    ·cases h;exact .inr ⟨_,_,rfl⟩
    ·cases h
   ·cases h
theorem dk{P:Program}{d:Nat}{t:TypeId}{u:ag}(h:cN P d t=some u):∃i,P.info? t=some i/\i.size=u.cells/\
  (match u with
   |.ptr _=>False
   |.fn _ _=>False
   |.cB _ _=>False
   |.alt _ _ _=>False
   |.err=>∃R,P.underlying t=some (.interface R)
   |.ck=>(∃a b c,P.underlying t=some (.func a b c))\/∃e,P.underlying t=some (.pointer e)
   |.cE=>∃a b c,P.underlying t=some (.func a b c)
   |.int k=>P.underlying t=some (.int k)
   |.bool=>P.underlying t=some .bool
   |.str=>P.underlying t=some .string
   |.ab v=>∃e d',P.underlying t=some (.slice e)/\cN P d' e=some v
   |.arr n v=>∃e d',P.underlying t=some (.array n e)/\cN P d' e=some v
   |.map a b=>∃k e d',P.underlying t=some (.map k e)/\cN P d' k=some a/\cN P d' e=some b
   |_=>∃ap d',P.underlying t=some (.struct ap)/\fieldsOf (cN P d') 0 ap.toList=some u):=by
 cases d with
 |zero=>cases h
 |succ d=>
  unfold cN at h
  split at h
  ·rename_i i k hi q
   cases o:Nat.beq i.size 1<;>rw[o]at h<;>cases h
   exact⟨i,hi,Nat.eq_of_beq_eq_true o,q⟩
  ·rename_i i hi q
   cases o:Nat.beq i.size 1<;>rw[o]at h<;>cases h
   exact⟨i,hi,Nat.eq_of_beq_eq_true o,q⟩
  ·rename_i i hi q
   cases o:Nat.beq i.size 1<;>rw[o]at h<;>cases h
   exact⟨i,hi,Nat.eq_of_beq_eq_true o,q⟩
  ·rename_i i e hi q
   cases o:Nat.beq i.size 1<;>rw[o]at h
   ·cases h
   ·rw[cond_true]at h
    split at h
    ·rename_i v O;cases h;exact⟨i,hi,Nat.eq_of_beq_eq_true o,e,d,q,O⟩
    ·cases h
  ·rename_i i ap hi q
   split at h
   ·rename_i v O
    cases o:Nat.beq i.size v.cells<;>rw[o]at h<;>cases h
    have U:=OF O
    refine⟨i,hi,Nat.eq_of_beq_eq_true o,?_⟩
    rcases U with rfl|⟨a,b,rfl⟩<;>exact⟨ap,d,q,O⟩
   ·cases h
  ·rename_i i R hi q
   cases o:Nat.beq i.size 1<;>rw[o]at h<;>cases h
   exact⟨i,hi,Nat.eq_of_beq_eq_true o,R,q⟩
  ·rename_i i n e hi q
   split at h
   ·rename_i v O
    cases o:Nat.beq i.size (n*v.cells)<;>rw[o]at h<;>cases h
    exact⟨i,hi,Nat.eq_of_beq_eq_true o,e,d,q,O⟩
   ·cases h
  ·rename_i i k e hi q
   cases o:Nat.beq i.size 1<;>rw[o]at h
   ·cases h
   ·rw[cond_true]at h
    split at h
    ·rename_i a b U W;cases h;exact⟨i,hi,Nat.eq_of_beq_eq_true o,k,e,d,q,U,W⟩
    ·cases h
  ·rename_i i a b c hi q
   cases o:Nat.beq i.size 1<;>rw[o]at h
   ·cases h
   ·rw[cond_true]at h
    cases X:(isNamed i.desc&&!Nat.beq b.size 0)<;>rw[X]at h<;>cases h
    ·exact⟨i,hi,Nat.eq_of_beq_eq_true o,.inl ⟨a,b,c,q⟩⟩
    ·exact⟨i,hi,Nat.eq_of_beq_eq_true o,a,b,c,q⟩
  ·rename_i i e hi q
   cases o:Nat.beq i.size 1<;>rw[o]at h<;>cases h
   exact⟨i,hi,Nat.eq_of_beq_eq_true o,.inr ⟨e,q⟩⟩
  ·cases h
theorem k2{P:Program}{d:Nat}{t:TypeId}{u:ag}(h:cN P d t=some u)(w:World):(isAgg t).run P w=.ok u.agg w:=by
 obtain⟨i,_,_,q⟩:=dk h
 unfold isAgg
 cases u with
 |int k=>simp[run_underlying q,ag.agg]
 |bool=>simp[run_underlying q,ag.agg]
 |str=>simp[run_underlying q,ag.agg]
 |ab v=>obtain⟨e,d',o,_⟩:=q;simp[run_underlying o,ag.agg]
 |ptr v=>exact q.elim
 |fn f v=>exact q.elim
 |err=>obtain⟨O,o⟩:=q;simp[run_underlying o,ag.agg]
 |ck=>rcases q with ⟨_,_,_,o⟩|⟨_,o⟩<;>simp[run_underlying o,ag.agg]
 |cE=>obtain⟨_,_,_,o⟩:=q;simp[run_underlying o,ag.agg]
 |cB n v=>exact q.elim
 |alt n v r=>exact q.elim
 |arr n v=>obtain⟨e,d',o,_⟩:=q;simp[run_underlying o,ag.agg]
 |map a b=>obtain⟨k,e,d',o,_⟩:=q;simp[run_underlying o,ag.agg]
 |unit=>obtain⟨ap,d',o,_⟩:=q;simp[run_underlying o,ag.agg]
 |pair a b=>obtain⟨ap,d',o,_⟩:=q;simp[run_underlying o,ag.agg]
theorem fa{P:Program}{d:Nat}{t:TypeId}{u:ag}(h:cN P d t=some u)(w:World):(sizeOf t).run P w=.ok u.cells w:=by
 obtain⟨i,hi,o,_⟩:=dk h
 simp[sizeOf,typeInfo,hi,o]
theorem mF{w:World}{M:Nat->Prop}{t:ag}:∀{xs:List t.el} {cs:List Value} {i:Nat} {x:t.el},bL (aJ w M t) cs xs->xs[i]? =some x->
  ∃c1 c2 c3,cs=c1++c2++c3/\c1.length=i*t.cells/\aJ w M t c2 x
 |[],_,_,_,_,h=>by simp at h
 |y::O,cs,0,x,⟨c1,c2,e,o,q⟩,h=>by
  simp at h
  subst h
  exact⟨[],c1,c2,by simpa using e,by simp,o⟩
 |y::O,cs,i+1,x,⟨c1,c2,e,o,q⟩,h=>by
  obtain⟨d1,d2,d3,ai,R,U⟩:=mF q (by simpa using h)
  refine⟨c1++d1,d2,d3,by rw[e,ai];simp,?_,U⟩
  rw[List.length_append,cf t o,R,Nat.succ_mul,Nat.add_comm]
theorem sk{w:World}{M:Nat->Prop}{t:ag}:∀{xs:List t.el} {cs:List Value} {i:Nat} {x:t.el},bL (aJ w M t) cs xs->xs[i]? =some x->
  ∃c1 c2 c3,cs=c1++c2++c3/\c1.length=i*t.cells/\aJ w M t c2 x/\∀o x',aJ w M t o x'->bL (aJ w M t) (c1++o++c3) (xs.set i x')
 |[],_,_,_,_,h=>by simp at h
 |y::R,cs,0,x,⟨c1,c2,e,q,O⟩,h=>by
  simp at h
  subst h
  exact⟨[],c1,c2,by simpa using e,by simp,q,fun o x' h'=>⟨o,c2,by simp,h',O⟩⟩
 |y::R,cs,i+1,x,⟨c1,c2,e,q,O⟩,h=>by
  obtain⟨d1,d2,d3,ai,U,W,X⟩:=sk O (by simpa using h)
  refine⟨c1++d1,d2,d3,by rw[e,ai];simp,?_,W,fun o x' h'=>⟨c1,d1++o++d3,by simp,q,X o x' h'⟩⟩
  rw[List.length_append,cf t q,U,Nat.succ_mul,Nat.add_comm]
theorem cR{a b:Nat}(h:Nat.blt a b=true):a<b:=by
 have:a+1<=b:=by simpa[Nat.blt]using h
 omega
theorem Kb{a b:Nat}(h:Nat.blt a b=false):b<=a:=by
 rcases Nat.lt_or_ge a b with o|o
 ·have:Nat.blt a b=true:=by
   have:a+1<=b:=o
   simpa[Nat.blt]using this
  rw[this]at h;cases h
 ·exact o
theorem gP{t:ag}{x:t.el}{off:Nat}{u:ag}{y:u.el}(h:(bif Nat.beq off 0 then al.as ⟨t,x⟩ u else none)=some y):off=0/\(⟨t,x⟩:al)=⟨u,y⟩:=by
 cases o:Nat.beq off 0 with
 |false=>rw[o]at h;cases h
 |true=>rw[o]at h;exact⟨Nat.eq_of_beq_eq_true o,al.dj h⟩
theorem pQ{w:World}{M:Nat->Prop}:∀(t:ag) {cs:List Value} {x:t.el} {off:Nat} {u:ag} {y:u.el},aJ w M t cs x->cM t x off u=some y->
  ∃c1 c2 c3,cs=c1++c2++c3/\c1.length=off/\aJ w M u c2 y:=by
 intro t
 induction t with
 |int k=>intro cs x off u y o h;obtain⟨rfl,e⟩:=gP (t:=.int k) h;cases e;exact⟨[],cs,[],by simp,rfl,o⟩
 |bool=>intro cs x off u y o h;obtain⟨rfl,e⟩:=gP (t:=.bool) h;cases e;exact⟨[],cs,[],by simp,rfl,o⟩
 |str=>intro cs x off u y o h;obtain⟨rfl,e⟩:=gP (t:=.str) h;cases e;exact⟨[],cs,[],by simp,rfl,o⟩
 |ab t q=>intro cs x off u y o h;obtain⟨rfl,e⟩:=gP (t:=.ab t) h;cases e;exact⟨[],cs,[],by simp,rfl,o⟩
 |ptr t q=>intro cs x off u y o h;obtain⟨rfl,e⟩:=gP (t:=.ptr t) h;cases e;exact⟨[],cs,[],by simp,rfl,o⟩
 |fn f t q=>intro cs x off u y o h;obtain⟨rfl,e⟩:=gP (t:=.fn f t) h;cases e;exact⟨[],cs,[],by simp,rfl,o⟩
 |err=>intro cs x off u y o h;obtain⟨rfl,e⟩:=gP (t:=.err) h;cases e;exact⟨[],cs,[],by simp,rfl,o⟩
 |ck=>intro cs x off u y o h;obtain⟨rfl,e⟩:=gP (t:=.ck) h;cases e;exact⟨[],cs,[],by simp,rfl,o⟩
 |cE=>intro cs x off u y o h;obtain⟨rfl,e⟩:=gP (t:=.cE) h;cases e;exact⟨[],cs,[],by simp,rfl,o⟩
 |cB n t q=>intro cs x off u y o h;obtain⟨rfl,e⟩:=gP (t:=.cB n t) h;cases e;exact⟨[],cs,[],by simp,rfl,o⟩
 |alt n t r _ _=>intro cs x off u y o h;obtain⟨rfl,e⟩:=gP (t:=.alt n t r) h;cases e;exact⟨[],cs,[],by simp,rfl,o⟩
 |arr n t q=>
  intro cs x off u y o h
  unfold cM at h
  split at h
  ·rename_i Z R U
   cases h
   have e:=al.dj U
   cases e
   exact⟨[],cs,[],by simp,(Nat.eq_of_beq_eq_true R).symm,o⟩
  ·cases X:Nat.beq t.cells 0 with
   |true=>rw[X]at h;cases h
   |false=>
    rw[X,cond_false]at h
    split at h
    ·rename_i z la
     obtain⟨c1,c2,c3,rfl,O,W⟩:=mF o.2 la
     obtain⟨d1,d2,d3,rfl,ai,lb⟩:=q W h
     refine⟨c1++d1,d2,d3++c3,by simp,?_,lb⟩
     rw[List.length_append,O,ai,Nat.mul_comm]
     exact Nat.div_add_mod off t.cells
    ·cases h
 |map a b _ _=>intro cs x off u y o h;obtain⟨rfl,e⟩:=gP (t:=.map a b) h;cases e;exact⟨[],cs,[],by simp,rfl,o⟩
 |unit=>intro cs x off u y o h;obtain⟨rfl,e⟩:=gP (t:=.unit) h;cases e;exact⟨[],cs,[],by simp,rfl,o⟩
 |pair a b lc ld=>
  intro cs x off u y o h
  unfold cM at h
  split at h
  ·rename_i Z R U
   cases h
   have e:=al.dj U
   cases e
   exact⟨[],cs,[],by simp,(Nat.eq_of_beq_eq_true R).symm,o⟩
  ·obtain⟨c1,c2,rfl,Y,W⟩:=o
   cases O:Nat.blt off a.cells with
   |true=>
    rw[O,cond_true]at h
    obtain⟨d1,d2,d3,rfl,ai,o⟩:=lc Y h
    exact⟨d1,d2,d3++c2,by simp,ai,o⟩
   |false=>
    rw[O,cond_false]at h
    obtain⟨d1,d2,d3,rfl,ai,o⟩:=ld W h
    refine⟨c1++d1,d2,d3,by simp,?_,o⟩
    rw[List.length_append,cf a Y,ai]
    have:=Kb O
    omega
theorem eI{t:ag}{off:Nat}{v:al}{y:t.el}(h:(bif Nat.beq off 0 then v.as t else none)=some y):off=0/\v=⟨t,y⟩:=by
 cases o:Nat.beq off 0 with
 |false=>rw[o]at h;cases h
 |true=>rw[o]at h;exact⟨Nat.eq_of_beq_eq_true o,al.dj h⟩
theorem qx{w:World}{M:Nat->Prop}{v:al}{q:List Value}(lb:aJ w M v.t q v.x):∀(t:ag) {cs:List Value} {x:t.el} {off:Nat} {y:t.el},aJ w M t cs x->cm t x off v=some y->
  ∃c1 c2 c3,cs=c1++c2++c3/\c1.length=off/\c2.length=q.length/\aJ w M t (c1++q++c3) y:=by
 intro t
 have base:∀(t:ag) (cs:List Value) (x:t.el) (off:Nat) (y:t.el),aJ w M t cs x->(off=0/\v=⟨t,y⟩)->∃c1 c2 c3,cs=c1++c2++c3/\c1.length=off/\c2.length=q.length/\aJ w M t (c1++q++c3) y:=by
  rintro t cs x off y o ⟨rfl,e⟩
  subst e
  exact⟨[],cs,[],by simp,rfl,by rw[cf t o,cf t lb],by simpa using lb⟩
 induction t with
 |int k=>intro cs x off y o h;exact base (.int k) cs x off y o (eI (t:=.int k) h)
 |bool=>intro cs x off y o h;exact base .bool cs x off y o (eI (t:=.bool) h)
 |str=>intro cs x off y o h;exact base .str cs x off y o (eI (t:=.str) h)
 |ab t R=>intro cs x off y o h;exact base (.ab t) cs x off y o (eI (t:=.ab t) h)
 |ptr t R=>intro cs x off y o h;exact base (.ptr t) cs x off y o (eI (t:=.ptr t) h)
 |fn f t R=>intro cs x off y o h;exact base (.fn f t) cs x off y o (eI (t:=.fn f t) h)
 |err=>intro cs x off y o h;exact base .err cs x off y o (eI (t:=.err) h)
 |ck=>intro cs x off y o h;exact base .ck cs x off y o (eI (t:=.ck) h)
 |cE=>intro cs x off y o h;exact base .cE cs x off y o (eI (t:=.cE) h)
 |cB n t R=>intro cs x off y o h;exact base (.cB n t) cs x off y o (eI (t:=.cB n t) h)
 |alt n t r _ _=>intro cs x off y o h;exact base (.alt n t r) cs x off y o (eI (t:=.alt n t r) h)
 |arr n t R=>
  intro cs x off y o h
  unfold cm at h
  split at h
  ·rename_i Y Z O
   cases h
   exact base _ cs x off _ o ⟨Nat.eq_of_beq_eq_true Z,al.dj O⟩
  ·cases lc:Nat.beq t.cells 0 with
   |true=>rw[lc]at h;cases h
   |false=>
    rw[lc,cond_false]at h
    split at h
    ·rename_i z ld
     split at h
     ·rename_i lj le
      cases h
      obtain⟨c1,c2,c3,rfl,U,X,lf⟩:=sk o.2 ld
      obtain⟨d1,d2,d3,rfl,ai,W,lg⟩:=R X le
      refine⟨c1++d1,d2,d3++c3,by simp,?_,W,?_,?_⟩
      ·rw[List.length_append,U,ai,Nat.mul_comm]
       exact Nat.div_add_mod off t.cells
      ·rw[List.length_set];exact o.1
      ·have:=lf _ _ lg
       simpa using this
     ·cases h
    ·cases h
 |map a b _ _=>intro cs x off y o h;exact base (.map a b) cs x off y o (eI (t:=.map a b) h)
 |unit=>intro cs x off y o h;exact base .unit cs x off y o (eI (t:=.unit) h)
 |pair a b lh li=>
  intro cs x off y o h
  unfold cm at h
  split at h
  ·rename_i Y Z O
   cases h
   exact base _ cs x off _ o ⟨Nat.eq_of_beq_eq_true Z,al.dj O⟩
  ·obtain⟨c1,c2,rfl,la,X⟩:=o
   cases U:Nat.blt off a.cells with
   |true=>
    rw[U,cond_true]at h
    split at h
    ·rename_i Y O
     cases h
     obtain⟨d1,d2,d3,rfl,ai,W,o⟩:=lh la O
     exact⟨d1,d2,d3++c2,by simp,ai,W,d1++q++d3,c2,by simp,o,X⟩
    ·cases h
   |false=>
    rw[U,cond_false]at h
    split at h
    ·rename_i Y O
     cases h
     obtain⟨d1,d2,d3,rfl,ai,W,o⟩:=li X O
     refine⟨c1++d1,d2,d3,by simp,?_,W,c1,d1++q++d3,by simp,la,o⟩
     rw[List.length_append,cf a la,ai]
     have:=Kb U
     omega
    ·cases h
def b9:(t:ag)->t.el
 |.int _=>(0:Int)
 |.bool=>false
 |.str=>[]
 |.ab _=>[]
 |.unit=>()
 |.pair a b=>(b9 a,b9 b)
 |.ptr t=>b9 t
 |.fn _ t=>b9 t
 |.err=>none
 |.ck=>()
 |.cE=>none
 |.cB _ t=>b9 t
 |.alt _ _ r=>.inr (b9 r)
 |.arr n t=>List.replicate n (b9 t)
 |.map _ _=>none
def yM(f:List Value->Option (List Value)):Nat->List Value->Option (List Value)
 |0,r=>some r
 |n+1,r=>match f r with
  |some o=>yM f n o
  |none=>none
def fD:ag->List Value->Option (List Value)
 |.int k,.int k' n::r=>bif gN k k'&&n==0 then some r else none
 |.bool,.bool b::r=>bif b then none else some r
 |.str,.string s::r=>bif s.data.isEmpty then some r else none
 |.ab _,.slice none n c::r=>bif Nat.beq n 0&&Nat.beq c 0 then some r else none
 |.unit,r=>some r
 |.err,.nilIface::r=>some r
 |.ck,v::r=>bif v.oneCell' then some r else none
 |.cE,.nilFunc::r=>some r
 |.map _ _,.map none::r=>some r
 |.arr n t,r=>yM (fD t) n r
 |.pair a b,r=>match fD a r with
  |some o=>fD b o
  |none=>none
 |_,_=>none
theorem F5{α:Type}{f:List Value->α->Prop}{z:List Value->Option (List Value)}{y:α}(h:∀{cs r:List Value},z cs=some r->∃c,cs=c++r/\f c y):∀(n:Nat) {cs r:List Value},yM z n cs=some r->∃c,cs=c++r/\bL f c (List.replicate n y)
 |0,cs,r,o=>by cases o;exact⟨[],rfl,rfl⟩
 |n+1,cs,r,o=>by
  unfold yM at o
  split at o
  ·rename_i U q
   obtain⟨c1,rfl,O⟩:=h q
   obtain⟨c2,rfl,R⟩:=F5 h n o
   exact⟨c1++c2,by simp,c1,c2,rfl,O,R⟩
  ·cases o
theorem LF{w:World}{M:Nat->Prop}:∀(t:ag) {cs r:List Value},fD t cs=some r->∃c,cs=c++r/\aJ w M t c (b9 t):=by
 intro t
 induction t with
 |int k=>
  intro cs r h
  unfold fD at h
  split at h<;>try contradiction
  ·rename_i lb k' n q ae;cases ae
   cases o:(gN k k'&&n==0)<;>rw[o]at h<;>cases h
   simp only[Bool.and_eq_true,beq_iff_eq]at o
   rw[<-nq o.1,o.2]
   exact⟨[_],rfl,rfl⟩
  all_goals (rename_i ae;cases ae)
 |bool=>
  intro cs r h
  unfold fD at h
  split at h<;>try contradiction
  ·rename_i b q _
   cases b<;>cases h
   exact⟨[_],rfl,rfl⟩
  all_goals (rename_i ae;cases ae)
 |str=>
  intro cs r h
  unfold fD at h
  split at h<;>try contradiction
  ·rename_i s q _
   cases o:s.data.isEmpty<;>rw[o]at h<;>cases h
   have:s=⟨#[]⟩:=by cases s;simp at o;rw[o]
   rw[this]
   exact⟨[_],rfl,rfl,by decide⟩
  all_goals (rename_i ae;cases ae)
 |ab t O=>
  intro cs r h
  unfold fD at h
  split at h<;>try contradiction
  ·rename_i n c q ae;cases ae
   cases o:(Nat.beq n 0&&Nat.beq c 0)<;>rw[o]at h<;>cases h
   simp only[Bool.and_eq_true]at o
   rw[Nat.eq_of_beq_eq_true o.1,Nat.eq_of_beq_eq_true o.2]
   exact⟨[_],rfl,none,0,[],rfl,Nat.le_refl _,by decide,fun _=>rfl,rfl,fun j u W=>by simp at W⟩
  all_goals (rename_i ae;cases ae)
 |unit=>intro cs r h;cases h;exact⟨[],rfl,rfl⟩
 |ptr t O=>intro cs r h;simp[fD]at h
 |fn f t O=>intro cs r h;simp[fD]at h
 |cB f t O=>intro cs r h;simp[fD]at h
 |cE=>
  intro cs r h
  unfold fD at h
  split at h<;>try contradiction
  ·cases h;exact⟨[_],rfl,rfl⟩
  all_goals (rename_i ae;cases ae)
 |alt n t r _ _=>intro cs r h;simp[fD]at h
 |err=>
  intro cs r h
  unfold fD at h
  split at h<;>try contradiction
  ·cases h;exact⟨[_],rfl,.inl ⟨rfl,rfl⟩⟩
  all_goals (rename_i ae;cases ae)
 |ck=>
  intro cs r h
  unfold fD at h
  split at h<;>try contradiction
  ·rename_i v q _
   cases o:v.oneCell'<;>rw[o]at h<;>cases h
   exact⟨[_],rfl,_,rfl,o⟩
  all_goals (rename_i ae;cases ae)
 |map a b _ _=>
  intro cs r h
  unfold fD at h
  split at h<;>try contradiction
  ·cases h;exact⟨[_],rfl,rfl⟩
  all_goals (rename_i ae;cases ae)
 |arr n t O=>
  intro cs r h
  simp only[fD]at h
  obtain⟨c,R,U⟩:=F5 (f:=aJ w M t) (y:=b9 t) (fun X=>O X) n h
  exact⟨c,R,List.length_replicate,U⟩
 |pair a b Y Z=>
  intro cs r h
  simp only[fD]at h
  split at h
  ·rename_i q la
   obtain⟨c1,rfl,R⟩:=Y la
   obtain⟨c2,rfl,U⟩:=Z h
   exact⟨c1++c2,by simp,c1,c2,rfl,R,U⟩
  ·cases h
end Go.Ev
namespace Go.Ev
open Go Go.RowKit
variable [b8]
variable {P:Program} {w:World} {M:Nat->Prop} {v:Value}
theorem da{k:IntKind}{n:Int}:ba w M v (.int k) n↔v=.int k n:=by simp[ba,ag.agg,aJ]
theorem dF{b:Bool}:ba w M v .bool b↔v=.bool b:=by simp[ba,ag.agg,aJ]
theorem eO{s:List UInt8}:ba w M v .str s↔v=.string ⟨s.toArray⟩/\s.length<=maxLen:=by simp[ba,ag.agg,aJ]
theorem bA{t:ag}{x:t.el}(h:t.agg=false):ba w M v t x↔aJ w M t [v] x:=by simp[ba,h]
theorem eh{t:ag}{x:t.el}(h:t.agg=true):ba w M v t x↔∃cs:List Value,v=.agg cs.toArray/\aJ w M t cs x:=by simp[ba,h]
def bC:Nat:=2147483648
theorem yo:bC<=maxLen:=by decide
theorem iL(s:List UInt8):(bytesOf s).size=s.length:=by simp[bytesOf,ByteArray.size]
theorem FI(s:List UInt8):(bytesOf s).toList=s:=by rw[Lib.toList_data];rfl
theorem Hd(a b:List UInt8):bytesOf a++bytesOf b=bytesOf (a++b):=by
 apply ByteArray.ext
 simp[bytesOf]
def bP:List Prop->Prop
 |[]=>True
 |p::r=>p/\bP r
def DM(o:BinOp)(k:IntKind)(a b:Int):Option (al×List Prop):=
 match o with
 |.add=>some (⟨.int k,k.wrap (a+b)⟩,[])
 |.sub=>some (⟨.int k,k.wrap (a-b)⟩,[])
 |.mul=>some (⟨.int k,k.wrap (a*b)⟩,[])
 |.quo=>some (⟨.int k,k.wrap (a.tdiv b)⟩,[b≠0])
 |.rem=>some (⟨.int k,a.tmod b⟩,[b≠0])
 |.and=>some (⟨.int k,k.wrap (BitVec.ofInt k.bits a&&&BitVec.ofInt k.bits b).toNat⟩,[])
 |.or=>some (⟨.int k,k.wrap (BitVec.ofInt k.bits a|||BitVec.ofInt k.bits b).toNat⟩,[])
 |.xor=>some (⟨.int k,k.wrap (BitVec.ofInt k.bits a^^^BitVec.ofInt k.bits b).toNat⟩,[])
 |.andNot=>some (⟨.int k,k.wrap (BitVec.ofInt k.bits a&&&~~~BitVec.ofInt k.bits b).toNat⟩,[])
 |.eql=>some (⟨.bool,a==b⟩,[])
 |.neq=>some (⟨.bool,a !=b⟩,[])
 |.lss=>some (⟨.bool,decide (a<b)⟩,[])
 |.leq=>some (⟨.bool,decide (a<=b)⟩,[])
 |.gtr=>some (⟨.bool,decide (b<a)⟩,[])
 |.geq=>some (⟨.bool,decide (b<=a)⟩,[])
 |_=>none
def Fw(o:BinOp)(k:IntKind)(a b:Int):Option (al×List Prop):=
 match o with
 |.shl=>some (⟨.int k,k.wrap (a*2^min b.toNat k.bits)⟩,[0<=b])
 |.shr=>some (⟨.int k,a.fdiv (2^min b.toNat k.bits)⟩,[0<=b])
 |_=>none
def C5(o:BinOp)(a b:Bool):Option (al×List Prop):=
 match o with
 |.eql=>some (⟨.bool,a==b⟩,[])
 |.neq=>some (⟨.bool,!(a==b)⟩,[])
 |_=>none
def BC(o:BinOp)(a b:List UInt8):Option (al×List Prop):=
 match o with
 |.add=>some (⟨.str,a++b⟩,[a.length+b.length<=bC])
 |.eql=>some (⟨.bool,a==b⟩,[])
 |.neq=>some (⟨.bool,!(a==b)⟩,[])
 |.lss=>some (⟨.bool,Op.bytesLess a b⟩,[])
 |.leq=>some (⟨.bool,Op.bytesLess a b||a==b⟩,[])
 |.gtr=>some (⟨.bool,!(Op.bytesLess a b||a==b)⟩,[])
 |.geq=>some (⟨.bool,!(Op.bytesLess a b)⟩,[])
 |_=>none
def LI(a b:Int):Bool:=a==b
def Gk(a b:Bool):Bool:=a==b
def eqStr(a b:List UInt8):Bool:=a==b
def kT{α:Type}(f:α->α->Bool):List α->List α->Bool
 |[],[]=>true
 |x::xs,y::o=>f x y&&kT f xs o
 |_,_=>false
def aV:(t:ag)->t.el->t.el->Bool
 |.int _,a,b=>LI a b
 |.bool,a,b=>Gk a b
 |.str,a,b=>eqStr a b
 |.unit,_,_=>true
 |.pair s t,a,b=>aV s a.1 b.1&&aV t a.2 b.2
 |.arr _ t,a,b=>kT (aV t) a b
 |_,_,_=>false
def ed(P:Program):Nat->TypeId->Bool
 |0,_=>false
 |d+1,t=>match P.underlying t with
  |some (.int _)=>true
  |some .bool=>true
  |some .string=>true
  |some (.struct ap)=>!P.stoodInHeld t&&ap.toList.all fun f=>f.name != "_" &&ed P d f.type
  |some (.array _ e)=>ed P d e
  |_=>false
theorem sw{d:Nat}{t:TypeId}{u:ag}(q:cN P d t=some u){pre c post:List Value}{x:u.el}(O:aJ w M u c x)(U:World):
  ∃v,(part t (pre++c++post).toArray pre.length).run P U=.ok v U/\ba w M v u x:=by
 have R:=cf u O
 cases o:u.agg with
 |true=>
  refine⟨.agg c.toArray,?_,by rw[ba,if_pos o];exact⟨c,rfl,O⟩⟩
  unfold part
  rw[Sem.run_bind,k2 q,o]
  simp only[Result.andThen_ok,if_true,Sem.run_bind,fa q,Sem.run_pure]
  have e:(pre++c++post).toArray.extract pre.length (pre.length+u.cells)=c.toArray:=by
   rw[<-R]
   apply Array.ext'
   simp[List.extract_eq_take_drop]
  rw[e]
 |false=>
  have W:u.cells=1:=by cases u<;>first|rfl|(simp[ag.agg]at o)
  rw[W]at R
  match c,R with
  |[v],_=>
   refine⟨v,?_,by rw[ba,if_neg (by rw[o];decide)];exact O⟩
   unfold part
   rw[Sem.run_bind,k2 q,o]
   simp only[Result.andThen_ok,Bool.false_eq_true,if_false]
   have e:(pre++[v]++post).toArray[pre.length]? =some v:=by simp
   rw[e]
   rfl
theorem Ib{d O:Nat}(Y:∀(t:TypeId) (u:ag),cN P d t=some u->∀d',ed P d' t=true->d'<=O->∀(w w' o:World) (M M':Nat->Prop) (v v':Value) (x y:u.el),ba w M v u x->ba w' M' v' u y->(Op.equalIn O t v v').run P o=.ok (aV u x y) o):
  ∀(ap:List Field) (off:Nat) (u:ag),fieldsOf (cN P d) off ap=some u->∀d',d'<=O->(ap.all fun f=>f.name != "_" &&ed P d' f.type)=true->∀(w w' o:World) (M M':Nat->Prop) (pre q c c':List Value) (x y:u.el),pre.length=off->q.length=off->aJ w M u c x->aJ w' M' u c' y->
   (Op.eqFields O (pre++c).toArray (q++c').toArray ap).run P o=.ok (aV u x y) o
 |[],off,u,h,_,_,_,w,w',o,M,M',pre,q,c,c',x,y,_,_,_,_=>by
  simp only[fieldsOf,Option.some.injEq]at h
  subst h
  simp[Op.eqFields,aV]
 |f::ap,off,u,h,d',ai,R,w,w',o,M,M',pre,q,c,c',x,y,Z,la,lf,lg=>by
  unfold fieldsOf at h
  cases U:Nat.beq f.offset off with
  |false=>rw[U]at h;cases h
  |true=>
   have lh:=Nat.eq_of_beq_eq_true U
   rw[U,cond_true]at h
   split at h
   ·rename_i a W
    split at h
    ·rename_i b li
     cases h
     rw[List.all_cons,Bool.and_eq_true,Bool.and_eq_true]at R
     obtain⟨c1,c2,rfl,lb,cS⟩:=lf
     obtain⟨lj,lc,rfl,ld,pp⟩:=lg
     obtain⟨v,ae,lk⟩:=sw (P:=P) W (pre:=pre) (post:=c2) lb o
     obtain⟨v',X,ll⟩:=sw (P:=P) W (pre:=q) (post:=lc) ld o
     have lm:f.name≠ "_" :=by simpa using R.1.1
     rw[List.append_assoc]at ae X
     rw[Z]at ae
     rw[la]at X
     simp only[Op.eqFields,if_pos lm,lh,Sem.run_bind,ae,X,Result.andThen_ok,Y f.type a W d' R.1.2 ai w w' o M M' v v' x.1 y.1 lk ll]
     cases le:aV a x.1 y.1 with
     |false=>
      simp only[Bool.not_false,if_true,Sem.run_pure]
      simp[aV,le]
     |true=>
      simp only[Bool.not_true,Bool.false_eq_true,if_false]
      have:=Ib Y ap (off+a.cells) b li d' ai R.2 w w' o M M' (pre++c1) (q++lj) c2 lc x.2 y.2 (by rw[List.length_append,Z,cf a lb]) (by rw[List.length_append,la,cf a ld]) cS pp
      rw[List.append_assoc,List.append_assoc]at this
      rw[this]
      simp[aV,le]
    ·cases h
   ·cases h
theorem vU{P:Program}{d:Nat}{t:TypeId}{u:ag}(h:cN P d t=some u):P.cellsOf t=u.cells:=by
 obtain⟨i,hi,o,_⟩:=dk h
 simp[Program.cellsOf,hi,o]
theorem MC{d X:Nat}{e:TypeId}{u:ag}(U:cN P d e=some u)(Y:∀(w w' o:World) (M M':Nat->Prop) (v v':Value) (x y:u.el),ba w M v u x->ba w' M' v' u y->(Op.equalIn X e v v').run P o=.ok (aV u x y) o):
  ∀(xs O:List u.el) (n:Nat) (w w' o:World) (M M':Nat->Prop) (pre q c c':List Value),pre.length=n*u.cells->q.length=n*u.cells->xs.length=O.length->bL (aJ w M u) c xs->bL (aJ w' M' u) c' O->
   (Op.eqItems X e u.cells (pre++c).toArray (q++c').toArray (List.range' n xs.length)).run P o=.ok (kT (aV u) xs O) o
 |[],[],n,w,w',o,M,M',pre,q,c,c',_,_,_,_,_=>by simp[Op.eqItems,kT]
 |[],_::_,_,_,_,_,_,_,_,_,_,_,_,_,R,_,_=>by simp at R
 |_::_,[],_,_,_,_,_,_,_,_,_,_,_,_,R,_,_=>by simp at R
 |x::xs,y::O,n,w,w',o,M,M',pre,q,c,c',Z,la,R,lf,lg=>by
  obtain⟨c1,c2,rfl,lb,cS⟩:=lf
  obtain⟨lh,lc,rfl,ld,pp⟩:=lg
  obtain⟨v,ae,li⟩:=sw (P:=P) U (pre:=pre) (post:=c2) lb o
  obtain⟨v',W,lj⟩:=sw (P:=P) U (pre:=q) (post:=lc) ld o
  rw[List.append_assoc]at ae W
  rw[Z]at ae
  rw[la]at W
  rw[List.length_cons,List.range'_succ]
  simp only[Op.eqItems,Sem.run_bind,ae,W,Result.andThen_ok,Y w w' o M M' v v' x y li lj]
  cases le:aV u x y with
  |false=>simp[kT,le]
  |true=>
   simp only[Bool.not_true,Bool.false_eq_true,if_false]
   have:=MC U Y xs O (n+1) w w' o M M' (pre++c1) (q++lh) c2 lc (by rw[List.length_append,Z,cf u lb,Nat.succ_mul]) (by rw[List.length_append,la,cf u ld,Nat.succ_mul]) (by simpa using R) cS pp
   rw[List.append_assoc,List.append_assoc]at this
   rw[this]
   simp[kT,le]
theorem u9:∀(d:Nat) (t:TypeId) (u:ag),cN P d t=some u->∀d',ed P d' t=true->∀O,d'<=O->∀(w w' R:World) (M M':Nat->Prop) (v v':Value) (x y:u.el),ba w M v u x->ba w' M' v' u y->(Op.equalIn O t v v').run P R=.ok (aV u x y) R
 |0,_,_,h=>by cases h
 |d+1,t,u,h=>by
  intro d' q O ln w w' R M M' v v' x y X Y
  cases d' with
  |zero=>cases q
  |succ d'=>
   obtain⟨O,rfl⟩:∃k,O=k+1:=⟨O-1,by omega⟩
   unfold ed at q
   unfold cN at h
   split at h
   ·rename_i i k hi o
    cases U:Nat.beq i.size 1<;>rw[U]at h<;>cases h
    obtain rfl:=da.1 X
    obtain rfl:=da.1 Y
    exact run_equalIn_int R O t k k x y o
   ·rename_i i hi o
    cases U:Nat.beq i.size 1<;>rw[U]at h<;>cases h
    obtain rfl:=dF.1 X
    obtain rfl:=dF.1 Y
    exact run_equalIn_bool' R O t x y o
   ·rename_i i hi o
    cases U:Nat.beq i.size 1<;>rw[U]at h<;>cases h
    obtain⟨rfl,_⟩:=eO.1 X
    obtain⟨rfl,_⟩:=eO.1 Y
    rw[run_equalIn_string R O t _ _ o]
    have ae:=FI x
    have Z:=FI y
    unfold bytesOf at ae Z
    rw[ae,Z]
    rfl
   ·rename_i i e hi o
    rw[o]at q
    cases q
   ·rename_i i ap hi o
    rw[o]at q
    simp only[Bool.and_eq_true,Bool.not_eq_true']at q
    split at h
    ·rename_i v0 W
     cases U:Nat.beq i.size v0.cells<;>rw[U]at h<;>cases h
     have la:=KA W
     obtain⟨c,rfl,le⟩:=(eh la).1 X
     obtain⟨c',rfl,lf⟩:=(eh la).1 Y
     have lb:P.fieldsOf t=ap:=by unfold Program.fieldsOf;rw[o]
     rw[run_equalIn_struct R O t c.toArray c'.toArray (by rw[lb];exact o) q.1,lb]
     exact Ib (fun t u lg lh li ai=>u9 d t u lg lh li O ai) ap.toList 0 u W d' (by omega) q.2 w w' R M M' [] [] c c' x y rfl rfl le lf
    ·cases h
   ·rename_i i lo hi o
    rw[o]at q
    cases q
   ·rename_i i n e hi o
    rw[o]at q
    split at h
    ·rename_i v0 W
     cases U:Nat.beq i.size (n*v0.cells)<;>rw[U]at h<;>cases h
     obtain⟨c,rfl,lc,lj⟩:=(eh (t:=.arr n v0) rfl).1 X
     obtain⟨c',rfl,lk,ll⟩:=(eh (t:=.arr n v0) rfl).1 Y
     obtain⟨lp,lm,lq,_⟩:=dk W
     have ld:=MC W (fun w w' R M M' v v' x y=>u9 d e v0 W d' q O (by omega) w w' R M M' v v' x y) x y 0 w w' R M M' [] [] c c' (by simp) (by simp) (lc.trans lk.symm) lj ll
     rw[run_equalIn_array R O c.toArray c'.toArray o lm,vU W,List.range_eq_range']
     rw[lc]at ld
     exact ld
    ·cases h
   ·rename_i i k e hi o
    rw[o]at q
    cases q
   ·rename_i i a b c hi o
    rw[o]at q
    cases q
   ·rename_i i e hi o
    rw[o]at q
    cases q
   ·cases h
def zf:BinOp->Bool
 |.shl=>true
 |.shr=>true
 |_=>false
def bin(P:Program)(q:BinOp)(t:TypeId)(x y:al):Option (al×List Prop):=
 match x,y with
 |⟨.int k,a⟩,⟨.int k',b⟩=>bif zf q then Fw q k a b else bif gN k k' then DM q k a b else none
 |⟨.bool,a⟩,⟨.bool,b⟩=>match P.underlying t with
  |some .bool=>C5 q a b
  |_=>none
 |⟨.str,a⟩,⟨.str,b⟩=>BC q a b
 |⟨.pair o O,a⟩,y=>match y.as (.pair o O),ty P t with
  |some b,some u=>match u.beq (.pair o O)&&ed P 16 t&&!(P.eqGuardType P.depth t),q with
   |true,.eql=>some (⟨.bool,aV (.pair o O) a b⟩,[])
   |true,.neq=>some (⟨.bool,!(aV (.pair o O) a b)⟩,[])
   |_,_=>none
  |_,_=>none
 |⟨.arr R o,a⟩,y=>match y.as (.arr R o),ty P t with
  |some b,some u=>match u.beq (.arr R o)&&ed P 16 t&&!(P.eqGuardType P.depth t),q with
   |true,.eql=>some (⟨.bool,aV (.arr R o) a b⟩,[])
   |true,.neq=>some (⟨.bool,!(aV (.arr R o) a b)⟩,[])
   |_,_=>none
  |_,_=>none
 |_,_=>none
def gJ(P:Program)(s:Sem Value)(v:Value):Prop:=∀w,s.run P w=.ok v w
theorem yD{op:BinOp}{t:TypeId}{x y:Operand}{k k':IntKind}{a b:Int}(w:World):(eqGuard op t x y (.int k a) (.int k' b)).run P w=.ok () w:=by cases op<;>rfl
theorem wK{op:BinOp}{t:TypeId}{x y:Operand}{a b:Bool}(w:World):(eqGuard op t x y (.bool a) (.bool b)).run P w=.ok () w:=by cases op<;>rfl
theorem yZ{op:BinOp}{t:TypeId}{x y:Operand}{a b:ByteArray}(w:World):(eqGuard op t x y (.string a) (.string b)).run P w=.ok () w:=by cases op<;>rfl
theorem zc{op:BinOp}{t:TypeId}{k:IntKind}{a b:Int}(o:zf op=false):binOp op t (.int k a) (.int k b)=
  (match op with|.add|.sub|.mul=>Op.intArith op k a b|.quo|.rem=>Op.intDiv op k a b|.and|.or|.xor|.andNot=>Op.intBits op k a b|_=>Op.intCmp op a b):=by
 cases op<;>simp[binOp,zf]at o⊢
theorem TQ{op:BinOp}{k:IntKind}{a b:Int}{t:TypeId}{r:al}{ob:List Prop}(h:DM op k a b=some (r,ob))(o:bP ob):
  ∃v,gJ P (binOp op t (.int k a) (.int k b)) v/\∀w M,ba w M v r.t r.x:=by
 cases op<;>simp only[DM]at h<;>cases h
 case quo=>
  refine⟨_,fun w=>?_,fun _ _=>da.2 rfl⟩
  rw[zc rfl]
  show(if b=0 then _ else _:Sem Value).run P w=_
  rw[if_neg o.1]
  rfl
 case rem=>
  refine⟨_,fun w=>?_,fun _ _=>da.2 rfl⟩
  rw[zc rfl]
  show(if b=0 then _ else _:Sem Value).run P w=_
  rw[if_neg o.1]
  rfl
 all_goals first
  |exact⟨_,fun w=>by rw[zc rfl];rfl,fun _ _=>da.2 rfl⟩
  |exact⟨_,fun w=>by rw[zc rfl];rfl,fun _ _=>dF.2 rfl⟩
theorem VJ{op:BinOp}{k k':IntKind}{a b:Int}{t:TypeId}{r:al}{ob:List Prop}(h:Fw op k a b=some (r,ob))(o:bP ob):
  ∃v,gJ P (binOp op t (.int k a) (.int k' b)) v/\∀w M,ba w M v r.t r.x:=by
 cases op<;>simp only[Fw]at h<;>cases h
 all_goals
  have O:0<=b:=o.1
  have q:¬b<0:=by omega
  exact⟨_,fun w=>by simp[binOp,Op.shift,q],fun _ _=>da.2 rfl⟩
theorem Xt{t:TypeId}(o:P.underlying t=some .bool){a b:Bool}(d:Nat)(w:World):(Op.equalIn (d+1) t (.bool a) (.bool b)).run P w=.ok (a==b) w:=by
 simp[Op.equalIn,run_underlying o]
theorem We{op:BinOp}{a b:Bool}{t:TypeId}(o:P.underlying t=some .bool){r:al}{ob:List Prop}(h:C5 op a b=some (r,ob)):
  ∃v,gJ P (binOp op t (.bool a) (.bool b)) v/\∀w M,ba w M v r.t r.x:=by
 have e:∀w,(Op.equal t (.bool a) (.bool b)).run P w=.ok (a==b) w:=fun w=>by
  exact Xt o 9999 w
 cases op<;>simp only[C5]at h<;>cases h
 all_goals exact⟨_,fun w=>by simp[binOp,e],fun _ _=>dF.2 rfl⟩
theorem NQ{op:BinOp}{a b:List UInt8}{t:TypeId}{r:al}{ob:List Prop}(h:BC op a b=some (r,ob))(q:bP ob):
  ∃v,gJ P (binOp op t (.string (bytesOf a)) (.string (bytesOf b))) v/\∀w M,ba w M v r.t r.x:=by
 cases op<;>simp only[BC]at h<;>cases h
 case add=>
  have o:a.length+b.length<=maxLen:=Nat.le_trans q.1 yo
  have hi:¬(((bytesOf a).size+(bytesOf b).size:Nat):Int)>IntKind.i64.max:=by
   rw[iL,iL]
   have:IntKind.i64.max=9223372036854775807:=by decide
   rw[this]
   simp only[maxLen]at o
   omega
  refine⟨.string (bytesOf (a++b)),fun w=>?_,fun _ _=>eO.2 ⟨rfl,by rw[List.length_append];exact o⟩⟩
  simp only[binOp,Op.stringOp]
  rw[if_neg hi,Hd]
  rfl
 all_goals exact⟨_,fun w=>by simp[binOp,Op.stringOp,FI],fun _ _=>dF.2 rfl⟩
theorem Cc{op:BinOp}{t:TypeId}{x y:al}{R U:Value}{ox oy:Operand}{r:al}{ob:List Prop}(X:ba w M R x.t x.x)(Y:ba w M U y.t y.x)
  (h:bin P op t x y=some (r,ob))(le:bP ob):
  ∃v,gJ P (do eqGuard op t ox oy R U;binOp op t R U) v/\∀w M,ba w M v r.t r.x:=by
 have W:∀v,(∀w,(eqGuard op t ox oy R U).run P w=.ok () w)->gJ P (binOp op t R U) v->gJ P (do eqGuard op t ox oy R U;binOp op t R U) v:=by
  intro v lj lk w
  rw[Sem.run_bind,lj w]
  exact lk w
 unfold bin at h
 split at h
 ·rename_i k a k' b
  obtain rfl:=da.1 X
  obtain rfl:=da.1 Y
  cases li:zf op with
  |true=>
   rw[li,cond_true]at h
   obtain⟨v,Z,la⟩:=VJ (P:=P) (t:=t) (k':=k') h le
   exact⟨v,W v (fun _=>by first|exact yD _|exact wK _|exact yZ _) Z,la⟩
  |false=>
   rw[li,cond_false]at h
   cases lf:gN k k' with
   |false=>rw[lf]at h;cases h
   |true=>
    rw[lf,cond_true]at h
    obtain rfl:=nq lf
    obtain⟨v,Z,la⟩:=TQ (P:=P) (t:=t) h le
    exact⟨v,W v (fun _=>by first|exact yD _|exact wK _|exact yZ _) Z,la⟩
 ·rename_i a b
  obtain rfl:=dF.1 X
  obtain rfl:=dF.1 Y
  split at h
  ·rename_i ld
   obtain⟨v,Z,la⟩:=We ld h
   exact⟨v,W v (fun _=>by first|exact yD _|exact wK _|exact yZ _) Z,la⟩
  ·cases h
 ·rename_i a b
  obtain⟨rfl,_⟩:=eO.1 X
  obtain⟨rfl,_⟩:=eO.1 Y
  obtain⟨v,Z,la⟩:=NQ (P:=P) (t:=t) h le
  exact⟨v,W v (fun _=>by first|exact yD _|exact wK _|exact yZ _) Z,la⟩
 ·rename_i O lb a
  split at h
  ·rename_i b u lg ld
   have lh:=al.dj lg
   subst lh
   have e:∀o:World,(u.beq (.pair O lb)&&ed P 16 t&&!(P.eqGuardType P.depth t))=true->(Op.equalIn 10000 t R U).run P o=.ok (aV (.pair O lb) a b) o:=by
    intro o q
    simp only[Bool.and_eq_true]at q
    have:=ag.eq_of_beq q.1.1
    subst this
    exact u9 jA t _ ld 16 q.1.2 10000 (by decide) w w o M M R U a b X Y
   obtain⟨c,rfl,_⟩:=(eh (t:=.pair O lb) rfl).1 X
   obtain⟨c',rfl,_⟩:=(eh (t:=.pair O lb) rfl).1 Y
   split at h
   ·rename_i q
    cases h
    refine⟨.bool (aV (.pair O lb) a b),W _ (fun o=>?_) (fun o=>?_),fun _ _=>dF.2 rfl⟩
    ·simp only[Bool.and_eq_true,Bool.not_eq_true']at q
     exact run_eqGuard_agg o .eql t ox oy c.toArray c'.toArray q.2
    ·rw[run_eql_struct,e o q]
     rfl
   ·rename_i q
    cases h
    refine⟨.bool (!aV (.pair O lb) a b),W _ (fun o=>?_) (fun o=>?_),fun _ _=>dF.2 rfl⟩
    ·simp only[Bool.and_eq_true,Bool.not_eq_true']at q
     exact run_eqGuard_agg o .neq t ox oy c.toArray c'.toArray q.2
    ·rw[run_neq_struct,e o q]
     rfl
   ·cases h
  ·cases h
 ·rename_i lc O a
  split at h
  ·rename_i b u lg ld
   have lh:=al.dj lg
   subst lh
   have e:∀o:World,(u.beq (.arr lc O)&&ed P 16 t&&!(P.eqGuardType P.depth t))=true->(Op.equalIn 10000 t R U).run P o=.ok (aV (.arr lc O) a b) o:=by
    intro o q
    simp only[Bool.and_eq_true]at q
    have:=ag.eq_of_beq q.1.1
    subst this
    exact u9 jA t _ ld 16 q.1.2 10000 (by decide) w w o M M R U a b X Y
   obtain⟨c,rfl,_⟩:=(eh (t:=.arr lc O) rfl).1 X
   obtain⟨c',rfl,_⟩:=(eh (t:=.arr lc O) rfl).1 Y
   split at h
   ·rename_i q
    cases h
    refine⟨.bool (aV (.arr lc O) a b),W _ (fun o=>?_) (fun o=>?_),fun _ _=>dF.2 rfl⟩
    ·simp only[Bool.and_eq_true,Bool.not_eq_true']at q
     exact run_eqGuard_agg o .eql t ox oy c.toArray c'.toArray q.2
    ·rw[run_eql_struct,e o q]
     rfl
   ·rename_i q
    cases h
    refine⟨.bool (!aV (.arr lc O) a b),W _ (fun o=>?_) (fun o=>?_),fun _ _=>dF.2 rfl⟩
    ·simp only[Bool.and_eq_true,Bool.not_eq_true']at q
     exact run_eqGuard_agg o .neq t ox oy c.toArray c'.toArray q.2
    ·rw[run_neq_struct,e o q]
     rfl
   ·cases h
  ·cases h
 ·cases h
def Xo(k:IntKind)(n:Int):Int:=k.wrap (0-n)
def un(o:UnOp)(x:al):Option al:=
 match o,x with
 |.not,⟨.bool,b⟩=>some ⟨.bool,!b⟩
 |.neg,⟨.int k,n⟩=>some ⟨.int k,Xo k n⟩
 |_,_=>none
theorem Ov{op:UnOp}{x r:al}{o:Value}(q:ba w M o x.t x.x)(h:un op x=some r):∃v,gJ P (Op.unary op o) v/\∀w M,ba w M v r.t r.x:=by
 unfold un at h
 split at h
 ·obtain rfl:=dF.1 q
  cases h
  exact⟨_,fun w=>by simp[Op.unary],fun _ _=>dF.2 rfl⟩
 ·obtain rfl:=da.1 q
  cases h
  exact⟨_,fun w=>rfl,fun _ _=>da.2 rfl⟩
 ·cases h
def conv(P:Program)(src o:TypeId)(x:al):Option al:=
 match x,P.underlying src,P.underlying o with
 |⟨.int _,n⟩,some _,some (.int k)=>some ⟨.int k,k.wrap n⟩
 |⟨.int _,n⟩,some _,some .string=>some ⟨.str,(Utf8.encode n).data.toList⟩
 |⟨.str,s⟩,some .string,some .string=>some ⟨.str,s⟩
 |_,_,_=>none
theorem SA(n:Int):(Utf8.encode n).data.toList.length<=maxLen:=by
 have:(Utf8.encode n).data.toList.length<=4:=by
  unfold Utf8.encode
  dsimp only
  repeat' split
  all_goals simp
 exact Nat.le_trans this (by decide)
theorem Xd{src O:TypeId}{x r:al}{R:Value}(q:ba w M R x.t x.x)(h:conv P src O x=some r):∃v,gJ P (convert src O R) v/\∀w M,ba w M v r.t r.x:=by
 unfold conv at h
 split at h
 ·rename_i U n d k o ai
  obtain rfl:=da.1 q
  cases h
  exact⟨_,fun w=>by simp[convert,run_underlying o,run_underlying ai,Conv.intToInt],fun _ _=>da.2 rfl⟩
 ·rename_i U n d o ai
  obtain rfl:=da.1 q
  cases h
  refine⟨.string (Utf8.encode n),fun w=>?_,fun _ _=>eO.2 ⟨?_,SA n⟩⟩
  ·simp[convert,run_underlying o,run_underlying ai,Conv.intToString]
  ·congr 1
 ·rename_i s o ai
  obtain⟨rfl,W⟩:=eO.1 q
  cases h
  exact⟨_,fun w=>by simp[convert,run_underlying o,run_underlying ai],fun _ _=>eO.2 ⟨rfl,W⟩⟩
 ·cases h
end Go.Ev
namespace Go.Ev
open Go Go.RowKit
variable [b8]
def Me:Value->Option ao
 |.bool b=>some (.val .bool b)
 |.int k n=>some (.val (.int k) n)
 |.string s=>bif Nat.ble s.data.toList.length maxLen then some (.val .str s.data.toList)else none
 |.nilIface=>some (.val .err none)
 |.pointer none=>some .any
 |.nilFunc=>some .any
 |_=>none
def aS(st:af):Operand->Option ao
 |.tmp t=>look st.ab t
 |.const v=>Me v
 |.func f=>some (.clos f [])
 |.global _=>none
def dC(st:af)(x:Operand):Option al:=
 match aS st x with
 |some (.val t x)=>some ⟨t,x⟩
 |_=>none
variable {cx:bI} {m:Nat->Value} {st:af} {T:Array Value} {w w':World}
variable [ah cx]
theorem Kw{t:Nat}{v:Value}(h:T[t]? =some v):(Act.eval ⟨T,ah.D cx⟩ (.tmp t))=v:=by
 show T.getD t undef=v
 rw[Array.getD_eq_getD_getElem?,h]
 rfl
theorem bf(h:an cx m st T w){x:Operand}{s:ao}(o:aS st x=some s):aT w (av cx m st.ids) m (Act.eval ⟨T,ah.D cx⟩ x) s:=by
 cases x with
 |tmp t=>
  obtain⟨v,R,U⟩:=h.cT t s (bc o)
  rw[Kw R]
  exact U
 |const v=>
  cases v<;>simp only[aS,Me]at o
  case bool b=>cases o;exact dF.2 rfl
  case int k n=>cases o;exact da.2 rfl
  case pointer p=>cases p with
   |none=>cases o;exact trivial
   |some a=>cases o
  case nilFunc=>cases o;exact trivial
  case nilIface=>cases o;exact(bA (t:=.err) rfl).2 (.inl ⟨rfl,rfl⟩)
  case string O=>
   cases q:Nat.ble O.data.toList.length maxLen with
   |false=>rw[q]at o;cases o
   |true=>
    rw[q]at o
    cases o
    exact eO.2 ⟨by cases O;simp[Act.eval],Nat.le_of_ble_eq_true q⟩
  all_goals cases o
 |func f=>cases o;rfl
 |global g=>cases o
theorem di(h:an cx m st T w){x:Operand}{u:al}(o:dC st x=some u):ba w (av cx m st.ids) (Act.eval ⟨T,ah.D cx⟩ x) u.t u.x:=by
 unfold dC at o
 split at o
 ·rename_i t y q
  cases o
  exact bf h q
 ·cases o
def CJ(st:af)(x:Operand):Option al:=
 match aS st x with
 |some (.val t x)=>some ⟨t,x⟩
 |some (.clos f [])=>some ⟨.cE,some f⟩
 |_=>none
theorem Uy(h:an cx m st T w){x:Operand}{u:al}(o:CJ st x=some u):ba w (av cx m st.ids) (Act.eval ⟨T,ah.D cx⟩ x) u.t u.x:=by
 unfold CJ at o
 split at o
 ·rename_i t y q
  cases o
  exact bf h q
 ·rename_i f q
  cases o
  have O:Act.eval ⟨T,ah.D cx⟩ x=.func (.func f) #[] (([]:List Nat).map m).toArray:=bf h q
  exact(bA (t:=.cE) rfl).2 (congrArg (fun v=>[v]) O)
 ·cases o
def mZ(st:af):ao->ao
 |.row r=>match look st.rw r with
  |some c=>.val (.ab c.t) c.xs
  |none=>.row r
 |.iter b=>match look st.ad b with
  |some (.mp k v ps)=>.val (.map k v) (some ps)
  |_=>.iter b
 |s=>s
theorem Js(h:an cx m st T w){v:Value}{s:ao}(o:aT w (av cx m st.ids) m v s):aT w (fun _=>False) m v (mZ st s):=by
 have aC:∀b,b<w.heap.size->¬av cx m st.ids b->w.heap[b]? =w.heap[b]? :=fun _ _ _=>rfl
 have aA:∀b,b<w.heap.size->False->av cx m st.ids b:=fun _ _ h=>h.elim
 have q:=fE (M':=fun _=>False) aC aA o
 cases s with
 |row r=>
  simp only[mZ]
  split
  ·rename_i c O
   have e:v=m r:=o
   rw[e]
   exact(bA (t:=.ab c.t) rfl).2 (h.zY (bc O) (fun b _ R=>R.elim) fun g _ R=>R)
  ·exact q
 |iter b=>
  simp only[mZ]
  split
  ·rename_i k v' ps O
   have e:v=m b:=o
   obtain⟨g,ae,_,es,U,W,X,Y,Z⟩:=h.box (bc O)
   rw[e]
   exact(bA (t:=.map k v') rfl).2 ⟨g,es,U,by rw[ae];rfl,W,fun h=>h.elim,X,Y,ic (fun _ _ h=>dt aC aA h) (fun _ _ h=>dt aC aA h) Z⟩
  ·exact q
 |_=>exact q
def aB{α:Type}(xs:List α)(i:Int):Option α:=if 0<=i then xs[i.toNat]? else none
def ft(s:List UInt8)(i:Int):Option Int:=match aB s i with
 |some b=>some (b.toNat:Int)
 |none=>none
theorem jq{α:Type}{xs:List α}{i:Int}{x:α}(h:aB xs i=some x):0<=i/\i<xs.length/\xs[i.toNat]? =some x:=by
 unfold aB at h
 split at h
 ·rename_i hi
  have:=(List.getElem?_eq_some_iff.1 h).1
  exact⟨hi,by omega,h⟩
 ·cases h
def dz{α:Type}(s:List α)(o hi:Int):Option (List α):=if 0<=o/\o<=hi/\hi<=s.length then some ((s.take hi.toNat).drop o.toNat)else none
theorem yG{α:Type}{s r:List α}{o hi:Int}(h:dz s o hi=some r):0<=o/\o<=hi/\hi<=s.length/\r=(s.take hi.toNat).drop o.toNat:=by
 unfold dz at h
 split at h
 ·rename_i q;cases h;exact⟨q.1,q.2.1,q.2.2,rfl⟩
 ·cases h
def nE(P:Program)(w:World)(s:Sem Value)(v:Value):Prop:=∀w',Ext w w'->s.run P w'=.ok v w'
theorem gJ.steady{P:Program}{s:Sem Value}{v:Value}(h:gJ P s v):nE P w s v:=fun w' _=>h w'
def fl(xs:List Int):List UInt8:=xs.map fun n=>UInt8.ofNat n.toNat
def cz(xs:List Int):List UInt8:=(runesBytes xs).data.toList
def k1(s:List UInt8):Nat->Nat->List Int
 |0,_=>[]
 |n+1,i=>if i<s.length then((Utf8.decode (bytesOf s) i).1:Int)::k1 s n (i+(Utf8.decode (bytesOf s) i).2)else[]
def dS(s:List UInt8):List Int:=k1 s s.length 0
theorem yP{w:World}{M:Nat->Prop}{k:IntKind}:∀{xs:List Int} {cs:List Value},bL (aJ w M (.int k)) cs xs->cs=xs.map (Value.int k)
 |[],_,h=>h
 |x::xs,_,⟨c1,c2,e,o,q⟩=>by
  have o:c1=[.int k x]:=o
  rw[e,o,yP q]
  rfl
theorem foldl_push:∀(l:List Int) (r:ByteArray),l.foldl (fun r n=>r.push (UInt8.ofNat n.toNat)) r=⟨r.data++(fl l).toArray⟩
 |[],r=>by simp[fl]
 |b::l,r=>by
  simp only[List.foldl_cons]
  rw[foldl_push l]
  simp[ByteArray.push,fl]
theorem T9{P:Program}{src o e:TypeId}(W:P.underlying src=some (.slice e))(X:P.underlying e=some (.int .u8))(ai:P.underlying o=some .string){v:Value}{xs:List Int}(q:ba w (fun _=>False) v (.ab (.int .u8)) xs):
  nE P w (convert src o v) (.string (bytesOf (fl xs)))/\(fl xs).length<=maxLen:=by
 obtain⟨a,cap,cells,O,Y,Z,la,lb,lc⟩:∃(a:Option Addr) (cap:Nat) (cells:List Value),[v]=[.slice a (List.length (α:=Int) xs) cap]/\List.length (α:=Int) xs<=cap/\cap<=maxLen/\(a=none->cap=0)/\
  bL (aJ w (fun _=>False) (.int .u8)) cells xs/\∀j u,cells[j]? =some u->∃b,a=some b/\w.cell? (b.add j)=some u/\¬False:=(bA (t:=.ab (.int .u8)) rfl).1 q
 clear q
 simp only[List.cons.injEq,and_true]at O
 subst O
 have ld:=yP lb
 subst ld
 refine⟨fun w' le=>?_,by unfold fl;rw[List.length_map];exact Nat.le_trans Y Z⟩
 rw[run_convert_bytes_string w' src o e a _ _ W X ai]
 cases a with
 |none=>
  have lj:=la rfl
  have lf:xs=[]:=List.eq_nil_of_length_eq_zero (by omega)
  subst lf
  rfl
 |some b=>
  have R:=run_loadCells_list (P:=P) w' b (xs.map (Value.int .u8)) (fun j u lg=>by
   obtain⟨lk,lh,U,_⟩:=lc j u lg
   cases lh
   rw[World.cell?_of_block (w:=w) (le.block _ (World.block_lt_of_cell? w _ U))]
   exact U)
  rw[List.length_map]at R
  rw[run_bytesToString w' b xs.length cap xs R,foldl_push]
  have li:ByteArray.empty.data=#[]:=rfl
  rw[li]
  simp[bytesOf]
theorem WY{P:Program}{src o e:TypeId}(q:P.underlying src=some (.slice e))(O:P.underlying e=some (.int .i32))(ai:P.underlying o=some .string){v:Value}{xs:List Int}(R:ba w (fun _=>False) v (.ab (.int .i32)) xs):
  nE P w (convert src o v) (.string (bytesOf (cz xs))):=by
 obtain⟨a,cap,cells,U,lg,lh,Y,Z,la⟩:∃(a:Option Addr) (cap:Nat) (cells:List Value),[v]=[.slice a (List.length (α:=Int) xs) cap]/\List.length (α:=Int) xs<=cap/\cap<=maxLen/\(a=none->cap=0)/\
  bL (aJ w (fun _=>False) (.int .i32)) cells xs/\∀j u,cells[j]? =some u->∃b,a=some b/\w.cell? (b.add j)=some u/\¬False:=(bA (t:=.ab (.int .i32)) rfl).1 R
 clear R
 simp only[List.cons.injEq,and_true]at U
 subst U
 have lb:=yP Z
 subst lb
 intro w' lc
 have ld:bytesOf (cz xs)=runesBytes xs:=by unfold bytesOf cz;simp
 rw[ld]
 cases a with
 |none=>
  have li:=Y rfl
  have le:xs=[]:=List.eq_nil_of_length_eq_zero (by omega)
  subst le
  rw[run_convert_runes_nil w' src o e _ _ q O ai]
  rfl
 |some b=>
  rw[run_convert_runes w' src o e b xs.length cap xs (Nat.le_refl _) q O ai (fun j W=>?_),List.take_length]
  obtain⟨lj,lf,X,_⟩:=la j (.int .i32 (xs.getD j 0)) (by rw[List.getElem?_map,List.getElem?_eq_getElem W];simp[List.getD_eq_getElem?_getD,W])
  cases lf
  rw[World.cell?_of_block (w:=w) (lc.block _ (World.block_lt_of_cell? w _ X))]
  exact X
theorem IE(s:List UInt8):∀(n i:Nat) (o:Array Value),Conv.runesFrom (bytesOf s) n i o=o++((k1 s n i).map (Value.int .i32)).toArray
 |0,_,o=>by simp[Conv.runesFrom,k1]
 |n+1,i,o=>by
  unfold Conv.runesFrom k1
  rw[iL]
  split
  ·simp only[]
   rw[IE s n]
   simp
  ·simp
theorem Lk(s:List UInt8):∀(n i:Nat),(k1 s n i).length<=n
 |0,_=>by simp[k1]
 |n+1,i=>by
  unfold k1
  split
  ·have:=Lk s n (i+(Utf8.decode (bytesOf s) i).2);simp only[List.length_cons];omega
  ·simp
theorem add_zero(a:Addr):a.add 0=a:=by simp[Addr.add]
theorem add_add(a:Addr)(i j:Nat):(a.add i).add j=a.add (i+j):=by
 unfold Addr.add
 by_cases hi:i=0<;>by_cases o:j=0<;>simp[hi,o,Nat.add_assoc]
theorem gU(g aa n:Nat):(⟨g,aa,none⟩:Addr).add n=⟨g,aa+n,none⟩:=by
 unfold Addr.add
 split
 ·rename_i h;simp[h]
 ·rfl
def Holds(w:World)(M:Nat->Prop)(a:Addr)(t:ag)(x:t.el):Prop:=∃cells,aJ w M t cells x/\∀j u,cells[j]? =some u->w.cell? (a.add j)=some u/\¬M a.block
theorem Holds.part{M:Nat->Prop}{a:Addr}{t:ag}{x:t.el}(h:Holds w M a t x){off:Nat}{u:ag}{y:u.el}(q:cM t x off u=some y):Holds w M (a.add off) u y:=by
 obtain⟨cells,O,R⟩:=h
 obtain⟨c1,c2,c3,rfl,Z,U⟩:=pQ t O q
 refine⟨c2,U,fun j v o=>?_⟩
 have la:=(List.getElem?_eq_some_iff.1 o).1
 have W:(c1++c2++c3)[off+j]? =some v:=by
  rw[List.append_assoc,List.getElem?_append_right (by omega),List.getElem?_append_left (by omega),<-o]
  congr 1
  omega
 obtain⟨X,Y⟩:=R _ _ W
 exact⟨by rw[add_add];exact X,by rw[jQ];exact Y⟩
theorem Cs{P:Program}{w:World}{a:Addr}{cells:List Value}(h:∀j u,cells[j]? =some u->w.cell? (a.add j)=some u):(loadCells a cells.length).run P w=.ok cells.toArray w:=
 run_loadCells_list (P:=P) w a cells h
theorem OQ{P:Program}{a:Addr}{M:Nat->Prop}{tid d:Nat}{t:ag}{x:t.el}(U:cN P d tid=some t)(h:Holds w M a t x)(la:0<t.cells):
  ∃v,nE P w (loadVar tid a) v/\ba w M v t x:=by
 obtain⟨cells,W,Y⟩:=h
 have o:=cf t W
 have X:∀w',Ext w w'->∀j u,cells[j]? =some u->w'.cell? (a.add j)=some u:=by
  intro w' q j u Z
  have O:=(Y j u Z).1
  rw[World.cell?_of_block (w:=w) (q.block _ (World.block_lt_of_cell? w _ O))]
  exact O
 cases R:t.agg with
 |true=>
  refine⟨.agg cells.toArray,fun w' q=>?_,(eh R).2 ⟨cells,rfl,W⟩⟩
  unfold loadVar
  rw[Sem.run_bind,k2 U,R]
  simp only[Result.andThen_ok,if_true,Sem.run_bind,fa U]
  rw[<-o,Cs (X w' q)]
  rfl
 |false=>
  have lb:t.cells=1:=by cases t<;>first|rfl|(simp[ag.agg]at R)
  match cells,o with
  |[c],_=>
   refine⟨c,fun w' q=>?_,(bA R).2 W⟩
   have O:=X w' q 0 c rfl
   rw[add_zero]at O
   unfold loadVar
   rw[Sem.run_bind,k2 U,R]
   simp only[Result.andThen_ok,Bool.false_eq_true,if_false]
   simp[load,Sem.run,O]
  |[],o=>simp at o;omega
  |_::_::_,o=>simp at o;omega
def fieldInfo(P:Program)(s:TypeId)(f:Nat):Option (Nat×ag):=
 match P.underlying s with
 |some (.struct ap)=>match ap[f]? with
  |some o=>match ty P o.type with
   |some u=>bif Nat.beq u.cells 0 then none else some (o.offset,u)
   |none=>none
  |none=>none
 |_=>none
theorem wI{P:Program}{s:TypeId}{f off:Nat}{u:ag}(h:fieldInfo P s f=some (off,u)):
  ∃ap o,P.underlying s=some (.struct ap)/\ap[f]? =some o/\ty P o.type=some u/\o.offset=off/\0<u.cells:=by
 unfold fieldInfo at h
 split at h
 ·rename_i ap O
  split at h
  ·rename_i o R
   split at h
   ·rename_i U W
    cases q:Nat.beq U.cells 0 with
    |true=>rw[q]at h;cases h
    |false=>
     rw[q]at h
     cases h
     exact⟨ap,o,O,R,W,rfl,Nat.pos_of_ne_zero (beq_false q)⟩
   ·cases h
  ·cases h
 ·cases h
theorem nn{P:Program}{s:TypeId}{f off:Nat}{u:ag}(h:fieldInfo P s f=some (off,u))(a:Addr)(w:World):
  (Instr.fieldAt s (.pointer (some a)) f).run P w=.ok (.pointer (some (a.add off))) w:=by
 obtain⟨ap,U,o,q,O,rfl,W⟩:=wI h
 have R:¬u.cells=0:=by omega
 simp only[Instr.fieldAt,Sem.run_bind,run_underlying o,Result.andThen_ok,q,Instr.sureAddr,Sem.run_pure,fieldPlace,fa O,if_neg R]
theorem S8{P:Program}{s:TypeId}{f off:Nat}{u:ag}(h:fieldInfo P s f=some (off,u)){M:Nat->Prop}{t:ag}{x:t.el}{v:Value}(Y:t.agg=true)(Z:ba w M v t x){y:u.el}(la:cM t x off u=some y):
  ∃r,gJ P (Instr.field s v f) r/\ba w M r u y:=by
 obtain⟨ap,lb,U,W,O,rfl,le⟩:=wI h
 obtain⟨cs,rfl,lc⟩:=(eh Y).1 Z
 obtain⟨c1,c2,c3,rfl,X,R⟩:=pQ t lc la
 have o:=cf u R
 cases q:u.agg with
 |true=>
  refine⟨.agg c2.toArray,fun w'=>?_,(eh q).2 ⟨c2,rfl,R⟩⟩
  simp only[Instr.field,Sem.run_bind,run_underlying U,Result.andThen_ok,W,asAgg,Sem.run_pure,part,k2 O,q,if_true,fa O]
  congr 2
  apply Array.ext'
  rw[Array.toList_extract,List.extract_eq_take_drop,<-X,<-o]
  simp
 |false=>
  have lf:u.cells=1:=by cases u<;>first|rfl|(simp[ag.agg]at q)
  match c2,o with
  |[c],_=>
   refine⟨c,fun w'=>?_,(bA q).2 R⟩
   have ld:(c1++[c]++c3).toArray[lb.offset]? =some c:=by
    rw[List.getElem?_toArray,<-X];simp
   simp only[Instr.field,Sem.run_bind,run_underlying U,Result.andThen_ok,W,asAgg,Sem.run_pure,part,k2 O,q,Bool.false_eq_true,if_false,ld]
  |[],o=>simp at o;omega
  |_::_::_,o=>simp at o;omega
end Go.Ev
