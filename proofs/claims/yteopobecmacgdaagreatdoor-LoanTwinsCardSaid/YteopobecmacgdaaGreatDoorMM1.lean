/- The layouts of library functions at this program, as the kit's own tool wrote them. -/
import Derived.Test.YteopobecmacgdaaGreatDoorProg
import Derived.Shelf.Unicode.DecodeAny
import Derived.KernelRfl
import Derived.WalkKit
import Derived.IntWalk
import Derived.ChangeKeysEq
import Derived.Lib.Strings
import Derived.Laws.IdiomStrings
import Derived.Laws.Cover4
set_option linter.unusedSectionVars false
set_option linter.unusedVariables false
set_option linter.unusedSimpArgs false
namespace Go.Ev
open Go Go.Proofs Go.Shelf
set_option maxRecDepth 100000
def ZH:Go.Shelf.Ren:=⟨fun|197=>158|260=>192|n=>n,fun|9=>9|21=>21|3=>3|4=>4|5=>5|105=>274|119=>269|0=>0|46=>233|139=>272|138=>271|n=>n,fun|3=>0|4=>1|n=>n⟩
theorem Xu:Go.Proofs.Lays.n197 Tryz.prog ZH:={
 mixed:=by kernel_rfl
 f197:=Tryz.func158.trans (congrArg some (by kernel_rfl))
 f260:=Tryz.func192.trans (congrArg some (by kernel_rfl))
 t0:=Tryz.underlying0
 a0:=Tryz.isAgg0
 z0:=Tryz.sizeOf0
 v0:=Tryz.zeroValue0
 t3:=Tryz.underlying3
 a3:=Tryz.isAgg3
 z3:=Tryz.sizeOf3
 v3:=Tryz.zeroValue3
 t4:=Tryz.underlying4
 a4:=Tryz.isAgg4
 z4:=Tryz.sizeOf4
 v4:=Tryz.zeroValue4
 t5:=Tryz.underlying5
 a5:=Tryz.isAgg5
 z5:=Tryz.sizeOf5
 v5:=Tryz.zeroValue5
 t9:=Tryz.underlying9
 a9:=Tryz.isAgg9
 z9:=Tryz.sizeOf9
 v9:=Tryz.zeroValue9
 t21:=Tryz.underlying21
 a21:=Tryz.isAgg21
 z21:=Tryz.sizeOf21
 v21:=Tryz.zeroValue21
 t46:=Tryz.underlying233
 a46:=Tryz.isAgg233
 z46:=Tryz.sizeOf233
 v46:=Tryz.zeroValue233
 t105:=Tryz.underlying274
 a105:=Tryz.isAgg274
 z105:=Tryz.sizeOf274
 v105:=Tryz.zeroValue274
 t119:=Tryz.underlying269
 a119:=Tryz.isAgg269
 z119:=Tryz.sizeOf269
 t138:=Tryz.underlying271
 a138:=Tryz.isAgg271
 z138:=Tryz.sizeOf271
 v138:=Tryz.zeroValue271
 t139:=Tryz.underlying272
 a139:=Tryz.isAgg272
 z139:=Tryz.sizeOf272
 v139:=Tryz.zeroValue272
 g3:=by kernel_rfl
 g4:=by kernel_rfl}
def Nz:Go.Shelf.Ren:=⟨fun|260=>192|n=>n,fun|9=>9|21=>21|3=>3|4=>4|5=>5|119=>269|0=>0|46=>233|139=>272|138=>271|n=>n,fun|3=>0|4=>1|n=>n⟩
theorem Yg:Go.Proofs.Lays.n260 Tryz.prog Nz:={
 mixed:=by kernel_rfl
 f260:=Tryz.func192.trans (congrArg some (by kernel_rfl))
 t0:=Tryz.underlying0
 a0:=Tryz.isAgg0
 z0:=Tryz.sizeOf0
 v0:=Tryz.zeroValue0
 t3:=Tryz.underlying3
 a3:=Tryz.isAgg3
 z3:=Tryz.sizeOf3
 v3:=Tryz.zeroValue3
 t4:=Tryz.underlying4
 a4:=Tryz.isAgg4
 z4:=Tryz.sizeOf4
 v4:=Tryz.zeroValue4
 t5:=Tryz.underlying5
 a5:=Tryz.isAgg5
 z5:=Tryz.sizeOf5
 v5:=Tryz.zeroValue5
 t9:=Tryz.underlying9
 a9:=Tryz.isAgg9
 z9:=Tryz.sizeOf9
 v9:=Tryz.zeroValue9
 t21:=Tryz.underlying21
 a21:=Tryz.isAgg21
 z21:=Tryz.sizeOf21
 v21:=Tryz.zeroValue21
 t46:=Tryz.underlying233
 a46:=Tryz.isAgg233
 z46:=Tryz.sizeOf233
 v46:=Tryz.zeroValue233
 t119:=Tryz.underlying269
 a119:=Tryz.isAgg269
 z119:=Tryz.sizeOf269
 t138:=Tryz.underlying271
 a138:=Tryz.isAgg271
 z138:=Tryz.sizeOf271
 v138:=Tryz.zeroValue271
 t139:=Tryz.underlying272
 a139:=Tryz.isAgg272
 z139:=Tryz.sizeOf272
 v139:=Tryz.zeroValue272
 g3:=by kernel_rfl
 g4:=by kernel_rfl}
end Go.Ev
namespace Go.Ev
open Go
inductive ah where
 |int (k:IntKind)
 |bool
 |str
 |ab (t:ah)
 |unit
 |pair (a b:ah)
 |ptr (t:ah)
 |fn (f:Nat) (t:ah)
 |err
 |arr (n:Nat) (t:ah)
 |map (k v:ah)
 |cO
 /-- A function with nothing captured, or nil: its number. -/
 |dj
 /-- An interface value that holds a value of the type n. -/
 |cP (n:Nat) (t:ah)
 /-- .. that, or else what r says. -/
 |alt (n:Nat) (t r:ah)
def ah.el:ah->Type
 |.int _=>Int
 |.bool=>Bool
 |.str=>List UInt8
 |.ab t=>List t.el
 |.unit=>Unit
 |.pair a b=>a.el×b.el
 |.ptr t=>t.el
 |.fn _ t=>t.el
 |.err=>Option (Option (Nat×Int))
 |.arr _ t=>List t.el
 |.map k v=>Option (List (k.el×v.el))
 |.cO=>Unit
 |.dj=>Option Nat
 |.cP _ t=>t.el
 |.alt _ t r=>t.el⊕r.el
def ah.cells:ah->Nat
 |.int _=>1
 |.bool=>1
 |.str=>1
 |.ab _=>1
 |.unit=>0
 |.pair a b=>a.cells+b.cells
 |.ptr _=>1
 |.fn _ _=>1
 |.err=>1
 |.arr n t=>n*t.cells
 |.map _ _=>1
 |.cO=>1
 |.dj=>1
 |.cP _ _=>1
 |.alt _ _ _=>1
def ah.rz:ah->Bool
 |.unit=>true
 |.pair _ _=>true
 |_=>false
def ah.flat:ah->Bool
 |.int _=>true
 |.bool=>true
 |.str=>true
 |.ab _=>false
 |.unit=>true
 |.pair a b=>a.flat&&b.flat
 |.ptr _=>false
 |.fn _ _=>false
 |.err=>false
 |.arr _ t=>t.flat
 |.map _ _=>false
 |.cO=>false
 |.dj=>false
 |.cP _ _=>false
 |.alt _ _ _=>false
def ah.agg:ah->Bool
 |.unit=>true
 |.pair _ _=>true
 |.arr _ _=>true
 |_=>false
theorem ah.XX{t:ah}(h:t.rz=true):t.agg=true:=by cases t<;>first|rfl|(simp[ah.rz]at h)
def gR:IntKind->IntKind->Bool
 |.i8,.i8=>true
 |.i16,.i16=>true
 |.i32,.i32=>true
 |.i64,.i64=>true
 |.u8,.u8=>true
 |.u16,.u16=>true
 |.u32,.u32=>true
 |.u64,.u64=>true
 |_,_=>false
theorem nE{a b:IntKind}(h:gR a b=true):a=b:=by cases a<;>cases b<;>first|rfl|(simp[gR]at h)
def ah.beq:ah->ah->Bool
 |.int k,.int l=>gR k l
 |.bool,.bool=>true
 |.str,.str=>true
 |.ab a,.ab b=>a.beq b
 |.unit,.unit=>true
 |.pair a b,.pair c d=>a.beq c&&b.beq d
 |.ptr a,.ptr b=>a.beq b
 |.fn f a,.fn g b=>Nat.beq f g&&a.beq b
 |.err,.err=>true
 |.arr n a,.arr m b=>Nat.beq n m&&a.beq b
 |.map a b,.map c d=>a.beq c&&b.beq d
 |.cO,.cO=>true
 |.dj,.dj=>true
 |.cP n a,.cP m b=>Nat.beq n m&&a.beq b
 |.alt n a b,.alt m c d=>Nat.beq n m&&(a.beq c&&b.beq d)
 |_,_=>false
theorem ah.eq_of_beq:∀{a b:ah},a.beq b=true->a=b:=by
 intro a
 induction a with
 |int k=>intro b h;cases b<;>simp only[ah.beq,Bool.false_eq_true]at h;rw[nE h]
 |bool=>intro b h;cases b<;>first|rfl|(simp only[ah.beq,Bool.false_eq_true]at h)
 |str=>intro b h;cases b<;>first|rfl|(simp only[ah.beq,Bool.false_eq_true]at h)
 |ab t o=>intro b h;cases b<;>simp only[ah.beq,Bool.false_eq_true]at h;rw[o h]
 |unit=>intro b h;cases b<;>first|rfl|(simp only[ah.beq,Bool.false_eq_true]at h)
 |pair x y q O=>
  intro b h
  cases b<;>simp only[ah.beq,Bool.false_eq_true,Bool.and_eq_true]at h
  rw[q h.1,O h.2]
 |ptr t o=>intro b h;cases b<;>simp only[ah.beq,Bool.false_eq_true]at h;rw[o h]
 |fn f t o=>intro b h;cases b<;>simp only[ah.beq,Bool.false_eq_true,Bool.and_eq_true]at h;rw[Nat.eq_of_beq_eq_true h.1,o h.2]
 |err=>intro b h;cases b<;>first|rfl|(simp only[ah.beq,Bool.false_eq_true]at h)
 |cO=>intro b h;cases b<;>first|rfl|(simp only[ah.beq,Bool.false_eq_true]at h)
 |dj=>intro b h;cases b<;>first|rfl|(simp only[ah.beq,Bool.false_eq_true]at h)
 |cP n t o=>intro b h;cases b<;>simp only[ah.beq,Bool.false_eq_true,Bool.and_eq_true]at h;rw[Nat.eq_of_beq_eq_true h.1,o h.2]
 |alt n x y q O=>
  intro b h
  cases b<;>simp only[ah.beq,Bool.false_eq_true,Bool.and_eq_true]at h
  rw[Nat.eq_of_beq_eq_true h.1,q h.2.1,O h.2.2]
 |arr n t o=>intro b h;cases b<;>simp only[ah.beq,Bool.false_eq_true,Bool.and_eq_true]at h;rw[Nat.eq_of_beq_eq_true h.1,o h.2]
 |map x y q O=>
  intro b h
  cases b<;>simp only[ah.beq,Bool.false_eq_true,Bool.and_eq_true]at h
  rw[q h.1,O h.2]
structure ak where
 t:ah
 x:t.el
def ak.as(v:ak)(u:ah):Option u.el:=
 match h:v.t.beq u with
 |true=>some (ah.eq_of_beq h▸v.x)
 |false=>none
def bT{α:Type}(f:List Value->α->Prop):List Value->List α->Prop
 |cs,[]=>cs=[]
 |cs,x::xs=>∃c1 c2,cs=c1++c2/\f c1 x/\bT f c2 xs
def ol{α:Type}(agg:Bool)(f:List Value->α->Prop)(v:Value)(x:α):Prop:=
 if agg then∃cs:List Value,v=.agg cs.toArray/\f cs x else f [v] x
def eC{α β:Type}(o:Value->α->Prop)(q:Value->β->Prop):List MapEntry->List (α×β)->Prop
 |[],[]=>True
 |e::es,p::ps=>o e.key p.1/\q e.val p.2/\eC o q es ps
 |_,_=>False
def VY{α β:Type}(w:World)(M:Nat->Prop)(q:Value->α->Prop)(O:Value->β->Prop)(cs:List Value):Option (List (α×β))->Prop
 |none=>cs=[.map none]
 |some ps=>∃(b:Nat) (es:Array MapEntry) (o:Nat),cs=[.map (some b)]/\w.heap[b]? =some (.map es o)/\¬M b/\(∀e∈es.toList,e.born<o)/\(es.toList.map (·.born)).Nodup/\eC q O es.toList ps
def uR{α β:Type}(n:Nat)(f:Value->α->Prop)(g:List Value->β->Prop)(cs:List Value):α⊕β->Prop
 |.inl x=>∃v:Value,cs=[.iface n v]/\f v x
 |.inr y=>cs.length=1/\g cs y
def OO:Option Nat->Value
 |none=>.nilFunc
 |some n=>.func (.func n) #[] #[]
def aL(w:World)(M:Nat->Prop):(t:ah)->List Value->t.el->Prop
 |.int k,cs,n=>cs=[.int k n]
 |.bool,cs,b=>cs=[.bool b]
 |.str,cs,s=>cs=[.string ⟨s.toArray⟩]/\s.length<=maxLen
 |.ab t,cs,xs=>∃(a:Option Addr) (cap:Nat) (cells:List Value),cs=[.slice a xs.length cap]/\xs.length<=cap/\cap<=maxLen/\(a=none->cap=0)/\
   bT (aL w M t) cells xs/\∀j u,cells[j]? =some u->∃b,a=some b/\w.cell? (b.add j)=some u/\¬M b.block
 |.unit,cs,_=>cs=[]
 |.pair a b,cs,x=>∃c1 c2,cs=c1++c2/\aL w M a c1 x.1/\aL w M b c2 x.2
 |.ptr t,cs,x=>∃(a:Addr) (cells:List Value),cs=[.pointer (some a)]/\aL w M t cells x/\∀j u,cells[j]? =some u->w.cell? (a.add j)=some u/\¬M a.block
 |.fn f t,cs,x=>∃bs:List Value,cs=[.func (.func f) #[] bs.toArray]/\aL w M t bs x
 |.err,cs,b=>(b=none/\cs=[.nilIface])\/(b=some none/\∃t v,cs=[.iface t v])\/(∃t n,b=some (some (t,n))/\cs=[.iface t (.int .i64 n)])
 |.arr n t,cs,xs=>List.length (α:=t.el) xs=n/\bT (aL w M t) cs xs
 |.map k v,cs,x=>VY w M (ol k.agg (aL w M k)) (ol v.agg (aL w M v)) cs x
 |.cO,cs,_=>∃v:Value,cs=[v]/\v.oneCell'=true
 |.dj,cs,x=>cs=[OO x]
 |.cP n t,cs,x=>∃v:Value,cs=[.iface n v]/\ol t.agg (aL w M t) v x
 |.alt n t r,cs,x=>uR n (ol t.agg (aL w M t)) (aL w M r) cs x
theorem dD{α:Type}{f g:List Value->α->Prop}(h:∀c x,f c x->g c x):∀{xs:List α} {cs:List Value},bT f cs xs->bT g cs xs
 |[],_,o=>o
 |_::_,_,⟨c1,c2,e,q,O⟩=>⟨c1,c2,e,h _ _ q,dD h O⟩
theorem vU{α:Type}{agg:Bool}{f g:List Value->α->Prop}(h:∀c x,f c x->g c x){v:Value}{x:α}(o:ol agg f v x):ol agg g v x:=by
 unfold ol at*
 split at o
 ·rename_i q;rw[if_pos q];obtain⟨cs,e,O⟩:=o;exact⟨cs,e,h _ _ O⟩
 ·rename_i q;rw[if_neg q];exact h _ _ o
theorem YN{α β:Type}{n:Nat}{f o:Value->α->Prop}{g q:List Value->β->Prop}(O:∀v x,f v x->o v x)(R:∀c y,g c y->q c y):∀{x:α⊕β} {cs:List Value},uR n f g cs x->uR n o q cs x
 |.inl _,_,⟨v,e,h⟩=>⟨v,e,O _ _ h⟩
 |.inr _,_,⟨e,h⟩=>⟨e,R _ _ h⟩
theorem Rl{α β:Type}{n:Nat}{f:Value->α->Prop}{g:List Value->β->Prop}(q:∀c y,g c y->∀u∈c,u.oneCell'=true):∀{x:α⊕β} {cs:List Value},uR n f g cs x->cs.length=1/\∀u∈cs,u.oneCell'=true
 |.inl _,_,⟨v,e,_⟩=>by subst e;exact⟨rfl,fun u o=>by simp at o;subst o;rfl⟩
 |.inr _,_,⟨e,h⟩=>⟨e,q _ _ h⟩
theorem Qo{α β:Type}{n:Nat}{f:Value->α->Prop}{g:List Value->β->Prop}:∀{x:α⊕β} {cs:List Value},uR n f g cs x->cs.length=1
 |.inl _,_,⟨v,e,_⟩=>by subst e;rfl
 |.inr _,_,⟨e,_⟩=>e
theorem io{α β:Type}{o q:Value->α->Prop}{O R:Value->β->Prop}(U:∀v x,o v x->q v x)(W:∀v x,O v x->R v x):∀{es:List MapEntry} {ps:List (α×β)},eC o O es ps->eC q R es ps
 |[],[],h=>h
 |[],_::_,h=>h.elim
 |_::_,[],h=>h.elim
 |_::_,_::_,⟨Y,Z,la⟩=>⟨U _ _ Y,W _ _ Z,io U W la⟩
theorem uW{α β:Type}{o:Value->α->Prop}{q:Value->β->Prop}:∀{es:List MapEntry} {ps:List (α×β)},eC o q es ps->es.length=ps.length
 |[],[],_=>rfl
 |[],_::_,h=>h.elim
 |_::_,[],h=>h.elim
 |_::_,_::_,⟨_,_,h⟩=>by simp[uW h]
theorem gB{w:World}{b:Nat}{aa:Obj}(h:w.heap[b]? =some aa):b<w.heap.size:=by
 rcases Nat.lt_or_ge b w.heap.size with o|o
 ·exact o
 ·rw[Array.getElem?_eq_none o]at h;cases h
theorem kg(a:Addr)(n:Nat):(a.add n).block=a.block:=by unfold Addr.add;split<;>rfl
theorem cS{w w':World}{M M':Nat->Prop}(Y:∀b,b<w.heap.size->¬M b->w'.heap[b]? =w.heap[b]?)(Z:∀b,b<w.heap.size->M' b->M b):
  ∀(t:ah) {cs:List Value} {x:t.el},aL w M t cs x->aL w' M' t cs x:=by
 intro t
 induction t with
 |int k=>exact fun h=>h
 |bool=>exact fun h=>h
 |str=>exact fun h=>h
 |unit=>exact fun h=>h
 |pair a b ld le=>exact fun⟨c1,c2,e,o,q⟩=>⟨c1,c2,e,ld o,le q⟩
 |ab t O=>
  rintro cs x ⟨a,cap,cells,e,o,q,la,lf,lg⟩
  refine⟨a,cap,cells,e,o,q,la,dD (fun _ _=>O) lf,fun j u lb=>?_⟩
  obtain⟨b,lc,U,W⟩:=lg j u lb
  have R:b.block<w.heap.size:=by
   have:=World.block_lt_of_cell? w (b.add j) U
   rwa [kg]at this
  refine⟨b,lc,?_,fun h=>W (Z _ R h)⟩
  rw[World.cell?_of_block (w:=w) (by rw[kg];exact Y _ R W)]
  exact U
 |ptr t O=>
  rintro cs x ⟨a,cells,e,o,q⟩
  refine⟨a,cells,e,O o,fun j u lb=>?_⟩
  obtain⟨U,W⟩:=q j u lb
  have R:a.block<w.heap.size:=by
   have:=World.block_lt_of_cell? w (a.add j) U
   rwa [kg]at this
  refine⟨?_,fun h=>W (Z _ R h)⟩
  rw[World.cell?_of_block (w:=w) (by rw[kg];exact Y _ R W)]
  exact U
 |fn f t O=>exact fun⟨bs,e,h⟩=>⟨bs,e,O h⟩
 |err=>exact fun h=>h
 |cO=>exact fun h=>h
 |dj=>exact fun h=>h
 |cP n t O=>exact fun⟨v,e,h⟩=>⟨v,e,vU (fun _ _=>O) h⟩
 |alt n t r lh li=>exact fun h=>YN (fun _ _=>vU fun _ _=>lh) (fun _ _=>li) h
 |arr n t O=>exact fun⟨o,q⟩=>⟨o,dD (fun _ _=>O) q⟩
 |map k v lj lk=>
  intro cs x h
  match x,h with
  |none,h=>exact h
  |some ps,⟨b,es,ll,e,o,q,lc,lm,la⟩=>
   have R:=gB o
   exact⟨b,es,ll,e,by rw[Y b R q];exact o,fun U=>q (Z b R U),lc,lm,io (fun _ _=>vU fun _ _=>lj) (fun _ _=>vU fun _ _=>lk) la⟩
theorem jC{w:World}{M:Nat->Prop}{t:ah}(o:∀(cs:List Value) (x:t.el),aL w M t cs x->cs.length=t.cells):
  ∀(xs:List t.el) (cs:List Value),bT (aL w M t) cs xs->cs.length=xs.length*t.cells
 |[],_,h=>by cases h;simp
 |x::xs,cs,⟨c1,c2,e,q,O⟩=>by
  subst e
  rw[List.length_append,o _ _ q,jC o xs c2 O,List.length_cons,Nat.succ_mul,Nat.add_comm]
theorem cu{w:World}{M:Nat->Prop}:∀(t:ah) {cs:List Value} {x:t.el},aL w M t cs x->cs.length=t.cells:=by
 intro t
 induction t with
 |int k=>intro cs x h;cases h;rfl
 |bool=>intro cs x h;cases h;rfl
 |str=>intro cs x h;cases h.1;rfl
 |unit=>intro cs x h;cases h;rfl
 |pair a b R U=>rintro cs x ⟨c1,c2,e,q,O⟩;subst e;rw[List.length_append,R q,U O];rfl
 |ab t o=>rintro cs x ⟨a,cap,cells,e,_⟩;subst e;rfl
 |ptr t o=>rintro cs x ⟨a,cells,e,_⟩;subst e;rfl
 |fn f t o=>rintro cs x ⟨bs,e,_⟩;subst e;rfl
 |err=>rintro cs x (⟨_,e⟩|⟨_,t,v,e⟩|⟨t,n,_,e⟩)<;>subst e<;>rfl
 |cO=>rintro cs x ⟨v,e,_⟩;subst e;rfl
 |dj=>intro cs x h;cases h;rfl
 |cP n t o=>rintro cs x ⟨v,e,_⟩;subst e;rfl
 |alt n t r W Y=>intro cs x h;exact Qo h
 |arr n t o=>
  rintro cs x ⟨q,O⟩
  have:=jC (fun cs x=>o) x cs O
  rw[this,q]
  rfl
 |map k v Z la=>
  intro cs x h
  match x,h with
  |none,h=>have h:cs=[.map none]:=h;rw[h];rfl
  |some ps,⟨b,es,lb,e,_⟩=>rw[e];rfl
theorem Pq{α:Type}{f:List Value->α->Prop}(h:∀c x,f c x->∀u∈c,u.oneCell'=true):∀{xs:List α} {cs:List Value},bT f cs xs->∀u∈cs,u.oneCell'=true
 |[],_,o,u,hu=>by cases o;cases hu
 |_::_,_,⟨c1,c2,e,q,O⟩,u,hu=>by
  subst e
  rcases List.mem_append.1 hu with hu|hu
  ·exact h _ _ q u hu
  ·exact Pq h O u hu
theorem hU{w:World}{M:Nat->Prop}:∀(t:ah) {cs:List Value} {x:t.el},aL w M t cs x->∀u∈cs,u.oneCell'=true:=by
 intro t
 induction t with
 |int k=>intro cs x h u hu;cases h;simp at hu;subst hu;rfl
 |bool=>intro cs x h u hu;cases h;simp at hu;subst hu;rfl
 |str=>intro cs x h u hu;cases h.1;simp at hu;subst hu;rfl
 |unit=>intro cs x h u hu;cases h;simp at hu
 |pair a b R U=>
  rintro cs x ⟨c1,c2,e,O,q⟩ u hu
  subst e
  rcases List.mem_append.1 hu with hu|hu
  ·exact R O u hu
  ·exact U q u hu
 |ab t o=>rintro cs x ⟨a,cap,cells,e,_⟩ u hu;subst e;simp at hu;subst hu;rfl
 |ptr t o=>rintro cs x ⟨a,cells,e,_⟩ u hu;subst e;simp at hu;subst hu;rfl
 |fn f t o=>rintro cs x ⟨bs,e,_⟩ u hu;subst e;simp at hu;subst hu;rfl
 |err=>rintro cs x (⟨_,e⟩|⟨_,t,v,e⟩|⟨t,n,_,e⟩) u hu<;>subst e<;>simp at hu<;>subst hu<;>rfl
 |cO=>rintro cs x ⟨v,e,h⟩ u hu;subst e;simp at hu;subst hu;exact h
 |dj=>intro cs x h u hu;cases h;simp at hu;subst hu;cases x<;>rfl
 |cP n t o=>rintro cs x ⟨v,e,h⟩ u hu;subst e;simp at hu;subst hu;rfl
 |alt n t r Z W=>intro cs x h u hu;exact(Rl (fun c y Y u hu=>W Y u hu) h).2 u hu
 |arr n t o=>rintro cs x ⟨O,q⟩ u hu;exact Pq (fun _ _=>o) q u hu
 |map k v la lb=>
  intro cs x h u hu
  match x,h with
  |none,h=>have h:cs=[.map none]:=h;rw[h]at hu;simp at hu;subst hu;rfl
  |some ps,⟨b,es,lc,e,_⟩=>rw[e]at hu;simp at hu;subst hu;rfl
theorem OZ{w w':World}{M M':Nat->Prop}:∀(t:ah) {cs:List Value} {x:t.el},t.flat=true->aL w M t cs x->aL w' M' t cs x:=by
 intro t
 induction t with
 |int k=>exact fun _ h=>h
 |bool=>exact fun _ h=>h
 |str=>exact fun _ h=>h
 |unit=>exact fun _ h=>h
 |pair a b U W=>intro cs x o ⟨c1,c2,e,O,R⟩;simp only[ah.flat,Bool.and_eq_true]at o;exact⟨c1,c2,e,U o.1 O,W o.2 R⟩
 |ab t q=>intro cs x o;simp[ah.flat]at o
 |ptr t q=>intro cs x o;simp[ah.flat]at o
 |fn f t q=>intro cs x o;simp[ah.flat]at o
 |err=>intro cs x o;simp[ah.flat]at o
 |cO=>intro cs x o;simp[ah.flat]at o
 |dj=>intro cs x o;simp[ah.flat]at o
 |cP n t q=>intro cs x o;simp[ah.flat]at o
 |alt n t r Y Z=>intro cs x o;simp[ah.flat]at o
 |arr n t q=>intro cs x o ⟨O,R⟩;exact⟨O,dD (fun _ _=>q o) R⟩
 |map k v la lb=>intro cs x o;simp[ah.flat]at o
def bf(w:World)(M:Nat->Prop)(v:Value)(t:ah)(x:t.el):Prop:=
 if t.agg then∃cs:List Value,v=.agg cs.toArray/\aL w M t cs x else aL w M t [v] x
theorem jP{w:World}{M:Nat->Prop}{v:Value}{t:ah}{x:t.el}(h:bf w M v t x):aL w M t v.cells.toList x:=by
 unfold bf at h
 split at h
 ·obtain⟨cs,rfl,h⟩:=h;simpa[Value.cells]using h
 ·rename_i O
  cases t with
  |int k=>cases h;rfl
  |bool=>cases h;rfl
  |str=>obtain⟨h,U⟩:=h;cases h;exact⟨rfl,U⟩
  |ab t=>obtain⟨a,cap,cells,e,r⟩:=h;cases e;exact⟨a,cap,cells,rfl,r⟩
  |ptr t=>obtain⟨a,cells,e,r⟩:=h;cases e;exact⟨a,cells,rfl,r⟩
  |fn f t=>obtain⟨bs,e,r⟩:=h;cases e;exact⟨bs,rfl,r⟩
  |err=>rcases h with ⟨o,e⟩|⟨o,t,v,e⟩|⟨t,n,o,e⟩<;>cases e;exact .inl ⟨o,rfl⟩;exact .inr (.inl ⟨o,t,v,rfl⟩);exact .inr (.inr ⟨t,n,o,rfl⟩)
  |dj=>cases h;cases x<;>rfl
  |cO=>
   obtain⟨u,e,q⟩:=h
   cases e
   have R:v.cells.toList=[v]:=by cases v<;>first|rfl|(simp[Value.oneCell']at q)
   exact⟨v,R,q⟩
  |cP n t=>obtain⟨u,e,r⟩:=h;cases e;exact⟨u,rfl,r⟩
  |alt n t r=>
   have q:=hU (.alt n t r) h v List.mem_cons_self
   have R:v.cells.toList=[v]:=by cases v<;>first|rfl|(simp[Value.oneCell']at q)
   rw[R]
   exact h
  |map k v'=>
   match x,h with
   |none,h=>have h:[v]=[.map none]:=h;cases h;rfl
   |some ps,⟨b,es,W,e,r⟩=>cases e;exact⟨b,es,W,rfl,r⟩
  |arr n t=>simp[ah.agg]at O
  |unit=>simp[ah.agg]at O
  |pair a b=>simp[ah.agg]at O
theorem dC{w w':World}{M M':Nat->Prop}(q:∀b,b<w.heap.size->¬M b->w'.heap[b]? =w.heap[b]?)(O:∀b,b<w.heap.size->M' b->M b)
  {v:Value}{t:ah}{x:t.el}(h:bf w M v t x):bf w' M' v t x:=by
 unfold bf at*
 split at h
 ·rename_i o;rw[if_pos o];obtain⟨cs,rfl,h⟩:=h;exact⟨cs,rfl,cS q O t h⟩
 ·rename_i o;rw[if_neg o];exact cS q O t h
theorem BJ{w w':World}{M M':Nat->Prop}{v:Value}{t:ah}{x:t.el}(q:t.flat=true)(h:bf w M v t x):bf w' M' v t x:=by
 unfold bf at*
 split at h
 ·rename_i o;rw[if_pos o];obtain⟨cs,rfl,h⟩:=h;exact⟨cs,rfl,OZ t q h⟩
 ·rename_i o;rw[if_neg o];exact OZ t q h
def dd:(t:ah)->t.el->Nat->(u:ah)->Option u.el
 |.pair a b,x,off,u=>
  match Nat.beq off 0,ak.as ⟨.pair a b,x⟩ u with
  |true,some y=>some y
  |_,_=>bif Nat.blt off a.cells then dd a x.1 off u else dd b x.2 (off-a.cells) u
 |.arr n t,x,off,u=>
  match Nat.beq off 0,ak.as ⟨.arr n t,x⟩ u with
  |true,some y=>some y
  |_,_=>bif Nat.beq t.cells 0 then none else(match(show List t.el from x)[off/t.cells]? with
   |some z=>dd t z (off %t.cells) u
   |none=>none)
 |t,x,off,u=>bif Nat.beq off 0 then ak.as ⟨t,x⟩ u else none
def cE:(t:ah)->t.el->Nat->ak->Option t.el
 |.pair a b,x,off,v=>
  match Nat.beq off 0,v.as (.pair a b)with
  |true,some y=>some y
  |_,_=>bif Nat.blt off a.cells then(match cE a x.1 off v with|some y=>some (y,x.2)|none=>none)
   else(match cE b x.2 (off-a.cells) v with|some y=>some (x.1,y)|none=>none)
 |.arr n t,x,off,v=>
  match Nat.beq off 0,v.as (.arr n t)with
  |true,some y=>some y
  |_,_=>bif Nat.beq t.cells 0 then none else(match(show List t.el from x)[off/t.cells]? with
   |some z=>(match cE t z (off %t.cells) v with|some o=>some (List.set (show List t.el from x) (off/t.cells) o)|none=>none)
   |none=>none)
 |t,_,off,v=>bif Nat.beq off 0 then v.as t else none
end Go.Ev
namespace Go.Ev
open Go
inductive b9 where
 |v (u:ak)
 |r (r:Nat)
 |a
def b9.is(b:Nat):b9->Bool
 |.r c=>Nat.beq c b
 |_=>false
inductive nl where
 |f (off:Nat) (u:ah)
 |x (j:Int) (o:Nat)
def gp:List nl->Nat
 |[]=>0
 |.f off _::p=>off+gp p
 |.x j o::p=>j.toNat*o+gp p
theorem yM:∀(p o:List nl),gp (p++o)=gp p+gp o
 |[],o=>by simp[gp]
 |.f off u::p,o=>by simp only[List.cons_append,gp,yM p o];omega
 |.x j q::p,o=>by simp only[List.cons_append,gp,yM p o];omega
inductive ap where
 |any
 |undef
 |val (t:ah) (x:t.el)
 |dW (l:List ak)
 |gh (l:List b9)
 |ptr (b off:Nat)
 |fC (b:Nat)
 |vptr (t:ah) (x:t.el)
 |row (r:Nat)
 |ep (r:Nat) (i:Int) (off o:Nat)
 |clos (f:Nat) (bs:List Nat)
 |iter (b:Nat)
 |dP (b:Nat) (p:List nl)
 |osl (b:Nat)
 |gb (b:Nat) (i:Int)
 |sub (b:Nat) (i:Int)
 |ck (f b:Nat)
 |en (b:Nat) (i:Int) (off o:Nat)
 |fA (b:Nat) (i j:Int) (off o:Nat)
 |ai (n:Int)
 |fe (l:List b9)
structure cV where
 e:Nat
 t:ah
 xs:List t.el
inductive fa where
 |mp (k v:ah)
 |row (e:Nat) (t:ah)
def fa.el:fa->Type
 |.mp k v=>Option (List (k.el×v.el))
 |.row _ t=>List t.el
structure eF where
 u:ah
 off:Nat
 e:Nat
 t:ah
inductive b7 where
 |cells (l:List ap) (e:Nat)
 |iter (s:List UInt8) (pos:Nat)
 |mp (k v:ah) (ps:List (k.el×v.el))
 |cM (k v:ah) (left last:List (k.el×v.el))
 |aY (t:ah) (x:t.el) (e:Nat)
 |raw (f:World->(Nat->Prop)->Nat->Prop)
 |ba (e:Nat) (k:fa) (xs:List (Option k.el))
 |bw (e:Nat) (k:eF) (xs:List k.u.el) (h:Option Int)
structure af where
 ab:List (Nat×ap)
 ae:List (Nat×b7)
 rw:List (Nat×cV)
def look{α:Type}:List (Nat×α)->Nat->Option α
 |[],_=>none
 |(k,v)::r,n=>bif Nat.beq k n then some v else look r n
def del{α:Type}:List (Nat×α)->Nat->List (Nat×α)
 |[],_=>[]
 |(k,v)::r,n=>bif Nat.beq k n then del r n else(k,v)::del r n
theorem be{α:Type}{l:List (Nat×α)}{n:Nat}{v:α}(h:look l n=some v):(n,v)∈l:=by
 induction l with
 |nil=>simp[look]at h
 |cons p r q=>
  obtain⟨k,u⟩:=p
  unfold look at h
  cases o:Nat.beq k n with
  |true=>rw[o]at h;simp only[cond_true,Option.some.injEq]at h;subst h;rw[Nat.eq_of_beq_eq_true o];exact List.mem_cons_self
  |false=>rw[o]at h;exact List.mem_cons_of_mem _ (q h)
theorem dl{α:Type}{l:List (Nat×α)}{n k:Nat}{v:α}:(k,v)∈del l n↔(k,v)∈l/\k≠n:=by
 induction l with
 |nil=>simp[del]
 |cons p r U=>
  obtain⟨j,u⟩:=p
  unfold del
  cases O:Nat.beq j n with
  |true=>
   have R:=Nat.eq_of_beq_eq_true O
   simp only[cond_true,U,List.mem_cons,Prod.mk.injEq]
   constructor
   ·rintro⟨o,q⟩;exact⟨.inr o,q⟩
   ·rintro⟨⟨o,_⟩|o,q⟩
    ·exact absurd (o.trans R) q
    ·exact⟨o,q⟩
  |false=>
   have R:j≠n:=fun h=>by rw[h]at O;rw[Nat.beq_refl]at O;cases O
   simp only[cond_false,List.mem_cons,Prod.mk.injEq,U]
   constructor
   ·rintro(⟨o,q⟩|⟨o,q⟩)
    ·exact⟨.inl ⟨o,q⟩,o▸R⟩
    ·exact⟨.inr o,q⟩
   ·rintro⟨o|o,q⟩
    ·exact .inl o
    ·exact .inr ⟨o,q⟩
theorem ng{α:Type}(l:List (Nat×α))(n:Nat):(del l n).map (·.1)=(l.map (·.1)).filter (fun k=>!Nat.beq k n):=by
 induction l with
 |nil=>rfl
 |cons p r o=>
  obtain⟨j,u⟩:=p
  unfold del
  cases q:Nat.beq j n<;>simp[o,q]
def ap.refs(r:Nat):ap->Bool
 |.ptr b _=>Nat.beq b r
 |.fC b=>Nat.beq b r
 |.row b=>Nat.beq b r
 |.ep b _ _ _=>Nat.beq b r
 |.clos _ bs=>bs.any (Nat.beq · r)
 |.iter b=>Nat.beq b r
 |.dP b _=>Nat.beq b r
 |.osl b=>Nat.beq b r
 |.gb b _=>Nat.beq b r
 |.sub b _=>Nat.beq b r
 |.en b _ _ _=>Nat.beq b r
 |.fA b _ _ _ _=>Nat.beq b r
 |.ck _ b=>Nat.beq b r
 |.fe l=>l.any (b9.is r)
 |.gh l=>l.any (b9.is r)
 |_=>false
def ap.dE(r:Nat)(s:ap):ap:=bif s.refs r then .any else s
def b7.map(f:ap->ap):b7->b7
 |.cells l e=>.cells (l.map f) e
 |.iter s p=>.iter s p
 |.mp k v ps=>.mp k v ps
 |.cM k v l a=>.cM k v l a
 |.aY t x e=>.aY t x e
 |.raw f=>.raw f
 |.ba e k xs=>.ba e k xs
 |.bw e k xs h=>.bw e k xs h
def af.dE(st:af)(r:Nat):af:=
 {ab:=st.ab.map fun p=>(p.1,p.2.dE r),ae:=(del st.ae r).map fun p=>(p.1,p.2.map (ap.dE r)),rw:=del st.rw r}
def af.put(st:af)(d:Nat)(v:ap):af:={st with ab:=(d,v)::del st.ab d}
def af.ids(st:af):List Nat:=st.ae.map (·.1)++st.rw.map (·.1)
def aY:Value->Option Nat
 |.pointer (some a)=>some a.block
 |.slice (some a) _ _=>some a.block
 |.map (some r)=>some r
 |_=>none
def own:Value->Nat->Prop
 |.tuple us,b=>∃u∈us.toList,aY u=some b
 |v,b=>aY v=some b
theorem gP{v:Value}{b:Nat}(h:aY v=some b):own v b:=by
 cases v<;>first|exact h|(simp[aY]at h)
def bytesOf(s:List UInt8):ByteArray:=⟨s.toArray⟩
structure bJ where
 P:Program
 n:Nat
 w0:World
 A:Nat->Prop
 X:Nat->Prop
 m0:Nat->Value
def au(cx:bJ)(m:Nat->Value)(ids:List Nat)(b:Nat):Prop:=cx.A b\/∃i∈ids,own (m i) b
def eg(w:World)(M:Nat->Prop):List Value->List ak->Prop
 |[],[]=>True
 |v::vs,u::us=>bf w M v u.t u.x/\eg w M vs us
 |_,_=>False
def dq(w:World)(M:Nat->Prop)(m:Nat->Value):List Value->List b9->Prop
 |[],[]=>True
 |v::vs,.v u::us=>bf w M v u.t u.x/\dq w M m vs us
 |v::vs,.r r::us=>v=m r/\dq w M m vs us
 |_::vs,.a::us=>dq w M m vs us
 |_,_=>False
def aX(w:World)(M:Nat->Prop)(m:Nat->Value)(v:Value):ap->Prop
 |.any=>True
 |.undef=>v=Go.undef
 |.val t x=>bf w M v t x
 |.dW l=>∃vs:List Value,v=.tuple vs.toArray/\eg w M vs l
 |.gh l=>∃vs:List Value,v=.tuple vs.toArray/\dq w M m vs l
 |.ptr b off=>∃g,m b=.pointer (some ⟨g,0,none⟩)/\v=.pointer (some ⟨g,off,none⟩)
 |.fC b=>v=.pointer none\/v=m b
 |.vptr t x=>∃a cells,v=.pointer (some a)/\aL w M t cells x/\∀j u,cells[j]? =some u->w.cell? (a.add j)=some u/\¬M a.block
 |.row r=>v=m r
 |.ep r i off o=>∃g n cap,m r=.slice (some ⟨g,0,none⟩) n cap/\v=.pointer (some ⟨g,i.toNat*o+off,none⟩)
 |.clos f bs=>v=.func (.func f) #[] (bs.map m).toArray
 |.iter b=>v=m b
 |.dP b p=>∃g,m b=.pointer (some ⟨g,0,none⟩)/\v=.pointer (some ⟨g,gp p,none⟩)
 |.osl b=>∃us,m b=.tuple (v::us).toArray
 |.gb b i=>∃g n cap us,m b=.tuple (.slice (some ⟨g,0,none⟩) n cap::us).toArray/\v=.pointer (some ⟨g,i.toNat,none⟩)
 |.sub b i=>∃r us,m b=.tuple (r::us).toArray/\us[i.toNat]? =some v
 |.ck f b=>v=.func (.func f) #[m b] #[]
 |.en b i off o=>∃g n cap us,m b=.tuple (.slice (some ⟨g,0,none⟩) n cap::us).toArray/\v=.pointer (some ⟨g,i.toNat*o+off,none⟩)
 |.fA b i j off o=>∃r us g n cap,m b=.tuple (r::us).toArray/\us[i.toNat]? =some (.slice (some ⟨g,0,none⟩) n cap)/\v=.pointer (some ⟨g,j.toNat*o+off,none⟩)
 |.ai n=>∃a k cap,v=.slice a k cap/\(k:Int)=n
 |.fe l=>∃vs:List Value,v=.agg vs.toArray/\dq w M m vs l
def cJ(w:World)(M:Nat->Prop)(m:Nat->Value):List Value->List ap->Prop
 |[],[]=>True
 |v::vs,u::us=>aX w M m v u/\cJ w M m vs us
 |_,_=>False
def eI(w:World)(M:Nat->Prop)(t:ah)(v:Value)(x:t.el):Prop:=ol t.agg (aL w M t) v x
def fK(g:Nat):b7->Value
 |.cells _ _=>.pointer (some ⟨g,0,none⟩)
 |.iter _ _=>.pointer (some ⟨g,0,none⟩)
 |.mp _ _ _=>.map (some g)
 |.cM _ _ _ _=>.pointer (some ⟨g,0,none⟩)
 |.aY _ _ _=>.pointer (some ⟨g,0,none⟩)
 |.raw _=>.pointer (some ⟨g,0,none⟩)
 |.ba _ _ _=>.pointer (some ⟨g,0,none⟩)
 |.bw _ _ _ _=>.pointer (some ⟨g,0,none⟩)
def iS(v:Value)(g:Nat):b7->Prop
 |.ba _ _ _=>∃n cap us,v=.tuple (.slice (some ⟨g,0,none⟩) n cap::us).toArray
 |.bw _ _ _ _=>∃r us,v=.tuple (r::us).toArray
 |c=>v=fK g c
def b7.one:b7->Bool
 |.bw _ _ _ _=>false
 |_=>true
theorem mB{c:b7}{f:ap->ap}:(c.map f).one=c.one:=by cases c<;>rfl
theorem ig{v:Value}{g:Nat}{c:b7}(h:iS v g c)(o:c.one=true):own v g:=by
 cases c with
 |ba e k xs=>obtain⟨n,cap,us,rfl⟩:=h;exact⟨_,List.mem_cons_self,rfl⟩
 |bw e k xs q=>cases o
 |_=>cases h;rfl
theorem j7{v:Value}{g:Nat}{c:b7}{f:ap->ap}:iS v g (c.map f)↔iS v g c:=by cases c<;>exact Iff.rfl
def kX(w:World)(M:Nat->Prop)(u:Value):(k:fa)->k.el->Prop
 |.mp _ _,none=>u=.map none
 |.mp k v,some ps=>∃(r:Nat) (es:Array MapEntry) (o:Nat),u=.map (some r)/\w.heap[r]? =some (.map es o)/\(∀e∈es.toList,e.born<o)/\(es.toList.map (·.born)).Nodup/\eC (eI w M k) (eI w M v) es.toList ps
 |.row e t,xs=>∃cells,w.ownsRow 0 e t.cells u (List.length (α:=t.el) xs) cells/\bT (aL w M t) cells xs
def ij(w:World)(M:Nat->Prop)(k:fa):List (Option k.el)->List Value->List Value->Prop
 |[],[],[]=>True
 |none::xs,_::us,o::q=>o=undef/\ij w M k xs us q
 |some x::xs,u::us,o::q=>o=u/\kX w M u k x/\ij w M k xs us q
 |_,_,_=>False
def mn(w:World)(M:Nat->Prop)(k:eF)(q:Prop)(cs:List Value)(v:Value)(x:k.u.el):Prop:=
 ∃L v1 O,cs=L.set k.off v1/\L[k.off]? =some (.slice none 0 0)/\v1.oneCell'=true/\cE k.u x k.off ⟨.ab k.t,[]⟩=some O/\aL w M k.u L O/\(q->v=undef)/\
  (¬q->v=v1/\∃(o:List k.t.el) (cells:List Value),dd k.u x k.off (.ab k.t)=some o/\w.ownsRow 0 k.e k.t.cells v o.length cells/\bT (aL w M k.t) cells o)
def iO(h:Option Int)(n:Nat):Prop:=∃i,h=some i/\i.toNat=n
def fW(w:World)(M:Nat->Prop)(k:eF)(h:Option Int):Nat->List k.u.el->List Value->List Value->Prop
 |_,[],cs,us=>cs=[]/\us=[]
 |n,x::xs,cs,us=>∃c d v vs,cs=c++d/\c.length=k.u.cells/\us=v::vs/\mn w M k (iO h n) c v x/\fW w M k h (n+1) xs d vs
def hd(w:World)(M:Nat->Prop)(m:Nat->Value)(v:Value)(g:Nat):b7->Prop
 |.cells l e=>∃cells,w.heap[g]? =some (.cells cells e (0,0))/\cJ w M m cells.toList l
 |.iter s p=>w.heap[g]? =some (.stringIter (bytesOf s) p)
 |.mp k v ps=>∃(es:Array MapEntry) (o:Nat),w.heap[g]? =some (.map es o)/\(∀e∈es.toList,e.born<o)/\(es.toList.map (·.born)).Nodup/\eC (eI w M k) (eI w M v) es.toList ps
 |.cM k v left last=>(w.heap[g]? =some (.mapIter none 0 #[] 0)/\left=[]/\last=[])\/∃(b:Nat) (es:Array MapEntry) (o:Nat) (seen:Array Nat),w.heap[g]? =some (.mapIter (some b) o seen o)/\w.heap[b]? =some (.map es o)/\¬M b/\
   (∀e∈es.toList,e.born<o)/\(es.toList.map (·.born)).Nodup/\eC (eI w M k) (eI w M v) (es.toList.filter fun e=>!seen.contains e.born) left/\
   (last=[]\/∃e p,last=[p]/\e∈es.toList/\seen.back?=some e.born/\eI w M k e.key p.1/\eI w M v e.val p.2)
 |.aY t x e=>∃cells,w.heap[g]? =some (.cells cells e (0,0))/\aL w M t cells.toList x
 |.raw f=>(∃aa,w.heap[g]? =some aa)/\∀(w':World) (M':Nat->Prop),(∀b,b<w.heap.size->¬M b->w'.heap[b]? =w.heap[b]?)->(∀b,b<w.heap.size->M' b->M b)->w'.heap[g]? =w.heap[g]? ->f w' M' g
 |.ba e k xs=>∃n cap us q,v=.tuple (.slice (some ⟨g,0,none⟩) n cap::q).toArray/\w.ownsRow 0 e 1 (.slice (some ⟨g,0,none⟩) n cap) xs.length us/\ij w M k xs us q/\(g::q.filterMap aY).Nodup
 |.bw e k xs h=>∃ai us cells,v=.tuple (ai::us).toArray/\w.ownsRow 0 e k.u.cells ai xs.length cells/\fW w M k h 0 xs cells us/\((ai::us).filterMap aY).Nodup
class cm where
 d:Prop
instance(priority:=low) acm:cm:=⟨False⟩
variable [cm]
class aj(cx:bJ) where
 D:List Deferred
instance(priority:=low) acC(cx:bJ):aj cx:=⟨[]⟩
structure Frame(w0 w:World)(X:Nat->Prop):Prop where
 os:w.os=w0.os
 tape:w.tape=w0.tape
 output:w.output=w0.output
 size:w0.heap.size<=w.heap.size
 block:∀b,b<w0.heap.size->¬X b->w.heap[b]? =w0.heap[b]?
 drawn:cm.d->w0.drawn<=w.drawn
def eM:Nat:=10000000
structure ao(cx:bJ)(m:Nat->Value)(st:af)(T:Array Value)(w:World):Prop where
 size:T.size=cx.n
 frame:Frame cx.w0 w cx.X
 outer:∀b,cx.A b->b<cx.w0.heap.size/\¬cx.X b
 de:∀i aU,(i,aU)∈st.ab->∃v,T[i]? =some v/\aX w (au cx m st.ids) m v aU
 boxes:∀b c,(b,c)∈st.ae->∃g,iS (m b) g c/\(∀o,own (m b) o->cx.w0.heap.size<=o\/cx.X o)/\hd w (au cx m st.ids) m (m b) g c
 rows:∀r c,(r,c)∈st.rw->∃cells,w.ownsRow 0 c.e c.t.cells (m r) c.xs.length cells/\(∀g,own (m r) g->cx.w0.heap.size<=g\/cx.X g)/\bT (aL w (au cx m st.ids) c.t) cells c.xs
 apart:∀i j,i∈st.ids->j∈st.ids->i≠j->∀g,own (m i) g->¬own (m j) g
 keys:st.ids.Nodup
 fixed:∀b c,(b,c)∈st.ae->c.one=true->cx.n<=b->m b=cx.m0 b
 kept:∀r c,(r,c)∈st.rw->cx.n<=r->eM<=r->m r=cx.m0 r
def al(cx:bJ)(st:af)(T:Array Value)(w:World):Prop:=∃m,ao cx m st T w
def bH(m:Nat->Value)(r:Nat)(u:Value):Nat->Value:=fun i=>if i=r then u else m i
theorem ct(m:Nat->Value)(r:Nat)(u:Value):bH m r u r=u:=by simp[bH]
theorem dk(m:Nat->Value){r i:Nat}(u:Value)(h:i≠r):bH m r u i=m i:=by simp[bH,h]
theorem beq_false{a b:Nat}(h:Nat.beq a b=false):a≠b:=fun e=>by rw[e,Nat.beq_refl]at h;cases h
theorem qP{w w':World}{M M':Nat->Prop}(o:∀b,b<w.heap.size->¬M b->w'.heap[b]? =w.heap[b]?)(q:∀b,b<w.heap.size->M' b->M b):
  ∀{vs:List Value} {l:List ak},eg w M vs l->eg w' M' vs l
 |[],[],_=>trivial
 |[],_::_,h=>h.elim
 |_::_,[],h=>h.elim
 |_::_,_::_,⟨O,R⟩=>⟨dC o q O,qP o q R⟩
theorem sN{w w':World}{M M':Nat->Prop}{m:Nat->Value}(o:∀b,b<w.heap.size->¬M b->w'.heap[b]? =w.heap[b]?)(q:∀b,b<w.heap.size->M' b->M b):
  ∀{vs:List Value} {l:List b9},dq w M m vs l->dq w' M' m vs l
 |[],[],_=>trivial
 |[],_::_,h=>h.elim
 |_::_,[],h=>h.elim
 |_::_,.v _::_,⟨O,R⟩=>⟨dC o q O,sN o q R⟩
 |_::_,.r _::_,⟨O,R⟩=>⟨O,sN o q R⟩
 |_::vs,.a::us,h=>sN (vs:=vs) (l:=us) o q h
theorem vk{w:World}{M:Nat->Prop}{m:Nat->Value}{r:Nat}{u:Value}:∀{vs:List Value} {l:List b9},l.any (b9.is r)=false->dq w M m vs l->dq w M (bH m r u) vs l
 |[],[],_,_=>trivial
 |[],_::_,_,h=>h.elim
 |_::_,[],_,h=>h.elim
 |_::_,.v _::_,o,⟨q,O⟩=>⟨q,vk (by rw[List.any_cons,Bool.or_eq_false_iff]at o;exact o.2) O⟩
 |_::vs,.a::us,o,h=>vk (vs:=vs) (l:=us) (by rw[List.any_cons,Bool.or_eq_false_iff]at o;exact o.2) h
 |_::_,.r b::_,o,⟨q,O⟩=>by
  rw[List.any_cons,Bool.or_eq_false_iff]at o
  exact⟨by rw[dk _ _ (beq_false o.1)];exact q,vk o.2 O⟩
theorem fG{w w':World}{M M':Nat->Prop}{m:Nat->Value}(o:∀b,b<w.heap.size->¬M b->w'.heap[b]? =w.heap[b]?)(q:∀b,b<w.heap.size->M' b->M b)
  {v:Value}{s:ap}(h:aX w M m v s):aX w' M' m v s:=by
 cases s with
 |any=>trivial
 |undef=>exact h
 |val t x=>exact dC o q h
 |dW l=>obtain⟨vs,e,h⟩:=h;exact⟨vs,e,qP o q h⟩
 |gh l=>obtain⟨vs,e,h⟩:=h;exact⟨vs,e,sN o q h⟩
 |ptr b off=>exact h
 |fC b=>exact h
 |vptr t x=>
  obtain⟨a,cells,e,Y,Z⟩:=h
  refine⟨a,cells,e,cS o q t Y,fun j u la=>?_⟩
  obtain⟨O,R⟩:=Z j u la
  have U:a.block<w.heap.size:=by
   have:=World.block_lt_of_cell? w (a.add j) O
   rwa [kg]at this
  refine⟨?_,fun h=>R (q _ U h)⟩
  rw[World.cell?_of_block (w:=w) (by rw[kg];exact o _ U R)]
  exact O
 |row r=>exact h
 |ep r i off W=>exact h
 |clos f bs=>exact h
 |iter b=>exact h
 |dP b p=>exact h
 |osl b=>exact h
 |gb b i=>exact h
 |sub b i=>exact h
 |ck f b=>exact h
 |en b i off W=>exact h
 |fA b i j off W=>exact h
 |ai n=>exact h
 |fe l=>obtain⟨vs,e,h⟩:=h;exact⟨vs,e,sN o q h⟩
theorem yb{w:World}{M:Nat->Prop}{m:Nat->Value}{r:Nat}{u:Value}{v:Value}{s:ap}(o:s.refs r=false)(h:aX w M m v s):aX w M (bH m r u) v s:=by
 cases s with
 |any=>trivial
 |undef=>exact h
 |val t x=>exact h
 |dW l=>exact h
 |gh l=>obtain⟨vs,e,h⟩:=h;exact⟨vs,e,vk o h⟩
 |vptr t x=>exact h
 |ptr b off=>obtain⟨g,q,O⟩:=h;exact⟨g,by rw[dk _ _ (beq_false o)];exact q,O⟩
 |fC b=>show _\/v=_;rw[dk _ _ (beq_false o)];exact h
 |row b=>show v=_;rw[dk _ _ (beq_false o)];exact h
 |ep b i off W=>obtain⟨g,n,cap,q,O⟩:=h;exact⟨g,n,cap,by rw[dk _ _ (beq_false o)];exact q,O⟩
 |iter b=>show v=_;rw[dk _ _ (beq_false o)];exact h
 |dP b p=>obtain⟨g,q,O⟩:=h;exact⟨g,by rw[dk _ _ (beq_false o)];exact q,O⟩
 |osl b=>obtain⟨us,q⟩:=h;exact⟨us,by rw[dk _ _ (beq_false o)];exact q⟩
 |gb b i=>obtain⟨g,n,cap,us,q,O⟩:=h;exact⟨g,n,cap,us,by rw[dk _ _ (beq_false o)];exact q,O⟩
 |sub b i=>obtain⟨R,us,q,O⟩:=h;exact⟨R,us,by rw[dk _ _ (beq_false o)];exact q,O⟩
 |ck f b=>show v=_;rw[dk _ _ (beq_false o)];exact h
 |en b i off W=>obtain⟨g,n,cap,us,q,O⟩:=h;exact⟨g,n,cap,us,by rw[dk _ _ (beq_false o)];exact q,O⟩
 |fA b i j off W=>obtain⟨R,us,g,n,cap,q,O⟩:=h;exact⟨R,us,g,n,cap,by rw[dk _ _ (beq_false o)];exact q,O⟩
 |ai n=>exact h
 |fe l=>obtain⟨vs,e,h⟩:=h;exact⟨vs,e,vk o h⟩
 |clos f bs=>
  have U:bs.map (bH m r u)=bs.map m:=by
   apply List.map_congr_left
   intro b U
   apply dk
   intro e
   have:=List.any_eq_false.1 o b U
   rw[e,Nat.beq_refl]at this
   exact this rfl
  show v=_
  rw[U]
  exact h
theorem DF{w:World}{M:Nat->Prop}{m:Nat->Value}(r:Nat)(u:Value){v:Value}{s:ap}(h:aX w M m v s):aX w M (bH m r u) v (s.dE r):=by
 unfold ap.dE
 cases o:s.refs r with
 |true=>trivial
 |false=>exact yb o h
theorem sW{w w':World}{M M':Nat->Prop}{m aA:Nat->Value}{f:ap->ap}(o:∀v s,aX w M m v s->aX w' M' aA v (f s)):
  ∀{vs:List Value} {l:List ap},cJ w M m vs l->cJ w' M' aA vs (l.map f)
 |[],[],_=>trivial
 |[],_::_,h=>h.elim
 |_::_,[],h=>h.elim
 |_::_,_::_,⟨q,O⟩=>⟨o _ _ q,sW o O⟩
theorem KR{w w':World}{M M':Nat->Prop}{u:Value}(O:∀b,b<w.heap.size->¬M b->w'.heap[b]? =w.heap[b]?)(R:∀b,b<w.heap.size->M' b->M b)(W:∀b,aY u=some b->w'.heap[b]? =w.heap[b]?):
  ∀{k:fa} {x:k.el},kX w M u k x->kX w' M' u k x
 |.mp _ _,none,h=>h
 |.mp k v,some ps,⟨r,es,la,Y,q,U,o,lb⟩=>⟨r,es,la,Y,by rw[W r (by rw[Y];rfl)];exact q,U,o,io (fun _ _ h=>dC O R h) (fun _ _ h=>dC O R h) lb⟩
 |.row e t,xs,⟨cells,q,U⟩=>by
  refine⟨cells,⟨q.1,?_⟩,dD (fun _ _=>cS O R t) U⟩
  rcases q.2 with o|⟨g,cap,cur,Z,lc,o,rest⟩
  ·exact .inl o
  ·exact .inr ⟨g,cap,cur,Z,lc,by rw[W g (by rw[Z];rfl)];exact o,rest⟩
theorem qm{w w':World}{M M':Nat->Prop}{k:fa}(R:∀b,b<w.heap.size->¬M b->w'.heap[b]? =w.heap[b]?)(U:∀b,b<w.heap.size->M' b->M b):
  ∀{xs:List (Option k.el)} {us o:List Value},(∀u∈o,∀b,aY u=some b->w'.heap[b]? =w.heap[b]?)->ij w M k xs us o->ij w' M' k xs us o
 |[],[],[],_,_=>trivial
 |none::xs,_::us,Z::o,q,⟨O,W⟩=>⟨O,qm R U (fun u Y=>q u (List.mem_cons_of_mem _ Y)) W⟩
 |some x::xs,u::us,Z::o,q,⟨O,W,la⟩=>⟨O,KR R U (O▸q Z List.mem_cons_self) W,qm R U (fun u Y=>q u (List.mem_cons_of_mem _ Y)) la⟩
theorem Wv{w:World}{M:Nat->Prop}{u:Value}:∀{k:fa} {x:k.el},kX w M u k x->∀b,aY u=some b->b<w.heap.size
 |.mp _ _,none,h,b,o=>by cases h;cases o
 |.mp k v,some ps,⟨r,es,W,R,q,_⟩,b,o=>by rw[R]at o;cases o;exact gB q
 |.row e t,xs,⟨cells,q,Y⟩,b,o=>by
  rcases q.2 with ⟨O,_⟩|⟨g,cap,cur,U,Z,O,rest⟩
  ·rw[O]at o;cases o
  ·rw[U]at o;cases o;exact gB O
theorem CC{w:World}{M:Nat->Prop}{k:fa}:∀{xs:List (Option k.el)} {us q:List Value},ij w M k xs us q->∀u∈q,∀b,aY u=some b->b<w.heap.size
 |[],[],[],_,u,hu,_,_=>by cases hu
 |none::xs,_::us,U::q,⟨O,R⟩,u,hu,b,o=>by
  rcases List.mem_cons.1 hu with rfl|hu
  ·rw[O]at o;cases o
  ·exact CC R u hu b o
 |some x::xs,Y::us,U::q,⟨O,R,W⟩,u,hu,b,o=>by
  rcases List.mem_cons.1 hu with rfl|hu
  ·rw[O]at o;exact Wv R b o
  ·exact CC W u hu b o
theorem qj{w w':World}{e q n:Nat}{v:Value}{cells:List Value}(h:w.ownsRow 0 e q v n cells)(R:∀b,aY v=some b->w'.heap[b]? =w.heap[b]?):w'.ownsRow 0 e q v n cells:=by
 refine⟨h.1,?_⟩
 rcases h.2 with o|⟨g,cap,cur,O,U,o,rest⟩
 ·exact .inl o
 ·exact .inr ⟨g,cap,cur,O,U,by rw[R g (by rw[O];rfl)];exact o,rest⟩
theorem Dk{w w':World}{M M':Nat->Prop}{k:eF}{out o:Prop}{cs:List Value}{v:Value}{x:k.u.el}(q:∀b,b<w.heap.size->¬M b->w'.heap[b]? =w.heap[b]?)(O:∀b,b<w.heap.size->M' b->M b)(R:out↔o)(U:∀b,aY v=some b->w'.heap[b]? =w.heap[b]?)
  (h:mn w M k out cs v x):mn w' M' k o cs v x:=by
 obtain⟨L,v1,W,Y,Z,la,lb,lc,ld,le⟩:=h
 refine⟨L,v1,W,Y,Z,la,lb,cS q O k.u lc,fun h=>ld (R.2 h),fun h=>?_⟩
 obtain⟨lf,lg,cells,lh,li,lj⟩:=le fun lk=>h (R.1 lk)
 exact⟨lf,lg,cells,lh,qj li U,dD (fun _ _=>cS q O k.t) lj⟩
theorem rP{w w':World}{M M':Nat->Prop}{k:eF}{h h':Option Int}(o:∀b,b<w.heap.size->¬M b->w'.heap[b]? =w.heap[b]?)(q:∀b,b<w.heap.size->M' b->M b):
  ∀{xs:List k.u.el} {n:Nat} {cs us:List Value},(∀m,n<=m->(iO h m↔iO h' m))->(∀u∈us,∀b,aY u=some b->w'.heap[b]? =w.heap[b]?)->fW w M k h n xs cs us->fW w' M' k h' n xs cs us
 |[],_,_,_,_,_,U=>U
 |x::xs,n,cs,us,O,R,⟨c,d,v,vs,W,Y,Z,la,lb⟩=>by
  subst Z
  exact⟨c,d,v,vs,W,Y,rfl,Dk o q (O n (Nat.le_refl n)) (R v List.mem_cons_self) la,rP o q (fun m ld=>O m (by omega)) (fun u lc=>R u (List.mem_cons_of_mem _ lc)) lb⟩
theorem SP{w:World}{M:Nat->Prop}{k:eF}{out:Prop}{cs:List Value}{v:Value}{x:k.u.el}(h:mn w M k out cs v x){b:Nat}(o:aY v=some b):b<w.heap.size:=by
 obtain⟨L,v1,Z,_,_,_,_,_,R,U⟩:=h
 by_cases O:out
 ·rw[R O]at o;cases o
 ·obtain⟨_,la,cells,_,W,_⟩:=U O
  rcases W.2 with ⟨q,_⟩|⟨g,cap,cur,Y,_,q,_⟩
  ·rw[q]at o;cases o
  ·rw[Y]at o;cases o;exact gB q
theorem Nb{w:World}{M:Nat->Prop}{k:eF}{h:Option Int}:∀{xs:List k.u.el} {n:Nat} {cs us:List Value},fW w M k h n xs cs us->∀u∈us,∀b,aY u=some b->b<w.heap.size
 |[],_,_,_,q,u,hu,_,_=>by rw[q.2]at hu;cases hu
 |x::xs,n,cs,us,⟨c,d,v,vs,_,_,O,R,U⟩,u,hu,b,o=>by
  subst O
  rcases List.mem_cons.1 hu with rfl|hu
  ·exact SP R o
  ·exact Nb U u hu b o
theorem dA{r:Value}{us:List Value}{b:Nat}:own (.tuple (r::us).toArray) b↔aY r=some b\/∃u∈us,aY u=some b:=by
 show(∃u∈r::us,aY u=some b)↔_
 simp
theorem jA{w w':World}{M M':Nat->Prop}{m aA:Nat->Value}{v0:Value}{g:Nat}{f:ap->ap}(U:∀b,b<w.heap.size->¬M b->w'.heap[b]? =w.heap[b]?)(W:∀b,b<w.heap.size->M' b->M b){c:b7}(ll:c.one=true->own v0 g)(lb:∀b,own v0 b->w'.heap[b]? =w.heap[b]?)(lm:∀v s,aX w M m v s->aX w' M' aA v (f s)):
  hd w M m v0 g c->hd w' M' aA v0 g (c.map f):=by
 have q:c.one=true->w'.heap[g]? =w.heap[g]? :=fun o=>lb g (ll o)
 intro Z
 exact match c,q,Z with
 |.cells _ _,q,⟨cells,o,O⟩=>⟨cells,by rw[q rfl];exact o,sW lm O⟩
 |.iter _ _,q,h=>by show w'.heap[g]? =_;rw[q rfl];exact h
 |.aY t x e,q,⟨cells,o,O⟩=>⟨cells,by rw[q rfl];exact o,cS U W t O⟩
 |.raw f,q,⟨⟨aa,ln⟩,h⟩=>⟨⟨aa,by rw[q rfl];exact ln⟩,fun lo lp le a2 a3=>h lo lp
   (fun b R lc=>by
    have e:=U b R lc
    have lf:b<w'.heap.size:=by
     rcases Nat.lt_or_ge b w'.heap.size with o|o
     ·exact o
     ·rw[Array.getElem?_eq_none o,Array.getElem?_eq_getElem R]at e;cases e
    rw[le b lf (fun Z=>lc (W b R Z)),e])
   (fun b R Z=>by
    refine Classical.byContradiction fun lc=>?_
    have e:=U b R lc
    have lf:b<w'.heap.size:=by
     rcases Nat.lt_or_ge b w'.heap.size with o|o
     ·exact o
     ·rw[Array.getElem?_eq_none o,Array.getElem?_eq_getElem R]at e;cases e
    exact lc (W b R (a2 b lf Z)))
   (by rw[a3,q rfl])⟩
 |.mp k v ps,q,⟨es,lg,o,O,Y,la⟩=>⟨es,lg,by rw[q rfl];exact o,O,Y,io (fun _ _ h=>dC U W h) (fun _ _ h=>dC U W h) la⟩
 |.cM k v l a,q,.inl ⟨o,O⟩=>.inl ⟨by rw[q rfl];exact o,O⟩
 |.cM k v l a,q,.inr ⟨b,es,lg,seen,o,O,Y,la,ld,lq,lr⟩=>
  have li:=gB O
  .inr ⟨b,es,lg,seen,by rw[q rfl];exact o,by rw[U b li Y];exact O,fun Z=>Y (W b li Z),la,ld,io (fun _ _ h=>dC U W h) (fun _ _ h=>dC U W h) lq,
   lr.imp id fun⟨e,p,le,a2,a3,a4,a5⟩=>⟨e,p,le,a2,a3,dC U W a4,dC U W a5⟩⟩
 |.ba e k xs,q,⟨n,cap,us,ls,o,O,Y,la⟩=>by
  refine⟨n,cap,us,ls,o,⟨O.1,?_⟩,qm U W (fun u lh b R=>lb b (by rw[o];exact dA.2 (.inr ⟨u,lh,R⟩))) Y,la⟩
  rcases O.2 with ld|⟨lj,lt,cur,lk,lu,ld,rest⟩
  ·exact .inl ld
  ·exact .inr ⟨lj,lt,cur,lk,lu,by rw[lb lj (by rw[o];exact dA.2 (.inl (by rw[lk];rfl)))];exact ld,rest⟩
 |.bw e k xs h,_,⟨ai,us,cells,o,O,Y,la⟩=>by
  refine⟨ai,us,cells,o,qj O fun b R=>lb b (by rw[o];exact dA.2 (.inl R)),rP U W (fun _ _=>Iff.rfl) (fun u lh b R=>lb b (by rw[o];exact dA.2 (.inr ⟨u,lh,R⟩))) Y,la⟩
theorem MI{w:World}{M:Nat->Prop}{m:Nat->Value}{v0:Value}{g:Nat}{c:b7}(O:iS v0 g c)(h:hd w M m v0 g c):∀b,own v0 b->b<w.heap.size:=by
 have key:(∃aa,w.heap[g]? =some aa)->v0=fK g c->∀b,own v0 b->b<w.heap.size:=by
  rintro⟨aa,lc⟩ e b o
  rw[e]at o
  have q:own (fK g c) b->b=g:=by cases c<;>(intro lb;exact(Option.some.inj lb).symm)
  rw[q o]
  exact(Array.getElem?_eq_some_iff.1 lc).1
 cases c with
 |cells l e=>obtain⟨cells,q,_⟩:=h;exact key ⟨_,q⟩ O
 |iter s p=>exact key ⟨_,h⟩ O
 |aY t x e=>obtain⟨cells,q,_⟩:=h;exact key ⟨_,q⟩ O
 |raw f=>exact key h.1 O
 |mp k v ps=>obtain⟨es,ld,q,_⟩:=h;exact key ⟨_,q⟩ O
 |cM k v l a=>
  rcases h with ⟨q,_⟩|⟨b,es,ld,seen,q,_⟩
  ·exact key ⟨_,q⟩ O
  ·exact key ⟨_,q⟩ O
 |bw e k xs lb=>
  obtain⟨ai,us,cells,rfl,R,U,_⟩:=h
  intro b o
  rcases dA.1 o with o|⟨u,W,o⟩
  ·rcases R.2 with ⟨Y,_⟩|⟨g,cap,cur,Z,_,Y,_⟩
   ·rw[Y]at o;cases o
   ·rw[Z]at o;cases o;exact gB Y
  ·exact Nb U u W b o
 |ba e k xs=>
  obtain⟨n,cap,us,le,rfl,R,U,_⟩:=h
  intro b o
  rcases dA.1 o with o|⟨u,W,o⟩
  ·rcases R.2 with ⟨la,_⟩|⟨lf,lg,cur,Z,lh,la,rest⟩
   ·cases la
   ·cases Z;cases o;exact gB la
  ·exact CC U u W b o
theorem Da{w:World}{e O n:Nat}{v:Value}{cells:List Value}(h:w.ownsRow 0 e O v n cells){g:Nat}(o:own v g):aY v=some g:=by
 rcases h.2 with ⟨q,_⟩|⟨R,cap,cur,q,_⟩<;>rw[q]at o⊢<;>exact o
theorem b7.map_id(c:b7):c.map id=c:=by cases c<;>simp[b7.map]
theorem Fz{w w':World}{M M':Nat->Prop}{m:Nat->Value}{v0:Value}{g:Nat}{c:b7}(O:c.one=true->own v0 g)(R:∀b,own v0 b->w'.heap[b]? =w.heap[b]?)(o:∀b,b<w.heap.size->¬M b->w'.heap[b]? =w.heap[b]?)(q:∀b,b<w.heap.size->M' b->M b)
  (h:hd w M m v0 g c):hd w' M' m v0 g c:=by
 have:=jA (f:=id) o q O R (fun v s U=>fG (m:=m) o q U) h
 rwa [b7.map_id]at this
end Go.Ev
namespace Go.Ev
open Go Go.RowKit
variable [cm]
variable {cx:bJ} {m:Nat->Value} {st:af} {T:Array Value} {w w':World}
variable [aj cx]
theorem Frame.refl(w:World)(X:Nat->Prop):Frame w w X:=⟨rfl,rfl,rfl,Nat.le_refl _,fun _ _ _=>rfl,fun _=>Nat.le_refl _⟩
structure Same(w w':World):Prop where
 os:w'.os=w.os
 tape:w'.tape=w.tape
 output:w'.output=w.output
 size:w.heap.size<=w'.heap.size
 drawn:cm.d->w.drawn<=w'.drawn
structure Ext(w w':World):Prop extends Same w w' where
 block:∀b,b<w.heap.size->w'.heap[b]? =w.heap[b]?
theorem Ext.refl(w:World):Ext w w:={os:=rfl,tape:=rfl,output:=rfl,size:=Nat.le_refl _,drawn:=fun _=>Nat.le_refl _,block:=fun _ _=>rfl}
theorem Ext.yp{w w':World}(h:Below w.heap.size w w')(ai:cm.d->w.drawn<=w'.drawn):Ext w w':={os:=h.os,tape:=h.tape,output:=h.output,size:=h.size,drawn:=ai,block:=h.block}
theorem Ext.below{w w':World}(h:Ext w w'):Below w.heap.size w w':=⟨h.os,h.tape,h.output,h.size,h.block⟩
theorem Ext.trans{a b c:World}(h:Ext a b)(k:Ext b c):Ext a c:=Ext.yp (h.below.trans (k.below.mono h.size)) (fun d=>Nat.le_trans (h.drawn d) (k.drawn d))
theorem Ext.drew{w w':World}(h:Ext w w'):Ext w w'.drew:=Ext.yp h.below.drew (fun d=>Nat.le_succ_of_le (h.drawn d))
theorem Frame.step(h:Frame cx.w0 w cx.X)(o:Same w w')(R:∀b,b<cx.w0.heap.size->¬cx.X b->w'.heap[b]? =w.heap[b]?):Frame cx.w0 w' cx.X:=
 ⟨o.os.trans h.os,o.tape.trans h.tape,o.output.trans h.output,Nat.le_trans h.size o.size,fun b q O=>(R b q O).trans (h.block b q O),fun d=>Nat.le_trans (h.drawn d) (o.drawn d)⟩
theorem ao.put(h:ao cx m st T w){d:Nat}(ai:d<cx.n){v:Value}{s:ap}(q:aX w (au cx m st.ids) m v s):ao cx m (st.put d s) (T.setIfInBounds d v) w:=
 {h with
  size:=by rw[Array.size_setIfInBounds];exact h.size
  de:=fun i aU o=>by
   rcases List.mem_cons.1 o with o|o
   ·cases o
    exact⟨v,by rw[Array.getElem?_setIfInBounds_self_of_lt (by rw[h.size];exact ai)],q⟩
   ·obtain⟨o,O⟩:=dl.1 o
    obtain⟨v',R,U⟩:=h.de i aU o
    exact⟨v',by rw[Array.getElem?_setIfInBounds_ne (fun e=>O e.symm)];exact R,U⟩}
theorem ao.lt(h:ao cx m st T w){i g:Nat}(q:i∈st.ids)(o:own (m i) g):g<w.heap.size/\(cx.w0.heap.size<=g\/cx.X g):=by
 rcases List.mem_append.1 q with q|q
 ·obtain⟨⟨b,c⟩,O,rfl⟩:=List.mem_map.1 q
  obtain⟨Y,R,U,la⟩:=h.boxes b c O
  exact⟨MI R la g o,U g o⟩
 ·obtain⟨⟨r,c⟩,O,rfl⟩:=List.mem_map.1 q
  obtain⟨cells,R,U,_⟩:=h.rows r c O
  refine⟨?_,U g o⟩
  rcases R.2 with ⟨W,_⟩|⟨Y,cap,cur,W,_,Z,_⟩
  ·dsimp only at o;rw[W]at o;cases o
  ·dsimp only at o
   rw[W]at o
   cases o
   rcases Nat.lt_or_ge Y w.heap.size with h|h
   ·exact h
   ·rw[Array.getElem?_eq_none h]at Z;cases Z
theorem ao.zw(h:ao cx m st T w){b:Nat}(o:au cx m st.ids b):b<w.heap.size:=by
 rcases o with o|⟨i,q,O⟩
 ·exact Nat.lt_of_lt_of_le (h.outer b o).1 h.frame.size
 ·exact(h.lt q O).1
theorem ao.ext(h:ao cx m st T w)(o:Ext w w'):ao cx m st T w':=by
 have U:∀b,b<w.heap.size->¬au cx m st.ids b->w'.heap[b]? =w.heap[b]? :=fun b q _=>o.block b q
 have W:∀b,b<w.heap.size->au cx m st.ids b->au cx m st.ids b:=fun _ _ h=>h
 exact{h with
  frame:=h.frame.step o.toSame fun b q _=>o.block b (Nat.lt_of_lt_of_le q h.frame.size)
  de:=fun i aU la=>let⟨v,lb,q⟩:=h.de i aU la;⟨v,lb,fG U W q⟩
  boxes:=fun b c q=>by
   obtain⟨g,O,Y,R⟩:=h.boxes b c q
   exact⟨g,O,Y,Fz (ig O) (fun Z lc=>o.block Z (MI O R Z lc)) U W R⟩
  rows:=fun r c ld=>by
   obtain⟨cells,O,Y,R⟩:=h.rows r c ld
   refine⟨cells,O.kept (row:=none) ⟨o.os,o.tape,o.output,o.size,fun k le _=>o.block k le⟩ ?_,Y,dD (fun _ _=>cS U W c.t) R⟩
   cases lf:(m r).ownBlock
   ·exact .inl rfl
   ·exact .inr (by simp)}
theorem nY(st:af)(r:Nat):∀i,i∈(st.dE r).ids↔i∈st.ids/\i≠r:=by
 intro i
 simp only[af.ids,af.dE,List.map_map,List.mem_append,List.mem_map,Function.comp]
 constructor
 ·rintro(⟨⟨b,c⟩,o,rfl⟩|⟨⟨b,c⟩,o,rfl⟩)
  ·obtain⟨q,O⟩:=dl.1 o;exact⟨.inl ⟨_,q,rfl⟩,O⟩
  ·obtain⟨q,O⟩:=dl.1 o;exact⟨.inr ⟨_,q,rfl⟩,O⟩
 ·rintro⟨⟨⟨b,c⟩,o,rfl⟩|⟨⟨b,c⟩,o,rfl⟩,R⟩
  ·exact .inl ⟨(b,c),dl.2 ⟨o,R⟩,rfl⟩
  ·exact .inr ⟨(b,c),dl.2 ⟨o,R⟩,rfl⟩
theorem Pm{st:af}(h:st.ids.Nodup)(r:Nat):(st.dE r).ids.Nodup:=by
 have e:(st.dE r).ids=st.ids.filter (fun k=>!Nat.beq k r):=by
  have o:((del st.ae r).map fun p=>(p.1,p.2.map (ap.dE r))).map (·.1)=(del st.ae r).map (·.1):=by simp[List.map_map,Function.comp_def]
  show((del st.ae r).map fun p=>(p.1,p.2.map (ap.dE r))).map (·.1)++(del st.rw r).map (·.1)=_
  rw[o,ng,ng,<-List.filter_append]
  rfl
 rw[e]
 exact h.filter _
structure dG(cx:bJ)(m:Nat->Value)(st:af)(w:World)(r:Nat)(u:Value)(w':World):Prop where
 same:Same w w'
 block:∀b,b<w.heap.size->¬(r∈st.ids/\own (m r) b)->w'.heap[b]? =w.heap[b]?
 place:∀g,own u g->(r∈st.ids/\own (m r) g)\/(w.heap.size<=g/\g<w'.heap.size)
theorem dG.keeps{r:Nat}{u:Value}(o:dG cx m st w r u w'):∀b,b<w.heap.size->¬au cx m st.ids b->w'.heap[b]? =w.heap[b]? :=
 fun b q O=>o.block b q fun⟨R,U⟩=>O (.inr ⟨r,R,U⟩)
theorem dG.mut{r:Nat}{u:Value}{ids:List Nat}(q:∀i,i∈ids->i=r\/i∈st.ids)(O:dG cx m st w r u w'):
  ∀b,b<w.heap.size->au cx (bH m r u) ids b->au cx m st.ids b:=by
 rintro b U (h|⟨i,R,o⟩)
 ·exact .inl h
 ·by_cases e:i=r
  ·subst e
   rw[ct]at o
   rcases O.place b o with h|h
   ·exact .inr ⟨i,h.1,h.2⟩
   ·omega
  ·rw[dk _ _ e]at o
   exact .inr ⟨i,(q i R).resolve_left e,o⟩
theorem ao.JA(h:ao cx m st T w){r:Nat}{u:Value}(o:dG cx m st w r u w'):Frame cx.w0 w' cx.X:=
 h.frame.step o.same fun b O R=>o.block b (Nat.lt_of_lt_of_le O h.frame.size) fun⟨U,W⟩=>by
  rcases(h.lt U W).2 with q|q
  ·omega
  ·exact R q
theorem ao.Lj(h:ao cx m st T w){r:Nat}{u:Value}{ids:List Nat}(q:∀i,i∈ids->i=r\/i∈st.ids)(o:dG cx m st w r u w'):
  ∀i aU,(i,aU)∈(st.dE r).ab->∃v,T[i]? =some v/\aX w' (au cx (bH m r u) ids) (bH m r u) v aU:=by
 intro i aU O
 obtain⟨⟨j,s⟩,R,U⟩:=List.mem_map.1 O
 cases U
 obtain⟨v,W,Y⟩:=h.de j s R
 exact⟨v,W,DF r u (fG o.keeps (o.mut q) Y:aX w' (au cx (bH m r u) ids) m v s)⟩
theorem ao.Ow(h:ao cx m st T w){r:Nat}{u:Value}{ids:List Nat}(U:∀i,i∈ids->i=r\/i∈st.ids)(q:dG cx m st w r u w'):
  ∀b c,(b,c)∈(st.dE r).ae->∃g,iS (bH m r u b) g c/\(∀R,own (bH m r u b) R->cx.w0.heap.size<=R\/cx.X R)/\hd w' (au cx (bH m r u) ids) (bH m r u) (bH m r u b) g c:=by
 intro b c lb
 obtain⟨⟨j,s⟩,O,lc⟩:=List.mem_map.1 lb
 cases lc
 obtain⟨O,W⟩:=dl.1 O
 obtain⟨g,Y,ld,le⟩:=h.boxes j s O
 have Z:j∈st.ids:=List.mem_append.2 (.inl (List.mem_map.2 ⟨_,O,rfl⟩))
 have lf:∀o,own (m j) o->w'.heap[o]? =w.heap[o]? :=fun o la=>q.block o (h.lt Z la).1 fun⟨lg,lh⟩=>h.apart r j lg Z (fun e=>W e.symm) o lh la
 rw[dk _ _ W]
 exact⟨g,j7.2 Y,ld,jA q.keeps (q.mut U) (ig Y) lf (fun v s li=>DF r u (fG q.keeps (q.mut U) li:aX w' (au cx (bH m r u) ids) m v s)) le⟩
theorem ao.Pv(h:ao cx m st T w){r:Nat}{u:Value}{ids:List Nat}(la:∀i,i∈ids->i=r\/i∈st.ids)(o:dG cx m st w r u w'):
  ∀b c,(b,c)∈(st.dE r).rw->∃cells,w'.ownsRow 0 c.e c.t.cells (bH m r u b) c.xs.length cells/\(∀g,own (bH m r u b) g->cx.w0.heap.size<=g\/cx.X g)/\
   bT (aL w' (au cx (bH m r u) ids) c.t) cells c.xs:=by
 intro b c lb
 obtain⟨O,R⟩:=dl.1 lb
 obtain⟨cells,U,lc,ld⟩:=h.rows b c O
 have W:b∈st.ids:=List.mem_append.2 (.inr (List.mem_map.2 ⟨_,O,rfl⟩))
 rw[dk _ _ R]
 refine⟨cells,⟨U.1,?_⟩,lc,dD (fun _ _=>cS o.keeps (o.mut la) c.t) ld⟩
 rcases U.2 with q|⟨g,cap,cur,Y,le,q,rest⟩
 ·exact .inl q
 ·have Z:own (m b) g:=by rw[Y];exact gP rfl
  exact .inr ⟨g,cap,cur,Y,le,by rw[o.block g (h.lt W Z).1 fun⟨lf,lg⟩=>h.apart r b lf W (fun e=>R e.symm) g lg Z];exact q,rest⟩
theorem ao.IQ(h:ao cx m st T w){r:Nat}{u:Value}{ids:List Nat}(U:∀i,i∈ids->i=r\/i∈st.ids)(lb:dG cx m st w r u w'):
  ∀i j,i∈ids->j∈ids->i≠j->∀g,own (bH m r u i) g->¬own (bH m r u j) g:=by
 intro i j le lc O g q o
 by_cases W:i=r
 ·subst W
  rw[ct]at q
  rw[dk _ _ (fun e=>O e.symm)]at o
  have ld:=(U j lc).resolve_left (fun e=>O e.symm)
  rcases lb.place g q with ⟨R,Y⟩|⟨R,_⟩
  ·exact h.apart i j R ld O g Y o
  ·have:=(h.lt ld o).1;omega
 ·rw[dk _ _ W]at q
  have Z:=(U i le).resolve_left W
  by_cases la:j=r
  ·subst la
   rw[ct]at o
   rcases lb.place g o with ⟨R,Y⟩|⟨R,_⟩
   ·exact h.apart i j Z R O g q Y
   ·have:=(h.lt Z q).1;omega
  ·rw[dk _ _ la]at o
   exact h.apart i j Z ((U j lc).resolve_left la) O g q o
def af.dy(st:af)(r:Nat)(c:b7):af:={st.dE r with ae:=(r,c)::(st.dE r).ae}
def af.dJ(st:af)(r:Nat)(c:cV):af:={st.dE r with rw:=(r,c)::(st.dE r).rw}
theorem xA(st:af)(r:Nat)(c:b7):(st.dy r c).ids=r::(st.dE r).ids:=rfl
theorem Ku(st:af)(r:Nat)(c:cV):∀i,i∈(st.dJ r c).ids↔i=r\/i∈(st.dE r).ids:=by
 intro i
 simp only[af.ids,af.dJ,List.map_cons,List.mem_append,List.mem_cons]
 constructor
 ·rintro(h|h|h)
  ·exact .inr (.inl h)
  ·exact .inl h
  ·exact .inr (.inr h)
 ·rintro(h|h|h)
  ·exact .inr (.inl h)
  ·exact .inl h
  ·exact .inr (.inr h)
theorem ao.Lc(h:ao cx m st T w){r:Nat}{u:Value}{b:Nat}{c:b7}(o:(b,c)∈(st.dE r).ae)(q:c.one=true)(O:cx.n<=b):bH m r u b=cx.m0 b:=by
 obtain⟨⟨Z,c'⟩,R,U⟩:=List.mem_map.1 o
 cases U
 obtain⟨W,Y⟩:=dl.1 R
 rw[dk _ _ Y]
 exact h.fixed _ _ W (mB.symm.trans q) O
theorem ao.Im(h:ao cx m st T w){r:Nat}{u:Value}{b:Nat}{c:cV}(o:(b,c)∈(st.dE r).rw)(q:cx.n<=b)(O:eM<=b):bH m r u b=cx.m0 b:=by
 obtain⟨R,U⟩:=dl.1 o
 rw[dk _ _ U]
 exact h.kept _ _ R q O
theorem ao.abD(h:ao cx m st T w){r:Nat}(le:r<cx.n){g:Nat}{c:b7}{u:Value}(Y:iS u g c)(O:dG cx m st w r u w')
  (Z:∀U,own u U->cx.w0.heap.size<=U\/cx.X U)(la:hd w' (au cx (bH m r u) (st.dy r c).ids) (bH m r u) u g c):
  ao cx (bH m r u) (st.dy r c) T w':=by
 have R:∀i,i∈(st.dy r c).ids->i=r\/i∈st.ids:=by
  intro i q
  rw[xA]at q
  rcases List.mem_cons.1 q with q|q
  ·exact .inl q
  ·exact .inr ((nY st r i).1 q).1
 refine{size:=h.size,frame:=h.JA O,outer:=h.outer,de:=h.Lj R O,boxes:=?_,rows:=h.Pv R O,apart:=h.IQ R O,keys:=?_,fixed:=?_,kept:=fun b c' o W lb=>h.Im o W lb}
 ·intro b c' o
  rcases List.mem_cons.1 o with o|o
  ·cases o
   rw[ct]
   exact⟨g,Y,Z,la⟩
  ·exact h.Ow R O b c' o
 ·rw[xA]
  exact List.nodup_cons.2 ⟨fun lc=>((nY st r r).1 lc).2 rfl,Pm h.keys r⟩
 ·intro b c' o ld W
  rcases List.mem_cons.1 o with o|o
  ·cases o;omega
  ·exact h.Lc o ld W
def b7.CW:b7->Bool
 |.ba _ _ _=>false
 |.bw _ _ _ _=>false
 |_=>true
theorem Su{c:b7}(o:c.CW=true)(g:Nat):iS (fK g c) g c:=by
 cases c<;>first|rfl|cases o
theorem mz{c:b7}{g b:Nat}(h:own (fK g c) b):b=g:=by
 cases c<;>exact(Option.some.inj h).symm
theorem ao.dy(h:ao cx m st T w){r:Nat}(o:r<cx.n){g:Nat}{c:b7}(q:dG cx m st w r (fK g c) w')
  (O:cx.w0.heap.size<=g\/cx.X g)(R:hd w' (au cx (bH m r (fK g c)) (st.dy r c).ids) (bH m r (fK g c)) (fK g c) g c)(U:c.CW=true:=by rfl):
  ao cx (bH m r (fK g c)) (st.dy r c) T w':=
 h.abD o (Su U g) q (fun Y W=>by rw[mz W];exact O) R
theorem ao.box(h:ao cx m st T w){b:Nat}{c:b7}(O:(b,c)∈st.ae)(o:c.CW=true:=by rfl):∃g,m b=fK g c/\(cx.w0.heap.size<=g\/cx.X g)/\hd w (au cx m st.ids) m (fK g c) g c:=by
 obtain⟨g,q,R,U⟩:=h.boxes b c O
 have e:m b=fK g c:=by cases c<;>first|exact q|cases o
 exact⟨g,e,R g (ig q (by cases c<;>first|rfl|cases o)),by rw[<-e];exact U⟩
theorem ao.dJ(h:ao cx m st T w){r:Nat}{u:Value}(q:r<cx.n\/r<eM)(O:dG cx m st w r u w'){cells:List Value}{c:cV}
  (la:∀g,own u g->cx.w0.heap.size<=g\/cx.X g)(Y:w'.ownsRow 0 c.e c.t.cells u c.xs.length cells)
  (lb:bT (aL w' (au cx (bH m r u) (st.dJ r c).ids) c.t) cells c.xs):
  ao cx (bH m r u) (st.dJ r c) T w':=by
 have U:∀i,i∈(st.dJ r c).ids->i=r\/i∈st.ids:=by
  intro i R
  rcases(Ku st r c i).1 R with R|R
  ·exact .inl R
  ·exact .inr ((nY st r i).1 R).1
 refine{size:=h.size,frame:=h.JA O,outer:=h.outer,de:=h.Lj U O,boxes:=h.Ow U O,rows:=?_,apart:=h.IQ U O,keys:=?_,fixed:=fun b c' o lc W=>h.Lc o lc W,kept:=fun b c' o W Z=>?_}
 rotate_left 2
 ·rcases List.mem_cons.1 o with o|o
  ·cases o
   rcases q with q|q
   ·exact absurd W (Nat.not_le.2 q)
   ·exact absurd Z (Nat.not_le.2 q)
  ·exact h.Im o W Z
 ·intro b c' o
  rcases List.mem_cons.1 o with o|o
  ·cases o
   rw[ct]
   exact⟨cells,Y,la,lb⟩
  ·exact h.Pv U O b c' o
 ·have ld:(st.dJ r c).ids.Perm (r::(st.dE r).ids):=by
   show((st.dE r).ae.map (·.1)++r::(st.dE r).rw.map (·.1)).Perm _
   exact List.perm_middle
  exact ld.nodup_iff.2 (List.nodup_cons.2 ⟨fun Y=>((nY st r r).1 Y).2 rfl,Pm h.keys r⟩)
theorem dG.fresh(h:ao cx m st T w)(r:Nat)(u:Value)(o:Ext w w')(q:∀g,own u g->w.heap.size<=g/\g<w'.heap.size):dG cx m st w r u w':=
 ⟨o.toSame,fun b O _=>o.block b O,fun g R=>.inr (q g R)⟩
end Go.Ev
namespace Go.Ev
open Go Go.RowKit
variable [cm]
variable {cx:bJ} {m:Nat->Value} {st:af} {T:Array Value} {w w':World}
variable [aj cx]
theorem ne{ids q:List Nat}(h:∀i,i∈q->i∈ids){b:Nat}(o:au cx m q b):au cx m ids b:=by
 rcases o with o|⟨i,O,R⟩
 ·exact .inl o
 ·exact .inr ⟨i,h i O,R⟩
def af.dr(st:af)(r:Nat)(c:b7):af:={st with ae:=(r,c)::del st.ae r}
def af.setRow(st:af)(r:Nat)(c:cV):af:={st with rw:=(r,c)::del st.rw r}
theorem aaY{l:List (Nat×b7)}{k:List Nat}(h:(l.map (·.1)++k).Nodup)(r:Nat):((del l r).map (·.1)++k).Nodup:=by
 rw[ng]
 exact h.sublist (List.Sublist.append List.filter_sublist (List.Sublist.refl _))
theorem k7{r:Nat}{O:b7}(R:(r,O)∈st.ae)(U:st.ids.Nodup)(c:b7):(∀i,i∈(st.dr r c).ids↔i∈st.ids)/\(st.dr r c).ids.Nodup:=by
 have W:∀i,i∈(st.dr r c).ids↔i∈st.ids:=by
  intro i
  simp only[af.ids,af.dr,List.map_cons,List.mem_append,List.mem_cons,List.mem_map]
  constructor
  ·rintro((h|⟨⟨b,s⟩,o,rfl⟩)|h)
   ·exact .inl ⟨(r,O),R,h.symm⟩
   ·exact .inl ⟨_,(dl.1 o).1,rfl⟩
   ·exact .inr h
  ·rintro(⟨⟨b,s⟩,o,rfl⟩|h)
   ·by_cases e:b=r
    ·exact .inl (.inl e)
    ·exact .inl (.inr ⟨(b,s),dl.2 ⟨o,e⟩,rfl⟩)
   ·exact .inr h
 refine⟨W,?_⟩
 show(r::((del st.ae r).map (·.1)++st.rw.map (·.1))).Nodup
 refine List.nodup_cons.2 ⟨fun q=>?_,aaY U r⟩
 rcases List.mem_append.1 q with q|q
 ·obtain⟨⟨b,s⟩,o,e⟩:=List.mem_map.1 q
  exact(dl.1 o).2 e
 ·exact(List.nodup_append.1 U).2.2 r (List.mem_map.2 ⟨_,R,rfl⟩) r q rfl
theorem pa{r:Nat}{O:cV}(R:(r,O)∈st.rw)(U:st.ids.Nodup)(c:cV):(∀i,i∈(st.setRow r c).ids↔i∈st.ids)/\(st.setRow r c).ids.Nodup:=by
 have W:∀i,i∈(st.setRow r c).ids↔i∈st.ids:=by
  intro i
  simp only[af.ids,af.setRow,List.map_cons,List.mem_append,List.mem_cons,List.mem_map]
  constructor
  ·rintro(h|h|⟨⟨b,s⟩,o,rfl⟩)
   ·exact .inl h
   ·exact .inr ⟨(r,O),R,h.symm⟩
   ·exact .inr ⟨_,(dl.1 o).1,rfl⟩
  ·rintro(h|⟨⟨b,s⟩,o,rfl⟩)
   ·exact .inl h
   ·by_cases e:b=r
    ·exact .inr (.inl e)
    ·exact .inr (.inr ⟨(b,s),dl.2 ⟨o,e⟩,rfl⟩)
 refine⟨W,?_⟩
 have o:(st.setRow r c).ids.Perm (r::(st.ae.map (·.1)++(del st.rw r).map (·.1))):=by
  show(st.ae.map (·.1)++r::(del st.rw r).map (·.1)).Perm _
  exact List.perm_middle
 refine o.nodup_iff.2 (List.nodup_cons.2 ⟨fun q=>?_,?_⟩)
 ·rcases List.mem_append.1 q with q|q
  ·exact(List.nodup_append.1 U).2.2 r q r (List.mem_map.2 ⟨_,R,rfl⟩) rfl
  ·obtain⟨⟨b,s⟩,o,e⟩:=List.mem_map.1 q
   exact(dl.1 o).2 e
 ·rw[ng]
  exact U.sublist (List.Sublist.append (List.Sublist.refl _) List.filter_sublist)
structure Touch(m:Nat->Value)(w:World)(r:Nat)(w':World):Prop where
 same:Same w w'
 block:∀b,b<w.heap.size->¬own (m r) b->w'.heap[b]? =w.heap[b]?
theorem ao.ia{r:Nat}(o:r∈st.ids)(q:Touch m w r w'){ids:List Nat}(O:∀i,i∈ids↔i∈st.ids):
  (∀b,b<w.heap.size->¬au cx m st.ids b->w'.heap[b]? =w.heap[b]?)/\(∀b,b<w.heap.size->au cx m ids b->au cx m st.ids b):=
 ⟨fun b R U=>q.block b R fun e=>U (.inr ⟨r,o,e⟩),fun _ _ h=>ne (fun i W=>(O i).1 W) h⟩
theorem ao.Ek(h:ao cx m st T w){r:Nat}(O:r∈st.ids)(o:Touch m w r w'):Frame cx.w0 w' cx.X:=
 h.frame.step o.same fun b R U=>o.block b (Nat.lt_of_lt_of_le R h.frame.size) fun e=>by
  rcases(h.lt O e).2 with q|q
  ·omega
  ·exact U q
theorem ao.Nf(h:ao cx m st T w){r:Nat}(O:r∈st.ids)(R:Touch m w r w'){j g:Nat}(o:j∈st.ids)(U:j≠r)(q:own (m j) g):w'.heap[g]? =w.heap[g]? :=
 R.block g (h.lt o q).1 fun e=>h.apart r j O o (fun e=>U e.symm) g e q
theorem ao.Py(h:ao cx m st T w){r:Nat}(q:r∈st.ids)(O:Touch m w r w'){ids:List Nat}(W:∀i,i∈ids↔i∈st.ids){b:Nat}{c:b7}(R:(b,c)∈st.ae)(Y:b≠r):
  ∃g,iS (m b) g c/\(∀o,own (m b) o->cx.w0.heap.size<=o\/cx.X o)/\hd w' (au cx m ids) m (m b) g c:=by
 obtain⟨Z,la⟩:=ao.ia (cx:=cx) q O W
 obtain⟨g,U,lb,lc⟩:=h.boxes b c R
 have ld:b∈st.ids:=List.mem_append.2 (.inl (List.mem_map.2 ⟨_,R,rfl⟩))
 exact⟨g,U,lb,Fz (ig U) (fun lf le=>h.Nf q O ld Y le) Z la lc⟩
theorem ao.IR(h:ao cx m st T w){r:Nat}(q:r∈st.ids)(O:Touch m w r w'){ids:List Nat}(Y:∀i,i∈ids↔i∈st.ids){b:Nat}{c:cV}(R:(b,c)∈st.rw)(Z:b≠r):
  ∃cells,w'.ownsRow 0 c.e c.t.cells (m b) c.xs.length cells/\(∀g,own (m b) g->cx.w0.heap.size<=g\/cx.X g)/\bT (aL w' (au cx m ids) c.t) cells c.xs:=by
 obtain⟨la,lb⟩:=ao.ia (cx:=cx) q O Y
 obtain⟨cells,U,lc,ld⟩:=h.rows b c R
 have le:b∈st.ids:=List.mem_append.2 (.inr (List.mem_map.2 ⟨_,R,rfl⟩))
 refine⟨cells,⟨U.1,?_⟩,lc,dD (fun _ _=>cS la lb c.t) ld⟩
 rcases U.2 with o|⟨g,cap,cur,W,lf,o,rest⟩
 ·exact .inl o
 ·have lg:own (m b) g:=by rw[W];exact gP rfl
  exact .inr ⟨g,cap,cur,W,lf,by rw[h.Nf q O le Z lg];exact o,rest⟩
theorem ao.Pj(h:ao cx m st T w){r:Nat}(o:r∈st.ids)(q:Touch m w r w'){ids:List Nat}(O:∀i,i∈ids↔i∈st.ids):
  ∀i aU,(i,aU)∈st.ab->∃v,T[i]? =some v/\aX w' (au cx m ids) m v aU:=fun i aU R=>by
 obtain⟨U,W⟩:=ao.ia (cx:=cx) o q O
 obtain⟨v,Y,Z⟩:=h.de i aU R
 exact⟨v,Y,fG U W Z⟩
theorem ao.dr(h:ao cx m st T w){r:Nat}{W c:b7}(q:(r,W)∈st.ae)(R:Touch m w r w'){g:Nat}
  (lb:iS (m r) g c)(lc:hd w' (au cx m (st.dr r c).ids) m (m r) g c)(Y:c.one=true->W.one=true:=by first|exact id|exact fun _=>rfl):ao cx m (st.dr r c) T w':=by
 obtain⟨O,ld⟩:=k7 q h.keys c
 have U:r∈st.ids:=List.mem_append.2 (.inl (List.mem_map.2 ⟨_,q,rfl⟩))
 refine{size:=h.size,frame:=h.Ek U R,outer:=h.outer,de:=h.Pj U R O,boxes:=?_,rows:=?_,apart:=?_,keys:=ld,fixed:=?_,kept:=h.kept}
 ·intro b c' o
  rcases List.mem_cons.1 o with o|o
  ·cases o
   obtain⟨li,lj,le,_⟩:=h.boxes r W q
   exact⟨g,lb,le,lc⟩
  ·obtain⟨Y,lf⟩:=dl.1 o
   exact h.Py U R O Y lf
 ·intro b c' o
  refine h.IR U R O o ?_
  rintro rfl
  exact(List.nodup_append.1 h.keys).2.2 b (List.mem_map.2 ⟨_,q,rfl⟩) b (List.mem_map.2 ⟨_,o,rfl⟩) rfl
 ·exact fun i j lg lh=>h.apart i j ((O i).1 lg) ((O j).1 lh)
 ·intro b c' o Z la
  rcases List.mem_cons.1 o with o|o
  ·cases o;exact h.fixed _ _ q (Y Z) la
  ·exact h.fixed _ _ (dl.1 o).1 Z la
theorem ao.UX(h:ao cx m st T w){r:Nat}{R c:cV}(U:(r,R)∈st.rw):∀b c',(b,c')∈(st.setRow r c).rw->cx.n<=b->eM<=b->m b=cx.m0 b:=by
 intro b c' o q O
 rcases List.mem_cons.1 o with o|o
 ·cases o;exact h.kept _ _ U q O
 ·exact h.kept _ _ (dl.1 o).1 q O
theorem ao.setRow(h:ao cx m st T w){r:Nat}{W c:cV}(q:(r,W)∈st.rw)(R:Touch m w r w'){cells:List Value}
  (Y:w'.ownsRow 0 c.e c.t.cells (m r) c.xs.length cells)(Z:bT (aL w' (au cx m (st.setRow r c).ids) c.t) cells c.xs):ao cx m (st.setRow r c) T w':=by
 obtain⟨O,la⟩:=pa q h.keys c
 have U:r∈st.ids:=List.mem_append.2 (.inr (List.mem_map.2 ⟨_,q,rfl⟩))
 refine{size:=h.size,frame:=h.Ek U R,outer:=h.outer,de:=h.Pj U R O,boxes:=?_,rows:=?_,apart:=?_,keys:=la,fixed:=h.fixed,kept:=h.UX q}
 ·intro b c' o
  refine h.Py U R O o ?_
  rintro rfl
  exact(List.nodup_append.1 h.keys).2.2 b (List.mem_map.2 ⟨_,o,rfl⟩) b (List.mem_map.2 ⟨_,q,rfl⟩) rfl
 ·intro b c' o
  rcases List.mem_cons.1 o with o|o
  ·cases o
   obtain⟨_,_,lb,_⟩:=h.rows r W q
   exact⟨cells,Y,lb,Z⟩
  ·obtain⟨lc,ld⟩:=dl.1 o
   exact h.IR U R O lc ld
 ·exact fun i j le lf=>h.apart i j ((O i).1 le) ((O j).1 lf)
theorem ao.weaken(h:ao cx m st T w){st':af}(ld:∀i aU,(i,aU)∈st'.ab->(i,aU)∈st.ab)(R:∀p,p∈st'.ae->p∈st.ae)(U:∀p,p∈st'.rw->p∈st.rw)(le:st'.ids.Nodup):ao cx m st' T w:=by
 have W:∀i,i∈st'.ids->i∈st.ids:=by
  intro i o
  rcases List.mem_append.1 o with o|o
  ·obtain⟨p,Y,rfl⟩:=List.mem_map.1 o;exact List.mem_append.2 (.inl (List.mem_map.2 ⟨p,R p Y,rfl⟩))
  ·obtain⟨p,Y,rfl⟩:=List.mem_map.1 o;exact List.mem_append.2 (.inr (List.mem_map.2 ⟨p,U p Y,rfl⟩))
 have Z:∀b,b<w.heap.size->¬au cx m st.ids b->w.heap[b]? =w.heap[b]? :=fun _ _ _=>rfl
 have la:∀b,b<w.heap.size->au cx m st'.ids b->au cx m st.ids b:=fun _ _ h=>ne W h
 refine{size:=h.size,frame:=h.frame,outer:=h.outer,de:=fun i aU o=>?_,boxes:=fun b c q=>?_,rows:=fun b c q=>?_,apart:=fun i j o lf=>h.apart i j (W i o) (W j lf),keys:=le,fixed:=fun b c q=>h.fixed b c (R _ q),kept:=fun b c q=>h.kept b c (U _ q)}
 ·obtain⟨v,lg,lh⟩:=h.de i aU (ld i aU o)
  exact⟨v,lg,fG Z la lh⟩
 ·obtain⟨g,O,lb,lc⟩:=h.boxes b c (R _ q)
  exact⟨g,O,lb,Fz (ig O) (fun _ _=>rfl) Z la lc⟩
 ·obtain⟨cells,O,lb,lc⟩:=h.rows b c (U _ q)
  exact⟨cells,O,lb,dD (fun _ _=>cS Z la c.t) lc⟩
def nX{α:Type}(l:List (Nat×α)):List Nat->Option (List (Nat×α))
 |[]=>some []
 |k::o=>match look l k,nX l o with
  |some v,some r=>some ((k,v)::r)
  |_,_=>none
theorem rg{α:Type}{l:List (Nat×α)}:∀{q:List Nat} {r:List (Nat×α)},nX l q=some r->∀p,p∈r->p∈l
 |[],r,h,p,o=>by cases h;simp at o
 |k::q,r,h,p,o=>by
  unfold nX at h
  split at h
  ·rename_i v U O R
   cases h
   rcases List.mem_cons.1 o with rfl|o
   ·exact be O
   ·exact rg R p o
  ·cases h
theorem F4{α:Type}{l:List (Nat×α)}:∀{o:List Nat} {r:List (Nat×α)},nX l o=some r->r.map (·.1)=o
 |[],r,h=>by cases h;rfl
 |k::o,r,h=>by
  unfold nX at h
  split at h
  ·rename_i v O R q
   cases h
   simp[F4 q]
  ·cases h
def nodupB:List Nat->Bool
 |[]=>true
 |k::o=>!(o.any (Nat.beq k))&&nodupB o
theorem gT:∀{l:List Nat},nodupB l=true->l.Nodup
 |[],_=>List.nodup_nil
 |k::q,h=>by
  simp only[nodupB,Bool.and_eq_true,Bool.not_eq_true']at h
  refine List.nodup_cons.2 ⟨fun o=>?_,gT h.2⟩
  have:=List.any_eq_false.1 h.1 k o
  rw[Nat.beq_refl]at this
  exact this rfl
def af.norm(st:af)(o bs aq:List Nat):Option af:=
 match nX st.ab o,nX st.ae bs,nX st.rw aq,nodupB (bs++aq)with
 |some a,some b,some c,true=>some ⟨a,b,c⟩
 |_,_,_,_=>none
theorem ao.norm(h:ao cx m st T w){U bs aq:List Nat}{st':af}(o:st.norm U bs aq=some st'):ao cx m st' T w:=by
 unfold af.norm at o
 split at o
 ·rename_i a b c W O R Y
  cases o
  refine h.weaken (fun i aU Z=>rg W _ Z) (fun p q=>rg O p q) (fun p q=>rg R p q) ?_
  show(b.map (·.1)++c.map (·.1)).Nodup
  rw[F4 O,F4 R]
  exact gT Y
 ·cases o
theorem ao.wV(h:ao cx m st T w){r:Nat}{c:cV}(R:(r,c)∈st.rw){M:Nat->Prop}(U:∀b,b<w.heap.size->M b->au cx m st.ids b)(W:∀g,own (m r) g->¬M g):
  aL w M (.ab c.t) [m r] c.xs:=by
 obtain⟨cells,O,ld,Y⟩:=h.rows r c R
 rcases O.2 with ⟨o,Z⟩|⟨g,cap,cur,o,_,le,la,lb,lf,lg⟩
 ·have lc:c.xs=[]:=List.eq_nil_of_length_eq_zero Z
  rw[lc,o]
  refine⟨none,0,[],rfl,Nat.le_refl _,by decide,fun _=>rfl,rfl,fun j u q=>by simp at q⟩
 ·refine⟨some ⟨g,0,none⟩,cap,cells,by rw[o],la,lb,(fun e=>by cases e),dD (fun _ _=>cS (fun _ _ _=>rfl) U c.t) Y,fun j u q=>⟨_,rfl,?_,W g (by rw[o];rfl)⟩⟩
  exact O.cells (g:=g) (by rw[o];rfl) j u q
def b9.freeze(r:Nat)(c:cV):b9->b9
 |.r b=>bif Nat.beq b r then .v ⟨.ab c.t,c.xs⟩else .r b
 |s=>s
def ap.freeze(r:Nat)(c:cV):ap->ap
 |.row b=>bif Nat.beq b r then .val (.ab c.t) c.xs else .row b
 |.gh l=>.gh (l.map (b9.freeze r c))
 |.fe l=>.fe (l.map (b9.freeze r c))
 |s=>s
theorem rt{w:World}{M:Nat->Prop}{m:Nat->Value}{r:Nat}{c:cV}(o:aL w M (.ab c.t) [m r] c.xs):∀{vs:List Value} {l:List b9},dq w M m vs l->dq w M m vs (l.map (b9.freeze r c))
 |[],[],_=>trivial
 |[],_::_,h=>h.elim
 |_::_,[],h=>h.elim
 |_::_,.v _::_,⟨q,O⟩=>⟨q,rt o O⟩
 |_::vs,.a::l,h=>rt (vs:=vs) (l:=l) o h
 |v::_,.r b::_,⟨q,O⟩=>by
  show dq _ _ _ _ ((bif Nat.beq b r then .v ⟨.ab c.t,c.xs⟩else .r b)::_)
  cases R:Nat.beq b r with
  |false=>exact⟨q,rt o O⟩
  |true=>
   have e:=Nat.eq_of_beq_eq_true R
   subst e
   subst q
   exact⟨o,rt o O⟩
def af.freeze(st:af)(r:Nat)(c:cV):af:=
 {ab:=st.ab.map fun p=>(p.1,p.2.freeze r c),ae:=st.ae.map fun p=>(p.1,p.2.map (ap.freeze r c)),rw:=del st.rw r}
theorem ao.freeze(h:ao cx m st T w){r:Nat}{c:cV}(lc:(r,c)∈st.rw):ao cx m (st.freeze r c) T w:=by
 have Z:∀i,i∈(st.freeze r c).ids->i∈st.ids/\i≠r:=by
  intro i o
  have lo:∀c',(r,c')∉st.ae:=fun c' ld=>(List.nodup_append.1 h.keys).2.2 r (List.mem_map.2 ⟨_,ld,rfl⟩) r (List.mem_map.2 ⟨_,lc,rfl⟩) rfl
  rcases List.mem_append.1 o with o|o
  ·obtain⟨⟨b,s⟩,q,rfl⟩:=List.mem_map.1 o
   obtain⟨⟨lw,lp⟩,lj,R⟩:=List.mem_map.1 q
   cases R
   exact⟨List.mem_append.2 (.inl (List.mem_map.2 ⟨_,lj,rfl⟩)),fun e=>lo lp (by simp only at e;rw[<-e];exact lj)⟩
  ·obtain⟨⟨b,s⟩,q,rfl⟩:=List.mem_map.1 o
   obtain⟨U,O⟩:=dl.1 q
   exact⟨List.mem_append.2 (.inr (List.mem_map.2 ⟨_,U,rfl⟩)),O⟩
 have lk:r∈st.ids:=List.mem_append.2 (.inr (List.mem_map.2 ⟨_,lc,rfl⟩))
 have le:∀b,b<w.heap.size->¬au cx m st.ids b->w.heap[b]? =w.heap[b]? :=fun _ _ _=>rfl
 have la:∀b,b<w.heap.size->au cx m (st.freeze r c).ids b->au cx m st.ids b:=fun _ _ h=>ne (fun i o=>(Z i o).1) h
 have lf:aL w (au cx m (st.freeze r c).ids) (.ab c.t) [m r] c.xs:=by
  refine h.wV lc la fun g ll=>?_
  rintro(lq|⟨i,o,lr⟩)
  ·have U:=h.outer g lq
   rcases(h.lt lk ll).2 with O|O
   ·omega
   ·exact U.2 O
  ·obtain⟨U,O⟩:=Z i o
   exact h.apart i r U lk O g lr ll
 have lm:∀v s,aX w (au cx m st.ids) m v s->aX w (au cx m (st.freeze r c).ids) m v (s.freeze r c):=by
  intro v s ln
  have lb:=fG (w':=w) (m:=m) le la ln
  cases s with
  |row b=>
   show aX _ _ _ _ (bif Nat.beq b r then .val (.ab c.t) c.xs else .row b)
   cases ld:Nat.beq b r with
   |false=>exact lb
   |true=>
    have e:=Nat.eq_of_beq_eq_true ld
    subst e
    have:v=m b:=ln
    subst this
    exact lf
  |gh l=>obtain⟨vs,e,lg⟩:=lb;exact⟨vs,e,rt lf lg⟩
  |fe l=>obtain⟨vs,e,lg⟩:=lb;exact⟨vs,e,rt lf lg⟩
  |_=>exact lb
 have ls:(st.freeze r c).ids.Sublist st.ids:=by
  have Y:(st.freeze r c).ae.map (·.1)=st.ae.map (·.1):=by simp[af.freeze,List.map_map,Function.comp_def]
  show((st.freeze r c).ae.map (·.1)++(del st.rw r).map (·.1)).Sublist (st.ae.map (·.1)++st.rw.map (·.1))
  rw[Y,ng]
  exact List.Sublist.append (List.Sublist.refl _) List.filter_sublist
 refine{size:=h.size,frame:=h.frame,outer:=h.outer,de:=fun i aU o=>?_,boxes:=fun b c' W=>?_,rows:=fun b c' W=>?_,apart:=fun i j o lt=>h.apart i j (Z i o).1 (Z j lt).1,keys:=h.keys.sublist ls,fixed:=?_,kept:=fun b c' W=>h.kept b c' (dl.1 W).1}
 ·obtain⟨⟨j,s⟩,q,R⟩:=List.mem_map.1 o
  cases R
  obtain⟨v,U,O⟩:=h.de j s q
  exact⟨v,U,lm v s O⟩
 ·obtain⟨⟨j,s⟩,q,R⟩:=List.mem_map.1 W
  cases R
  obtain⟨g,Y,lh,li⟩:=h.boxes j s q
  exact⟨g,j7.2 Y,lh,jA le la (ig Y) (fun _ _=>rfl) lm li⟩
 ·obtain⟨q,_⟩:=dl.1 W
  obtain⟨cells,Y,lh,li⟩:=h.rows b c' q
  exact⟨cells,Y,lh,dD (fun _ _=>cS le la c'.t) li⟩
 ·intro b c' W lu lv
  obtain⟨⟨j,s⟩,q,R⟩:=List.mem_map.1 W
  cases R
  exact h.fixed _ _ q (mB.symm.trans lu) lv
/-! A map given up: it is only read from here on. -/
def b9.ph(r:Nat)(k v:ah)(ps:List (k.el×v.el)):b9->b9
 |.v u=>.v u
 |.r b=>bif Nat.beq b r then .v ⟨.map k v,some ps⟩else .r b
 |.a=>.a
def ap.ph(r:Nat)(k v:ah)(ps:List (k.el×v.el)):ap->ap
 |.iter b=>bif Nat.beq b r then .val (.map k v) (some ps)else .iter b
 |.row b=>bif Nat.beq b r then .val (.map k v) (some ps)else .row b
 |.gh l=>.gh (l.map (b9.ph r k v ps))
 |.fe l=>.fe (l.map (b9.ph r k v ps))
 |s=>bif s.refs r then .any else s
def af.fP(st:af)(r:Nat)(k v:ah)(ps:List (k.el×v.el)):af:=
 {ab:=st.ab.map fun p=>(p.1,p.2.ph r k v ps),ae:=(del st.ae r).map fun p=>(p.1,p.2.map (ap.ph r k v ps)),rw:=st.rw}
theorem qR{w:World}{M:Nat->Prop}{m:Nat->Value}{r:Nat}{k v:ah}{ps:List (k.el×v.el)}(o:aL w M (.map k v) [m r] (some ps)):∀{vs:List Value} {l:List b9},dq w M m vs l->dq w M m vs (l.map (b9.ph r k v ps))
 |[],[],_=>trivial
 |[],_::_,h=>h.elim
 |_::_,[],h=>h.elim
 |_::_,.v u::_,⟨q,O⟩=>⟨q,qR o O⟩
 |_::vs,.a::l,h=>qR (vs:=vs) (l:=l) o h
 |x::_,.r b::_,⟨q,O⟩=>by
  show dq w M m _ ((bif Nat.beq b r then b9.v ⟨.map k v,some ps⟩else b9.r b)::_)
  cases R:Nat.beq b r with
  |false=>exact⟨q,qR o O⟩
  |true=>
   have e:=Nat.eq_of_beq_eq_true R
   subst e
   refine⟨?_,qR o O⟩
   rw[q]
   exact o
theorem ao.fP(h:ao cx m st T w){r:Nat}{k v:ah}{ps:List (k.el×v.el)}(lh:(r,b7.mp k v ps)∈st.ae):ao cx m (st.fP r k v ps) T w:=by
 have ld:∀i,i∈(st.fP r k v ps).ids->i∈st.ids/\i≠r:=by
  intro i O
  have lp:∀c',(r,c')∉st.rw:=fun c' li=>(List.nodup_append.1 h.keys).2.2 r (List.mem_map.2 ⟨_,lh,rfl⟩) r (List.mem_map.2 ⟨_,li,rfl⟩) rfl
  rcases List.mem_append.1 O with O|O
  ·obtain⟨⟨b,s⟩,R,rfl⟩:=List.mem_map.1 O
   obtain⟨⟨lD,lE⟩,lq,W⟩:=List.mem_map.1 R
   cases W
   obtain⟨Z,la⟩:=dl.1 lq
   exact⟨List.mem_append.2 (.inl (List.mem_map.2 ⟨_,Z,rfl⟩)),la⟩
  ·obtain⟨⟨b,s⟩,R,rfl⟩:=List.mem_map.1 O
   exact⟨List.mem_append.2 (.inr (List.mem_map.2 ⟨_,R,rfl⟩)),fun e=>lp s (by simp only at e;rw[<-e];exact R)⟩
 have lm:r∈st.ids:=List.mem_append.2 (.inl (List.mem_map.2 ⟨_,lh,rfl⟩))
 have lb:∀b,b<w.heap.size->¬au cx m st.ids b->w.heap[b]? =w.heap[b]? :=fun _ _ _=>rfl
 have lc:∀b,b<w.heap.size->au cx m (st.fP r k v ps).ids b->au cx m st.ids b:=fun _ _ h=>ne (fun i O=>(ld i O).1) h
 obtain⟨g0,U,le,es,lr,Z,la,ls,lt⟩:=h.box lh
 have ln:own (m r) g0:=by rw[U];exact gP rfl
 have lf:aL w (au cx m (st.fP r k v ps).ids) (.map k v) [m r] (some ps):=by
  refine⟨g0,es,lr,by rw[U];rfl,Z,?_,la,ls,io (fun _ _ h=>dC lb lc h) (fun _ _ h=>dC lb lc h) lt⟩
  rintro(lu|⟨i,O,lv⟩)
  ·have lj:=h.outer g0 lu
   rcases(h.lt lm ln).2 with lg|lg
   ·omega
   ·exact lj.2 lg
  ·obtain⟨lj,lg⟩:=ld i O
   exact h.apart i r lj lm lg g0 lv ln
 have lo:∀v' s,aX w (au cx m st.ids) m v' s->aX w (au cx m (st.fP r k v ps).ids) m v' (s.ph r k v ps):=by
  intro v' s lw
  have o:=fG (w':=w) (m:=m) lb lc lw
  have q:∀s:ap,aX w (au cx m (st.fP r k v ps).ids) m v' s->aX w (au cx m (st.fP r k v ps).ids) m v' (bif s.refs r then .any else s):=by
   intro s lx
   cases s.refs r with
   |true=>trivial
   |false=>exact lx
  have ai:∀b,v'=m b->aX w (au cx m (st.fP r k v ps).ids) m v' (bif Nat.beq b r then .val (.map k v) (some ps)else .iter b)/\aX w (au cx m (st.fP r k v ps).ids) m v' (bif Nat.beq b r then .val (.map k v) (some ps)else .row b):=by
   intro b e
   cases li:Nat.beq b r with
   |false=>exact⟨e,e⟩
   |true=>
    have ly:=Nat.eq_of_beq_eq_true li
    subst ly
    subst e
    exact⟨lf,lf⟩
  cases s with
  |iter b=>exact(ai b o).1
  |row b=>exact(ai b o).2
  |gh l=>obtain⟨vs,e,lk⟩:=o;exact⟨vs,e,qR lf lk⟩
  |fe l=>obtain⟨vs,e,lk⟩:=o;exact⟨vs,e,qR lf lk⟩
  |any=>exact q _ o
  |undef=>exact q _ o
  |val t x=>exact q _ o
  |dW l=>exact q _ o
  |ptr b aa=>exact q _ o
  |fC b=>exact q _ o
  |vptr t x=>exact q _ o
  |ep a b c d=>exact q _ o
  |clos f bs=>exact q _ o
  |dP b p=>exact q _ o
  |osl b=>exact q _ o
  |gb b i=>exact q _ o
  |sub b i=>exact q _ o
  |ck f b=>exact q _ o
  |en b i aa s=>exact q _ o
  |fA b i j aa s=>exact q _ o
  |ai n=>exact q _ o
 have lz:(st.fP r k v ps).ids.Sublist st.ids:=by
  have U:(st.fP r k v ps).ae.map (·.1)=(del st.ae r).map (·.1):=by simp[af.fP,List.map_map,Function.comp_def]
  show((st.fP r k v ps).ae.map (·.1)++st.rw.map (·.1)).Sublist (st.ae.map (·.1)++st.rw.map (·.1))
  rw[U,ng]
  exact List.Sublist.append List.filter_sublist (List.Sublist.refl _)
 refine{size:=h.size,frame:=h.frame,outer:=h.outer,de:=fun i aU O=>?_,boxes:=fun b c' Y=>?_,rows:=fun b c' Y=>?_,apart:=fun i j O lA=>h.apart i j (ld i O).1 (ld j lA).1,keys:=h.keys.sublist lz,fixed:=?_,kept:=fun b c' Y=>h.kept b c' Y}
 ·obtain⟨⟨j,s⟩,R,W⟩:=List.mem_map.1 O
  cases W
  obtain⟨v,Z,la⟩:=h.de j s R
  exact⟨v,Z,lo v s la⟩
 ·obtain⟨⟨j,s⟩,R,W⟩:=List.mem_map.1 Y
  cases W
  obtain⟨g,U,le,ll⟩:=h.boxes j s (dl.1 R).1
  exact⟨g,j7.2 U,le,jA lb lc (ig U) (fun _ _=>rfl) lo ll⟩
 ·obtain⟨cells,U,le,ll⟩:=h.rows b c' Y
  exact⟨cells,U,le,dD (fun _ _=>cS lb lc c'.t) ll⟩
 ·intro b c' Y lB lC
  obtain⟨⟨j,s⟩,R,W⟩:=List.mem_map.1 Y
  cases W
  exact h.fixed _ _ (dl.1 R).1 (mB.symm.trans lB) lC
end Go.Ev
namespace Go.Ev
open Go Go.RowKit
variable [cm]
theorem ak.dx{v:ak}{u:ah}{x:u.el}(h:v.as u=some x):v=⟨u,x⟩:=by
 unfold ak.as at h
 split at h
 ·rename_i o
  obtain⟨t,y⟩:=v
  have e:t=u:=ah.eq_of_beq o
  subst e
  simp only[Option.some.injEq]at h
  subst h
  rfl
 ·cases h
def fieldsOf(f:TypeId->Option ah):Nat->List Field->Option ah
 |_,[]=>some .unit
 |off,o::an=>
  bif Nat.beq o.offset off then
   match f o.type with
   |some a=>match fieldsOf f (off+a.cells) an with
    |some b=>some (.pair a b)
    |none=>none
   |none=>none
  else none
def isNamed:TypeDesc->Bool
 |.named _ _=>true
 |_=>false
def dc(P:Program):Nat->TypeId->Option ah
 |0,_=>none
 |d+1,t=>
  match P.info? t,P.underlying t with
  |some i,some (.int k)=>bif Nat.beq i.size 1 then some (.int k)else none
  |some i,some .bool=>bif Nat.beq i.size 1 then some .bool else none
  |some i,some .string=>bif Nat.beq i.size 1 then some .str else none
  |some i,some (.slice e)=>bif Nat.beq i.size 1 then(match dc P d e with|some u=>some (.ab u)|none=>none)else none
  |some i,some (.struct an)=>match fieldsOf (dc P d) 0 an.toList with
   |some u=>bif Nat.beq i.size u.cells then some u else none
   |none=>none
  |some i,some (.interface _)=>bif Nat.beq i.size 1 then some .err else none
  |some i,some (.array n e)=>match dc P d e with
   |some u=>bif Nat.beq i.size (n*u.cells)then some (.arr n u)else none
   |none=>none
  |some i,some (.map k e)=>bif Nat.beq i.size 1 then(match dc P d k,dc P d e with
   |some a,some b=>some (.map a b)
   |_,_=>none)else none
  |some i,some (.func _ aq _)=>bif Nat.beq i.size 1 then(bif isNamed i.desc&&!Nat.beq aq.size 0 then some .dj else some .cO)else none
  |some i,some (.pointer _)=>bif Nat.beq i.size 1 then some .cO else none
  |_,_=>none
def jn:Nat:=12
def ty(P:Program)(t:TypeId):Option ah:=dc P jn t
theorem LF{f:TypeId->Option ah}{off:Nat}{an:List Field}{u:ah}(h:fieldsOf f off an=some u):u.agg=true:=by
 cases an with
 |nil=>simp only[fieldsOf,Option.some.injEq]at h;subst h;rfl
 |cons q an=>
  unfold fieldsOf at h
  cases o:Nat.beq q.offset off with
  |false=>rw[o]at h;cases h
  |true=>
   rw[o,cond_true]at h
   split at h
   ·split at h
    ·cases h;rfl
    ·cases h
   ·cases h
theorem UT{f:TypeId->Option ah}{off:Nat}{an:List Field}{u:ah}(h:fieldsOf f off an=some u):u=.unit\/∃a b,u=.pair a b:=by
 cases an with
 |nil=>simp only[fieldsOf,Option.some.injEq]at h;exact .inl h.symm
 |cons q an=>
  unfold fieldsOf at h
  cases o:Nat.beq q.offset off with
  |false=>rw[o]at h;cases h
  |true=>
   rw[o,cond_true]at h
   split at h
   ·split at h
    ·cases h;exact .inr ⟨_,_,rfl⟩
    ·cases h
   ·cases h
theorem dw{P:Program}{d:Nat}{t:TypeId}{u:ah}(h:dc P d t=some u):∃i,P.info? t=some i/\i.size=u.cells/\
  (match u with
   |.ptr _=>False
   |.fn _ _=>False
   |.cP _ _=>False
   |.alt _ _ _=>False
   |.err=>∃U,P.underlying t=some (.interface U)
   |.cO=>(∃a b c,P.underlying t=some (.func a b c))\/∃e,P.underlying t=some (.pointer e)
   |.dj=>∃a b c,P.underlying t=some (.func a b c)
   |.int k=>P.underlying t=some (.int k)
   |.bool=>P.underlying t=some .bool
   |.str=>P.underlying t=some .string
   |.ab v=>∃e d',P.underlying t=some (.slice e)/\dc P d' e=some v
   |.arr n v=>∃e d',P.underlying t=some (.array n e)/\dc P d' e=some v
   |.map a b=>∃k e d',P.underlying t=some (.map k e)/\dc P d' k=some a/\dc P d' e=some b
   |_=>∃an d',P.underlying t=some (.struct an)/\fieldsOf (dc P d') 0 an.toList=some u):=by
 cases d with
 |zero=>cases h
 |succ d=>
  unfold dc at h
  split at h
  ·rename_i i k q O
   cases o:Nat.beq i.size 1<;>rw[o]at h<;>cases h
   exact⟨i,q,Nat.eq_of_beq_eq_true o,O⟩
  ·rename_i i q O
   cases o:Nat.beq i.size 1<;>rw[o]at h<;>cases h
   exact⟨i,q,Nat.eq_of_beq_eq_true o,O⟩
  ·rename_i i q O
   cases o:Nat.beq i.size 1<;>rw[o]at h<;>cases h
   exact⟨i,q,Nat.eq_of_beq_eq_true o,O⟩
  ·rename_i i e q O
   cases o:Nat.beq i.size 1<;>rw[o]at h
   ·cases h
   ·rw[cond_true]at h
    split at h
    ·rename_i v R;cases h;exact⟨i,q,Nat.eq_of_beq_eq_true o,e,d,O,R⟩
    ·cases h
  ·rename_i i an q O
   split at h
   ·rename_i v R
    cases o:Nat.beq i.size v.cells<;>rw[o]at h<;>cases h
    have W:=UT R
    refine⟨i,q,Nat.eq_of_beq_eq_true o,?_⟩
    rcases W with rfl|⟨a,b,rfl⟩<;>exact⟨an,d,O,R⟩
   ·cases h
  ·rename_i i U q O
   cases o:Nat.beq i.size 1<;>rw[o]at h<;>cases h
   exact⟨i,q,Nat.eq_of_beq_eq_true o,U,O⟩
  ·rename_i i n e q O
   split at h
   ·rename_i v R
    cases o:Nat.beq i.size (n*v.cells)<;>rw[o]at h<;>cases h
    exact⟨i,q,Nat.eq_of_beq_eq_true o,e,d,O,R⟩
   ·cases h
  ·rename_i i k e q O
   cases o:Nat.beq i.size 1<;>rw[o]at h
   ·cases h
   ·rw[cond_true]at h
    split at h
    ·rename_i a b W Y;cases h;exact⟨i,q,Nat.eq_of_beq_eq_true o,k,e,d,O,W,Y⟩
    ·cases h
  ·rename_i i a b c q O
   cases o:Nat.beq i.size 1<;>rw[o]at h
   ·cases h
   ·rw[cond_true]at h
    cases Z:(isNamed i.desc&&!Nat.beq b.size 0)<;>rw[Z]at h<;>cases h
    ·exact⟨i,q,Nat.eq_of_beq_eq_true o,.inl ⟨a,b,c,O⟩⟩
    ·exact⟨i,q,Nat.eq_of_beq_eq_true o,a,b,c,O⟩
  ·rename_i i e q O
   cases o:Nat.beq i.size 1<;>rw[o]at h<;>cases h
   exact⟨i,q,Nat.eq_of_beq_eq_true o,.inr ⟨e,O⟩⟩
  ·cases h
theorem kK{P:Program}{d:Nat}{t:TypeId}{u:ah}(h:dc P d t=some u)(w:World):(isAgg t).run P w=.ok u.agg w:=by
 obtain⟨i,_,_,q⟩:=dw h
 unfold isAgg
 cases u with
 |int k=>simp[run_underlying q,ah.agg]
 |bool=>simp[run_underlying q,ah.agg]
 |str=>simp[run_underlying q,ah.agg]
 |ab v=>obtain⟨e,d',o,_⟩:=q;simp[run_underlying o,ah.agg]
 |ptr v=>exact q.elim
 |fn f v=>exact q.elim
 |err=>obtain⟨O,o⟩:=q;simp[run_underlying o,ah.agg]
 |cO=>rcases q with ⟨_,_,_,o⟩|⟨_,o⟩<;>simp[run_underlying o,ah.agg]
 |dj=>obtain⟨_,_,_,o⟩:=q;simp[run_underlying o,ah.agg]
 |cP n v=>exact q.elim
 |alt n v r=>exact q.elim
 |arr n v=>obtain⟨e,d',o,_⟩:=q;simp[run_underlying o,ah.agg]
 |map a b=>obtain⟨k,e,d',o,_⟩:=q;simp[run_underlying o,ah.agg]
 |unit=>obtain⟨an,d',o,_⟩:=q;simp[run_underlying o,ah.agg]
 |pair a b=>obtain⟨an,d',o,_⟩:=q;simp[run_underlying o,ah.agg]
theorem fi{P:Program}{d:Nat}{t:TypeId}{u:ah}(h:dc P d t=some u)(w:World):(sizeOf t).run P w=.ok u.cells w:=by
 obtain⟨i,o,q,_⟩:=dw h
 simp[sizeOf,typeInfo,o,q]
theorem mY{w:World}{M:Nat->Prop}{t:ah}:∀{xs:List t.el} {cs:List Value} {i:Nat} {x:t.el},bT (aL w M t) cs xs->xs[i]? =some x->
  ∃c1 c2 c3,cs=c1++c2++c3/\c1.length=i*t.cells/\aL w M t c2 x
 |[],_,_,_,_,h=>by simp at h
 |y::O,cs,0,x,⟨c1,c2,e,o,q⟩,h=>by
  simp at h
  subst h
  exact⟨[],c1,c2,by simpa using e,by simp,o⟩
 |y::O,cs,i+1,x,⟨c1,c2,e,o,q⟩,h=>by
  obtain⟨d1,d2,d3,ai,R,U⟩:=mY q (by simpa using h)
  refine⟨c1++d1,d2,d3,by rw[e,ai];simp,?_,U⟩
  rw[List.length_append,cu t o,R,Nat.succ_mul,Nat.add_comm]
theorem tv{w:World}{M:Nat->Prop}{t:ah}:∀{xs:List t.el} {cs:List Value} {i:Nat} {x:t.el},bT (aL w M t) cs xs->xs[i]? =some x->
  ∃c1 c2 c3,cs=c1++c2++c3/\c1.length=i*t.cells/\aL w M t c2 x/\∀o x',aL w M t o x'->bT (aL w M t) (c1++o++c3) (xs.set i x')
 |[],_,_,_,_,h=>by simp at h
 |y::R,cs,0,x,⟨c1,c2,e,q,O⟩,h=>by
  simp at h
  subst h
  exact⟨[],c1,c2,by simpa using e,by simp,q,fun o x' h'=>⟨o,c2,by simp,h',O⟩⟩
 |y::R,cs,i+1,x,⟨c1,c2,e,q,O⟩,h=>by
  obtain⟨d1,d2,d3,ai,U,W,Y⟩:=tv O (by simpa using h)
  refine⟨c1++d1,d2,d3,by rw[e,ai];simp,?_,W,fun o x' h'=>⟨c1,d1++o++d3,by simp,q,Y o x' h'⟩⟩
  rw[List.length_append,cu t q,U,Nat.succ_mul,Nat.add_comm]
theorem dg{a b:Nat}(h:Nat.blt a b=true):a<b:=by
 have:a+1<=b:=by simpa[Nat.blt]using h
 omega
theorem OU{a b:Nat}(h:Nat.blt a b=false):b<=a:=by
 rcases Nat.lt_or_ge a b with o|o
 ·have:Nat.blt a b=true:=by
   have:a+1<=b:=o
   simpa[Nat.blt]using this
  rw[this]at h;cases h
 ·exact o
theorem gV{t:ah}{x:t.el}{off:Nat}{u:ah}{y:u.el}(h:(bif Nat.beq off 0 then ak.as ⟨t,x⟩ u else none)=some y):off=0/\(⟨t,x⟩:ak)=⟨u,y⟩:=by
 cases o:Nat.beq off 0 with
 |false=>rw[o]at h;cases h
 |true=>rw[o]at h;exact⟨Nat.eq_of_beq_eq_true o,ak.dx h⟩
theorem pA{w:World}{M:Nat->Prop}:∀(t:ah) {cs:List Value} {x:t.el} {off:Nat} {u:ah} {y:u.el},aL w M t cs x->dd t x off u=some y->
  ∃c1 c2 c3,cs=c1++c2++c3/\c1.length=off/\aL w M u c2 y:=by
 intro t
 induction t with
 |int k=>intro cs x off u y o h;obtain⟨rfl,e⟩:=gV (t:=.int k) h;cases e;exact⟨[],cs,[],by simp,rfl,o⟩
 |bool=>intro cs x off u y o h;obtain⟨rfl,e⟩:=gV (t:=.bool) h;cases e;exact⟨[],cs,[],by simp,rfl,o⟩
 |str=>intro cs x off u y o h;obtain⟨rfl,e⟩:=gV (t:=.str) h;cases e;exact⟨[],cs,[],by simp,rfl,o⟩
 |ab t q=>intro cs x off u y o h;obtain⟨rfl,e⟩:=gV (t:=.ab t) h;cases e;exact⟨[],cs,[],by simp,rfl,o⟩
 |ptr t q=>intro cs x off u y o h;obtain⟨rfl,e⟩:=gV (t:=.ptr t) h;cases e;exact⟨[],cs,[],by simp,rfl,o⟩
 |fn f t q=>intro cs x off u y o h;obtain⟨rfl,e⟩:=gV (t:=.fn f t) h;cases e;exact⟨[],cs,[],by simp,rfl,o⟩
 |err=>intro cs x off u y o h;obtain⟨rfl,e⟩:=gV (t:=.err) h;cases e;exact⟨[],cs,[],by simp,rfl,o⟩
 |cO=>intro cs x off u y o h;obtain⟨rfl,e⟩:=gV (t:=.cO) h;cases e;exact⟨[],cs,[],by simp,rfl,o⟩
 |dj=>intro cs x off u y o h;obtain⟨rfl,e⟩:=gV (t:=.dj) h;cases e;exact⟨[],cs,[],by simp,rfl,o⟩
 |cP n t q=>intro cs x off u y o h;obtain⟨rfl,e⟩:=gV (t:=.cP n t) h;cases e;exact⟨[],cs,[],by simp,rfl,o⟩
 |alt n t r _ _=>intro cs x off u y o h;obtain⟨rfl,e⟩:=gV (t:=.alt n t r) h;cases e;exact⟨[],cs,[],by simp,rfl,o⟩
 |arr n t q=>
  intro cs x off u y o h
  unfold dd at h
  split at h
  ·rename_i la R U
   cases h
   have e:=ak.dx U
   cases e
   exact⟨[],cs,[],by simp,(Nat.eq_of_beq_eq_true R).symm,o⟩
  ·cases Y:Nat.beq t.cells 0 with
   |true=>rw[Y]at h;cases h
   |false=>
    rw[Y,cond_false]at h
    split at h
    ·rename_i z lb
     obtain⟨c1,c2,c3,rfl,O,W⟩:=mY o.2 lb
     obtain⟨d1,d2,d3,rfl,ai,lc⟩:=q W h
     refine⟨c1++d1,d2,d3++c3,by simp,?_,lc⟩
     rw[List.length_append,O,ai,Nat.mul_comm]
     exact Nat.div_add_mod off t.cells
    ·cases h
 |map a b _ _=>intro cs x off u y o h;obtain⟨rfl,e⟩:=gV (t:=.map a b) h;cases e;exact⟨[],cs,[],by simp,rfl,o⟩
 |unit=>intro cs x off u y o h;obtain⟨rfl,e⟩:=gV (t:=.unit) h;cases e;exact⟨[],cs,[],by simp,rfl,o⟩
 |pair a b ld le=>
  intro cs x off u y o h
  unfold dd at h
  split at h
  ·rename_i la R U
   cases h
   have e:=ak.dx U
   cases e
   exact⟨[],cs,[],by simp,(Nat.eq_of_beq_eq_true R).symm,o⟩
  ·obtain⟨c1,c2,rfl,Z,W⟩:=o
   cases O:Nat.blt off a.cells with
   |true=>
    rw[O,cond_true]at h
    obtain⟨d1,d2,d3,rfl,ai,o⟩:=ld Z h
    exact⟨d1,d2,d3++c2,by simp,ai,o⟩
   |false=>
    rw[O,cond_false]at h
    obtain⟨d1,d2,d3,rfl,ai,o⟩:=le W h
    refine⟨c1++d1,d2,d3,by simp,?_,o⟩
    rw[List.length_append,cu a Z,ai]
    have:=OU O
    omega
theorem eU{t:ah}{off:Nat}{v:ak}{y:t.el}(h:(bif Nat.beq off 0 then v.as t else none)=some y):off=0/\v=⟨t,y⟩:=by
 cases o:Nat.beq off 0 with
 |false=>rw[o]at h;cases h
 |true=>rw[o]at h;exact⟨Nat.eq_of_beq_eq_true o,ak.dx h⟩
theorem rC{w:World}{M:Nat->Prop}{v:ak}{O:List Value}(ld:aL w M v.t O v.x):∀(t:ah) {cs:List Value} {x:t.el} {off:Nat} {y:t.el},aL w M t cs x->cE t x off v=some y->
  ∃c1 c2 c3,cs=c1++c2++c3/\c1.length=off/\c2.length=O.length/\aL w M t (c1++O++c3) y:=by
 intro t
 have q:∀(t:ah) (cs:List Value) (x:t.el) (off:Nat) (y:t.el),aL w M t cs x->(off=0/\v=⟨t,y⟩)->∃c1 c2 c3,cs=c1++c2++c3/\c1.length=off/\c2.length=O.length/\aL w M t (c1++O++c3) y:=by
  rintro t cs x off y o ⟨rfl,e⟩
  subst e
  exact⟨[],cs,[],by simp,rfl,by rw[cu t o,cu t ld],by simpa using ld⟩
 induction t with
 |int k=>intro cs x off y o h;exact q (.int k) cs x off y o (eU (t:=.int k) h)
 |bool=>intro cs x off y o h;exact q .bool cs x off y o (eU (t:=.bool) h)
 |str=>intro cs x off y o h;exact q .str cs x off y o (eU (t:=.str) h)
 |ab t U=>intro cs x off y o h;exact q (.ab t) cs x off y o (eU (t:=.ab t) h)
 |ptr t U=>intro cs x off y o h;exact q (.ptr t) cs x off y o (eU (t:=.ptr t) h)
 |fn f t U=>intro cs x off y o h;exact q (.fn f t) cs x off y o (eU (t:=.fn f t) h)
 |err=>intro cs x off y o h;exact q .err cs x off y o (eU (t:=.err) h)
 |cO=>intro cs x off y o h;exact q .cO cs x off y o (eU (t:=.cO) h)
 |dj=>intro cs x off y o h;exact q .dj cs x off y o (eU (t:=.dj) h)
 |cP n t U=>intro cs x off y o h;exact q (.cP n t) cs x off y o (eU (t:=.cP n t) h)
 |alt n t r _ _=>intro cs x off y o h;exact q (.alt n t r) cs x off y o (eU (t:=.alt n t r) h)
 |arr n t U=>
  intro cs x off y o h
  unfold cE at h
  split at h
  ·rename_i la lb R
   cases h
   exact q _ cs x off _ o ⟨Nat.eq_of_beq_eq_true lb,ak.dx R⟩
  ·cases le:Nat.beq t.cells 0 with
   |true=>rw[le]at h;cases h
   |false=>
    rw[le,cond_false]at h
    split at h
    ·rename_i z lf
     split at h
     ·rename_i ll lg
      cases h
      obtain⟨c1,c2,c3,rfl,W,Z,lh⟩:=tv o.2 lf
      obtain⟨d1,d2,d3,rfl,ai,Y,li⟩:=U Z lg
      refine⟨c1++d1,d2,d3++c3,by simp,?_,Y,?_,?_⟩
      ·rw[List.length_append,W,ai,Nat.mul_comm]
       exact Nat.div_add_mod off t.cells
      ·rw[List.length_set];exact o.1
      ·have:=lh _ _ li
       simpa using this
     ·cases h
    ·cases h
 |map a b _ _=>intro cs x off y o h;exact q (.map a b) cs x off y o (eU (t:=.map a b) h)
 |unit=>intro cs x off y o h;exact q .unit cs x off y o (eU (t:=.unit) h)
 |pair a b lj lk=>
  intro cs x off y o h
  unfold cE at h
  split at h
  ·rename_i la lb R
   cases h
   exact q _ cs x off _ o ⟨Nat.eq_of_beq_eq_true lb,ak.dx R⟩
  ·obtain⟨c1,c2,rfl,lc,Z⟩:=o
   cases W:Nat.blt off a.cells with
   |true=>
    rw[W,cond_true]at h
    split at h
    ·rename_i la R
     cases h
     obtain⟨d1,d2,d3,rfl,ai,Y,o⟩:=lj lc R
     exact⟨d1,d2,d3++c2,by simp,ai,Y,d1++O++d3,c2,by simp,o,Z⟩
    ·cases h
   |false=>
    rw[W,cond_false]at h
    split at h
    ·rename_i la R
     cases h
     obtain⟨d1,d2,d3,rfl,ai,Y,o⟩:=lk Z R
     refine⟨c1++d1,d2,d3,by simp,?_,Y,c1,d1++O++d3,by simp,lc,o⟩
     rw[List.length_append,cu a lc,ai]
     have:=OU W
     omega
    ·cases h
def cl:(t:ah)->t.el
 |.int _=>(0:Int)
 |.bool=>false
 |.str=>[]
 |.ab _=>[]
 |.unit=>()
 |.pair a b=>(cl a,cl b)
 |.ptr t=>cl t
 |.fn _ t=>cl t
 |.err=>none
 |.cO=>()
 |.dj=>none
 |.cP _ t=>cl t
 |.alt _ _ r=>.inr (cl r)
 |.arr n t=>List.replicate n (cl t)
 |.map _ _=>none
def ze(f:List Value->Option (List Value)):Nat->List Value->Option (List Value)
 |0,r=>some r
 |n+1,r=>match f r with
  |some o=>ze f n o
  |none=>none
def fT:ah->List Value->Option (List Value)
 |.int k,.int k' n::r=>bif gR k k'&&n==0 then some r else none
 |.bool,.bool b::r=>bif b then none else some r
 |.str,.string s::r=>bif s.data.isEmpty then some r else none
 |.ab _,.slice none n c::r=>bif Nat.beq n 0&&Nat.beq c 0 then some r else none
 |.unit,r=>some r
 |.err,.nilIface::r=>some r
 |.cO,v::r=>bif v.oneCell' then some r else none
 |.dj,.nilFunc::r=>some r
 |.map _ _,.map none::r=>some r
 |.arr n t,r=>ze (fT t) n r
 |.pair a b,r=>match fT a r with
  |some o=>fT b o
  |none=>none
 |_,_=>none
theorem Jl{α:Type}{f:List Value->α->Prop}{z:List Value->Option (List Value)}{y:α}(h:∀{cs r:List Value},z cs=some r->∃c,cs=c++r/\f c y):∀(n:Nat) {cs r:List Value},ze z n cs=some r->∃c,cs=c++r/\bT f c (List.replicate n y)
 |0,cs,r,o=>by cases o;exact⟨[],rfl,rfl⟩
 |n+1,cs,r,o=>by
  unfold ze at o
  split at o
  ·rename_i U q
   obtain⟨c1,rfl,O⟩:=h q
   obtain⟨c2,rfl,R⟩:=Jl h n o
   exact⟨c1++c2,by simp,c1,c2,rfl,O,R⟩
  ·cases o
theorem KK{w:World}{M:Nat->Prop}:∀(t:ah) {cs r:List Value},fT t cs=some r->∃c,cs=c++r/\aL w M t c (cl t):=by
 intro t
 induction t with
 |int k=>
  intro cs r h
  unfold fT at h
  split at h<;>try contradiction
  ·rename_i ld k' n O o;cases o
   cases q:(gR k k'&&n==0)<;>rw[q]at h<;>cases h
   simp only[Bool.and_eq_true,beq_iff_eq]at q
   rw[<-nE q.1,q.2]
   exact⟨[_],rfl,rfl⟩
  all_goals (rename_i o;cases o)
 |bool=>
  intro cs r h
  unfold fT at h
  split at h<;>try contradiction
  ·rename_i b O _
   cases b<;>cases h
   exact⟨[_],rfl,rfl⟩
  all_goals (rename_i o;cases o)
 |str=>
  intro cs r h
  unfold fT at h
  split at h<;>try contradiction
  ·rename_i s O _
   cases q:s.data.isEmpty<;>rw[q]at h<;>cases h
   have:s=⟨#[]⟩:=by cases s;simp at q;rw[q]
   rw[this]
   exact⟨[_],rfl,rfl,by decide⟩
  all_goals (rename_i o;cases o)
 |ab t R=>
  intro cs r h
  unfold fT at h
  split at h<;>try contradiction
  ·rename_i n c O o;cases o
   cases q:(Nat.beq n 0&&Nat.beq c 0)<;>rw[q]at h<;>cases h
   simp only[Bool.and_eq_true]at q
   rw[Nat.eq_of_beq_eq_true q.1,Nat.eq_of_beq_eq_true q.2]
   exact⟨[_],rfl,none,0,[],rfl,Nat.le_refl _,by decide,fun _=>rfl,rfl,fun j u Y=>by simp at Y⟩
  all_goals (rename_i o;cases o)
 |unit=>intro cs r h;cases h;exact⟨[],rfl,rfl⟩
 |ptr t R=>intro cs r h;simp[fT]at h
 |fn f t R=>intro cs r h;simp[fT]at h
 |cP f t R=>intro cs r h;simp[fT]at h
 |dj=>
  intro cs r h
  unfold fT at h
  split at h<;>try contradiction
  ·cases h;exact⟨[_],rfl,rfl⟩
  all_goals (rename_i o;cases o)
 |alt n t r _ _=>intro cs r h;simp[fT]at h
 |err=>
  intro cs r h
  unfold fT at h
  split at h<;>try contradiction
  ·cases h;exact⟨[_],rfl,.inl ⟨rfl,rfl⟩⟩
  all_goals (rename_i o;cases o)
 |cO=>
  intro cs r h
  unfold fT at h
  split at h<;>try contradiction
  ·rename_i v O _
   cases q:v.oneCell'<;>rw[q]at h<;>cases h
   exact⟨[_],rfl,_,rfl,q⟩
  all_goals (rename_i o;cases o)
 |map a b _ _=>
  intro cs r h
  unfold fT at h
  split at h<;>try contradiction
  ·cases h;exact⟨[_],rfl,rfl⟩
  all_goals (rename_i o;cases o)
 |arr n t R=>
  intro cs r h
  simp only[fT]at h
  obtain⟨c,U,W⟩:=Jl (f:=aL w M t) (y:=cl t) (fun Z=>R Z) n h
  exact⟨c,U,List.length_replicate,W⟩
 |pair a b la lb=>
  intro cs r h
  simp only[fT]at h
  split at h
  ·rename_i O lc
   obtain⟨c1,rfl,U⟩:=la lc
   obtain⟨c2,rfl,W⟩:=lb h
   exact⟨c1++c2,by simp,c1,c2,rfl,U,W⟩
  ·cases h
end Go.Ev
namespace Go.Ev
open Go Go.RowKit
variable [cm]
variable {P:Program} {w:World} {M:Nat->Prop} {v:Value}
theorem dp{k:IntKind}{n:Int}:bf w M v (.int k) n↔v=.int k n:=by simp[bf,ah.agg,aL]
theorem dU{b:Bool}:bf w M v .bool b↔v=.bool b:=by simp[bf,ah.agg,aL]
theorem eW{s:List UInt8}:bf w M v .str s↔v=.string ⟨s.toArray⟩/\s.length<=maxLen:=by simp[bf,ah.agg,aL]
theorem bC{t:ah}{x:t.el}(h:t.agg=false):bf w M v t x↔aL w M t [v] x:=by simp[bf,h]
theorem eG{t:ah}{x:t.el}(h:t.agg=true):bf w M v t x↔∃cs:List Value,v=.agg cs.toArray/\aL w M t cs x:=by simp[bf,h]
def bF:Nat:=2147483648
theorem y9:bF<=maxLen:=by decide
theorem jf(s:List UInt8):(bytesOf s).size=s.length:=by simp[bytesOf,ByteArray.size]
theorem Es(s:List UInt8):(bytesOf s).toList=s:=by rw[Lib.toList_data];rfl
theorem Ix(a b:List UInt8):bytesOf a++bytesOf b=bytesOf (a++b):=by
 apply ByteArray.ext
 simp[bytesOf]
def bW:List Prop->Prop
 |[]=>True
 |p::r=>p/\bW r
def Hk(o:BinOp)(k:IntKind)(a b:Int):Option (ak×List Prop):=
 match o with
 |.add=>some (⟨.int k,k.wrap (a+b)⟩,[])
 |.sub=>some (⟨.int k,k.wrap (a-b)⟩,[])
 |.mul=>some (⟨.int k,k.wrap (a*b)⟩,[])
 |.quo=>some (⟨.int k,k.wrap (a.tdiv b)⟩,[b≠0])
 |.rem=>some (⟨.int k,a.tmod b⟩,[b≠0])
 |.and=>some (⟨.int k,k.wrap (BitVec.ofInt k.bits a&&&BitVec.ofInt k.bits b).toNat⟩,[])
 |.or=>some (⟨.int k,k.wrap (BitVec.ofInt k.bits a|||BitVec.ofInt k.bits b).toNat⟩,[])
 |.xor=>some (⟨.int k,k.wrap (BitVec.ofInt k.bits a^^^BitVec.ofInt k.bits b).toNat⟩,[])
 |.andNot=>some (⟨.int k,k.wrap (BitVec.ofInt k.bits a&&&~~~BitVec.ofInt k.bits b).toNat⟩,[])
 |.eql=>some (⟨.bool,a==b⟩,[])
 |.neq=>some (⟨.bool,a !=b⟩,[])
 |.lss=>some (⟨.bool,decide (a<b)⟩,[])
 |.leq=>some (⟨.bool,decide (a<=b)⟩,[])
 |.gtr=>some (⟨.bool,decide (b<a)⟩,[])
 |.geq=>some (⟨.bool,decide (b<=a)⟩,[])
 |_=>none
def GR(o:BinOp)(k:IntKind)(a b:Int):Option (ak×List Prop):=
 match o with
 |.shl=>some (⟨.int k,k.wrap (a*2^min b.toNat k.bits)⟩,[0<=b])
 |.shr=>some (⟨.int k,a.fdiv (2^min b.toNat k.bits)⟩,[0<=b])
 |_=>none
def AW(o:BinOp)(a b:Bool):Option (ak×List Prop):=
 match o with
 |.eql=>some (⟨.bool,a==b⟩,[])
 |.neq=>some (⟨.bool,!(a==b)⟩,[])
 |_=>none
def z7(o:BinOp)(a b:List UInt8):Option (ak×List Prop):=
 match o with
 |.add=>some (⟨.str,a++b⟩,[a.length+b.length<=bF])
 |.eql=>some (⟨.bool,a==b⟩,[])
 |.neq=>some (⟨.bool,!(a==b)⟩,[])
 |.lss=>some (⟨.bool,Op.bytesLess a b⟩,[])
 |.leq=>some (⟨.bool,Op.bytesLess a b||a==b⟩,[])
 |.gtr=>some (⟨.bool,!(Op.bytesLess a b||a==b)⟩,[])
 |.geq=>some (⟨.bool,!(Op.bytesLess a b)⟩,[])
 |_=>none
def LU(a b:Int):Bool:=a==b
def HP(a b:Bool):Bool:=a==b
def eqStr(a b:List UInt8):Bool:=a==b
def kJ{α:Type}(f:α->α->Bool):List α->List α->Bool
 |[],[]=>true
 |x::xs,y::o=>f x y&&kJ f xs o
 |_,_=>false
def aR:(t:ah)->t.el->t.el->Bool
 |.int _,a,b=>LU a b
 |.bool,a,b=>HP a b
 |.str,a,b=>eqStr a b
 |.unit,_,_=>true
 |.pair s t,a,b=>aR s a.1 b.1&&aR t a.2 b.2
 |.arr _ t,a,b=>kJ (aR t) a b
 |_,_,_=>false
def eD(P:Program):Nat->TypeId->Bool
 |0,_=>false
 |d+1,t=>match P.underlying t with
  |some (.int _)=>true
  |some .bool=>true
  |some .string=>true
  |some (.struct an)=>!P.stoodInHeld t&&an.toList.all fun f=>f.name != "_" &&eD P d f.type
  |some (.array _ e)=>eD P d e
  |_=>false
theorem tX{d:Nat}{t:TypeId}{u:ah}(q:dc P d t=some u){pre c post:List Value}{x:u.el}(O:aL w M u c x)(U:World):
  ∃v,(part t (pre++c++post).toArray pre.length).run P U=.ok v U/\bf w M v u x:=by
 have R:=cu u O
 cases o:u.agg with
 |true=>
  refine⟨.agg c.toArray,?_,by rw[bf,if_pos o];exact⟨c,rfl,O⟩⟩
  unfold part
  rw[Sem.run_bind,kK q,o]
  simp only[Result.andThen_ok,if_true,Sem.run_bind,fi q,Sem.run_pure]
  have e:(pre++c++post).toArray.extract pre.length (pre.length+u.cells)=c.toArray:=by
   rw[<-R]
   apply Array.ext'
   simp[List.extract_eq_take_drop]
  rw[e]
 |false=>
  have W:u.cells=1:=by cases u<;>first|rfl|(simp[ah.agg]at o)
  rw[W]at R
  match c,R with
  |[v],_=>
   refine⟨v,?_,by rw[bf,if_neg (by rw[o];decide)];exact O⟩
   unfold part
   rw[Sem.run_bind,kK q,o]
   simp only[Result.andThen_ok,Bool.false_eq_true,if_false]
   have e:(pre++[v]++post).toArray[pre.length]? =some v:=by simp
   rw[e]
   rfl
theorem Ji{d O:Nat}(la:∀(t:TypeId) (u:ah),dc P d t=some u->∀d',eD P d' t=true->d'<=O->∀(w w' o:World) (M M':Nat->Prop) (v v':Value) (x y:u.el),bf w M v u x->bf w' M' v' u y->(Op.equalIn O t v v').run P o=.ok (aR u x y) o):
  ∀(an:List Field) (off:Nat) (u:ah),fieldsOf (dc P d) off an=some u->∀d',d'<=O->(an.all fun f=>f.name != "_" &&eD P d' f.type)=true->∀(w w' o:World) (M M':Nat->Prop) (pre q c c':List Value) (x y:u.el),pre.length=off->q.length=off->aL w M u c x->aL w' M' u c' y->
   (Op.eqFields O (pre++c).toArray (q++c').toArray an).run P o=.ok (aR u x y) o
 |[],off,u,h,_,_,_,w,w',o,M,M',pre,q,c,c',x,y,_,_,_,_=>by
  simp only[fieldsOf,Option.some.injEq]at h
  subst h
  simp[Op.eqFields,aR]
 |f::an,off,u,h,d',ai,R,w,w',o,M,M',pre,q,c,c',x,y,lb,lc,lh,li=>by
  unfold fieldsOf at h
  cases U:Nat.beq f.offset off with
  |false=>rw[U]at h;cases h
  |true=>
   have lj:=Nat.eq_of_beq_eq_true U
   rw[U,cond_true]at h
   split at h
   ·rename_i a W
    split at h
    ·rename_i b lk
     cases h
     rw[List.all_cons,Bool.and_eq_true,Bool.and_eq_true]at R
     obtain⟨c1,c2,rfl,ld,cy⟩:=lh
     obtain⟨ll,le,rfl,lf,oN⟩:=li
     obtain⟨v,Y,lm⟩:=tX (P:=P) W (pre:=pre) (post:=c2) ld o
     obtain⟨v',Z,ln⟩:=tX (P:=P) W (pre:=q) (post:=le) lf o
     have lo:f.name≠ "_" :=by simpa using R.1.1
     rw[List.append_assoc]at Y Z
     rw[lb]at Y
     rw[lc]at Z
     simp only[Op.eqFields,if_pos lo,lj,Sem.run_bind,Y,Z,Result.andThen_ok,la f.type a W d' R.1.2 ai w w' o M M' v v' x.1 y.1 lm ln]
     cases lg:aR a x.1 y.1 with
     |false=>
      simp only[Bool.not_false,if_true,Sem.run_pure]
      simp[aR,lg]
     |true=>
      simp only[Bool.not_true,Bool.false_eq_true,if_false]
      have:=Ji la an (off+a.cells) b lk d' ai R.2 w w' o M M' (pre++c1) (q++ll) c2 le x.2 y.2 (by rw[List.length_append,lb,cu a ld]) (by rw[List.length_append,lc,cu a lf]) cy oN
      rw[List.append_assoc,List.append_assoc]at this
      rw[this]
      simp[aR,lg]
    ·cases h
   ·cases h
theorem wL{P:Program}{d:Nat}{t:TypeId}{u:ah}(h:dc P d t=some u):P.cellsOf t=u.cells:=by
 obtain⟨i,o,q,_⟩:=dw h
 simp[Program.cellsOf,o,q]
theorem Mu{d Z:Nat}{e:TypeId}{u:ah}(U:dc P d e=some u)(la:∀(w w' o:World) (M M':Nat->Prop) (v v':Value) (x y:u.el),bf w M v u x->bf w' M' v' u y->(Op.equalIn Z e v v').run P o=.ok (aR u x y) o):
  ∀(xs O:List u.el) (n:Nat) (w w' o:World) (M M':Nat->Prop) (pre q c c':List Value),pre.length=n*u.cells->q.length=n*u.cells->xs.length=O.length->bT (aL w M u) c xs->bT (aL w' M' u) c' O->
   (Op.eqItems Z e u.cells (pre++c).toArray (q++c').toArray (List.range' n xs.length)).run P o=.ok (kJ (aR u) xs O) o
 |[],[],n,w,w',o,M,M',pre,q,c,c',_,_,_,_,_=>by simp[Op.eqItems,kJ]
 |[],_::_,_,_,_,_,_,_,_,_,_,_,_,_,R,_,_=>by simp at R
 |_::_,[],_,_,_,_,_,_,_,_,_,_,_,_,R,_,_=>by simp at R
 |x::xs,y::O,n,w,w',o,M,M',pre,q,c,c',lb,lc,R,lh,li=>by
  obtain⟨c1,c2,rfl,ld,cy⟩:=lh
  obtain⟨lj,le,rfl,lf,oN⟩:=li
  obtain⟨v,W,lk⟩:=tX (P:=P) U (pre:=pre) (post:=c2) ld o
  obtain⟨v',Y,ll⟩:=tX (P:=P) U (pre:=q) (post:=le) lf o
  rw[List.append_assoc]at W Y
  rw[lb]at W
  rw[lc]at Y
  rw[List.length_cons,List.range'_succ]
  simp only[Op.eqItems,Sem.run_bind,W,Y,Result.andThen_ok,la w w' o M M' v v' x y lk ll]
  cases lg:aR u x y with
  |false=>simp[kJ,lg]
  |true=>
   simp only[Bool.not_true,Bool.false_eq_true,if_false]
   have:=Mu U la xs O (n+1) w w' o M M' (pre++c1) (q++lj) c2 le (by rw[List.length_append,lb,cu u ld,Nat.succ_mul]) (by rw[List.length_append,lc,cu u lf,Nat.succ_mul]) (by simpa using R) cy oN
   rw[List.append_assoc,List.append_assoc]at this
   rw[this]
   simp[kJ,lg]
theorem tT:∀(d:Nat) (t:TypeId) (u:ah),dc P d t=some u->∀d',eD P d' t=true->∀O,d'<=O->∀(w w' R:World) (M M':Nat->Prop) (v v':Value) (x y:u.el),bf w M v u x->bf w' M' v' u y->(Op.equalIn O t v v').run P R=.ok (aR u x y) R
 |0,_,_,h=>by cases h
 |d+1,t,u,h=>by
  intro d' q O lq w w' R M M' v v' x y Z la
  cases d' with
  |zero=>cases q
  |succ d'=>
   obtain⟨O,rfl⟩:∃k,O=k+1:=⟨O-1,by omega⟩
   unfold eD at q
   unfold dc at h
   split at h
   ·rename_i i k U o
    cases W:Nat.beq i.size 1<;>rw[W]at h<;>cases h
    obtain rfl:=dp.1 Z
    obtain rfl:=dp.1 la
    exact run_equalIn_int R O t k k x y o
   ·rename_i i U o
    cases W:Nat.beq i.size 1<;>rw[W]at h<;>cases h
    obtain rfl:=dU.1 Z
    obtain rfl:=dU.1 la
    exact run_equalIn_bool' R O t x y o
   ·rename_i i U o
    cases W:Nat.beq i.size 1<;>rw[W]at h<;>cases h
    obtain⟨rfl,_⟩:=eW.1 Z
    obtain⟨rfl,_⟩:=eW.1 la
    rw[run_equalIn_string R O t _ _ o]
    have lb:=Es x
    have lc:=Es y
    unfold bytesOf at lb lc
    rw[lb,lc]
    rfl
   ·rename_i i e U o
    rw[o]at q
    cases q
   ·rename_i i an U o
    rw[o]at q
    simp only[Bool.and_eq_true,Bool.not_eq_true']at q
    split at h
    ·rename_i v0 Y
     cases W:Nat.beq i.size v0.cells<;>rw[W]at h<;>cases h
     have ld:=LF Y
     obtain⟨c,rfl,lh⟩:=(eG ld).1 Z
     obtain⟨c',rfl,li⟩:=(eG ld).1 la
     have le:P.fieldsOf t=an:=by unfold Program.fieldsOf;rw[o]
     rw[run_equalIn_struct R O t c.toArray c'.toArray (by rw[le];exact o) q.1,le]
     exact Ji (fun t u lj lk ll ai=>tT d t u lj lk ll O ai) an.toList 0 u Y d' (by omega) q.2 w w' R M M' [] [] c c' x y rfl rfl lh li
    ·cases h
   ·rename_i i lr U o
    rw[o]at q
    cases q
   ·rename_i i n e U o
    rw[o]at q
    split at h
    ·rename_i v0 Y
     cases W:Nat.beq i.size (n*v0.cells)<;>rw[W]at h<;>cases h
     obtain⟨c,rfl,lf,lm⟩:=(eG (t:=.arr n v0) rfl).1 Z
     obtain⟨c',rfl,ln,lo⟩:=(eG (t:=.arr n v0) rfl).1 la
     obtain⟨ls,lp,lt,_⟩:=dw Y
     have lg:=Mu Y (fun w w' R M M' v v' x y=>tT d e v0 Y d' q O (by omega) w w' R M M' v v' x y) x y 0 w w' R M M' [] [] c c' (by simp) (by simp) (lf.trans ln.symm) lm lo
     rw[run_equalIn_array R O c.toArray c'.toArray o lp,wL Y,List.range_eq_range']
     rw[lf]at lg
     exact lg
    ·cases h
   ·rename_i i k e U o
    rw[o]at q
    cases q
   ·rename_i i a b c U o
    rw[o]at q
    cases q
   ·rename_i i e U o
    rw[o]at q
    cases q
   ·cases h
def vY:BinOp->Bool
 |.shl=>true
 |.shr=>true
 |_=>false
def bin(P:Program)(q:BinOp)(t:TypeId)(x y:ak):Option (ak×List Prop):=
 match x,y with
 |⟨.int k,a⟩,⟨.int k',b⟩=>bif vY q then GR q k a b else bif gR k k' then Hk q k a b else none
 |⟨.bool,a⟩,⟨.bool,b⟩=>match P.underlying t with
  |some .bool=>AW q a b
  |_=>none
 |⟨.str,a⟩,⟨.str,b⟩=>z7 q a b
 |⟨.pair o O,a⟩,y=>match y.as (.pair o O),ty P t with
  |some b,some u=>match u.beq (.pair o O)&&eD P 16 t&&!(P.eqGuardType P.depth t),q with
   |true,.eql=>some (⟨.bool,aR (.pair o O) a b⟩,[])
   |true,.neq=>some (⟨.bool,!(aR (.pair o O) a b)⟩,[])
   |_,_=>none
  |_,_=>none
 |⟨.arr R o,a⟩,y=>match y.as (.arr R o),ty P t with
  |some b,some u=>match u.beq (.arr R o)&&eD P 16 t&&!(P.eqGuardType P.depth t),q with
   |true,.eql=>some (⟨.bool,aR (.arr R o) a b⟩,[])
   |true,.neq=>some (⟨.bool,!(aR (.arr R o) a b)⟩,[])
   |_,_=>none
  |_,_=>none
 |_,_=>none
def gF(P:Program)(s:Sem Value)(v:Value):Prop:=∀w,s.run P w=.ok v w
theorem yo{op:BinOp}{t:TypeId}{x y:Operand}{k k':IntKind}{a b:Int}(w:World):(eqGuard op t x y (.int k a) (.int k' b)).run P w=.ok () w:=by cases op<;>rfl
theorem vT{op:BinOp}{t:TypeId}{x y:Operand}{a b:Bool}(w:World):(eqGuard op t x y (.bool a) (.bool b)).run P w=.ok () w:=by cases op<;>rfl
theorem y8{op:BinOp}{t:TypeId}{x y:Operand}{a b:ByteArray}(w:World):(eqGuard op t x y (.string a) (.string b)).run P w=.ok () w:=by cases op<;>rfl
theorem wW{op:BinOp}{t:TypeId}{k:IntKind}{a b:Int}(o:vY op=false):binOp op t (.int k a) (.int k b)=
  (match op with|.add|.sub|.mul=>Op.intArith op k a b|.quo|.rem=>Op.intDiv op k a b|.and|.or|.xor|.andNot=>Op.intBits op k a b|_=>Op.intCmp op a b):=by
 cases op<;>simp[binOp,vY]at o⊢
theorem Xz{op:BinOp}{k:IntKind}{a b:Int}{t:TypeId}{r:ak}{ob:List Prop}(h:Hk op k a b=some (r,ob))(o:bW ob):
  ∃v,gF P (binOp op t (.int k a) (.int k b)) v/\∀w M,bf w M v r.t r.x:=by
 cases op<;>simp only[Hk]at h<;>cases h
 case quo=>
  refine⟨_,fun w=>?_,fun _ _=>dp.2 rfl⟩
  rw[wW rfl]
  show(if b=0 then _ else _:Sem Value).run P w=_
  rw[if_neg o.1]
  rfl
 case rem=>
  refine⟨_,fun w=>?_,fun _ _=>dp.2 rfl⟩
  rw[wW rfl]
  show(if b=0 then _ else _:Sem Value).run P w=_
  rw[if_neg o.1]
  rfl
 all_goals first
  |exact⟨_,fun w=>by rw[wW rfl];rfl,fun _ _=>dp.2 rfl⟩
  |exact⟨_,fun w=>by rw[wW rfl];rfl,fun _ _=>dU.2 rfl⟩
theorem Ra{op:BinOp}{k k':IntKind}{a b:Int}{t:TypeId}{r:ak}{ob:List Prop}(h:GR op k a b=some (r,ob))(o:bW ob):
  ∃v,gF P (binOp op t (.int k a) (.int k' b)) v/\∀w M,bf w M v r.t r.x:=by
 cases op<;>simp only[GR]at h<;>cases h
 all_goals
  have O:0<=b:=o.1
  have q:¬b<0:=by omega
  exact⟨_,fun w=>by simp[binOp,Op.shift,q],fun _ _=>dp.2 rfl⟩
theorem SY{t:TypeId}(o:P.underlying t=some .bool){a b:Bool}(d:Nat)(w:World):(Op.equalIn (d+1) t (.bool a) (.bool b)).run P w=.ok (a==b) w:=by
 simp[Op.equalIn,run_underlying o]
theorem XI{op:BinOp}{a b:Bool}{t:TypeId}(o:P.underlying t=some .bool){r:ak}{ob:List Prop}(h:AW op a b=some (r,ob)):
  ∃v,gF P (binOp op t (.bool a) (.bool b)) v/\∀w M,bf w M v r.t r.x:=by
 have e:∀w,(Op.equal t (.bool a) (.bool b)).run P w=.ok (a==b) w:=fun w=>by
  exact SY o 9999 w
 cases op<;>simp only[AW]at h<;>cases h
 all_goals exact⟨_,fun w=>by simp[binOp,e],fun _ _=>dU.2 rfl⟩
theorem Xl{op:BinOp}{a b:List UInt8}{t:TypeId}{r:ak}{ob:List Prop}(h:z7 op a b=some (r,ob))(q:bW ob):
  ∃v,gF P (binOp op t (.string (bytesOf a)) (.string (bytesOf b))) v/\∀w M,bf w M v r.t r.x:=by
 cases op<;>simp only[z7]at h<;>cases h
 case add=>
  have o:a.length+b.length<=maxLen:=Nat.le_trans q.1 y9
  have O:¬(((bytesOf a).size+(bytesOf b).size:Nat):Int)>IntKind.i64.max:=by
   rw[jf,jf]
   have:IntKind.i64.max=9223372036854775807:=by decide
   rw[this]
   simp only[maxLen]at o
   omega
  refine⟨.string (bytesOf (a++b)),fun w=>?_,fun _ _=>eW.2 ⟨rfl,by rw[List.length_append];exact o⟩⟩
  simp only[binOp,Op.stringOp]
  rw[if_neg O,Ix]
  rfl
 all_goals exact⟨_,fun w=>by simp[binOp,Op.stringOp,Es],fun _ _=>dU.2 rfl⟩
theorem En{op:BinOp}{t:TypeId}{x y:ak}{R U:Value}{ox oy:Operand}{r:ak}{ob:List Prop}(Y:bf w M R x.t x.x)(Z:bf w M U y.t y.x)
  (h:bin P op t x y=some (r,ob))(lf:bW ob):
  ∃v,gF P (do eqGuard op t ox oy R U;binOp op t R U) v/\∀w M,bf w M v r.t r.x:=by
 have W:∀v,(∀w,(eqGuard op t ox oy R U).run P w=.ok () w)->gF P (binOp op t R U) v->gF P (do eqGuard op t ox oy R U;binOp op t R U) v:=by
  intro v lk ll w
  rw[Sem.run_bind,lk w]
  exact ll w
 unfold bin at h
 split at h
 ·rename_i k a k' b
  obtain rfl:=dp.1 Y
  obtain rfl:=dp.1 Z
  cases lj:vY op with
  |true=>
   rw[lj,cond_true]at h
   obtain⟨v,la,lb⟩:=Ra (P:=P) (t:=t) (k':=k') h lf
   exact⟨v,W v (fun _=>by first|exact yo _|exact vT _|exact y8 _) la,lb⟩
  |false=>
   rw[lj,cond_false]at h
   cases lg:gR k k' with
   |false=>rw[lg]at h;cases h
   |true=>
    rw[lg,cond_true]at h
    obtain rfl:=nE lg
    obtain⟨v,la,lb⟩:=Xz (P:=P) (t:=t) h lf
    exact⟨v,W v (fun _=>by first|exact yo _|exact vT _|exact y8 _) la,lb⟩
 ·rename_i a b
  obtain rfl:=dU.1 Y
  obtain rfl:=dU.1 Z
  split at h
  ·rename_i le
   obtain⟨v,la,lb⟩:=XI le h
   exact⟨v,W v (fun _=>by first|exact yo _|exact vT _|exact y8 _) la,lb⟩
  ·cases h
 ·rename_i a b
  obtain⟨rfl,_⟩:=eW.1 Y
  obtain⟨rfl,_⟩:=eW.1 Z
  obtain⟨v,la,lb⟩:=Xl (P:=P) (t:=t) h lf
  exact⟨v,W v (fun _=>by first|exact yo _|exact vT _|exact y8 _) la,lb⟩
 ·rename_i O lc a
  split at h
  ·rename_i b u lh le
   have li:=ak.dx lh
   subst li
   have e:∀o:World,(u.beq (.pair O lc)&&eD P 16 t&&!(P.eqGuardType P.depth t))=true->(Op.equalIn 10000 t R U).run P o=.ok (aR (.pair O lc) a b) o:=by
    intro o q
    simp only[Bool.and_eq_true]at q
    have:=ah.eq_of_beq q.1.1
    subst this
    exact tT jn t _ le 16 q.1.2 10000 (by decide) w w o M M R U a b Y Z
   obtain⟨c,rfl,_⟩:=(eG (t:=.pair O lc) rfl).1 Y
   obtain⟨c',rfl,_⟩:=(eG (t:=.pair O lc) rfl).1 Z
   split at h
   ·rename_i q
    cases h
    refine⟨.bool (aR (.pair O lc) a b),W _ (fun o=>?_) (fun o=>?_),fun _ _=>dU.2 rfl⟩
    ·simp only[Bool.and_eq_true,Bool.not_eq_true']at q
     exact run_eqGuard_agg o .eql t ox oy c.toArray c'.toArray q.2
    ·rw[run_eql_struct,e o q]
     rfl
   ·rename_i q
    cases h
    refine⟨.bool (!aR (.pair O lc) a b),W _ (fun o=>?_) (fun o=>?_),fun _ _=>dU.2 rfl⟩
    ·simp only[Bool.and_eq_true,Bool.not_eq_true']at q
     exact run_eqGuard_agg o .neq t ox oy c.toArray c'.toArray q.2
    ·rw[run_neq_struct,e o q]
     rfl
   ·cases h
  ·cases h
 ·rename_i ld O a
  split at h
  ·rename_i b u lh le
   have li:=ak.dx lh
   subst li
   have e:∀o:World,(u.beq (.arr ld O)&&eD P 16 t&&!(P.eqGuardType P.depth t))=true->(Op.equalIn 10000 t R U).run P o=.ok (aR (.arr ld O) a b) o:=by
    intro o q
    simp only[Bool.and_eq_true]at q
    have:=ah.eq_of_beq q.1.1
    subst this
    exact tT jn t _ le 16 q.1.2 10000 (by decide) w w o M M R U a b Y Z
   obtain⟨c,rfl,_⟩:=(eG (t:=.arr ld O) rfl).1 Y
   obtain⟨c',rfl,_⟩:=(eG (t:=.arr ld O) rfl).1 Z
   split at h
   ·rename_i q
    cases h
    refine⟨.bool (aR (.arr ld O) a b),W _ (fun o=>?_) (fun o=>?_),fun _ _=>dU.2 rfl⟩
    ·simp only[Bool.and_eq_true,Bool.not_eq_true']at q
     exact run_eqGuard_agg o .eql t ox oy c.toArray c'.toArray q.2
    ·rw[run_eql_struct,e o q]
     rfl
   ·rename_i q
    cases h
    refine⟨.bool (!aR (.arr ld O) a b),W _ (fun o=>?_) (fun o=>?_),fun _ _=>dU.2 rfl⟩
    ·simp only[Bool.and_eq_true,Bool.not_eq_true']at q
     exact run_eqGuard_agg o .neq t ox oy c.toArray c'.toArray q.2
    ·rw[run_neq_struct,e o q]
     rfl
   ·cases h
  ·cases h
 ·cases h
def Zg(k:IntKind)(n:Int):Int:=k.wrap (0-n)
def un(o:UnOp)(x:ak):Option ak:=
 match o,x with
 |.not,⟨.bool,b⟩=>some ⟨.bool,!b⟩
 |.neg,⟨.int k,n⟩=>some ⟨.int k,Zg k n⟩
 |_,_=>none
theorem Zz{op:UnOp}{x r:ak}{o:Value}(q:bf w M o x.t x.x)(h:un op x=some r):∃v,gF P (Op.unary op o) v/\∀w M,bf w M v r.t r.x:=by
 unfold un at h
 split at h
 ·obtain rfl:=dU.1 q
  cases h
  exact⟨_,fun w=>by simp[Op.unary],fun _ _=>dU.2 rfl⟩
 ·obtain rfl:=dp.1 q
  cases h
  exact⟨_,fun w=>rfl,fun _ _=>dp.2 rfl⟩
 ·cases h
def conv(P:Program)(src o:TypeId)(x:ak):Option ak:=
 match x,P.underlying src,P.underlying o with
 |⟨.int _,n⟩,some _,some (.int k)=>some ⟨.int k,k.wrap n⟩
 |⟨.int _,n⟩,some _,some .string=>some ⟨.str,(Utf8.encode n).data.toList⟩
 |⟨.str,s⟩,some .string,some .string=>some ⟨.str,s⟩
 |_,_,_=>none
theorem Yw(n:Int):(Utf8.encode n).data.toList.length<=maxLen:=by
 have:(Utf8.encode n).data.toList.length<=4:=by
  unfold Utf8.encode
  dsimp only
  repeat' split
  all_goals simp
 exact Nat.le_trans this (by decide)
theorem YF{src O:TypeId}{x r:ak}{R:Value}(q:bf w M R x.t x.x)(h:conv P src O x=some r):∃v,gF P (convert src O R) v/\∀w M,bf w M v r.t r.x:=by
 unfold conv at h
 split at h
 ·rename_i U n d k o ai
  obtain rfl:=dp.1 q
  cases h
  exact⟨_,fun w=>by simp[convert,run_underlying o,run_underlying ai,Conv.intToInt],fun _ _=>dp.2 rfl⟩
 ·rename_i U n d o ai
  obtain rfl:=dp.1 q
  cases h
  refine⟨.string (Utf8.encode n),fun w=>?_,fun _ _=>eW.2 ⟨?_,Yw n⟩⟩
  ·simp[convert,run_underlying o,run_underlying ai,Conv.intToString]
  ·congr 1
 ·rename_i s o ai
  obtain⟨rfl,W⟩:=eW.1 q
  cases h
  exact⟨_,fun w=>by simp[convert,run_underlying o,run_underlying ai],fun _ _=>eW.2 ⟨rfl,W⟩⟩
 ·cases h
end Go.Ev
namespace Go.Ev
open Go Go.RowKit
variable [cm]
def Ju:Value->Option ap
 |.bool b=>some (.val .bool b)
 |.int k n=>some (.val (.int k) n)
 |.string s=>bif Nat.ble s.data.toList.length maxLen then some (.val .str s.data.toList)else none
 |.nilIface=>some (.val .err none)
 |.pointer none=>some .any
 |.nilFunc=>some .any
 |_=>none
def aW(st:af):Operand->Option ap
 |.tmp t=>look st.ab t
 |.const v=>Ju v
 |.func f=>some (.clos f [])
 |.global _=>none
def dL(st:af)(x:Operand):Option ak:=
 match aW st x with
 |some (.val t x)=>some ⟨t,x⟩
 |_=>none
variable {cx:bJ} {m:Nat->Value} {st:af} {T:Array Value} {w w':World}
variable [aj cx]
theorem Ie{t:Nat}{v:Value}(h:T[t]? =some v):(Act.eval ⟨T,aj.D cx⟩ (.tmp t))=v:=by
 show T.getD t undef=v
 rw[Array.getD_eq_getD_getElem?,h]
 rfl
theorem bj(h:ao cx m st T w){x:Operand}{s:ap}(o:aW st x=some s):aX w (au cx m st.ids) m (Act.eval ⟨T,aj.D cx⟩ x) s:=by
 cases x with
 |tmp t=>
  obtain⟨v,R,U⟩:=h.de t s (be o)
  rw[Ie R]
  exact U
 |const v=>
  cases v<;>simp only[aW,Ju]at o
  case bool b=>cases o;exact dU.2 rfl
  case int k n=>cases o;exact dp.2 rfl
  case pointer p=>cases p with
   |none=>cases o;exact trivial
   |some a=>cases o
  case nilFunc=>cases o;exact trivial
  case nilIface=>cases o;exact(bC (t:=.err) rfl).2 (.inl ⟨rfl,rfl⟩)
  case string O=>
   cases q:Nat.ble O.data.toList.length maxLen with
   |false=>rw[q]at o;cases o
   |true=>
    rw[q]at o
    cases o
    exact eW.2 ⟨by cases O;simp[Act.eval],Nat.le_of_ble_eq_true q⟩
  all_goals cases o
 |func f=>cases o;rfl
 |global g=>cases o
theorem dt(h:ao cx m st T w){x:Operand}{u:ak}(o:dL st x=some u):bf w (au cx m st.ids) (Act.eval ⟨T,aj.D cx⟩ x) u.t u.x:=by
 unfold dL at o
 split at o
 ·rename_i t y q
  cases o
  exact bj h q
 ·cases o
def CA(st:af)(x:Operand):Option ak:=
 match aW st x with
 |some (.val t x)=>some ⟨t,x⟩
 |some (.clos f [])=>some ⟨.dj,some f⟩
 |_=>none
theorem YX(h:ao cx m st T w){x:Operand}{u:ak}(o:CA st x=some u):bf w (au cx m st.ids) (Act.eval ⟨T,aj.D cx⟩ x) u.t u.x:=by
 unfold CA at o
 split at o
 ·rename_i t y q
  cases o
  exact bj h q
 ·rename_i f q
  cases o
  have O:Act.eval ⟨T,aj.D cx⟩ x=.func (.func f) #[] (([]:List Nat).map m).toArray:=bj h q
  exact(bC (t:=.dj) rfl).2 (congrArg (fun v=>[v]) O)
 ·cases o
def nR(st:af):ap->ap
 |.row r=>match look st.rw r with
  |some c=>.val (.ab c.t) c.xs
  |none=>.row r
 |.iter b=>match look st.ae b with
  |some (.mp k v ps)=>.val (.map k v) (some ps)
  |_=>.iter b
 |s=>s
theorem KF(h:ao cx m st T w){v:Value}{s:ap}(o:aX w (au cx m st.ids) m v s):aX w (fun _=>False) m v (nR st s):=by
 have q:∀b,b<w.heap.size->¬au cx m st.ids b->w.heap[b]? =w.heap[b]? :=fun _ _ _=>rfl
 have O:∀b,b<w.heap.size->False->au cx m st.ids b:=fun _ _ h=>h.elim
 have R:=fG (M':=fun _=>False) q O o
 cases s with
 |row r=>
  simp only[nR]
  split
  ·rename_i c U
   have e:v=m r:=o
   rw[e]
   exact(bC (t:=.ab c.t) rfl).2 (h.wV (be U) (fun b _ W=>W.elim) fun g _ W=>W)
  ·exact R
 |iter b=>
  simp only[nR]
  split
  ·rename_i k v' ps U
   have e:v=m b:=o
   obtain⟨g,Y,_,es,Z,la,lb,lc,ld⟩:=h.box (be U)
   rw[e]
   exact(bC (t:=.map k v') rfl).2 ⟨g,es,Z,by rw[Y];rfl,la,fun h=>h.elim,lb,lc,io (fun _ _ h=>dC q O h) (fun _ _ h=>dC q O h) ld⟩
  ·exact R
 |_=>exact R
def ar{α:Type}(xs:List α)(i:Int):Option α:=if 0<=i then xs[i.toNat]? else none
def eE(s:List UInt8)(i:Int):Option Int:=match ar s i with
 |some b=>some (b.toNat:Int)
 |none=>none
theorem jG{α:Type}{xs:List α}{i:Int}{x:α}(h:ar xs i=some x):0<=i/\i<xs.length/\xs[i.toNat]? =some x:=by
 unfold ar at h
 split at h
 ·rename_i o
  have:=(List.getElem?_eq_some_iff.1 h).1
  exact⟨o,by omega,h⟩
 ·cases h
def dK{α:Type}(s:List α)(o q:Int):Option (List α):=if 0<=o/\o<=q/\q<=s.length then some ((s.take q.toNat).drop o.toNat)else none
theorem vA{α:Type}{s r:List α}{o q:Int}(h:dK s o q=some r):0<=o/\o<=q/\q<=s.length/\r=(s.take q.toNat).drop o.toNat:=by
 unfold dK at h
 split at h
 ·rename_i O;cases h;exact⟨O.1,O.2.1,O.2.2,rfl⟩
 ·cases h
def ny(P:Program)(w:World)(s:Sem Value)(v:Value):Prop:=∀w',Ext w w'->s.run P w'=.ok v w'
theorem gF.steady{P:Program}{s:Sem Value}{v:Value}(h:gF P s v):ny P w s v:=fun w' _=>h w'
def fx(xs:List Int):List UInt8:=xs.map fun n=>UInt8.ofNat n.toNat
def cz(xs:List Int):List UInt8:=(runesBytes xs).data.toList
def kT(s:List UInt8):Nat->Nat->List Int
 |0,_=>[]
 |n+1,i=>if i<s.length then((Utf8.decode (bytesOf s) i).1:Int)::kT s n (i+(Utf8.decode (bytesOf s) i).2)else[]
def eJ(s:List UInt8):List Int:=kT s s.length 0
theorem w9{w:World}{M:Nat->Prop}{k:IntKind}:∀{xs:List Int} {cs:List Value},bT (aL w M (.int k)) cs xs->cs=xs.map (Value.int k)
 |[],_,h=>h
 |x::xs,_,⟨c1,c2,e,o,q⟩=>by
  have o:c1=[.int k x]:=o
  rw[e,o,w9 q]
  rfl
theorem foldl_push:∀(l:List Int) (r:ByteArray),l.foldl (fun r n=>r.push (UInt8.ofNat n.toNat)) r=⟨r.data++(fx l).toArray⟩
 |[],r=>by simp[fx]
 |b::l,r=>by
  simp only[List.foldl_cons]
  rw[foldl_push l]
  simp[ByteArray.push,fx]
theorem R6{P:Program}{src o e:TypeId}(W:P.underlying src=some (.slice e))(Y:P.underlying e=some (.int .u8))(ai:P.underlying o=some .string){v:Value}{xs:List Int}(q:bf w (fun _=>False) v (.ab (.int .u8)) xs):
  ny P w (convert src o v) (.string (bytesOf (fx xs)))/\(fx xs).length<=maxLen:=by
 obtain⟨a,cap,cells,O,Z,la,lb,lc,ld⟩:∃(a:Option Addr) (cap:Nat) (cells:List Value),[v]=[.slice a (List.length (α:=Int) xs) cap]/\List.length (α:=Int) xs<=cap/\cap<=maxLen/\(a=none->cap=0)/\
  bT (aL w (fun _=>False) (.int .u8)) cells xs/\∀j u,cells[j]? =some u->∃b,a=some b/\w.cell? (b.add j)=some u/\¬False:=(bC (t:=.ab (.int .u8)) rfl).1 q
 clear q
 simp only[List.cons.injEq,and_true]at O
 subst O
 have le:=w9 lc
 subst le
 refine⟨fun w' lf=>?_,by unfold fx;rw[List.length_map];exact Nat.le_trans Z la⟩
 rw[run_convert_bytes_string w' src o e a _ _ W Y ai]
 cases a with
 |none=>
  have lk:=lb rfl
  have lg:xs=[]:=List.eq_nil_of_length_eq_zero (by omega)
  subst lg
  rfl
 |some b=>
  have R:=run_loadCells_list (P:=P) w' b (xs.map (Value.int .u8)) (fun j u lh=>by
   obtain⟨ll,li,U,_⟩:=ld j u lh
   cases li
   rw[World.cell?_of_block (w:=w) (lf.block _ (World.block_lt_of_cell? w _ U))]
   exact U)
  rw[List.length_map]at R
  rw[run_bytesToString w' b xs.length cap xs R,foldl_push]
  have lj:ByteArray.empty.data=#[]:=rfl
  rw[lj]
  simp[bytesOf]
theorem Qe{P:Program}{src o e:TypeId}(q:P.underlying src=some (.slice e))(O:P.underlying e=some (.int .i32))(ai:P.underlying o=some .string){v:Value}{xs:List Int}(R:bf w (fun _=>False) v (.ab (.int .i32)) xs):
  ny P w (convert src o v) (.string (bytesOf (cz xs))):=by
 obtain⟨a,cap,cells,U,lh,li,Z,la,lb⟩:∃(a:Option Addr) (cap:Nat) (cells:List Value),[v]=[.slice a (List.length (α:=Int) xs) cap]/\List.length (α:=Int) xs<=cap/\cap<=maxLen/\(a=none->cap=0)/\
  bT (aL w (fun _=>False) (.int .i32)) cells xs/\∀j u,cells[j]? =some u->∃b,a=some b/\w.cell? (b.add j)=some u/\¬False:=(bC (t:=.ab (.int .i32)) rfl).1 R
 clear R
 simp only[List.cons.injEq,and_true]at U
 subst U
 have lc:=w9 la
 subst lc
 intro w' ld
 have le:bytesOf (cz xs)=runesBytes xs:=by unfold bytesOf cz;simp
 rw[le]
 cases a with
 |none=>
  have lj:=Z rfl
  have lf:xs=[]:=List.eq_nil_of_length_eq_zero (by omega)
  subst lf
  rw[run_convert_runes_nil w' src o e _ _ q O ai]
  rfl
 |some b=>
  rw[run_convert_runes w' src o e b xs.length cap xs (Nat.le_refl _) q O ai (fun j W=>?_),List.take_length]
  obtain⟨lk,lg,Y,_⟩:=lb j (.int .i32 (xs.getD j 0)) (by rw[List.getElem?_map,List.getElem?_eq_getElem W];simp[List.getD_eq_getElem?_getD,W])
  cases lg
  rw[World.cell?_of_block (w:=w) (ld.block _ (World.block_lt_of_cell? w _ Y))]
  exact Y
theorem NQ(s:List UInt8):∀(n i:Nat) (o:Array Value),Conv.runesFrom (bytesOf s) n i o=o++((kT s n i).map (Value.int .i32)).toArray
 |0,_,o=>by simp[Conv.runesFrom,kT]
 |n+1,i,o=>by
  unfold Conv.runesFrom kT
  rw[jf]
  split
  ·simp only[]
   rw[NQ s n]
   simp
  ·simp
theorem Lt(s:List UInt8):∀(n i:Nat),(kT s n i).length<=n
 |0,_=>by simp[kT]
 |n+1,i=>by
  unfold kT
  split
  ·have:=Lt s n (i+(Utf8.decode (bytesOf s) i).2);simp only[List.length_cons];omega
  ·simp
theorem add_zero(a:Addr):a.add 0=a:=by simp[Addr.add]
theorem add_add(a:Addr)(i j:Nat):(a.add i).add j=a.add (i+j):=by
 unfold Addr.add
 by_cases o:i=0<;>by_cases q:j=0<;>simp[o,q,Nat.add_assoc]
theorem gS(g aa n:Nat):(⟨g,aa,none⟩:Addr).add n=⟨g,aa+n,none⟩:=by
 unfold Addr.add
 split
 ·rename_i h;simp[h]
 ·rfl
def Holds(w:World)(M:Nat->Prop)(a:Addr)(t:ah)(x:t.el):Prop:=∃cells,aL w M t cells x/\∀j u,cells[j]? =some u->w.cell? (a.add j)=some u/\¬M a.block
theorem Holds.part{M:Nat->Prop}{a:Addr}{t:ah}{x:t.el}(h:Holds w M a t x){off:Nat}{u:ah}{y:u.el}(q:dd t x off u=some y):Holds w M (a.add off) u y:=by
 obtain⟨cells,O,R⟩:=h
 obtain⟨c1,c2,c3,rfl,la,U⟩:=pA t O q
 refine⟨c2,U,fun j v o=>?_⟩
 have lb:=(List.getElem?_eq_some_iff.1 o).1
 have W:(c1++c2++c3)[off+j]? =some v:=by
  rw[List.append_assoc,List.getElem?_append_right (by omega),List.getElem?_append_left (by omega),<-o]
  congr 1
  omega
 obtain⟨Y,Z⟩:=R _ _ W
 exact⟨by rw[add_add];exact Y,by rw[kg];exact Z⟩
theorem EP{P:Program}{w:World}{a:Addr}{cells:List Value}(h:∀j u,cells[j]? =some u->w.cell? (a.add j)=some u):(loadCells a cells.length).run P w=.ok cells.toArray w:=
 run_loadCells_list (P:=P) w a cells h
theorem WF{P:Program}{a:Addr}{M:Nat->Prop}{tid d:Nat}{t:ah}{x:t.el}(U:dc P d tid=some t)(h:Holds w M a t x)(lb:0<t.cells):
  ∃v,ny P w (loadVar tid a) v/\bf w M v t x:=by
 obtain⟨cells,W,Z⟩:=h
 have o:=cu t W
 have Y:∀w',Ext w w'->∀j u,cells[j]? =some u->w'.cell? (a.add j)=some u:=by
  intro w' q j u la
  have O:=(Z j u la).1
  rw[World.cell?_of_block (w:=w) (q.block _ (World.block_lt_of_cell? w _ O))]
  exact O
 cases R:t.agg with
 |true=>
  refine⟨.agg cells.toArray,fun w' q=>?_,(eG R).2 ⟨cells,rfl,W⟩⟩
  unfold loadVar
  rw[Sem.run_bind,kK U,R]
  simp only[Result.andThen_ok,if_true,Sem.run_bind,fi U]
  rw[<-o,EP (Y w' q)]
  rfl
 |false=>
  have lc:t.cells=1:=by cases t<;>first|rfl|(simp[ah.agg]at R)
  match cells,o with
  |[c],_=>
   refine⟨c,fun w' q=>?_,(bC R).2 W⟩
   have O:=Y w' q 0 c rfl
   rw[add_zero]at O
   unfold loadVar
   rw[Sem.run_bind,kK U,R]
   simp only[Result.andThen_ok,Bool.false_eq_true,if_false]
   simp[load,Sem.run,O]
  |[],o=>simp at o;omega
  |_::_::_,o=>simp at o;omega
def fieldInfo(P:Program)(s:TypeId)(f:Nat):Option (Nat×ah):=
 match P.underlying s with
 |some (.struct an)=>match an[f]? with
  |some o=>match ty P o.type with
   |some u=>bif Nat.beq u.cells 0 then none else some (o.offset,u)
   |none=>none
  |none=>none
 |_=>none
theorem ye{P:Program}{s:TypeId}{f off:Nat}{u:ah}(h:fieldInfo P s f=some (off,u)):
  ∃an o,P.underlying s=some (.struct an)/\an[f]? =some o/\ty P o.type=some u/\o.offset=off/\0<u.cells:=by
 unfold fieldInfo at h
 split at h
 ·rename_i an O
  split at h
  ·rename_i o R
   split at h
   ·rename_i U W
    cases q:Nat.beq U.cells 0 with
    |true=>rw[q]at h;cases h
    |false=>
     rw[q]at h
     cases h
     exact⟨an,o,O,R,W,rfl,Nat.pos_of_ne_zero (beq_false q)⟩
   ·cases h
  ·cases h
 ·cases h
theorem ni{P:Program}{s:TypeId}{f off:Nat}{u:ah}(h:fieldInfo P s f=some (off,u))(a:Addr)(w:World):
  (Instr.fieldAt s (.pointer (some a)) f).run P w=.ok (.pointer (some (a.add off))) w:=by
 obtain⟨an,U,o,q,O,rfl,W⟩:=ye h
 have R:¬u.cells=0:=by omega
 simp only[Instr.fieldAt,Sem.run_bind,run_underlying o,Result.andThen_ok,q,Instr.sureAddr,Sem.run_pure,fieldPlace,fi O,if_neg R]
theorem UU{P:Program}{s:TypeId}{f off:Nat}{u:ah}(h:fieldInfo P s f=some (off,u)){M:Nat->Prop}{t:ah}{x:t.el}{v:Value}(Z:t.agg=true)(la:bf w M v t x){y:u.el}(lb:dd t x off u=some y):
  ∃r,gF P (Instr.field s v f) r/\bf w M r u y:=by
 obtain⟨an,lc,U,W,O,rfl,lf⟩:=ye h
 obtain⟨cs,rfl,ld⟩:=(eG Z).1 la
 obtain⟨c1,c2,c3,rfl,Y,R⟩:=pA t ld lb
 have o:=cu u R
 cases q:u.agg with
 |true=>
  refine⟨.agg c2.toArray,fun w'=>?_,(eG q).2 ⟨c2,rfl,R⟩⟩
  simp only[Instr.field,Sem.run_bind,run_underlying U,Result.andThen_ok,W,asAgg,Sem.run_pure,part,kK O,q,if_true,fi O]
  congr 2
  apply Array.ext'
  rw[Array.toList_extract,List.extract_eq_take_drop,<-Y,<-o]
  simp
 |false=>
  have lg:u.cells=1:=by cases u<;>first|rfl|(simp[ah.agg]at q)
  match c2,o with
  |[c],_=>
   refine⟨c,fun w'=>?_,(bC q).2 R⟩
   have le:(c1++[c]++c3).toArray[lc.offset]? =some c:=by
    rw[List.getElem?_toArray,<-Y];simp
   simp only[Instr.field,Sem.run_bind,run_underlying U,Result.andThen_ok,W,asAgg,Sem.run_pure,part,kK O,q,Bool.false_eq_true,if_false,le]
  |[],o=>simp at o;omega
  |_::_::_,o=>simp at o;omega
end Go.Ev
