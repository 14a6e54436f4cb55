/- The layouts of library functions at this program, as the kit's own tool wrote them. -/
import Derived.Test.YtgkgdfmldioddaaGreatDoorProg
import Derived.Shelf.Unicode.DecodeAny
import Derived.KernelRfl
import Derived.WalkKit
import Derived.IntWalk
import Derived.ChangeKeysEq
import Derived.Lib.Strings
import Derived.Laws.IdiomStrings
import Derived.Laws.Cover4
import Derived.WideKeyRuns
import Derived.MapKept
set_option linter.unusedSectionVars false
set_option linter.unusedVariables false
set_option linter.unusedSimpArgs false
namespace Go.Ev
open Go Go.Proofs Go.Shelf
set_option maxRecDepth 100000
def NW:Go.Shelf.Ren:=⟨fun|197=>113|260=>147|n=>n,fun|9=>9|21=>21|3=>3|4=>4|5=>5|105=>193|119=>270|0=>0|46=>153|139=>273|138=>272|n=>n,fun|3=>1|4=>2|n=>n⟩
theorem MX:Go.Proofs.Lays.n197 Tryz.prog NW:={
 mixed:=by kernel_rfl
 f197:=Tryz.func113.trans (congrArg some (by kernel_rfl))
 f260:=Tryz.func147.trans (congrArg some (by kernel_rfl))
 t0:=Tryz.underlying0
 a0:=Tryz.isAgg0
 z0:=Tryz.sizeOf0
 v0:=Tryz.zeroValue0
 t3:=Tryz.underlying3
 a3:=Tryz.isAgg3
 z3:=Tryz.sizeOf3
 v3:=Tryz.zeroValue3
 t4:=Tryz.underlying4
 a4:=Tryz.isAgg4
 z4:=Tryz.sizeOf4
 v4:=Tryz.zeroValue4
 t5:=Tryz.underlying5
 a5:=Tryz.isAgg5
 z5:=Tryz.sizeOf5
 v5:=Tryz.zeroValue5
 t9:=Tryz.underlying9
 a9:=Tryz.isAgg9
 z9:=Tryz.sizeOf9
 v9:=Tryz.zeroValue9
 t21:=Tryz.underlying21
 a21:=Tryz.isAgg21
 z21:=Tryz.sizeOf21
 v21:=Tryz.zeroValue21
 t46:=Tryz.underlying153
 a46:=Tryz.isAgg153
 z46:=Tryz.sizeOf153
 v46:=Tryz.zeroValue153
 t105:=Tryz.underlying193
 a105:=Tryz.isAgg193
 z105:=Tryz.sizeOf193
 v105:=Tryz.zeroValue193
 t119:=Tryz.underlying270
 a119:=Tryz.isAgg270
 z119:=Tryz.sizeOf270
 t138:=Tryz.underlying272
 a138:=Tryz.isAgg272
 z138:=Tryz.sizeOf272
 v138:=Tryz.zeroValue272
 t139:=Tryz.underlying273
 a139:=Tryz.isAgg273
 z139:=Tryz.sizeOf273
 v139:=Tryz.zeroValue273
 g3:=by kernel_rfl
 g4:=by kernel_rfl}
def Hx:Go.Shelf.Ren:=⟨fun|260=>147|n=>n,fun|9=>9|21=>21|3=>3|4=>4|5=>5|119=>270|0=>0|46=>153|139=>273|138=>272|n=>n,fun|3=>1|4=>2|n=>n⟩
theorem R9:Go.Proofs.Lays.n260 Tryz.prog Hx:={
 mixed:=by kernel_rfl
 f260:=Tryz.func147.trans (congrArg some (by kernel_rfl))
 t0:=Tryz.underlying0
 a0:=Tryz.isAgg0
 z0:=Tryz.sizeOf0
 v0:=Tryz.zeroValue0
 t3:=Tryz.underlying3
 a3:=Tryz.isAgg3
 z3:=Tryz.sizeOf3
 v3:=Tryz.zeroValue3
 t4:=Tryz.underlying4
 a4:=Tryz.isAgg4
 z4:=Tryz.sizeOf4
 v4:=Tryz.zeroValue4
 t5:=Tryz.underlying5
 a5:=Tryz.isAgg5
 z5:=Tryz.sizeOf5
 v5:=Tryz.zeroValue5
 t9:=Tryz.underlying9
 a9:=Tryz.isAgg9
 z9:=Tryz.sizeOf9
 v9:=Tryz.zeroValue9
 t21:=Tryz.underlying21
 a21:=Tryz.isAgg21
 z21:=Tryz.sizeOf21
 v21:=Tryz.zeroValue21
 t46:=Tryz.underlying153
 a46:=Tryz.isAgg153
 z46:=Tryz.sizeOf153
 v46:=Tryz.zeroValue153
 t119:=Tryz.underlying270
 a119:=Tryz.isAgg270
 z119:=Tryz.sizeOf270
 t138:=Tryz.underlying272
 a138:=Tryz.isAgg272
 z138:=Tryz.sizeOf272
 v138:=Tryz.zeroValue272
 t139:=Tryz.underlying273
 a139:=Tryz.isAgg273
 z139:=Tryz.sizeOf273
 v139:=Tryz.zeroValue273
 g3:=by kernel_rfl
 g4:=by kernel_rfl}
end Go.Ev
namespace Go.Ev
open Go
inductive ag where
 |int (k:IntKind)
 |bool
 |str
 |ab (t:ag)
 |unit
 |pair (a b:ag)
 |ptr (t:ag)
 |fn (f:Nat) (t:ag)
 |err
 |arr (n:Nat) (t:ag)
 |map (k v:ag)
 |cV
def ag.el:ag->Type
 |.int _=>Int
 |.bool=>Bool
 |.str=>List UInt8
 |.ab t=>List t.el
 |.unit=>Unit
 |.pair a b=>a.el×b.el
 |.ptr t=>t.el
 |.fn _ t=>t.el
 |.err=>Option (Option (Nat×Int))
 |.arr _ t=>List t.el
 |.map k v=>Option (List (k.el×v.el))
 |.cV=>Unit
def ag.cells:ag->Nat
 |.int _=>1
 |.bool=>1
 |.str=>1
 |.ab _=>1
 |.unit=>0
 |.pair a b=>a.cells+b.cells
 |.ptr _=>1
 |.fn _ _=>1
 |.err=>1
 |.arr n t=>n*t.cells
 |.map _ _=>1
 |.cV=>1
def ag.qm:ag->Bool
 |.unit=>true
 |.pair _ _=>true
 |_=>false
def ag.flat:ag->Bool
 |.int _=>true
 |.bool=>true
 |.str=>true
 |.ab _=>false
 |.unit=>true
 |.pair a b=>a.flat&&b.flat
 |.ptr _=>false
 |.fn _ _=>false
 |.err=>false
 |.arr _ t=>t.flat
 |.map _ _=>false
 |.cV=>false
def ag.agg:ag->Bool
 |.unit=>true
 |.pair _ _=>true
 |.arr _ _=>true
 |_=>false
theorem ag.UK{t:ag}(h:t.qm=true):t.agg=true:=by cases t<;>first|rfl|(simp[ag.qm]at h)
def gU:IntKind->IntKind->Bool
 |.i8,.i8=>true
 |.i16,.i16=>true
 |.i32,.i32=>true
 |.i64,.i64=>true
 |.u8,.u8=>true
 |.u16,.u16=>true
 |.u32,.u32=>true
 |.u64,.u64=>true
 |_,_=>false
theorem nK{a b:IntKind}(h:gU a b=true):a=b:=by cases a<;>cases b<;>first|rfl|(simp[gU]at h)
def ag.beq:ag->ag->Bool
 |.int k,.int l=>gU k l
 |.bool,.bool=>true
 |.str,.str=>true
 |.ab a,.ab b=>a.beq b
 |.unit,.unit=>true
 |.pair a b,.pair c d=>a.beq c&&b.beq d
 |.ptr a,.ptr b=>a.beq b
 |.fn f a,.fn g b=>Nat.beq f g&&a.beq b
 |.err,.err=>true
 |.arr n a,.arr m b=>Nat.beq n m&&a.beq b
 |.map a b,.map c d=>a.beq c&&b.beq d
 |.cV,.cV=>true
 |_,_=>false
theorem ag.eq_of_beq:∀{a b:ag},a.beq b=true->a=b:=by
 intro a
 induction a with
 |int k=>intro b h;cases b<;>simp only[ag.beq,Bool.false_eq_true]at h;rw[nK h]
 |bool=>intro b h;cases b<;>first|rfl|(simp only[ag.beq,Bool.false_eq_true]at h)
 |str=>intro b h;cases b<;>first|rfl|(simp only[ag.beq,Bool.false_eq_true]at h)
 |ab t o=>intro b h;cases b<;>simp only[ag.beq,Bool.false_eq_true]at h;rw[o h]
 |unit=>intro b h;cases b<;>first|rfl|(simp only[ag.beq,Bool.false_eq_true]at h)
 |pair x y O U=>
  intro b h
  cases b<;>simp only[ag.beq,Bool.false_eq_true,Bool.and_eq_true]at h
  rw[O h.1,U h.2]
 |ptr t o=>intro b h;cases b<;>simp only[ag.beq,Bool.false_eq_true]at h;rw[o h]
 |fn f t o=>intro b h;cases b<;>simp only[ag.beq,Bool.false_eq_true,Bool.and_eq_true]at h;rw[Nat.eq_of_beq_eq_true h.1,o h.2]
 |err=>intro b h;cases b<;>first|rfl|(simp only[ag.beq,Bool.false_eq_true]at h)
 |cV=>intro b h;cases b<;>first|rfl|(simp only[ag.beq,Bool.false_eq_true]at h)
 |arr n t o=>intro b h;cases b<;>simp only[ag.beq,Bool.false_eq_true,Bool.and_eq_true]at h;rw[Nat.eq_of_beq_eq_true h.1,o h.2]
 |map x y O U=>
  intro b h
  cases b<;>simp only[ag.beq,Bool.false_eq_true,Bool.and_eq_true]at h
  rw[O h.1,U h.2]
structure aj where
 t:ag
 x:t.el
def aj.as(v:aj)(u:ag):Option u.el:=
 match h:v.t.beq u with
 |true=>some (ag.eq_of_beq h▸v.x)
 |false=>none
def bD{α:Type}(f:List Value->α->Prop):List Value->List α->Prop
 |cs,[]=>cs=[]
 |cs,x::xs=>∃c1 c2,cs=c1++c2/\f c1 x/\bD f c2 xs
def qR{α:Type}(agg:Bool)(f:List Value->α->Prop)(v:Value)(x:α):Prop:=
 if agg then∃o:List Value,v=.agg o.toArray/\f o x else f [v] x
def dX{α β:Type}(o:Value->α->Prop)(O:Value->β->Prop):List MapEntry->List (α×β)->Prop
 |[],[]=>True
 |e::es,p::ps=>o e.key p.1/\O e.val p.2/\dX o O es ps
 |_,_=>False
def WI{α β:Type}(w:World)(M:Nat->Prop)(O:Value->α->Prop)(U:Value->β->Prop)(o:List Value):Option (List (α×β))->Prop
 |none=>o=[.map none]
 |some ps=>∃(b:Nat) (es:Array MapEntry) (clock:Nat),o=[.map (some b)]/\w.heap[b]? =some (.map es clock)/\¬M b/\(∀e∈es.toList,e.born<clock)/\(es.toList.map (·.born)).Nodup/\dX O U es.toList ps
def aF(w:World)(M:Nat->Prop):(t:ag)->List Value->t.el->Prop
 |.int k,o,n=>o=[.int k n]
 |.bool,o,b=>o=[.bool b]
 |.str,o,s=>o=[.string ⟨s.toArray⟩]/\s.length<=maxLen
 |.ab t,o,xs=>∃(a:Option Addr) (cap:Nat) (cells:List Value),o=[.slice a xs.length cap]/\xs.length<=cap/\cap<=maxLen/\(a=none->cap=0)/\
   bD (aF w M t) cells xs/\∀j u,cells[j]? =some u->∃b,a=some b/\w.cell? (b.add j)=some u/\¬M b.block
 |.unit,o,_=>o=[]
 |.pair a b,o,x=>∃c1 c2,o=c1++c2/\aF w M a c1 x.1/\aF w M b c2 x.2
 |.ptr t,o,x=>∃(a:Addr) (cells:List Value),o=[.pointer (some a)]/\aF w M t cells x/\∀j u,cells[j]? =some u->w.cell? (a.add j)=some u/\¬M a.block
 |.fn f t,o,x=>∃O:List Value,o=[.func (.func f) #[] O.toArray]/\aF w M t O x
 |.err,o,b=>(b=none/\o=[.nilIface])\/(b=some none/\∃t v,o=[.iface t v])\/(∃t n,b=some (some (t,n))/\o=[.iface t (.int .i64 n)])
 |.arr n t,o,xs=>List.length (α:=t.el) xs=n/\bD (aF w M t) o xs
 |.map k v,o,x=>WI w M (qR k.agg (aF w M k)) (qR v.agg (aF w M v)) o x
 |.cV,o,_=>∃v:Value,o=[v]/\v.oneCell'=true
theorem dx{α:Type}{f g:List Value->α->Prop}(h:∀c x,f c x->g c x):∀{xs:List α} {cs:List Value},bD f cs xs->bD g cs xs
 |[],_,o=>o
 |_::_,_,⟨c1,c2,e,h1,O⟩=>⟨c1,c2,e,h _ _ h1,dx h O⟩
theorem H2{α:Type}{agg:Bool}{f g:List Value->α->Prop}(h:∀c x,f c x->g c x){v:Value}{x:α}(o:qR agg f v x):qR agg g v x:=by
 unfold qR at*
 split at o
 ·rename_i O;rw[if_pos O];obtain⟨U,e,W⟩:=o;exact⟨U,e,h _ _ W⟩
 ·rename_i O;rw[if_neg O];exact h _ _ o
theorem gH{α β:Type}{o O:Value->α->Prop}{U W:Value->β->Prop}(hk:∀v x,o v x->O v x)(Y:∀v x,U v x->W v x):∀{es:List MapEntry} {ps:List (α×β)},dX o U es ps->dX O W es ps
 |[],[],h=>h
 |[],_::_,h=>h.elim
 |_::_,[],h=>h.elim
 |_::_,_::_,⟨h1,Z,la⟩=>⟨hk _ _ h1,Y _ _ Z,gH hk Y la⟩
theorem ue{α β:Type}{o:Value->α->Prop}{O:Value->β->Prop}:∀{es:List MapEntry} {ps:List (α×β)},dX o O es ps->es.length=ps.length
 |[],[],_=>rfl
 |[],_::_,h=>h.elim
 |_::_,[],h=>h.elim
 |_::_,_::_,⟨_,_,h⟩=>by simp[ue h]
theorem gD{w:World}{b:Nat}{aa:Obj}(h:w.heap[b]? =some aa):b<w.heap.size:=by
 rcases Nat.lt_or_ge b w.heap.size with h1|h1
 ·exact h1
 ·rw[Array.getElem?_eq_none h1]at h;cases h
theorem kg(a:Addr)(n:Nat):(a.add n).block=a.block:=by unfold Addr.add;split<;>rfl
theorem cB{w w':World}{M M':Nat->Prop}(Z:∀b,b<w.heap.size->¬M b->w'.heap[b]? =w.heap[b]?)(la:∀b,b<w.heap.size->M' b->M b):
  ∀(t:ag) {cs:List Value} {x:t.el},aF w M t cs x->aF w' M' t cs x:=by
 intro t
 induction t with
 |int k=>exact fun h=>h
 |bool=>exact fun h=>h
 |str=>exact fun h=>h
 |unit=>exact fun h=>h
 |pair a b lg lh=>exact fun⟨c1,c2,e,h1,o⟩=>⟨c1,c2,e,lg h1,lh o⟩
 |ab t U=>
  rintro cs x ⟨a,cap,cells,e,h1,o,lc,li,lj⟩
  refine⟨a,cap,cells,e,h1,o,lc,dx (fun _ _=>U) li,fun j u ld=>?_⟩
  obtain⟨b,lf,W,Y⟩:=lj j u ld
  have O:b.block<w.heap.size:=by
   have:=World.block_lt_of_cell? w (b.add j) W
   rwa [kg]at this
  refine⟨b,lf,?_,fun h=>Y (la _ O h)⟩
  rw[World.cell?_of_block (w:=w) (by rw[kg];exact Z _ O Y)]
  exact W
 |ptr t U=>
  rintro cs x ⟨a,cells,e,h1,o⟩
  refine⟨a,cells,e,U h1,fun j u ld=>?_⟩
  obtain⟨W,Y⟩:=o j u ld
  have O:a.block<w.heap.size:=by
   have:=World.block_lt_of_cell? w (a.add j) W
   rwa [kg]at this
  refine⟨?_,fun h=>Y (la _ O h)⟩
  rw[World.cell?_of_block (w:=w) (by rw[kg];exact Z _ O Y)]
  exact W
 |fn f t U=>exact fun⟨lk,e,h⟩=>⟨lk,e,U h⟩
 |err=>exact fun h=>h
 |cV=>exact fun h=>h
 |arr n t U=>exact fun⟨h1,o⟩=>⟨h1,dx (fun _ _=>U) o⟩
 |map k v ll lm=>
  intro cs x h
  match x,h with
  |none,h=>exact h
  |some ps,⟨b,es,clock,e,h1,o,lf,ln,lc⟩=>
   have O:=gD h1
   exact⟨b,es,clock,e,by rw[Z b O o];exact h1,fun W=>o (la b O W),lf,ln,gH (fun _ _=>H2 fun _ _=>ll) (fun _ _=>H2 fun _ _=>lm) lc⟩
theorem jq{w:World}{M:Nat->Prop}{t:ag}(O:∀(o:List Value) (x:t.el),aF w M t o x->o.length=t.cells):
  ∀(xs:List t.el) (o:List Value),bD (aF w M t) o xs->o.length=xs.length*t.cells
 |[],_,h=>by cases h;simp
 |x::xs,o,⟨c1,c2,e,h1,U⟩=>by
  subst e
  rw[List.length_append,O _ _ h1,jq O xs c2 U,List.length_cons,Nat.succ_mul,Nat.add_comm]
theorem ch{w:World}{M:Nat->Prop}:∀(t:ag) {cs:List Value} {x:t.el},aF w M t cs x->cs.length=t.cells:=by
 intro t
 induction t with
 |int k=>intro cs x h;cases h;rfl
 |bool=>intro cs x h;cases h;rfl
 |str=>intro cs x h;cases h.1;rfl
 |unit=>intro cs x h;cases h;rfl
 |pair a b U W=>rintro cs x ⟨c1,c2,e,h1,O⟩;subst e;rw[List.length_append,U h1,W O];rfl
 |ab t o=>rintro cs x ⟨a,cap,cells,e,_⟩;subst e;rfl
 |ptr t o=>rintro cs x ⟨a,cells,e,_⟩;subst e;rfl
 |fn f t o=>rintro cs x ⟨Y,e,_⟩;subst e;rfl
 |err=>rintro cs x (⟨_,e⟩|⟨_,t,v,e⟩|⟨t,n,_,e⟩)<;>subst e<;>rfl
 |cV=>rintro cs x ⟨v,e,_⟩;subst e;rfl
 |arr n t o=>
  rintro cs x ⟨h1,O⟩
  have:=jq (fun cs x=>o) x cs O
  rw[this,h1]
  rfl
 |map k v Z la=>
  intro cs x h
  match x,h with
  |none,h=>have h:cs=[.map none]:=h;rw[h];rfl
  |some ps,⟨b,es,clock,e,_⟩=>rw[e];rfl
theorem Gk{α:Type}{f:List Value->α->Prop}(h:∀c x,f c x->∀u∈c,u.oneCell'=true):∀{xs:List α} {cs:List Value},bD f cs xs->∀u∈cs,u.oneCell'=true
 |[],_,o,u,hu=>by cases o;cases hu
 |_::_,_,⟨c1,c2,e,h1,O⟩,u,hu=>by
  subst e
  rcases List.mem_append.1 hu with hu|hu
  ·exact h _ _ h1 u hu
  ·exact Gk h O u hu
theorem jK{w:World}{M:Nat->Prop}:∀(t:ag) {cs:List Value} {x:t.el},aF w M t cs x->∀u∈cs,u.oneCell'=true:=by
 intro t
 induction t with
 |int k=>intro cs x h u hu;cases h;simp at hu;subst hu;rfl
 |bool=>intro cs x h u hu;cases h;simp at hu;subst hu;rfl
 |str=>intro cs x h u hu;cases h.1;simp at hu;subst hu;rfl
 |unit=>intro cs x h u hu;cases h;simp at hu
 |pair a b U W=>
  rintro cs x ⟨c1,c2,e,h1,O⟩ u hu
  subst e
  rcases List.mem_append.1 hu with hu|hu
  ·exact U h1 u hu
  ·exact W O u hu
 |ab t o=>rintro cs x ⟨a,cap,cells,e,_⟩ u hu;subst e;simp at hu;subst hu;rfl
 |ptr t o=>rintro cs x ⟨a,cells,e,_⟩ u hu;subst e;simp at hu;subst hu;rfl
 |fn f t o=>rintro cs x ⟨Y,e,_⟩ u hu;subst e;simp at hu;subst hu;rfl
 |err=>rintro cs x (⟨_,e⟩|⟨_,t,v,e⟩|⟨t,n,_,e⟩) u hu<;>subst e<;>simp at hu<;>subst hu<;>rfl
 |cV=>rintro cs x ⟨v,e,h⟩ u hu;subst e;simp at hu;subst hu;exact h
 |arr n t o=>rintro cs x ⟨h1,O⟩ u hu;exact Gk (fun _ _=>o) O u hu
 |map k v Z la=>
  intro cs x h u hu
  match x,h with
  |none,h=>have h:cs=[.map none]:=h;rw[h]at hu;simp at hu;subst hu;rfl
  |some ps,⟨b,es,clock,e,_⟩=>rw[e]at hu;simp at hu;subst hu;rfl
theorem MS{w w':World}{M M':Nat->Prop}:∀(t:ag) {cs:List Value} {x:t.el},t.flat=true->aF w M t cs x->aF w' M' t cs x:=by
 intro t
 induction t with
 |int k=>exact fun _ h=>h
 |bool=>exact fun _ h=>h
 |str=>exact fun _ h=>h
 |unit=>exact fun _ h=>h
 |pair a b W Y=>intro cs x o ⟨c1,c2,e,h1,U⟩;simp only[ag.flat,Bool.and_eq_true]at o;exact⟨c1,c2,e,W o.1 h1,Y o.2 U⟩
 |ab t O=>intro cs x o;simp[ag.flat]at o
 |ptr t O=>intro cs x o;simp[ag.flat]at o
 |fn f t O=>intro cs x o;simp[ag.flat]at o
 |err=>intro cs x o;simp[ag.flat]at o
 |cV=>intro cs x o;simp[ag.flat]at o
 |arr n t O=>intro cs x o ⟨h1,U⟩;exact⟨h1,dx (fun _ _=>O o) U⟩
 |map k v Z la=>intro cs x o;simp[ag.flat]at o
def a8(w:World)(M:Nat->Prop)(v:Value)(t:ag)(x:t.el):Prop:=
 if t.agg then∃o:List Value,v=.agg o.toArray/\aF w M t o x else aF w M t [v] x
theorem mi{w:World}{M:Nat->Prop}{v:Value}{t:ag}{x:t.el}(h:a8 w M v t x):aF w M t v.cells.toList x:=by
 unfold a8 at h
 split at h
 ·obtain⟨la,rfl,h⟩:=h;simpa[Value.cells]using h
 ·rename_i O
  cases t with
  |int k=>cases h;rfl
  |bool=>cases h;rfl
  |str=>obtain⟨h,W⟩:=h;cases h;exact⟨rfl,W⟩
  |ab t=>obtain⟨a,cap,cells,e,r⟩:=h;cases e;exact⟨a,cap,cells,rfl,r⟩
  |ptr t=>obtain⟨a,cells,e,r⟩:=h;cases e;exact⟨a,cells,rfl,r⟩
  |fn f t=>obtain⟨Y,e,r⟩:=h;cases e;exact⟨Y,rfl,r⟩
  |err=>rcases h with ⟨o,e⟩|⟨o,t,v,e⟩|⟨t,n,o,e⟩<;>cases e;exact .inl ⟨o,rfl⟩;exact .inr (.inl ⟨o,t,v,rfl⟩);exact .inr (.inr ⟨t,n,o,rfl⟩)
  |cV=>
   obtain⟨u,e,U⟩:=h
   cases e
   have Z:v.cells.toList=[v]:=by cases v<;>first|rfl|(simp[Value.oneCell']at U)
   exact⟨v,Z,U⟩
  |map k v'=>
   match x,h with
   |none,h=>have h:[v]=[.map none]:=h;cases h;rfl
   |some ps,⟨b,es,clock,e,r⟩=>cases e;exact⟨b,es,clock,rfl,r⟩
  |arr n t=>simp[ag.agg]at O
  |unit=>simp[ag.agg]at O
  |pair a b=>simp[ag.agg]at O
theorem dh{w w':World}{M M':Nat->Prop}(O:∀b,b<w.heap.size->¬M b->w'.heap[b]? =w.heap[b]?)(U:∀b,b<w.heap.size->M' b->M b)
  {v:Value}{t:ag}{x:t.el}(h:a8 w M v t x):a8 w' M' v t x:=by
 unfold a8 at*
 split at h
 ·rename_i o;rw[if_pos o];obtain⟨W,rfl,h⟩:=h;exact⟨W,rfl,cB O U t h⟩
 ·rename_i o;rw[if_neg o];exact cB O U t h
theorem wq{w w':World}{M M':Nat->Prop}{v:Value}{t:ag}{x:t.el}(O:t.flat=true)(h:a8 w M v t x):a8 w' M' v t x:=by
 unfold a8 at*
 split at h
 ·rename_i o;rw[if_pos o];obtain⟨U,rfl,h⟩:=h;exact⟨U,rfl,MS t O h⟩
 ·rename_i o;rw[if_neg o];exact MS t O h
def cE:(t:ag)->t.el->Nat->(u:ag)->Option u.el
 |.pair a b,x,off,u=>
  match Nat.beq off 0,aj.as ⟨.pair a b,x⟩ u with
  |true,some y=>some y
  |_,_=>bif Nat.blt off a.cells then cE a x.1 off u else cE b x.2 (off-a.cells) u
 |.arr n t,x,off,u=>
  match Nat.beq off 0,aj.as ⟨.arr n t,x⟩ u with
  |true,some y=>some y
  |_,_=>bif Nat.beq t.cells 0 then none else(match(show List t.el from x)[off/t.cells]? with
   |some z=>cE t z (off %t.cells) u
   |none=>none)
 |t,x,off,u=>bif Nat.beq off 0 then aj.as ⟨t,x⟩ u else none
def cn:(t:ag)->t.el->Nat->aj->Option t.el
 |.pair a b,x,off,v=>
  match Nat.beq off 0,v.as (.pair a b)with
  |true,some y=>some y
  |_,_=>bif Nat.blt off a.cells then(match cn a x.1 off v with|some y=>some (y,x.2)|none=>none)
   else(match cn b x.2 (off-a.cells) v with|some y=>some (x.1,y)|none=>none)
 |.arr n t,x,off,v=>
  match Nat.beq off 0,v.as (.arr n t)with
  |true,some y=>some y
  |_,_=>bif Nat.beq t.cells 0 then none else(match(show List t.el from x)[off/t.cells]? with
   |some z=>(match cn t z (off %t.cells) v with|some o=>some (List.set (show List t.el from x) (off/t.cells) o)|none=>none)
   |none=>none)
 |t,_,off,v=>bif Nat.beq off 0 then v.as t else none
end Go.Ev
namespace Go.Ev
open Go
inductive bQ where
 |v (u:aj)
 |r (r:Nat)
 |a
def bQ.is(b:Nat):bQ->Bool
 |.r c=>Nat.beq c b
 |_=>false
inductive nr where
 |f (off:Nat) (u:ag)
 |x (j:Int) (o:Nat)
def gx:List nr->Nat
 |[]=>0
 |.f off _::p=>off+gx p
 |.x j o::p=>j.toNat*o+gx p
theorem zD:∀(p q:List nr),gx (p++q)=gx p+gx q
 |[],q=>by simp[gx]
 |.f off u::p,q=>by simp only[List.cons_append,gx,zD p q];omega
 |.x j o::p,q=>by simp only[List.cons_append,gx,zD p q];omega
inductive ak where
 |any
 |undef
 |val (t:ag) (x:t.el)
 |dP (l:List aj)
 |gn (l:List bQ)
 |ptr (b off:Nat)
 |fw (b:Nat)
 |vptr (t:ag) (x:t.el)
 |row (r:Nat)
 |dV (r:Nat) (i:Int) (off o:Nat)
 |clos (f:Nat) (O:List Nat)
 |iter (b:Nat)
 |dE (b:Nat) (p:List nr)
 |osl (b:Nat)
 |gc (b:Nat) (i:Int)
 |sub (b:Nat) (i:Int)
 |bX (f b:Nat)
 |dW (b:Nat) (i:Int) (off o:Nat)
 |fD (b:Nat) (i j:Int) (off o:Nat)
 |af (n:Int)
 |eH (l:List bQ)
structure cw where
 e:Nat
 t:ag
 xs:List t.el
inductive eT where
 |mp (k v:ag)
 |row (e:Nat) (t:ag)
def eT.el:eT->Type
 |.mp k v=>Option (List (k.el×v.el))
 |.row _ t=>List t.el
structure ef where
 u:ag
 off:Nat
 e:Nat
 t:ag
inductive bL where
 |cells (l:List ak) (e:Nat)
 |iter (s:List UInt8) (pos:Nat)
 |mp (k v:ag) (ps:List (k.el×v.el))
 |cp (k v:ag) (left last:List (k.el×v.el))
 |aO (t:ag) (x:t.el) (e:Nat)
 |raw (f:World->(Nat->Prop)->Nat->Prop)
 |aT (e:Nat) (k:eT) (xs:List (Option k.el))
 |bj (e:Nat) (k:ef) (xs:List k.u.el) (h:Option Int)
structure ae where
 ab:List (Nat×ak)
 ad:List (Nat×bL)
 rw:List (Nat×cw)
def look{α:Type}:List (Nat×α)->Nat->Option α
 |[],_=>none
 |(k,v)::r,n=>bif Nat.beq k n then some v else look r n
def del{α:Type}:List (Nat×α)->Nat->List (Nat×α)
 |[],_=>[]
 |(k,v)::r,n=>bif Nat.beq k n then del r n else(k,v)::del r n
theorem aX{α:Type}{l:List (Nat×α)}{n:Nat}{v:α}(h:look l n=some v):(n,v)∈l:=by
 induction l with
 |nil=>simp[look]at h
 |cons p r O=>
  obtain⟨k,u⟩:=p
  unfold look at h
  cases o:Nat.beq k n with
  |true=>rw[o]at h;simp only[cond_true,Option.some.injEq]at h;subst h;rw[Nat.eq_of_beq_eq_true o];exact List.mem_cons_self
  |false=>rw[o]at h;exact List.mem_cons_of_mem _ (O h)
theorem cP{α:Type}{l:List (Nat×α)}{n k:Nat}{v:α}:(k,v)∈del l n↔(k,v)∈l/\k≠n:=by
 induction l with
 |nil=>simp[del]
 |cons p r W=>
  obtain⟨j,u⟩:=p
  unfold del
  cases O:Nat.beq j n with
  |true=>
   have U:=Nat.eq_of_beq_eq_true O
   simp only[cond_true,W,List.mem_cons,Prod.mk.injEq]
   constructor
   ·rintro⟨h1,o⟩;exact⟨.inr h1,o⟩
   ·rintro⟨⟨h1,_⟩|h1,o⟩
    ·exact absurd (h1.trans U) o
    ·exact⟨h1,o⟩
  |false=>
   have U:j≠n:=fun h=>by rw[h]at O;rw[Nat.beq_refl]at O;cases O
   simp only[cond_false,List.mem_cons,Prod.mk.injEq,W]
   constructor
   ·rintro(⟨h1,o⟩|⟨h1,o⟩)
    ·exact⟨.inl ⟨h1,o⟩,h1▸U⟩
    ·exact⟨.inr h1,o⟩
   ·rintro⟨h1|h1,o⟩
    ·exact .inl h1
    ·exact .inr ⟨h1,o⟩
theorem mJ{α:Type}(l:List (Nat×α))(n:Nat):(del l n).map (·.1)=(l.map (·.1)).filter (fun k=>!Nat.beq k n):=by
 induction l with
 |nil=>rfl
 |cons p r o=>
  obtain⟨j,u⟩:=p
  unfold del
  cases O:Nat.beq j n<;>simp[o,O]
def ak.refs(r:Nat):ak->Bool
 |.ptr b _=>Nat.beq b r
 |.fw b=>Nat.beq b r
 |.row b=>Nat.beq b r
 |.dV b _ _ _=>Nat.beq b r
 |.clos _ o=>o.any (Nat.beq · r)
 |.iter b=>Nat.beq b r
 |.dE b _=>Nat.beq b r
 |.osl b=>Nat.beq b r
 |.gc b _=>Nat.beq b r
 |.sub b _=>Nat.beq b r
 |.dW b _ _ _=>Nat.beq b r
 |.fD b _ _ _ _=>Nat.beq b r
 |.bX _ b=>Nat.beq b r
 |.eH l=>l.any (bQ.is r)
 |.gn l=>l.any (bQ.is r)
 |_=>false
def ak.dz(r:Nat)(s:ak):ak:=bif s.refs r then .any else s
def bL.map(f:ak->ak):bL->bL
 |.cells l e=>.cells (l.map f) e
 |.iter s p=>.iter s p
 |.mp k v ps=>.mp k v ps
 |.cp k v l a=>.cp k v l a
 |.aO t x e=>.aO t x e
 |.raw f=>.raw f
 |.aT e k xs=>.aT e k xs
 |.bj e k xs h=>.bj e k xs h
def ae.dz(st:ae)(r:Nat):ae:=
 {ab:=st.ab.map fun p=>(p.1,p.2.dz r),ad:=(del st.ad r).map fun p=>(p.1,p.2.map (ak.dz r)),rw:=del st.rw r}
def ae.put(st:ae)(d:Nat)(v:ak):ae:={st with ab:=(d,v)::del st.ab d}
def ae.ids(st:ae):List Nat:=st.ad.map (·.1)++st.rw.map (·.1)
def aO:Value->Option Nat
 |.pointer (some a)=>some a.block
 |.slice (some a) _ _=>some a.block
 |.map (some r)=>some r
 |_=>none
def own:Value->Nat->Prop
 |.tuple us,b=>∃u∈us.toList,aO u=some b
 |v,b=>aO v=some b
theorem hq{v:Value}{b:Nat}(h:aO v=some b):own v b:=by
 cases v<;>first|exact h|(simp[aO]at h)
def bytesOf(s:List UInt8):ByteArray:=⟨s.toArray⟩
structure bB where
 P:Program
 n:Nat
 bC:World
 A:Nat->Prop
 X:Nat->Prop
 m0:Nat->Value
def ap(cx:bB)(m:Nat->Value)(ids:List Nat)(b:Nat):Prop:=cx.A b\/∃i∈ids,own (m i) b
def eZ(w:World)(M:Nat->Prop):List Value->List aj->Prop
 |[],[]=>True
 |v::vs,u::us=>a8 w M v u.t u.x/\eZ w M vs us
 |_,_=>False
def dd(w:World)(M:Nat->Prop)(m:Nat->Value):List Value->List bQ->Prop
 |[],[]=>True
 |v::vs,.v u::us=>a8 w M v u.t u.x/\dd w M m vs us
 |v::vs,.r r::us=>v=m r/\dd w M m vs us
 |_::vs,.a::us=>dd w M m vs us
 |_,_=>False
def aQ(w:World)(M:Nat->Prop)(m:Nat->Value)(v:Value):ak->Prop
 |.any=>True
 |.undef=>v=Go.undef
 |.val t x=>a8 w M v t x
 |.dP l=>∃vs:List Value,v=.tuple vs.toArray/\eZ w M vs l
 |.gn l=>∃vs:List Value,v=.tuple vs.toArray/\dd w M m vs l
 |.ptr b off=>∃g,m b=.pointer (some ⟨g,0,none⟩)/\v=.pointer (some ⟨g,off,none⟩)
 |.fw b=>v=.pointer none\/v=m b
 |.vptr t x=>∃a cells,v=.pointer (some a)/\aF w M t cells x/\∀j u,cells[j]? =some u->w.cell? (a.add j)=some u/\¬M a.block
 |.row r=>v=m r
 |.dV r i off o=>∃g n cap,m r=.slice (some ⟨g,0,none⟩) n cap/\v=.pointer (some ⟨g,i.toNat*o+off,none⟩)
 |.clos f O=>v=.func (.func f) #[] (O.map m).toArray
 |.iter b=>v=m b
 |.dE b p=>∃g,m b=.pointer (some ⟨g,0,none⟩)/\v=.pointer (some ⟨g,gx p,none⟩)
 |.osl b=>∃us,m b=.tuple (v::us).toArray
 |.gc b i=>∃g n cap us,m b=.tuple (.slice (some ⟨g,0,none⟩) n cap::us).toArray/\v=.pointer (some ⟨g,i.toNat,none⟩)
 |.sub b i=>∃r us,m b=.tuple (r::us).toArray/\us[i.toNat]? =some v
 |.bX f b=>v=.func (.func f) #[m b] #[]
 |.dW b i off o=>∃g n cap us,m b=.tuple (.slice (some ⟨g,0,none⟩) n cap::us).toArray/\v=.pointer (some ⟨g,i.toNat*o+off,none⟩)
 |.fD b i j off o=>∃r us g n cap,m b=.tuple (r::us).toArray/\us[i.toNat]? =some (.slice (some ⟨g,0,none⟩) n cap)/\v=.pointer (some ⟨g,j.toNat*o+off,none⟩)
 |.af n=>∃a k cap,v=.slice a k cap/\(k:Int)=n
 |.eH l=>∃vs:List Value,v=.agg vs.toArray/\dd w M m vs l
def cA(w:World)(M:Nat->Prop)(m:Nat->Value):List Value->List ak->Prop
 |[],[]=>True
 |v::vs,u::us=>aQ w M m v u/\cA w M m vs us
 |_,_=>False
def dL(w:World)(M:Nat->Prop)(t:ag)(v:Value)(x:t.el):Prop:=qR t.agg (aF w M t) v x
def fK(g:Nat):bL->Value
 |.cells _ _=>.pointer (some ⟨g,0,none⟩)
 |.iter _ _=>.pointer (some ⟨g,0,none⟩)
 |.mp _ _ _=>.map (some g)
 |.cp _ _ _ _=>.pointer (some ⟨g,0,none⟩)
 |.aO _ _ _=>.pointer (some ⟨g,0,none⟩)
 |.raw _=>.pointer (some ⟨g,0,none⟩)
 |.aT _ _ _=>.pointer (some ⟨g,0,none⟩)
 |.bj _ _ _ _=>.pointer (some ⟨g,0,none⟩)
def iR(v:Value)(g:Nat):bL->Prop
 |.aT _ _ _=>∃n cap us,v=.tuple (.slice (some ⟨g,0,none⟩) n cap::us).toArray
 |.bj _ _ _ _=>∃r us,v=.tuple (r::us).toArray
 |c=>v=fK g c
def bL.one:bL->Bool
 |.bj _ _ _ _=>false
 |_=>true
theorem ni{c:bL}{f:ak->ak}:(c.map f).one=c.one:=by cases c<;>rfl
theorem ix{v:Value}{g:Nat}{c:bL}(h:iR v g c)(h1:c.one=true):own v g:=by
 cases c with
 |aT e k xs=>obtain⟨n,cap,us,rfl⟩:=h;exact⟨_,List.mem_cons_self,rfl⟩
 |bj e k xs o=>cases h1
 |_=>cases h;rfl
theorem kU{v:Value}{g:Nat}{c:bL}{f:ak->ak}:iR v g (c.map f)↔iR v g c:=by cases c<;>exact Iff.rfl
def kQ(w:World)(M:Nat->Prop)(u:Value):(k:eT)->k.el->Prop
 |.mp _ _,none=>u=.map none
 |.mp k v,some ps=>∃(r:Nat) (es:Array MapEntry) (clock:Nat),u=.map (some r)/\w.heap[r]? =some (.map es clock)/\(∀e∈es.toList,e.born<clock)/\(es.toList.map (·.born)).Nodup/\dX (dL w M k) (dL w M v) es.toList ps
 |.row e t,xs=>∃cells,w.ownsRow 0 e t.cells u (List.length (α:=t.el) xs) cells/\bD (aF w M t) cells xs
def ik(w:World)(M:Nat->Prop)(k:eT):List (Option k.el)->List Value->List Value->Prop
 |[],[],[]=>True
 |none::xs,_::us,o::O=>o=undef/\ik w M k xs us O
 |some x::xs,u::us,o::O=>o=u/\kQ w M u k x/\ik w M k xs us O
 |_,_,_=>False
def nf(w:World)(M:Nat->Prop)(k:ef)(O:Prop)(W:List Value)(v:Value)(x:k.u.el):Prop:=
 ∃L v1 U,W=L.set k.off v1/\L[k.off]? =some (.slice none 0 0)/\v1.oneCell'=true/\cn k.u x k.off ⟨.ab k.t,[]⟩=some U/\aF w M k.u L U/\(O->v=undef)/\
  (¬O->v=v1/\∃(o:List k.t.el) (cells:List Value),cE k.u x k.off (.ab k.t)=some o/\w.ownsRow 0 k.e k.t.cells v o.length cells/\bD (aF w M k.t) cells o)
def jl(h:Option Int)(n:Nat):Prop:=∃i,h=some i/\i.toNat=n
def fU(w:World)(M:Nat->Prop)(k:ef)(h:Option Int):Nat->List k.u.el->List Value->List Value->Prop
 |_,[],o,us=>o=[]/\us=[]
 |n,x::xs,o,us=>∃c d v vs,o=c++d/\c.length=k.u.cells/\us=v::vs/\nf w M k (jl h n) c v x/\fU w M k h (n+1) xs d vs
def ig(w:World)(M:Nat->Prop)(m:Nat->Value)(v:Value)(g:Nat):bL->Prop
 |.cells l e=>∃cells,w.heap[g]? =some (.cells cells e (0,0))/\cA w M m cells.toList l
 |.iter s p=>w.heap[g]? =some (.stringIter (bytesOf s) p)
 |.mp k v ps=>∃(es:Array MapEntry) (clock:Nat),w.heap[g]? =some (.map es clock)/\(∀e∈es.toList,e.born<clock)/\(es.toList.map (·.born)).Nodup/\dX (dL w M k) (dL w M v) es.toList ps
 |.cp k v left last=>(w.heap[g]? =some (.mapIter none 0 #[] 0)/\left=[]/\last=[])\/∃(b:Nat) (es:Array MapEntry) (clock:Nat) (seen:Array Nat),w.heap[g]? =some (.mapIter (some b) clock seen clock)/\w.heap[b]? =some (.map es clock)/\¬M b/\
   (∀e∈es.toList,e.born<clock)/\(es.toList.map (·.born)).Nodup/\dX (dL w M k) (dL w M v) (es.toList.filter fun e=>!seen.contains e.born) left/\
   (last=[]\/∃e p,last=[p]/\e∈es.toList/\seen.back?=some e.born/\dL w M k e.key p.1/\dL w M v e.val p.2)
 |.aO t x e=>∃cells,w.heap[g]? =some (.cells cells e (0,0))/\aF w M t cells.toList x
 |.raw f=>(∃aa,w.heap[g]? =some aa)/\∀(w':World) (M':Nat->Prop),(∀b,b<w.heap.size->¬M b->w'.heap[b]? =w.heap[b]?)->(∀b,b<w.heap.size->M' b->M b)->w'.heap[g]? =w.heap[g]? ->f w' M' g
 |.aT e k xs=>∃n cap us o,v=.tuple (.slice (some ⟨g,0,none⟩) n cap::o).toArray/\w.ownsRow 0 e 1 (.slice (some ⟨g,0,none⟩) n cap) xs.length us/\ik w M k xs us o/\(g::o.filterMap aO).Nodup
 |.bj e k xs h=>∃af us cells,v=.tuple (af::us).toArray/\w.ownsRow 0 e k.u.cells af xs.length cells/\fU w M k h 0 xs cells us/\((af::us).filterMap aO).Nodup
class b6 where
 d:Prop
instance(priority:=low) Xq:b6:=⟨False⟩
variable [b6]
structure Frame(bC w:World)(X:Nat->Prop):Prop where
 os:w.os=bC.os
 tape:w.tape=bC.tape
 output:w.output=bC.output
 size:bC.heap.size<=w.heap.size
 block:∀b,b<bC.heap.size->¬X b->w.heap[b]? =bC.heap[b]?
 drawn:b6.d->bC.drawn<=w.drawn
def eM:Nat:=10000000
structure am(cx:bB)(m:Nat->Value)(st:ae)(T:Array Value)(w:World):Prop where
 size:T.size=cx.n
 frame:Frame cx.bC w cx.X
 outer:∀b,cx.A b->b<cx.bC.heap.size/\¬cx.X b
 cI:∀i aJ,(i,aJ)∈st.ab->∃v,T[i]? =some v/\aQ w (ap cx m st.ids) m v aJ
 boxes:∀b c,(b,c)∈st.ad->∃g,iR (m b) g c/\(∀o,own (m b) o->cx.bC.heap.size<=o\/cx.X o)/\ig w (ap cx m st.ids) m (m b) g c
 rows:∀r c,(r,c)∈st.rw->∃cells,w.ownsRow 0 c.e c.t.cells (m r) c.xs.length cells/\(∀g,own (m r) g->cx.bC.heap.size<=g\/cx.X g)/\bD (aF w (ap cx m st.ids) c.t) cells c.xs
 apart:∀i j,i∈st.ids->j∈st.ids->i≠j->∀g,own (m i) g->¬own (m j) g
 keys:st.ids.Nodup
 fixed:∀b c,(b,c)∈st.ad->c.one=true->cx.n<=b->m b=cx.m0 b
 kept:∀r c,(r,c)∈st.rw->cx.n<=r->eM<=r->m r=cx.m0 r
def R(cx:bB)(st:ae)(T:Array Value)(w:World):Prop:=∃m,am cx m st T w
def bo(m:Nat->Value)(r:Nat)(u:Value):Nat->Value:=fun i=>if i=r then u else m i
theorem b9(m:Nat->Value)(r:Nat)(u:Value):bo m r u r=u:=by simp[bo]
theorem cN(m:Nat->Value){r i:Nat}(u:Value)(h:i≠r):bo m r u i=m i:=by simp[bo,h]
theorem beq_false{a b:Nat}(h:Nat.beq a b=false):a≠b:=fun e=>by rw[e,Nat.beq_refl]at h;cases h
theorem tI{w w':World}{M M':Nat->Prop}(o:∀b,b<w.heap.size->¬M b->w'.heap[b]? =w.heap[b]?)(O:∀b,b<w.heap.size->M' b->M b):
  ∀{vs:List Value} {l:List aj},eZ w M vs l->eZ w' M' vs l
 |[],[],_=>trivial
 |[],_::_,h=>h.elim
 |_::_,[],h=>h.elim
 |_::_,_::_,⟨h1,U⟩=>⟨dh o O h1,tI o O U⟩
theorem sD{w w':World}{M M':Nat->Prop}{m:Nat->Value}(o:∀b,b<w.heap.size->¬M b->w'.heap[b]? =w.heap[b]?)(O:∀b,b<w.heap.size->M' b->M b):
  ∀{vs:List Value} {l:List bQ},dd w M m vs l->dd w' M' m vs l
 |[],[],_=>trivial
 |[],_::_,h=>h.elim
 |_::_,[],h=>h.elim
 |_::_,.v _::_,⟨h1,U⟩=>⟨dh o O h1,sD o O U⟩
 |_::_,.r _::_,⟨h1,U⟩=>⟨h1,sD o O U⟩
 |_::vs,.a::us,h=>sD (vs:=vs) (l:=us) o O h
theorem sQ{w:World}{M:Nat->Prop}{m:Nat->Value}{r:Nat}{u:Value}:∀{vs:List Value} {l:List bQ},l.any (bQ.is r)=false->dd w M m vs l->dd w M (bo m r u) vs l
 |[],[],_,_=>trivial
 |[],_::_,_,h=>h.elim
 |_::_,[],_,h=>h.elim
 |_::_,.v _::_,o,⟨h1,O⟩=>⟨h1,sQ (by rw[List.any_cons,Bool.or_eq_false_iff]at o;exact o.2) O⟩
 |_::vs,.a::us,o,h=>sQ (vs:=vs) (l:=us) (by rw[List.any_cons,Bool.or_eq_false_iff]at o;exact o.2) h
 |_::_,.r b::_,o,⟨h1,O⟩=>by
  rw[List.any_cons,Bool.or_eq_false_iff]at o
  exact⟨by rw[cN _ _ (beq_false o.1)];exact h1,sQ o.2 O⟩
theorem fV{w w':World}{M M':Nat->Prop}{m:Nat->Value}(o:∀b,b<w.heap.size->¬M b->w'.heap[b]? =w.heap[b]?)(O:∀b,b<w.heap.size->M' b->M b)
  {v:Value}{s:ak}(h:aQ w M m v s):aQ w' M' m v s:=by
 cases s with
 |any=>trivial
 |undef=>exact h
 |val t x=>exact dh o O h
 |dP l=>obtain⟨vs,e,h⟩:=h;exact⟨vs,e,tI o O h⟩
 |gn l=>obtain⟨vs,e,h⟩:=h;exact⟨vs,e,sD o O h⟩
 |ptr b off=>exact h
 |fw b=>exact h
 |vptr t x=>
  obtain⟨a,cells,e,h1,la⟩:=h
  refine⟨a,cells,e,cB o O t h1,fun j u lc=>?_⟩
  obtain⟨U,W⟩:=la j u lc
  have Y:a.block<w.heap.size:=by
   have:=World.block_lt_of_cell? w (a.add j) U
   rwa [kg]at this
  refine⟨?_,fun h=>W (O _ Y h)⟩
  rw[World.cell?_of_block (w:=w) (by rw[kg];exact o _ Y W)]
  exact U
 |row r=>exact h
 |dV r i off Z=>exact h
 |clos f ld=>exact h
 |iter b=>exact h
 |dE b p=>exact h
 |osl b=>exact h
 |gc b i=>exact h
 |sub b i=>exact h
 |bX f b=>exact h
 |dW b i off Z=>exact h
 |fD b i j off Z=>exact h
 |af n=>exact h
 |eH l=>obtain⟨vs,e,h⟩:=h;exact⟨vs,e,sD o O h⟩
theorem yv{w:World}{M:Nat->Prop}{m:Nat->Value}{r:Nat}{u:Value}{v:Value}{s:ak}(o:s.refs r=false)(h:aQ w M m v s):aQ w M (bo m r u) v s:=by
 cases s with
 |any=>trivial
 |undef=>exact h
 |val t x=>exact h
 |dP l=>exact h
 |gn l=>obtain⟨vs,e,h⟩:=h;exact⟨vs,e,sQ o h⟩
 |vptr t x=>exact h
 |ptr b off=>obtain⟨g,h1,O⟩:=h;exact⟨g,by rw[cN _ _ (beq_false o)];exact h1,O⟩
 |fw b=>show _\/v=_;rw[cN _ _ (beq_false o)];exact h
 |row b=>show v=_;rw[cN _ _ (beq_false o)];exact h
 |dV b i off Y=>obtain⟨g,n,cap,h1,O⟩:=h;exact⟨g,n,cap,by rw[cN _ _ (beq_false o)];exact h1,O⟩
 |iter b=>show v=_;rw[cN _ _ (beq_false o)];exact h
 |dE b p=>obtain⟨g,h1,O⟩:=h;exact⟨g,by rw[cN _ _ (beq_false o)];exact h1,O⟩
 |osl b=>obtain⟨us,h1⟩:=h;exact⟨us,by rw[cN _ _ (beq_false o)];exact h1⟩
 |gc b i=>obtain⟨g,n,cap,us,h1,O⟩:=h;exact⟨g,n,cap,us,by rw[cN _ _ (beq_false o)];exact h1,O⟩
 |sub b i=>obtain⟨U,us,h1,O⟩:=h;exact⟨U,us,by rw[cN _ _ (beq_false o)];exact h1,O⟩
 |bX f b=>show v=_;rw[cN _ _ (beq_false o)];exact h
 |dW b i off Y=>obtain⟨g,n,cap,us,h1,O⟩:=h;exact⟨g,n,cap,us,by rw[cN _ _ (beq_false o)];exact h1,O⟩
 |fD b i j off Y=>obtain⟨U,us,g,n,cap,h1,O⟩:=h;exact⟨U,us,g,n,cap,by rw[cN _ _ (beq_false o)];exact h1,O⟩
 |af n=>exact h
 |eH l=>obtain⟨vs,e,h⟩:=h;exact⟨vs,e,sQ o h⟩
 |clos f Z=>
  have W:Z.map (bo m r u)=Z.map m:=by
   apply List.map_congr_left
   intro b W
   apply cN
   intro e
   have:=List.any_eq_false.1 o b W
   rw[e,Nat.beq_refl]at this
   exact this rfl
  show v=_
  rw[W]
  exact h
theorem EE{w:World}{M:Nat->Prop}{m:Nat->Value}(r:Nat)(u:Value){v:Value}{s:ak}(h:aQ w M m v s):aQ w M (bo m r u) v (s.dz r):=by
 unfold ak.dz
 cases o:s.refs r with
 |true=>trivial
 |false=>exact yv o h
theorem uI{w w':World}{M M':Nat->Prop}{m aA:Nat->Value}{f:ak->ak}(o:∀v s,aQ w M m v s->aQ w' M' aA v (f s)):
  ∀{vs:List Value} {l:List ak},cA w M m vs l->cA w' M' aA vs (l.map f)
 |[],[],_=>trivial
 |[],_::_,h=>h.elim
 |_::_,[],h=>h.elim
 |_::_,_::_,⟨h1,O⟩=>⟨o _ _ h1,uI o O⟩
theorem If{w w':World}{M M':Nat->Prop}{u:Value}(O:∀b,b<w.heap.size->¬M b->w'.heap[b]? =w.heap[b]?)(U:∀b,b<w.heap.size->M' b->M b)(Y:∀b,aO u=some b->w'.heap[b]? =w.heap[b]?):
  ∀{k:eT} {x:k.el},kQ w M u k x->kQ w' M' u k x
 |.mp _ _,none,h=>h
 |.mp k v,some ps,⟨r,es,clock,Z,h1,W,o,lc⟩=>⟨r,es,clock,Z,by rw[Y r (by rw[Z];rfl)];exact h1,W,o,gH (fun _ _ h=>dh O U h) (fun _ _ h=>dh O U h) lc⟩
 |.row e t,xs,⟨cells,h1,W⟩=>by
  refine⟨cells,⟨h1.1,?_⟩,dx (fun _ _=>cB O U t) W⟩
  rcases h1.2 with o|⟨g,cap,cur,la,ld,o,rest⟩
  ·exact .inl o
  ·exact .inr ⟨g,cap,cur,la,ld,by rw[Y g (by rw[la];rfl)];exact o,rest⟩
theorem qQ{w w':World}{M M':Nat->Prop}{k:eT}(U:∀b,b<w.heap.size->¬M b->w'.heap[b]? =w.heap[b]?)(W:∀b,b<w.heap.size->M' b->M b):
  ∀{xs:List (Option k.el)} {us o:List Value},(∀u∈o,∀b,aO u=some b->w'.heap[b]? =w.heap[b]?)->ik w M k xs us o->ik w' M' k xs us o
 |[],[],[],_,_=>trivial
 |none::xs,_::us,la::o,O,⟨h1,Y⟩=>⟨h1,qQ U W (fun u Z=>O u (List.mem_cons_of_mem _ Z)) Y⟩
 |some x::xs,u::us,la::o,O,⟨h1,Y,lc⟩=>⟨h1,If U W (h1▸O la List.mem_cons_self) Y,qQ U W (fun u Z=>O u (List.mem_cons_of_mem _ Z)) lc⟩
theorem Wr{w:World}{M:Nat->Prop}{u:Value}:∀{k:eT} {x:k.el},kQ w M u k x->∀b,aO u=some b->b<w.heap.size
 |.mp _ _,none,h,b,o=>by cases h;cases o
 |.mp k v,some ps,⟨r,es,clock,U,h1,_⟩,b,o=>by rw[U]at o;cases o;exact gD h1
 |.row e t,xs,⟨cells,h1,Y⟩,b,o=>by
  rcases h1.2 with ⟨O,_⟩|⟨g,cap,cur,W,Z,O,rest⟩
  ·rw[O]at o;cases o
  ·rw[W]at o;cases o;exact gD O
theorem Ec{w:World}{M:Nat->Prop}{k:eT}:∀{xs:List (Option k.el)} {us O:List Value},ik w M k xs us O->∀u∈O,∀b,aO u=some b->b<w.heap.size
 |[],[],[],_,u,hu,_,_=>by cases hu
 |none::xs,_::us,W::O,⟨h1,U⟩,u,hu,b,o=>by
  rcases List.mem_cons.1 hu with rfl|hu
  ·rw[h1]at o;cases o
  ·exact Ec U u hu b o
 |some x::xs,Z::us,W::O,⟨h1,U,Y⟩,u,hu,b,o=>by
  rcases List.mem_cons.1 hu with rfl|hu
  ·rw[h1]at o;exact Wr U b o
  ·exact Ec Y u hu b o
theorem rK{w w':World}{e O n:Nat}{v:Value}{cells:List Value}(h:w.ownsRow 0 e O v n cells)(W:∀b,aO v=some b->w'.heap[b]? =w.heap[b]?):w'.ownsRow 0 e O v n cells:=by
 refine⟨h.1,?_⟩
 rcases h.2 with o|⟨g,cap,cur,U,Y,o,rest⟩
 ·exact .inl o
 ·exact .inr ⟨g,cap,cur,U,Y,by rw[W g (by rw[U];rfl)];exact o,rest⟩
theorem EO{w w':World}{M M':Nat->Prop}{k:ef}{out o:Prop}{cs:List Value}{v:Value}{x:k.u.el}(O:∀b,b<w.heap.size->¬M b->w'.heap[b]? =w.heap[b]?)(U:∀b,b<w.heap.size->M' b->M b)(W:out↔o)(Y:∀b,aO v=some b->w'.heap[b]? =w.heap[b]?)
  (h:nf w M k out cs v x):nf w' M' k o cs v x:=by
 obtain⟨L,v1,Z,la,lc,ld,lf,lg,lh,li⟩:=h
 refine⟨L,v1,Z,la,lc,ld,lf,cB O U k.u lg,fun h=>lh (W.2 h),fun h=>?_⟩
 obtain⟨h1,lj,cells,lk,ll,lm⟩:=li fun ln=>h (W.1 ln)
 exact⟨h1,lj,cells,lk,rK ll Y,dx (fun _ _=>cB O U k.t) lm⟩
theorem tx{w w':World}{M M':Nat->Prop}{k:ef}{h h':Option Int}(o:∀b,b<w.heap.size->¬M b->w'.heap[b]? =w.heap[b]?)(O:∀b,b<w.heap.size->M' b->M b):
  ∀{xs:List k.u.el} {n:Nat} {cs us:List Value},(∀m,n<=m->(jl h m↔jl h' m))->(∀u∈us,∀b,aO u=some b->w'.heap[b]? =w.heap[b]?)->fU w M k h n xs cs us->fU w' M' k h' n xs cs us
 |[],_,_,_,_,_,Y=>Y
 |x::xs,n,cs,us,U,W,⟨c,d,v,vs,Z,la,lc,ld,lf⟩=>by
  subst lc
  exact⟨c,d,v,vs,Z,la,rfl,EO o O (U n (Nat.le_refl n)) (W v List.mem_cons_self) ld,tx o O (fun m lh=>U m (by omega)) (fun u lg=>W u (List.mem_cons_of_mem _ lg)) lf⟩
theorem WE{w:World}{M:Nat->Prop}{k:ef}{out:Prop}{cs:List Value}{v:Value}{x:k.u.el}(h:nf w M k out cs v x){b:Nat}(o:aO v=some b):b<w.heap.size:=by
 obtain⟨L,v1,lc,_,_,_,_,_,W,Y⟩:=h
 by_cases U:out
 ·rw[W U]at o;cases o
 ·obtain⟨_,ld,cells,_,Z,_⟩:=Y U
  rcases Z.2 with ⟨O,_⟩|⟨g,cap,cur,la,_,O,_⟩
  ·rw[O]at o;cases o
  ·rw[la]at o;cases o;exact gD O
theorem Iu{w:World}{M:Nat->Prop}{k:ef}{h:Option Int}:∀{xs:List k.u.el} {n:Nat} {cs us:List Value},fU w M k h n xs cs us->∀u∈us,∀b,aO u=some b->b<w.heap.size
 |[],_,_,_,O,u,hu,_,_=>by rw[O.2]at hu;cases hu
 |x::xs,n,cs,us,⟨c,d,v,vs,_,_,U,W,Y⟩,u,hu,b,o=>by
  subst U
  rcases List.mem_cons.1 hu with rfl|hu
  ·exact WE W o
  ·exact Iu Y u hu b o
theorem dj{r:Value}{us:List Value}{b:Nat}:own (.tuple (r::us).toArray) b↔aO r=some b\/∃u∈us,aO u=some b:=by
 show(∃u∈r::us,aO u=some b)↔_
 simp
theorem kj{w w':World}{M M':Nat->Prop}{m aA:Nat->Value}{v0:Value}{g:Nat}{f:ak->ak}(W:∀b,b<w.heap.size->¬M b->w'.heap[b]? =w.heap[b]?)(Y:∀b,b<w.heap.size->M' b->M b){c:bL}(ln:c.one=true->own v0 g)(ld:∀b,own v0 b->w'.heap[b]? =w.heap[b]?)(lo:∀v s,aQ w M m v s->aQ w' M' aA v (f s)):
  ig w M m v0 g c->ig w' M' aA v0 g (c.map f):=by
 have o:c.one=true->w'.heap[g]? =w.heap[g]? :=fun h1=>ld g (ln h1)
 intro la
 exact match c,o,la with
 |.cells _ _,o,⟨cells,h1,O⟩=>⟨cells,by rw[o rfl];exact h1,uI lo O⟩
 |.iter _ _,o,h=>by show w'.heap[g]? =_;rw[o rfl];exact h
 |.aO t x e,o,⟨cells,h1,O⟩=>⟨cells,by rw[o rfl];exact h1,cB W Y t O⟩
 |.raw f,o,⟨⟨aa,lp⟩,h⟩=>⟨⟨aa,by rw[o rfl];exact lp⟩,fun lq lr lh a2 a3=>h lq lr
   (fun b U lf=>by
    have e:=W b U lf
    have li:b<w'.heap.size:=by
     rcases Nat.lt_or_ge b w'.heap.size with h1|h1
     ·exact h1
     ·rw[Array.getElem?_eq_none h1,Array.getElem?_eq_getElem U]at e;cases e
    rw[lh b li (fun la=>lf (Y b U la)),e])
   (fun b U la=>by
    refine Classical.byContradiction fun lf=>?_
    have e:=W b U lf
    have li:b<w'.heap.size:=by
     rcases Nat.lt_or_ge b w'.heap.size with h1|h1
     ·exact h1
     ·rw[Array.getElem?_eq_none h1,Array.getElem?_eq_getElem U]at e;cases e
    exact lf (Y b U (a2 b li la)))
   (by rw[a3,o rfl])⟩
 |.mp k v ps,o,⟨es,clock,h1,O,Z,lc⟩=>⟨es,clock,by rw[o rfl];exact h1,O,Z,gH (fun _ _ h=>dh W Y h) (fun _ _ h=>dh W Y h) lc⟩
 |.cp k v l a,o,.inl ⟨h1,O⟩=>.inl ⟨by rw[o rfl];exact h1,O⟩
 |.cp k v l a,o,.inr ⟨b,es,clock,seen,h1,O,Z,lc,lg,lt,lu⟩=>
  have lk:=gD O
  .inr ⟨b,es,clock,seen,by rw[o rfl];exact h1,by rw[W b lk Z];exact O,fun la=>Z (Y b lk la),lc,lg,gH (fun _ _ h=>dh W Y h) (fun _ _ h=>dh W Y h) lt,
   lu.imp id fun⟨e,p,lh,a2,a3,a4,a5⟩=>⟨e,p,lh,a2,a3,dh W Y a4,dh W Y a5⟩⟩
 |.aT e k xs,o,⟨n,cap,us,lv,h1,O,Z,lc⟩=>by
  refine⟨n,cap,us,lv,h1,⟨O.1,?_⟩,qQ W Y (fun u lj b U=>ld b (by rw[h1];exact dj.2 (.inr ⟨u,lj,U⟩))) Z,lc⟩
  rcases O.2 with lg|⟨ll,lw,cur,lm,lx,lg,rest⟩
  ·exact .inl lg
  ·exact .inr ⟨ll,lw,cur,lm,lx,by rw[ld ll (by rw[h1];exact dj.2 (.inl (by rw[lm];rfl)))];exact lg,rest⟩
 |.bj e k xs h,_,⟨af,us,cells,h1,O,Z,lc⟩=>by
  refine⟨af,us,cells,h1,rK O fun b U=>ld b (by rw[h1];exact dj.2 (.inl U)),tx W Y (fun _ _=>Iff.rfl) (fun u lj b U=>ld b (by rw[h1];exact dj.2 (.inr ⟨u,lj,U⟩))) Z,lc⟩
theorem IC{w:World}{M:Nat->Prop}{m:Nat->Value}{v0:Value}{g:Nat}{c:bL}(O:iR v0 g c)(h:ig w M m v0 g c):∀b,own v0 b->b<w.heap.size:=by
 have key:(∃aa,w.heap[g]? =some aa)->v0=fK g c->∀b,own v0 b->b<w.heap.size:=by
  rintro⟨aa,lf⟩ e b o
  rw[e]at o
  have h1:own (fK g c) b->b=g:=by cases c<;>(intro ld;exact(Option.some.inj ld).symm)
  rw[h1 o]
  exact(Array.getElem?_eq_some_iff.1 lf).1
 cases c with
 |cells l e=>obtain⟨cells,h1,_⟩:=h;exact key ⟨_,h1⟩ O
 |iter s p=>exact key ⟨_,h⟩ O
 |aO t x e=>obtain⟨cells,h1,_⟩:=h;exact key ⟨_,h1⟩ O
 |raw f=>exact key h.1 O
 |mp k v ps=>obtain⟨es,clock,h1,_⟩:=h;exact key ⟨_,h1⟩ O
 |cp k v l a=>
  rcases h with ⟨h1,_⟩|⟨b,es,clock,seen,h1,_⟩
  ·exact key ⟨_,h1⟩ O
  ·exact key ⟨_,h1⟩ O
 |bj e k xs ld=>
  obtain⟨af,us,cells,rfl,U,W,_⟩:=h
  intro b o
  rcases dj.1 o with o|⟨u,Y,o⟩
  ·rcases U.2 with ⟨Z,_⟩|⟨g,cap,cur,la,_,Z,_⟩
   ·rw[Z]at o;cases o
   ·rw[la]at o;cases o;exact gD Z
  ·exact Iu W u Y b o
 |aT e k xs=>
  obtain⟨n,cap,us,lg,rfl,U,W,_⟩:=h
  intro b o
  rcases dj.1 o with o|⟨u,Y,o⟩
  ·rcases U.2 with ⟨lc,_⟩|⟨lh,li,cur,la,lj,lc,rest⟩
   ·cases lc
   ·cases la;cases o;exact gD lc
  ·exact Ec W u Y b o
theorem Di{w:World}{e U n:Nat}{v:Value}{cells:List Value}(h:w.ownsRow 0 e U v n cells){g:Nat}(o:own v g):aO v=some g:=by
 rcases h.2 with ⟨O,_⟩|⟨W,cap,cur,O,_⟩<;>rw[O]at o⊢<;>exact o
theorem bL.map_id(c:bL):c.map id=c:=by cases c<;>simp[bL.map]
theorem EP{w w':World}{M M':Nat->Prop}{m:Nat->Value}{v0:Value}{g:Nat}{c:bL}(U:c.one=true->own v0 g)(W:∀b,own v0 b->w'.heap[b]? =w.heap[b]?)(o:∀b,b<w.heap.size->¬M b->w'.heap[b]? =w.heap[b]?)(O:∀b,b<w.heap.size->M' b->M b)
  (h:ig w M m v0 g c):ig w' M' m v0 g c:=by
 have:=kj (f:=id) o O U W (fun v s Y=>fV (m:=m) o O Y) h
 rwa [bL.map_id]at this
end Go.Ev
namespace Go.Ev
open Go Go.RowKit
variable [b6]
variable {cx:bB} {m:Nat->Value} {st:ae} {T:Array Value} {w w':World}
theorem Frame.refl(w:World)(X:Nat->Prop):Frame w w X:=⟨rfl,rfl,rfl,Nat.le_refl _,fun _ _ _=>rfl,fun _=>Nat.le_refl _⟩
structure Same(w w':World):Prop where
 os:w'.os=w.os
 tape:w'.tape=w.tape
 output:w'.output=w.output
 size:w.heap.size<=w'.heap.size
 drawn:b6.d->w.drawn<=w'.drawn
structure Ext(w w':World):Prop extends Same w w' where
 block:∀b,b<w.heap.size->w'.heap[b]? =w.heap[b]?
theorem Ext.refl(w:World):Ext w w:={os:=rfl,tape:=rfl,output:=rfl,size:=Nat.le_refl _,drawn:=fun _=>Nat.le_refl _,block:=fun _ _=>rfl}
theorem Ext.wk{w w':World}(h:Below w.heap.size w w')(af:b6.d->w.drawn<=w'.drawn):Ext w w':={os:=h.os,tape:=h.tape,output:=h.output,size:=h.size,drawn:=af,block:=h.block}
theorem Ext.below{w w':World}(h:Ext w w'):Below w.heap.size w w':=⟨h.os,h.tape,h.output,h.size,h.block⟩
theorem Ext.trans{a b c:World}(h:Ext a b)(k:Ext b c):Ext a c:=Ext.wk (h.below.trans (k.below.mono h.size)) (fun d=>Nat.le_trans (h.drawn d) (k.drawn d))
theorem Ext.drew{w w':World}(h:Ext w w'):Ext w w'.drew:=Ext.wk h.below.drew (fun d=>Nat.le_succ_of_le (h.drawn d))
theorem Frame.step(h:Frame cx.bC w cx.X)(o:Same w w')(U:∀b,b<cx.bC.heap.size->¬cx.X b->w'.heap[b]? =w.heap[b]?):Frame cx.bC w' cx.X:=
 ⟨o.os.trans h.os,o.tape.trans h.tape,o.output.trans h.output,Nat.le_trans h.size o.size,fun b h1 O=>(U b h1 O).trans (h.block b h1 O),fun d=>Nat.le_trans (h.drawn d) (o.drawn d)⟩
theorem am.put(h:am cx m st T w){d:Nat}(af:d<cx.n){v:Value}{s:ak}(O:aQ w (ap cx m st.ids) m v s):am cx m (st.put d s) (T.setIfInBounds d v) w:=
 {h with
  size:=by rw[Array.size_setIfInBounds];exact h.size
  cI:=fun i aJ o=>by
   rcases List.mem_cons.1 o with o|o
   ·cases o
    exact⟨v,by rw[Array.getElem?_setIfInBounds_self_of_lt (by rw[h.size];exact af)],O⟩
   ·obtain⟨o,U⟩:=cP.1 o
    obtain⟨v',h1,W⟩:=h.cI i aJ o
    exact⟨v',by rw[Array.getElem?_setIfInBounds_ne (fun e=>U e.symm)];exact h1,W⟩}
theorem am.lt(h:am cx m st T w){i g:Nat}(O:i∈st.ids)(o:own (m i) g):g<w.heap.size/\(cx.bC.heap.size<=g\/cx.X g):=by
 rcases List.mem_append.1 O with O|O
 ·obtain⟨⟨b,c⟩,U,rfl⟩:=List.mem_map.1 O
  obtain⟨Z,h1,W,lc⟩:=h.boxes b c U
  exact⟨IC h1 lc g o,W g o⟩
 ·obtain⟨⟨r,c⟩,U,rfl⟩:=List.mem_map.1 O
  obtain⟨cells,h1,W,_⟩:=h.rows r c U
  refine⟨?_,W g o⟩
  rcases h1.2 with ⟨Y,_⟩|⟨Z,cap,cur,Y,_,la,_⟩
  ·dsimp only at o;rw[Y]at o;cases o
  ·dsimp only at o
   rw[Y]at o
   cases o
   rcases Nat.lt_or_ge Z w.heap.size with h|h
   ·exact h
   ·rw[Array.getElem?_eq_none h]at la;cases la
theorem am.Ej(h:am cx m st T w){b:Nat}(o:ap cx m st.ids b):b<w.heap.size:=by
 rcases o with o|⟨i,O,U⟩
 ·exact Nat.lt_of_lt_of_le (h.outer b o).1 h.frame.size
 ·exact(h.lt O U).1
theorem am.ext(h:am cx m st T w)(o:Ext w w'):am cx m st T w':=by
 have h1:∀b,b<w.heap.size->¬ap cx m st.ids b->w'.heap[b]? =w.heap[b]? :=fun b O _=>o.block b O
 have Y:∀b,b<w.heap.size->ap cx m st.ids b->ap cx m st.ids b:=fun _ _ h=>h
 exact{h with
  frame:=h.frame.step o.toSame fun b O _=>o.block b (Nat.lt_of_lt_of_le O h.frame.size)
  cI:=fun i aJ lc=>let⟨v,ld,O⟩:=h.cI i aJ lc;⟨v,ld,fV h1 Y O⟩
  boxes:=fun b c O=>by
   obtain⟨g,U,Z,W⟩:=h.boxes b c O
   exact⟨g,U,Z,EP (ix U) (fun la lf=>o.block la (IC U W la lf)) h1 Y W⟩
  rows:=fun r c lg=>by
   obtain⟨cells,U,Z,W⟩:=h.rows r c lg
   refine⟨cells,U.kept (row:=none) ⟨o.os,o.tape,o.output,o.size,fun k hk _=>o.block k hk⟩ ?_,Z,dx (fun _ _=>cB h1 Y c.t) W⟩
   cases lh:(m r).ownBlock
   ·exact .inl rfl
   ·exact .inr (by simp)}
theorem nH(st:ae)(r:Nat):∀i,i∈(st.dz r).ids↔i∈st.ids/\i≠r:=by
 intro i
 simp only[ae.ids,ae.dz,List.map_map,List.mem_append,List.mem_map,Function.comp]
 constructor
 ·rintro(⟨⟨b,c⟩,o,rfl⟩|⟨⟨b,c⟩,o,rfl⟩)
  ·obtain⟨h1,O⟩:=cP.1 o;exact⟨.inl ⟨_,h1,rfl⟩,O⟩
  ·obtain⟨h1,O⟩:=cP.1 o;exact⟨.inr ⟨_,h1,rfl⟩,O⟩
 ·rintro⟨⟨⟨b,c⟩,o,rfl⟩|⟨⟨b,c⟩,o,rfl⟩,U⟩
  ·exact .inl ⟨(b,c),cP.2 ⟨o,U⟩,rfl⟩
  ·exact .inr ⟨(b,c),cP.2 ⟨o,U⟩,rfl⟩
theorem K4{st:ae}(h:st.ids.Nodup)(r:Nat):(st.dz r).ids.Nodup:=by
 have e:(st.dz r).ids=st.ids.filter (fun k=>!Nat.beq k r):=by
  have o:((del st.ad r).map fun p=>(p.1,p.2.map (ak.dz r))).map (·.1)=(del st.ad r).map (·.1):=by simp[List.map_map,Function.comp_def]
  show((del st.ad r).map fun p=>(p.1,p.2.map (ak.dz r))).map (·.1)++(del st.rw r).map (·.1)=_
  rw[o,mJ,mJ,<-List.filter_append]
  rfl
 rw[e]
 exact h.filter _
structure dm(cx:bB)(m:Nat->Value)(st:ae)(w:World)(r:Nat)(u:Value)(w':World):Prop where
 same:Same w w'
 block:∀b,b<w.heap.size->¬(r∈st.ids/\own (m r) b)->w'.heap[b]? =w.heap[b]?
 place:∀g,own u g->(r∈st.ids/\own (m r) g)\/(w.heap.size<=g/\g<w'.heap.size)
theorem dm.keeps{r:Nat}{u:Value}(o:dm cx m st w r u w'):∀b,b<w.heap.size->¬ap cx m st.ids b->w'.heap[b]? =w.heap[b]? :=
 fun b O U=>o.block b O fun⟨h1,W⟩=>U (.inr ⟨r,h1,W⟩)
theorem dm.mut{r:Nat}{u:Value}{ids:List Nat}(O:∀i,i∈ids->i=r\/i∈st.ids)(U:dm cx m st w r u w'):
  ∀b,b<w.heap.size->ap cx (bo m r u) ids b->ap cx m st.ids b:=by
 rintro b Y (h|⟨i,W,o⟩)
 ·exact .inl h
 ·by_cases e:i=r
  ·subst e
   rw[b9]at o
   rcases U.place b o with h|h
   ·exact .inr ⟨i,h.1,h.2⟩
   ·omega
  ·rw[cN _ _ e]at o
   exact .inr ⟨i,(O i W).resolve_left e,o⟩
theorem am.GS(h:am cx m st T w){r:Nat}{u:Value}(o:dm cx m st w r u w'):Frame cx.bC w' cx.X:=
 h.frame.step o.same fun b U W=>o.block b (Nat.lt_of_lt_of_le U h.frame.size) fun⟨h1,Y⟩=>by
  rcases(h.lt h1 Y).2 with O|O
  ·omega
  ·exact W O
theorem am.JS(h:am cx m st T w){r:Nat}{u:Value}{ids:List Nat}(O:∀i,i∈ids->i=r\/i∈st.ids)(o:dm cx m st w r u w'):
  ∀i aJ,(i,aJ)∈(st.dz r).ab->∃v,T[i]? =some v/\aQ w' (ap cx (bo m r u) ids) (bo m r u) v aJ:=by
 intro i aJ U
 obtain⟨⟨j,s⟩,W,Y⟩:=List.mem_map.1 U
 cases Y
 obtain⟨v,h1,Z⟩:=h.cI j s W
 exact⟨v,h1,EE r u (fV o.keeps (o.mut O) Z:aQ w' (ap cx (bo m r u) ids) m v s)⟩
theorem am.Gj(h:am cx m st T w){r:Nat}{u:Value}{ids:List Nat}(Y:∀i,i∈ids->i=r\/i∈st.ids)(O:dm cx m st w r u w'):
  ∀b c,(b,c)∈(st.dz r).ad->∃g,iR (bo m r u b) g c/\(∀W,own (bo m r u b) W->cx.bC.heap.size<=W\/cx.X W)/\ig w' (ap cx (bo m r u) ids) (bo m r u) (bo m r u b) g c:=by
 intro b c lf
 obtain⟨⟨j,s⟩,U,lg⟩:=List.mem_map.1 lf
 cases lg
 obtain⟨U,Z⟩:=cP.1 U
 obtain⟨g,la,lh,li⟩:=h.boxes j s U
 have lc:j∈st.ids:=List.mem_append.2 (.inl (List.mem_map.2 ⟨_,U,rfl⟩))
 have lj:∀o,own (m j) o->w'.heap[o]? =w.heap[o]? :=fun o ld=>O.block o (h.lt lc ld).1 fun⟨h1,lk⟩=>h.apart r j h1 lc (fun e=>Z e.symm) o lk ld
 rw[cN _ _ Z]
 exact⟨g,kU.2 la,lh,kj O.keeps (O.mut Y) (ix la) lj (fun v s ll=>EE r u (fV O.keeps (O.mut Y) ll:aQ w' (ap cx (bo m r u) ids) m v s)) li⟩
theorem am.L6(h:am cx m st T w){r:Nat}{u:Value}{ids:List Nat}(ld:∀i,i∈ids->i=r\/i∈st.ids)(o:dm cx m st w r u w'):
  ∀b c,(b,c)∈(st.dz r).rw->∃cells,w'.ownsRow 0 c.e c.t.cells (bo m r u b) c.xs.length cells/\(∀g,own (bo m r u b) g->cx.bC.heap.size<=g\/cx.X g)/\
   bD (aF w' (ap cx (bo m r u) ids) c.t) cells c.xs:=by
 intro b c lf
 obtain⟨U,W⟩:=cP.1 lf
 obtain⟨cells,Y,lg,lh⟩:=h.rows b c U
 have Z:b∈st.ids:=List.mem_append.2 (.inr (List.mem_map.2 ⟨_,U,rfl⟩))
 rw[cN _ _ W]
 refine⟨cells,⟨Y.1,?_⟩,lg,dx (fun _ _=>cB o.keeps (o.mut ld) c.t) lh⟩
 rcases Y.2 with O|⟨g,cap,cur,la,li,O,rest⟩
 ·exact .inl O
 ·have lc:own (m b) g:=by rw[la];exact hq rfl
  exact .inr ⟨g,cap,cur,la,li,by rw[o.block g (h.lt Z lc).1 fun⟨h1,lj⟩=>h.apart r b h1 Z (fun e=>W e.symm) g lj lc];exact O,rest⟩
theorem am.FO(h:am cx m st T w){r:Nat}{u:Value}{ids:List Nat}(W:∀i,i∈ids->i=r\/i∈st.ids)(ld:dm cx m st w r u w'):
  ∀i j,i∈ids->j∈ids->i≠j->∀g,own (bo m r u i) g->¬own (bo m r u j) g:=by
 intro i j lh lf U g O o
 by_cases Y:i=r
 ·subst Y
  rw[b9]at O
  rw[cN _ _ (fun e=>U e.symm)]at o
  have lg:=(W j lf).resolve_left (fun e=>U e.symm)
  rcases ld.place g O with ⟨h1,Z⟩|⟨h1,_⟩
  ·exact h.apart i j h1 lg U g Z o
  ·have:=(h.lt lg o).1;omega
 ·rw[cN _ _ Y]at O
  have la:=(W i lh).resolve_left Y
  by_cases lc:j=r
  ·subst lc
   rw[b9]at o
   rcases ld.place g o with ⟨h1,Z⟩|⟨h1,_⟩
   ·exact h.apart i j la h1 U g O Z
   ·have:=(h.lt la O).1;omega
  ·rw[cN _ _ lc]at o
   exact h.apart i j la ((W j lf).resolve_left lc) U g O o
def ae.dg(st:ae)(r:Nat)(c:bL):ae:={st.dz r with ad:=(r,c)::(st.dz r).ad}
def ae.dv(st:ae)(r:Nat)(c:cw):ae:={st.dz r with rw:=(r,c)::(st.dz r).rw}
theorem yz(st:ae)(r:Nat)(c:bL):(st.dg r c).ids=r::(st.dz r).ids:=rfl
theorem LJ(st:ae)(r:Nat)(c:cw):∀i,i∈(st.dv r c).ids↔i=r\/i∈(st.dz r).ids:=by
 intro i
 simp only[ae.ids,ae.dv,List.map_cons,List.mem_append,List.mem_cons]
 constructor
 ·rintro(h|h|h)
  ·exact .inr (.inl h)
  ·exact .inl h
  ·exact .inr (.inr h)
 ·rintro(h|h|h)
  ·exact .inr (.inl h)
  ·exact .inl h
  ·exact .inr (.inr h)
theorem am.FS(h:am cx m st T w){r:Nat}{u:Value}{b:Nat}{c:bL}(o:(b,c)∈(st.dz r).ad)(O:c.one=true)(U:cx.n<=b):bo m r u b=cx.m0 b:=by
 obtain⟨⟨la,c'⟩,W,Y⟩:=List.mem_map.1 o
 cases Y
 obtain⟨h1,Z⟩:=cP.1 W
 rw[cN _ _ Z]
 exact h.fixed _ _ h1 (ni.symm.trans O) U
theorem am.IU(h:am cx m st T w){r:Nat}{u:Value}{b:Nat}{c:cw}(o:(b,c)∈(st.dz r).rw)(O:cx.n<=b)(hk:eM<=b):bo m r u b=cx.m0 b:=by
 obtain⟨h1,U⟩:=cP.1 o
 rw[cN _ _ U]
 exact h.kept _ _ h1 O hk
theorem am.Oe(h:am cx m st T w){r:Nat}(lh:r<cx.n){g:Nat}{c:bL}{u:Value}(la:iR u g c)(U:dm cx m st w r u w')
  (lc:∀Y,own u Y->cx.bC.heap.size<=Y\/cx.X Y)(ld:ig w' (ap cx (bo m r u) (st.dg r c).ids) (bo m r u) u g c):
  am cx (bo m r u) (st.dg r c) T w':=by
 have W:∀i,i∈(st.dg r c).ids->i=r\/i∈st.ids:=by
  intro i O
  rw[yz]at O
  rcases List.mem_cons.1 O with O|O
  ·exact .inl O
  ·exact .inr ((nH st r i).1 O).1
 refine{size:=h.size,frame:=h.GS U,outer:=h.outer,cI:=h.JS W U,boxes:=?_,rows:=h.L6 W U,apart:=h.FO W U,keys:=?_,fixed:=?_,kept:=fun b c' o Z hk=>h.IU o Z hk}
 ·intro b c' o
  rcases List.mem_cons.1 o with o|o
  ·cases o
   rw[b9]
   exact⟨g,la,lc,ld⟩
  ·exact h.Gj W U b c' o
 ·rw[yz]
  exact List.nodup_cons.2 ⟨fun lf=>((nH st r r).1 lf).2 rfl,K4 h.keys r⟩
 ·intro b c' o lg Z
  rcases List.mem_cons.1 o with o|o
  ·cases o;omega
  ·exact h.FS o lg Z
def bL.zQ:bL->Bool
 |.aT _ _ _=>false
 |.bj _ _ _ _=>false
 |_=>true
theorem Si{c:bL}(o:c.zQ=true)(g:Nat):iR (fK g c) g c:=by
 cases c<;>first|rfl|cases o
theorem mr{c:bL}{g b:Nat}(h:own (fK g c) b):b=g:=by
 cases c<;>exact(Option.some.inj h).symm
theorem am.dg(h:am cx m st T w){r:Nat}(o:r<cx.n){g:Nat}{c:bL}(O:dm cx m st w r (fK g c) w')
  (U:cx.bC.heap.size<=g\/cx.X g)(W:ig w' (ap cx (bo m r (fK g c)) (st.dg r c).ids) (bo m r (fK g c)) (fK g c) g c)(Y:c.zQ=true:=by rfl):
  am cx (bo m r (fK g c)) (st.dg r c) T w':=
 h.Oe o (Si Y g) O (fun la Z=>by rw[mr Z];exact U) W
theorem am.box(h:am cx m st T w){b:Nat}{c:bL}(O:(b,c)∈st.ad)(o:c.zQ=true:=by rfl):∃g,m b=fK g c/\(cx.bC.heap.size<=g\/cx.X g)/\ig w (ap cx m st.ids) m (fK g c) g c:=by
 obtain⟨g,h1,U,W⟩:=h.boxes b c O
 have e:m b=fK g c:=by cases c<;>first|exact h1|cases o
 exact⟨g,e,U g (ix h1 (by cases c<;>first|rfl|cases o)),by rw[<-e];exact W⟩
theorem am.dv(h:am cx m st T w){r:Nat}{u:Value}(O:r<cx.n\/r<eM)(U:dm cx m st w r u w'){cells:List Value}{c:cw}
  (lc:∀g,own u g->cx.bC.heap.size<=g\/cx.X g)(la:w'.ownsRow 0 c.e c.t.cells u c.xs.length cells)
  (ld:bD (aF w' (ap cx (bo m r u) (st.dv r c).ids) c.t) cells c.xs):
  am cx (bo m r u) (st.dv r c) T w':=by
 have Y:∀i,i∈(st.dv r c).ids->i=r\/i∈st.ids:=by
  intro i W
  rcases(LJ st r c i).1 W with W|W
  ·exact .inl W
  ·exact .inr ((nH st r i).1 W).1
 refine{size:=h.size,frame:=h.GS U,outer:=h.outer,cI:=h.JS Y U,boxes:=h.Gj Y U,rows:=?_,apart:=h.FO Y U,keys:=?_,fixed:=fun b c' o lf Z=>h.FS o lf Z,kept:=fun b c' o Z hk=>?_}
 rotate_left 2
 ·rcases List.mem_cons.1 o with o|o
  ·cases o
   rcases O with O|O
   ·exact absurd Z (Nat.not_le.2 O)
   ·exact absurd hk (Nat.not_le.2 O)
  ·exact h.IU o Z hk
 ·intro b c' o
  rcases List.mem_cons.1 o with o|o
  ·cases o
   rw[b9]
   exact⟨cells,la,lc,ld⟩
  ·exact h.L6 Y U b c' o
 ·have lg:(st.dv r c).ids.Perm (r::(st.dz r).ids):=by
   show((st.dz r).ad.map (·.1)++r::(st.dz r).rw.map (·.1)).Perm _
   exact List.perm_middle
  exact lg.nodup_iff.2 (List.nodup_cons.2 ⟨fun la=>((nH st r r).1 la).2 rfl,K4 h.keys r⟩)
theorem dm.fresh(h:am cx m st T w)(r:Nat)(u:Value)(o:Ext w w')(O:∀g,own u g->w.heap.size<=g/\g<w'.heap.size):dm cx m st w r u w':=
 ⟨o.toSame,fun b U _=>o.block b U,fun g W=>.inr (O g W)⟩
end Go.Ev
namespace Go.Ev
open Go Go.RowKit
variable [b6]
variable {cx:bB} {m:Nat->Value} {st:ae} {T:Array Value} {w w':World}
theorem mz{ids O:List Nat}(h:∀i,i∈O->i∈ids){b:Nat}(o:ap cx m O b):ap cx m ids b:=by
 rcases o with o|⟨i,U,W⟩
 ·exact .inl o
 ·exact .inr ⟨i,h i U,W⟩
def ae.db(st:ae)(r:Nat)(c:bL):ae:={st with ad:=(r,c)::del st.ad r}
def ae.setRow(st:ae)(r:Nat)(c:cw):ae:={st with rw:=(r,c)::del st.rw r}
theorem Xb{l:List (Nat×bL)}{k:List Nat}(h:(l.map (·.1)++k).Nodup)(r:Nat):((del l r).map (·.1)++k).Nodup:=by
 rw[mJ]
 exact h.sublist (List.Sublist.append List.filter_sublist (List.Sublist.refl _))
theorem kM{r:Nat}{U:bL}(W:(r,U)∈st.ad)(hk:st.ids.Nodup)(c:bL):(∀i,i∈(st.db r c).ids↔i∈st.ids)/\(st.db r c).ids.Nodup:=by
 have Y:∀i,i∈(st.db r c).ids↔i∈st.ids:=by
  intro i
  simp only[ae.ids,ae.db,List.map_cons,List.mem_append,List.mem_cons,List.mem_map]
  constructor
  ·rintro((h|⟨⟨b,s⟩,o,rfl⟩)|h)
   ·exact .inl ⟨(r,U),W,h.symm⟩
   ·exact .inl ⟨_,(cP.1 o).1,rfl⟩
   ·exact .inr h
  ·rintro(⟨⟨b,s⟩,o,rfl⟩|h)
   ·by_cases e:b=r
    ·exact .inl (.inl e)
    ·exact .inl (.inr ⟨(b,s),cP.2 ⟨o,e⟩,rfl⟩)
   ·exact .inr h
 refine⟨Y,?_⟩
 show(r::((del st.ad r).map (·.1)++st.rw.map (·.1))).Nodup
 refine List.nodup_cons.2 ⟨fun O=>?_,Xb hk r⟩
 rcases List.mem_append.1 O with O|O
 ·obtain⟨⟨b,s⟩,o,e⟩:=List.mem_map.1 O
  exact(cP.1 o).2 e
 ·exact(List.nodup_append.1 hk).2.2 r (List.mem_map.2 ⟨_,W,rfl⟩) r O rfl
theorem o0{r:Nat}{U:cw}(W:(r,U)∈st.rw)(hk:st.ids.Nodup)(c:cw):(∀i,i∈(st.setRow r c).ids↔i∈st.ids)/\(st.setRow r c).ids.Nodup:=by
 have Y:∀i,i∈(st.setRow r c).ids↔i∈st.ids:=by
  intro i
  simp only[ae.ids,ae.setRow,List.map_cons,List.mem_append,List.mem_cons,List.mem_map]
  constructor
  ·rintro(h|h|⟨⟨b,s⟩,o,rfl⟩)
   ·exact .inl h
   ·exact .inr ⟨(r,U),W,h.symm⟩
   ·exact .inr ⟨_,(cP.1 o).1,rfl⟩
  ·rintro(h|⟨⟨b,s⟩,o,rfl⟩)
   ·exact .inl h
   ·by_cases e:b=r
    ·exact .inr (.inl e)
    ·exact .inr (.inr ⟨(b,s),cP.2 ⟨o,e⟩,rfl⟩)
 refine⟨Y,?_⟩
 have o:(st.setRow r c).ids.Perm (r::(st.ad.map (·.1)++(del st.rw r).map (·.1))):=by
  show(st.ad.map (·.1)++r::(del st.rw r).map (·.1)).Perm _
  exact List.perm_middle
 refine o.nodup_iff.2 (List.nodup_cons.2 ⟨fun O=>?_,?_⟩)
 ·rcases List.mem_append.1 O with O|O
  ·exact(List.nodup_append.1 hk).2.2 r O r (List.mem_map.2 ⟨_,W,rfl⟩) rfl
  ·obtain⟨⟨b,s⟩,o,e⟩:=List.mem_map.1 O
   exact(cP.1 o).2 e
 ·rw[mJ]
  exact hk.sublist (List.Sublist.append (List.Sublist.refl _) List.filter_sublist)
structure Touch(m:Nat->Value)(w:World)(r:Nat)(w':World):Prop where
 same:Same w w'
 block:∀b,b<w.heap.size->¬own (m r) b->w'.heap[b]? =w.heap[b]?
theorem am.ic{r:Nat}(o:r∈st.ids)(O:Touch m w r w'){ids:List Nat}(U:∀i,i∈ids↔i∈st.ids):
  (∀b,b<w.heap.size->¬ap cx m st.ids b->w'.heap[b]? =w.heap[b]?)/\(∀b,b<w.heap.size->ap cx m ids b->ap cx m st.ids b):=
 ⟨fun b W Y=>O.block b W fun e=>Y (.inr ⟨r,o,e⟩),fun _ _ h=>mz (fun i Z=>(U i).1 Z) h⟩
theorem am.AZ(h:am cx m st T w){r:Nat}(U:r∈st.ids)(o:Touch m w r w'):Frame cx.bC w' cx.X:=
 h.frame.step o.same fun b W Y=>o.block b (Nat.lt_of_lt_of_le W h.frame.size) fun e=>by
  rcases(h.lt U e).2 with O|O
  ·omega
  ·exact Y O
theorem am.F8(h:am cx m st T w){r:Nat}(U:r∈st.ids)(W:Touch m w r w'){j g:Nat}(o:j∈st.ids)(Y:j≠r)(O:own (m j) g):w'.heap[g]? =w.heap[g]? :=
 W.block g (h.lt o O).1 fun e=>h.apart r j U o (fun e=>Y e.symm) g e O
theorem am.Ke(h:am cx m st T w){r:Nat}(O:r∈st.ids)(U:Touch m w r w'){ids:List Nat}(Z:∀i,i∈ids↔i∈st.ids){b:Nat}{c:bL}(W:(b,c)∈st.ad)(la:b≠r):
  ∃g,iR (m b) g c/\(∀o,own (m b) o->cx.bC.heap.size<=o\/cx.X o)/\ig w' (ap cx m ids) m (m b) g c:=by
 obtain⟨lc,ld⟩:=am.ic (cx:=cx) O U Z
 obtain⟨g,Y,lf,lg⟩:=h.boxes b c W
 have lh:b∈st.ids:=List.mem_append.2 (.inl (List.mem_map.2 ⟨_,W,rfl⟩))
 exact⟨g,Y,lf,EP (ix Y) (fun lj li=>h.F8 O U lh la li) lc ld lg⟩
theorem am.Jl(h:am cx m st T w){r:Nat}(O:r∈st.ids)(U:Touch m w r w'){ids:List Nat}(la:∀i,i∈ids↔i∈st.ids){b:Nat}{c:cw}(W:(b,c)∈st.rw)(lc:b≠r):
  ∃cells,w'.ownsRow 0 c.e c.t.cells (m b) c.xs.length cells/\(∀g,own (m b) g->cx.bC.heap.size<=g\/cx.X g)/\bD (aF w' (ap cx m ids) c.t) cells c.xs:=by
 obtain⟨ld,lf⟩:=am.ic (cx:=cx) O U la
 obtain⟨cells,Y,lg,lh⟩:=h.rows b c W
 have li:b∈st.ids:=List.mem_append.2 (.inr (List.mem_map.2 ⟨_,W,rfl⟩))
 refine⟨cells,⟨Y.1,?_⟩,lg,dx (fun _ _=>cB ld lf c.t) lh⟩
 rcases Y.2 with o|⟨g,cap,cur,Z,lj,o,rest⟩
 ·exact .inl o
 ·have lk:own (m b) g:=by rw[Z];exact hq rfl
  exact .inr ⟨g,cap,cur,Z,lj,by rw[h.F8 O U li lc lk];exact o,rest⟩
theorem am.Gh(h:am cx m st T w){r:Nat}(o:r∈st.ids)(O:Touch m w r w'){ids:List Nat}(U:∀i,i∈ids↔i∈st.ids):
  ∀i aJ,(i,aJ)∈st.ab->∃v,T[i]? =some v/\aQ w' (ap cx m ids) m v aJ:=fun i aJ W=>by
 obtain⟨Y,Z⟩:=am.ic (cx:=cx) o O U
 obtain⟨v,h1,la⟩:=h.cI i aJ W
 exact⟨v,h1,fV Y Z la⟩
theorem am.db(h:am cx m st T w){r:Nat}{Z c:bL}(O:(r,Z)∈st.ad)(W:Touch m w r w'){g:Nat}
  (ld:iR (m r) g c)(lf:ig w' (ap cx m (st.db r c).ids) m (m r) g c)(h1:c.one=true->Z.one=true:=by first|exact id|exact fun _=>rfl):am cx m (st.db r c) T w':=by
 obtain⟨U,lg⟩:=kM O h.keys c
 have Y:r∈st.ids:=List.mem_append.2 (.inl (List.mem_map.2 ⟨_,O,rfl⟩))
 refine{size:=h.size,frame:=h.AZ Y W,outer:=h.outer,cI:=h.Gh Y W U,boxes:=?_,rows:=?_,apart:=?_,keys:=lg,fixed:=?_,kept:=h.kept}
 ·intro b c' o
  rcases List.mem_cons.1 o with o|o
  ·cases o
   obtain⟨ll,lm,lh,_⟩:=h.boxes r Z O
   exact⟨g,ld,lh,lf⟩
  ·obtain⟨h1,li⟩:=cP.1 o
   exact h.Ke Y W U h1 li
 ·intro b c' o
  refine h.Jl Y W U o ?_
  rintro rfl
  exact(List.nodup_append.1 h.keys).2.2 b (List.mem_map.2 ⟨_,O,rfl⟩) b (List.mem_map.2 ⟨_,o,rfl⟩) rfl
 ·exact fun i j lj lk=>h.apart i j ((U i).1 lj) ((U j).1 lk)
 ·intro b c' o la lc
  rcases List.mem_cons.1 o with o|o
  ·cases o;exact h.fixed _ _ O (h1 la) lc
  ·exact h.fixed _ _ (cP.1 o).1 la lc
theorem am.Ug(h:am cx m st T w){r:Nat}{U c:cw}(W:(r,U)∈st.rw):∀b c',(b,c')∈(st.setRow r c).rw->cx.n<=b->eM<=b->m b=cx.m0 b:=by
 intro b c' o O hk
 rcases List.mem_cons.1 o with o|o
 ·cases o;exact h.kept _ _ W O hk
 ·exact h.kept _ _ (cP.1 o).1 O hk
theorem am.setRow(h:am cx m st T w){r:Nat}{Z c:cw}(O:(r,Z)∈st.rw)(W:Touch m w r w'){cells:List Value}
  (la:w'.ownsRow 0 c.e c.t.cells (m r) c.xs.length cells)(lc:bD (aF w' (ap cx m (st.setRow r c).ids) c.t) cells c.xs):am cx m (st.setRow r c) T w':=by
 obtain⟨U,ld⟩:=o0 O h.keys c
 have Y:r∈st.ids:=List.mem_append.2 (.inr (List.mem_map.2 ⟨_,O,rfl⟩))
 refine{size:=h.size,frame:=h.AZ Y W,outer:=h.outer,cI:=h.Gh Y W U,boxes:=?_,rows:=?_,apart:=?_,keys:=ld,fixed:=h.fixed,kept:=h.Ug O}
 ·intro b c' o
  refine h.Ke Y W U o ?_
  rintro rfl
  exact(List.nodup_append.1 h.keys).2.2 b (List.mem_map.2 ⟨_,o,rfl⟩) b (List.mem_map.2 ⟨_,O,rfl⟩) rfl
 ·intro b c' o
  rcases List.mem_cons.1 o with o|o
  ·cases o
   obtain⟨_,_,lf,_⟩:=h.rows r Z O
   exact⟨cells,la,lf,lc⟩
  ·obtain⟨h1,lg⟩:=cP.1 o
   exact h.Jl Y W U h1 lg
 ·exact fun i j lh li=>h.apart i j ((U i).1 lh) ((U j).1 li)
theorem am.weaken(h:am cx m st T w){st':ae}(lh:∀i aJ,(i,aJ)∈st'.ab->(i,aJ)∈st.ab)(W:∀p,p∈st'.ad->p∈st.ad)(Y:∀p,p∈st'.rw->p∈st.rw)(li:st'.ids.Nodup):am cx m st' T w:=by
 have Z:∀i,i∈st'.ids->i∈st.ids:=by
  intro i o
  rcases List.mem_append.1 o with o|o
  ·obtain⟨p,la,rfl⟩:=List.mem_map.1 o;exact List.mem_append.2 (.inl (List.mem_map.2 ⟨p,W p la,rfl⟩))
  ·obtain⟨p,la,rfl⟩:=List.mem_map.1 o;exact List.mem_append.2 (.inr (List.mem_map.2 ⟨p,Y p la,rfl⟩))
 have lc:∀b,b<w.heap.size->¬ap cx m st.ids b->w.heap[b]? =w.heap[b]? :=fun _ _ _=>rfl
 have ld:∀b,b<w.heap.size->ap cx m st'.ids b->ap cx m st.ids b:=fun _ _ h=>mz Z h
 refine{size:=h.size,frame:=h.frame,outer:=h.outer,cI:=fun i aJ o=>?_,boxes:=fun b c O=>?_,rows:=fun b c O=>?_,apart:=fun i j o lj=>h.apart i j (Z i o) (Z j lj),keys:=li,fixed:=fun b c O=>h.fixed b c (W _ O),kept:=fun b c O=>h.kept b c (Y _ O)}
 ·obtain⟨v,h1,lk⟩:=h.cI i aJ (lh i aJ o)
  exact⟨v,h1,fV lc ld lk⟩
 ·obtain⟨g,U,lf,lg⟩:=h.boxes b c (W _ O)
  exact⟨g,U,lf,EP (ix U) (fun _ _=>rfl) lc ld lg⟩
 ·obtain⟨cells,U,lf,lg⟩:=h.rows b c (Y _ O)
  exact⟨cells,U,lf,dx (fun _ _=>cB lc ld c.t) lg⟩
def nU{α:Type}(l:List (Nat×α)):List Nat->Option (List (Nat×α))
 |[]=>some []
 |k::o=>match look l k,nU l o with
  |some v,some r=>some ((k,v)::r)
  |_,_=>none
theorem rh{α:Type}{l:List (Nat×α)}:∀{O:List Nat} {r:List (Nat×α)},nU l O=some r->∀p,p∈r->p∈l
 |[],r,h,p,o=>by cases h;simp at o
 |k::O,r,h,p,o=>by
  unfold nU at h
  split at h
  ·rename_i v W h1 U
   cases h
   rcases List.mem_cons.1 o with rfl|o
   ·exact aX h1
   ·exact rh U p o
  ·cases h
theorem Bv{α:Type}{l:List (Nat×α)}:∀{o:List Nat} {r:List (Nat×α)},nU l o=some r->r.map (·.1)=o
 |[],r,h=>by cases h;rfl
 |k::o,r,h=>by
  unfold nU at h
  split at h
  ·rename_i v U h1 O
   cases h
   simp[Bv O]
  ·cases h
def nodupB:List Nat->Bool
 |[]=>true
 |k::o=>!(o.any (Nat.beq k))&&nodupB o
theorem iQ:∀{l:List Nat},nodupB l=true->l.Nodup
 |[],_=>List.nodup_nil
 |k::O,h=>by
  simp only[nodupB,Bool.and_eq_true,Bool.not_eq_true']at h
  refine List.nodup_cons.2 ⟨fun o=>?_,iQ h.2⟩
  have:=List.any_eq_false.1 h.1 k o
  rw[Nat.beq_refl]at this
  exact this rfl
def ae.norm(st:ae)(O o ar:List Nat):Option ae:=
 match nU st.ab O,nU st.ad o,nU st.rw ar,nodupB (o++ar)with
 |some a,some b,some c,true=>some ⟨a,b,c⟩
 |_,_,_,_=>none
theorem am.norm(h:am cx m st T w){Y Z ar:List Nat}{st':ae}(o:st.norm Y Z ar=some st'):am cx m st' T w:=by
 unfold ae.norm at o
 split at o
 ·rename_i a b c h1 U W la
  cases o
  refine h.weaken (fun i aJ lc=>rh h1 _ lc) (fun p O=>rh U p O) (fun p O=>rh W p O) ?_
  show(b.map (·.1)++c.map (·.1)).Nodup
  rw[Bv U,Bv W]
  exact iQ la
 ·cases o
theorem am.yM(h:am cx m st T w){r:Nat}{c:cw}(W:(r,c)∈st.rw){M:Nat->Prop}(Y:∀b,b<w.heap.size->M b->ap cx m st.ids b)(Z:∀g,own (m r) g->¬M g):
  aF w M (.ab c.t) [m r] c.xs:=by
 obtain⟨cells,U,lh,la⟩:=h.rows r c W
 rcases U.2 with ⟨o,lc⟩|⟨g,cap,cur,o,_,li,ld,lf,lj,lk⟩
 ·have lg:c.xs=[]:=List.eq_nil_of_length_eq_zero lc
  rw[lg,o]
  refine⟨none,0,[],rfl,Nat.le_refl _,by decide,fun _=>rfl,rfl,fun j u O=>by simp at O⟩
 ·refine⟨some ⟨g,0,none⟩,cap,cells,by rw[o],ld,lf,(fun e=>by cases e),dx (fun _ _=>cB (fun _ _ _=>rfl) Y c.t) la,fun j u O=>⟨_,rfl,?_,Z g (by rw[o];rfl)⟩⟩
  exact U.cells (g:=g) (by rw[o];rfl) j u O
def bQ.freeze(r:Nat)(c:cw):bQ->bQ
 |.r b=>bif Nat.beq b r then .v ⟨.ab c.t,c.xs⟩else .r b
 |s=>s
def ak.freeze(r:Nat)(c:cw):ak->ak
 |.row b=>bif Nat.beq b r then .val (.ab c.t) c.xs else .row b
 |.gn l=>.gn (l.map (bQ.freeze r c))
 |.eH l=>.eH (l.map (bQ.freeze r c))
 |s=>s
theorem qH{w:World}{M:Nat->Prop}{m:Nat->Value}{r:Nat}{c:cw}(o:aF w M (.ab c.t) [m r] c.xs):∀{vs:List Value} {l:List bQ},dd w M m vs l->dd w M m vs (l.map (bQ.freeze r c))
 |[],[],_=>trivial
 |[],_::_,h=>h.elim
 |_::_,[],h=>h.elim
 |_::_,.v _::_,⟨h1,O⟩=>⟨h1,qH o O⟩
 |_::vs,.a::l,h=>qH (vs:=vs) (l:=l) o h
 |v::_,.r b::_,⟨h1,O⟩=>by
  show dd _ _ _ _ ((bif Nat.beq b r then .v ⟨.ab c.t,c.xs⟩else .r b)::_)
  cases U:Nat.beq b r with
  |false=>exact⟨h1,qH o O⟩
  |true=>
   have e:=Nat.eq_of_beq_eq_true U
   subst e
   subst h1
   exact⟨o,qH o O⟩
def ae.freeze(st:ae)(r:Nat)(c:cw):ae:=
 {ab:=st.ab.map fun p=>(p.1,p.2.freeze r c),ad:=st.ad.map fun p=>(p.1,p.2.map (ak.freeze r c)),rw:=del st.rw r}
theorem am.freeze(h:am cx m st T w){r:Nat}{c:cw}(lf:(r,c)∈st.rw):am cx m (st.freeze r c) T w:=by
 have la:∀i,i∈(st.freeze r c).ids->i∈st.ids/\i≠r:=by
  intro i o
  have lr:∀c',(r,c')∉st.ad:=fun c' lg=>(List.nodup_append.1 h.keys).2.2 r (List.mem_map.2 ⟨_,lg,rfl⟩) r (List.mem_map.2 ⟨_,lf,rfl⟩) rfl
  rcases List.mem_append.1 o with o|o
  ·obtain⟨⟨b,s⟩,O,rfl⟩:=List.mem_map.1 o
   obtain⟨⟨lA,lt⟩,lm,W⟩:=List.mem_map.1 O
   cases W
   exact⟨List.mem_append.2 (.inl (List.mem_map.2 ⟨_,lm,rfl⟩)),fun e=>lr lt (by simp only at e;rw[<-e];exact lm)⟩
  ·obtain⟨⟨b,s⟩,O,rfl⟩:=List.mem_map.1 o
   obtain⟨h1,U⟩:=cP.1 O
   exact⟨List.mem_append.2 (.inr (List.mem_map.2 ⟨_,h1,rfl⟩)),U⟩
 have ln:r∈st.ids:=List.mem_append.2 (.inr (List.mem_map.2 ⟨_,lf,rfl⟩))
 have lh:∀b,b<w.heap.size->¬ap cx m st.ids b->w.heap[b]? =w.heap[b]? :=fun _ _ _=>rfl
 have lc:∀b,b<w.heap.size->ap cx m (st.freeze r c).ids b->ap cx m st.ids b:=fun _ _ h=>mz (fun i o=>(la i o).1) h
 have li:aF w (ap cx m (st.freeze r c).ids) (.ab c.t) [m r] c.xs:=by
  refine h.yM lf lc fun g lo=>?_
  rintro(lu|⟨i,o,lv⟩)
  ·have h1:=h.outer g lu
   rcases(h.lt ln lo).2 with U|U
   ·omega
   ·exact h1.2 U
  ·obtain⟨h1,U⟩:=la i o
   exact h.apart i r h1 ln U g lv lo
 have lp:∀v s,aQ w (ap cx m st.ids) m v s->aQ w (ap cx m (st.freeze r c).ids) m v (s.freeze r c):=by
  intro v s lq
  have ld:=fV (w':=w) (m:=m) lh lc lq
  cases s with
  |row b=>
   show aQ _ _ _ _ (bif Nat.beq b r then .val (.ab c.t) c.xs else .row b)
   cases lg:Nat.beq b r with
   |false=>exact ld
   |true=>
    have e:=Nat.eq_of_beq_eq_true lg
    subst e
    have:v=m b:=lq
    subst this
    exact li
  |gn l=>obtain⟨vs,e,lj⟩:=ld;exact⟨vs,e,qH li lj⟩
  |eH l=>obtain⟨vs,e,lj⟩:=ld;exact⟨vs,e,qH li lj⟩
  |_=>exact ld
 have lw:(st.freeze r c).ids.Sublist st.ids:=by
  have Z:(st.freeze r c).ad.map (·.1)=st.ad.map (·.1):=by simp[ae.freeze,List.map_map,Function.comp_def]
  show((st.freeze r c).ad.map (·.1)++(del st.rw r).map (·.1)).Sublist (st.ad.map (·.1)++st.rw.map (·.1))
  rw[Z,mJ]
  exact List.Sublist.append (List.Sublist.refl _) List.filter_sublist
 refine{size:=h.size,frame:=h.frame,outer:=h.outer,cI:=fun i aJ o=>?_,boxes:=fun b c' Y=>?_,rows:=fun b c' Y=>?_,apart:=fun i j o lx=>h.apart i j (la i o).1 (la j lx).1,keys:=h.keys.sublist lw,fixed:=?_,kept:=fun b c' Y=>h.kept b c' (cP.1 Y).1}
 ·obtain⟨⟨j,s⟩,O,W⟩:=List.mem_map.1 o
  cases W
  obtain⟨v,h1,U⟩:=h.cI j s O
  exact⟨v,h1,lp v s U⟩
 ·obtain⟨⟨j,s⟩,O,W⟩:=List.mem_map.1 Y
  cases W
  obtain⟨g,Z,lk,ll⟩:=h.boxes j s O
  exact⟨g,kU.2 Z,lk,kj lh lc (ix Z) (fun _ _=>rfl) lp ll⟩
 ·obtain⟨O,_⟩:=cP.1 Y
  obtain⟨cells,Z,lk,ll⟩:=h.rows b c' O
  exact⟨cells,Z,lk,dx (fun _ _=>cB lh lc c'.t) ll⟩
 ·intro b c' Y ly lz
  obtain⟨⟨j,s⟩,O,W⟩:=List.mem_map.1 Y
  cases W
  exact h.fixed _ _ O (ni.symm.trans ly) lz
/-! A map given up: it is only read from here on. -/
def bQ.oV(r:Nat)(k v:ag)(ps:List (k.el×v.el)):bQ->bQ
 |.v u=>.v u
 |.r b=>bif Nat.beq b r then .v ⟨.map k v,some ps⟩else .r b
 |.a=>.a
def ak.oV(r:Nat)(k v:ag)(ps:List (k.el×v.el)):ak->ak
 |.iter b=>bif Nat.beq b r then .val (.map k v) (some ps)else .iter b
 |.row b=>bif Nat.beq b r then .val (.map k v) (some ps)else .row b
 |.gn l=>.gn (l.map (bQ.oV r k v ps))
 |.eH l=>.eH (l.map (bQ.oV r k v ps))
 |s=>bif s.refs r then .any else s
def ae.gA(st:ae)(r:Nat)(k v:ag)(ps:List (k.el×v.el)):ae:=
 {ab:=st.ab.map fun p=>(p.1,p.2.oV r k v ps),ad:=(del st.ad r).map fun p=>(p.1,p.2.map (ak.oV r k v ps)),rw:=st.rw}
theorem qL{w:World}{M:Nat->Prop}{m:Nat->Value}{r:Nat}{k v:ag}{ps:List (k.el×v.el)}(o:aF w M (.map k v) [m r] (some ps)):∀{vs:List Value} {l:List bQ},dd w M m vs l->dd w M m vs (l.map (bQ.oV r k v ps))
 |[],[],_=>trivial
 |[],_::_,h=>h.elim
 |_::_,[],h=>h.elim
 |_::_,.v u::_,⟨h1,O⟩=>⟨h1,qL o O⟩
 |_::vs,.a::l,h=>qL (vs:=vs) (l:=l) o h
 |x::_,.r b::_,⟨h1,O⟩=>by
  show dd w M m _ ((bif Nat.beq b r then bQ.v ⟨.map k v,some ps⟩else bQ.r b)::_)
  cases U:Nat.beq b r with
  |false=>exact⟨h1,qL o O⟩
  |true=>
   have e:=Nat.eq_of_beq_eq_true U
   subst e
   refine⟨?_,qL o O⟩
   rw[h1]
   exact o
theorem am.gA(h:am cx m st T w){r:Nat}{k v:ag}{ps:List (k.el×v.el)}(lk:(r,bL.mp k v ps)∈st.ad):am cx m (st.gA r k v ps) T w:=by
 have lg:∀i,i∈(st.gA r k v ps).ids->i∈st.ids/\i≠r:=by
  intro i U
  have lt:∀c',(r,c')∉st.rw:=fun c' ll=>(List.nodup_append.1 h.keys).2.2 r (List.mem_map.2 ⟨_,lk,rfl⟩) r (List.mem_map.2 ⟨_,ll,rfl⟩) rfl
  rcases List.mem_append.1 U with U|U
  ·obtain⟨⟨b,s⟩,W,rfl⟩:=List.mem_map.1 U
   obtain⟨⟨lG,lH⟩,lu,Z⟩:=List.mem_map.1 W
   cases Z
   obtain⟨h1,lc⟩:=cP.1 lu
   exact⟨List.mem_append.2 (.inl (List.mem_map.2 ⟨_,h1,rfl⟩)),lc⟩
  ·obtain⟨⟨b,s⟩,W,rfl⟩:=List.mem_map.1 U
   exact⟨List.mem_append.2 (.inr (List.mem_map.2 ⟨_,W,rfl⟩)),fun e=>lt s (by simp only at e;rw[<-e];exact W)⟩
 have lp:r∈st.ids:=List.mem_append.2 (.inl (List.mem_map.2 ⟨_,lk,rfl⟩))
 have ld:∀b,b<w.heap.size->¬ap cx m st.ids b->w.heap[b]? =w.heap[b]? :=fun _ _ _=>rfl
 have lf:∀b,b<w.heap.size->ap cx m (st.gA r k v ps).ids b->ap cx m st.ids b:=fun _ _ h=>mz (fun i U=>(lg i U).1) h
 obtain⟨g0,Y,lh,es,clock,h1,lc,lv,lw⟩:=h.box lk
 have lq:own (m r) g0:=by rw[Y];exact hq rfl
 have li:aF w (ap cx m (st.gA r k v ps).ids) (.map k v) [m r] (some ps):=by
  refine⟨g0,es,clock,by rw[Y];rfl,h1,?_,lc,lv,gH (fun _ _ h=>dh ld lf h) (fun _ _ h=>dh ld lf h) lw⟩
  rintro(lx|⟨i,U,ly⟩)
  ·have lm:=h.outer g0 lx
   rcases(h.lt lp lq).2 with lj|lj
   ·omega
   ·exact lm.2 lj
  ·obtain⟨lm,lj⟩:=lg i U
   exact h.apart i r lm lp lj g0 ly lq
 have lr:∀v' s,aQ w (ap cx m st.ids) m v' s->aQ w (ap cx m (st.gA r k v ps).ids) m v' (s.oV r k v ps):=by
  intro v' s lz
  have o:=fV (w':=w) (m:=m) ld lf lz
  have O:∀s:ak,aQ w (ap cx m (st.gA r k v ps).ids) m v' s->aQ w (ap cx m (st.gA r k v ps).ids) m v' (bif s.refs r then .any else s):=by
   intro s lA
   cases s.refs r with
   |true=>trivial
   |false=>exact lA
  have af:∀b,v'=m b->aQ w (ap cx m (st.gA r k v ps).ids) m v' (bif Nat.beq b r then .val (.map k v) (some ps)else .iter b)/\aQ w (ap cx m (st.gA r k v ps).ids) m v' (bif Nat.beq b r then .val (.map k v) (some ps)else .row b):=by
   intro b e
   cases ll:Nat.beq b r with
   |false=>exact⟨e,e⟩
   |true=>
    have lB:=Nat.eq_of_beq_eq_true ll
    subst lB
    subst e
    exact⟨li,li⟩
  cases s with
  |iter b=>exact(af b o).1
  |row b=>exact(af b o).2
  |gn l=>obtain⟨vs,e,ln⟩:=o;exact⟨vs,e,qL li ln⟩
  |eH l=>obtain⟨vs,e,ln⟩:=o;exact⟨vs,e,qL li ln⟩
  |any=>exact O _ o
  |undef=>exact O _ o
  |val t x=>exact O _ o
  |dP l=>exact O _ o
  |ptr b aa=>exact O _ o
  |fw b=>exact O _ o
  |vptr t x=>exact O _ o
  |dV a b c d=>exact O _ o
  |clos f lI=>exact O _ o
  |dE b p=>exact O _ o
  |osl b=>exact O _ o
  |gc b i=>exact O _ o
  |sub b i=>exact O _ o
  |bX f b=>exact O _ o
  |dW b i aa s=>exact O _ o
  |fD b i j aa s=>exact O _ o
  |af n=>exact O _ o
 have lC:(st.gA r k v ps).ids.Sublist st.ids:=by
  have Y:(st.gA r k v ps).ad.map (·.1)=(del st.ad r).map (·.1):=by simp[ae.gA,List.map_map,Function.comp_def]
  show((st.gA r k v ps).ad.map (·.1)++st.rw.map (·.1)).Sublist (st.ad.map (·.1)++st.rw.map (·.1))
  rw[Y,mJ]
  exact List.Sublist.append List.filter_sublist (List.Sublist.refl _)
 refine{size:=h.size,frame:=h.frame,outer:=h.outer,cI:=fun i aJ U=>?_,boxes:=fun b c' la=>?_,rows:=fun b c' la=>?_,apart:=fun i j U lD=>h.apart i j (lg i U).1 (lg j lD).1,keys:=h.keys.sublist lC,fixed:=?_,kept:=fun b c' la=>h.kept b c' la}
 ·obtain⟨⟨j,s⟩,W,Z⟩:=List.mem_map.1 U
  cases Z
  obtain⟨v,h1,lc⟩:=h.cI j s W
  exact⟨v,h1,lr v s lc⟩
 ·obtain⟨⟨j,s⟩,W,Z⟩:=List.mem_map.1 la
  cases Z
  obtain⟨g,Y,lh,lo⟩:=h.boxes j s (cP.1 W).1
  exact⟨g,kU.2 Y,lh,kj ld lf (ix Y) (fun _ _=>rfl) lr lo⟩
 ·obtain⟨cells,Y,lh,lo⟩:=h.rows b c' la
  exact⟨cells,Y,lh,dx (fun _ _=>cB ld lf c'.t) lo⟩
 ·intro b c' la lE lF
  obtain⟨⟨j,s⟩,W,Z⟩:=List.mem_map.1 la
  cases Z
  exact h.fixed _ _ (cP.1 W).1 (ni.symm.trans lE) lF
end Go.Ev
namespace Go.Ev
open Go Go.RowKit
variable [b6]
theorem aj.dC{v:aj}{u:ag}{x:u.el}(h:v.as u=some x):v=⟨u,x⟩:=by
 unfold aj.as at h
 split at h
 ·rename_i o
  obtain⟨t,y⟩:=v
  have e:t=u:=ag.eq_of_beq o
  subst e
  simp only[Option.some.injEq]at h
  subst h
  rfl
 ·cases h
def fieldsOf(f:TypeId->Option ag):Nat->List Field->Option ag
 |_,[]=>some .unit
 |off,o::O=>
  bif Nat.beq o.offset off then
   match f o.type with
   |some a=>match fieldsOf f (off+a.cells) O with
    |some b=>some (.pair a b)
    |none=>none
   |none=>none
  else none
def cD(P:Program):Nat->TypeId->Option ag
 |0,_=>none
 |d+1,t=>
  match P.info? t,P.underlying t with
  |some i,some (.int k)=>bif Nat.beq i.size 1 then some (.int k)else none
  |some i,some .bool=>bif Nat.beq i.size 1 then some .bool else none
  |some i,some .string=>bif Nat.beq i.size 1 then some .str else none
  |some i,some (.slice e)=>bif Nat.beq i.size 1 then(match cD P d e with|some u=>some (.ab u)|none=>none)else none
  |some i,some (.struct o)=>match fieldsOf (cD P d) 0 o.toList with
   |some u=>bif Nat.beq i.size u.cells then some u else none
   |none=>none
  |some i,some (.interface _)=>bif Nat.beq i.size 1 then some .err else none
  |some i,some (.array n e)=>match cD P d e with
   |some u=>bif Nat.beq i.size (n*u.cells)then some (.arr n u)else none
   |none=>none
  |some i,some (.map k e)=>bif Nat.beq i.size 1 then(match cD P d k,cD P d e with
   |some a,some b=>some (.map a b)
   |_,_=>none)else none
  |some i,some (.func _ _ _)=>bif Nat.beq i.size 1 then some .cV else none
  |some i,some (.pointer _)=>bif Nat.beq i.size 1 then some .cV else none
  |_,_=>none
def jp:Nat:=12
def ty(P:Program)(t:TypeId):Option ag:=cD P jp t
theorem Mn{f:TypeId->Option ag}{off:Nat}{o:List Field}{u:ag}(h:fieldsOf f off o=some u):u.agg=true:=by
 cases o with
 |nil=>simp only[fieldsOf,Option.some.injEq]at h;subst h;rfl
 |cons U o=>
  unfold fieldsOf at h
  cases O:Nat.beq U.offset off with
  |false=>rw[O]at h;cases h
  |true=>
   rw[O,cond_true]at h
   split at h
   ·split at h
    ·cases h;rfl
    ·cases h
   ·cases h
theorem Sn{f:TypeId->Option ag}{off:Nat}{o:List Field}{u:ag}(h:fieldsOf f off o=some u):u=.unit\/∃a b,u=.pair a b:=by
 cases o with
 |nil=>simp only[fieldsOf,Option.some.injEq]at h;exact .inl h.symm
 |cons U o=>
  unfold fieldsOf at h
  cases O:Nat.beq U.offset off with
  |false=>rw[O]at h;cases h
  |true=>
   rw[O,cond_true]at h
   split at h
   ·split at h
    ·cases h;exact .inr ⟨_,_,rfl⟩
    ·cases h
   ·cases h
theorem dn{P:Program}{d:Nat}{t:TypeId}{u:ag}(h:cD P d t=some u):∃i,P.info? t=some i/\i.size=u.cells/\
  (match u with
   |.ptr _=>False
   |.fn _ _=>False
   |.err=>∃Z,P.underlying t=some (.interface Z)
   |.cV=>(∃a b c,P.underlying t=some (.func a b c))\/∃e,P.underlying t=some (.pointer e)
   |.int k=>P.underlying t=some (.int k)
   |.bool=>P.underlying t=some .bool
   |.str=>P.underlying t=some .string
   |.ab v=>∃e d',P.underlying t=some (.slice e)/\cD P d' e=some v
   |.arr n v=>∃e d',P.underlying t=some (.array n e)/\cD P d' e=some v
   |.map a b=>∃k e d',P.underlying t=some (.map k e)/\cD P d' k=some a/\cD P d' e=some b
   |_=>∃Y d',P.underlying t=some (.struct Y)/\fieldsOf (cD P d') 0 Y.toList=some u):=by
 cases d with
 |zero=>cases h
 |succ d=>
  unfold cD at h
  split at h
  ·rename_i i k O U
   cases o:Nat.beq i.size 1<;>rw[o]at h<;>cases h
   exact⟨i,O,Nat.eq_of_beq_eq_true o,U⟩
  ·rename_i i O U
   cases o:Nat.beq i.size 1<;>rw[o]at h<;>cases h
   exact⟨i,O,Nat.eq_of_beq_eq_true o,U⟩
  ·rename_i i O U
   cases o:Nat.beq i.size 1<;>rw[o]at h<;>cases h
   exact⟨i,O,Nat.eq_of_beq_eq_true o,U⟩
  ·rename_i i e O U
   cases o:Nat.beq i.size 1<;>rw[o]at h
   ·cases h
   ·rw[cond_true]at h
    split at h
    ·rename_i v W;cases h;exact⟨i,O,Nat.eq_of_beq_eq_true o,e,d,U,W⟩
    ·cases h
  ·rename_i i Y O U
   split at h
   ·rename_i v W
    cases o:Nat.beq i.size v.cells<;>rw[o]at h<;>cases h
    have la:=Sn W
    refine⟨i,O,Nat.eq_of_beq_eq_true o,?_⟩
    rcases la with rfl|⟨a,b,rfl⟩<;>exact⟨Y,d,U,W⟩
   ·cases h
  ·rename_i i Z O U
   cases o:Nat.beq i.size 1<;>rw[o]at h<;>cases h
   exact⟨i,O,Nat.eq_of_beq_eq_true o,Z,U⟩
  ·rename_i i n e O U
   split at h
   ·rename_i v W
    cases o:Nat.beq i.size (n*v.cells)<;>rw[o]at h<;>cases h
    exact⟨i,O,Nat.eq_of_beq_eq_true o,e,d,U,W⟩
   ·cases h
  ·rename_i i k e O U
   cases o:Nat.beq i.size 1<;>rw[o]at h
   ·cases h
   ·rw[cond_true]at h
    split at h
    ·rename_i a b la lc;cases h;exact⟨i,O,Nat.eq_of_beq_eq_true o,k,e,d,U,la,lc⟩
    ·cases h
  ·rename_i i a b c O U
   cases o:Nat.beq i.size 1<;>rw[o]at h<;>cases h
   exact⟨i,O,Nat.eq_of_beq_eq_true o,.inl ⟨a,b,c,U⟩⟩
  ·rename_i i e O U
   cases o:Nat.beq i.size 1<;>rw[o]at h<;>cases h
   exact⟨i,O,Nat.eq_of_beq_eq_true o,.inr ⟨e,U⟩⟩
  ·cases h
theorem mh{P:Program}{d:Nat}{t:TypeId}{u:ag}(h:cD P d t=some u)(w:World):(isAgg t).run P w=.ok u.agg w:=by
 obtain⟨i,_,_,O⟩:=dn h
 unfold isAgg
 cases u with
 |int k=>simp[run_underlying O,ag.agg]
 |bool=>simp[run_underlying O,ag.agg]
 |str=>simp[run_underlying O,ag.agg]
 |ab v=>obtain⟨e,d',o,_⟩:=O;simp[run_underlying o,ag.agg]
 |ptr v=>exact O.elim
 |fn f v=>exact O.elim
 |err=>obtain⟨W,o⟩:=O;simp[run_underlying o,ag.agg]
 |cV=>rcases O with ⟨_,_,_,o⟩|⟨_,o⟩<;>simp[run_underlying o,ag.agg]
 |arr n v=>obtain⟨e,d',o,_⟩:=O;simp[run_underlying o,ag.agg]
 |map a b=>obtain⟨k,e,d',o,_⟩:=O;simp[run_underlying o,ag.agg]
 |unit=>obtain⟨U,d',o,_⟩:=O;simp[run_underlying o,ag.agg]
 |pair a b=>obtain⟨U,d',o,_⟩:=O;simp[run_underlying o,ag.agg]
theorem ff{P:Program}{d:Nat}{t:TypeId}{u:ag}(h:cD P d t=some u)(w:World):(sizeOf t).run P w=.ok u.cells w:=by
 obtain⟨i,o,O,_⟩:=dn h
 simp[sizeOf,typeInfo,o,O]
theorem mC{w:World}{M:Nat->Prop}{t:ag}:∀{xs:List t.el} {cs:List Value} {i:Nat} {x:t.el},bD (aF w M t) cs xs->xs[i]? =some x->
  ∃c1 c2 c3,cs=c1++c2++c3/\c1.length=i*t.cells/\aF w M t c2 x
 |[],_,_,_,_,h=>by simp at h
 |y::O,cs,0,x,⟨c1,c2,e,h1,o⟩,h=>by
  simp at h
  subst h
  exact⟨[],c1,c2,by simpa using e,by simp,h1⟩
 |y::O,cs,i+1,x,⟨c1,c2,e,h1,o⟩,h=>by
  obtain⟨d1,d2,d3,af,U,W⟩:=mC o (by simpa using h)
  refine⟨c1++d1,d2,d3,by rw[e,af];simp,?_,W⟩
  rw[List.length_append,ch t h1,U,Nat.succ_mul,Nat.add_comm]
theorem uj{w:World}{M:Nat->Prop}{t:ag}:∀{xs:List t.el} {cs:List Value} {i:Nat} {x:t.el},bD (aF w M t) cs xs->xs[i]? =some x->
  ∃c1 c2 c3,cs=c1++c2++c3/\c1.length=i*t.cells/\aF w M t c2 x/\∀o x',aF w M t o x'->bD (aF w M t) (c1++o++c3) (xs.set i x')
 |[],_,_,_,_,h=>by simp at h
 |y::U,cs,0,x,⟨c1,c2,e,h1,O⟩,h=>by
  simp at h
  subst h
  exact⟨[],c1,c2,by simpa using e,by simp,h1,fun o x' h'=>⟨o,c2,by simp,h',O⟩⟩
 |y::U,cs,i+1,x,⟨c1,c2,e,h1,O⟩,h=>by
  obtain⟨d1,d2,d3,af,W,Y,Z⟩:=uj O (by simpa using h)
  refine⟨c1++d1,d2,d3,by rw[e,af];simp,?_,Y,fun o x' h'=>⟨c1,d1++o++d3,by simp,h1,Z o x' h'⟩⟩
  rw[List.length_append,ch t h1,W,Nat.succ_mul,Nat.add_comm]
theorem cG{a b:Nat}(h:Nat.blt a b=true):a<b:=by
 have:a+1<=b:=by simpa[Nat.blt]using h
 omega
theorem LB{a b:Nat}(h:Nat.blt a b=false):b<=a:=by
 rcases Nat.lt_or_ge a b with h1|h1
 ·have:Nat.blt a b=true:=by
   have:a+1<=b:=h1
   simpa[Nat.blt]using this
  rw[this]at h;cases h
 ·exact h1
theorem ja{t:ag}{x:t.el}{off:Nat}{u:ag}{y:u.el}(h:(bif Nat.beq off 0 then aj.as ⟨t,x⟩ u else none)=some y):off=0/\(⟨t,x⟩:aj)=⟨u,y⟩:=by
 cases o:Nat.beq off 0 with
 |false=>rw[o]at h;cases h
 |true=>rw[o]at h;exact⟨Nat.eq_of_beq_eq_true o,aj.dC h⟩
theorem pf{w:World}{M:Nat->Prop}:∀(t:ag) {cs:List Value} {x:t.el} {off:Nat} {u:ag} {y:u.el},aF w M t cs x->cE t x off u=some y->
  ∃c1 c2 c3,cs=c1++c2++c3/\c1.length=off/\aF w M u c2 y:=by
 intro t
 induction t with
 |int k=>intro cs x off u y o h;obtain⟨rfl,e⟩:=ja (t:=.int k) h;cases e;exact⟨[],cs,[],by simp,rfl,o⟩
 |bool=>intro cs x off u y o h;obtain⟨rfl,e⟩:=ja (t:=.bool) h;cases e;exact⟨[],cs,[],by simp,rfl,o⟩
 |str=>intro cs x off u y o h;obtain⟨rfl,e⟩:=ja (t:=.str) h;cases e;exact⟨[],cs,[],by simp,rfl,o⟩
 |ab t U=>intro cs x off u y o h;obtain⟨rfl,e⟩:=ja (t:=.ab t) h;cases e;exact⟨[],cs,[],by simp,rfl,o⟩
 |ptr t U=>intro cs x off u y o h;obtain⟨rfl,e⟩:=ja (t:=.ptr t) h;cases e;exact⟨[],cs,[],by simp,rfl,o⟩
 |fn f t U=>intro cs x off u y o h;obtain⟨rfl,e⟩:=ja (t:=.fn f t) h;cases e;exact⟨[],cs,[],by simp,rfl,o⟩
 |err=>intro cs x off u y o h;obtain⟨rfl,e⟩:=ja (t:=.err) h;cases e;exact⟨[],cs,[],by simp,rfl,o⟩
 |cV=>intro cs x off u y o h;obtain⟨rfl,e⟩:=ja (t:=.cV) h;cases e;exact⟨[],cs,[],by simp,rfl,o⟩
 |arr n t U=>
  intro cs x off u y o h
  unfold cE at h
  split at h
  ·rename_i lc W Y
   cases h
   have e:=aj.dC Y
   cases e
   exact⟨[],cs,[],by simp,(Nat.eq_of_beq_eq_true W).symm,o⟩
  ·cases la:Nat.beq t.cells 0 with
   |true=>rw[la]at h;cases h
   |false=>
    rw[la,cond_false]at h
    split at h
    ·rename_i z ld
     obtain⟨c1,c2,c3,rfl,O,Z⟩:=mC o.2 ld
     obtain⟨d1,d2,d3,rfl,af,lf⟩:=U Z h
     refine⟨c1++d1,d2,d3++c3,by simp,?_,lf⟩
     rw[List.length_append,O,af,Nat.mul_comm]
     exact Nat.div_add_mod off t.cells
    ·cases h
 |map a b _ _=>intro cs x off u y o h;obtain⟨rfl,e⟩:=ja (t:=.map a b) h;cases e;exact⟨[],cs,[],by simp,rfl,o⟩
 |unit=>intro cs x off u y o h;obtain⟨rfl,e⟩:=ja (t:=.unit) h;cases e;exact⟨[],cs,[],by simp,rfl,o⟩
 |pair a b lg lh=>
  intro cs x off u y o h
  unfold cE at h
  split at h
  ·rename_i lc W Y
   cases h
   have e:=aj.dC Y
   cases e
   exact⟨[],cs,[],by simp,(Nat.eq_of_beq_eq_true W).symm,o⟩
  ·obtain⟨c1,c2,rfl,h1,Z⟩:=o
   cases O:Nat.blt off a.cells with
   |true=>
    rw[O,cond_true]at h
    obtain⟨d1,d2,d3,rfl,af,o⟩:=lg h1 h
    exact⟨d1,d2,d3++c2,by simp,af,o⟩
   |false=>
    rw[O,cond_false]at h
    obtain⟨d1,d2,d3,rfl,af,o⟩:=lh Z h
    refine⟨c1++d1,d2,d3,by simp,?_,o⟩
    rw[List.length_append,ch a h1,af]
    have:=LB O
    omega
theorem fQ{t:ag}{off:Nat}{v:aj}{y:t.el}(h:(bif Nat.beq off 0 then v.as t else none)=some y):off=0/\v=⟨t,y⟩:=by
 cases o:Nat.beq off 0 with
 |false=>rw[o]at h;cases h
 |true=>rw[o]at h;exact⟨Nat.eq_of_beq_eq_true o,aj.dC h⟩
theorem qG{w:World}{M:Nat->Prop}{v:aj}{O:List Value}(lf:aF w M v.t O v.x):∀(t:ag) {cs:List Value} {x:t.el} {off:Nat} {y:t.el},aF w M t cs x->cn t x off v=some y->
  ∃c1 c2 c3,cs=c1++c2++c3/\c1.length=off/\c2.length=O.length/\aF w M t (c1++O++c3) y:=by
 intro t
 have base:∀(t:ag) (cs:List Value) (x:t.el) (off:Nat) (y:t.el),aF w M t cs x->(off=0/\v=⟨t,y⟩)->∃c1 c2 c3,cs=c1++c2++c3/\c1.length=off/\c2.length=O.length/\aF w M t (c1++O++c3) y:=by
  rintro t cs x off y o ⟨rfl,e⟩
  subst e
  exact⟨[],cs,[],by simp,rfl,by rw[ch t o,ch t lf],by simpa using lf⟩
 induction t with
 |int k=>intro cs x off y o h;exact base (.int k) cs x off y o (fQ (t:=.int k) h)
 |bool=>intro cs x off y o h;exact base .bool cs x off y o (fQ (t:=.bool) h)
 |str=>intro cs x off y o h;exact base .str cs x off y o (fQ (t:=.str) h)
 |ab t Z=>intro cs x off y o h;exact base (.ab t) cs x off y o (fQ (t:=.ab t) h)
 |ptr t Z=>intro cs x off y o h;exact base (.ptr t) cs x off y o (fQ (t:=.ptr t) h)
 |fn f t Z=>intro cs x off y o h;exact base (.fn f t) cs x off y o (fQ (t:=.fn f t) h)
 |err=>intro cs x off y o h;exact base .err cs x off y o (fQ (t:=.err) h)
 |cV=>intro cs x off y o h;exact base .cV cs x off y o (fQ (t:=.cV) h)
 |arr n t Z=>
  intro cs x off y o h
  unfold cn at h
  split at h
  ·rename_i lc ld U
   cases h
   exact base _ cs x off _ o ⟨Nat.eq_of_beq_eq_true ld,aj.dC U⟩
  ·cases lg:Nat.beq t.cells 0 with
   |true=>rw[lg]at h;cases h
   |false=>
    rw[lg,cond_false]at h
    split at h
    ·rename_i z lh
     split at h
     ·rename_i ln li
      cases h
      obtain⟨c1,c2,c3,rfl,W,la,lj⟩:=uj o.2 lh
      obtain⟨d1,d2,d3,rfl,af,Y,lk⟩:=Z la li
      refine⟨c1++d1,d2,d3++c3,by simp,?_,Y,?_,?_⟩
      ·rw[List.length_append,W,af,Nat.mul_comm]
       exact Nat.div_add_mod off t.cells
      ·rw[List.length_set];exact o.1
      ·have:=lj _ _ lk
       simpa using this
     ·cases h
    ·cases h
 |map a b _ _=>intro cs x off y o h;exact base (.map a b) cs x off y o (fQ (t:=.map a b) h)
 |unit=>intro cs x off y o h;exact base .unit cs x off y o (fQ (t:=.unit) h)
 |pair a b ll lm=>
  intro cs x off y o h
  unfold cn at h
  split at h
  ·rename_i lc ld U
   cases h
   exact base _ cs x off _ o ⟨Nat.eq_of_beq_eq_true ld,aj.dC U⟩
  ·obtain⟨c1,c2,rfl,h1,la⟩:=o
   cases W:Nat.blt off a.cells with
   |true=>
    rw[W,cond_true]at h
    split at h
    ·rename_i lc U
     cases h
     obtain⟨d1,d2,d3,rfl,af,Y,o⟩:=ll h1 U
     exact⟨d1,d2,d3++c2,by simp,af,Y,d1++O++d3,c2,by simp,o,la⟩
    ·cases h
   |false=>
    rw[W,cond_false]at h
    split at h
    ·rename_i lc U
     cases h
     obtain⟨d1,d2,d3,rfl,af,Y,o⟩:=lm la U
     refine⟨c1++d1,d2,d3,by simp,?_,Y,c1,d1++O++d3,by simp,h1,o⟩
     rw[List.length_append,ch a h1,af]
     have:=LB W
     omega
    ·cases h
def cj:(t:ag)->t.el
 |.int _=>(0:Int)
 |.bool=>false
 |.str=>[]
 |.ab _=>[]
 |.unit=>()
 |.pair a b=>(cj a,cj b)
 |.ptr t=>cj t
 |.fn _ t=>cj t
 |.err=>none
 |.cV=>()
 |.arr n t=>List.replicate n (cj t)
 |.map _ _=>none
def xV(f:List Value->Option (List Value)):Nat->List Value->Option (List Value)
 |0,r=>some r
 |n+1,r=>match f r with
  |some o=>xV f n o
  |none=>none
def gP:ag->List Value->Option (List Value)
 |.int k,.int k' n::r=>bif gU k k'&&n==0 then some r else none
 |.bool,.bool b::r=>bif b then none else some r
 |.str,.string s::r=>bif s.data.isEmpty then some r else none
 |.ab _,.slice none n c::r=>bif Nat.beq n 0&&Nat.beq c 0 then some r else none
 |.unit,r=>some r
 |.err,.nilIface::r=>some r
 |.cV,v::r=>bif v.oneCell' then some r else none
 |.map _ _,.map none::r=>some r
 |.arr n t,r=>xV (gP t) n r
 |.pair a b,r=>match gP a r with
  |some o=>gP b o
  |none=>none
 |_,_=>none
theorem IT{α:Type}{f:List Value->α->Prop}{z:List Value->Option (List Value)}{y:α}(h:∀{cs r:List Value},z cs=some r->∃c,cs=c++r/\f c y):∀(n:Nat) {cs r:List Value},xV z n cs=some r->∃c,cs=c++r/\bD f c (List.replicate n y)
 |0,cs,r,o=>by cases o;exact⟨[],rfl,rfl⟩
 |n+1,cs,r,o=>by
  unfold xV at o
  split at o
  ·rename_i W O
   obtain⟨c1,rfl,h1⟩:=h O
   obtain⟨c2,rfl,U⟩:=IT h n o
   exact⟨c1++c2,by simp,c1,c2,rfl,h1,U⟩
  ·cases o
theorem LF{w:World}{M:Nat->Prop}:∀(t:ag) {cs r:List Value},gP t cs=some r->∃c,cs=c++r/\aF w M t c (cj t):=by
 intro t
 induction t with
 |int k=>
  intro cs r h
  unfold gP at h
  split at h<;>try contradiction
  ·rename_i hk k' n U o;cases o
   cases O:(gU k k'&&n==0)<;>rw[O]at h<;>cases h
   simp only[Bool.and_eq_true,beq_iff_eq]at O
   rw[<-nK O.1,O.2]
   exact⟨[_],rfl,rfl⟩
  all_goals (rename_i o;cases o)
 |bool=>
  intro cs r h
  unfold gP at h
  split at h<;>try contradiction
  ·rename_i b U _
   cases b<;>cases h
   exact⟨[_],rfl,rfl⟩
  all_goals (rename_i o;cases o)
 |str=>
  intro cs r h
  unfold gP at h
  split at h<;>try contradiction
  ·rename_i s U _
   cases O:s.data.isEmpty<;>rw[O]at h<;>cases h
   have:s=⟨#[]⟩:=by cases s;simp at O;rw[O]
   rw[this]
   exact⟨[_],rfl,rfl,by decide⟩
  all_goals (rename_i o;cases o)
 |ab t W=>
  intro cs r h
  unfold gP at h
  split at h<;>try contradiction
  ·rename_i n c U o;cases o
   cases O:(Nat.beq n 0&&Nat.beq c 0)<;>rw[O]at h<;>cases h
   simp only[Bool.and_eq_true]at O
   rw[Nat.eq_of_beq_eq_true O.1,Nat.eq_of_beq_eq_true O.2]
   exact⟨[_],rfl,none,0,[],rfl,Nat.le_refl _,by decide,fun _=>rfl,rfl,fun j u Z=>by simp at Z⟩
  all_goals (rename_i o;cases o)
 |unit=>intro cs r h;cases h;exact⟨[],rfl,rfl⟩
 |ptr t W=>intro cs r h;simp[gP]at h
 |fn f t W=>intro cs r h;simp[gP]at h
 |err=>
  intro cs r h
  unfold gP at h
  split at h<;>try contradiction
  ·cases h;exact⟨[_],rfl,.inl ⟨rfl,rfl⟩⟩
  all_goals (rename_i o;cases o)
 |cV=>
  intro cs r h
  unfold gP at h
  split at h<;>try contradiction
  ·rename_i v U _
   cases O:v.oneCell'<;>rw[O]at h<;>cases h
   exact⟨[_],rfl,_,rfl,O⟩
  all_goals (rename_i o;cases o)
 |map a b _ _=>
  intro cs r h
  unfold gP at h
  split at h<;>try contradiction
  ·cases h;exact⟨[_],rfl,rfl⟩
  all_goals (rename_i o;cases o)
 |arr n t W=>
  intro cs r h
  simp only[gP]at h
  obtain⟨c,h1,Y⟩:=IT (f:=aF w M t) (y:=cj t) (fun la=>W la) n h
  exact⟨c,h1,List.length_replicate,Y⟩
 |pair a b lc ld=>
  intro cs r h
  simp only[gP]at h
  split at h
  ·rename_i U lf
   obtain⟨c1,rfl,h1⟩:=lc lf
   obtain⟨c2,rfl,Y⟩:=ld h
   exact⟨c1++c2,by simp,c1,c2,rfl,h1,Y⟩
  ·cases h
end Go.Ev
namespace Go.Ev
open Go Go.RowKit
variable [b6]
variable {P:Program} {w:World} {M:Nat->Prop} {v:Value}
theorem cZ{k:IntKind}{n:Int}:a8 w M v (.int k) n↔v=.int k n:=by simp[a8,ag.agg,aF]
theorem dH{b:Bool}:a8 w M v .bool b↔v=.bool b:=by simp[a8,ag.agg,aF]
theorem eS{s:List UInt8}:a8 w M v .str s↔v=.string ⟨s.toArray⟩/\s.length<=maxLen:=by simp[a8,ag.agg,aF]
theorem bZ{t:ag}{x:t.el}(h:t.agg=false):a8 w M v t x↔aF w M t [v] x:=by simp[a8,h]
theorem eA{t:ag}{x:t.el}(h:t.agg=true):a8 w M v t x↔∃o:List Value,v=.agg o.toArray/\aF w M t o x:=by simp[a8,h]
def lim:Nat:=2147483648
theorem tF:lim<=maxLen:=by decide
theorem jm(s:List UInt8):(bytesOf s).size=s.length:=by simp[bytesOf,ByteArray.size]
theorem BT(s:List UInt8):(bytesOf s).toList=s:=by rw[Lib.toList_data];rfl
theorem Rh(a b:List UInt8):bytesOf a++bytesOf b=bytesOf (a++b):=by
 apply ByteArray.ext
 simp[bytesOf]
def bJ:List Prop->Prop
 |[]=>True
 |p::r=>p/\bJ r
def EU(o:BinOp)(k:IntKind)(a b:Int):Option (aj×List Prop):=
 match o with
 |.add=>some (⟨.int k,k.wrap (a+b)⟩,[])
 |.sub=>some (⟨.int k,k.wrap (a-b)⟩,[])
 |.mul=>some (⟨.int k,k.wrap (a*b)⟩,[])
 |.quo=>some (⟨.int k,k.wrap (a.tdiv b)⟩,[b≠0])
 |.rem=>some (⟨.int k,a.tmod b⟩,[b≠0])
 |.and=>some (⟨.int k,k.wrap (BitVec.ofInt k.bits a&&&BitVec.ofInt k.bits b).toNat⟩,[])
 |.or=>some (⟨.int k,k.wrap (BitVec.ofInt k.bits a|||BitVec.ofInt k.bits b).toNat⟩,[])
 |.xor=>some (⟨.int k,k.wrap (BitVec.ofInt k.bits a^^^BitVec.ofInt k.bits b).toNat⟩,[])
 |.andNot=>some (⟨.int k,k.wrap (BitVec.ofInt k.bits a&&&~~~BitVec.ofInt k.bits b).toNat⟩,[])
 |.eql=>some (⟨.bool,a==b⟩,[])
 |.neq=>some (⟨.bool,a !=b⟩,[])
 |.lss=>some (⟨.bool,decide (a<b)⟩,[])
 |.leq=>some (⟨.bool,decide (a<=b)⟩,[])
 |.gtr=>some (⟨.bool,decide (b<a)⟩,[])
 |.geq=>some (⟨.bool,decide (b<=a)⟩,[])
 |_=>none
def Fg(o:BinOp)(k:IntKind)(a b:Int):Option (aj×List Prop):=
 match o with
 |.shl=>some (⟨.int k,k.wrap (a*2^min b.toNat k.bits)⟩,[0<=b])
 |.shr=>some (⟨.int k,a.fdiv (2^min b.toNat k.bits)⟩,[0<=b])
 |_=>none
def Bj(o:BinOp)(a b:Bool):Option (aj×List Prop):=
 match o with
 |.eql=>some (⟨.bool,a==b⟩,[])
 |.neq=>some (⟨.bool,!(a==b)⟩,[])
 |_=>none
def AB(o:BinOp)(a b:List UInt8):Option (aj×List Prop):=
 match o with
 |.add=>some (⟨.str,a++b⟩,[a.length+b.length<=lim])
 |.eql=>some (⟨.bool,a==b⟩,[])
 |.neq=>some (⟨.bool,!(a==b)⟩,[])
 |.lss=>some (⟨.bool,Op.bytesLess a b⟩,[])
 |.leq=>some (⟨.bool,Op.bytesLess a b||a==b⟩,[])
 |.gtr=>some (⟨.bool,!(Op.bytesLess a b||a==b)⟩,[])
 |.geq=>some (⟨.bool,!(Op.bytesLess a b)⟩,[])
 |_=>none
def kq(a b:Int):Bool:=a==b
def HC(a b:Bool):Bool:=a==b
def eqStr(a b:List UInt8):Bool:=a==b
def kK{α:Type}(f:α->α->Bool):List α->List α->Bool
 |[],[]=>true
 |x::xs,y::o=>f x y&&kK f xs o
 |_,_=>false
def aD:(t:ag)->t.el->t.el->Bool
 |.int _,a,b=>kq a b
 |.bool,a,b=>HC a b
 |.str,a,b=>eqStr a b
 |.unit,_,_=>true
 |.pair s t,a,b=>aD s a.1 b.1&&aD t a.2 b.2
 |.arr _ t,a,b=>kK (aD t) a b
 |_,_,_=>false
def eD(P:Program):Nat->TypeId->Bool
 |0,_=>false
 |d+1,t=>match P.underlying t with
  |some (.int _)=>true
  |some .bool=>true
  |some .string=>true
  |some (.struct o)=>!P.stoodInHeld t&&o.toList.all fun f=>f.name != "_" &&eD P d f.type
  |some (.array _ e)=>eD P d e
  |_=>false
theorem uV{d:Nat}{t:TypeId}{u:ag}(O:cD P d t=some u){pre c post:List Value}{x:u.el}(U:aF w M u c x)(Y:World):
  ∃v,(part t (pre++c++post).toArray pre.length).run P Y=.ok v Y/\a8 w M v u x:=by
 have W:=ch u U
 cases o:u.agg with
 |true=>
  refine⟨.agg c.toArray,?_,by rw[a8,if_pos o];exact⟨c,rfl,U⟩⟩
  unfold part
  rw[Sem.run_bind,mh O,o]
  simp only[Result.andThen_ok,if_true,Sem.run_bind,ff O,Sem.run_pure]
  have e:(pre++c++post).toArray.extract pre.length (pre.length+u.cells)=c.toArray:=by
   rw[<-W]
   apply Array.ext'
   simp[List.extract_eq_take_drop]
  rw[e]
 |false=>
  have h1:u.cells=1:=by cases u<;>first|rfl|(simp[ag.agg]at o)
  rw[h1]at W
  match c,W with
  |[v],_=>
   refine⟨v,?_,by rw[a8,if_neg (by rw[o];decide)];exact U⟩
   unfold part
   rw[Sem.run_bind,mh O,o]
   simp only[Result.andThen_ok,Bool.false_eq_true,if_false]
   have e:(pre++[v]++post).toArray[pre.length]? =some v:=by simp
   rw[e]
   rfl
theorem Kp{d W:Nat}(lf:∀(t:TypeId) (u:ag),cD P d t=some u->∀d',eD P d' t=true->d'<=W->∀(w w' o:World) (M M':Nat->Prop) (v v':Value) (x y:u.el),a8 w M v u x->a8 w' M' v' u y->(Op.equalIn W t v v').run P o=.ok (aD u x y) o):
  ∀(U:List Field) (off:Nat) (u:ag),fieldsOf (cD P d) off U=some u->∀d',d'<=W->(U.all fun f=>f.name != "_" &&eD P d' f.type)=true->∀(w w' o:World) (M M':Nat->Prop) (pre O c c':List Value) (x y:u.el),pre.length=off->O.length=off->aF w M u c x->aF w' M' u c' y->
   (Op.eqFields W (pre++c).toArray (O++c').toArray U).run P o=.ok (aD u x y) o
 |[],off,u,h,_,_,_,w,w',o,M,M',pre,O,c,c',x,y,_,_,_,_=>by
  simp only[fieldsOf,Option.some.injEq]at h
  subst h
  simp[Op.eqFields,aD]
 |f::U,off,u,h,d',af,Y,w,w',o,M,M',pre,O,c,c',x,y,h1,lg,ll,lm=>by
  unfold fieldsOf at h
  cases Z:Nat.beq f.offset off with
  |false=>rw[Z]at h;cases h
  |true=>
   have ln:=Nat.eq_of_beq_eq_true Z
   rw[Z,cond_true]at h
   split at h
   ·rename_i a la
    split at h
    ·rename_i b lo
     cases h
     rw[List.all_cons,Bool.and_eq_true,Bool.and_eq_true]at Y
     obtain⟨c1,c2,rfl,lh,cY⟩:=ll
     obtain⟨lp,li,rfl,lj,oS⟩:=lm
     obtain⟨v,lc,lq⟩:=uV (P:=P) la (pre:=pre) (post:=c2) lh o
     obtain⟨v',ld,lr⟩:=uV (P:=P) la (pre:=O) (post:=li) lj o
     have lt:f.name≠ "_" :=by simpa using Y.1.1
     rw[List.append_assoc]at lc ld
     rw[h1]at lc
     rw[lg]at ld
     simp only[Op.eqFields,if_pos lt,ln,Sem.run_bind,lc,ld,Result.andThen_ok,lf f.type a la d' Y.1.2 af w w' o M M' v v' x.1 y.1 lq lr]
     cases lk:aD a x.1 y.1 with
     |false=>
      simp only[Bool.not_false,if_true,Sem.run_pure]
      simp[aD,lk]
     |true=>
      simp only[Bool.not_true,Bool.false_eq_true,if_false]
      have:=Kp lf U (off+a.cells) b lo d' af Y.2 w w' o M M' (pre++c1) (O++lp) c2 li x.2 y.2 (by rw[List.length_append,h1,ch a lh]) (by rw[List.length_append,lg,ch a lj]) cY oS
      rw[List.append_assoc,List.append_assoc]at this
      rw[this]
      simp[aD,lk]
    ·cases h
   ·cases h
theorem xz{P:Program}{d:Nat}{t:TypeId}{u:ag}(h:cD P d t=some u):P.cellsOf t=u.cells:=by
 obtain⟨i,o,O,_⟩:=dn h
 simp[Program.cellsOf,o,O]
theorem Mk{d lc:Nat}{e:TypeId}{u:ag}(Y:cD P d e=some u)(ld:∀(w w' o:World) (M M':Nat->Prop) (v v':Value) (x y:u.el),a8 w M v u x->a8 w' M' v' u y->(Op.equalIn lc e v v').run P o=.ok (aD u x y) o):
  ∀(xs U:List u.el) (n:Nat) (w w' o:World) (M M':Nat->Prop) (pre O c c':List Value),pre.length=n*u.cells->O.length=n*u.cells->xs.length=U.length->bD (aF w M u) c xs->bD (aF w' M' u) c' U->
   (Op.eqItems lc e u.cells (pre++c).toArray (O++c').toArray (List.range' n xs.length)).run P o=.ok (kK (aD u) xs U) o
 |[],[],n,w,w',o,M,M',pre,O,c,c',_,_,_,_,_=>by simp[Op.eqItems,kK]
 |[],_::_,_,_,_,_,_,_,_,_,_,_,_,_,W,_,_=>by simp at W
 |_::_,[],_,_,_,_,_,_,_,_,_,_,_,_,W,_,_=>by simp at W
 |x::xs,y::U,n,w,w',o,M,M',pre,O,c,c',h1,lf,W,lk,ll=>by
  obtain⟨c1,c2,rfl,lg,cY⟩:=lk
  obtain⟨lm,lh,rfl,li,oS⟩:=ll
  obtain⟨v,Z,ln⟩:=uV (P:=P) Y (pre:=pre) (post:=c2) lg o
  obtain⟨v',la,lo⟩:=uV (P:=P) Y (pre:=O) (post:=lh) li o
  rw[List.append_assoc]at Z la
  rw[h1]at Z
  rw[lf]at la
  rw[List.length_cons,List.range'_succ]
  simp only[Op.eqItems,Sem.run_bind,Z,la,Result.andThen_ok,ld w w' o M M' v v' x y ln lo]
  cases lj:aD u x y with
  |false=>simp[kK,lj]
  |true=>
   simp only[Bool.not_true,Bool.false_eq_true,if_false]
   have:=Mk Y ld xs U (n+1) w w' o M M' (pre++c1) (O++lm) c2 lh (by rw[List.length_append,h1,ch u lg,Nat.succ_mul]) (by rw[List.length_append,lf,ch u li,Nat.succ_mul]) (by simpa using W) cY oS
   rw[List.append_assoc,List.append_assoc]at this
   rw[this]
   simp[kK,lj]
theorem sE:∀(d:Nat) (t:TypeId) (u:ag),cD P d t=some u->∀d',eD P d' t=true->∀U,d'<=U->∀(w w' W:World) (M M':Nat->Prop) (v v':Value) (x y:u.el),a8 w M v u x->a8 w' M' v' u y->(Op.equalIn U t v v').run P W=.ok (aD u x y) W
 |0,_,_,h=>by cases h
 |d+1,t,u,h=>by
  intro d' O U lv w w' W M M' v v' x y lc ld
  cases d' with
  |zero=>cases O
  |succ d'=>
   obtain⟨U,rfl⟩:∃k,U=k+1:=⟨U-1,by omega⟩
   unfold eD at O
   unfold cD at h
   split at h
   ·rename_i i k Y o
    cases Z:Nat.beq i.size 1<;>rw[Z]at h<;>cases h
    obtain rfl:=cZ.1 lc
    obtain rfl:=cZ.1 ld
    exact run_equalIn_int W U t k k x y o
   ·rename_i i Y o
    cases Z:Nat.beq i.size 1<;>rw[Z]at h<;>cases h
    obtain rfl:=dH.1 lc
    obtain rfl:=dH.1 ld
    exact run_equalIn_bool' W U t x y o
   ·rename_i i Y o
    cases Z:Nat.beq i.size 1<;>rw[Z]at h<;>cases h
    obtain⟨rfl,_⟩:=eS.1 lc
    obtain⟨rfl,_⟩:=eS.1 ld
    rw[run_equalIn_string W U t _ _ o]
    have lf:=BT x
    have lg:=BT y
    unfold bytesOf at lf lg
    rw[lf,lg]
    rfl
   ·rename_i i e Y o
    rw[o]at O
    cases O
   ·rename_i i lh Y o
    rw[o]at O
    simp only[Bool.and_eq_true,Bool.not_eq_true']at O
    split at h
    ·rename_i v0 la
     cases Z:Nat.beq i.size v0.cells<;>rw[Z]at h<;>cases h
     have li:=Mn la
     obtain⟨c,rfl,lm⟩:=(eA li).1 lc
     obtain⟨c',rfl,ln⟩:=(eA li).1 ld
     have lj:P.fieldsOf t=lh:=by unfold Program.fieldsOf;rw[o]
     rw[run_equalIn_struct W U t c.toArray c'.toArray (by rw[lj];exact o) O.1,lj]
     exact Kp (fun t u lo lp hk af=>sE d t u lo lp hk U af) lh.toList 0 u la d' (by omega) O.2 w w' W M M' [] [] c c' x y rfl rfl lm ln
    ·cases h
   ·rename_i i lw Y o
    rw[o]at O
    cases O
   ·rename_i i n e Y o
    rw[o]at O
    split at h
    ·rename_i v0 la
     cases Z:Nat.beq i.size (n*v0.cells)<;>rw[Z]at h<;>cases h
     obtain⟨c,rfl,lk,lq⟩:=(eA (t:=.arr n v0) rfl).1 lc
     obtain⟨c',rfl,lr,lt⟩:=(eA (t:=.arr n v0) rfl).1 ld
     obtain⟨lx,lu,ly,_⟩:=dn la
     have ll:=Mk la (fun w w' W M M' v v' x y=>sE d e v0 la d' O U (by omega) w w' W M M' v v' x y) x y 0 w w' W M M' [] [] c c' (by simp) (by simp) (lk.trans lr.symm) lq lt
     rw[run_equalIn_array W U c.toArray c'.toArray o lu,xz la,List.range_eq_range']
     rw[lk]at ll
     exact ll
    ·cases h
   ·rename_i i k e Y o
    rw[o]at O
    cases O
   ·rename_i i a b c Y o
    rw[o]at O
    cases O
   ·rename_i i e Y o
    rw[o]at O
    cases O
   ·cases h
def wJ:BinOp->Bool
 |.shl=>true
 |.shr=>true
 |_=>false
def bin(P:Program)(O:BinOp)(t:TypeId)(x y:aj):Option (aj×List Prop):=
 match x,y with
 |⟨.int k,a⟩,⟨.int k',b⟩=>bif wJ O then Fg O k a b else bif gU k k' then EU O k a b else none
 |⟨.bool,a⟩,⟨.bool,b⟩=>match P.underlying t with
  |some .bool=>Bj O a b
  |_=>none
 |⟨.str,a⟩,⟨.str,b⟩=>AB O a b
 |⟨.pair o U,a⟩,y=>match y.as (.pair o U),ty P t with
  |some b,some u=>match u.beq (.pair o U)&&eD P 16 t&&!(P.eqGuardType P.depth t),O with
   |true,.eql=>some (⟨.bool,aD (.pair o U) a b⟩,[])
   |true,.neq=>some (⟨.bool,!(aD (.pair o U) a b)⟩,[])
   |_,_=>none
  |_,_=>none
 |⟨.arr W o,a⟩,y=>match y.as (.arr W o),ty P t with
  |some b,some u=>match u.beq (.arr W o)&&eD P 16 t&&!(P.eqGuardType P.depth t),O with
   |true,.eql=>some (⟨.bool,aD (.arr W o) a b⟩,[])
   |true,.neq=>some (⟨.bool,!(aD (.arr W o) a b)⟩,[])
   |_,_=>none
  |_,_=>none
 |_,_=>none
def gK(P:Program)(s:Sem Value)(v:Value):Prop:=∀w,s.run P w=.ok v w
theorem wZ{op:BinOp}{t:TypeId}{x y:Operand}{k k':IntKind}{a b:Int}(w:World):(eqGuard op t x y (.int k a) (.int k' b)).run P w=.ok () w:=by cases op<;>rfl
theorem ws{op:BinOp}{t:TypeId}{x y:Operand}{a b:Bool}(w:World):(eqGuard op t x y (.bool a) (.bool b)).run P w=.ok () w:=by cases op<;>rfl
theorem ze{op:BinOp}{t:TypeId}{x y:Operand}{a b:ByteArray}(w:World):(eqGuard op t x y (.string a) (.string b)).run P w=.ok () w:=by cases op<;>rfl
theorem y2{op:BinOp}{t:TypeId}{k:IntKind}{a b:Int}(o:wJ op=false):binOp op t (.int k a) (.int k b)=
  (match op with|.add|.sub|.mul=>Op.intArith op k a b|.quo|.rem=>Op.intDiv op k a b|.and|.or|.xor|.andNot=>Op.intBits op k a b|_=>Op.intCmp op a b):=by
 cases op<;>simp[binOp,wJ]at o⊢
theorem Qg{op:BinOp}{k:IntKind}{a b:Int}{t:TypeId}{r:aj}{ob:List Prop}(h:EU op k a b=some (r,ob))(o:bJ ob):
  ∃v,gK P (binOp op t (.int k a) (.int k b)) v/\∀w M,a8 w M v r.t r.x:=by
 cases op<;>simp only[EU]at h<;>cases h
 case quo=>
  refine⟨_,fun w=>?_,fun _ _=>cZ.2 rfl⟩
  rw[y2 rfl]
  show(if b=0 then _ else _:Sem Value).run P w=_
  rw[if_neg o.1]
  rfl
 case rem=>
  refine⟨_,fun w=>?_,fun _ _=>cZ.2 rfl⟩
  rw[y2 rfl]
  show(if b=0 then _ else _:Sem Value).run P w=_
  rw[if_neg o.1]
  rfl
 all_goals first
  |exact⟨_,fun w=>by rw[y2 rfl];rfl,fun _ _=>cZ.2 rfl⟩
  |exact⟨_,fun w=>by rw[y2 rfl];rfl,fun _ _=>dH.2 rfl⟩
theorem RW{op:BinOp}{k k':IntKind}{a b:Int}{t:TypeId}{r:aj}{ob:List Prop}(h:Fg op k a b=some (r,ob))(o:bJ ob):
  ∃v,gK P (binOp op t (.int k a) (.int k' b)) v/\∀w M,a8 w M v r.t r.x:=by
 cases op<;>simp only[Fg]at h<;>cases h
 all_goals
  have U:0<=b:=o.1
  have O:¬b<0:=by omega
  exact⟨_,fun w=>by simp[binOp,Op.shift,O],fun _ _=>cZ.2 rfl⟩
theorem SZ{t:TypeId}(o:P.underlying t=some .bool){a b:Bool}(d:Nat)(w:World):(Op.equalIn (d+1) t (.bool a) (.bool b)).run P w=.ok (a==b) w:=by
 simp[Op.equalIn,run_underlying o]
theorem PH{op:BinOp}{a b:Bool}{t:TypeId}(o:P.underlying t=some .bool){r:aj}{ob:List Prop}(h:Bj op a b=some (r,ob)):
  ∃v,gK P (binOp op t (.bool a) (.bool b)) v/\∀w M,a8 w M v r.t r.x:=by
 have e:∀w,(Op.equal t (.bool a) (.bool b)).run P w=.ok (a==b) w:=fun w=>by
  exact SZ o 9999 w
 cases op<;>simp only[Bj]at h<;>cases h
 all_goals exact⟨_,fun w=>by simp[binOp,e],fun _ _=>dH.2 rfl⟩
theorem UM{op:BinOp}{a b:List UInt8}{t:TypeId}{r:aj}{ob:List Prop}(h:AB op a b=some (r,ob))(O:bJ ob):
  ∃v,gK P (binOp op t (.string (bytesOf a)) (.string (bytesOf b))) v/\∀w M,a8 w M v r.t r.x:=by
 cases op<;>simp only[AB]at h<;>cases h
 case add=>
  have o:a.length+b.length<=maxLen:=Nat.le_trans O.1 tF
  have U:¬(((bytesOf a).size+(bytesOf b).size:Nat):Int)>IntKind.i64.max:=by
   rw[jm,jm]
   have:IntKind.i64.max=9223372036854775807:=by decide
   rw[this]
   simp only[maxLen]at o
   omega
  refine⟨.string (bytesOf (a++b)),fun w=>?_,fun _ _=>eS.2 ⟨rfl,by rw[List.length_append];exact o⟩⟩
  simp only[binOp,Op.stringOp]
  rw[if_neg U,Rh]
  rfl
 all_goals exact⟨_,fun w=>by simp[binOp,Op.stringOp,BT],fun _ _=>dH.2 rfl⟩
theorem AV{op:BinOp}{t:TypeId}{x y:aj}{W Y:Value}{ox oy:Operand}{r:aj}{ob:List Prop}(la:a8 w M W x.t x.x)(lc:a8 w M Y y.t y.x)
  (h:bin P op t x y=some (r,ob))(li:bJ ob):
  ∃v,gK P (do eqGuard op t ox oy W Y;binOp op t W Y) v/\∀w M,a8 w M v r.t r.x:=by
 have Z:∀v,(∀w,(eqGuard op t ox oy W Y).run P w=.ok () w)->gK P (binOp op t W Y) v->gK P (do eqGuard op t ox oy W Y;binOp op t W Y) v:=by
  intro v lm ln w
  rw[Sem.run_bind,lm w]
  exact ln w
 unfold bin at h
 split at h
 ·rename_i k a k' b
  obtain rfl:=cZ.1 la
  obtain rfl:=cZ.1 lc
  cases ll:wJ op with
  |true=>
   rw[ll,cond_true]at h
   obtain⟨v,h1,ld⟩:=RW (P:=P) (t:=t) (k':=k') h li
   exact⟨v,Z v (fun _=>by first|exact wZ _|exact ws _|exact ze _) h1,ld⟩
  |false=>
   rw[ll,cond_false]at h
   cases hk:gU k k' with
   |false=>rw[hk]at h;cases h
   |true=>
    rw[hk,cond_true]at h
    obtain rfl:=nK hk
    obtain⟨v,h1,ld⟩:=Qg (P:=P) (t:=t) h li
    exact⟨v,Z v (fun _=>by first|exact wZ _|exact ws _|exact ze _) h1,ld⟩
 ·rename_i a b
  obtain rfl:=dH.1 la
  obtain rfl:=dH.1 lc
  split at h
  ·rename_i lh
   obtain⟨v,h1,ld⟩:=PH lh h
   exact⟨v,Z v (fun _=>by first|exact wZ _|exact ws _|exact ze _) h1,ld⟩
  ·cases h
 ·rename_i a b
  obtain⟨rfl,_⟩:=eS.1 la
  obtain⟨rfl,_⟩:=eS.1 lc
  obtain⟨v,h1,ld⟩:=UM (P:=P) (t:=t) h li
  exact⟨v,Z v (fun _=>by first|exact wZ _|exact ws _|exact ze _) h1,ld⟩
 ·rename_i U lf a
  split at h
  ·rename_i b u lj lh
   have lk:=aj.dC lj
   subst lk
   have e:∀o:World,(u.beq (.pair U lf)&&eD P 16 t&&!(P.eqGuardType P.depth t))=true->(Op.equalIn 10000 t W Y).run P o=.ok (aD (.pair U lf) a b) o:=by
    intro o O
    simp only[Bool.and_eq_true]at O
    have:=ag.eq_of_beq O.1.1
    subst this
    exact sE jp t _ lh 16 O.1.2 10000 (by decide) w w o M M W Y a b la lc
   obtain⟨c,rfl,_⟩:=(eA (t:=.pair U lf) rfl).1 la
   obtain⟨c',rfl,_⟩:=(eA (t:=.pair U lf) rfl).1 lc
   split at h
   ·rename_i O
    cases h
    refine⟨.bool (aD (.pair U lf) a b),Z _ (fun o=>?_) (fun o=>?_),fun _ _=>dH.2 rfl⟩
    ·simp only[Bool.and_eq_true,Bool.not_eq_true']at O
     exact run_eqGuard_agg o .eql t ox oy c.toArray c'.toArray O.2
    ·rw[run_eql_struct,e o O]
     rfl
   ·rename_i O
    cases h
    refine⟨.bool (!aD (.pair U lf) a b),Z _ (fun o=>?_) (fun o=>?_),fun _ _=>dH.2 rfl⟩
    ·simp only[Bool.and_eq_true,Bool.not_eq_true']at O
     exact run_eqGuard_agg o .neq t ox oy c.toArray c'.toArray O.2
    ·rw[run_neq_struct,e o O]
     rfl
   ·cases h
  ·cases h
 ·rename_i lg U a
  split at h
  ·rename_i b u lj lh
   have lk:=aj.dC lj
   subst lk
   have e:∀o:World,(u.beq (.arr lg U)&&eD P 16 t&&!(P.eqGuardType P.depth t))=true->(Op.equalIn 10000 t W Y).run P o=.ok (aD (.arr lg U) a b) o:=by
    intro o O
    simp only[Bool.and_eq_true]at O
    have:=ag.eq_of_beq O.1.1
    subst this
    exact sE jp t _ lh 16 O.1.2 10000 (by decide) w w o M M W Y a b la lc
   obtain⟨c,rfl,_⟩:=(eA (t:=.arr lg U) rfl).1 la
   obtain⟨c',rfl,_⟩:=(eA (t:=.arr lg U) rfl).1 lc
   split at h
   ·rename_i O
    cases h
    refine⟨.bool (aD (.arr lg U) a b),Z _ (fun o=>?_) (fun o=>?_),fun _ _=>dH.2 rfl⟩
    ·simp only[Bool.and_eq_true,Bool.not_eq_true']at O
     exact run_eqGuard_agg o .eql t ox oy c.toArray c'.toArray O.2
    ·rw[run_eql_struct,e o O]
     rfl
   ·rename_i O
    cases h
    refine⟨.bool (!aD (.arr lg U) a b),Z _ (fun o=>?_) (fun o=>?_),fun _ _=>dH.2 rfl⟩
    ·simp only[Bool.and_eq_true,Bool.not_eq_true']at O
     exact run_eqGuard_agg o .neq t ox oy c.toArray c'.toArray O.2
    ·rw[run_neq_struct,e o O]
     rfl
   ·cases h
  ·cases h
 ·cases h
def OC(k:IntKind)(n:Int):Int:=k.wrap (0-n)
def un(o:UnOp)(x:aj):Option aj:=
 match o,x with
 |.not,⟨.bool,b⟩=>some ⟨.bool,!b⟩
 |.neg,⟨.int k,n⟩=>some ⟨.int k,OC k n⟩
 |_,_=>none
theorem St{op:UnOp}{x r:aj}{o:Value}(O:a8 w M o x.t x.x)(h:un op x=some r):∃v,gK P (Op.unary op o) v/\∀w M,a8 w M v r.t r.x:=by
 unfold un at h
 split at h
 ·obtain rfl:=dH.1 O
  cases h
  exact⟨_,fun w=>by simp[Op.unary],fun _ _=>dH.2 rfl⟩
 ·obtain rfl:=cZ.1 O
  cases h
  exact⟨_,fun w=>rfl,fun _ _=>cZ.2 rfl⟩
 ·cases h
def conv(P:Program)(src o:TypeId)(x:aj):Option aj:=
 match x,P.underlying src,P.underlying o with
 |⟨.int _,n⟩,some _,some (.int k)=>some ⟨.int k,k.wrap n⟩
 |⟨.int _,n⟩,some _,some .string=>some ⟨.str,(Utf8.encode n).data.toList⟩
 |⟨.str,s⟩,some .string,some .string=>some ⟨.str,s⟩
 |_,_,_=>none
theorem Td(n:Int):(Utf8.encode n).data.toList.length<=maxLen:=by
 have:(Utf8.encode n).data.toList.length<=4:=by
  unfold Utf8.encode
  dsimp only
  repeat' split
  all_goals simp
 exact Nat.le_trans this (by decide)
theorem PC{src U:TypeId}{x r:aj}{W:Value}(O:a8 w M W x.t x.x)(h:conv P src U x=some r):∃v,gK P (convert src U W) v/\∀w M,a8 w M v r.t r.x:=by
 unfold conv at h
 split at h
 ·rename_i Y n d k o af
  obtain rfl:=cZ.1 O
  cases h
  exact⟨_,fun w=>by simp[convert,run_underlying o,run_underlying af,Conv.intToInt],fun _ _=>cZ.2 rfl⟩
 ·rename_i Y n d o af
  obtain rfl:=cZ.1 O
  cases h
  refine⟨.string (Utf8.encode n),fun w=>?_,fun _ _=>eS.2 ⟨?_,Td n⟩⟩
  ·simp[convert,run_underlying o,run_underlying af,Conv.intToString]
  ·congr 1
 ·rename_i s o af
  obtain⟨rfl,Z⟩:=eS.1 O
  cases h
  exact⟨_,fun w=>by simp[convert,run_underlying o,run_underlying af],fun _ _=>eS.2 ⟨rfl,Z⟩⟩
 ·cases h
end Go.Ev
namespace Go.Ev
open Go Go.RowKit
variable [b6]
def Kk:Value->Option ak
 |.bool b=>some (.val .bool b)
 |.int k n=>some (.val (.int k) n)
 |.string s=>bif Nat.ble s.data.toList.length maxLen then some (.val .str s.data.toList)else none
 |.nilIface=>some (.val .err none)
 |.pointer none=>some .any
 |.nilFunc=>some .any
 |_=>none
def aP(st:ae):Operand->Option ak
 |.tmp t=>look st.ab t
 |.const v=>Kk v
 |.func f=>some (.clos f [])
 |.global _=>none
def dA(st:ae)(x:Operand):Option aj:=
 match aP st x with
 |some (.val t x)=>some ⟨t,x⟩
 |_=>none
variable {cx:bB} {m:Nat->Value} {st:ae} {T:Array Value} {w w':World}
theorem Kg{t:Nat}{v:Value}(h:T[t]? =some v):(Act.eval ⟨T,[]⟩ (.tmp t))=v:=by
 show T.getD t undef=v
 rw[Array.getD_eq_getD_getElem?,h]
 rfl
theorem aW(h:am cx m st T w){x:Operand}{s:ak}(o:aP st x=some s):aQ w (ap cx m st.ids) m (Act.eval ⟨T,[]⟩ x) s:=by
 cases x with
 |tmp t=>
  obtain⟨v,h1,W⟩:=h.cI t s (aX o)
  rw[Kg h1]
  exact W
 |const v=>
  cases v<;>simp only[aP,Kk]at o
  case bool b=>cases o;exact dH.2 rfl
  case int k n=>cases o;exact cZ.2 rfl
  case pointer p=>cases p with
   |none=>cases o;exact trivial
   |some a=>cases o
  case nilFunc=>cases o;exact trivial
  case nilIface=>cases o;exact(bZ (t:=.err) rfl).2 (.inl ⟨rfl,rfl⟩)
  case string U=>
   cases O:Nat.ble U.data.toList.length maxLen with
   |false=>rw[O]at o;cases o
   |true=>
    rw[O]at o
    cases o
    exact eS.2 ⟨by cases U;simp[Act.eval],Nat.le_of_ble_eq_true O⟩
  all_goals cases o
 |func f=>cases o;rfl
 |global g=>cases o
theorem df(h:am cx m st T w){x:Operand}{u:aj}(o:dA st x=some u):a8 w (ap cx m st.ids) (Act.eval ⟨T,[]⟩ x) u.t u.x:=by
 unfold dA at o
 split at o
 ·rename_i t y O
  cases o
  exact aW h O
 ·cases o
def nE(st:ae):ak->ak
 |.row r=>match look st.rw r with
  |some c=>.val (.ab c.t) c.xs
  |none=>.row r
 |.iter b=>match look st.ad b with
  |some (.mp k v ps)=>.val (.map k v) (some ps)
  |_=>.iter b
 |s=>s
theorem Ls(h:am cx m st T w){v:Value}{s:ak}(o:aQ w (ap cx m st.ids) m v s):aQ w (fun _=>False) m v (nE st s):=by
 have O:∀b,b<w.heap.size->¬ap cx m st.ids b->w.heap[b]? =w.heap[b]? :=fun _ _ _=>rfl
 have U:∀b,b<w.heap.size->False->ap cx m st.ids b:=fun _ _ h=>h.elim
 have W:=fV (M':=fun _=>False) O U o
 cases s with
 |row r=>
  simp only[nE]
  split
  ·rename_i c Y
   have e:v=m r:=o
   rw[e]
   exact(bZ (t:=.ab c.t) rfl).2 (h.yM (aX Y) (fun b _ Z=>Z.elim) fun g _ Z=>Z)
  ·exact W
 |iter b=>
  simp only[nE]
  split
  ·rename_i k v' ps Y
   have e:v=m b:=o
   obtain⟨g,la,_,es,clock,h1,lc,ld,lf⟩:=h.box (aX Y)
   rw[e]
   exact(bZ (t:=.map k v') rfl).2 ⟨g,es,clock,by rw[la];rfl,h1,fun h=>h.elim,lc,ld,gH (fun _ _ h=>dh O U h) (fun _ _ h=>dh O U h) lf⟩
  ·exact W
 |_=>exact W
def ao{α:Type}(xs:List α)(i:Int):Option α:=if 0<=i then xs[i.toNat]? else none
def fH(s:List UInt8)(i:Int):Option Int:=match ao s i with
 |some b=>some (b.toNat:Int)
 |none=>none
theorem js{α:Type}{xs:List α}{i:Int}{x:α}(h:ao xs i=some x):0<=i/\i<xs.length/\xs[i.toNat]? =some x:=by
 unfold ao at h
 split at h
 ·rename_i o
  have:=(List.getElem?_eq_some_iff.1 h).1
  exact⟨o,by omega,h⟩
 ·cases h
def dK{α:Type}(s:List α)(o O:Int):Option (List α):=if 0<=o/\o<=O/\O<=s.length then some ((s.take O.toNat).drop o.toNat)else none
theorem w9{α:Type}{s r:List α}{o O:Int}(h:dK s o O=some r):0<=o/\o<=O/\O<=s.length/\r=(s.take O.toNat).drop o.toNat:=by
 unfold dK at h
 split at h
 ·rename_i U;cases h;exact⟨U.1,U.2.1,U.2.2,rfl⟩
 ·cases h
def n9(P:Program)(w:World)(s:Sem Value)(v:Value):Prop:=∀w',Ext w w'->s.run P w'=.ok v w'
theorem gK.steady{P:Program}{s:Sem Value}{v:Value}(h:gK P s v):n9 P w s v:=fun w' _=>h w'
def fz(xs:List Int):List UInt8:=xs.map fun n=>UInt8.ofNat n.toNat
def cM(xs:List Int):List UInt8:=(runesBytes xs).data.toList
def iI(s:List UInt8):Nat->Nat->List Int
 |0,_=>[]
 |n+1,i=>if i<s.length then((Utf8.decode (bytesOf s) i).1:Int)::iI s n (i+(Utf8.decode (bytesOf s) i).2)else[]
def gi(s:List UInt8):List Int:=iI s s.length 0
theorem wh{w:World}{M:Nat->Prop}{k:IntKind}:∀{xs:List Int} {cs:List Value},bD (aF w M (.int k)) cs xs->cs=xs.map (Value.int k)
 |[],_,h=>h
 |x::xs,_,⟨c1,c2,e,h1,o⟩=>by
  have h1:c1=[.int k x]:=h1
  rw[e,h1,wh o]
  rfl
theorem foldl_push:∀(l:List Int) (r:ByteArray),l.foldl (fun r n=>r.push (UInt8.ofNat n.toNat)) r=⟨r.data++(fz l).toArray⟩
 |[],r=>by simp[fz]
 |b::l,r=>by
  simp only[List.foldl_cons]
  rw[foldl_push l]
  simp[ByteArray.push,fz]
theorem SR{P:Program}{src o e:TypeId}(Z:P.underlying src=some (.slice e))(la:P.underlying e=some (.int .u8))(af:P.underlying o=some .string){v:Value}{xs:List Int}(O:a8 w (fun _=>False) v (.ab (.int .u8)) xs):
  n9 P w (convert src o v) (.string (bytesOf (fz xs)))/\(fz xs).length<=maxLen:=by
 obtain⟨a,cap,cells,U,lc,ld,lf,lg,lh⟩:∃(a:Option Addr) (cap:Nat) (cells:List Value),[v]=[.slice a (List.length (α:=Int) xs) cap]/\List.length (α:=Int) xs<=cap/\cap<=maxLen/\(a=none->cap=0)/\
  bD (aF w (fun _=>False) (.int .u8)) cells xs/\∀j u,cells[j]? =some u->∃b,a=some b/\w.cell? (b.add j)=some u/\¬False:=(bZ (t:=.ab (.int .u8)) rfl).1 O
 clear O
 simp only[List.cons.injEq,and_true]at U
 subst U
 have li:=wh lg
 subst li
 refine⟨fun w' lj=>?_,by unfold fz;rw[List.length_map];exact Nat.le_trans lc ld⟩
 rw[run_convert_bytes_string w' src o e a _ _ Z la af]
 cases a with
 |none=>
  have lo:=lf rfl
  have lk:xs=[]:=List.eq_nil_of_length_eq_zero (by omega)
  subst lk
  rfl
 |some b=>
  have W:=run_loadCells_list (P:=P) w' b (xs.map (Value.int .u8)) (fun j u ll=>by
   obtain⟨lp,lm,Y,_⟩:=lh j u ll
   cases lm
   rw[World.cell?_of_block (w:=w) (lj.block _ (World.block_lt_of_cell? w _ Y))]
   exact Y)
  rw[List.length_map]at W
  rw[run_bytesToString w' b xs.length cap xs W,foldl_push]
  have ln:ByteArray.empty.data=#[]:=rfl
  rw[ln]
  simp[bytesOf]
theorem Xd{P:Program}{src o e:TypeId}(O:P.underlying src=some (.slice e))(U:P.underlying e=some (.int .i32))(af:P.underlying o=some .string){v:Value}{xs:List Int}(W:a8 w (fun _=>False) v (.ab (.int .i32)) xs):
  n9 P w (convert src o v) (.string (bytesOf (cM xs))):=by
 obtain⟨a,cap,cells,Y,ll,lm,lc,ld,lf⟩:∃(a:Option Addr) (cap:Nat) (cells:List Value),[v]=[.slice a (List.length (α:=Int) xs) cap]/\List.length (α:=Int) xs<=cap/\cap<=maxLen/\(a=none->cap=0)/\
  bD (aF w (fun _=>False) (.int .i32)) cells xs/\∀j u,cells[j]? =some u->∃b,a=some b/\w.cell? (b.add j)=some u/\¬False:=(bZ (t:=.ab (.int .i32)) rfl).1 W
 clear W
 simp only[List.cons.injEq,and_true]at Y
 subst Y
 have lg:=wh ld
 subst lg
 intro w' lh
 have li:bytesOf (cM xs)=runesBytes xs:=by unfold bytesOf cM;simp
 rw[li]
 cases a with
 |none=>
  have ln:=lc rfl
  have lj:xs=[]:=List.eq_nil_of_length_eq_zero (by omega)
  subst lj
  rw[run_convert_runes_nil w' src o e _ _ O U af]
  rfl
 |some b=>
  rw[run_convert_runes w' src o e b xs.length cap xs (Nat.le_refl _) O U af (fun j Z=>?_),List.take_length]
  obtain⟨lo,lk,la,_⟩:=lf j (.int .i32 (xs.getD j 0)) (by rw[List.getElem?_map,List.getElem?_eq_getElem Z];simp[List.getD_eq_getElem?_getD,Z])
  cases lk
  rw[World.cell?_of_block (w:=w) (lh.block _ (World.block_lt_of_cell? w _ la))]
  exact la
theorem HH(s:List UInt8):∀(n i:Nat) (o:Array Value),Conv.runesFrom (bytesOf s) n i o=o++((iI s n i).map (Value.int .i32)).toArray
 |0,_,o=>by simp[Conv.runesFrom,iI]
 |n+1,i,o=>by
  unfold Conv.runesFrom iI
  rw[jm]
  split
  ·simp only[]
   rw[HH s n]
   simp
  ·simp
theorem JA(s:List UInt8):∀(n i:Nat),(iI s n i).length<=n
 |0,_=>by simp[iI]
 |n+1,i=>by
  unfold iI
  split
  ·have:=JA s n (i+(Utf8.decode (bytesOf s) i).2);simp only[List.length_cons];omega
  ·simp
theorem add_zero(a:Addr):a.add 0=a:=by simp[Addr.add]
theorem add_add(a:Addr)(i j:Nat):(a.add i).add j=a.add (i+j):=by
 unfold Addr.add
 by_cases o:i=0<;>by_cases O:j=0<;>simp[o,O,Nat.add_assoc]
theorem gL(g aa n:Nat):(⟨g,aa,none⟩:Addr).add n=⟨g,aa+n,none⟩:=by
 unfold Addr.add
 split
 ·rename_i h;simp[h]
 ·rfl
def Holds(w:World)(M:Nat->Prop)(a:Addr)(t:ag)(x:t.el):Prop:=∃cells,aF w M t cells x/\∀j u,cells[j]? =some u->w.cell? (a.add j)=some u/\¬M a.block
theorem Holds.part{M:Nat->Prop}{a:Addr}{t:ag}{x:t.el}(h:Holds w M a t x){off:Nat}{u:ag}{y:u.el}(O:cE t x off u=some y):Holds w M (a.add off) u y:=by
 obtain⟨cells,h1,U⟩:=h
 obtain⟨c1,c2,c3,rfl,la,W⟩:=pf t h1 O
 refine⟨c2,W,fun j v o=>?_⟩
 have lc:=(List.getElem?_eq_some_iff.1 o).1
 have hk:(c1++c2++c3)[off+j]? =some v:=by
  rw[List.append_assoc,List.getElem?_append_right (by omega),List.getElem?_append_left (by omega),<-o]
  congr 1
  omega
 obtain⟨Y,Z⟩:=U _ _ hk
 exact⟨by rw[add_add];exact Y,by rw[kg];exact Z⟩
theorem Cl{P:Program}{w:World}{a:Addr}{cells:List Value}(h:∀j u,cells[j]? =some u->w.cell? (a.add j)=some u):(loadCells a cells.length).run P w=.ok cells.toArray w:=
 run_loadCells_list (P:=P) w a cells h
theorem M0{P:Program}{a:Addr}{M:Nat->Prop}{tid d:Nat}{t:ag}{x:t.el}(Y:cD P d tid=some t)(h:Holds w M a t x)(ld:0<t.cells):
  ∃v,n9 P w (loadVar tid a) v/\a8 w M v t x:=by
 obtain⟨cells,h1,la⟩:=h
 have o:=ch t h1
 have Z:∀w',Ext w w'->∀j u,cells[j]? =some u->w'.cell? (a.add j)=some u:=by
  intro w' O j u lc
  have U:=(la j u lc).1
  rw[World.cell?_of_block (w:=w) (O.block _ (World.block_lt_of_cell? w _ U))]
  exact U
 cases W:t.agg with
 |true=>
  refine⟨.agg cells.toArray,fun w' O=>?_,(eA W).2 ⟨cells,rfl,h1⟩⟩
  unfold loadVar
  rw[Sem.run_bind,mh Y,W]
  simp only[Result.andThen_ok,if_true,Sem.run_bind,ff Y]
  rw[<-o,Cl (Z w' O)]
  rfl
 |false=>
  have lf:t.cells=1:=by cases t<;>first|rfl|(simp[ag.agg]at W)
  match cells,o with
  |[c],_=>
   refine⟨c,fun w' O=>?_,(bZ W).2 h1⟩
   have U:=Z w' O 0 c rfl
   rw[add_zero]at U
   unfold loadVar
   rw[Sem.run_bind,mh Y,W]
   simp only[Result.andThen_ok,Bool.false_eq_true,if_false]
   simp[load,Sem.run,U]
  |[],o=>simp at o;omega
  |_::_::_,o=>simp at o;omega
def fieldInfo(P:Program)(s:TypeId)(f:Nat):Option (Nat×ag):=
 match P.underlying s with
 |some (.struct O)=>match O[f]? with
  |some o=>match ty P o.type with
   |some u=>bif Nat.beq u.cells 0 then none else some (o.offset,u)
   |none=>none
  |none=>none
 |_=>none
theorem yT{P:Program}{s:TypeId}{f off:Nat}{u:ag}(h:fieldInfo P s f=some (off,u)):
  ∃O o,P.underlying s=some (.struct O)/\O[f]? =some o/\ty P o.type=some u/\o.offset=off/\0<u.cells:=by
 unfold fieldInfo at h
 split at h
 ·rename_i O W
  split at h
  ·rename_i o Y
   split at h
   ·rename_i Z la
    cases U:Nat.beq Z.cells 0 with
    |true=>rw[U]at h;cases h
    |false=>
     rw[U]at h
     cases h
     exact⟨O,o,W,Y,la,rfl,Nat.pos_of_ne_zero (beq_false U)⟩
   ·cases h
  ·cases h
 ·cases h
theorem nW{P:Program}{s:TypeId}{f off:Nat}{u:ag}(h:fieldInfo P s f=some (off,u))(a:Addr)(w:World):
  (Instr.fieldAt s (.pointer (some a)) f).run P w=.ok (.pointer (some (a.add off))) w:=by
 obtain⟨Y,Z,o,O,U,rfl,la⟩:=yT h
 have W:¬u.cells=0:=by omega
 simp only[Instr.fieldAt,Sem.run_bind,run_underlying o,Result.andThen_ok,O,Instr.sureAddr,Sem.run_pure,fieldPlace,ff U,if_neg W]
theorem PI{P:Program}{s:TypeId}{f off:Nat}{u:ag}(h:fieldInfo P s f=some (off,u)){M:Nat->Prop}{t:ag}{x:t.el}{v:Value}(lc:t.agg=true)(ld:a8 w M v t x){y:u.el}(lf:cE t x off u=some y):
  ∃r,gK P (Instr.field s v f) r/\a8 w M r u y:=by
 obtain⟨li,lg,Y,Z,U,rfl,lj⟩:=yT h
 obtain⟨lk,rfl,lh⟩:=(eA lc).1 ld
 obtain⟨c1,c2,c3,rfl,la,W⟩:=pf t lh lf
 have o:=ch u W
 cases O:u.agg with
 |true=>
  refine⟨.agg c2.toArray,fun w'=>?_,(eA O).2 ⟨c2,rfl,W⟩⟩
  simp only[Instr.field,Sem.run_bind,run_underlying Y,Result.andThen_ok,Z,asAgg,Sem.run_pure,part,mh U,O,if_true,ff U]
  congr 2
  apply Array.ext'
  rw[Array.toList_extract,List.extract_eq_take_drop,<-la,<-o]
  simp
 |false=>
  have ll:u.cells=1:=by cases u<;>first|rfl|(simp[ag.agg]at O)
  match c2,o with
  |[c],_=>
   refine⟨c,fun w'=>?_,(bZ O).2 W⟩
   have hk:(c1++[c]++c3).toArray[lg.offset]? =some c:=by
    rw[List.getElem?_toArray,<-la];simp
   simp only[Instr.field,Sem.run_bind,run_underlying Y,Result.andThen_ok,Z,asAgg,Sem.run_pure,part,mh U,O,Bool.false_eq_true,if_false,hk]
  |[],o=>simp at o;omega
  |_::_::_,o=>simp at o;omega
end Go.Ev
namespace Go.Ev
open Go Go.RowKit
variable [b6]
variable {P:Program} {w w':World} {M M':Nat->Prop}
theorem Hj{α:Type}{f g:List Value->α->Prop}(h:∀c c' x,f c x->g c' x->c=c'):∀{xs:List α} {cs O:List Value},bD f cs xs->bD g O xs->cs=O
 |[],_,_,h1,o=>by cases h1;cases o;rfl
 |_::_,_,_,⟨a,b,U,h1,o⟩,⟨c,d,W,Y,Z⟩=>by rw[U,W,h _ _ _ h1 Y,Hj h o Z]
theorem Hm{w w':World}{M M':Nat->Prop}:∀(t:ag) {cs O:List Value} {x:t.el},t.flat=true->aF w M t cs x->aF w' M' t O x->cs=O:=by
 intro t
 induction t with
 |int k=>intro cs O x _ h h';rw[h,h']
 |bool=>intro cs O x _ h h';rw[h,h']
 |str=>intro cs O x _ h h';rw[h.1,h'.1]
 |unit=>intro cs O x _ h h';rw[h,h']
 |pair a b Y Z=>
  rintro cs O x o ⟨c1,c2,rfl,h1,W⟩ ⟨d1,d2,rfl,la,lc⟩
  simp only[ag.flat,Bool.and_eq_true]at o
  rw[Y o.1 h1 la,Z o.2 W lc]
 |ab t U=>intro cs O x o;simp[ag.flat]at o
 |ptr t U=>intro cs O x o;simp[ag.flat]at o
 |fn f t U=>intro cs O x o;simp[ag.flat]at o
 |err=>intro cs O x o;simp[ag.flat]at o
 |cV=>intro cs O x o;simp[ag.flat]at o
 |map k v _ _=>intro cs O x o;simp[ag.flat]at o
 |arr n t U=>intro cs O x o h h';exact Hj (f:=aF w M t) (g:=aF w' M' t) (fun _ _ _ h1 W=>U o h1 W) h.2 h'.2
theorem og{w w':World}{M M':Nat->Prop}{t:ag}{v v':Value}{x:t.el}(O:t.flat=true)(h:a8 w M v t x)(h':a8 w' M' v' t x):v=v':=by
 cases o:t.agg with
 |true=>
  obtain⟨W,rfl,h1⟩:=(eA o).1 h
  obtain⟨Y,rfl,U⟩:=(eA o).1 h'
  rw[Hm t O h1 U]
 |false=>
  have:=Hm t O ((bZ o).1 h) ((bZ o).1 h')
  simpa using this
theorem vw{P:Program}{t e:TypeId}{len d:Nat}{u:ag}{n:Int}{k:IntKind}{a:Addr}(o:P.underlying t=some (.array len e))(O:cD P d e=some u)(U:0<=n)(h1:n<(len:Int))(w':World):
  (Instr.indexAt t (.pointer (some a)) (.int k n)).run P w'=.ok (.pointer (some (a.add (n.toNat*u.cells)))) w':=by
 simp only[Instr.indexAt,asIntOf,Sem.run_bind,Sem.run_pure,Result.andThen_ok,run_underlying o,Instr.sureAddr]
 rw[if_pos ⟨U,h1⟩]
 simp only[Sem.run_bind,ff O,Result.andThen_ok,Sem.run_pure]
theorem AX{P:Program}{w:World}{M:Nat->Prop}{d:Nat}{t:TypeId}{u:ag}(o:cD P d t=some u){pre c post:List Value}{x:u.el}(W:aF w M u c x):
  ∃v,(∀O,(part t (pre++c++post).toArray pre.length).run P O=.ok v O)/\a8 w M v u x:=by
 obtain⟨v,h1,la⟩:=uV (P:=P) o (pre:=pre) (post:=post) W w
 refine⟨v,fun O=>?_,la⟩
 have Y:=ch u W
 cases U:u.agg with
 |true=>
  unfold part at h1⊢
  rw[Sem.run_bind,mh o,U]at h1⊢
  simp only[Result.andThen_ok,if_true,Sem.run_bind,ff o,Sem.run_pure]at h1⊢
  injection h1 with h1
  rw[h1]
 |false=>
  unfold part at h1⊢
  rw[Sem.run_bind,mh o,U]at h1⊢
  simp only[Result.andThen_ok,Bool.false_eq_true,if_false]at h1⊢
  have lc:u.cells=1:=by cases u<;>first|rfl|(simp[ag.agg]at U)
  rw[lc]at Y
  match c,Y with
  |[v0],_=>
   have e:(pre++[v0]++post).toArray[pre.length]? =some v0:=by simp
   rw[e]at h1⊢
   have:v0=v:=by
    have Z:(pure v0:Sem Value).run P w=.ok v w:=h1
    rw[Sem.run_pure]at Z
    injection Z
   rw[<-this]
   rfl
def zeroOf(P:Program)(t:TypeId):Option ag:=
 match ty P t,P.info? t with
 |some u,some i=>match i.zero with
  |some z=>match gP u z.cells.toList with
   |some []=>some u
   |_=>none
  |none=>none
 |_,_=>none
theorem ka{P:Program}{t:TypeId}{u:ag}(h:zeroOf P t=some u):∃i z,ty P t=some u/\P.info? t=some i/\i.size=u.cells/\i.zero=some z/\∀w M,aF w M u z.cells.toList (cj u):=by
 unfold zeroOf at h
 split at h
 ·rename_i ld i o O
  split at h
  ·rename_i z W
   split at h
   ·rename_i Y
    cases h
    obtain⟨lf,U,Z,_⟩:=dn o
    rw[O]at U
    cases U
    refine⟨i,z,o,O,Z,W,fun w M=>?_⟩
    obtain⟨c,la,lc⟩:=LF (w:=w) (M:=M) u Y
    rw[la,List.append_nil]
    exact lc
   ·cases h
  ·cases h
 ·cases h
/-! Parts by steps. -/
def mj:(t:ag)->t.el->List nr->List aj->Option (aj×List aj×List Prop)
 |t,x,[],orc=>some (⟨t,x⟩,orc,[])
 |t,x,.f off u::p,orc=>match cE t x off u with
  |some y=>mj u y p orc
  |none=>none
 |.arr _ u,xs,.x j o::p,v::orc=>match Nat.beq o u.cells,v.as u with
  |true,some y=>match mj u y p orc with
   |some (r,aa,ob)=>some (r,aa,(ao (show List u.el from xs) j=some y)::ob)
   |none=>none
  |_,_=>none
 |_,_,.x _ _::_,_=>none
def mF:(t:ag)->t.el->List nr->List aj->aj->Option (t.el×List aj×List Prop)
 |t,_,[],orc,z=>match z.as t with
  |some y=>some (y,orc,[])
  |none=>none
 |t,x,.f off u::p,orc,z=>match cE t x off u with
  |some y=>match mF u y p orc z with
   |some (o,aa,ob)=>match cn t x off ⟨u,o⟩with
    |some x'=>some (x',aa,ob)
    |none=>none
   |none=>none
  |none=>none
 |.arr _ u,xs,.x j O::p,v::orc,z=>match Nat.beq O u.cells,v.as u with
  |true,some y=>match mF u y p orc z with
   |some (o,aa,ob)=>some (List.set (show List u.el from xs) j.toNat o,aa,(ao (show List u.el from xs) j=some y)::ob)
   |none=>none
  |_,_=>none
 |_,_,.x _ _::_,_,_=>none
theorem xd:∀(p:List nr) (t:ag) {cs:List Value} {x:t.el} {orc orc':List aj} {r:aj} {ob:List Prop},aF w M t cs x->mj t x p orc=some (r,orc',ob)->bJ ob->
  ∃c1 c2 c3,cs=c1++c2++c3/\c1.length=gx p/\aF w M r.t c2 r.x
 |[],t,cs,x,orc,orc',r,ob,h,o,_=>by
  simp only[mj]at o
  cases o
  exact⟨[],cs,[],by simp,rfl,h⟩
 |.f off u::p,t,cs,x,orc,orc',r,ob,h,o,O=>by
  simp only[mj]at o
  split at o
  ·rename_i y Z
   obtain⟨c1,c2,c3,rfl,U,W⟩:=pf t h Z
   obtain⟨d1,d2,d3,rfl,af,Y⟩:=xd p u W o O
   exact⟨c1++d1,d2,d3++c3,by simp,by rw[List.length_append,U,af];rfl,Y⟩
  ·cases o
 |.x j lf::p,t,cs,x,orc,orc',r,ob,h,o,O=>by
  cases t with
  |arr n u=>
   cases orc with
   |nil=>simp[mj]at o
   |cons v orc=>
    simp only[mj]at o
    split at o
    ·rename_i y la lg
     split at o
     ·rename_i lh aa li lc
      cases o
      obtain⟨lj,h1,W⟩:=js O.1
      obtain⟨c1,c2,c3,rfl,U,Y⟩:=mC h.2 W
      obtain⟨d1,d2,d3,rfl,af,ld⟩:=xd p u Y lc O.2
      exact⟨c1++d1,d2,d3++c3,by simp,by rw[List.length_append,U,af,<-Nat.eq_of_beq_eq_true la];rfl,ld⟩
     ·cases o
    ·cases o
  |_=>simp[mj]at o
theorem Dv{z:aj}{O:List Value}(Y:aF w M z.t O z.x):∀(p:List nr) (t:ag) {cs:List Value} {x:t.el} {orc orc':List aj} {y:t.el} {ob:List Prop},aF w M t cs x->mF t x p orc z=some (y,orc',ob)->bJ ob->
  ∃c1 c2 c3,cs=c1++c2++c3/\c1.length=gx p/\c2.length=O.length/\aF w M t (c1++O++c3) y
 |[],t,cs,x,orc,orc',y,ob,h,o,_=>by
  simp only[mF]at o
  split at o
  ·rename_i lz ll
   cases o
   have e:=aj.dC ll
   subst e
   exact⟨[],cs,[],by simp,rfl,by rw[ch t h,ch t Y],by simpa using Y⟩
  ·cases o
 |.f off u::p,t,cs,x,orc,orc',y,ob,h,o,Z=>by
  simp only[mF]at o
  split at o
  ·rename_i lm ln
   split at o
   ·rename_i ld aa lo lf
    split at o
    ·rename_i x' lp
     cases o
     obtain⟨c1,c2,c3,e,la,lg⟩:=pf t h ln
     obtain⟨d1,d2,d3,lj,af,lc,lh⟩:=Dv Y p u lg lf Z
     obtain⟨U,lk,W,lq,hk,lr,li⟩:=qG (v:=⟨u,ld⟩) lh t h lp
     have lt:c2.length=(d1++O++d3).length:=by rw[lj];simp only[List.length_append,lc]
     have lu:U=c1/\lk=c2/\W=c3:=by
      have lv:U++(lk++W)=c1++(c2++c3):=by rw[<-List.append_assoc,<-List.append_assoc,<-lq,<-e]
      obtain⟨lw,a2⟩:=List.append_inj lv (by rw[hk,la])
      obtain⟨a3,a4⟩:=List.append_inj a2 (by rw[lr,lt])
      exact⟨lw,a3,a4⟩
     obtain⟨rfl,rfl,rfl⟩:=lu
     subst lj
     refine⟨U++d1,d2,d3++W,by rw[e];simp,by rw[List.length_append,la,af];rfl,lc,?_⟩
     have:U++d1++O++(d3++W)=U++(d1++O++d3)++W:=by simp
     rw[this]
     exact li
    ·cases o
   ·cases o
  ·cases o
 |.x j lA::p,t,cs,x,orc,orc',y,ob,h,o,Z=>by
  cases t with
  |arr n u=>
   cases orc with
   |nil=>simp[mF]at o
   |cons v orc=>
    simp only[mF]at o
    split at o
    ·rename_i lm lx lB
     split at o
     ·rename_i ld aa lo lf
      cases o
      obtain⟨lC,h1,lg⟩:=js Z.1
      obtain⟨c1,c2,c3,rfl,la,lh,ly⟩:=uj h.2 lg
      obtain⟨d1,d2,d3,rfl,af,lc,li⟩:=Dv Y p u lh lf Z.2
      refine⟨c1++d1,d2,d3++c3,by simp,by rw[List.length_append,la,af,<-Nat.eq_of_beq_eq_true lx];rfl,lc,?_,?_⟩
      ·exact(@List.length_set _ (show List u.el from x) j.toNat ld).trans h.1
      ·have:=ly _ _ li
       simpa using this
     ·cases o
    ·cases o
  |_=>simp[mF]at o
def yZ:ag->Bool
 |.arr _ _=>true
 |.pair a b=>yZ a||yZ b
 |_=>false
def wD(z:Value)(u:ag):Bool:=
 match z with
 |.agg _=>u.agg
 |_=>!u.agg
def zeroV(P:Program)(t:TypeId):Option ag:=
 match zeroOf P t,P.info? t with
 |some u,some i=>match i.zero with
  |some z=>bif wD z u then some u else none
  |none=>none
 |_,_=>none
theorem Kq{P:Program}{t:TypeId}{u:ag}(h:zeroV P t=some u):∃z,ty P t=some u/\(∀w,(zeroValue t).run P w=.ok z w)/\∀w M,a8 w M z u (cj u):=by
 unfold zeroV at h
 split at h
 ·rename_i lc i ld W
  split at h
  ·rename_i z Y
   cases U:wD z lc<;>rw[U]at h<;>cases h
   obtain⟨lf,o,lg,Z,_,la,lh⟩:=ka ld
   have li:lf=i:=by rw[W]at Z;cases Z;rfl
   subst li
   have lj:o=z:=by rw[Y]at la;cases la;rfl
   subst lj
   refine⟨o,lg,fun w=>by simp[zeroValue,typeInfo,W,Y],fun w M=>?_⟩
   have h1:=lh w M
   cases O:u.agg with
   |true=>
    cases o<;>simp only[wD,O,Bool.not_true,Bool.false_eq_true]at U
    rename_i lk
    exact(eA O).2 ⟨lk.toList,by simp,h1⟩
   |false=>
    refine(bZ O).2 ?_
    cases o<;>first|exact h1|(simp[wD,O]at U)
  ·cases h
 ·cases h
def bn{α β:Type}(eq:α->α->Bool):List (α×β)->α->Option β
 |[],_=>none
 |p::ps,k=>if eq k p.1 then some p.2 else bn eq ps k
def cb{α β:Type}(eq:α->α->Bool):List (α×β)->α->β->List (α×β)
 |[],k,v=>[(k,v)]
 |p::ps,k,v=>if eq k p.1 then(k,v)::ps else p::cb eq ps k v
theorem IH{α:Type}{f:α->α->Bool}(h:∀x y,f x y=true->x=y):∀{xs O:List α},kK f xs O=true->xs=O
 |[],[],_=>rfl
 |[],_::_,o=>by cases o
 |_::_,[],o=>by cases o
 |x::xs,y::O,o=>by
  simp only[kK,Bool.and_eq_true]at o
  rw[h x y o.1,IH h o.2]
theorem Aj:∀(t:ag) {x y:t.el},aD t x y=true->x=y:=by
 intro t
 induction t with
 |int k=>intro x y h;exact eq_of_beq (α:=Int) h
 |bool=>intro x y h;exact eq_of_beq (α:=Bool) h
 |str=>intro x y h;exact eq_of_beq (α:=List UInt8) h
 |unit=>intro x y _;rfl
 |pair a b o O=>
  intro x y h
  simp only[aD,Bool.and_eq_true]at h
  exact Prod.ext (o h.1) (O h.2)
 |arr n t U=>intro x y h;exact IH (fun _ _=>U) h
 |ab t _=>intro x y h;cases h
 |ptr t _=>intro x y h;cases h
 |fn f t _=>intro x y h;cases h
 |err=>intro x y h;cases h
 |cV=>intro x y h;cases h
 |map k v _ _=>intro x y h;cases h
theorem IY{d:Nat}:∀(O:List Field) (off:Nat) (u:ag),fieldsOf (cD P d) off O=some u->∀(pre c:List Value) (x:u.el),pre.length=off->aF w M u c x->
  ∀f∈O,∃(a:Value) (W:ag) (lc:W.el),cD P d f.type=some W/\(∀U,(part f.type (pre++c).toArray f.offset).run P U=.ok a U)/\a8 w M a W lc
 |[],off,u,h,pre,c,x,_,_,f,o=>by cases o
 |fd::O,off,u,h,pre,c,x,h1,ld,f,o=>by
  unfold fieldsOf at h
  cases Y:Nat.beq fd.offset off with
  |false=>rw[Y]at h;cases h
  |true=>
   have lf:=Nat.eq_of_beq_eq_true Y
   rw[Y,cond_true]at h
   split at h
   ·rename_i a Z
    split at h
    ·rename_i b lg
     cases h
     obtain⟨c1,c2,rfl,la,cY⟩:=ld
     rcases List.mem_cons.1 o with rfl|o
     ·obtain⟨v,lh,li⟩:=AX (P:=P) Z (pre:=pre) (post:=c2) la
      refine⟨v,a,x.1,Z,fun U=>?_,li⟩
      have:=lh U
      rw[List.append_assoc,h1,<-lf]at this
      exact this
     ·have:=IY O (off+a.cells) b lg (pre++c1) c2 x.2 (by rw[List.length_append,h1,ch a la]) cY f o
      rw[List.append_assoc]at this
      exact this
    ·cases h
   ·cases h
theorem Ox{d:Nat}{e:TypeId}{u:ag}(O:cD P d e=some u){c:List Value}{xs:List u.el}(U:bD (aF w M u) c xs)(j:Nat)(W:j<xs.length):
  ∃(a:Value) (x:u.el),(∀o,(part e c.toArray (j*u.cells)).run P o=.ok a o)/\a8 w M a u x:=by
 obtain⟨c1,c2,c3,rfl,Y,Z⟩:=mC U (List.getElem?_eq_getElem W)
 obtain⟨v,la,lc⟩:=AX (P:=P) O (pre:=c1) (post:=c3) Z
 exact⟨v,_,fun o=>by have:=la o;rw[Y]at this;exact this,lc⟩
theorem qk(em:Bool):∀(d:Nat) (t:TypeId) (u:ag),cD P d t=some u->∀d',eD P d' t=true->∀W,d'<=W->∀(w O:World) (M:Nat->Prop) (v:Value) (x:u.el),a8 w M v u x->(Instr.checkKey em W t v).run P O=.ok () O
 |0,_,_,h=>by cases h
 |d+1,t,u,h=>by
  intro d' U W ly w O M v x ld
  cases d' with
  |zero=>cases U
  |succ d'=>
   obtain⟨W,rfl⟩:∃k,W=k+1:=⟨W-1,by omega⟩
   have lz:=h
   unfold eD at U
   unfold cD at h
   rw[Instr.checkKey]
   split at h
   ·rename_i i k Y o
    cases Z:Nat.beq i.size 1<;>rw[Z]at h<;>cases h
    obtain rfl:=cZ.1 ld
    simp[run_underlying o]
   ·rename_i i Y o
    cases Z:Nat.beq i.size 1<;>rw[Z]at h<;>cases h
    obtain rfl:=dH.1 ld
    simp[run_underlying o]
   ·rename_i i Y o
    cases Z:Nat.beq i.size 1<;>rw[Z]at h<;>cases h
    obtain⟨rfl,_⟩:=eS.1 ld
    simp[run_underlying o]
   ·rename_i i e Y o
    rw[o]at U
    cases U
   ·rename_i i lf Y o
    rw[o]at U
    simp only[Bool.and_eq_true,Bool.not_eq_true']at U
    split at h
    ·rename_i v0 lc
     cases Z:Nat.beq i.size v0.cells<;>rw[Z]at h<;>cases h
     have ln:=Mn lc
     obtain⟨c,rfl,lo⟩:=(eA ln).1 ld
     simp only[Sem.run_bind,run_underlying o,Result.andThen_ok]
     rw[<-Array.forIn_toList]
     have la:∀f∈lf.toList,∃a,f.name≠ "_" /\(∀O,(part f.type c.toArray f.offset).run P O=.ok a O)/\(Instr.checkKey em W f.type a).run P O=.ok () O:=by
      intro f lm
      obtain⟨a,lp,lq,h1,lg,lr⟩:=IY lf.toList 0 u lc [] c x rfl lo f lm
      have lh:=List.all_eq_true.1 U.2 f lm
      simp only[Bool.and_eq_true,bne_iff_ne,ne_eq]at lh
      exact⟨a,lh.1,fun O=>by have:=lg O;simpa using this,qk em d f.type lp h1 d' lh.2 W (by omega) w O M a lq lr⟩
     generalize lf.toList=L at la
     induction L with
     |nil=>simp
     |cons f L li=>
      obtain⟨a,lt,lj,lk⟩:=la f List.mem_cons_self
      simp only[List.forIn_cons,Sem.run_bind,lt,ne_eq,not_false_eq_true,if_true,Result.andThen_ok,lj,lk,Sem.run_pure]
      exact li fun y ll=>la y (List.mem_cons_of_mem _ ll)
    ·cases h
   ·rename_i i lA Y o
    rw[o]at U
    cases U
   ·rename_i i n e Y o
    rw[o]at U
    split at h
    ·rename_i v0 lc
     cases Z:Nat.beq i.size (n*v0.cells)<;>rw[Z]at h<;>cases h
     obtain⟨c,rfl,lu,lv⟩:=(eA (t:=.arr n v0) rfl).1 ld
     simp only[Sem.run_bind,run_underlying o,Result.andThen_ok]
     simp only[Std.Legacy.Range.forIn_eq_forIn_range',Std.Legacy.Range.size,Nat.sub_zero,Nat.add_one_sub_one,Nat.div_one]
     have la:∀j∈List.range' 0 n,∃a,(∀O,(part e c.toArray (j*v0.cells)).run P O=.ok a O)/\(Instr.checkKey em W e a).run P O=.ok () O:=by
      intro j lw
      have lx:j<n:=by simpa using lw
      obtain⟨a,y,h1,lg⟩:=Ox lc lv j (by rw[lu];exact lx)
      exact⟨a,h1,qk em d e v0 lc d' U W (by omega) w O M a y lg⟩
     generalize List.range' 0 n=L at la
     induction L with
     |nil=>simp
     |cons j L li=>
      obtain⟨a,lj,lk⟩:=la j List.mem_cons_self
      simp only[List.forIn_cons,Sem.run_bind,ff lc,Result.andThen_ok,lj,lk,Sem.run_pure]
      exact li fun y ll=>la y (List.mem_cons_of_mem _ ll)
    ·cases h
   ·rename_i i k e Y o
    rw[o]at U
    cases U
   ·rename_i i a b c Y o
    rw[o]at U
    cases U
   ·rename_i i e Y o
    rw[o]at U
    cases U
   ·cases h
def gO{α β:Type}(eq:α->α->Bool)(key:α):List MapEntry->List (α×β)->Nat->Option (Nat×Value)
 |e::es,p::ps,i=>if eq key p.1 then some (i,e.val)else gO eq key es ps (i+1)
 |_,_,_=>none
theorem J9{d d':Nat}{O:TypeId}{u:ag}{β:Type}{Y:Value->β->Prop}(U:cD P d O=some u)(W:eD P d' O=true)(af:d'<=10000){kv:Value}{key:u.el}(hk:a8 w M kv u key)(o:World):
  ∀(es:List MapEntry) (ps:List (u.el×β)) (i:Nat),dX (dL w' M' u) Y es ps->(Instr.findAsking O kv es i).run P o=.ok (gO (aD u) key es ps i) o
 |[],[],i,_=>by simp[Instr.findAsking,gO]
 |[],_::_,_,h=>h.elim
 |_::_,[],_,h=>h.elim
 |e::es,p::ps,i,⟨h1,_,Z⟩=>by
  have la:(Op.equal O kv e.key).run P o=.ok (aD u key p.1) o:=sE d O u U d' W 10000 af w w' o M M' kv e.key key p.1 hk h1
  rw[Instr.findAsking,Sem.run_bind,la]
  simp only[Result.andThen_ok,gO]
  cases lc:aD u key p.1 with
  |true=>simp
  |false=>simp only[Bool.false_eq_true,if_false];exact J9 U W af hk o es ps (i+1) Z
theorem F7{o:TypeDesc}{u:ag}{β:Type}{U:Value->β->Prop}{kv:Value}{key:u.el}(O:∀(e:Value) (x:u.el),a8 w' M' e u x->Instr.sameNow o kv e=some (aD u key x)):
  ∀(es:List MapEntry) (ps:List (u.el×β)) (i:Nat),dX (dL w' M' u) U es ps->Instr.findNow o kv es i=some (gO (aD u) key es ps i)
 |[],[],i,_=>rfl
 |[],_::_,_,h=>h.elim
 |_::_,[],_,h=>h.elim
 |e::es,p::ps,i,⟨h1,_,W⟩=>by
  rw[Instr.findNow,O e.key p.1 h1,gO]
  cases Y:aD u key p.1 with
  |true=>simp
  |false=>simp only[Bool.false_eq_true,if_false];exact F7 O es ps (i+1) W
theorem Oz(a b:List UInt8):((⟨a.toArray⟩:ByteArray)==⟨b.toArray⟩)=eqStr a b:=by
 unfold eqStr
 rw[Bool.eq_iff_iff,MapKept.bytes_beq,beq_iff_eq]
 constructor
 ·intro e
  have:=congrArg (fun b:ByteArray=>b.data.toList) e
  simpa using this
 ·intro e;rw[e]
theorem vV{d d':Nat}{W:TypeId}{u:ag}{β:Type}{lf:Value->β->Prop}(ld:cD P d W=some u)(Y:eD P d' W=true)(af:d'<=10000){kv:Value}{key:u.el}(hk:a8 w M kv u key)(U:World)
  {es:List MapEntry}{ps:List (u.el×β)}(h:dX (dL w' M' u) lf es ps):(Instr.findKey W kv es).run P U=.ok (gO (aD u) key es ps 0) U:=by
 have ask:=J9 ld Y af hk U es ps 0 h
 have la:∀lc,P.underlying W=some lc->(∀(e:Value) (x:u.el),a8 w' M' e u x->Instr.sameNow lc kv e=some (aD u key x))->(Instr.findKey W kv es).run P U=.ok (gO (aD u) key es ps 0) U:=by
  intro lc o lg
  exact MapKept.run_findKey o (F7 lg es ps 0 h)
 obtain⟨i,li,lj,O⟩:=dn ld
 cases u with
 |int k=>
  obtain rfl:=cZ.1 hk
  exact la _ O fun e x Z=>by obtain rfl:=cZ.1 Z;simp[Instr.sameNow,aD,kq]
 |bool=>
  obtain rfl:=dH.1 hk
  exact la _ O fun e x Z=>by obtain rfl:=dH.1 Z;simp[Instr.sameNow,aD,HC]
 |str=>
  obtain⟨rfl,_⟩:=eS.1 hk
  refine la _ O fun e x Z=>?_
  obtain⟨rfl,_⟩:=eS.1 Z
  exact congrArg some (Oz key x)
 |unit=>obtain⟨lh,d2,o,_⟩:=O;rw[run_findKey_eq U (by rw[o]) kv es];exact ask
 |pair a b=>obtain⟨lh,d2,o,_⟩:=O;rw[run_findKey_eq U (by rw[o]) kv es];exact ask
 |arr n t=>obtain⟨e,d2,o,_⟩:=O;rw[run_findKey_eq U (by rw[o]) kv es];exact ask
 |ab t=>obtain⟨e,d2,o,_⟩:=O;cases d'<;>simp[eD,o]at Y
 |err=>obtain⟨lk,o⟩:=O;cases d'<;>simp[eD,o]at Y
 |cV=>rcases O with ⟨_,_,_,o⟩|⟨_,o⟩<;>cases d'<;>simp[eD,o]at Y
 |map a b=>obtain⟨k,e,d2,o,_⟩:=O;cases d'<;>simp[eD,o]at Y
 |ptr t=>exact O.elim
 |fn f t=>exact O.elim
theorem Dd{α β:Type}{eq:α->α->Bool}{key:α}{O:Value->α->Prop}{o:Value->β->Prop}:∀(es:List MapEntry) (ps:List (α×β)) (i:Nat),dX O o es ps->
  (gO eq key es ps i=none/\bn eq ps key=none)\/∃n e y,gO eq key es ps i=some (i+n,e.val)/\es[n]? =some e/\bn eq ps key=some y/\o e.val y
 |[],[],i,_=>.inl ⟨rfl,rfl⟩
 |[],_::_,_,h=>h.elim
 |_::_,[],_,h=>h.elim
 |e::es,p::ps,i,⟨h1,U,W⟩=>by
  unfold gO bn
  cases lf:eq key p.1 with
  |true=>exact .inr ⟨0,e,p.2,by simp,rfl,by simp,U⟩
  |false=>
   simp only[Bool.false_eq_true,if_false]
   rcases Dd es ps (i+1) W with h|⟨n,Y,y,Z,la,lc,ld⟩
   ·exact .inl h
   ·exact .inr ⟨n+1,Y,y,by rw[Z];congr 2;omega,by simpa using la,lc,ld⟩
theorem wH{α β:Type}{eq:α->α->Bool}{key:α}{o:Value->α->Prop}{O:Value->β->Prop}{kv vv:Value}{val:β}(U:o kv key)(W:O vv val):∀(es:List MapEntry) (ps:List (α×β)) (i:Nat),dX o O es ps->
  (gO eq key es ps i=none/\cb eq ps key val=ps++[(key,val)])\/∃n e p,gO eq key es ps i=some (i+n,e.val)/\es[n]? =some e/\o e.key p/\eq key p=true/\
   dX o O (es.modify n fun e=>{e with key:=kv,val:=vv}) (cb eq ps key val)
 |[],[],i,_=>.inl ⟨rfl,rfl⟩
 |[],_::_,_,h=>h.elim
 |_::_,[],_,h=>h.elim
 |e::es,p::ps,i,⟨h1,Z,Y⟩=>by
  unfold gO cb
  cases la:eq key p.1 with
  |true=>exact .inr ⟨0,e,p.1,by simp,rfl,h1,la,by simp only[if_true];exact⟨U,W,Y⟩⟩
  |false=>
   simp only[Bool.false_eq_true,if_false]
   rcases wH U W es ps (i+1) Y with ⟨lc,ld⟩|⟨n,lf,q,lg,lh,li,lj,lk⟩
   ·exact .inl ⟨lc,by rw[ld];rfl⟩
   ·exact .inr ⟨n+1,lf,q,by rw[lg];congr 2;omega,by simpa using lh,li,lj,⟨h1,Z,lk⟩⟩
theorem se(kv vv:Value):∀(es:List MapEntry) (n:Nat),(es.modify n fun e=>{e with key:=kv,val:=vv}).map (·.born)=es.map (·.born)
 |[],n=>by cases n<;>rfl
 |e::es,0=>rfl
 |e::es,n+1=>by
  have:=se kv vv es n
  simp only[List.modify_succ_cons,List.map_cons,this]
theorem yy{α β:Type}{o:Value->α->Prop}{O:Value->β->Prop}:∀{es U:List MapEntry} {ps W:List (α×β)},dX o O es ps->dX o O U W->dX o O (es++U) (ps++W)
 |[],_,[],_,_,h=>h
 |[],_,_::_,_,h,_=>h.elim
 |_::_,_,[],_,h,_=>h.elim
 |_::_,_,_::_,_,⟨h1,Y,Z⟩,h=>⟨h1,Y,yy Z h⟩
def plainCell:Value->Bool
 |.bool _=>true
 |.int _ _=>true
 |.string _=>true
 |_=>false
theorem Mq{α:Type}{f:List Value->α->Prop}{p:Value->Bool}(h:∀c x,f c x->∀u∈c,p u=true):∀{xs:List α} {cs:List Value},bD f cs xs->∀u∈cs,p u=true
 |[],_,o,u,hu=>by cases o;cases hu
 |_::_,_,⟨c1,c2,e,h1,O⟩,u,hu=>by
  subst e
  rcases List.mem_append.1 hu with hu|hu
  ·exact h _ _ h1 u hu
  ·exact Mq h O u hu
theorem GG:∀(t:ag) {cs:List Value} {x:t.el},t.flat=true->aF w M t cs x->∀u∈cs,plainCell u=true:=by
 intro t
 induction t with
 |int k=>intro cs x _ h u hu;cases h;simp at hu;subst hu;rfl
 |bool=>intro cs x _ h u hu;cases h;simp at hu;subst hu;rfl
 |str=>intro cs x _ h u hu;cases h.1;simp at hu;subst hu;rfl
 |unit=>intro cs x _ h u hu;cases h;simp at hu
 |pair a b O U=>
  rintro cs x o ⟨c1,c2,rfl,h1,W⟩ u hu
  simp only[ag.flat,Bool.and_eq_true]at o
  rcases List.mem_append.1 hu with hu|hu
  ·exact O o.1 h1 u hu
  ·exact U o.2 W u hu
 |arr n t Y=>intro cs x o h u hu;exact Mq (fun _ _ Z=>Y o Z) h.2 u hu
 |ab t _=>intro cs x o;simp[ag.flat]at o
 |ptr t _=>intro cs x o;simp[ag.flat]at o
 |fn f t _=>intro cs x o;simp[ag.flat]at o
 |err=>intro cs x o;simp[ag.flat]at o
 |cV=>intro cs x o;simp[ag.flat]at o
 |map k v _ _=>intro cs x o;simp[ag.flat]at o
theorem MQ{u:Value}(h:plainCell u=true)(n:Nat):Instr.sameBits n u u=true:=by
 cases u<;>first|(simp[plainCell]at h;done)|simp[Instr.sameBits,MapKept.bytes_beq]
theorem Kn(n:Nat):∀(l:List Value),(∀u∈l,plainCell u=true)->((l.zip l).all fun(x,y)=>Instr.sameBits n x y)=true
 |[],_=>rfl
 |u::l,h=>by
  rw[List.zip_cons_cons,List.all_cons,Bool.and_eq_true]
  exact⟨MQ (h u List.mem_cons_self) n,Kn n l fun x o=>h x (List.mem_cons_of_mem _ o)⟩
theorem DD{t:ag}{v:Value}{x:t.el}(o:t.flat=true)(h:a8 w M v t x):Instr.sameBits 10000 v v=true:=by
 cases O:t.agg with
 |true=>
  obtain⟨U,rfl,W⟩:=(eA O).1 h
  rw[Instr.sameBits]
  simp only[beq_self_eq_true,Bool.true_and]
  exact Kn 9999 U (GG t o W)
 |false=>
  exact MQ (GG t o ((bZ O).1 h) v (by simp)) _
theorem rm{mt Z ld:TypeId}{d d':Nat}{u v:ag}(lc:P.underlying mt=some (.map Z ld))(lf:cD P d Z=some u)(lg:eD P d' Z=true)(af:d'<=10000)
  {z:Value}(lh:∀w,(zeroValue ld).run P w=.ok z w)(ln:∀w M,a8 w M z v (cj v)){kv:Value}{key:u.el}(hk:a8 w M kv u key){es:Array MapEntry}{ps:List (u.el×v.el)}
  (li:dX (dL w' M' u) (dL w' M' v) es.toList ps):
  ∃r,a8 w' M' r v ((bn (aD u) ps key).getD (cj v))/\∀(o:World) (x:Value),((x=.map none/\es=#[])\/∃g clock,x=.map (some g)/\o.heap[g]? =some (.map es clock))->
   ∀ok,(Instr.lookup mt x kv ok).run P o=.ok (if ok then .tuple #[r,.bool (bn (aD u) ps key).isSome]else r) o:=by
 have lo:=fun o=>vV lf lg af hk o li
 have lj:=fun em o=>qk (P:=P) em d Z u lf d' lg 10000 af w o M kv key hk
 have run:∀(r:Value) (o:World) (x:Value),((x=.map none/\es=#[])\/∃g clock,x=.map (some g)/\o.heap[g]? =some (.map es clock))->
   ((gO (aD u) key es.toList ps 0=none/\bn (aD u) ps key=none/\r=z)\/∃n y,gO (aD u) key es.toList ps 0=some (n,r)/\bn (aD u) ps key=some y)->
   ∀ok,(Instr.lookup mt x kv ok).run P o=.ok (if ok then .tuple #[r,.bool (bn (aD u) ps key).isSome]else r) o:=by
  intro r o x Y lk ok
  have W:=lo o
  rcases Y with ⟨rfl,rfl⟩|⟨g,clock,rfl,lp⟩
  ·have la:=lj true o
   rcases lk with ⟨O,U,rfl⟩|⟨n,y,O,U⟩
   ·rw[O]at W
    unfold Instr.lookup
    simp only[Sem.run_bind,run_underlying lc,Result.andThen_ok,Sem.run_pure,show(#[]:Array MapEntry).isEmpty=true from rfl,la,W,lh,U]
    cases ok<;>simp
   ·simp[gO]at O
  ·have la:=lj es.isEmpty o
   have ll:(getObj g).run P o=.ok (.map es clock) o:=by simp[getObj,Sem.run,lp]
   rcases lk with ⟨O,U,rfl⟩|⟨n,y,O,U⟩
   ·rw[O]at W
    unfold Instr.lookup
    simp only[Sem.run_bind,run_underlying lc,Result.andThen_ok,ll,Sem.run_pure,la,W,lh,U]
    cases ok<;>simp
   ·rw[O]at W
    unfold Instr.lookup
    simp only[Sem.run_bind,run_underlying lc,Result.andThen_ok,ll,Sem.run_pure,la,W,U]
    cases ok<;>simp
 rcases Dd (eq:=aD u) (key:=key) es.toList ps 0 li with ⟨O,U⟩|⟨n,e,y,O,U,lm,lq⟩
 ·exact⟨z,by rw[U];exact ln _ _,fun o x Y=>run z o x Y (.inl ⟨O,U,rfl⟩)⟩
 ·exact⟨e.val,by rw[lm];exact lq,fun o x Y=>run e.val o x Y (.inr ⟨_,y,O,lm⟩)⟩
theorem H8{mt o lr:TypeId}{d d':Nat}{u v:ag}(lf:P.underlying mt=some (.map o lr))(lg:cD P d o=some u)(lh:eD P d' o=true)(af:d'<=10000)(li:u.flat=true)
  {kv vv:Value}{key:u.el}{val:v.el}(hk:a8 w M kv u key)(lj:a8 w M vv v val){g:Nat}{es:Array MapEntry}{clock:Nat}{ps:List (u.el×v.el)}
  (lk:w.heap[g]? =some (.map es clock))(W:∀e∈es.toList,e.born<clock)(ll:(es.toList.map (·.born)).Nodup)(Y:dX (dL w M u) (dL w M v) es.toList ps):
  ∃(O:Array MapEntry) (lm:Nat),(Instr.mapUpdate mt (.map (some g)) kv vv).run P w=.ok () {w with heap:=w.heap.setIfInBounds g (.map O lm)}/\
   (∀e∈O.toList,e.born<lm)/\(O.toList.map (·.born)).Nodup/\dX (dL w M u) (dL w M v) O.toList (cb (aD u) ps key val):=by
 have ln:=qk (P:=P) false d o u lg d' lh 10000 af w w M kv key hk
 have U:=vV lg lh af hk w Y
 have lo:(getObj g).run P w=.ok (.map es clock) w:=by simp[getObj,Sem.run,lk]
 have lp:∀aa,(setObj g aa).run P w=.ok () {w with heap:=w.heap.setIfInBounds g aa}:=fun aa=>by simp[setObj,Sem.run,lk]
 rcases wH (kv:=kv) (vv:=vv) (val:=val) (eq:=aD u) (key:=key) hk lj es.toList ps 0 Y with ⟨Z,la⟩|⟨n,e,q,Z,la,lt,lu,lv⟩
 ·rw[Z]at U
  refine⟨es.push {key:=kv,val:=vv,born:=clock},clock+1,?_,?_,?_,?_⟩
  ·unfold Instr.mapUpdate
   simp only[Sem.run_bind,run_underlying lf,Result.andThen_ok,lo,ln,U,lp]
  ·intro e he
   rw[Array.toList_push]at he
   rcases List.mem_append.1 he with he|he
   ·exact Nat.lt_succ_of_lt (W e he)
   ·simp at he;subst he;exact Nat.lt_succ_self _
  ·rw[Array.toList_push,List.map_append,List.nodup_append]
   refine⟨ll,by simp,?_⟩
   intro a lw b lx lD
   simp at lx
   obtain⟨e,he,rfl⟩:=List.mem_map.1 lw
   have:=W e he
   omega
  ·rw[Array.toList_push,la]
   exact yy Y ⟨hk,lj,trivial⟩
 ·rw[Z,Nat.zero_add]at U
  have ly:key=q:=Aj u lu
  subst ly
  have lz:e.key=kv:=og li lt hk
  have lA:((es[n]?).map (·.key)).getD kv=kv:=by
   have:es[n]? =some e:=by rw[<-Array.getElem?_toList];exact la
   rw[this];simp[lz]
  have lB:∀lc,(Instr.keyThatStays kv kv).run P lc=.ok kv lc:=fun lc=>by
   unfold Instr.keyThatStays
   rw[if_pos (DD li hk)]
   rfl
  have ld:(es.modify n fun e=>{e with key:=kv,val:=vv}).toList=es.toList.modify n fun e=>{e with key:=kv,val:=vv}:=by simp
  refine⟨es.modify n fun e=>{e with key:=kv,val:=vv},clock,?_,?_,?_,?_⟩
  ·unfold Instr.mapUpdate
   simp only[Sem.run_bind,run_underlying lf,Result.andThen_ok,lo,ln,U,lA,lB,lp]
  ·intro x lq
   rw[ld]at lq
   have h1:x.born∈(es.toList.modify n fun e=>{e with key:=kv,val:=vv}).map (·.born):=List.mem_map.2 ⟨x,lq,rfl⟩
   rw[se]at h1
   obtain⟨y,lC,e⟩:=List.mem_map.1 h1
   rw[<-e];exact W y lC
  ·rw[ld,se];exact ll
  ·rw[ld];exact lv
end Go.Ev
