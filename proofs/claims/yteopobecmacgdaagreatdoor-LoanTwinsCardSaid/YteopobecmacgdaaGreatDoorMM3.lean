/- Literals, made slices, function values, appending: right. -/
import Derived.Test.YteopobecmacgdaaGreatDoorMM2
import Derived.Deep.Quiet
set_option linter.unusedSectionVars false
set_option linter.unusedVariables false
set_option linter.unusedSimpArgs false
namespace Go.Ev
open Go Go.RowKit
variable [cm]
variable {cx:bJ} {m:Nat->Value} {st:af} {T:Array Value} {w w':World}
variable [aj cx]
theorem Hm(h:ao cx m st T w){u:ah}:∀(parts:List (Nat×Operand)) (k:Nat) (xs:List u.el) (pre old:List Value),pn st u k parts=some xs->pre.length=k*u.cells->old.length=xs.length*u.cells->
  ∃cells,Instr.fill (fun i=>some (i*u.cells,u.cells)) (pre++old).toArray (parts.map fun p=>(p.1,Act.eval ⟨T,aj.D cx⟩ p.2))=some (pre++cells).toArray/\bT (aL w (au cx m st.ids) u) cells xs
 |[],k,xs,pre,old,o,_,O=>by
  cases o
  have:old=[]:=List.eq_nil_of_length_eq_zero (by simpa using O)
  subst this
  exact⟨[],rfl,rfl⟩
 |(i,aa)::r,k,xs,pre,old,o,R,O=>by
  unfold pn at o
  split at o
  ·rename_i v lc ld
   split at o
   ·rename_i x U le lf
    cases o
    have lg:=Nat.eq_of_beq_eq_true lc
    subst lg
    have Y:=jP (YX h ld)
    have e:=ak.dx le
    subst e
    have W:=cu u Y
    have lh:(Act.eval ⟨T,aj.D cx⟩ aa).cells.size=u.cells:=by rw[<-W];simp
    have Z:old.length=(U.length+1)*u.cells:=O
    obtain⟨q,ba,rfl,la⟩:∃q ba,old=q++ba/\q.length=u.cells:=⟨old.take u.cells,old.drop u.cells,(List.take_append_drop _ _).symm,by rw[List.length_take,Z,Nat.succ_mul];omega⟩
    have li:ba.length=U.length*u.cells:=by
     rw[List.length_append,Nat.succ_mul]at Z
     omega
    obtain⟨cells,lj,lk⟩:=Hm h r (i+1) U (pre++(Act.eval ⟨T,aj.D cx⟩ aa).cells.toList) ba lf (by rw[List.length_append,R,W,Nat.succ_mul]) li
    refine⟨(Act.eval ⟨T,aj.D cx⟩ aa).cells.toList++cells,?_,(Act.eval ⟨T,aj.D cx⟩ aa).cells.toList,cells,rfl,Y,lk⟩
    rw[List.map_cons,Instr.fill]
    have ll:¬(((Act.eval ⟨T,aj.D cx⟩ aa).cells.size≠u.cells||decide (i*u.cells+(Act.eval ⟨T,aj.D cx⟩ aa).cells.size>(pre++(q++ba)).toArray.size))=true):=by
     simp only[lh,List.size_toArray,List.length_append,R,la]
     simp
    simp only[]
    rw[if_neg ll]
    have lb:=wr (Act.eval ⟨T,aj.D cx⟩ aa).cells.toList pre ba q (by rw[la,W])
    rw[R,Array.toArray_toList]at lb
    rw[<-List.append_assoc,lb,lj]
    simp
   ·cases o
  ·cases o
theorem WA(h:ao cx m st T w){aa:Oper}{d:Nat}(ai:d<cx.n){t e:TypeId}{u lb:ah}{n:Nat}{parts:Array (Nat×Operand)}{xs:List u.el}(lc:aa.op=.buildSlice t n parts)(ld:ew cx.P t=some (e,u))
  (le:pn st u 0 parts.toList=some xs)(O:xs.length=n)(lo:n*u.cells<=16777216)(lf:zeroOf cx.P e=some lb){orc:List ak}:
  fb cx T w aa ⟨.row d,st.dJ d ⟨e,u,xs⟩,orc,[]⟩:=by
 obtain⟨lg,R,lh⟩:=jr ld
 obtain⟨i,z,_,U,lp,li,_⟩:=kq lf
 have lq:i.size=u.cells:=by
  obtain⟨i2,W,lj,_⟩:=dw R
  rw[U]at W
  cases W
  exact lj
 obtain⟨cells,Y,Z⟩:=Hm h parts.toList 0 xs [] ((Array.range (n*u.cells)).map ((if n*u.cells=0 then#[]else z.cells)[· %(if n*u.cells=0 then#[]else z.cells).size]!)).toList le (by simp) (by simp[O])
 have la:=jC (fun _ _=>cu u) _ _ Z
 have lk:xs.length<=maxLen:=by
  have:xs.length<=xs.length*u.cells:=Nat.le_mul_of_pos_right _ lh
  have lr:(16777216:Nat)<=maxLen:=by decide
  rw[O]at this⊢
  omega
 have ll:=we h d (.inl ai) (cur:=cells.toArray) (cells:=cells) (e:=e) (cap:=xs.length) (w.alloc (.cells cells.toArray e)) (iK _ _) (heap_alloc_new w _) (Nat.le_refl _) lk (by simp[la]) (by rw[<-la];simp) Z
 refine⟨.slice (some ⟨w.heap.size,0,none⟩) n n,_,_,cF (s:=Instr.buildSlice t n (parts.map fun p=>(p.1,Act.eval ⟨T,aj.D cx⟩ p.2))) (by simp only[execOp,lc]) ?_,ll,by show _=bH _ _ _ _;rw[ct,O]⟩
 have lm:¬(n*u.cells>2^24):=by omega
 have o:Instr.fill (fun i=>some (i*u.cells,u.cells)) ((Array.range (n*u.cells)).map ((if n*u.cells=0 then#[]else z.cells)[· %(if n*u.cells=0 then#[]else z.cells).size]!)) (parts.map fun p=>(p.1,Act.eval ⟨T,aj.D cx⟩ p.2)).toList=some cells.toArray:=by
  rw[List.nil_append,List.nil_append,Array.toArray_toList]at Y
  rw[Array.toList_map]
  exact Y
 simp only[Instr.buildSlice,Sem.run_bind,run_underlying lg,Result.andThen_ok,fi R,if_neg lm]
 by_cases q:n*u.cells=0
 ·rw[if_pos q]
  rw[if_pos q]at o
  simp only[Sem.run_pure,Result.andThen_ok,o,Sem.run_bind,newRow,run_newObj_alloc]
 ·rw[if_neg q]
  rw[if_neg q]at o
  have ln:(zeroValue e).run cx.P w=.ok z w:=by simp[zeroValue,typeInfo,U,li]
  simp only[Sem.run_bind,ln,Sem.run_pure,Result.andThen_ok,o,newRow,run_newObj_alloc]
theorem Za(h:ao cx m st T w){aa:Oper}{t e:TypeId}{u:ah}{n:Nat}{parts:Array (Nat×Operand)}{xs:List u.el}{i:TypeInfo}{z:Value}(O:aa.op=.build t parts)(le:ty cx.P t=some (.arr n u))(R:cx.P.info? t=some i)(U:i.zero=some z)
  (W:cx.P.underlying t=some (.array n e))(Y:ty cx.P e=some u)(Z:pn st u 0 parts.toList=some xs)(o:xs.length=n)(la:z.cells.size=n*u.cells){orc:List ak}:
  fb cx T w aa ⟨.val (.arr n u) xs,st,orc,[]⟩:=by
 obtain⟨cells,q,lb⟩:=Hm h parts.toList 0 xs [] z.cells.toList Z (by simp) (by simp[la,o])
 rw[List.nil_append,List.nil_append,Array.toArray_toList]at q
 refine⟨.agg cells.toArray,w,m,cF (s:=Instr.build t (parts.map fun p=>(p.1,Act.eval ⟨T,aj.D cx⟩ p.2))) (by simp only[execOp,O]) ?_,h,(eG (t:=.arr n u) rfl).2 ⟨cells,rfl,o,lb⟩⟩
 have lc:(zeroValue t).run cx.P w=.ok z w:=by simp[zeroValue,typeInfo,R,U]
 have ld:Instr.fill (fun i=>some (i*u.cells,u.cells)) z.cells (parts.map fun p=>(p.1,Act.eval ⟨T,aj.D cx⟩ p.2)).toList=some cells.toArray:=by rw[Array.toList_map];exact q
 simp only[Instr.build,Sem.run_bind,lc,Result.andThen_ok,run_underlying W,fi Y,ld,Sem.run_pure]
theorem HZ{z:Array Value}{o:Nat}(q:z.size=o)(n:Nat):(madeCells z ((n+1)*o)).toList=z.toList++(madeCells z (n*o)).toList:=by
 apply List.ext_getElem?
 intro j
 by_cases R:j<z.toList.length
 ·rw[List.getElem?_append_left R]
  have U:j<o:=by rw[<-q];simpa using R
  have O:j<(n+1)*o:=by rw[Nat.succ_mul];omega
  have W:j<z.size:=by rw[q];exact U
  simp only[madeCells,Array.toList_map,Array.toList_range,List.getElem?_map,List.getElem?_range O,Option.map_some,q,Nat.mod_eq_of_lt U]
  rw[getElem!_pos z j W]
  simp[W]
 ·rw[List.getElem?_append_right (by omega)]
  have Y:z.toList.length=o:=by simpa using q
  rw[Y]at R⊢
  by_cases O:j<(n+1)*o
  ·have Z:j-o<n*o:=by rw[Nat.succ_mul]at O;omega
   simp only[madeCells,Array.toList_map,Array.toList_range,List.getElem?_map,List.getElem?_range O,List.getElem?_range Z,Option.map_some,q]
   congr 2
   rw[<-Nat.add_mod_right (j-o) o]
   congr 1
   omega
  ·rw[List.getElem?_eq_none (by simp[madeCells];omega),List.getElem?_eq_none (by simp[madeCells];rw[Nat.succ_mul]at O;omega)]
theorem OB{M:Nat->Prop}{u:ah}{z:Array Value}{x:u.el}(o:aL w M u z.toList x)(R:0<u.cells):∀(n:Nat),bT (aL w M u) (madeCells z (n*u.cells)).toList (List.replicate n x):=by
 have q:z.size=u.cells:=by rw[<-cu u o];simp
 intro n
 induction n with
 |zero=>show _=_;simp[madeCells]
 |succ n O=>
  have e:=HZ q n
  rw[e,List.replicate_succ]
  exact⟨_,_,rfl,o,O⟩
theorem yF{P:Program}{e:TypeId}(h:om P e=true):∃i,P.info? e=some i/\i.bytes<=65536:=by
 unfold om at h
 split at h
 ·rename_i i o;exact⟨i,o,Nat.le_of_ble_eq_true h⟩
 ·cases h
theorem X7(h:ao cx m st T w){aa:Oper}{d:Nat}(ai:d<cx.n){t e:TypeId}{u:ah}{l c:Operand}{n k:Int}(Y:aa.op=.makeSlice t l c)(Z:ew cx.P t=some (e,u))(la:eL (aW st l)=some n)
  (lb:eL (aW st c)=some k)(lc:om cx.P e=true)(ld:zeroOf cx.P e=some u)(le:0<=n/\n<=k/\k<=(bF:Int)){orc:List ak}{ob:List Prop}:
  fb cx T w aa ⟨.row d,st.dJ d ⟨e,u,List.replicate n.toNat (cl u)⟩,orc,ob⟩:=by
 obtain⟨lf,lu,lg⟩:=jr Z
 obtain⟨i,z,_,q,O,lh,li⟩:=kq ld
 obtain⟨i2,R,lv⟩:=yF lc
 rw[q]at R
 cases R
 obtain⟨U,lj⟩:=fF h la
 obtain⟨W,lk⟩:=fF h lb
 obtain⟨ll,lm,lw⟩:=le
 have lx:(bF:Int)=2147483648:=rfl
 have ln:0<=k:=by omega
 have lo:(i.bytes:Int)*k<=281474976710656:=by
  have lp:(i.bytes:Int)<=65536:=by omega
  calc (i.bytes:Int)*k<=65536*k:=Int.mul_le_mul_of_nonneg_right lp ln
   _<=281474976710656:=by omega
 have lq:=run_make (P:=cx.P) w t e i z lf q lh U W n k ll lm lo (by omega)
 have lr:=OB (li w (au cx m st.ids)) lg n.toNat
 have o:(List.replicate n.toNat (cl u)).length=n.toNat:=List.length_replicate
 have ls:(madeCells z.cells (k.toNat*i.size)).toList.take ((List.replicate n.toNat (cl u)).length*u.cells)=(madeCells z.cells (n.toNat*u.cells)).toList:=by
  rw[o,O]
  simp only[madeCells,Array.toList_map,Array.toList_range,<-List.map_take]
  rw[List.take_range]
  congr 2
  have:n.toNat*u.cells<=k.toNat*u.cells:=Nat.mul_le_mul_right _ (by omega)
  omega
 have lt:=we h d (.inl ai) (cur:=madeCells z.cells (k.toNat*i.size)) (e:=e) (cap:=k.toNat) (xs:=List.replicate n.toNat (cl u)) (w.alloc (.cells (madeCells z.cells (k.toNat*i.size)) e)) (iK _ _) (heap_alloc_new w _)
  (by rw[o];omega) (by simp only[maxLen];omega) (by rw[size_madeCells,O]) ls lr
 refine⟨_,_,_,cF (s:=Instr.makeSlice t (.int U n) (.int W k)) (by simp only[execOp,Y,lj,lk]) lq,lt,?_⟩
 show _=bH _ _ _ _
 rw[ct,o]
theorem BV(h:ao cx m st T w):∀{l:List Operand} {bs:List Nat},ml.qb st l=some bs->l.map (Act.eval ⟨T,aj.D cx⟩)=bs.map m
 |[],_,o=>by cases o;rfl
 |x::r,bs,o=>by
  simp only[ml.qb]at o
  split at o
  ·rename_i b W q O
   cases o
   obtain⟨g,R,U⟩:=bj h q
   rw[List.map_cons,List.map_cons,BV h O,U,R]
  ·cases o
theorem ZZ(h:ao cx m st T w){aa:Oper}{f:Nat}{first fc:Array Operand}{bs:List Nat}(o:aa.op=.makeFunc (.func f) first fc)(q:first.toList=[])(O:ml.qb st fc.toList=some bs){orc:List ak}:
  fb cx T w aa ⟨.clos f bs,st,orc,[]⟩:=by
 refine⟨.func (.func f) #[] (bs.map m).toArray,w,m,cF (s:=Instr.makeFunc (.func f) (first.map (Act.eval ⟨T,aj.D cx⟩)) (fc.map (Act.eval ⟨T,aj.D cx⟩))) (by simp only[execOp,o]) ?_,h,rfl⟩
 have R:first=#[]:=by rw[<-Array.toArray_toList (xs:=first),q]
 have U:fc.map (Act.eval ⟨T,aj.D cx⟩)=(bs.map m).toArray:=by
  rw[<-BV h O]
  apply Array.ext'
  simp
 rw[R,U,Array.map_empty]
 rfl
theorem RV(h:ao cx m st T w){aa:Oper}{f b:Nat}{first fc:Array Operand}{x:Operand}(o:aa.op=.makeFunc (.func f) first fc)(q:first.toList=[x])(O:ml.qb st fc.toList=some [])(R:aW st x=some (.ptr b 0)){orc:List ak}:
  fb cx T w aa ⟨.ck f b,st,orc,[]⟩:=by
 refine⟨.func (.func f) #[m b] #[],w,m,cF (s:=Instr.makeFunc (.func f) (first.map (Act.eval ⟨T,aj.D cx⟩)) (fc.map (Act.eval ⟨T,aj.D cx⟩))) (by simp only[execOp,o]) ?_,h,rfl⟩
 have U:first=#[x]:=by rw[<-Array.toArray_toList (xs:=first),q]
 have W:fc.map (Act.eval ⟨T,aj.D cx⟩)=#[]:=by
  have:=BV h O
  apply Array.ext'
  rw[Array.toList_map,this]
  rfl
 obtain⟨g,g1,g2⟩:=bj h R
 have Y:#[x].map (Act.eval ⟨T,aj.D cx⟩)=#[m b]:=by
  rw[g1,<-g2]
  simp
 rw[U,W,Y]
 rfl
theorem Iu{M:Nat->Prop}{t:ah}:∀{xs:List t.el} {cs:List Value} (n:Nat),bT (aL w M t) cs xs->bT (aL w M t) (cs.take ((xs.take n).length*t.cells)) (xs.take n)
 |[],cs,n,h=>by cases h;simp;rfl
 |x::xs,cs,0,h=>by simp;rfl
 |x::xs,cs,n+1,⟨c1,c2,e,o,O⟩=>by
  have q:=cu t o
  rw[List.take_succ_cons,List.length_cons,Nat.succ_mul,Nat.add_comm,e,<-q,List.take_append,List.take_of_length_le (by omega)]
  rw[show c1.length+(List.take n xs).length*c1.length-c1.length=(List.take n xs).length*t.cells by rw[<-q];omega]
  exact⟨c1,_,rfl,o,Iu n O⟩
theorem YJ(h:ao cx m st T w){aa:Oper}{t e:TypeId}{u:ah}{x U:Operand}{r:Nat}{c:cV}{n:Int}(W:aa.op=.slice t x none (some U) none)(lk:aW st x=some (.row r))(ll:ew cx.P t=some (e,u))
  (lm:eL (aW st U)=some n)(ln:look st.rw r=some c)(lD:c.e=e)(lE:c.t=u)(Y:r<eM)(lo:0<=n/\n<=(c.xs.length:Int)){orc:List ak}{ob:List Prop}:
  fb cx T w aa ⟨.row r,st.dJ r ⟨c.e,c.t,c.xs.take n.toNat⟩,orc,ob⟩:=by
 obtain⟨Z,la,lF⟩:=jr ll
 obtain⟨k,lb⟩:=fF h lm
 have lc:Act.eval ⟨T,aj.D cx⟩ x=m r:=bj h lk
 have ld:=be ln
 obtain⟨cells,le,lp,lq⟩:=h.rows r c ld
 have lr:r∈st.ids:=List.mem_append.2 (.inr (List.mem_map.2 ⟨_,ld,rfl⟩))
 have lf:(c.xs.take n.toNat).length=n.toNat:=by rw[List.length_take];omega
 have ls:∀v q,Instr.sliceAt t v none (some q) none=(do match<-underlying t with
  |.array n lt=>
   let lg<-Instr.sureAddr v
   let(l,h,m)<-Instr.sliceBounds false n n none (some q) none
   let size<-sizeOf lt
   pure (.slice (some (if m=l then lg else lg.add (l*size))) (h-l) (m-l))
  |_=>Instr.slice t v none (some q) none):=fun _ _=>rfl
 have lu:∀(y:Nat) (lh:BoundsCode) (w:World),n<=y->(Instr.sliceBound (.int k n) y lh).run cx.P w=.ok n.toNat w:=by
  intro y lh w lv
  simp[Instr.sliceBound,asIntOf,lo.1,lv]
 have run:∀(a:Option Addr) (len cap:Nat) (w':World),len<=cap->(len:Int)=c.xs.length->(Instr.sliceAt t (.slice a len cap) none (some (.int k n)) none).run cx.P w'=.ok (.slice (if cap=0 then a else a.map (·.add (0*u.cells))) n.toNat cap) w':=by
  intro a len cap w' li lG
  rw[ls,Sem.run_bind,run_underlying Z]
  simp only[Result.andThen_ok,Instr.slice,Sem.run_bind,run_underlying Z,Instr.sliceBounds,Sem.run_pure,fi la]
  rw[lu cap _ w' (by omega)]
  simp only[Result.andThen_ok,Sem.run_pure,Sem.run_bind,fi la]
  simp
 rcases le.2 with ⟨o,lH⟩|⟨g,cap,cur,o,lw,lx,li,ly,lz,lA⟩
 ·have lj:n=0:=by omega
  have lB:c.xs.take n.toNat=[]:=by rw[lj];rfl
  refine⟨.slice none 0 0,w,bH m r (.slice none 0 0),cF (s:=Instr.sliceAt t (.slice none 0 0) none (some (.int k n)) none) (by simp only[execOp,W,lc,o,Option.map_none,Option.map_some,lb]) ?_,?_,(ct _ _ _).symm⟩
  ·rw[run none 0 0 w (Nat.le_refl _) (by omega),lj]
   rfl
  ·rw[lB]
   exact zc h r c.e (.inr Y) c.t
 ·have O:dG cx m st w r (.slice (some ⟨g,0,none⟩) n.toNat cap) w:=
   ⟨⟨rfl,rfl,rfl,Nat.le_refl _,fun _=>Nat.le_refl _⟩,fun _ _ _=>rfl,fun lC R=>.inl ⟨lr,by cases R;rw[o];rfl⟩⟩
  refine⟨.slice (some ⟨g,0,none⟩) n.toNat cap,w,_,cF (s:=Instr.sliceAt t (.slice (some ⟨g,0,none⟩) c.xs.length cap) none (some (.int k n)) none) (by simp only[execOp,W,lc,o,Option.map_none,Option.map_some,lb]) ?_,
   h.dJ (.inr Y) O (fun lC R=>by cases R;exact lp g (by rw[o];rfl)) (cells:=cells.take ((c.xs.take n.toNat).length*c.t.cells)) ⟨by rw[List.length_take,le.1,Nat.min_eq_left];exact Nat.mul_le_mul_right _ (by rw[List.length_take];omega),.inr ⟨g,cap,cur,by simp only[lf],lw,lx,by simp only[lf];omega,ly,lz,?_⟩⟩
    (dD (fun _ _=>cS O.keeps (O.mut xh) c.t) (Iu n.toNat lq)),(ct _ _ _).symm⟩
  ·rw[run (some ⟨g,0,none⟩) c.xs.length cap w li rfl]
   congr 2
   split
   ·rfl
   ·simp[Addr.add]
  ·simp only[]
   rw[<-lA,List.take_take,Nat.min_eq_left]
   exact Nat.mul_le_mul_right _ (by rw[List.length_take];omega)
end Go.Ev
namespace Go.Ev
open Go Go.RowKit
variable [cm]
variable {cx:bJ} {m:Nat->Value} {st:af} {T:Array Value} {w w':World}
variable [aj cx]
theorem Qs{M:Nat->Prop}(s:List UInt8):bT (aL w M (.int .u8)) ((dM s).map (Value.int .u8)) (dM s):=by
 unfold dM
 induction s with
 |nil=>rfl
 |cons b s o=>exact⟨[_],_,rfl,rfl,o⟩
theorem Bb{P:Program}{a:Addr}{news:List Value}(h:∀j u,news[j]? =some u->w.cell? (a.add j)=some u){n size:Nat}(q:news.length=n*size):
  ∀w',(∀b,b<w.heap.size->w'.heap[b]? =w.heap[b]?)->(loadCells a (n*size)).run P w'=.ok news.toArray w':=by
 intro w' O
 rw[<-q]
 refine EP (w:=w') fun j u R=>?_
 have o:=h j u R
 rw[World.cell?_of_block (w:=w) (O _ (World.block_lt_of_cell? w _ o))]
 exact o
theorem Li{P:Program}(s:List UInt8):Builtin.lenOf (.string (bytesOf s))=pure (dM s).length/\
  ∀w,(Builtin.firstCells (ah.int .u8).cells (dM s).length (.string (bytesOf s))).run P w=.ok ((dM s).map (Value.int .u8)).toArray w:=by
 constructor
 ·show pure (bytesOf s).size=_
  rw[jf]
  simp[dM]
 ·intro w
  show Sem.run P (pure (((bytesOf s).extract 0 (dM s).length).data.map fun b=>Value.int .u8 b.toNat)) w=_
  rw[Sem.run_pure]
  congr 1
  apply Array.ext'
  rw[Array.toList_map,Lib.extract_data]
  simp[bytesOf,dM]
theorem KE(h:ao cx m st T w){u:ah}{t:TypeId}{x:Operand}{W:List u.el}(o:na cx.P st u t x=some W):
  ((∃q,cx.P.underlying t=some (.slice q))\/cx.P.underlying t=some .string)/\
  ∃lf:List Value,Builtin.lenOf (Act.eval ⟨T,aj.D cx⟩ x)=pure W.length/\
   (∀w',(∀b,b<w.heap.size->w'.heap[b]? =w.heap[b]?)->(Builtin.firstCells u.cells W.length (Act.eval ⟨T,aj.D cx⟩ x)).run cx.P w'=.ok lf.toArray w')/\bT (aL w (au cx m st.ids) u) lf W:=by
 unfold na at o
 split at o
 ·rename_i r la
  split at o
  case h_2=>cases o
  rename_i q O
  refine⟨.inl ⟨q,O⟩,?_⟩
  split at o
  ·rename_i c R
   have lg:=be R
   obtain⟨lr,qc,lh⟩:=c
   have e:=ak.dx o
   cases e
   obtain⟨cells,lb,_,Y⟩:=h.rows r _ lg
   have U:Act.eval ⟨T,aj.D cx⟩ x=m r:=bj h la
   rcases lb.2 with ⟨Z,li⟩|⟨g,cap,cur,Z,_⟩
   ·have lc:lh=[]:=List.eq_nil_of_length_eq_zero li
    subst lc
    cases Y
    exact⟨[],by rw[U,Z];rfl,fun w' _=>by rw[U,Z];rfl,rfl⟩
   ·refine⟨cells,by rw[U,Z];rfl,fun w' ld=>?_,Y⟩
    rw[U,Z]
    exact Bb (lb.cells (g:=g) (by rw[Z];rfl)) lb.1 w' ld
  ·cases o
 ·rename_i ls xs la
  have lj:∃q,cx.P.underlying t=some (.slice q):=by
   cases ai:cx.P.underlying t with
   |none=>rw[ai]at o;exact absurd o (by simp)
   |some le=>
    rw[ai]at o
    cases le<;>first|exact⟨_,rfl⟩|exact absurd o (by simp)
  obtain⟨q,O⟩:=lj
  rw[O]at o
  refine⟨.inl ⟨q,O⟩,?_⟩
  have e:=ak.dx o
  cases e
  obtain⟨a,cap,cells,R,lk,_,ll,Y,lm⟩:=(bC (t:=.ab u) rfl).1 (bj h la)
  simp only[List.cons.injEq,and_true]at R
  have ln:=jC (fun _ _=>cu u) _ _ Y
  cases a with
  |none=>
   have lt:cap=0:=ll rfl
   have lc:W=[]:=List.eq_nil_of_length_eq_zero (by have:List.length W<=cap:=lk;omega)
   subst lc
   cases Y
   exact⟨[],by rw[R];rfl,fun w' _=>by rw[R];rfl,rfl⟩
  |some b=>
   refine⟨cells,by rw[R];rfl,fun w' ld=>?_,Y⟩
   rw[R]
   refine Bb (fun j v lo=>?_) ln w' ld
   obtain⟨lu,lp,lq,_⟩:=lm j v lo
   cases lp
   exact lq
 ·rename_i s la
  have O:cx.P.underlying t=some .string:=by
   cases ai:cx.P.underlying t with
   |none=>rw[ai]at o;exact absurd o (by simp)
   |some le=>
    rw[ai]at o
    cases le<;>first|rfl|exact absurd o (by simp)
  rw[O]at o
  refine⟨.inr O,?_⟩
  have e:=ak.dx o
  cases e
  obtain⟨U,_⟩:=eW.1 (bj h la)
  exact⟨(dM s).map (Value.int .u8),by rw[U];exact(Li (P:=cx.P) s).1,fun w' _=>by rw[U];exact(Li (P:=cx.P) s).2 w',Qs s⟩
 ·cases o
theorem QJ(h:ao cx m st T w){aa:Oper}{d:Nat}{args:Array Operand}{la:Array TypeId}{s x:Operand}{t lb e r:Nat}{u:ah}{c:cV}{q:List c.t.el}
  (lq:aa.op=.call {callee:=.builtin .append,args:=args,argTypes:=la})(lr:args.toList=[s,x])(ls:la.toList=[t,lb])(lt:ew cx.P t=some (e,u))(O:sb cx.P st d t s=some (r,c))
  (li:c.e=e)(lu:c.t=u)(lv:om cx.P e=true)(lw:zeroOf cx.P e=some u)(lx:na cx.P st c.t lb x=some q)(ly:r<eM)(lj:c.xs.length+q.length<=bF){orc:List ak}{ob:List Prop}:
  fb cx T w aa ⟨.row r,st.dJ r ⟨c.e,c.t,c.xs++q⟩,orc,ob⟩:=by
 obtain⟨lz,l4,l5⟩:=jr lt
 obtain⟨i,z,_,lk,ll,lA,lB⟩:=kq lw
 obtain⟨i2,lm,lC⟩:=yF lv
 rw[lk]at lm
 cases lm
 obtain⟨lD,Y,lE,lF,le⟩:=KE h lx
 -- the base
 obtain⟨v,R,cells,lG,lH,lI,ln⟩:∃v,Act.eval ⟨T,aj.D cx⟩ s=v/\∃cells,w.ownsRow 0 c.e c.t.cells v c.xs.length cells/\(∀g,own v g->cx.w0.heap.size<=g\/cx.X g)/\
   bT (aL w (au cx m st.ids) c.t) cells c.xs/\∀g,own v g->r∈st.ids/\own (m r) g:=by
  unfold sb at O
  split at O
  ·rename_i l6
   split at O
   ·rename_i l7 l8 l9
    cases O
    refine⟨.slice none 0 0,rfl,[],World.ownsRow_nil w 0 _ _,?_,rfl,?_⟩
    ·intro g U;cases U
    ·intro g U;cases U
   ·cases O
  ·split at O
   ·rename_i ab lJ
    split at O
    ·rename_i c' lK
     cases O
     have lo:=be lK
     obtain⟨cells,o,W,lL⟩:=h.rows r c lo
     exact⟨m r,bj h lJ,cells,o,W,lL,fun g U=>⟨List.mem_append.2 (.inr (List.mem_map.2 ⟨_,lo,rfl⟩)),U⟩⟩
    ·cases O
   ·cases O
 have lc:i.size=c.t.cells:=by rw[lu];exact ll
 have lM:z.cells.size=i.size:=by
  rw[ll,<-cu u (lB w (au cx m st.ids))]
  simp
 have lN:Y.length=q.length*i.size:=by rw[lc];exact jC (fun _ _=>cu c.t) _ _ le
 have lO:∀v∈Y,v.oneCell'=true:=by
  have key:∀(cs:List Value) (xs:List c.t.el),bT (aL w (au cx m st.ids) c.t) cs xs->∀v∈cs,v.oneCell'=true:=by
   intro cs xs
   induction xs generalizing cs with
   |nil=>intro lP v R;cases lP;simp at R
   |cons y q lf=>
    rintro⟨c1,c2,rfl,o,W⟩ v R
    rcases List.mem_append.1 R with R|R
    ·exact hU c.t o v R
    ·exact lf _ W v R
  exact key Y q le
 have lQ:c.xs.length+q.length<=maxLen:=Nat.le_trans lj y9
 have lR:(c.xs.length+q.length)*i.bytes<=140737488355328:=by
  have o:c.xs.length+q.length<=2147483648:=lj
  calc (c.xs.length+q.length)*i.bytes<=2147483648*65536:=Nat.mul_le_mul o lC
   _=140737488355328:=by decide
 obtain⟨v',w',lS,lg,lT,lU,lp⟩:=JI (P:=cx.P) (w:=w) t lb aa.type e i z lz lD lk lA lM (Act.eval ⟨T,aj.D cx⟩ x) q.length Y lE
  (by rw[lc];exact lF) lN lO v c.xs.length cells (by rw[lc,<-li];exact lG) lQ lR
 have Z:dG cx m st w r v' w':=⟨lT,fun b lV lW=>lU b lV fun lX=>lW (ln b (gP lX)),fun g U=>by
  rcases lp g (Da lg U)with o|o
  ·exact .inl (ln g (gP o))
  ·exact .inr o⟩
 have lY:ao cx (bH m r v') (st.dJ r ⟨c.e,c.t,c.xs++q⟩) T w':=by
  refine h.dJ (.inr ly) Z (fun g U=>?_) (cells:=cells++Y) ?_ ?_
  ·rcases lp g (Da lg U)with o|o
   ·exact lH g (gP o)
   ·exact .inl (Nat.le_trans (qE h) o.1)
  ·simp only[List.length_append]
   rw[<-lc,li]
   exact lg
  ·simp only[]
   have lZ:∀(c1 c2:List Value) (ld lh:List c.t.el) (f:List Value->c.t.el->Prop),bT f c1 ld->bT f c2 lh->bT f (c1++c2) (ld++lh):=by
    intro c1 c2 ld lh f
    induction ld generalizing c1 with
    |nil=>intro o W;cases o;exact W
    |cons y q lf=>rintro⟨d1,d2,rfl,g1,g2⟩ W;exact⟨d1,d2++c2,by simp,g1,lf _ g2 W⟩
   exact lZ _ _ _ _ _ (dD (fun _ _=>cS Z.keeps (Z.mut xh) c.t) lI) (dD (fun _ _=>cS Z.keeps (Z.mut xh) c.t) le)
 have l0:args=#[s,x]:=by rw[<-Array.toArray_toList (xs:=args),lr]
 have l3:la=#[t,lb]:=by rw[<-Array.toArray_toList (xs:=la),ls]
 subst l0
 subst l3
 refine⟨v',w',_,?_,lY,(ct _ _ _).symm⟩
 simp only[execOp,lq,resolve,invoke,builtin,Sem.run_bind,Sem.run_pure,Result.andThen_ok,List.map_toArray,List.map_cons,List.map_nil,R,lS]
theorem U9{P:Program}(w:World)(src o e:TypeId)(s:ByteArray)(q:P.underlying src=some .string)(ai:P.underlying o=some (.slice e))(O:P.underlying e=some (.int .i32)):
  (convert src o (.string s)).run P w=.ok (.slice (some ⟨w.heap.size,0,none⟩) (Conv.runesFrom s s.size 0 #[]).size (grownCap w (Conv.runesFrom s s.size 0 #[]).size 0 e))
   (w.drew.alloc (.cells (Conv.runesFrom s s.size 0 #[]++Array.replicate (grownCap w (Conv.runesFrom s s.size 0 #[]).size 0 e-(Conv.runesFrom s s.size 0 #[]).size) (.int .i32 0)) e)):=by
 simp[convert,run_underlying q,run_underlying ai,run_underlying O,Conv.stringToRunes,Question.forced,newRow,grownCap]
theorem Xm(h:ao cx m st T w){aa:Oper}{d:Nat}(O:d<cx.n){src o e:TypeId}{x:Operand}{s:List UInt8}(R:aa.op=.convert src o x)(U:dL st x=some ⟨.str,s⟩)(W:cx.P.underlying src=some .string)(ai:ew cx.P o=some (e,.int .i32))
  {orc:List ak}{ob:List Prop}:fb cx T w aa ⟨.row d,st.dJ d ⟨e,.int .i32,eJ s⟩,orc,ob⟩:=by
 obtain⟨Y,Z⟩:=eW.1 (dt h U)
 obtain⟨la,lb,_⟩:=jr ai
 have lc:cx.P.underlying e=some (.int .i32):=by
  obtain⟨i,_,_,ld⟩:=dw lb
  exact ld
 have le:Conv.runesFrom (bytesOf s) (bytesOf s).size 0 #[]=((eJ s).map (Value.int .i32)).toArray:=by
  rw[NQ,jf]
  simp[eJ]
 have lf:(eJ s).length<=s.length:=Lt s s.length 0
 have lg:(eJ s).length<=maxLen:=Nat.le_trans lf Z
 have q:=U9 (P:=cx.P) w src o e (bytesOf s) W la lc
 rw[le]at q
 simp only[List.size_toArray,List.length_map]at q
 have lh:=grownCap_ge w (eJ s).length 0 e
 have li:=grownCap_le_maxLen w (eJ s).length 0 e lg
 refine⟨_,_,_,cF (s:=convert src o (.string (bytesOf s))) (by simp only[execOp,R,Y];rfl) q,
  we h d (.inl O) (xs:=eJ s) (cells:=(eJ s).map (Value.int .i32)) (u:=.int .i32) (e:=e) _ {os:=rfl,tape:=rfl,output:=rfl,size:=by simp,drawn:=by first|exact fun _=>Nat.le_refl _|exact fun _=>Nat.le_succ _,block:=fun b lj=>Below.heap_alloc w.drew _ b lj} (heap_alloc_new w.drew _) lh li ?_ ?_ ?_,(ct _ _ _).symm⟩
 ·simp only[Array.size_append,List.size_toArray,List.length_map,Array.size_replicate,ah.cells]
  omega
 ·simp only[Array.toList_append,ah.cells,Nat.mul_one]
  rw[List.take_append_of_le_length (by rw[List.length_map];exact Nat.le_refl _)]
  rw[List.take_of_length_le (by rw[List.length_map];exact Nat.le_refl _)]
 ·have:∀(l:List Int),bT (aL w (au cx m st.ids) (.int .i32)) (l.map (Value.int .i32)) l:=by
   intro l
   induction l with
   |nil=>rfl
   |cons b s lk=>exact⟨[_],_,rfl,rfl,lk⟩
  exact this _
theorem UQ(h:ao cx m st T w){aa:Oper}{src o e:TypeId}{x:Operand}{s:List UInt8}(U:aa.op=.convert src o x)(W:dL st x=some ⟨.str,s⟩)(Y:cx.P.underlying src=some .string)(ai:ew cx.P o=some (e,.int .u8))
  {orc:List ak}{ob:List Prop}:fb cx T w aa ⟨.val (.ab (.int .u8)) (dM s),st,orc,ob⟩:=by
 obtain⟨Z,la⟩:=eW.1 (dt h W)
 obtain⟨lb,lc,_⟩:=jr ai
 have ld:cx.P.underlying e=some (.int .u8):=by
  obtain⟨i,_,_,le⟩:=dw lc
  exact le
 have O:=run_bytes_of_string (P:=cx.P) w src o e (bytesOf s) Y lb ld
 have lf:(bytesOf s).size=s.length:=jf s
 rw[lf]at O
 have lg:=grownCap_ge w s.length 0 e
 have lh:=grownCap_le_maxLen w s.length 0 e la
 have R:(dM s).length=s.length:=by simp[dM]
 refine⟨_,_,m,cF (s:=convert src o (.string (bytesOf s))) (by simp only[execOp,U,Z];rfl) O,h.ext {os:=rfl,tape:=rfl,output:=rfl,size:=by simp,drawn:=by first|exact fun _=>Nat.le_refl _|exact fun _=>Nat.le_succ _,block:=fun b li=>Below.heap_alloc w.drew _ b li},
  (bC (t:=.ab (.int .u8)) rfl).2 ⟨some ⟨w.heap.size,0,none⟩,grownCap w s.length 0 e,(dM s).map (Value.int .u8),congrArg (fun n=>[Value.slice _ n _]) R.symm,Nat.le_trans (Nat.le_of_eq R) lg,lh,(fun h=>by cases h),?_,?_⟩⟩
 ·have:∀(w:World) (M:Nat->Prop) (l:List Int),bT (aL w M (.int .u8)) (l.map (Value.int .u8)) l:=by
   intro w M l
   induction l with
   |nil=>rfl
   |cons b s lj=>exact⟨[_],_,rfl,rfl,lj⟩
  exact this _ _ _
 ·intro j u q
  refine⟨_,rfl,?_,fun lk=>Nat.lt_irrefl _ (h.zw lk)⟩
  have ll:j<s.length:=by have:=(List.getElem?_eq_some_iff.1 q).1;simpa[dM]using this
  have lm:(⟨w.heap.size,0,none⟩:Addr).add j=⟨w.heap.size,0+j,none⟩:=by unfold Addr.add;split<;>simp_all
  have ln:=oL (heap_alloc_new w.drew (.cells (bytesRow (bytesOf s) (grownCap w s.length 0 e)) e ((bytesRow (bytesOf s) (grownCap w s.length 0 e)).size,(bytesRow (bytesOf s) (grownCap w s.length 0 e)).size+1))) (0+j)
  rw[lm]
  refine Eq.trans ln ?_
  rw[Nat.zero_add]
  unfold bytesRow
  rw[Array.getElem?_append_left (by simp[bytesOf];exact ll)]
  rw[<-Array.getElem?_toList,Array.toList_map]
  simp only[dM,List.map_map,List.getElem?_map]at q
  simp only[bytesOf,List.getElem?_map]
  exact q
theorem Dg{M:Nat->Prop}{t:ah}:∀{xs:List t.el} {cs:List Value} (n:Nat),bT (aL w M t) cs xs->n<=xs.length->bT (aL w M t) (cs.drop (n*t.cells)) (xs.drop n)
 |xs,cs,0,h,_=>by rw[Nat.zero_mul];exact h
 |[],_,n+1,_,o=>by simp at o
 |x::xs,cs,n+1,⟨c1,c2,e,q,O⟩,o=>by
  have R:=cu t q
  have U:cs.drop ((n+1)*t.cells)=c2.drop (n*t.cells):=by
   rw[e,Nat.succ_mul,Nat.add_comm,<-List.drop_drop,<-R,List.drop_left]
  rw[U]
  exact Dg n O (by simpa using o)
theorem RI(h:ao cx m st T w){aa:Oper}{t:TypeId}{u:ah}{len:Nat}{x Z:Operand}{r lj lk:Nat}{i0 n:Int}{c:cV}{la:List c.t.el}(lu:aa.op=.slice t x (some Z) none none)(lv:aW st x=some (.ep r i0 lj lk))(lw:eL (aW st Z)=some n)
  (R:r5 cx.P t=some (len,u))(ll:look st.rw r=some c)(q:(c.t.beq u&&(i0==0&&(Nat.beq lj 0&&Nat.beq lk c.t.cells)))=true)(lx:dK c.xs n (c.xs.length:Int)=some la)(lm:c.xs.length=len){orc:List ak}{ob:List Prop}:
  fb cx T w aa ⟨.val (.ab c.t) la,st.freeze r c,orc,ob⟩:=by
 simp only[Bool.and_eq_true,beq_iff_eq]at q
 obtain⟨lb,lc,W,lP⟩:=q
 have W:=Nat.eq_of_beq_eq_true W
 obtain rfl:=ah.eq_of_beq lb
 obtain⟨k,ly⟩:=fF h lw
 obtain⟨lz,O,_,ld⟩:=vA lx
 rw[Int.toNat_natCast,List.take_length]at ld
 unfold r5 at R
 split at R
 case h_2=>cases R
 rename_i lQ e lA
 split at R
 case h_2=>cases R
 rename_i lR lB
 cases R
 obtain⟨g,lS,lT,lC,le⟩:=bj h lv
 have le:Act.eval ⟨T,aj.D cx⟩ x=.pointer (some ⟨g,0,none⟩):=by rw[le,lc,W];simp
 have lD:=h.freeze (be ll)
 have lf:=be ll
 have ln:r∈st.ids:=List.mem_append.2 (.inr (List.mem_map.2 ⟨_,lf,rfl⟩))
 have lE:aL w (au cx m (st.freeze r c).ids) (.ab c.t) [m r] c.xs:=by
  have lF:∀c',(r,c')∉st.ae:=fun c' q=>(List.nodup_append.1 h.keys).2.2 r (List.mem_map.2 ⟨_,q,rfl⟩) r (List.mem_map.2 ⟨_,lf,rfl⟩) rfl
  have lo:∀i,i∈(st.freeze r c).ids->i∈st.ids/\i≠r:=by
   intro i o
   rcases List.mem_append.1 o with o|o
   ·obtain⟨⟨b,s⟩,lg,rfl⟩:=List.mem_map.1 o
    obtain⟨⟨lU,lG⟩,lp,Y⟩:=List.mem_map.1 lg
    cases Y
    exact⟨List.mem_append.2 (.inl (List.mem_map.2 ⟨_,lp,rfl⟩)),fun e=>lF lG (by simp only at e;rw[<-e];exact lp)⟩
   ·obtain⟨⟨b,s⟩,lg,rfl⟩:=List.mem_map.1 o
    obtain⟨O,U⟩:=dl.1 lg
    exact⟨List.mem_append.2 (.inr (List.mem_map.2 ⟨_,O,rfl⟩)),U⟩
  refine h.wV lf (fun b _ q=>ne (fun i o=>(lo i o).1) q) fun lq lr=>?_
  rintro(lH|⟨i,o,lI⟩)
  ·have O:=h.outer lq lH
   rcases(h.lt ln lr).2 with U|U
   ·omega
   ·exact O.2 U
  ·obtain⟨O,U⟩:=lo i o
   exact h.apart i r O ln U lq lI lr
 obtain⟨a,cap,cells,lh,lV,lW,lX,ls,lJ⟩:=lE
 rw[lC]at lh
 simp only[List.cons.injEq,and_true,Value.slice.injEq]at lh
 obtain⟨lK,lY,lZ⟩:=lh
 subst lK
 have lL:n.toNat<=c.xs.length:=by omega
 have lM:=jC (fun _ _=>cu c.t) _ _ ls
 have lt:la.length=c.xs.length-n.toNat:=by rw[ld,List.length_drop]
 refine⟨.slice (some (if c.xs.length=n.toNat then⟨g,0,none⟩else(⟨g,0,none⟩:Addr).add (n.toNat*c.t.cells))) (c.xs.length-n.toNat) (c.xs.length-n.toNat),w,m,
  cF (s:=Instr.sliceAt t (Act.eval ⟨T,aj.D cx⟩ x) (some (Act.eval ⟨T,aj.D cx⟩ Z)) none none) (by simp only[execOp,lu];rfl) ?_,lD,?_⟩
 ·simp only[le,ly,Instr.sliceAt,Sem.run_bind,run_underlying lA,Result.andThen_ok,Instr.sureAddr,Sem.run_pure]
  have q:(Instr.sliceBounds false len len (some (.int k n)) none none).run cx.P w=.ok (n.toNat,len,len) w:=by
   have lN:n<=(len:Int):=by rw[<-lm];exact O
   simp[Instr.sliceBounds,Instr.sliceBound,asIntOf,lz,lN]
  rw[q]
  simp only[Result.andThen_ok,Sem.run_bind,fi lB,Sem.run_pure,lm]
 ·refine(bC (t:=.ab c.t) rfl).2 ⟨_,c.xs.length-n.toNat,cells.drop (n.toNat*c.t.cells),by rw[lt],by rw[lt];exact Nat.le_refl _,by omega,(fun e=>by cases e),?_,?_⟩
  ·rw[ld];exact Dg _ ls lL
  ·intro j u li
   rw[List.getElem?_drop]at li
   obtain⟨b,lb,lc,W⟩:=lJ _ _ li
   cases lb
   have lO:=(List.getElem?_eq_some_iff.1 li).1
   by_cases Y:c.xs.length=n.toNat
   ·rw[lM,Y]at lO
    omega
   ·refine⟨_,rfl,?_,?_⟩
    ·rw[if_neg Y,add_add]
     exact lc
    ·rw[if_neg Y,kg]
     exact W
theorem If(h:ao cx m st T w){aa:Oper}{d:Nat}(ai:d<cx.n){orc:List ak}{r:Ba}(o:ml cx.P st aa d orc=some r)(Z:bW r.ob):fb cx T w aa r:=by
 unfold ml at o
 split at o
 ·rename_i q
  split at o
  ·cases o;exact N5 h ai (.inl q)
  ·cases o
 ·rename_i q
  split at o
  ·cases o;exact N5 h ai (.inr q)
  ·cases o
 ·rename_i t q
  split at o
  ·rename_i n u U;cases o;exact Y7 h ai q U
  ·split at o
   ·rename_i e u U
    cases aJ:Nat.blt (d+1000000) eM with
    |false=>rw[aJ]at o;cases o
    |true=>rw[aJ]at o;cases o;exact V4 h ai (dg aJ) q U
   ·split at o
    ·rename_i e U
     cases aJ:Nat.blt (d+1000000) eM with
     |false=>rw[aJ]at o;cases o
     |true=>rw[aJ]at o;cases o;exact aad h ai (dg aJ) q U
    ·split at o
     ·rename_i u U
      cases lb:w7 u<;>rw[lb]at o<;>cases o
      ·exact WP h ai q U
      ·exact ab5 h ai q U
     ·cases o
 ·rename_i t x q
  split at o
  ·rename_i u s R O
   split at o
   ·rename_i l ld ln;cases o;exact Ru h ai q O ld ln
   ·cases o
  ·cases o
 ·rename_i t n parts q
  split at o
  ·rename_i e u lc
   split at o
   ·rename_i xs O
    split at o
    ·rename_i le lf lg lh
     cases o
     exact WA h ai q lc O (Nat.eq_of_beq_eq_true lf) (Nat.le_of_ble_eq_true lg) lh
    ·cases o
   ·cases o
  ·cases o
 ·rename_i t parts q
  split at o
  ·rename_i n u lC e i la R ll
   split at o
   ·rename_i xs le z O lo U
    split at o
    ·rename_i lb
     cases o
     simp only[Bool.and_eq_true]at lb
     obtain⟨⟨lp,lq⟩,lr⟩:=lb
     obtain rfl:=ah.eq_of_beq lq
     obtain⟨_,_,_,lD,d2,lm,_⟩:=dw la
     have ls:cx.P.underlying t=some (.array n e):=by rw[R]at lm;cases lm;exact R
     exact Za h q la ll U ls lo O (Nat.eq_of_beq_eq_true lp) (Nat.eq_of_beq_eq_true lr)
    ·cases o
   ·cases o
  ·cases o
 ·rename_i t l c q
  split at o
  ·rename_i e u n k lc ld Y
   split at o
   ·rename_i le W U
    cases R:u.beq le with
    |false=>rw[R]at o;cases o
    |true=>
     rw[R]at o
     cases o
     obtain rfl:=ah.eq_of_beq R
     exact X7 h ai q lc ld Y W U Z.1
   ·cases o
  ·cases o
 ·rename_i t x q
  split at o
  ·rename_i s O la;cases o;exact Wt h ai q O la
  ·rename_i k v y lt lu O la;cases o;exact acd h ai q O la
  ·cases o
 ·rename_i t r q
  split at o
  ·rename_i lt lu la
   split at o
   ·rename_i k v lE lF
    split at o
    ·rename_i lb
     cases o
     simp only[Bool.and_eq_true]at lb
     exact aau h ai q la lb.2
    ·cases o
   ·cases o
  ·cases o
 ·rename_i x q
  split at o
  ·rename_i b O
   split at o
   ·rename_i k v left last W
    cases o
    exact LA h q O W Z.1
   ·cases o
  ·cases o
 ·rename_i x q
  split at o
  ·rename_i b O
   split at o
   ·rename_i k v left p W
    cases o
    exact SG h q O W
   ·cases o
  ·cases o
 ·rename_i x q
  split at o
  ·rename_i b lG orc' O
   split at o
   ·rename_i s p W
    split at o
    ·cases o;exact(NO h q O W).1 Z.1
    ·cases o;exact(NO h q O W).2 Z.1
   ·cases o
  ·cases o
 ·rename_i src lH x q
  split at o
  ·rename_i s e O li lv;cases o;exact Xm h ai q O li lv
  ·rename_i s e O li ai;cases o;exact UQ h q O li ai
  ·cases o
 ·rename_i f first fc q
  split at o
  ·rename_i bs lj Y;cases o;exact ZZ h q lj Y
  ·rename_i x lj Y
   split at o
   ·rename_i b O;cases o;exact RV h q lj Y O
   ·cases o
  ·cases o
 ·rename_i t x ll q
  split at o
  ·rename_i r e u n O lc lw
   split at o
   ·rename_i c Y
    split at o
    ·rename_i lf lg lh
     cases o
     exact YJ h q O lc lw Y (Nat.eq_of_beq_eq_true lf) (ah.eq_of_beq lg) (dg lh) Z.1
    ·cases o
   ·cases o
  ·cases o
 ·rename_i t x lI q
  split at o
  ·rename_i r i0 lJ lK n len u v orc' O ld lk
   split at o
   ·rename_i c Y
    split at o
    ·rename_i lx W lL
     cases o
     exact RI h q O ld lk Y W Z.1 Z.2.1
    ·cases o
   ·cases o
  ·cases o
 ·rename_i c q
  split at o
  ·rename_i args lM
   split at o
   ·rename_i s x t lN lk ly
    split at o
    ·rename_i e u r c lc lz
     split at o
     ·rename_i le lx lf lg lh lA lB
      cases R:u.beq le&&Nat.blt r eM with
      |false=>rw[R]at o;cases o
      |true=>
       rw[R]at o
       cases o
       rw[Bool.and_eq_true]at R
       obtain rfl:=ah.eq_of_beq R.1
       exact QJ h q lk ly lc lz (Nat.eq_of_beq_eq_true lf) (ah.eq_of_beq lg) lh lA lB (dg R.2) Z.1
     ·cases o
    ·cases o
   ·cases o
  ·cases o
 ·cases o
end Go.Ev
namespace Go.Ev
open Go Go.RowKit
variable [cm]
variable {cx:bJ} {m:Nat->Value} {st:af} {T:Array Value} {w w':World}
variable [aj cx]
structure jk where
 flat:Bool
 fQ:Nat
 fc:List ah
 rel:List ak->List ak->Prop
def kQ(w:World)(M:Nat->Prop)(v:Value):List ak->Prop
 |[]=>True
 |[u]=>bf w M v u.t u.x
 |l=>∃vs:List Value,v=.tuple vs.toArray/\eg w M vs l
structure aV(P:Program)(G:World->Prop)(f:Nat)(F:jk):Prop where
 enters:∀args w,(callFunc f args).run P w=.ok (.enter f args) w
 shape:∀o aq,F.rel o aq->aq.length=F.fQ/\(F.flat=true->∀u∈aq,u.t.flat=true)
 calls:∀(w:World) (M:Nat->Prop) (vs:List Value) (o aq:List ak),G w->(∀b,M b->b<w.heap.size)->F.rel o aq->eg w M vs o->
  Calls P f vs.toArray w fun e w'=>∃v,e=.returned v/\kQ w' M v aq/\Ext w w'
structure Env where
 P:Program
 G:World->Prop
 n:Nat
 fns:List (Nat×jk)
structure bE(E:Env)(cx:bJ):Prop where
 P:cx.P=E.P
 n:cx.n=E.n
 rA:∀w,Frame cx.w0 w cx.X->E.G w
 fns:∀f F,(f,F)∈E.fns->aV E.P E.G f F
def mr(st:af)(b off:Nat)(u:ah):Option ak:=
 match look st.ae b with
 |some (.cells l _)=>match pack u ((l.drop off).map (nR st))with
  |some (x,_)=>some ⟨.ptr u,x⟩
  |none=>none
 |_=>none
def qi(st:af):List Nat->List ah->Option (List ak)
 |[],[]=>some []
 |b::bs,u::us=>match mr st b 0 u,qi st bs us with
  |some v,some vs=>some (v::vs)
  |_,_=>none
 |_,_=>none
def pairUp:List ak->ak
 |[]=>⟨.unit,()⟩
 |u::us=>⟨.pair u.t (pairUp us).t,(u.x,(pairUp us).x)⟩
def IH:ah->List ah
 |.pair (.ptr u) r=>u::IH r
 |_=>[]
def rH(st:af)(b off:Nat)(u:ah):Option ak:=
 match u with
 |.fn f t=>match look st.ae b with
  |some (.cells l _)=>match l.drop off with
   |.clos g cs::_=>match Nat.beq g f,qi st cs (IH t)with
    |true,some vs=>match ak.as ⟨.fn f (pairUp vs).t,(pairUp vs).x⟩ (.fn f t)with
     |some y=>some ⟨.ptr (.fn f t),y⟩
     |none=>none
    |_,_=>none
   |_=>mr st b off (.fn f t)
  |_=>none
 |u=>mr st b off u
def oS(st:af):List Nat->List ah->Option (List ak)
 |[],[]=>some []
 |b::bs,u::us=>match rH st b 0 u,oS st bs us with
  |some v,some vs=>some (v::vs)
  |_,_=>none
 |_,_=>none
def r9:(t:ah)->t.el->Option (List ak)
 |.unit,_=>some []
 |.pair a b,x=>match r9 b x.2 with
  |some l=>some (⟨a,x.1⟩::l)
  |none=>none
 |_,_=>none
def D8(E:Env)(st:af)(flat:Bool)(t:TypeId)(x:Operand):Option ak:=
 match x with
 |.const (.slice none 0 0)=>match ew E.P t with
  |some (_,u)=>some ⟨.ab u,[]⟩
  |none=>none
 |x=>match aW st x with
  |some (.val t y)=>some ⟨t,y⟩
  |some (.vptr t y)=>some ⟨.ptr t,y⟩
  |some (.row r)=>match flat,look st.rw r with
   |true,some c=>some ⟨.ab c.t,c.xs⟩
   |_,_=>none
  |some (.iter b)=>match flat,look st.ae b with
   |true,some (.mp k v ps)=>some ⟨.map k v,some ps⟩
   |_,_=>none
  |some (.ptr b off)=>match flat,E.P.underlying t with
   |true,some (.pointer e)=>match ty E.P e with
    |some u=>rH st b off u
    |none=>none
   |_,_=>none
  |some (.dP b p)=>match flat,look st.ae b with
   |true,some (.aY o y _)=>match kz o y p []with
    |some (r,_,[])=>some ⟨.ptr r.t,r.x⟩
    |_=>none
   |_,_=>none
  |some (.clos f bs)=>match flat,look E.fns f with
   |true,some F=>match oS st bs F.fc with
    |some l=>some ⟨.fn f (pairUp l).t,(pairUp l).x⟩
    |none=>none
   |_,_=>none
  |_=>none
def oD(E:Env)(st:af)(flat:Bool):List TypeId->List Operand->Option (List ak)
 |[],[]=>some []
 |t::o,x::xs=>match D8 E st flat t x,oD E st flat o xs with
  |some v,some vs=>some (v::vs)
  |_,_=>none
 |_,_=>none
def rF:List ak->ap
 |[]=>.any
 |[u]=>.val u.t u.x
 |l=>.dW l
def tN(E:Env)(st:af)(x:Operand):Option (Nat×jk×List ak):=
 match aW st x with
 |some (.clos f bs)=>match look E.fns f with
  |some F=>match bs with
   |[]=>some (f,F,[])
   |bs=>match F.flat,oS st bs F.fc with
    |true,some l=>some (f,F,l)
    |_,_=>none
  |none=>none
 |some (.val (.fn f t) y)=>match look E.fns f,r9 t y with
  |some F,some l=>match l.all (fun u=>!u.t.agg)with
   |true=>some (f,F,l)
   |false=>none
  |_,_=>none
 |_=>none
def wR(P:Program)(n:Nat)(name:String):Option Nat:=
 match P.info? n,P.underlying n with
 |some i,some (.struct _)=>match i.methods.find? (·.name==name)with
  |some o=>match o.path.toList,o.func with
   |[],some (f,false)=>some f
   |_,_=>none
  |none=>none
 |_,_=>none
theorem RD{P:Program}{n:Nat}{name:String}{f:Nat}(h:wR P n name=some f)(v:Value)(w:World):(method (P.types.size+Made.depth) n v name).run P w=.ok (f,v) w:=by
 unfold wR at h
 split at h
 case h_2=>cases h
 rename_i i an o q
 split at h
 case h_2=>cases h
 rename_i U aJ
 split at h
 case h_2=>cases h
 rename_i W O R
 cases h
 have e:P.types.size+Made.depth=(P.types.size+99)+1:=rfl
 rw[e]
 unfold method
 simp[Sem.run_bind,typeInfo,o,aJ,O,follow,R,receiverAt,run_underlying q,Place.get]
def HC(P:Program)(st:af)(x:Operand)(name:String):Option (Nat×ak):=
 match aW st x with
 |some (.val (.cP n t) y)=>match wR P n name with
  |some f=>some (f,⟨t,y⟩)
  |none=>none
 |_=>none
def nz(E:Env)(st:af)(c:Call)(orc:List ak):Option dS:=
 match c.callee with
 |.invoke x name=>match HC E.P st x name with
  |some (f,u)=>match look E.fns f with
   |some F=>match oD E st F.flat c.argTypes.toList c.args.toList with
    |some o=>bif Nat.ble F.fQ orc.length then some ⟨rF (orc.take F.fQ),orc.drop F.fQ,[F.rel (u::o) (orc.take F.fQ)]⟩else none
    |none=>none
   |none=>none
  |none=>none
 |.value x=>match tN E st x with
  |some (_,F,l)=>match oD E st F.flat c.argTypes.toList c.args.toList with
   |some o=>bif Nat.ble F.fQ orc.length then some ⟨rF (orc.take F.fQ),orc.drop F.fQ,[F.rel (o++l) (orc.take F.fQ)]⟩else none
   |none=>none
  |none=>none
 |_=>none
theorem J5(h:ao cx m st T w):∀{c:List Value} {l:List ap},cJ w (au cx m st.ids) m c l->cJ w (fun _=>False) m c (l.map (nR st))
 |[],[],_=>trivial
 |[],_::_,h=>h.elim
 |_::_,[],h=>h.elim
 |_::_,_::_,⟨o,q⟩=>⟨KF h o,J5 h q⟩
theorem DJ(h:ao cx m st T w){b off:Nat}{u:ah}{v:ak}(o:mr st b off u=some v){x:Value}(W:∃g,m b=.pointer (some ⟨g,0,none⟩)/\x=.pointer (some ⟨g,off,none⟩)):
  bf w (fun _=>False) x v.t v.x:=by
 unfold mr at o
 split at o
 ·rename_i l Y
  split at o
  ·rename_i y r Z
   cases o
   obtain⟨g,la,rfl⟩:=W
   obtain⟨q,O,_,cells,lb,lc⟩:=h.box (be Y)
   have:q=g:=by rw[la]at O;cases O;rfl
   subst this
   obtain⟨_,ai⟩:=jm off lc
   obtain⟨c1,c2,ld,le,_⟩:=qZ u (J5 h ai) Z
   refine(bC (t:=.ptr u) rfl).2 ⟨_,c1,rfl,le,fun j v R=>⟨?_,fun h=>h⟩⟩
   have U:(cells.toList.drop off)[j]? =some v:=by rw[ld,List.getElem?_append_left (List.getElem?_eq_some_iff.1 R).1];exact R
   rw[List.getElem?_drop]at U
   have lf:(⟨q,off,none⟩:Addr).add j=⟨q,off+j,none⟩:=by unfold Addr.add;split<;>simp_all
   rw[lf,oL lb]
   simpa using U
  ·cases o
 ·cases o
theorem Jb(h:ao cx m st T w):∀{bs:List Nat} {us:List ah} {l:List ak},(∀b∈bs,∀c e,look st.ae b=some (.cells c e)->∃g,m b=.pointer (some ⟨g,0,none⟩))->qi st bs us=some l->eg w (fun _=>False) (bs.map m) l
 |[],[],_,_,o=>by cases o;trivial
 |[],_::_,_,_,o=>by cases o
 |_::_,[],_,_,o=>by cases o
 |b::bs,u::us,l,O,o=>by
  unfold qi at o
  split at o
  ·rename_i v vs q U
   cases o
   refine⟨DJ h q ?_,Jb h (fun b W=>O b (List.mem_cons_of_mem _ W)) U⟩
   unfold mr at q
   split at q
   ·rename_i c e Y
    obtain⟨g,R⟩:=O b List.mem_cons_self c e Y
    exact⟨g,R,R⟩
   ·cases q
  ·cases o
theorem xY(h:ao cx m st T w){b:Nat}{c:List ap}{e:Nat}(o:look st.ae b=some (.cells c e)):∃g,m b=.pointer (some ⟨g,0,none⟩):=by
 obtain⟨g,q,_⟩:=h.box (be o)
 exact⟨g,q⟩
theorem tH{w:World}{M:Nat->Prop}:∀{vs:List Value} {l:List ak},(∀u∈l,u.t.agg=false)->eg w M vs l->aL w M (pairUp l).t vs (pairUp l).x
 |[],[],_,_=>rfl
 |[],_::_,_,h=>h.elim
 |_::_,[],_,h=>h.elim
 |v::vs,u::us,o,⟨q,O⟩=>⟨[v],vs,rfl,(bC (o u List.mem_cons_self)).1 q,tH (fun x R=>o x (List.mem_cons_of_mem _ R)) O⟩
theorem Ng:∀{bs:List Nat} {us:List ah} {l:List ak},qi st bs us=some l->∀u∈l,u.t.agg=false
 |[],[],_,o=>by cases o;simp
 |[],_::_,_,o=>by cases o
 |_::_,[],_,o=>by cases o
 |b::bs,u::us,l,o=>by
  unfold qi at o
  split at o
  ·rename_i v vs q R
   cases o
   intro x O
   rcases List.mem_cons.1 O with rfl|O
   ·unfold mr at q
    split at q
    ·split at q
     ·cases q;rfl
     ·cases q
    ·cases q
   ·exact Ng R x O
  ·cases o
theorem I4(h:ao cx m st T w){b off:Nat}{u:ah}{v:ak}(o:rH st b off u=some v){x:Value}(O:∃g,m b=.pointer (some ⟨g,0,none⟩)/\x=.pointer (some ⟨g,off,none⟩)):
  bf w (fun _=>False) x v.t v.x:=by
 unfold rH at o
 split at o
 ·rename_i f t
  split at o
  ·rename_i l e la
   split at o
   ·rename_i g cs r lb
    split at o
    ·rename_i vs R W
     split at o
     ·rename_i y lc
      cases o
      have R:=Nat.eq_of_beq_eq_true R
      subst R
      have ld:=ak.dx lc
      obtain⟨g0,le,rfl⟩:=O
      obtain⟨U,Y,_,cells,lf,lg⟩:=h.box (be la)
      have:U=g0:=by rw[le]at Y;cases Y;rfl
      subst this
      obtain⟨_,ai⟩:=jm off lg
      rw[lb]at ai
      match lh:cells.toList.drop off,ai with
      |c1::lp,⟨li,_⟩=>
       have lj:c1=.func (.func g) #[] (cs.map m).toArray:=li
       have lk:aL w (fun _=>False) (pairUp vs).t (cs.map m) (pairUp vs).x:=tH (Ng W) (Jb h (fun b _ c e ll=>xY h ll) W)
       have lm:aL w (fun _=>False) (.fn g (pairUp vs).t) [c1] (pairUp vs).x:=⟨cs.map m,by rw[lj],lk⟩
       have ln:aL w (fun _=>False) (.fn g t) [c1] y:=by
        have:∀(a b:ak),a=b->aL w (fun _=>False) a.t [c1] a.x->aL w (fun _=>False) b.t [c1] b.x:=fun a b e h=>e▸h
        exact this _ ⟨.fn g t,y⟩ ld lm
       refine(bC (t:=.ptr (.fn g t)) rfl).2 ⟨_,[c1],rfl,ln,fun j v q=>⟨?_,fun h=>h⟩⟩
       have Z:(cells.toList.drop off)[j]? =some v:=by
        rw[lh]
        match j,q with
        |0,q=>exact q
        |j+1,q=>simp at q
       rw[List.getElem?_drop]at Z
       have lo:(⟨U,off,none⟩:Addr).add j=⟨U,off+j,none⟩:=by unfold Addr.add;split<;>simp_all
       rw[lo,oL lf]
       simpa using Z
      |[],ai=>exact ai.elim
     ·cases o
    ·cases o
   ·exact DJ h o O
  ·cases o
 ·exact DJ h o O
theorem H5{b off:Nat}{u:ah}{v:ak}(o:rH st b off u=some v):(∃c e,look st.ae b=some (.cells c e))/\v.t.agg=false:=by
 have O:∀{u:ah},mr st b off u=some v->(∃c e,look st.ae b=some (.cells c e))/\v.t.agg=false:=by
  intro u o
  unfold mr at o
  split at o
  ·rename_i l e q
   split at o
   ·cases o;exact⟨⟨l,e,q⟩,rfl⟩
   ·cases o
  ·cases o
 unfold rH at o
 split at o
 ·split at o
  ·rename_i l e q
   split at o
   ·split at o
    ·split at o
     ·cases o;exact⟨⟨l,e,q⟩,rfl⟩
     ·cases o
    ·cases o
   ·exact O o
  ·cases o
 ·exact O o
theorem BP(h:ao cx m st T w):∀{bs:List Nat} {us:List ah} {l:List ak},(∀b∈bs,∀c e,look st.ae b=some (.cells c e)->∃g,m b=.pointer (some ⟨g,0,none⟩))->oS st bs us=some l->eg w (fun _=>False) (bs.map m) l
 |[],[],_,_,o=>by cases o;trivial
 |[],_::_,_,_,o=>by cases o
 |_::_,[],_,_,o=>by cases o
 |b::bs,u::us,l,q,o=>by
  unfold oS at o
  split at o
  ·rename_i v vs O U
   cases o
   obtain⟨⟨c,e,W⟩,_⟩:=H5 O
   obtain⟨g,R⟩:=q b List.mem_cons_self c e W
   exact⟨I4 h O ⟨g,R,R⟩,BP h (fun b Y=>q b (List.mem_cons_of_mem _ Y)) U⟩
  ·cases o
theorem Na:∀{bs:List Nat} {us:List ah} {l:List ak},oS st bs us=some l->∀u∈l,u.t.agg=false
 |[],[],_,o=>by cases o;simp
 |[],_::_,_,o=>by cases o
 |_::_,[],_,o=>by cases o
 |b::bs,u::us,l,o=>by
  unfold oS at o
  split at o
  ·rename_i v vs O R
   cases o
   intro x q
   rcases List.mem_cons.1 q with rfl|q
   ·exact(H5 O).2
   ·exact Na R x q
  ·cases o
theorem H3{w:World}{M:Nat->Prop}:∀(t:ah) {vs:List Value} {x:t.el} {l:List ak},r9 t x=some l->aL w M t vs x->∃us,eg w M us l/\(∀u∈l,u.t.agg=false->True)/\(l.all (fun u=>!u.t.agg)=true->us=vs)
 |.unit,vs,x,l,o,h=>by cases o;cases h;exact⟨[],trivial,fun _ _ _=>trivial,fun _=>rfl⟩
 |.pair a b,vs,x,l,o,⟨c1,c2,e,R,Y⟩=>by
  unfold r9 at o
  split at o
  ·rename_i lb Z
   cases o
   obtain⟨us,U,_,la⟩:=H3 b Z Y
   cases q:a.agg with
   |true=>exact⟨.agg c1.toArray::us,⟨(eG q).2 ⟨c1,rfl,R⟩,U⟩,fun _ _ _=>trivial,fun O=>by simp[q]at O⟩
   |false=>
    have W:=cu a R
    have:a.cells=1:=by cases a<;>first|rfl|(simp[ah.agg]at q)
    rw[this]at W
    match c1,W with
    |[v],_=>
     refine⟨v::us,⟨(bC q).2 R,U⟩,fun _ _ _=>trivial,fun O=>?_⟩
     rw[List.all_cons,Bool.and_eq_true]at O
     rw[e,la O.2]
     rfl
  ·cases o
 |.int _,_,_,_,o,_=>by cases o
 |.bool,_,_,_,o,_=>by cases o
 |.str,_,_,_,o,_=>by cases o
 |.ab _,_,_,_,o,_=>by cases o
 |.ptr _,_,_,_,o,_=>by cases o
 |.fn _ _,_,_,_,o,_=>by cases o
 |.err,_,_,_,o,_=>by cases o
 |.cO,_,_,_,o,_=>by cases o
 |.dj,_,_,_,o,_=>by cases o
theorem Ua{E:Env}(lt:cx.P=E.P)(h:ao cx m st T w){flat:Bool}{t:TypeId}{x:Operand}{v:ak}(o:D8 E st flat t x=some v):
  bf w (fun b=>flat=false/\au cx m st.ids b) (Act.eval ⟨T,aj.D cx⟩ x) v.t v.x:=by
 have R:∀b,b<w.heap.size->¬au cx m st.ids b->w.heap[b]? =w.heap[b]? :=fun _ _ _=>rfl
 have U:∀b,b<w.heap.size->(flat=false/\au cx m st.ids b)->au cx m st.ids b:=fun _ _ h=>h.2
 have ld:∀b,b<w.heap.size->¬False->w.heap[b]? =w.heap[b]? :=fun _ _ _=>rfl
 have le:∀b,b<w.heap.size->(true=false/\au cx m st.ids b)->False:=fun _ _ h=>by cases h.1
 unfold D8 at o
 split at o
 ·split at o
  ·rename_i e u lg
   cases o
   refine(bC (t:=.ab u) rfl).2 ⟨none,0,[],rfl,Nat.le_refl _,by decide,fun _=>rfl,rfl,fun j v Z=>by simp at Z⟩
  ·cases o
 ·split at o
  ·rename_i la y q
   cases o
   have:=bj h q
   exact dC R U this
  ·rename_i la y q
   cases o
   have:=fG R U (bj h q)
   obtain⟨a,cells,e,r⟩:=this
   rw[e]
   exact(bC (t:=.ptr la) rfl).2 ⟨a,cells,rfl,r⟩
  ·rename_i r q
   split at o
   ·rename_i c W
    cases o
    have Y:Act.eval ⟨T,aj.D cx⟩ x=m r:=bj h q
    rw[Y]
    refine(bC (t:=.ab c.t) rfl).2 (h.wV (be W) (fun b _ O=>O.2) fun g _ O=>?_)
    simp at O
   ·cases o
  ·rename_i b q
   split at o
   ·rename_i k v' ps W
    cases o
    have Y:Act.eval ⟨T,aj.D cx⟩ x=m b:=bj h q
    obtain⟨g,lb,_,es,lh,li,lj,lk,ll⟩:=h.box (be W)
    rw[Y,lb]
    refine(bC (t:=.map k v') rfl).2 ⟨g,es,lh,rfl,li,(fun O:true=false/\au cx m st.ids g=>by cases O.1),lj,lk,io (fun _ _ h=>dC R U h) (fun _ _ h=>dC R U h) ll⟩
   ·cases o
  ·rename_i b off q
   split at o
   ·rename_i e lg
    split at o
    ·rename_i u lu
     exact dC ld le (I4 h o (bj h q))
    ·cases o
   ·cases o
  ·rename_i b p q
   split at o
   ·rename_i la y e O
    split at o
    ·rename_i r aa lm
     cases o
     obtain⟨g,ln,lo⟩:=bj h q
     obtain⟨lf,lb,_,cells,lp,lq⟩:=h.box (be O)
     have:lf=g:=by rw[ln]at lb;cases lb;rfl
     subst this
     obtain⟨c1,c2,c3,lr,lc,ls⟩:=wv p la lq lm trivial
     rw[lo]
     refine(bC (t:=.ptr r.t) rfl).2 ⟨⟨lf,gp p,none⟩,c2,rfl,cS R U r.t ls,fun j v Z=>⟨?_,fun O=>by cases O.1⟩⟩
     have lv:=(List.getElem?_eq_some_iff.1 Z).1
     rw[gS,oL lp,<-Array.getElem?_toList,lr,List.append_assoc,List.getElem?_append_right (by omega),List.getElem?_append_left (by omega),<-Z]
     congr 1
     omega
    ·cases o
   ·cases o
  ·rename_i f bs q
   split at o
   ·rename_i F lw
    split at o
    ·rename_i l lc
     cases o
     have Y:Act.eval ⟨T,aj.D cx⟩ x=.func (.func f) #[] (bs.map m).toArray:=bj h q
     rw[Y]
     refine(bC (t:=.fn f (pairUp l).t) rfl).2 ⟨bs.map m,rfl,?_⟩
     exact cS ld le _ (tH (Na lc) (BP h (fun b _ c e W=>xY h W) lc))
    ·cases o
   ·cases o
  ·cases o
theorem As{E:Env}(q:cx.P=E.P)(h:ao cx m st T w){flat:Bool}:∀{O:List TypeId} {xs:List Operand} {vs:List ak},oD E st flat O xs=some vs->
  eg w (fun b=>flat=false/\au cx m st.ids b) (xs.map (Act.eval ⟨T,aj.D cx⟩)) vs
 |[],[],_,o=>by cases o;trivial
 |[],_::_,_,o=>by cases o
 |_::_,[],_,o=>by cases o
 |t::O,x::xs,vs,o=>by
  unfold oD at o
  split at o
  ·rename_i v W R U
   cases o
   exact⟨Ua q h R,As q h U⟩
  ·cases o
theorem HN{M:Nat->Prop}:∀{a b:List Value} {l r:List ak},eg w M a l->eg w M b r->eg w M (a++b) (l++r)
 |[],_,[],_,_,h=>h
 |[],_,_::_,_,h,_=>h.elim
 |_::_,_,[],_,h,_=>h.elim
 |_::_,_,_::_,_,⟨o,q⟩,h=>⟨o,HN q h⟩
theorem Rj{E:Env}(h:ao cx m st T w){x:Operand}{f:Nat}{F:jk}{l:List ak}(o:tN E st x=some (f,F,l)):
  look E.fns f=some F/\∃bs:List Value,Act.eval ⟨T,aj.D cx⟩ x=.func (.func f) #[] bs.toArray/\∃us,us=bs/\eg w (fun b=>F.flat=false/\au cx m st.ids b) us l:=by
 have Z:∀b,b<w.heap.size->¬au cx m st.ids b->w.heap[b]? =w.heap[b]? :=fun _ _ _=>rfl
 have la:∀b,b<w.heap.size->¬False->w.heap[b]? =w.heap[b]? :=fun _ _ _=>rfl
 unfold tN at o
 split at o
 ·rename_i W bs U
  have q:Act.eval ⟨T,aj.D cx⟩ x=.func (.func W) #[] (bs.map m).toArray:=bj h U
  split at o
  ·rename_i lf O
   split at o
   ·cases o
    exact⟨O,[],q,[],rfl,trivial⟩
   ·split at o
    ·rename_i lb Y
     cases o
     refine⟨O,_,q,_,rfl,qP la (fun b _ R=>?_) (BP h (fun b _ c e o=>xY h o) Y)⟩
     rw[lb]at R
     cases R.1
    ·cases o
  ·cases o
 ·rename_i W t y U
  split at o
  ·rename_i O Y
   split at o
   ·cases o
    have q:bf w (au cx m st.ids) (Act.eval ⟨T,aj.D cx⟩ x) (.fn f t) y:=bj h U
    obtain⟨bs,e,lc⟩:=(bC (t:=.fn f t) rfl).1 q
    simp only[List.cons.injEq,and_true]at e
    obtain⟨us,ld,_,le⟩:=H3 t ‹r9 t y=some l› lc
    refine⟨O,bs,e,us,le ‹_›,qP Z (fun b _ R=>R.2) ld⟩
   ·cases o
  ·cases o
 ·cases o
theorem BO{w w':World}{M M':Nat->Prop}:∀{vs:List Value} {l:List ak},(∀u∈l,u.t.flat=true)->eg w M vs l->eg w' M' vs l
 |[],[],_,_=>trivial
 |[],_::_,_,h=>h.elim
 |_::_,[],_,h=>h.elim
 |_::_,u::_,o,⟨q,O⟩=>⟨BJ (o u List.mem_cons_self) q,BO (fun x R=>o x (List.mem_cons_of_mem _ R)) O⟩
theorem Ir{M:Nat->Prop}{v:Value}:∀{l:List ak},kQ w M v l->aX w M m v (rF l)
 |[],_=>trivial
 |[_],h=>h
 |_::_::_,h=>h
theorem NV{w w':World}{M M':Nat->Prop}{v:Value}:∀{l:List ak},(∀u∈l,u.t.flat=true)->kQ w M v l->kQ w' M' v l
 |[],_,_=>trivial
 |[u],o,h=>BJ (o u List.mem_cons_self) h
 |_::_::_,o,⟨vs,e,h⟩=>⟨vs,e,BO o h⟩
theorem xH{c:Call}{aa:Oper}{f:Nat}{x:Operand}{bs:List Value}(q:aa.op=.call c)(o:c.callee=.value x)(O:Act.eval ⟨T,aj.D cx⟩ x=.func (.func f) #[] bs.toArray)
  (R:∀args w,(callFunc f args).run cx.P w=.ok (.enter f args) w)(w:World):
  (execOp (Act.eval ⟨T,aj.D cx⟩) aa).run cx.P w=.ok (.enter f (c.args.toList.map (Act.eval ⟨T,aj.D cx⟩)++bs).toArray) w:=by
 obtain⟨W,args,Y⟩:=c
 simp only at o
 subst o
 have U:#[]++args.map (Act.eval ⟨T,aj.D cx⟩)++bs.toArray=(args.toList.map (Act.eval ⟨T,aj.D cx⟩)++bs).toArray:=by
  apply Array.ext'
  simp
 simp only[execOp,q,resolve,O,Deferred.ofValue,Sem.run_bind,Sem.run_pure,Result.andThen_ok,invoke]
 rw[U]
 simp[R]
theorem YS{c:Call}{aa:Oper}{n f:Nat}{x:Operand}{name:String}{v:Value}(q:aa.op=.call c)(o:c.callee=.invoke x name)(O:Act.eval ⟨T,aj.D cx⟩ x=.iface n v)
  (R:wR cx.P n name=some f)(U:∀args w,(callFunc f args).run cx.P w=.ok (.enter f args) w)(w:World):
  (execOp (Act.eval ⟨T,aj.D cx⟩) aa).run cx.P w=.ok (.enter f (v::c.args.toList.map (Act.eval ⟨T,aj.D cx⟩)).toArray) w:=by
 obtain⟨lb,args,lc⟩:=c
 simp only at o
 subst o
 have W:#[v]++args.map (Act.eval ⟨T,aj.D cx⟩)=(v::args.toList.map (Act.eval ⟨T,aj.D cx⟩)).toArray:=by
  apply Array.ext'
  simp
 have Y:=RD R v w
 have Z:(#[Value.iface n v]++args.map (Act.eval ⟨T,aj.D cx⟩))[0]? =some (Value.iface n v):=by
  rw[Array.getElem?_append_left (by simp)]
  rfl
 have la:(#[Value.iface n v]++args.map (Act.eval ⟨T,aj.D cx⟩)).extract 1 (#[Value.iface n v]++args.map (Act.eval ⟨T,aj.D cx⟩)).size=args.map (Act.eval ⟨T,aj.D cx⟩):=by
  apply Array.ext'
  simp
  exact List.take_of_length_le (by simp)
 simp only[execOp,q,resolve,O,Sem.run_bind,Sem.run_pure,Result.andThen_ok,invoke,Z,la]
 simp only[callMethod,Sem.run_bind,run_program,Result.andThen_ok,Y,W,U]
theorem rM{E:Env}(U:bE E cx)(h:ao cx m st T w){aa:Oper}{c:Call}(lg:aa.op=.call c){orc:List ak}{r:dS}(o:nz E st c orc=some r)(Z:bW r.ob):
  ∃f args,(∀w,(execOp (Act.eval ⟨T,aj.D cx⟩) aa).run cx.P w=.ok (.enter f args) w)/\
   Calls cx.P f args w fun e w'=>∃v,e=.returned v/\Ext w w'/\aX w' (au cx m st.ids) m v r.aU:=by
 unfold nz at o
 split at o
 ·rename_i x name la
  split at o
  case h_2=>cases o
  rename_i f u W
  split at o
  case h_2=>cases o
  rename_i F lb
  split at o
  case h_2=>cases o
  rename_i lj has
  cases q:Nat.ble F.fQ orc.length with
  |false=>rw[q]at o;cases o
  |true=>
   rw[q]at o
   cases o
   unfold HC at W
   split at W
   case h_2=>cases W
   rename_i n t y lk
   split at W
   case h_2=>cases W
   rename_i ls lh
   cases W
   have ll:bf w (au cx m st.ids) (Act.eval ⟨T,aj.D cx⟩ x) (.cP n t) y:=bj h lk
   obtain⟨v0,li,lm⟩:=(bC (t:=.cP n t) rfl).1 ll
   simp only[List.cons.injEq,and_true]at li
   have O:=U.fns f F (be lb)
   rw[<-U.P]at O lh
   have ln:∀b,b<w.heap.size->¬au cx m st.ids b->w.heap[b]? =w.heap[b]? :=fun _ _ _=>rfl
   have lo:eg w (fun b=>F.flat=false/\au cx m st.ids b) [v0] [⟨t,y⟩]:=qP ln (fun b _ q=>q.2) ⟨lm,trivial⟩
   have lc:=HN lo (As U.P h has)
   have ld:=O.calls w (fun b=>F.flat=false/\au cx m st.ids b) _ _ _ (U.rA w h.frame) (fun b q=>h.zw q.2) Z.1 lc
   refine⟨f,_,YS lg la li lh O.enters,ld.mono ?_⟩
   rintro e w' ⟨v,le,R,lf⟩
   refine⟨v,le,lf,Ir ?_⟩
   cases Y:F.flat with
   |true=>exact NV ((O.shape _ _ Z.1).2 Y) R
   |false=>
    rw[Y]at R
    have:(fun b=>false=false/\au cx m st.ids b)=au cx m st.ids:=by funext b;simp
    rw[this]at R
    exact R
 ·rename_i x la
  split at o
  ·rename_i f F l lb
   split at o
   ·rename_i lj has
    cases q:Nat.ble F.fQ orc.length with
    |false=>rw[q]at o;cases o
    |true=>
     rw[q]at o
     cases o
     obtain⟨lp,bs,lq,us,e,lr⟩:=Rj h lb
     subst e
     have O:=U.fns f F (be lp)
     rw[<-U.P]at O
     have lc:=HN (As U.P h has) lr
     have ld:=O.calls w (fun b=>F.flat=false/\au cx m st.ids b) _ _ _ (U.rA w h.frame) (fun b q=>h.zw q.2) Z.1 lc
     refine⟨f,_,xH lg la lq O.enters,ld.mono ?_⟩
     rintro e w' ⟨v,le,R,lf⟩
     refine⟨v,le,lf,Ir ?_⟩
     cases Y:F.flat with
     |true=>exact NV ((O.shape _ _ Z.1).2 Y) R
     |false=>
      rw[Y]at R
      have:(fun b=>false=false/\au cx m st.ids b)=au cx m st.ids:=by funext b;simp
      rw[this]at R
      exact R
   ·cases o
  ·cases o
 ·cases o
def K5(st:af)(x:Operand):af:=
 match aW st x with
 |some (.row r)=>match look st.rw r with
  |some c=>st.freeze r c
  |none=>st
 |some (.iter b)=>match look st.ae b with
  |some (.mp k v ps)=>st.fP b k v ps
  |_=>st
 |_=>st
def iw:af->List Operand->af
 |st,[]=>st
 |st,x::xs=>iw (K5 st x) xs
def iy(E:Env):Op->List Operand
 |.range _ x=>[x]
 |.slice _ x (some _) _ none=>[x]
 |.build _ ps=>ps.toList.map (·.2)
 |.buildSlice _ _ ps=>ps.toList.map (·.2)
 |.call c=>match c.callee with
  |.value (.func f)=>match look E.fns f with
   |some F=>bif F.flat then[]else c.args.toList
   |none=>c.args.toList
  |_=>[]
 |_=>[]
theorem si:∀{l:List Operand} {st:af},ao cx m st T w->ao cx m (iw st l) T w
 |[],_,h=>h
 |x::xs,st,h=>by
  refine si (l:=xs) ?_
  unfold K5
  split
  ·split
   ·rename_i c o;exact h.freeze (be o)
   ·exact h
  ·split
   ·rename_i k v ps o;exact h.fP (be o)
   ·exact h
  ·exact h
def oT(E:Env)(o:af)(aa:Oper)(orc:List ak):Option (af×List ak×List Prop):=
 match aa.dst with
 |none=>match aa.op with
  |.store t x y=>zp E.P o t x y orc
  |.mapUpdate t x k v=>match tU E.P (iw o [v]) t x k v with
   |some q=>some (q,orc,[])
   |none=>none
  |.call c=>match nz E (iw o (iy E aa.op)) c orc with
   |some r=>some (iw o (iy E aa.op),r.orc,r.ob)
   |none=>none
  |_=>none
 |some d=>match Nat.blt d E.n with
  |true=>match dN E.P (iw o (iy E aa.op)) aa.op orc with
   |some r=>some ((iw o (iy E aa.op)).put d r.aU,r.orc,r.ob)
   |none=>match aa.op with
    |.load t x=>match uK E.P o t x orc with
     |some r=>some (o.put d r.aU,r.orc,r.ob)
     |none=>none
    |.call c=>match nz E (iw o (iy E aa.op)) c orc with
     |some r=>some ((iw o (iy E aa.op)).put d r.aU,r.orc,r.ob)
     |none=>match ml E.P o aa d orc with
      |some r=>some (r.st.put d r.aU,r.orc,r.ob)
      |none=>none
    |_=>match ml E.P (iw o (iy E aa.op)) aa d orc with
     |some r=>some (r.st.put d r.aU,r.orc,r.ob)
     |none=>none
  |false=>none
theorem gY{aa:Oper}{v:Value}{K:Act->World->Prop}{Q:Exit->Act->World->Prop}(o:(execOp (Act.eval ⟨T,aj.D cx⟩) aa).run cx.P w=.ok (.value v) w')(q:K (Act.put ⟨T,aj.D cx⟩ aa.dst v) w'):
  aa.wp cx.P ⟨T,aj.D cx⟩ w K Q:=by
 unfold Oper.wp
 rw[o]
 exact q
theorem s7{E:Env}(R:bE E cx)(h:al cx st T w){aa:Oper}{orc:List ak}{st':af}{orc':List ak}{ob:List Prop}(o:oT E st aa orc=some (st',orc',ob))(U:bW ob)
  {K:Act->World->Prop}{Q:Exit->Act->World->Prop}(la:∀ln w',al cx st' ln w'->K ⟨ln,aj.D cx⟩ w'):aa.wp cx.P ⟨T,aj.D cx⟩ w K Q:=by
 obtain⟨m,W⟩:=h
 unfold oT at o
 split at o
 ·rename_i ai
  split at o
  ·rename_i t x y q
   rw[<-R.P]at o
   obtain⟨w',Y,lg⟩:=Sb W o U
   unfold Oper.wp
   have lb:(execOp (Act.eval ⟨T,aj.D cx⟩) aa).run cx.P w=.ok .skip w':=by
    simp only[execOp,q,Sem.run_bind,Y,Result.andThen_ok,Sem.run_pure]
   rw[lb]
   show K (Act.put ⟨T,aj.D cx⟩ aa.dst undef) w'
   rw[ai]
   exact la T w' ⟨m,lg⟩
  ·rename_i t x k v q
   split at o
   ·rename_i lu lo
    cases o
    have O:=si (l:=[v]) W
    rw[<-R.P]at lo
    obtain⟨w',Y,lg⟩:=PC O lo
    unfold Oper.wp
    have lb:(execOp (Act.eval ⟨T,aj.D cx⟩) aa).run cx.P w=.ok .skip w':=by
     simp only[execOp,q,Sem.run_bind,Y,Result.andThen_ok,Sem.run_pure]
    rw[lb]
    show K (Act.put ⟨T,aj.D cx⟩ aa.dst undef) w'
    rw[ai]
    exact la T w' ⟨m,lg⟩
   ·cases o
  ·rename_i c q
   split at o
   ·rename_i r lc
    cases o
    have O:=si (l:=iy E aa.op) W
    obtain⟨f,args,Y,lh⟩:=rM R O q lc U
    unfold Oper.wp
    rw[Y w]
    refine lh.mono ?_
    rintro e w' ⟨v,rfl,li,_⟩
    show K (Act.put ⟨T,aj.D cx⟩ aa.dst v) w'
    rw[ai]
    exact la T w' ⟨m,O.ext li⟩
   ·cases o
  ·cases o
 ·rename_i d ai
  split at o
  ·rename_i lr
   have le:d<cx.n:=by rw[R.n];exact dg lr
   have O:=si (l:=iy E aa.op) W
   have fin:∀(v:Value) (w':World) (aA:Nat->Value) (lf:af) (aU:ap),(execOp (Act.eval ⟨T,aj.D cx⟩) aa).run cx.P w=.ok (.value v) w'->ao cx aA lf T w'->aX w' (au cx aA lf.ids) aA v aU->lf.put d aU=st'->aa.wp cx.P ⟨T,aj.D cx⟩ w K Q:=by
    intro v w' aA lf aU lb lj Z e
    refine gY lb ?_
    rw[ai]
    exact la _ _ ⟨aA,e▸lj.put le Z⟩
   have ls:∀(c:Call) (r:dS),aa.op=.call c->nz E (iw st (iy E aa.op)) c orc=some r->bW r.ob->(iw st (iy E aa.op)).put d r.aU=st'->aa.wp cx.P ⟨T,aj.D cx⟩ w K Q:=by
    intro c r q lc U e
    obtain⟨f,args,Y,lh⟩:=rM R O q lc U
    unfold Oper.wp
    rw[Y w]
    refine lh.mono ?_
    rintro lv w' ⟨v,rfl,li,Z⟩
    show K (Act.put ⟨T,aj.D cx⟩ aa.dst v) w'
    rw[ai]
    exact la _ _ ⟨m,e▸(O.ext li).put le Z⟩
   split at o
   ·rename_i r lp
    cases o
    rw[<-R.P]at lp
    obtain⟨v,lt,Z⟩:=Ga O lp U
    exact fin v w m _ _ (lt w (Ext.refl w)) O Z rfl
   ·split at o
    ·rename_i t x q
     split at o
     ·rename_i r lq
      cases o
      rw[<-R.P]at lq
      obtain⟨v,lj,Z⟩:=EN W lq U
      exact fin v w m _ _ (cF (by simp only[execOp,q]) (lj w (Ext.refl w))) W Z rfl
     ·cases o
    ·rename_i c q
     split at o
     ·rename_i r lc
      cases o
      exact ls c r q lc U rfl
     ·split at o
      ·rename_i r ld
       cases o
       rw[<-R.P]at ld
       obtain⟨v,w',aA,lk,ll,lm⟩:=If W le ld U
       exact fin v w' aA _ _ lk ll lm rfl
      ·cases o
    ·split at o
     ·rename_i r ld
      cases o
      rw[<-R.P]at ld
      obtain⟨v,w',aA,lk,ll,lm⟩:=If O le ld U
      exact fin v w' aA _ _ lk ll lm rfl
     ·cases o
  ·cases o
def E1(E:Env)(st:af)(aa:Oper)(orc:List ak):Option (af×List ak×List Prop):=
 match aa.op,orc with
 |.slice _ x none (some _) none,⟨.unit,_⟩::orc'=>oT E (iw st [x]) aa orc'
 |_,_=>oT E st aa orc
theorem QH{E:Env}(q:bE E cx)(h:al cx st T w){aa:Oper}{orc:List ak}{st':af}{orc':List ak}{ob:List Prop}(o:E1 E st aa orc=some (st',orc',ob))(O:bW ob)
  {K:Act->World->Prop}{Q:Exit->Act->World->Prop}(R:∀U w',al cx st' U w'->K ⟨U,aj.D cx⟩ w'):aa.wp cx.P ⟨T,aj.D cx⟩ w K Q:=by
 unfold E1 at o
 split at o
 ·obtain⟨m,W⟩:=h
  exact s7 q ⟨m,si W⟩ o O R
 ·exact s7 q h o O R
end Go.Ev
namespace Go.Ev
open Go Go.RowKit
variable [cm]
variable {cx:bJ} {m:Nat->Value} {st st':af} {T:Array Value} {w w':World}
variable [aj cx]
theorem y2{M:Nat->Prop}{k:fa}:∀{xs:List (Option k.el)} {us o:List Value} {i:Nat} {x:k.el},ij w M k xs us o->xs[i]? =some (some x)->∃u,us[i]? =some u/\o[i]? =some u/\kX w M u k x
 |[],[],[],i,x,_,h=>by simp at h
 |none::xs,_::us,_::o,0,x,_,h=>by simp at h
 |some y::xs,u::us,U::o,0,x,⟨O,R,_⟩,h=>by
  simp at h
  subst h
  exact⟨u,rfl,by rw[O];rfl,R⟩
 |none::xs,_::us,_::o,i+1,x,⟨_,h⟩,q=>by
  obtain⟨u,a,b,c⟩:=y2 (i:=i) h (by simpa using q)
  exact⟨u,by simpa using a,by simpa using b,c⟩
 |some y::xs,_::us,_::o,i+1,x,⟨_,_,h⟩,q=>by
  obtain⟨u,a,b,c⟩:=y2 (i:=i) h (by simpa using q)
  exact⟨u,by simpa using a,by simpa using b,c⟩
theorem ym{M M':Nat->Prop}{k:fa}(R:∀b,b<w.heap.size->¬M b->w'.heap[b]? =w.heap[b]?)(U:∀b,b<w.heap.size->M' b->M b){x':k.el}{la:Value}(Y:kX w' M' la k x'):
  ∀{xs:List (Option k.el)} {us O:List Value} {i:Nat},(∀j v,j≠i->O[j]? =some v->∀b,aY v=some b->w'.heap[b]? =w.heap[b]?)->ij w M k xs us O->ij w' M' k (xs.set i (some x')) (us.set i la) (O.set i la)
 |[],[],[],_,_,_=>trivial
 |none::xs,_::us,_::O,0,q,⟨_,h⟩=>⟨rfl,Y,qm R U (fun u lb b o=>by
   obtain⟨j,W⟩:=List.getElem?_of_mem lb
   exact q (j+1) u (by omega) (by simpa using W) b o) h⟩
 |some y::xs,_::us,_::O,0,q,⟨_,_,h⟩=>⟨rfl,Y,qm R U (fun u lb b o=>by
   obtain⟨j,W⟩:=List.getElem?_of_mem lb
   exact q (j+1) u (by omega) (by simpa using W) b o) h⟩
 |none::xs,_::us,_::O,i+1,q,⟨Z,h⟩=>⟨Z,ym R U Y (fun j v W lc b o=>q (j+1) v (by omega) (by simpa using lc) b o) h⟩
 |some y::xs,u::us,ld::O,i+1,q,⟨Z,le,h⟩=>⟨Z,KR R U (fun b o=>q 0 ld (by omega) rfl b (by rw[Z];exact o)) le,ym R U Y (fun j v W lc b o=>q (j+1) v (by omega) (by simpa using lc) b o) h⟩
theorem Fb{M:Nat->Prop}{k:fa}:∀{xs:List (Option k.el)} {us o:List Value} {i:Nat},ij w M k xs us o->ij w M k (xs.set i none) us (o.set i undef)
 |[],[],[],_,_=>trivial
 |none::xs,_::us,_::o,0,⟨_,h⟩=>⟨rfl,h⟩
 |some y::xs,_::us,_::o,0,⟨_,_,h⟩=>⟨rfl,h⟩
 |none::xs,_::us,_::o,i+1,⟨q,h⟩=>⟨q,Fb h⟩
 |some y::xs,u::us,R::o,i+1,⟨q,O,h⟩=>⟨q,O,Fb h⟩
theorem ry{us:List Value}{b:Nat}:b∈us.filterMap aY↔∃(j:Nat) (v:Value),us[j]? =some v/\aY v=some b:=by
 rw[List.mem_filterMap]
 constructor
 ·rintro⟨v,q,h⟩
  obtain⟨j,o⟩:=List.getElem?_of_mem q
  exact⟨j,v,o,h⟩
 ·rintro⟨j,v,o,h⟩
  exact⟨v,List.mem_of_getElem? o,h⟩
theorem C3:∀{us:List Value} {i j:Nat} {u v:Value} {b:Nat},(us.filterMap aY).Nodup->us[i]? =some u->us[j]? =some v->i≠j->aY u=some b->aY v≠some b
 |[],i,j,u,v,b,_,h,_,_,_=>by simp at h
 |x::us,0,0,u,v,b,_,_,_,U,_=>absurd rfl U
 |x::us,0,j+1,u,v,b,o,q,O,_,R=>by
  simp at q
  subst q
  rw[List.filterMap_cons,R,List.nodup_cons]at o
  intro W
  exact o.1 (ry.2 ⟨j,v,by simpa using O,W⟩)
 |x::us,i+1,0,u,v,b,o,q,O,_,R=>by
  simp at O
  subst O
  intro W
  rw[List.filterMap_cons,W,List.nodup_cons]at o
  exact o.1 (ry.2 ⟨i,u,by simpa using q,R⟩)
 |x::us,i+1,j+1,u,v,b,o,q,O,U,R=>by
  have Y:(us.filterMap aY).Nodup:=by
   rw[List.filterMap_cons]at o
   split at o
   ·exact o
   ·exact(List.nodup_cons.1 o).2
  exact C3 Y (by simpa using q) (by simpa using O) (fun e=>U (by rw[e])) R
theorem CH:∀{us:List Value} {i:Nat} {u:Value},(us.filterMap aY).Nodup->(∀b,aY u=some b->∀j v,j≠i->us[j]? =some v->aY v≠some b)->((us.set i u).filterMap aY).Nodup
 |[],_,_,h,_=>h
 |x::us,0,u,o,R=>by
  have U:(us.filterMap aY).Nodup:=by
   rw[List.filterMap_cons]at o
   split at o
   ·exact o
   ·exact(List.nodup_cons.1 o).2
  rw[List.set_cons_zero,List.filterMap_cons]
  split
  ·exact U
  ·rename_i b q
   refine List.nodup_cons.2 ⟨fun W=>?_,U⟩
   obtain⟨j,v,la,Y⟩:=ry.1 W
   exact R b q (j+1) v (by omega) (by simpa using la) Y
 |x::us,i+1,u,o,R=>by
  have U:(us.filterMap aY).Nodup:=by
   rw[List.filterMap_cons]at o
   split at o
   ·exact o
   ·exact(List.nodup_cons.1 o).2
  have Z:=CH (i:=i) (u:=u) U (fun b q j v lb O=>R b q (j+1) v (by omega) (by simpa using O))
  rw[List.set_cons_succ,List.filterMap_cons]
  split
  ·exact Z
  ·rename_i b q
   refine List.nodup_cons.2 ⟨fun W=>?_,Z⟩
   rw[List.mem_filterMap]at W
   obtain⟨v,O,Y⟩:=W
   rcases List.mem_or_eq_of_mem_set O with O|rfl
   ·rw[List.filterMap_cons,q,List.nodup_cons]at o
    exact o.1 (List.mem_filterMap.2 ⟨v,O,Y⟩)
   ·exact R b Y 0 x (by omega) rfl q
theorem ao.ba(h:ao cx m st T w){b e:Nat}{k:fa}{xs:List (Option k.el)}(Y:look st.ae b=some (.ba e k xs)):
  ∃g cap us o cur,m b=.tuple (.slice (some ⟨g,0,none⟩) xs.length cap::o).toArray/\(∀O,own (m b) O->cx.w0.heap.size<=O\/cx.X O)/\w.ownsRow 0 e 1 (.slice (some ⟨g,0,none⟩) xs.length cap) xs.length us/\
   w.heap[g]? =some (.cells cur e (0,0))/\xs.length<=cap/\cap<=maxLen/\cur.size=cap/\cur.toList.take xs.length=us/\ij w (au cx m st.ids) k xs us o/\(g::o.filterMap aY).Nodup:=by
 obtain⟨g,_,Z,n,cap,us,o,la,R,lb,lc⟩:=h.boxes b _ (be Y)
 rcases R.2 with ⟨q,_⟩|⟨O,lg,cur,q,_,ld,le,lf,U,W⟩
 ·cases q
 ·have lh:=q
  simp only[Value.slice.injEq,Option.some.injEq,Addr.mk.injEq,and_true]at q
  obtain⟨rfl,rfl,rfl⟩:=q
  rw[Nat.mul_one]at U W
  exact⟨g,cap,us,o,cur,la,Z,R,ld,le,lf,U,W,lb,lc⟩
def ap.uG(b:Nat):ap->ap
 |.osl c=>.osl c
 |.gb c i=>.gb c i
 |s=>bif s.refs b then .any else s
theorem ZO{M:Nat->Prop}{b:Nat}{r v2:Value}{us R:List Value}(W:m b=.tuple (r::us).toArray)(Y:v2=.tuple (r::R).toArray){v:Value}{s:ap}(h:aX w M m v s):aX w M (bH m b v2) v (s.uG b):=by
 have o:∀s:ap,aX w M m v s->aX w M (bH m b v2) v (bif s.refs b then .any else s):=by
  intro s Z
  cases la:s.refs b with
  |true=>trivial
  |false=>exact yb la Z
 cases s with
 |osl c=>
  by_cases e:c=b
  ·subst e
   obtain⟨O,q⟩:=h
   refine⟨R,?_⟩
   rw[ct,Y]
   rw[W]at q
   simp only[Value.tuple.injEq,Array.mk.injEq,List.cons.injEq]at q
   rw[q.1]
  ·obtain⟨O,q⟩:=h
   exact⟨O,by rw[dk _ _ e];exact q⟩
 |gb c i=>
  by_cases e:c=b
  ·subst e
   obtain⟨g,n,cap,O,q,U⟩:=h
   refine⟨g,n,cap,R,?_,U⟩
   rw[ct,Y]
   rw[W]at q
   simp only[Value.tuple.injEq,Array.mk.injEq,List.cons.injEq]at q
   rw[q.1]
  ·obtain⟨g,n,cap,O,q,U⟩:=h
   exact⟨g,n,cap,O,by rw[dk _ _ e];exact q,U⟩
 |any=>exact o _ h
 |undef=>exact o _ h
 |val t x=>exact o _ h
 |dW l=>exact o _ h
 |gh l=>exact o _ h
 |ptr a aa=>exact o _ h
 |fC a=>exact o _ h
 |vptr t x=>exact o _ h
 |row r=>exact o _ h
 |ep r i aa z=>exact o _ h
 |clos f bs=>exact o _ h
 |iter a=>exact o _ h
 |dP a p=>exact o _ h
 |sub a i=>exact o _ h
 |ck f b=>exact o _ h
 |en b i aa s=>exact o _ h
 |fA b i j aa s=>exact o _ h
 |ai n=>exact o _ h
 |fe l=>exact o _ h
def af.gZ(st:af)(b c:Nat)(c2:b7):af:=
 {ab:=st.ab.map fun p=>(p.1,p.2.uG b),ae:=(b,c2)::((del (del st.ae b) c).map fun p=>(p.1,p.2.map (ap.uG b))),rw:=st.rw}
theorem ao.gZ(h:ao cx m st T w){b c:Nat}{lI lJ c2:b7}(lB:(b,lI)∈st.ae)(lC:(c,lJ)∈st.ae)(lV:b<cx.n){r v2:Value}{us lK:List Value}(lL:m b=.tuple (r::us).toArray)(lM:v2=.tuple (r::lK).toArray){g:Nat}(ll:Touch m w b w')
  (ls:∀o,own v2 o->own (m b) o\/own (m c) o)(lN:iS v2 g c2)(lO:hd w' (au cx (bH m b v2) (st.gZ b c c2).ids) (bH m b v2) v2 g c2):ao cx (bH m b v2) (st.gZ b c c2) T w':=by
 have la:b∈st.ids:=List.mem_append.2 (.inl (List.mem_map.2 ⟨_,lB,rfl⟩))
 have lt:c∈st.ids:=List.mem_append.2 (.inl (List.mem_map.2 ⟨_,lC,rfl⟩))
 have lm:∀c',(b,c')∉st.rw:=fun c' q=>(List.nodup_append.1 h.keys).2.2 b (List.mem_map.2 ⟨_,lB,rfl⟩) b (List.mem_map.2 ⟨_,q,rfl⟩) rfl
 have lP:∀c',(c,c')∉st.rw:=fun c' q=>(List.nodup_append.1 h.keys).2.2 c (List.mem_map.2 ⟨_,lC,rfl⟩) c (List.mem_map.2 ⟨_,q,rfl⟩) rfl
 have lu:∀i,i∈(st.gZ b c c2).ids->i∈st.ids/\(i=b\/(i≠b/\i≠c)):=by
  intro i W
  rcases List.mem_append.1 W with W|W
  ·obtain⟨⟨j,s⟩,U,rfl⟩:=List.mem_map.1 W
   rcases List.mem_cons.1 U with U|U
   ·cases U;exact⟨la,.inl rfl⟩
   ·obtain⟨⟨lf,ln⟩,lj,lc⟩:=List.mem_map.1 U
    cases lc
    obtain⟨ld,lo⟩:=dl.1 lj
    obtain⟨lg,lh⟩:=dl.1 ld
    exact⟨List.mem_append.2 (.inl (List.mem_map.2 ⟨_,lg,rfl⟩)),.inr ⟨lh,lo⟩⟩
  ·obtain⟨⟨j,s⟩,U,rfl⟩:=List.mem_map.1 W
   exact⟨List.mem_append.2 (.inr (List.mem_map.2 ⟨_,U,rfl⟩)),.inr ⟨fun e=>lm s (by rw[<-e];exact U),fun e=>lP s (by rw[<-e];exact U)⟩⟩
 have Z:∀{i:Nat},i≠b->bH m b v2 i=m i:=fun lp=>dk _ _ lp
 have lv:∀o,o<w.heap.size->¬au cx m st.ids o->w'.heap[o]? =w.heap[o]? :=fun o Y lQ=>ll.block o Y fun e=>lQ (.inr ⟨b,la,e⟩)
 have lw:∀o,o<w.heap.size->au cx (bH m b v2) (st.gZ b c c2).ids o->au cx m st.ids o:=by
  rintro o _ (lR|⟨i,W,R⟩)
  ·exact .inl lR
  ·obtain⟨ld,lo⟩:=lu i W
   by_cases e:i=b
   ·subst e
    rw[ct]at R
    rcases ls o R with q|q
    ·exact .inr ⟨i,la,q⟩
    ·exact .inr ⟨c,lt,q⟩
   ·rw[Z e]at R
    exact .inr ⟨i,ld,R⟩
 have lD:∀v s,aX w (au cx m st.ids) m v s->aX w' (au cx (bH m b v2) (st.gZ b c c2).ids) (bH m b v2) v (s.uG b):=fun v s li=>ZO lL lM (fG lv lw li)
 refine{size:=h.size,frame:=h.Ek la ll,outer:=h.outer,de:=fun i aU W=>?_,boxes:=fun j c' O=>?_,rows:=fun j c' O=>?_,apart:=fun i j W O lp o R Y=>?_,keys:=?_,fixed:=fun j c' O lS lx=>?_,kept:=fun j c' O lx ly=>?_}
 rotate_right
 ·rw[Z (fun e=>lm c' (by rw[<-e];exact O))]
  exact h.kept j c' O lx ly
 ·obtain⟨⟨j,s⟩,U,lc⟩:=List.mem_map.1 W
  cases lc
  obtain⟨v,lq,a2⟩:=h.de j s U
  exact⟨v,lq,lD v s a2⟩
 ·rcases List.mem_cons.1 O with O|O
  ·cases O
   rw[ct]
   refine⟨g,lN,fun o Y=>?_,lO⟩
   rcases ls o Y with q|q
   ·exact(h.lt la q).2
   ·exact(h.lt lt q).2
  ·obtain⟨⟨lf,ln⟩,lj,lc⟩:=List.mem_map.1 O
   cases lc
   obtain⟨ld,lo⟩:=dl.1 lj
   obtain⟨lg,lh⟩:=dl.1 ld
   obtain⟨o,lk,lz,lA⟩:=h.boxes lf ln lg
   rw[Z lh]
   have lb:lf∈st.ids:=List.mem_append.2 (.inl (List.mem_map.2 ⟨_,lg,rfl⟩))
   exact⟨o,j7.2 lk,lz,jA lv lw (ig lk) (fun lE lF=>ll.block lE (h.lt lb lF).1 fun e=>h.apart b lf la lb (fun e=>lh e.symm) lE e lF) lD lA⟩
 ·obtain⟨cells,lk,lz,lA⟩:=h.rows j c' O
  have lr:j≠b:=fun e=>lm c' (by rw[<-e];exact O)
  have lb:j∈st.ids:=List.mem_append.2 (.inr (List.mem_map.2 ⟨_,O,rfl⟩))
  rw[Z lr]
  refine⟨cells,⟨lk.1,?_⟩,lz,dD (fun _ _=>cS lv lw c'.t) lA⟩
  rcases lk.2 with q|⟨o,cap,cur,li,lT,q,rest⟩
  ·exact .inl q
  ·have R:own (m j) o:=by rw[li];exact gP rfl
   exact .inr ⟨o,cap,cur,li,lT,by rw[ll.block o (h.lt lb R).1 fun e=>h.apart b j la lb (fun e=>lr e.symm) o e R];exact q,rest⟩
 ·obtain⟨lq,a2⟩:=lu i W
  obtain⟨lG,le⟩:=lu j O
  have key:∀{j:Nat},j∈st.ids->j≠b->j≠c->own v2 o->own (m j) o->False:=by
   intro j lb lr lU li R
   rcases ls o li with q|q
   ·exact h.apart b j la lb (fun e=>lr e.symm) o q R
   ·exact h.apart c j lt lb (fun e=>lU e.symm) o q R
  rcases a2 with rfl|⟨a2,a3⟩
  ·rcases le with rfl|⟨le,lH⟩
   ·exact lp rfl
   ·rw[ct]at R
    rw[Z le]at Y
    exact key lG le lH R Y
  ·rcases le with rfl|⟨le,lH⟩
   ·rw[ct]at Y
    rw[Z a2]at R
    exact key lq a2 a3 Y R
   ·rw[Z a2]at R
    rw[Z le]at Y
    exact h.apart i j lq lG lp o R Y
 ·have ly:(st.gZ b c c2).ids=b::(((del (del st.ae b) c).map (·.1))++st.rw.map (·.1)):=by
   show(b::((del (del st.ae b) c).map fun p=>(p.1,p.2.map (ap.uG b))).map (·.1))++st.rw.map (·.1)=_
   simp[List.map_map,Function.comp_def]
  rw[ly]
  refine List.nodup_cons.2 ⟨fun q=>?_,?_⟩
  ·rcases List.mem_append.1 q with q|q
   ·obtain⟨⟨j,s⟩,U,e⟩:=List.mem_map.1 q
    exact(dl.1 (dl.1 U).1).2 e
   ·obtain⟨⟨j,s⟩,U,e⟩:=List.mem_map.1 q
    exact lm s (by rw[<-e];exact U)
  ·rw[ng,ng]
   exact h.keys.sublist (List.Sublist.append (List.filter_sublist.trans List.filter_sublist) (List.Sublist.refl _))
 ·rcases List.mem_cons.1 O with O|O
  ·cases O;omega
  ·obtain⟨⟨lf,ln⟩,lj,lc⟩:=List.mem_map.1 O
   cases lc
   obtain⟨ld,lo⟩:=dl.1 lj
   obtain⟨lg,lh⟩:=dl.1 ld
   rw[Z lh]
   exact h.fixed lf ln lg (mB.symm.trans lS) lx
def ap.uB(r:Nat):ap->ap
 |.row b=>bif Nat.beq b r then .osl r else .row b
 |s=>bif s.refs r then .any else s
def af.kO(st:af)(r:Nat)(c2:b7):af:=
 {ab:=st.ab.map fun p=>(p.1,p.2.uB r),ae:=(r,c2)::(st.ae.map fun p=>(p.1,p.2.map (ap.uB r))),rw:=del st.rw r}
theorem Yc{M:Nat->Prop}{b:Nat}{v2:Value}{O:List Value}(R:v2=.tuple (m b::O).toArray){v:Value}{s:ap}(h:aX w M m v s):aX w M (bH m b v2) v (s.uB b):=by
 have o:∀s:ap,aX w M m v s->aX w M (bH m b v2) v (bif s.refs b then .any else s):=by
  intro s U
  cases q:s.refs b with
  |true=>trivial
  |false=>exact yb q U
 cases s with
 |row r=>
  show aX _ _ _ _ (bif Nat.beq r b then .osl b else .row r)
  cases q:Nat.beq r b with
  |true=>
   have e:=Nat.eq_of_beq_eq_true q
   subst e
   have W:v=m r:=h
   exact⟨O,by rw[ct,R,W]⟩
  |false=>exact yb q h
 |osl c=>exact o _ h
 |gb c i=>exact o _ h
 |any=>exact o _ h
 |undef=>exact o _ h
 |val t x=>exact o _ h
 |dW l=>exact o _ h
 |gh l=>exact o _ h
 |ptr a aa=>exact o _ h
 |fC a=>exact o _ h
 |vptr t x=>exact o _ h
 |ep r i aa z=>exact o _ h
 |clos f bs=>exact o _ h
 |iter a=>exact o _ h
 |dP a p=>exact o _ h
 |sub a i=>exact o _ h
 |ck f b=>exact o _ h
 |en b i aa s=>exact o _ h
 |fA b i j aa s=>exact o _ h
 |ai n=>exact o _ h
 |fe l=>exact o _ h
theorem OL{M:Nat->Prop}{k v:ah}:∀{n:Nat} {cells:List Value},bT (aL w M (.map k v)) cells (List.replicate n none)->cells=List.replicate n (.map none)
 |0,_,h=>h
 |n+1,_,⟨c1,c2,e,o,q⟩=>by
  have o:c1=[Value.map none]:=o
  rw[e,o,OL q]
  rfl
theorem Jm{M:Nat->Prop}{k v:ah}:∀(n:Nat),ij w M (.mp k v) ((List.replicate n none).map some) (List.replicate n (.map none)) (List.replicate n (.map none))
 |0=>trivial
 |n+1=>⟨rfl,rfl,Jm n⟩
theorem ao.kO(h:ao cx m st T w){r e n:Nat}{k v:ah}(li:(r,(⟨e,.map k v,List.replicate n none⟩:cV))∈st.rw)(lM:0<n)(lN:r<cx.n):∃aA,ao cx aA (st.kO r (.ba e (.mp k v) ((List.replicate n none).map some))) T w:=by
 obtain⟨cells,le,lB,lC⟩:=h.rows r _ li
 have lD:r∈st.ids:=List.mem_append.2 (.inr (List.mem_map.2 ⟨_,li,rfl⟩))
 have lE:=OL lC
 subst lE
 have lv:List.length (α:=(ah.map k v).el) (List.replicate n none)=n:=List.length_replicate
 simp only at le lv
 rw[lv]at le
 have lF:=le
 rcases le.2 with ⟨_,lO⟩|⟨g,cap,cur,lf,lP,R,rest⟩
 ·omega
 generalize lG:b7.ba e (.mp k v) ((List.replicate n none).map some)=c2
 have la:∀{i:Nat} {v2:Value},i≠r->bH m r v2 i=m i:=fun lj=>dk _ _ lj
 obtain⟨v2,lg⟩:∃v2,v2=Value.tuple (m r::List.replicate n (.map none)).toArray:=⟨_,rfl⟩
 have lw:∀o,own v2 o↔own (m r) o:=by
  intro o
  rw[lg,dA,lf]
  constructor
  ·rintro(R|⟨u,lb,lx⟩)
   ·exact gP R
   ·rw[List.eq_of_mem_replicate lb]at lx;cases lx
  ·intro R;exact .inl R
 have lk:∀c',(r,c')∉st.ae:=fun c' R=>(List.nodup_append.1 h.keys).2.2 r (List.mem_map.2 ⟨_,R,rfl⟩) r (List.mem_map.2 ⟨_,li,rfl⟩) rfl
 have ll:∀i,i∈(st.kO r c2).ids->i∈st.ids:=by
  intro i U
  rcases List.mem_append.1 U with U|U
  ·obtain⟨⟨j,s⟩,q,rfl⟩:=List.mem_map.1 U
   rcases List.mem_cons.1 q with q|q
   ·cases q;exact lD
   ·obtain⟨⟨lc,Z⟩,W,Y⟩:=List.mem_map.1 q
    cases Y
    exact List.mem_append.2 (.inl (List.mem_map.2 ⟨_,W,rfl⟩))
  ·obtain⟨⟨j,s⟩,q,rfl⟩:=List.mem_map.1 U
   exact List.mem_append.2 (.inr (List.mem_map.2 ⟨_,(dl.1 q).1,rfl⟩))
 have lm:∀i o,own (bH m r v2 i) o↔own (m i) o:=by
  intro i o
  by_cases ly:i=r
  ·subst ly;rw[ct];exact lw o
  ·rw[la ly]
 have ln:∀o,o<w.heap.size->¬au cx m st.ids o->w.heap[o]? =w.heap[o]? :=fun _ _ _=>rfl
 have lo:∀o,o<w.heap.size->au cx (bH m r v2) (st.kO r c2).ids o->au cx m st.ids o:=by
  rintro o _ (lH|⟨i,U,lp⟩)
  ·exact .inl lH
  ·exact .inr ⟨i,ll i U,(lm i o).1 lp⟩
 have lI:∀j c',(j,c')∈(st.kO r c2).rw->cx.n<=j->eM<=j->bH m r v2 j=cx.m0 j:=by
  intro j c' O lq lr
  obtain⟨q,ld⟩:=dl.1 O
  rw[la ld]
  exact h.kept j c' q lq lr
 have lz:∀u s,aX w (au cx m st.ids) m u s->aX w (au cx (bH m r v2) (st.kO r c2).ids) (bH m r v2) u (s.uB r):=fun u s lb=>Yc lg (fG ln lo lb)
 refine⟨bH m r v2,{size:=h.size,frame:=h.frame,outer:=h.outer,de:=fun i aU U=>?_,boxes:=fun j c' O=>?_,rows:=fun j c' O=>?_,apart:=fun i j U O lj o lp ls=>h.apart i j (ll i U) (ll j O) lj o ((lm i o).1 lp) ((lm j o).1 ls),keys:=?_,fixed:=fun j c' O lJ lq=>?_,kept:=lI}⟩
 ·obtain⟨⟨j,s⟩,q,Y⟩:=List.mem_map.1 U
  cases Y
  obtain⟨u,lK,a2⟩:=h.de j s q
  exact⟨u,lK,lz u s a2⟩
 ·rcases List.mem_cons.1 O with O|O
  ·cases O
   rw[ct,<-lG,lg,lf]
   have lL:((List.replicate n (none:Option (List (k.el×v.el)))).map some).length=n:=by simp
   refine⟨g,⟨n,cap,_,rfl⟩,fun o ls=>lB o ((lw o).1 (by rw[lg,lf];exact ls)),n,cap,List.replicate n (.map none),List.replicate n (.map none),rfl,?_,Jm n,?_⟩
   ·have lA:=lF
    rw[lf]at lA
    show World.ownsRow w 0 e 1 _ (List.length ((List.replicate n none).map some)) _
    rw[lL]
    exact lA
   ·have:(List.replicate n (Value.map none)).filterMap aY=[]:=by
     rw[List.filterMap_eq_nil_iff]
     intro u lb
     rw[List.eq_of_mem_replicate lb]
     rfl
    rw[this]
    simp
  ·obtain⟨⟨lc,Z⟩,W,Y⟩:=List.mem_map.1 O
   cases Y
   obtain⟨o,lh,lt,lu⟩:=h.boxes lc Z W
   have ld:lc≠r:=fun e=>lk Z (by rw[<-e];exact W)
   rw[la ld]
   exact⟨o,j7.2 lh,lt,jA ln lo (ig lh) (fun _ _=>rfl) lz lu⟩
 ·obtain⟨q,ld⟩:=dl.1 O
  obtain⟨cells,lh,lt,lu⟩:=h.rows j c' q
  rw[la ld]
  exact⟨cells,lh,lt,dD (fun _ _=>cS ln lo c'.t) lu⟩
 ·have lr:(st.kO r c2).ids=r::(st.ae.map (·.1)++(del st.rw r).map (·.1)):=by
   show(r::(st.ae.map fun p=>(p.1,p.2.map (ap.uB r))).map (·.1))++(del st.rw r).map (·.1)=_
   simp[List.map_map,Function.comp_def]
  rw[lr]
  refine List.nodup_cons.2 ⟨fun R=>?_,?_⟩
  ·rcases List.mem_append.1 R with R|R
   ·obtain⟨⟨j,s⟩,q,e⟩:=List.mem_map.1 R
    exact lk s (by rw[<-e];exact q)
   ·obtain⟨⟨j,s⟩,q,e⟩:=List.mem_map.1 R
    exact(dl.1 q).2 e
  ·rw[ng]
   exact h.keys.sublist (List.Sublist.append (List.Sublist.refl _) List.filter_sublist)
 ·rcases List.mem_cons.1 O with O|O
  ·cases O;omega
  ·obtain⟨⟨lc,Z⟩,W,Y⟩:=List.mem_map.1 O
   cases Y
   rw[la (fun e=>lk Z (by rw[<-e];exact W))]
   exact h.fixed lc Z W (mB.symm.trans lJ) lq
theorem ao.Vi(h:ao cx m st T w){r e n:Nat}{k v:ah}{xs:List (ah.map k v).el}(o:(r,(⟨e,.map k v,xs⟩:cV))∈st.rw)(q:xs=List.replicate n (show(ah.map k v).el from none))(O:0<n)(R:r<cx.n):
  ∃aA,ao cx aA (st.kO r (.ba e (.mp k v) (show List (Option (fa.mp k v).el)from List.map some xs))) T w:=by
 subst q
 exact h.kO o O R
theorem OA(W:ao cx m st T w){b e:Nat}{n:Int}{k:fa}{xs:List (Option k.el)}{y:k.el}(la:look st.ae b=some (.ba e k xs))(lb:xs[n.toNat]? =some (some y)){x:Operand}(lc:aW st x=some (.gb b n))
  {t:TypeId}{u:ah}(ld:ty cx.P t=some u)(le:u.cells=1)(lf:u.agg=false):
  ∃g cap us o,m b=.tuple (.slice (some ⟨g,0,none⟩) xs.length cap::o).toArray/\(g::o.filterMap aY).Nodup/\ij w (au cx m st.ids) k xs us o/\w.ownsRow 0 e 1 (.slice (some ⟨g,0,none⟩) xs.length cap) xs.length us/\
   ∃v,us[n.toNat]? =some v/\o[n.toNat]? =some v/\kX w (au cx m st.ids) v k y/\(Instr.loadAt t (Act.eval ⟨T,aj.D cx⟩ x)).run cx.P w=.ok v w:=by
 obtain⟨g,cap,us,o,cur,Y,_,lg,lh,lp,lq,lr,li,Z,lj⟩:=W.ba la
 obtain⟨g2,ls,lt,lu,O,a2⟩:=bj W lc
 rw[Y]at O
 have:g2=g:=by
  simp only[Value.tuple.injEq,Array.mk.injEq,List.cons.injEq,Value.slice.injEq,Option.some.injEq,Addr.mk.injEq]at O
  exact O.1.1.1.symm
 subst this
 obtain⟨v,q,lk,ll⟩:=y2 Z lb
 refine⟨g2,cap,us,o,Y,lj,Z,lg,v,q,lk,ll,?_⟩
 have lm:Instr.loadAt t (Act.eval ⟨T,aj.D cx⟩ x)=loadVar t ⟨g2,n.toNat,none⟩:=by rw[a2];rfl
 rw[lm]
 obtain⟨v',ln,R⟩:=jY (c:=[v]) ld lh (fun j v2 U=>by
  have lo:j=0:=by have:=(List.getElem?_eq_some_iff.1 U).1;simpa using this
  subst lo
  simp at U
  subst U
  rw[<-li,List.getElem?_take]at q
  split at q
  ·simpa using q
  ·cases q) (by rw[le];rfl) (fun _=>by omega)
 rw[lf]at R
 simp at R
 subst R
 exact ln w (Ext.refl w)
theorem JJ(O:ao cx m st T w){b e:Nat}{n:Int}{k:fa}{xs:List (Option k.el)}{y:k.el}(Z:look st.ae b=some (.ba e k xs))(la:xs[n.toNat]? =some (some y)){x:Operand}(lb:aW st x=some (.sub b n)):
  ∃g cap us o,m b=.tuple (.slice (some ⟨g,0,none⟩) xs.length cap::o).toArray/\(g::o.filterMap aY).Nodup/\ij w (au cx m st.ids) k xs us o/\w.ownsRow 0 e 1 (.slice (some ⟨g,0,none⟩) xs.length cap) xs.length us/\
   us[n.toNat]? =some (Act.eval ⟨T,aj.D cx⟩ x)/\o[n.toNat]? =some (Act.eval ⟨T,aj.D cx⟩ x)/\kX w (au cx m st.ids) (Act.eval ⟨T,aj.D cx⟩ x) k y:=by
 obtain⟨g,cap,us,o,cur,R,_,lc,lg,lh,li,lj,lk,U,ld⟩:=O.ba Z
 obtain⟨cy,W,q,a2⟩:=bj O lb
 rw[R]at q
 have:W=o:=by
  simp only[Value.tuple.injEq,Array.mk.injEq,List.cons.injEq]at q
  exact q.2.symm
 subst this
 obtain⟨v,le,Y,lf⟩:=y2 U la
 rw[a2]at Y
 cases Y
 exact⟨g,cap,us,W,R,ld,U,lc,le,a2,lf⟩
def Bf(E:Env)(st:af)(aa:Oper)(orc:List ak):Option (af×List ak×List Prop):=
 match aa.dst with
 |some d=>match Nat.blt d E.n with
  |true=>match aa.op with
   |.indexAddr t x i=>match aW st x,eL (aW st i),ty E.P t with
    |some (.osl b),some n,some (.ab u)=>match look st.ae b,Nat.beq u.cells 1 with
     |some (.ba _ _ xs),true=>some (st.put d (.gb b n),orc,[0<=n/\n<(xs.length:Int)])
     |_,_=>none
    |_,_,_=>none
   |.load t x=>match aW st x,ty E.P t with
    |some (.gb b n),some u=>match look st.ae b,Nat.beq u.cells 1&&!u.agg,orc with
     |some (.ba e (.mp k v) xs),true,⟨.unit,_⟩::a::orc'=>match a.as (.map k v),Nat.blt b E.n with
      |some y,true=>some ((st.gZ b b (.ba e (.mp k v) (xs.set n.toNat none))).put d (.val (.map k v) y),orc',[xs[n.toNat]? =some (some (show(fa.mp k v).el from y))])
      |_,_=>none
     |some (.ba _ (.mp k v) xs),true,a::orc'=>match a.as (.map k v)with
      |some y=>some (st.put d (.sub b n),orc',[xs[n.toNat]? =some (some (show(fa.mp k v).el from y))])
      |none=>none
     |_,_,_=>none
    |_,_=>none
   |.call {callee:=.builtin .len,args:=args,argTypes:=O}=>match args.toList,O.toList with
    |[x],[t]=>match aW st x,ty E.P t with
     |some (.sub b n),some (.map _ _)=>match look st.ae b,orc with
      |some (.ba _ (.mp k v) xs),a::orc'=>match a.as (.map k v)with
       |some y=>some (st.put d (.val (.int .i64) ((Option.getD (α:=List (k.el×v.el)) y []).length:Int)),orc',[xs[n.toNat]? =some (some (show(fa.mp k v).el from y))])
       |none=>none
      |_,_=>none
     |_,_=>none
    |_,_=>none
   |.makeSlice _ _ _=>match orc with
    |⟨.unit,_⟩::orc'=>match oT E st aa orc' with
     |some (o,R,ob)=>match look o.rw d,Nat.beq d d with
      |some ⟨e,.map k v,xs⟩,true=>some (o.kO d (.ba e (.mp k v) (show List (Option (fa.mp k v).el)from List.map some xs)),R,(xs=List.replicate xs.length (show(ah.map k v).el from none)/\0<xs.length)::ob)
      |_,_=>none
     |none=>none
    |_=>none
   |_=>none
  |false=>none
 |none=>match aa.op with
  |.mapUpdate t x U W=>match aW st x,E.P.underlying t,dL st U,dL st W with
   |some (.sub b n),some (.map q Y),some kv,some vv=>match look st.ae b,ty E.P q,ty E.P Y,orc with
    |some (.ba e (.mp k v) xs),some Z,some la,a::orc'=>match kv.as k,vv.as v,k.beq Z&&(v.beq la&&(k.flat&&eD E.P 16 q)),a.as (.map k v)with
     |some y,some z,true,some (some ps)=>some (st.dr b (.ba e (.mp k v) (xs.set n.toNat (some (show(fa.mp k v).el from some (cn (aR k) ps y z))))),orc',[xs[n.toNat]? =some (some (show(fa.mp k v).el from some ps))])
     |_,_,_,_=>none
    |_,_,_,_=>none
   |_,_,_,_=>none
  |.store t x y=>match aW st x,aW st y,ty E.P t with
   |some (.gb b n),some (.iter c),some u=>match look st.ae b,look st.ae c,Nat.beq u.cells 1&&(!u.agg&&Nat.blt b E.n)with
    |some (.ba e (.mp k v) xs),some (.mp k' v' ps),true=>match(⟨.map k' v',some ps⟩:ak).as (.map k v)with
     |some y=>some (st.gZ b c (.ba e (.mp k v) (xs.set n.toNat (some (show(fa.mp k v).el from y)))),orc,[0<=n/\n<(xs.length:Int)])
     |none=>none
    |_,_,_=>none
   |_,_,_=>none
  |_=>none
theorem XB{E:Env}(lq:bE E cx)(h:al cx st T w){aa:Oper}{orc:List ak}{st':af}{orc':List ak}{ob:List Prop}(o:Bf E st aa orc=some (st',orc',ob))(lu:bW ob)
  {K:Act->World->Prop}{Q:Exit->Act->World->Prop}(lC:∀lS w',al cx st' lS w'->K ⟨lS,aj.D cx⟩ w'):aa.wp cx.P ⟨T,aj.D cx⟩ w K Q:=by
 obtain⟨m,U⟩:=h
 unfold Bf at o
 split at o
 ·rename_i d ai
  split at o
  case h_2=>cases o
  rename_i aO
  have lE:d<cx.n:=by rw[lq.n];exact dg aO
  have fin:∀(v:Value) (w':World) (aA:Nat->Value) (lT:af) (aU:ap),(execOp (Act.eval ⟨T,aj.D cx⟩) aa).run cx.P w=.ok (.value v) w'->ao cx aA lT T w'->aX w' (au cx aA lT.ids) aA v aU->lT.put d aU=st'->aa.wp cx.P ⟨T,aj.D cx⟩ w K Q:=by
   intro v w' aA lT aU ly lF l3 e
   refine gY ly ?_
   rw[ai]
   exact lC _ _ ⟨aA,e▸lF.put lE l3⟩
  split at o
  ·rename_i t x i lh
   split at o
   case h_2=>cases o
   rename_i b n u ld W le
   split at o
   case h_2=>cases o
   rename_i e k xs la lb
   cases o
   rw[<-lq.P]at le
   have lb:=Nat.eq_of_beq_eq_true lb
   obtain⟨g,cap,us,Z,cur,Y,_⟩:=U.ba la
   obtain⟨aP,lc⟩:=bj U ld
   rw[Y]at lc
   have lv:Act.eval ⟨T,aj.D cx⟩ x=.slice (some ⟨g,0,none⟩) xs.length cap:=by
    simp only[Value.tuple.injEq,Array.mk.injEq,List.cons.injEq]at lc
    exact lc.1.symm
   obtain⟨bB,lU⟩:=fF U W
   obtain⟨_,_,_,bD,d2,aQ,aS⟩:=dw le
   refine fin (.pointer (some ⟨g,n.toNat,none⟩)) w m _ (.gb b n) (cF (s:=Instr.indexAt t (Act.eval ⟨T,aj.D cx⟩ x) (Act.eval ⟨T,aj.D cx⟩ i)) (by simp only[execOp,lh]) ?_) U ⟨g,xs.length,cap,Z,Y,rfl⟩ rfl
   have l4:(⟨g,0,none⟩:Addr).add (n.toNat*1)=⟨g,n.toNat,none⟩:=by rw[gS];simp
   rw[lv,lU]
   simp only[Instr.indexAt,asIntOf,Sem.run_bind,Sem.run_pure,Result.andThen_ok,run_underlying aQ]
   rw[if_pos lu.1]
   simp only[Sem.run_bind,fi aS,Result.andThen_ok,Sem.run_pure,lb,l4]
  ·rename_i t x lh
   split at o
   case h_2=>cases o
   rename_i b n u ld le
   rw[<-lq.P]at le
   split at o
   ·rename_i e k v xs aT a lV la lb
    simp only[Bool.and_eq_true,Bool.not_eq_true']at lb
    split at o
    case h_2=>cases o
    rename_i y lW lG
    cases o
    have lG:b<cx.n:=by rw[lq.n];exact dg lG
    obtain⟨g,cap,us,Z,Y,lc,lv,lD,l5,l6,li,lf,lr⟩:=OA U la lu.1 ld le (Nat.eq_of_beq_eq_true lb.1) lb.2
    have ll:=be la
    have lg:b∈st.ids:=List.mem_append.2 (.inl (List.mem_map.2 ⟨_,ll,rfl⟩))
    have lH:∀u∈Z.set n.toNat undef,u∈Z\/u=undef:=fun u R=>List.mem_or_eq_of_mem_set R
    have lw:∀O,own (.tuple (.slice (some ⟨g,0,none⟩) xs.length cap::Z.set n.toNat undef).toArray) O->own (m b) O\/own (m b) O:=by
     intro O q
     rw[Y]
     rcases dA.1 q with q|⟨u,R,q⟩
     ·exact .inl (dA.2 (.inl q))
     ·rcases lH u R with R|rfl
      ·exact .inl (dA.2 (.inr ⟨u,R,q⟩))
      ·cases q
    obtain⟨v2,lm⟩:∃v2,v2=Value.tuple (.slice (some ⟨g,0,none⟩) xs.length cap::Z.set n.toNat undef).toArray:=⟨_,rfl⟩
    rw[<-lm]at lw
    have lx:∀i,i∈(st.gZ b b (.ba e (.mp k v) (xs.set n.toNat none))).ids->i∈st.ids:=by
     intro i W
     rcases List.mem_append.1 W with W|W
     ·obtain⟨⟨j,s⟩,lj,rfl⟩:=List.mem_map.1 W
      rcases List.mem_cons.1 lj with lj|lj
      ·cases lj;exact lg
      ·obtain⟨⟨aV,aW⟩,l7,l8⟩:=List.mem_map.1 lj
       cases l8
       exact List.mem_append.2 (.inl (List.mem_map.2 ⟨_,(dl.1 (dl.1 l7).1).1,rfl⟩))
     ·exact List.mem_append.2 (.inr W)
    have lz:∀O,O<w.heap.size->au cx (bH m b v2) (st.gZ b b (.ba e (.mp k v) (xs.set n.toNat none))).ids O->au cx m st.ids O:=by
     intro O _ q
     rcases q with lI|⟨i,W,q⟩
     ·exact .inl lI
     ·by_cases ls:i=b
      ·subst ls
       rw[ct]at q
       exact .inr ⟨i,lg,(lw O q).elim id id⟩
      ·rw[dk _ _ ls]at q
       exact .inr ⟨i,lx i W,q⟩
    have l9:=U.gZ (c2:=.ba e (.mp k v) (xs.set n.toNat none)) ll ll lG Y lm ⟨⟨rfl,rfl,rfl,Nat.le_refl _,fun _=>Nat.le_refl _⟩,fun _ _ _=>rfl⟩ lw ⟨xs.length,cap,_,lm⟩
     ⟨xs.length,cap,us,Z.set n.toNat undef,lm,by rw[List.length_set];exact lD,qm (fun _ _ _=>rfl) lz (fun _ _ _ _=>rfl) (Fb lv),by
      have lF:=CH (i:=n.toNat) (u:=undef) (List.nodup_cons.1 lc).2 (fun b la=>by cases la)
      refine List.nodup_cons.2 ⟨fun lx=>?_,lF⟩
      obtain⟨u,R,q⟩:=List.mem_filterMap.1 lx
      rcases lH u R with R|rfl
      ·exact(List.nodup_cons.1 lc).1 (List.mem_filterMap.2 ⟨u,R,q⟩)
      ·cases q⟩
    refine fin l5 w _ _ (.val (.map k v) y) (cF (by simp only[execOp,lh]) lr) l9 ?_ rfl
    refine(bC (t:=.map k v) rfl).2 ?_
    match y,lf with
    |none,lf=>
     have lf:l5=.map none:=lf
     show[l5]=[Value.map none]
     rw[lf]
    |some ps,⟨r,es,lJ,lk,ln,lK,lL,lA⟩=>
     have aB:own (m b) r:=by rw[Y];exact dA.2 (.inr ⟨_,List.mem_of_getElem? li,by rw[lk];rfl⟩)
     refine⟨r,es,lJ,by rw[lk],ln,?_,lK,lL,io (fun _ _ h=>dC (fun _ _ _=>rfl) lz h) (fun _ _ h=>dC (fun _ _ _=>rfl) lz h) lA⟩
     rintro(lI|⟨i,W,q⟩)
     ·have aY:=U.outer r lI
      rcases(U.lt lg aB).2 with ba|ba
      ·omega
      ·exact aY.2 ba
     ·by_cases ls:i=b
      ·subst ls
       rw[ct,lm]at q
       rcases dA.1 q with q|⟨u,R,q⟩
       ·cases q
        exact(List.nodup_cons.1 lc).1 (ry.2 ⟨_,_,li,by rw[lk];rfl⟩)
       ·obtain⟨j,lt⟩:=List.getElem?_of_mem R
        rw[List.getElem?_set]at lt
        split at lt
        ·split at lt
         ·cases lt;cases q
         ·cases lt
        ·rename_i lB
         exact C3 (List.nodup_cons.1 lc).2 li lt lB (by rw[lk];rfl) q
      ·rw[dk _ _ ls]at q
       exact U.apart b i lg (lx i W) (fun e=>ls e.symm) r aB q
   ·rename_i e k v xs a lV _ la lb
    simp only[Bool.and_eq_true,Bool.not_eq_true']at lb
    split at o
    case h_2=>cases o
    rename_i y lW
    cases o
    obtain⟨g,cap,us,Z,Y,_,_,_,v0,_,li,_,lr⟩:=OA U la lu.1 ld le (Nat.eq_of_beq_eq_true lb.1) lb.2
    exact fin v0 w m _ (.sub b n) (cF (by simp only[execOp,lh]) lr) U ⟨_,Z,Y,li⟩ rfl
   ·cases o
  ·rename_i args aC lh
   split at o
   case h_2=>cases o
   rename_i x t lW aZ
   split at o
   case h_2=>cases o
   rename_i b n a0 bF ld le
   split at o
   case h_2=>cases o
   rename_i e k v xs a lV la
   split at o
   case h_2=>cases o
   rename_i y lX
   cases o
   rw[<-lq.P]at le
   obtain⟨g,cap,us,Z,Y,_,_,_,_,_,lf⟩:=JJ U la lu.1 ld
   obtain⟨i,_,_,bG,lc,_,aD,_,_⟩:=dw le
   have l4:args=#[x]:=by rw[<-Array.toArray_toList (xs:=args),lW]
   have aE:aC=#[t]:=by rw[<-Array.toArray_toList (xs:=aC),aZ]
   subst l4
   subst aE
   refine fin (.int .i64 ((Option.getD (α:=List (k.el×v.el)) y []).length:Int)) w m _ (.val (.int .i64) _) ?_ U (dp.2 rfl) rfl
   simp only[execOp,lh,resolve,invoke,builtin,Sem.run_bind,Sem.run_pure,Result.andThen_ok,List.map_toArray,List.map_cons,List.map_nil]
   generalize Act.eval ⟨T,aj.D cx⟩ x=a1 at lf
   match y,lf with
   |none,lf=>
    have lf:a1=.map none:=lf
    rw[lf]
    simp[Builtin.len_,run_underlying aD,goInt]
   |some ps,⟨r,es,lJ,lk,ln,_,_,lA⟩=>
    rw[lk]
    have aF:=uW lA
    rw[Array.length_toList]at aF
    simp[Builtin.len_,run_underlying aD,goInt,getObj,Sem.run,ln,aF]
  ·rename_i lh
   split at o
   case h_2=>cases o
   rename_i aT lV
   split at o
   case h_2=>cases o
   rename_i bI bJ bK ln
   split at o
   case h_2=>cases o
   rename_i e k v xs ly _
   cases o
   refine s7 lq ⟨m,U⟩ ln lu.2 fun lS w' ab=>?_
   obtain⟨m1,a3⟩:=ab
   obtain⟨⟨a4,a5⟩,_⟩:=lu
   obtain⟨m2,a6⟩:=a3.Vi (be ly) a4 a5 lE
   exact lC lS w' ⟨m2,a6⟩
  ·cases o
 ·rename_i ai
  split at o
  ·rename_i t x bL bM lh
   split at o
   case h_2=>cases o
   rename_i b n a0 aE kv vv ld aG lU l3
   split at o
   case h_2=>cases o
   rename_i e k v xs bN bO a lV la aH a7
   split at o
   case h_2=>cases o
   rename_i y z ps lX a8 lo lW
   cases o
   simp only[Bool.and_eq_true]at lo
   obtain⟨a9,bb,bc,aI⟩:=lo
   obtain rfl:=ah.eq_of_beq a9
   obtain rfl:=ah.eq_of_beq bb
   have bd:=ak.dx lX
   subst bd
   have bf:=ak.dx a8
   subst bf
   rw[<-lq.P]at aG aH a7 aI
   obtain⟨g,cap,us,Z,Y,lc,lv,lD,l6,li,r,es,lJ,lk,ln,lK,lL,lA⟩:=JJ U la lu.1 ld
   obtain⟨lM,lN,lr,bg,cy,dY⟩:=O7 (d:=jn) (d':=16) aG aH aI (by decide) bc (dt U lU) (dt U l3) ln lK lL lA
   have ll:=be la
   have lw:own (m b) r:=by rw[Y];exact dA.2 (.inr ⟨_,List.mem_of_getElem? li,by rw[lk];rfl⟩)
   have lO:Touch m w b {w with heap:=w.heap.setIfInBounds r (.map lM lN)}:=
    ⟨⟨rfl,rfl,rfl,by simp,fun _=>Nat.le_refl _⟩,fun k _ lB=>by
     show(w.heap.setIfInBounds r _)[k]? =_
     rw[Array.getElem?_setIfInBounds_ne]
     intro e
     exact lB (by rw[<-e];exact lw)⟩
   have lg:b∈st.ids:=List.mem_append.2 (.inl (List.mem_map.2 ⟨_,ll,rfl⟩))
   generalize lP:xs.set n.toNat (some (show(fa.mp k v).el from some (cn (aR k) ps y z)))=lp at lC
   obtain⟨ad,ae⟩:=ao.ia (cx:=cx) lg lO (ids:=(st.dr b (.ba e (.mp k v) lp)).ids) (k7 ll U.keys _).1
   have bh:g≠r:=fun e=>(List.nodup_cons.1 lc).1 (ry.2 ⟨_,_,li,by rw[lk,e];rfl⟩)
   rw[lk]at l6 li
   have ag:lp.length=xs.length:=by rw[<-lP,List.length_set]
   have ab:ao cx m (st.dr b (.ba e (.mp k v) lp)) T {w with heap:=w.heap.setIfInBounds r (.map lM lN)}:=by
    refine U.dr ll lO (g:=g) ⟨xs.length,cap,Z,Y⟩ ⟨xs.length,cap,us,Z,Y,?_,?_,lc⟩
    ·rw[ag]
     refine⟨lD.1,?_⟩
     rcases lD.2 with lo|⟨O,bi,cur,aK,bk,lo,rest⟩
     ·exact .inl lo
     ·refine .inr ⟨O,bi,cur,aK,bk,?_,rest⟩
      show(w.heap.setIfInBounds r _)[O]? =_
      rw[Array.getElem?_setIfInBounds_ne (by rintro rfl;cases aK;exact bh rfl)]
      exact lo
    ·have W:kX {w with heap:=w.heap.setIfInBounds r (.map lM lN)} (au cx m (st.dr b (.ba e (.mp k v) lp)).ids) (.map (some r)) (.mp k v) (some (cn (aR k) ps y z)):=by
      refine⟨r,lM,lN,rfl,?_,bg,cy,io (fun _ _ h=>dC ad ae h) (fun _ _ h=>dC ad ae h) dY⟩
      show(w.heap.setIfInBounds r _)[r]? =_
      rw[Array.getElem?_setIfInBounds_self_of_lt (gB ln)]
     have lY:=ym ad ae W (i:=n.toNat) (fun j u lt R am lZ=>by
      show(w.heap.setIfInBounds r _)[am]? =_
      rw[Array.getElem?_setIfInBounds_ne]
      rintro rfl
      exact C3 (List.nodup_cons.1 lc).2 li R (fun e=>lt e.symm) rfl lZ) lv
     have f1:us.set n.toNat (.map (some r))=us:=by
      obtain⟨lE,an⟩:=List.getElem?_eq_some_iff.1 l6
      rw[<-an,List.set_getElem_self]
     have f2:Z.set n.toNat (.map (some r))=Z:=by
      obtain⟨lE,an⟩:=List.getElem?_eq_some_iff.1 li
      rw[<-an,List.set_getElem_self]
     rw[f1,f2]at lY
     rw[<-lP]
     exact lY
   unfold Oper.wp
   have ly:(execOp (Act.eval ⟨T,aj.D cx⟩) aa).run cx.P w=.ok .skip {w with heap:=w.heap.setIfInBounds r (.map lM lN)}:=by
    simp only[execOp,lh,Sem.run_bind,lk,lr,Result.andThen_ok,Sem.run_pure]
   rw[ly]
   show K (Act.put ⟨T,aj.D cx⟩ aa.dst undef) _
   rw[ai]
   exact lC T _ ⟨m,ab⟩
  ·rename_i t x y lh
   split at o
   case h_2=>cases o
   rename_i b n c u ld lX le
   split at o
   case h_2=>cases o
   rename_i e k v xs k' v' ps la lb aJ
   split at o
   case h_2=>cases o
   rename_i bP bl
   cases o
   simp only[Bool.and_eq_true,Bool.not_eq_true']at aJ
   obtain⟨lQ,bQ,bm⟩:=aJ
   have lQ:=Nat.eq_of_beq_eq_true lQ
   have lG:b<cx.n:=by rw[lq.n];exact dg bm
   rw[<-lq.P]at le
   obtain⟨g,cap,us,Z,cur,Y,_,lc,lv,lD,bn,aq,bo,bp,ar⟩:=U.ba la
   obtain⟨g2,bR,bS,aP,av,a2⟩:=bj U ld
   rw[Y]at av
   have:g2=g:=by
    simp only[Value.tuple.injEq,Array.mk.injEq,List.cons.injEq,Value.slice.injEq,Option.some.injEq,Addr.mk.injEq]at av
    exact av.1.1.1.symm
   subst this
   have ll:=be la
   have aw:=be lb
   have lg:b∈st.ids:=List.mem_append.2 (.inl (List.mem_map.2 ⟨_,ll,rfl⟩))
   have ax:c∈st.ids:=List.mem_append.2 (.inl (List.mem_map.2 ⟨_,aw,rfl⟩))
   have aL:b≠c:=by
    rintro rfl
    rw[la]at lb
    cases lb
   have bq:=ak.dx bl
   cases bq
   obtain⟨r,f1,_,es,lJ,ln,lK,lL,lA⟩:=U.box aw
   have f1:m c=.map (some r):=f1
   have br:Act.eval ⟨T,aj.D cx⟩ y=.map (some r):=by have:Act.eval ⟨T,aj.D cx⟩ y=m c:=bj U lX;rw[this,f1]
   have ay:own (m c) r:=by rw[f1];exact gP rfl
   have aM:own (m b) g2:=by rw[Y];exact dA.2 (.inl rfl)
   have aN:r≠g2:=fun e=>U.apart b c lg ax aL g2 aM (by rw[<-e];exact ay)
   obtain⟨bT,_⟩:=lu
   have lE:n.toNat<xs.length:=by omega
   have bt:n.toNat+u.cells<=cur.size:=by rw[lQ,aq];omega
   have lr:=nU (P:=cx.P) (v:=.map (some r)) le lv (by rw[lQ];rfl) bt (fun x ld=>by simp[Value.cells]at ld;subst ld;rfl)
   have bu:cur.toList.take n.toNat++(Value.map (some r)).cells.toList++cur.toList.drop (n.toNat+u.cells)=cur.toList.set n.toNat (.map (some r)):=by
    rw[List.set_eq_take_append_cons_drop,if_pos (by rw[Array.length_toList,aq];omega),lQ]
    simp[Value.cells]
   rw[bu]at lr
   generalize l0:w.setRow g2 (cur.toList.set n.toNat (.map (some r))).toArray=lR at lr
   have lO:Touch m w b lR:=by rw[<-l0];exact⟨kC _ _ _,fun k lU lB=>setRow_other _ _ _ _ (fun e=>lB (by rw[e];exact aM))⟩
   obtain⟨v2,lm⟩:∃v2,v2=Value.tuple (.slice (some ⟨g2,0,none⟩) xs.length cap::Z.set n.toNat (.map (some r))).toArray:=⟨_,rfl⟩
   have lH:∀u∈Z.set n.toNat (.map (some r)),u∈Z\/u=.map (some r):=fun u R=>List.mem_or_eq_of_mem_set R
   have lw:∀O,own v2 O->own (m b) O\/own (m c) O:=by
    intro O q
    rw[lm]at q
    rcases dA.1 q with q|⟨u,R,q⟩
    ·exact .inl (by rw[Y];exact dA.2 (.inl q))
    ·rcases lH u R with R|rfl
     ·exact .inl (by rw[Y];exact dA.2 (.inr ⟨u,R,q⟩))
     ·cases q;exact .inr ay
   generalize lP:xs.set n.toNat (some (show(fa.mp k v).el from some ps))=lp at lC
   have ag:lp.length=xs.length:=by rw[<-lP,List.length_set]
   have lx:∀i,i∈(st.gZ b c (.ba e (.mp k v) lp)).ids->i∈st.ids:=by
    intro i W
    rcases List.mem_append.1 W with W|W
    ·obtain⟨⟨j,s⟩,lj,rfl⟩:=List.mem_map.1 W
     rcases List.mem_cons.1 lj with lj|lj
     ·cases lj;exact lg
     ·obtain⟨⟨aV,aW⟩,l7,l8⟩:=List.mem_map.1 lj
      cases l8
      exact List.mem_append.2 (.inl (List.mem_map.2 ⟨_,(dl.1 (dl.1 l7).1).1,rfl⟩))
    ·exact List.mem_append.2 (.inr W)
   have az:∀O,O<w.heap.size->¬au cx m st.ids O->lR.heap[O]? =w.heap[O]? :=fun O bv bw=>lO.block O bv fun e=>bw (.inr ⟨b,lg,e⟩)
   have lz:∀O,O<w.heap.size->au cx (bH m b v2) (st.gZ b c (.ba e (.mp k v) lp)).ids O->au cx m st.ids O:=by
    intro O _ q
    rcases q with lI|⟨i,W,q⟩
    ·exact .inl lI
    ·by_cases ls:i=b
     ·subst ls
      rw[ct]at q
      rcases lw O q with lo|lo
      ·exact .inr ⟨i,lg,lo⟩
      ·exact .inr ⟨c,ax,lo⟩
     ·rw[dk _ _ ls]at q
      exact .inr ⟨i,lx i W,q⟩
   have bx:∀O,own (m b) O->O≠g2->lR.heap[O]? =w.heap[O]? :=fun O _ lB=>by rw[<-l0];exact setRow_other _ _ _ _ lB
   have W:kX lR (au cx (bH m b v2) (st.gZ b c (.ba e (.mp k v) lp)).ids) (.map (some r)) (.mp k v) (some ps):=
    ⟨r,es,lJ,rfl,by rw[<-l0,setRow_other _ _ _ _ aN];exact ln,lK,lL,io (fun _ _ h=>dC az lz h) (fun _ _ h=>dC az lz h) lA⟩
   have lY:=ym az lz W (i:=n.toNat) (fun j u lt R am lZ=>by
    refine bx am (by rw[Y];exact dA.2 (.inr ⟨u,List.mem_of_getElem? R,lZ⟩)) ?_
    rintro rfl
    exact(List.nodup_cons.1 ar).1 (ry.2 ⟨_,_,R,lZ⟩)) bp
   have l9:=U.gZ (c2:=.ba e (.mp k v) lp) ll aw lG Y lm lO lw ⟨xs.length,cap,_,lm⟩ ⟨xs.length,cap,us.set n.toNat (.map (some r)),Z.set n.toNat (.map (some r)),lm,by
     rw[ag]
     refine⟨by rw[List.length_set];exact lc.1,.inr ⟨g2,cap,_,rfl,Nat.zero_le _,by rw[<-l0];exact setRow_heap _ _ _ _ _ _ lv,lD,bn,?_,?_⟩⟩
     ·simp[aq]
     ·rw[Nat.mul_one,<-bo,List.take_set],by rw[<-lP];exact lY,by
     have lF:=CH (i:=n.toNat) (u:=.map (some r)) (List.nodup_cons.1 ar).2 (fun bU bz j u _ R bA=>by
      cases bz
      exact U.apart b c lg ax aL r (by rw[Y];exact dA.2 (.inr ⟨u,List.mem_of_getElem? R,bA⟩)) ay)
     refine List.nodup_cons.2 ⟨fun lx=>?_,lF⟩
     obtain⟨u,R,q⟩:=List.mem_filterMap.1 lx
     rcases lH u R with R|rfl
     ·exact(List.nodup_cons.1 ar).1 (List.mem_filterMap.2 ⟨u,R,q⟩)
     ·cases q;exact aN rfl⟩
   unfold Oper.wp
   have ly:(execOp (Act.eval ⟨T,aj.D cx⟩) aa).run cx.P w=.ok .skip lR:=by
    simp only[execOp,lh,Sem.run_bind,br,a2,lr,Result.andThen_ok,Sem.run_pure]
   rw[ly]
   show K (Act.put ⟨T,aj.D cx⟩ aa.dst undef) _
   rw[ai]
   exact lC T _ ⟨_,l9⟩
  ·cases o
def Hp(E:Env)(st:af)(aa:Oper)(orc:List ak):Option (af×List ak×List Prop):=
 match Bf E st aa orc with
 |some r=>some r
 |none=>E1 E st aa orc
theorem aai{E:Env}(q:bE E cx)(h:al cx st T w){aa:Oper}{orc:List ak}{st':af}{orc':List ak}{ob:List Prop}(o:Hp E st aa orc=some (st',orc',ob))(O:bW ob)
  {K:Act->World->Prop}{Q:Exit->Act->World->Prop}(R:∀U w',al cx st' U w'->K ⟨U,aj.D cx⟩ w'):aa.wp cx.P ⟨T,aj.D cx⟩ w K Q:=by
 unfold Hp at o
 split at o
 ·rename_i r W
  cases o
  exact XB q h W O R
 ·exact QH q h o O R
end Go.Ev
namespace Go.Ev
open Go Go.RowKit
variable [cm]
variable {cx:bJ} {m:Nat->Value} {st st':af} {T:Array Value} {w w':World}
variable [aj cx]
/-! Copying, clearing. -/
theorem Oe{α:Type}{f:List Value->α->Prop}:∀{q O:List α} {c1 c2:List Value},bT f c1 q->bT f c2 O->bT f (c1++c2) (q++O)
 |[],_,_,_,R,o=>by cases R;exact o
 |y::U,_,_,_,⟨d1,d2,e,g1,g2⟩,o=>by subst e;exact⟨d1,_,by simp,g1,Oe g2 o⟩
theorem DZ{M:Nat->Prop}{u:ah}:∀{xs:List u.el} {cs:List Value},bT (aL w M u) cs xs->∀v∈cs,v.oneCell'=true
 |[],cs,q,v,o=>by cases q;simp at o
 |y::U,cs,⟨c1,c2,e,O,R⟩,v,o=>by
  subst e
  rcases List.mem_append.1 o with o|o
  ·exact hU u O v o
  ·exact DZ R v o
theorem ao.over(h:ao cx m st T w){r:Nat}{c:cV}(q:(r,c)∈st.rw){o:List c.t.el}{news:List Value}(Y:bT (aL w (au cx m st.ids) c.t) news o)(Z:o.length<=c.xs.length){g:Nat}{n cap:Nat}{cur:Array Value}
  (O:m r=.slice (some ⟨g,0,none⟩) n cap)(la:w.heap[g]? =some (.cells cur c.e (0,0))):
  ao cx m (st.setRow r {c with xs:=o++c.xs.drop o.length}) T (w.setRow g (news++cur.toList.drop news.length).toArray):=by
 obtain⟨cells,lb,lr,lh⟩:=h.rows r c q
 have li:r∈st.ids:=List.mem_append.2 (.inr (List.mem_map.2 ⟨_,q,rfl⟩))
 rcases lb.2 with ⟨lc,_⟩|⟨ls,lt,lu,W,lj,ld,le,lk,lf,ll⟩
 ·rw[O]at lc;cases lc
 rw[O]at W
 simp only[Value.slice.injEq,Option.some.injEq,Addr.mk.injEq,and_true]at W
 obtain⟨rfl,rfl,rfl⟩:=W
 rw[la]at ld
 cases ld
 have R:news.length=o.length*c.t.cells:=jC (fun _ _=>cu c.t) _ _ Y
 have lm:cells.length=c.xs.length*c.t.cells:=lb.1
 have lg:Touch m w r (w.setRow g (news++cur.toList.drop news.length).toArray):=
  ⟨kC _ _ _,fun k lv ln=>setRow_other _ _ _ _ (fun e=>ln (by rw[O,e];exact gP rfl))⟩
 obtain⟨lo,_⟩:=pa q h.keys {c with xs:=o++c.xs.drop o.length}
 obtain⟨lp,lq⟩:=ao.ia (cx:=cx) li lg lo
 have U:(o++c.xs.drop o.length).length=c.xs.length:=by rw[List.length_append,List.length_drop];omega
 have lw:o.length*c.t.cells<=c.xs.length*c.t.cells:=Nat.mul_le_mul_right _ Z
 have lx:c.xs.length*c.t.cells<=cur.size:=by rw[lf];exact Nat.mul_le_mul_right _ le
 refine h.setRow q lg (cells:=news++cells.drop news.length) ?_ (dD (fun _ _=>cS lp lq c.t) (Oe Y (by rw[R];exact Dg o.length lh Z)))
 refine⟨by simp only[U];rw[List.length_append,List.length_drop,lm,R];omega,.inr ⟨g,cap,_,by simp only[U];exact O,lj,setRow_heap _ _ _ _ _ _ la,by simp only[U];exact le,lk,?_,?_⟩⟩
 ·have e:cur.toList.length=cur.size:=Array.length_toList
  rw[List.size_toArray,List.length_append,List.length_drop,e,R,<-lf]
  omega
 ·simp only[U]
  rw[<-ll,List.drop_take,List.take_append,List.take_of_length_le (by omega),R]
/-! Structs whose fields own things. -/
theorem wF{M:Nat->Prop}:∀{vs:List Value} {l:List b9},dq w M m vs l->vs.length=l.length
 |[],[],_=>rfl
 |[],_::_,h=>h.elim
 |_::_,[],h=>h.elim
 |_::_,.v _::_,⟨_,h⟩=>by simp[wF h]
 |_::_,.r _::_,⟨_,h⟩=>by simp[wF h]
 |_::vs,.a::l,h=>by simp[wF (vs:=vs) (l:=l) h]
theorem sG{M:Nat->Prop}:∀{v1 v2:List Value} {l1 l2:List b9},dq w M m v1 l1->dq w M m v2 l2->dq w M m (v1++v2) (l1++l2)
 |[],_,[],_,_,h=>h
 |[],_,_::_,_,h,_=>h.elim
 |_::_,_,[],_,h,_=>h.elim
 |_::_,_,.v _::_,_,⟨q,o⟩,h=>⟨q,sG o h⟩
 |_::_,_,.r _::_,_,⟨q,o⟩,h=>⟨q,sG o h⟩
 |_::vs,_,.a::l,_,o,h=>sG (v1:=vs) (l1:=l) o h
theorem nN{M:Nat->Prop}:∀(n:Nat) {vs:List Value} {l:List b9},dq w M m vs l->dq w M m (vs.take n) (l.take n)/\dq w M m (vs.drop n) (l.drop n)
 |0,vs,l,h=>⟨trivial,h⟩
 |n+1,[],[],_=>⟨trivial,trivial⟩
 |n+1,[],_::_,h=>h.elim
 |n+1,_::_,[],h=>h.elim
 |n+1,_::_,.v _::_,⟨q,o⟩=>⟨⟨q,(nN n o).1⟩,(nN n o).2⟩
 |n+1,_::_,.r _::_,⟨q,o⟩=>⟨⟨q,(nN n o).1⟩,(nN n o).2⟩
 |n+1,_::vs,.a::l,h=>⟨(nN n (vs:=vs) (l:=l) h).1,(nN n (vs:=vs) (l:=l) h).2⟩
theorem IY{M:Nat->Prop}:∀(vs:List Value),dq w M m vs (List.replicate vs.length .a)
 |[]=>trivial
 |_::vs=>IY vs
def zN:List ap->Option (List b9)
 |[]=>some []
 |.val t x::l=>match zN l with
  |some r=>some (.v ⟨t,x⟩::r)
  |none=>none
 |_=>none
theorem Ml{M:Nat->Prop}:∀{vs:List Value} {l:List ap} {r:List b9},zN l=some r->cJ w M m vs l->dq w M m vs r
 |[],[],_,h,_=>by cases h;trivial
 |_::_,[],_,_,o=>o.elim
 |[],_::_,_,_,o=>o.elim
 |v::vs,s::l,r,h,⟨q,O⟩=>by
  unfold zN at h
  split at h
  ·rename_i e;cases e
  ·rename_i t x U e
   cases e
   split at h
   ·rename_i W R;cases h;exact⟨q,Ml R O⟩
   ·cases h
  ·cases h
def FE(st:af)(u:ah)(s:ap):Option (List b9):=
 match s with
 |.val t x=>match t.beq u with
  |true=>zN (leaves t x)
  |false=>match u,t.agg with
   |.cO,false=>some [.v ⟨t,x⟩]
   |_,_=>none
 |.row r=>match Nat.beq u.cells 1,look st.rw r with
  |true,some _=>some [.r r]
  |_,_=>none
 |.iter b=>match Nat.beq u.cells 1,look st.ae b with
  |true,some (.mp _ _ _)=>some [.r b]
  |_,_=>none
 |_=>none
theorem XY(h:ao cx m st T w){u:ah}{s:ap}{c:List b9}{v:Value}(o:FE st u s=some c)(q:aX w (au cx m st.ids) m v s):
  dq w (au cx m st.ids) m v.cells.toList c/\v.cells.size=u.cells:=by
 unfold FE at o
 split at o
 ·rename_i t x
  split at o
  ·rename_i O
   obtain rfl:=ah.eq_of_beq O
   have R:=jP q
   exact⟨Ml o (xZ t R),by rw[<-cu t R];simp⟩
  ·split at o
   ·rename_i W _
    cases o
    have Y:=hU t ((bC W).1 (show bf w (au cx m st.ids) v t x from q)) v List.mem_cons_self
    have U:v.cells=#[v]:=by cases v<;>first|rfl|(simp[Value.oneCell']at Y)
    rw[U]
    exact⟨⟨q,trivial⟩,rfl⟩
   ·cases o
 ·rename_i r
  split at o
  ·rename_i c' O Z
   cases o
   have e:v=m r:=q
   have R:=row_one h (be Z)
   have U:v.cells=#[v]:=by rw[e];cases la:m r<;>first|rfl|(rw[la]at R;simp[Value.oneCell']at R)
   rw[U]
   exact⟨⟨e,trivial⟩,by rw[Nat.eq_of_beq_eq_true O];rfl⟩
  ·cases o
 ·rename_i b
  split at o
  ·rename_i k v' ps O lb
   cases o
   have e:v=m b:=q
   obtain⟨g,lc,_⟩:=h.box (be lb)
   have U:v.cells=#[v]:=by rw[e,lc];rfl
   rw[U]
   exact⟨⟨e,trivial⟩,by rw[Nat.eq_of_beq_eq_true O];rfl⟩
  ·cases o
 ·cases o
def zu(P:Program)(st:af)(t:TypeId):List (Nat×Operand)->List b9->Option (List b9)
 |[],l=>some l
 |(i,x)::r,l=>match fieldInfo P t i,aW st x with
  |some (off,u),some s=>match FE st u s,Nat.ble (off+u.cells) l.length with
   |some c,true=>zu P st t r (l.take off++c++l.drop (off+u.cells))
   |_,_=>none
  |_,_=>none
theorem Jn{t:TypeId}{an:Array Field}(lb:cx.P.underlying t=some (.struct an))(h:ao cx m st T w)
  {place:Nat->Option (Nat×Nat)}(W:∀i off o,fieldInfo cx.P t i=some (off,o)->place i=some (off,o.cells)):
  ∀(parts:List (Nat×Operand)) (l O:List b9) (cs:List Value),dq w (au cx m st.ids) m cs l->zu cx.P st t parts l=some O->
   ∃U,Instr.fill place cs.toArray (parts.map fun p=>(p.1,Act.eval ⟨T,aj.D cx⟩ p.2))=some U.toArray/\dq w (au cx m st.ids) m U O
 |[],l,O,cs,R,q=>by cases q;exact⟨cs,rfl,R⟩
 |(i,aa)::r,l,O,cs,R,q=>by
  unfold zu at q
  split at q
  ·rename_i off o s lc ld
   split at q
   ·rename_i c le Y
    have Y:=Nat.le_of_ble_eq_true Y
    obtain⟨lf,Z⟩:=XY h le (bj h ld)
    have ln:=wF R
    have lg:(Act.eval ⟨T,aj.D cx⟩ aa).cells.toList.length=o.cells:=by rw[Array.length_toList,Z]
    have lh:cs=cs.take off++(cs.drop off).take o.cells++cs.drop (off+o.cells):=by
     rw[List.append_assoc,<-List.drop_drop,List.take_append_drop,List.take_append_drop]
    have li:(cs.take off).length=off:=by rw[List.length_take];omega
    have lj:((cs.drop off).take o.cells).length=o.cells:=by rw[List.length_take,List.length_drop];omega
    obtain⟨U,lk,ll⟩:=Jn lb h W r _ O (cs.take off++(Act.eval ⟨T,aj.D cx⟩ aa).cells.toList++cs.drop (off+o.cells)) (sG (sG (nN off R).1 lf) (nN (off+o.cells) R).2) q
    refine⟨U,?_,ll⟩
    rw[List.map_cons,Instr.fill,W i off o lc]
    have lm:¬(((Act.eval ⟨T,aj.D cx⟩ aa).cells.size≠o.cells||decide (off+(Act.eval ⟨T,aj.D cx⟩ aa).cells.size>cs.toArray.size))=true):=by
     simp only[Z,List.size_toArray]
     simp
     omega
    simp only[]
    rw[if_neg lm]
    have la:=wr (Act.eval ⟨T,aj.D cx⟩ aa).cells.toList (cs.take off) (cs.drop (off+o.cells)) ((cs.drop off).take o.cells) (by rw[lj,lg])
    rw[<-lh,li,Array.toArray_toList]at la
    rw[la]
    exact lk
   ·cases q
  ·cases q
def b9.aU(st:af):b9->ap
 |.v u=>.val u.t u.x
 |.r b=>match look st.ae b with
  |some (.cells _ _)=>.ptr b 0
  |some _=>.iter b
  |none=>.row b
 |.a=>.any
theorem zo(h:ao cx m st T w):∀{vs:List Value} {l:List b9},dq w (au cx m st.ids) m vs l->cJ w (au cx m st.ids) m vs (l.map (b9.aU st))
 |[],[],_=>trivial
 |[],_::_,h=>h.elim
 |_::_,[],h=>h.elim
 |_::_,.v _::_,⟨o,q⟩=>⟨o,zo h q⟩
 |v::_,.r b::_,⟨o,q⟩=>by
  refine⟨?_,zo h q⟩
  show aX _ _ _ _ (match look st.ae b with
   |some (.cells _ _)=>.ptr b 0
   |some _=>.iter b
   |none=>.row b)
  split
  ·rename_i l e R
   obtain⟨g,O,_⟩:=h.box (be R)
   exact⟨g,O,by rw[o];exact O⟩
  ·exact o
  ·exact o
 |_::vs,.a::l,q=>⟨trivial,zo (vs:=vs) (l:=l) h q⟩
def T0(r:Nat)(n:Int):ap->ap
 |.row b=>bif Nat.beq b r then .ai n else .row b
 |s=>s
def LK(st:af)(a r:Nat)(n:Int):af:={st with ab:=st.ab.map fun p=>bif Nat.beq p.1 a then p else(p.1,T0 r n p.2)}
theorem Xq(h:ao cx m st T w){a r:Nat}{c:cV}(Y:(r,c)∈st.rw):ao cx m (LK st a r (c.xs.length:Int)) T w:=
 {h with
  de:=fun i aU Z=>by
   obtain⟨⟨j,s⟩,la,o⟩:=List.mem_map.1 Z
   obtain⟨v,R,q⟩:=h.de j s la
   cases U:Nat.beq j a with
   |true=>
    simp only[U,cond_true]at o
    cases o
    exact⟨v,R,q⟩
   |false=>
    simp only[U,cond_false]at o
    cases o
    refine⟨v,R,?_⟩
    cases s with
    |row b=>
     show aX _ _ _ _ (bif Nat.beq b r then .ai (c.xs.length:Int)else .row b)
     cases lb:Nat.beq b r with
     |false=>exact q
     |true=>
      have e:=Nat.eq_of_beq_eq_true lb
      subst e
      have W:v=m b:=q
      obtain⟨cells,lc,_⟩:=h.rows b c Y
      rcases lc.2 with ⟨O,ld⟩|⟨g,cap,cur,O,_⟩
      ·exact⟨none,0,0,by rw[W,O],by rw[ld]⟩
      ·exact⟨_,_,cap,by rw[W,O],rfl⟩
    |_=>exact q}
def FG(E:Env)(st:af)(aa:Oper)(orc:List ak):Option (af×List ak×List Prop):=
 match aa.op with
 |.call {callee:=.builtin .append,args:=args,argTypes:=_}=>match args.toList,orc with
  |[.tmp a,_],⟨.unit,_⟩::orc'=>match look st.ab a with
   |some (.row r)=>match look st.rw r with
    |some c=>oT E (LK st a r (c.xs.length:Int)) aa orc'
    |none=>none
   |_=>none
  |_,_=>none
 |.box t x=>match aa.dst,orc with
  |some d,⟨.unit,_⟩::orc'=>match ty E.P t,dL st x,Nat.blt d E.n with
   |some u,some v,true=>match v.as u with
    |some y=>some ((st.dy d (.aY u y t)).put d (.dP d []),orc',[])
    |none=>none
   |_,_,_=>none
  |_,_=>none
 |_=>none
theorem PG{E:Env}(U:bE E cx)(h:al cx st T w){aa:Oper}{orc:List ak}{st':af}{orc':List ak}{ob:List Prop}(o:FG E st aa orc=some (st',orc',ob))(la:bW ob)
  {K:Act->World->Prop}{Q:Exit->Act->World->Prop}(W:∀Y w',al cx st' Y w'->K ⟨Y,aj.D cx⟩ w'):aa.wp cx.P ⟨T,aj.D cx⟩ w K Q:=by
 obtain⟨m,O⟩:=h
 unfold FG at o
 split at o
 ·split at o
  ·split at o
   ·split at o
    ·rename_i c lb
     exact s7 U ⟨m,Xq O (be lb)⟩ o la W
    ·cases o
   ·cases o
  ·cases o
 ·rename_i t x lc
  split at o
  case h_2=>cases o
  rename_i d ll lm ai
  split at o
  case h_2=>cases o
  rename_i u v ln ld le
  split at o
  case h_2=>cases o
  rename_i y lf
  cases o
  have Z:d<cx.n:=by rw[U.n];exact dg le
  have lg:=ak.dx lf
  subst lg
  have lh:=jP (dt O ld)
  have R:dG cx m st w d (fK w.heap.size (.aY u y t)) (w.alloc (.cells (Act.eval ⟨T,aj.D cx⟩ x).cells t)):=
   dG.fresh O d _ (iK _ _) fun g li=>by cases mz li;exact⟨Nat.le_refl _,by simp⟩
  have lj:∀i,i∈(st.dy d (.aY u y t)).ids->i=d\/i∈st.ids:=by
   intro i q
   rw[xA]at q
   rcases List.mem_cons.1 q with q|q
   ·exact .inl q
   ·exact .inr ((nY st d i).1 q).1
  have lk:=O.dy Z R (.inl (qE O)) ⟨(Act.eval ⟨T,aj.D cx⟩ x).cells,heap_alloc_new w _,cS R.keeps (R.mut lj) u lh⟩
  refine gY (v:=.pointer (some ⟨w.heap.size,0,none⟩)) (w':=w.alloc (.cells (Act.eval ⟨T,aj.D cx⟩ x).cells t)) (cF (s:=Instr.box t (Act.eval ⟨T,aj.D cx⟩ x)) (by simp only[execOp,lc]) ?_) ?_
  ·simp[Instr.box,newVar,newRow]
  ·rw[ai]
   exact W _ _ ⟨_,lk.put Z ⟨w.heap.size,ct _ _ _,rfl⟩⟩
 ·cases o
def w8(st:af):List Operand->Option (List ak)
 |[]=>some []
 |x::xs=>match aW st x,w8 st xs with
  |some (.vptr u y),some l=>some (⟨.ptr u,y⟩::l)
  |_,_=>none
theorem OD(h:ao cx m st T w):∀{xs:List Operand} {l:List ak},w8 st xs=some l->eg w (au cx m st.ids) (xs.map (Act.eval ⟨T,aj.D cx⟩)) l/\∀u∈l,u.t.agg=false
 |[],l,o=>by cases o;exact⟨trivial,fun u O=>absurd O List.not_mem_nil⟩
 |x::xs,l,o=>by
  unfold w8 at o
  split at o
  ·rename_i u y la R U
   cases o
   obtain⟨W,Y⟩:=OD h U
   obtain⟨a,cells,e,Z,cy⟩:=bj h R
   refine⟨⟨(bC (t:=.ptr u) rfl).2 ⟨a,cells,by rw[e],Z,cy⟩,W⟩,fun v q=>?_⟩
   rcases List.mem_cons.1 q with rfl|q
   ·rfl
   ·exact Y v q
  ·cases o
def xD(E:Env)(st:af)(aa:Oper)(orc:List ak):Option (af×List ak×List Prop):=
 match aa.op with
 |.call {callee:=.builtin .copy,args:=args,argTypes:=q}=>match args.toList,q.toList with
  |[x,y],[t,O]=>match aW st x,ew E.P t with
   |some (.row r),some (e,u)=>match look st.rw r with
    |some c=>match c.t.beq u,na E.P st c.t O y with
     |true,some o=>match aa.dst with
      |none=>some (st.setRow r ⟨c.e,c.t,o++c.xs.drop o.length⟩,orc,[o.length<=c.xs.length])
      |some d=>match Nat.blt d E.n with
       |true=>some ((st.setRow r ⟨c.e,c.t,o++c.xs.drop o.length⟩).put d (.val (.int .i64) (o.length:Int)),orc,[o.length<=c.xs.length])
       |false=>none
     |_,_=>none
    |none=>none
   |_,_=>none
  |_,_=>none
 |.call {callee:=.builtin .clear,args:=args,argTypes:=q}=>match args.toList,q.toList,aa.dst with
  |[x],[t],none=>match aW st x,ew E.P t with
   |some (.row r),some (e,u)=>match look st.rw r,zeroOf E.P e with
    |some c,some R=>match c.t.beq u&&u.beq R with
     |true=>some (st.setRow r ⟨c.e,c.t,List.replicate c.xs.length (cl c.t)⟩,orc,[])
     |false=>none
    |_,_=>none
   |_,_=>none
  |_,_,_=>none
 |.call {callee:=.builtin .len,args:=args,argTypes:=q}=>match args.toList,q.toList,aa.dst with
  |[x],[t],some d=>match aW st x,ty E.P t,Nat.blt d E.n with
   |some (.ai n),some (.ab _),true=>some (st.put d (.val (.int .i64) n),orc,[])
   |some (.osl b),some (.ab _),true=>match look st.ae b with
    |some (.ba _ _ xs)=>some (st.put d (.val (.int .i64) (xs.length:Int)),orc,[])
    |_=>none
   |_,_,_=>none
  |_,_,_=>none
 |.call {callee:=.builtin .min,args:=args,.. }=>match args.toList,aa.dst with
  |[x,y,z],some d=>match dL st x,dL st y,dL st z,Nat.blt d E.n with
   |some ⟨.int k,a⟩,some ⟨.int k',b⟩,some ⟨.int U,c⟩,true=>bif gR k k'&&gR k U then some (st.put d (.val (.int k) (fM (fM a b) c)),orc,[])else none
   |_,_,_,_=>none
  |_,_=>none
 |.assign (.const (.map none))=>match aa.dst,ty E.P aa.type with
  |some d,some (.map k v)=>match Nat.blt d E.n with
   |true=>some (st.put d (.val (.map k v) none),orc,[])
   |false=>none
  |_,_=>none
 |.move (.const (.map none))=>match aa.dst,ty E.P aa.type with
  |some d,some (.map k v)=>match Nat.blt d E.n with
   |true=>some (st.put d (.val (.map k v) none),orc,[])
   |false=>none
  |_,_=>none
 |.build t parts=>match aa.dst,ty E.P t,E.P.info? t with
  |some d,some u,some i=>match i.zero,u.rz&&Nat.blt d E.n with
   |some z,true=>match Nat.beq z.cells.size u.cells,zu E.P st t parts.toList (List.replicate z.cells.size .a)with
    |true,some l=>some (st.put d (.fe l),orc,[])
    |_,_=>none
   |_,_=>none
  |_,_,_=>none
 |.box t x=>match aa.dst,aW st x with
  |some d,some (.fe l)=>match Nat.blt d E.n with
   |true=>some ((st.dy d (.cells ((l.map (b9.aU st)).map (ap.dE d)) t)).put d (.ptr d 0),orc,[])
   |false=>none
  |some d,some (.val u y)=>match u.agg&&Nat.blt d E.n with
   |true=>some ((st.dy d (.cells ((leaves u y).map (ap.dE d)) t)).put d (.ptr d 0),orc,[])
   |false=>none
  |_,_=>none
 |.makeFunc (.func f) first fc=>match aa.dst,first.toList,w8 st fc.toList with
  |some d,[],some l=>match Nat.blt d E.n with
   |true=>some (st.put d (.val (.fn f (pairUp l).t) (pairUp l).x),orc,[])
   |false=>none
  |_,_,_=>none
 |_=>none
theorem xC{aa:Oper}{K:Act->World->Prop}{Q:Exit->Act->World->Prop}(ai:aa.dst=none){v:Value}(o:(execOp (Act.eval ⟨T,aj.D cx⟩) aa).run cx.P w=.ok (.value v) w')(q:K ⟨T,aj.D cx⟩ w'):aa.wp cx.P ⟨T,aj.D cx⟩ w K Q:=by
 unfold Oper.wp
 rw[o]
 show K (Act.put ⟨T,aj.D cx⟩ aa.dst v) w'
 rw[ai]
 exact q
theorem My{E:Env}(lg:bE E cx)(h:al cx st T w){aa:Oper}{orc:List ak}{st':af}{orc':List ak}{ob:List Prop}(o:xD E st aa orc=some (st',orc',ob))(lT:bW ob)
  {K:Act->World->Prop}{Q:Exit->Act->World->Prop}(lr:∀lU w',al cx st' lU w'->K ⟨lU,aj.D cx⟩ w'):aa.wp cx.P ⟨T,aj.D cx⟩ w K Q:=by
 obtain⟨m,q⟩:=h
 have fin:∀(d:Nat) (v:Value) (w':World) (aA:Nat->Value) (lB:af) (aU:ap),aa.dst=some d->Nat.blt d E.n=true->(execOp (Act.eval ⟨T,aj.D cx⟩) aa).run cx.P w=.ok (.value v) w'->ao cx aA lB T w'->aX w' (au cx aA lB.ids) aA v aU->lB.put d aU=st'->aa.wp cx.P ⟨T,aj.D cx⟩ w K Q:=by
  intro d v w' aA lB aU ai O ls ae ag e
  have lt:d<cx.n:=by rw[lg.n];exact dg O
  refine gY ls ?_
  rw[ai]
  exact lr _ _ ⟨aA,e▸ae.put lt ag⟩
 unfold xD at o
 split at o
 ·rename_i args lh R
  split at o
  case h_2=>cases o
  rename_i x y t am lk lu
  split at o
  case h_2=>cases o
  rename_i r e u Z lv
  split at o
  case h_2=>cases o
  rename_i c lF
  split at o
  case h_2=>cases o
  rename_i li lw lV
  rw[<-lg.P]at lv lV
  obtain⟨lf,lC,lW⟩:=jr lv
  obtain⟨i2,a4,lD,_⟩:=dw lC
  obtain⟨_,lG,lX,lY,lH⟩:=KE q lV
  have W:=be lF
  have lp:=ah.eq_of_beq lw
  have ll:args=#[x,y]:=by rw[<-Array.toArray_toList (xs:=args),lk]
  have lx:lh=#[t,am]:=by rw[<-Array.toArray_toList (xs:=lh),lu]
  subst ll
  subst lx
  have lq:Act.eval ⟨T,aj.D cx⟩ x=m r:=bj q Z
  have lm:i2.size=c.t.cells:=by rw[lp];exact lD
  have key:li.length<=c.xs.length->∃w',(execOp (Act.eval ⟨T,aj.D cx⟩) aa).run cx.P w=.ok (.value (goInt li.length)) w'/\ao cx m (st.setRow r ⟨c.e,c.t,li++c.xs.drop li.length⟩) T w':=by
   intro lZ
   have aq:Nat.min li.length c.xs.length=li.length:=Nat.min_eq_left lZ
   obtain⟨cells,lI,ar,av⟩:=q.rows r c W
   rcases lI.2 with ⟨lc,lJ⟩|⟨g,cap,cur,lc,aw,la,l0,ax,lK,ay⟩
   ·have az:li=[]:=List.eq_nil_of_length_eq_zero (by omega)
    subst az
    have lj:c.xs=[]:=List.eq_nil_of_length_eq_zero lJ
    refine⟨w,?_,?_⟩
    ·have Y:=lY w (fun _ _=>rfl)
     have aB:Builtin.lenOf (Act.eval ⟨T,aj.D cx⟩ y)=pure 0:=lX
     simp only[List.length_nil]at Y
     simp[execOp,R,resolve,invoke,builtin,Builtin.copy_,lq,lc,run_underlying lf,aB,fi lC,<-lp,Y]
    ·have U:(⟨c.e,c.t,([]:List c.t.el)++c.xs.drop ([]:List c.t.el).length⟩:cV)=c:=by simp
     rw[U]
     obtain⟨l3,ly,l4,lz⟩:=q.rows r c W
     exact q.setRow W ⟨⟨rfl,rfl,rfl,Nat.le_refl _,fun _=>Nat.le_refl _⟩,fun _ _ _=>rfl⟩ ly (dD (fun _ _=>cS (fun _ _ _=>rfl) (fun _ _ la=>ne (fun i ld=>((pa W q.keys c).1 i).1 ld) la) c.t) lz)
   ·have lL:lG.length=li.length*c.t.cells:=jC (fun _ _=>cu c.t) _ _ lH
    have lM:lG.length<=cur.size:=by
     rw[lL,lK]
     exact Nat.mul_le_mul_right _ (by omega)
    have le:=run_storeCells_at (P:=cx.P) g 0 c.e lG 0 cur w la (by simpa using lM) (DZ lH)
    simp only[Nat.add_zero,List.take_zero,List.nil_append,Nat.zero_add]at le
    refine⟨_,?_,q.over W lH lZ lc la⟩
    have Y:=lY w (fun _ _=>rfl)
    simp[execOp,R,resolve,invoke,builtin,Builtin.copy_,lq,lc,run_underlying lf,lX,fi lC,<-lp,aq,Y,le]
  split at o
  ·rename_i ai
   cases o
   obtain⟨w',lA,lN⟩:=key lT.1
   exact xC ai lA (lr _ _ ⟨m,lN⟩)
  ·rename_i d ai
   split at o
   case h_2=>cases o
   rename_i O
   cases o
   obtain⟨w',lA,lN⟩:=key lT.1
   exact fin d _ w' m _ (.val (.int .i64) _) ai O lA lN (dp.2 rfl) rfl
 ·rename_i args lh R
  split at o
  case h_2=>cases o
  rename_i x t lk lu ai
  split at o
  case h_2=>cases o
  rename_i r e u Z lv
  split at o
  case h_2=>cases o
  rename_i c a5 lF lm
  split at o
  case h_2=>cases o
  rename_i lw
  cases o
  rw[Bool.and_eq_true]at lw
  have lp:=ah.eq_of_beq lw.1
  have aC:=ah.eq_of_beq lw.2
  rw[<-lg.P]at lv lm
  obtain⟨lf,lC,lW⟩:=jr lv
  obtain⟨i,z,_,ld,lD,aD,lO⟩:=kq lm
  rw[<-aC,<-lp]at lD lO
  have W:=be lF
  have ll:args=#[x]:=by rw[<-Array.toArray_toList (xs:=args),lk]
  have lx:lh=#[t]:=by rw[<-Array.toArray_toList (xs:=lh),lu]
  subst ll
  subst lx
  have lq:Act.eval ⟨T,aj.D cx⟩ x=m r:=bj q Z
  have aE:∀w',(zeroValue e).run cx.P w'=.ok z w':=fun w'=>by simp[zeroValue,typeInfo,ld,aD]
  have lE:z.cells.size=c.t.cells:=by rw[<-cu c.t (lO w (au cx m st.ids))];simp
  have aF:0<c.t.cells:=by rw[lp];exact lW
  obtain⟨cells,lI,ar,av⟩:=q.rows r c W
  rcases lI.2 with ⟨lc,lJ⟩|⟨g,cap,cur,lc,aw,la,l0,ax,lK,ay⟩
  ·have lj:c.xs=[]:=List.eq_nil_of_length_eq_zero lJ
   refine xC ai (w':=w) (v:=.tuple #[]) ?_ (lr _ _ ⟨m,?_⟩)
   ·simp[execOp,R,resolve,invoke,builtin,Builtin.clear_,lq,lc,run_underlying lf]
   ·have U:(⟨c.e,c.t,List.replicate c.xs.length (cl c.t)⟩:cV)=c:=by rw[lj];obtain⟨aG,qc,aH⟩:=c;simp only at lj;subst lj;rfl
    rw[U]
    obtain⟨l3,ly,l4,lz⟩:=q.rows r c W
    exact q.setRow W ⟨⟨rfl,rfl,rfl,Nat.le_refl _,fun _=>Nat.le_refl _⟩,fun _ _ _=>rfl⟩ ly (dD (fun _ _=>cS (fun _ _ _=>rfl) (fun _ _ la=>ne (fun i ld=>((pa W q.keys c).1 i).1 ld) la) c.t) lz)
  ·have lP:=OB (lO w (au cx m st.ids)) aF c.xs.length
   have l5:(Builtin.zeroCells z.cells c.xs.length)=madeCells z.cells (c.xs.length*c.t.cells):=by rw[<-lE];rfl
   have l6:=q.over W lP (by rw[List.length_replicate];exact Nat.le_refl _) lc la
   have aI:List.replicate c.xs.length (cl c.t)++c.xs.drop (List.replicate c.xs.length (cl c.t)).length=List.replicate c.xs.length (cl c.t):=by
    rw[List.length_replicate,List.drop_eq_nil_of_le (Nat.le_refl _),List.append_nil]
   rw[aI]at l6
   have lL:(madeCells z.cells (c.xs.length*c.t.cells)).toList.length=c.xs.length*c.t.cells:=by
    rw[jC (fun _ _=>cu c.t) _ _ lP,List.length_replicate]
   have lM:(madeCells z.cells (c.xs.length*c.t.cells)).toList.length<=cur.size:=by
    rw[lL,lK]
    exact Nat.mul_le_mul_right _ l0
   have le:=run_storeCells_at (P:=cx.P) g 0 c.e (madeCells z.cells (c.xs.length*c.t.cells)).toList 0 cur w la (by simpa using lM) (DZ lP)
   simp only[Nat.add_zero,List.take_zero,List.nil_append,Nat.zero_add]at le
   by_cases l7:c.xs.length=0
   ·have lj:c.xs=[]:=List.eq_nil_of_length_eq_zero l7
    refine xC ai (w':=w) (v:=.tuple #[]) ?_ (lr _ _ ⟨m,?_⟩)
    ·have aJ:m r=.slice (some ⟨g,0,none⟩) 0 cap:=by rw[lc,l7]
     simp[execOp,R,resolve,invoke,builtin,Builtin.clear_,lq,aJ,run_underlying lf]
    ·have U:(⟨c.e,c.t,List.replicate c.xs.length (cl c.t)⟩:cV)=c:=by rw[lj];obtain⟨aG,qc,aH⟩:=c;simp only at lj;subst lj;rfl
     rw[U]
     obtain⟨l3,ly,l4,lz⟩:=q.rows r c W
     exact q.setRow W ⟨⟨rfl,rfl,rfl,Nat.le_refl _,fun _=>Nat.le_refl _⟩,fun _ _ _=>rfl⟩ ly (dD (fun _ _=>cS (fun _ _ _=>rfl) (fun _ _ la=>ne (fun i ld=>((pa W q.keys c).1 i).1 ld) la) c.t) lz)
   ·refine xC ai (v:=.tuple #[]) ?_ (lr _ _ ⟨m,l6⟩)
    have aK:m r=.slice (some ⟨g,0,none⟩) c.xs.length cap:=lc
    have lA:(Builtin.clear_ #[t] aa.type #[m r]).run cx.P w=.ok (.tuple #[]) (w.setRow g ((madeCells z.cells (c.xs.length*c.t.cells)).toList++cur.toList.drop (madeCells z.cells (c.xs.length*c.t.cells)).toList.length).toArray):=by
     rw[aK]
     obtain⟨k,ln⟩:∃k,c.xs.length=k+1:=⟨c.xs.length-1,by omega⟩
     rw[ln]at le l5⊢
     simp only[Builtin.clear_,List.getElem?_toArray,List.getElem?_cons_zero,Sem.run_bind,run_underlying lf,Result.andThen_ok,aE w,l5,le,Sem.run_pure]
    simp only[execOp,R,resolve,invoke,builtin,Sem.run_bind,Sem.run_pure,Result.andThen_ok,List.map_toArray,List.map_cons,List.map_nil,lq,lA]
 ·rename_i args lh R
  split at o
  case h_2=>cases o
  rename_i x t d lk lu ai
  have ll:args=#[x]:=by rw[<-Array.toArray_toList (xs:=args),lk]
  have lx:lh=#[t]:=by rw[<-Array.toArray_toList (xs:=lh),lu]
  subst ll
  subst lx
  split at o
  ·rename_i n u Z lo O
   cases o
   rw[<-lg.P]at lo
   obtain⟨i,_,_,aL,_,Y,_⟩:=dw lo
   obtain⟨a,k,cap,lb,U⟩:=bj q Z
   refine fin d (.int .i64 n) w m _ (.val (.int .i64) n) ai O ?_ q (dp.2 rfl) rfl
   rw[<-U]
   simp[execOp,R,resolve,invoke,builtin,Builtin.len_,lb,run_underlying Y,goInt]
  ·rename_i b u Z lo O
   split at o
   case h_2=>cases o
   rename_i e k xs aM
   cases o
   rw[<-lg.P]at lo
   obtain⟨i,_,_,aL,_,Y,_⟩:=dw lo
   obtain⟨g,cap,us,a6,cur,lb,_⟩:=q.ba aM
   obtain⟨a7,U⟩:=bj q Z
   rw[lb]at U
   have lQ:Act.eval ⟨T,aj.D cx⟩ x=.slice (some ⟨g,0,none⟩) xs.length cap:=by
    simp only[Value.tuple.injEq,Array.mk.injEq,List.cons.injEq]at U
    exact U.1.symm
   refine fin d (.int .i64 (xs.length:Int)) w m _ (.val (.int .i64) _) ai O ?_ q (dp.2 rfl) rfl
   simp[execOp,R,resolve,invoke,builtin,Builtin.len_,lQ,run_underlying Y,goInt]
  ·cases o
 ·rename_i args _ R
  split at o
  case h_2=>cases o
  rename_i x y z d lk ai
  split at o
  case h_2=>cases o
  rename_i k a k' b aN c Z aO lm O
  cases ln:gR k k'&&gR k aN with
  |false=>rw[ln]at o;cases o
  |true=>
  rw[ln]at o
  cases o
  rw[Bool.and_eq_true]at ln
  obtain rfl:=nE ln.1
  obtain rfl:=nE ln.2
  have ll:args=#[x,y,z]:=by rw[<-Array.toArray_toList (xs:=args),lk]
  subst ll
  have lb:=dp.1 (dt q Z)
  have U:=dp.1 (dt q aO)
  have lQ:=dp.1 (dt q lm)
  refine fin d (.int k (fM (fM a b) c)) w m _ (.val (.int k) _) ai O ?_ q (dp.2 rfl) rfl
  simp[execOp,R,resolve,invoke,builtin,Builtin.min_,lb,U,lQ,Builtin.min2,fM]
  rfl
 ·rename_i R
  split at o
  case h_2=>cases o
  rename_i d k v ai lo
  split at o
  case h_2=>cases o
  rename_i O
  cases o
  exact fin d (.map none) w m _ (.val (.map k v) none) ai O (by simp[execOp,R,Act.eval]) q ((bC (t:=.map k v) rfl).2 rfl) rfl
 ·rename_i R
  split at o
  case h_2=>cases o
  rename_i d k v ai lo
  split at o
  case h_2=>cases o
  rename_i O
  cases o
  exact fin d (.map none) w m _ (.val (.map k v) none) ai O (by simp[execOp,R,Act.eval]) q ((bC (t:=.map k v) rfl).2 rfl) rfl
 ·rename_i t parts R
  split at o
  case h_2=>cases o
  rename_i d u i ai lf ld
  split at o
  case h_2=>cases o
  rename_i z lm le
  split at o
  case h_2=>cases o
  rename_i l lE l8
  cases o
  rw[Bool.and_eq_true]at le
  rw[<-lg.P]at lf ld l8
  have lE:=Nat.eq_of_beq_eq_true lE
  obtain⟨a8,a9,lD,Y⟩:=dw lf
  have aP:∃an d',cx.P.underlying t=some (.struct an)/\fieldsOf (dc cx.P d') 0 an.toList=some u:=by
   cases u<;>first|exact Y|(simp[ah.rz]at le)
  obtain⟨an,d',lR,aQ⟩:=aP
  obtain⟨l9,ab,aR⟩:=Jn lR q (place:=fun k=>(an.map fun f=>(f.offset,cx.P.cellsOf f.type))[k]?) (fun k off ba aS=>by
   obtain⟨aT,bb,ad,aV,aW,aY,bc⟩:=ye aS
   have:aT=an:=by rw[lR]at ad;cases ad;rfl
   subst this
   obtain⟨i3,aZ,a0,_⟩:=dw aW
   rw[Array.getElem?_map,aV]
   simp[aY,Program.cellsOf,aZ,a0]) parts.toList _ l z.cells.toList (by rw[<-Array.length_toList];exact IY _) l8
  refine fin d (.agg l9.toArray) w m _ (.fe l) ai le.2 (cF (s:=Instr.build t (parts.map fun p=>(p.1,Act.eval ⟨T,aj.D cx⟩ p.2))) (by simp only[execOp,R]) ?_) q ⟨l9,rfl,aR⟩ rfl
  refine run_build w t _ _ ?_
  unfold Program.built
  simp only[ld,lR,lm,AY an.toList (fun f Y=>Bz aQ f Y)]
  rw[Array.toList_map]
  rw[Array.toArray_toList]at ab
  rw[<-ab]
  congr 1
  funext k
  simp
 ·rename_i t x R
  split at o
  case h_3=>cases o
  ·rename_i d l ai Z
   split at o
   case h_2=>cases o
   rename_i O
   cases o
   have lt:d<cx.n:=by rw[lg.n];exact dg O
   obtain⟨vs,lb,ls⟩:=bj q Z
   have lS:=sy q lt (cells:=vs.toArray) (e:=t) (l:=l.map (b9.aU st)) (zo q ls)
   refine fin d _ _ _ _ (.ptr d 0) ai O (cF (s:=Instr.box t (Act.eval ⟨T,aj.D cx⟩ x)) (by simp only[execOp,R]) ?_) lS ⟨w.heap.size,ct _ _ _,rfl⟩ rfl
   rw[lb]
   simp[Instr.box,newVar,newRow,Value.cells]
  ·rename_i d u y ai Z
   split at o
   case h_2=>cases o
   rename_i O
   rw[Bool.and_eq_true]at O
   cases o
   have lt:d<cx.n:=by rw[lg.n];exact dg O.2
   obtain⟨vs,lb,ls⟩:=(eG O.1).1 (bj q Z)
   have lS:=sy q lt (cells:=vs.toArray) (e:=t) (l:=leaves u y) (xZ u ls)
   refine fin d _ _ _ _ (.ptr d 0) ai O.2 (cF (s:=Instr.box t (Act.eval ⟨T,aj.D cx⟩ x)) (by simp only[execOp,R]) ?_) lS ⟨w.heap.size,ct _ _ _,rfl⟩ rfl
   rw[lb]
   simp[Instr.box,newVar,newRow,Value.cells]
 ·rename_i f first fc R
  split at o
  case h_2=>cases o
  rename_i d l ai Y a1
  split at o
  case h_2=>cases o
  rename_i O
  cases o
  have lb:first.map (Act.eval ⟨T,aj.D cx⟩)=#[]:=by rw[show first=#[] by rw[<-Array.toArray_toList (xs:=first),Y]];simp
  obtain⟨a2,a3⟩:=OD q a1
  have U:fc.map (Act.eval ⟨T,aj.D cx⟩)=(fc.toList.map (Act.eval ⟨T,aj.D cx⟩)).toArray:=by apply Array.ext';simp
  refine fin d (.func (.func f) #[] (fc.toList.map (Act.eval ⟨T,aj.D cx⟩)).toArray) w m _ (.val (.fn f (pairUp l).t) (pairUp l).x) ai O (cF (s:=Instr.makeFunc (.func f) (first.map (Act.eval ⟨T,aj.D cx⟩)) (fc.map (Act.eval ⟨T,aj.D cx⟩))) (by simp only[execOp,R]) ?_) q ((bC (t:=.fn f (pairUp l).t) rfl).2 ⟨_,rfl,tH a3 a2⟩) rfl
  rw[lb,U]
  simp[Instr.makeFunc]
 ·cases o
def Bp(E:Env)(st:af)(aa:Oper)(orc:List ak):Option (af×List ak×List Prop):=
 match FG E st aa orc with
 |some r=>some r
 |none=>match Hp E st aa orc with
  |some r=>some r
  |none=>xD E st aa orc
theorem Z4{E:Env}(q:bE E cx)(h:al cx st T w){aa:Oper}{orc:List ak}{st':af}{orc':List ak}{ob:List Prop}(o:Bp E st aa orc=some (st',orc',ob))(O:bW ob)
  {K:Act->World->Prop}{Q:Exit->Act->World->Prop}(R:∀W w',al cx st' W w'->K ⟨W,aj.D cx⟩ w'):aa.wp cx.P ⟨T,aj.D cx⟩ w K Q:=by
 unfold Bp at o
 split at o
 ·rename_i r U
  cases o
  exact PG q h U O R
 ·split at o
  ·rename_i r U
   cases o
   exact aai q h U O R
  ·exact My q h o O R
end Go.Ev
namespace Go.Ev
open Go Go.RowKit
variable [cm]
variable {cx:bJ} {m aA:Nat->Value} {st st':af} {T:Array Value} {w w':World}
variable [aj cx]
def gI(i:Nat)(l:List Nat):Bool:=l.any (Nat.beq i)
theorem uV{i:Nat}{l:List Nat}:gI i l=true↔i∈l:=by
 unfold gI
 rw[List.any_eq_true]
 exact⟨fun⟨x,o,e⟩=>by rw[Nat.eq_of_beq_eq_true e];exact o,fun h=>⟨i,h,Nat.beq_refl i⟩⟩
def jb{α:Type}(o:List Nat)(l:List (Nat×α)):List (Nat×α):=l.filter fun p=>!(gI p.1 o)
theorem pJ{α:Type}{o:List Nat}{l:List (Nat×α)}{p:Nat×α}:p∈jb o l↔p∈l/\p.1∉o:=by
 unfold jb
 rw[List.mem_filter,Bool.not_eq_true',<-uV]
 exact⟨fun⟨a,b⟩=>⟨a,by rw[b];decide⟩,fun⟨a,b⟩=>⟨a,by cases h:gI p.1 o with|true=>exact absurd h b|false=>rfl⟩⟩
def af.dZ(st:af)(o:List Nat)(q:List (Nat×b7))(O:List (Nat×cV))(f:ap->ap):af:=
 {ab:=st.ab.map fun p=>(p.1,f p.2),ae:=q++(jb o st.ae).map fun p=>(p.1,p.2.map f),rw:=O++jb o st.rw}
theorem qn{D:List Nat}{O:List (Nat×b7)}{R:List (Nat×cV)}{f:ap->ap}{i:Nat}:i∈(st.dZ D O R f).ids↔(i∈O.map (·.1)\/i∈R.map (·.1))\/(i∈st.ids/\i∉D):=by
 simp only[af.ids,af.dZ,List.map_append,List.mem_append,List.map_map,Function.comp_def]
 have U:∀{α:Type} {l:List (Nat×α)},i∈(jb D l).map (·.1)↔i∈l.map (·.1)/\i∉D:=by
  intro α l
  rw[List.mem_map,List.mem_map]
  constructor
  ·rintro⟨p,q,rfl⟩;obtain⟨a,b⟩:=pJ.1 q;exact⟨⟨p,a,rfl⟩,b⟩
  ·rintro⟨⟨p,q,rfl⟩,o⟩;exact⟨p,pJ.2 ⟨q,o⟩,rfl⟩
 have W:i∈List.map (fun x:Nat×b7=>x.fst) (jb D st.ae)↔i∈st.ae.map (·.1)/\i∉D:=U
 have Y:i∈List.map (fun x:Nat×cV=>x.fst) (jb D st.rw)↔i∈st.rw.map (·.1)/\i∉D:=U
 rw[W,Y]
 constructor
 ·rintro((h|h)|(h|h))
  ·exact .inl (.inl h)
  ·exact .inr ⟨.inl h.1,h.2⟩
  ·exact .inl (.inr h)
  ·exact .inr ⟨.inr h.1,h.2⟩
 ·rintro((h|h)|⟨h|h,o⟩)
  ·exact .inl (.inl h)
  ·exact .inr (.inl h)
  ·exact .inl (.inr ⟨h,o⟩)
  ·exact .inr (.inr ⟨h,o⟩)
structure iH(cx:bJ)(m aA:Nat->Value)(st:af)(w w':World)(D:List Nat)(o:List (Nat×b7))(q:List (Nat×cV)):Prop where
 same:Same w w'
 block:∀g,g<w.heap.size->(∀j,j∈D->j∈st.ids->¬own (m j) g)->w'.heap[g]? =w.heap[g]?
 old:∀i,i∈st.ids->i∉D->aA i=m i
 new:∀i,i∈o.map (·.1)\/i∈q.map (·.1)->∀g,own (aA i) g->(∃j,j∈D/\j∈st.ids/\own (m j) g)\/(w.heap.size<=g/\g<w'.heap.size)
 apart:∀i j,i∈o.map (·.1)\/i∈q.map (·.1)->j∈o.map (·.1)\/j∈q.map (·.1)->i≠j->∀g,own (aA i) g->¬own (aA j) g
 keys:(o.map (·.1)++q.map (·.1)).Nodup
 n9:∀i,i∈o.map (·.1)\/i∈q.map (·.1)->i∈st.ids->i∈D
 nO:∀b c,(b,c)∈o->c.one=true->b<cx.n
 fJ:∀r c,(r,c)∈q->r<cx.n
theorem iH.keeps{D:List Nat}{o:List (Nat×b7)}{q:List (Nat×cV)}(X:iH cx m aA st w w' D o q):∀b,b<w.heap.size->¬au cx m st.ids b->w'.heap[b]? =w.heap[b]? :=
 fun b O R=>X.block b O fun j _ U W=>R (.inr ⟨j,U,W⟩)
theorem iH.mut{D:List Nat}{O:List (Nat×b7)}{R:List (Nat×cV)}{f:ap->ap}(X:iH cx m aA st w w' D O R):∀b,b<w.heap.size->au cx aA (st.dZ D O R f).ids b->au cx m st.ids b:=by
 rintro b la (U|⟨i,o,q⟩)
 ·exact .inl U
 ·rcases qn.1 o with o|⟨o,W⟩
  ·rcases X.new i o b q with ⟨j,_,Y,Z⟩|⟨lb,_⟩
   ·exact .inr ⟨j,Y,Z⟩
   ·omega
  ·rw[X.old i o W]at q
   exact .inr ⟨i,o,q⟩
theorem ao.EJ(h:ao cx m st T w){D:List Nat}{R:List (Nat×b7)}{U:List (Nat×cV)}{f:ap->ap}(X:iH cx m aA st w w' D R U)
  (lB:∀v s,aX w' (au cx aA (st.dZ D R U f).ids) m v s->aX w' (au cx aA (st.dZ D R U f).ids) aA v (f s))
  (lC:∀b c,(b,c)∈R->∃g,iS (aA b) g c/\hd w' (au cx aA (st.dZ D R U f).ids) aA (aA b) g c)
  (lD:∀r c,(r,c)∈U->∃cells,w'.ownsRow 0 c.e c.t.cells (aA r) c.xs.length cells/\bT (aL w' (au cx aA (st.dZ D R U f).ids) c.t) cells c.xs):ao cx aA (st.dZ D R U f) T w':=by
 have lk:=X.keeps
 have ll:=X.mut (f:=f)
 have lr:∀v s,aX w (au cx m st.ids) m v s->aX w' (au cx aA (st.dZ D R U f).ids) aA v (f s):=fun v s lE=>lB v s (fG lk ll lE)
 have ls:∀j,j∈st.ids->j∉D->∀g,own (m j) g->w'.heap[g]? =w.heap[g]? :=fun j q la g Y=>X.block g (h.lt q Y).1 fun i W lF lG=>h.apart i j lF q (fun e=>la (e▸W)) g lG Y
 have lt:∀i,i∈R.map (·.1)\/i∈U.map (·.1)->∀g,own (aA i) g->cx.w0.heap.size<=g\/cx.X g:=fun i W g Y=>by
  rcases X.new i W g Y with ⟨j,_,q,lH⟩|⟨ld,_⟩
  ·exact(h.lt q lH).2
  ·exact .inl (Nat.le_trans h.frame.size ld)
 have lI:∀{b c},(b,c)∈R->b∈R.map (·.1)\/b∈U.map (·.1):=fun o=>.inl (List.mem_map.2 ⟨_,o,rfl⟩)
 have ab7:∀{b c},(b,c)∈U->b∈R.map (·.1)\/b∈U.map (·.1):=fun o=>.inr (List.mem_map.2 ⟨_,o,rfl⟩)
 have lm:∀{b c},(b,c)∈st.ae->b∈st.ids:=fun o=>List.mem_append.2 (.inl (List.mem_map.2 ⟨_,o,rfl⟩))
 have ln:∀{b c},(b,c)∈st.rw->b∈st.ids:=fun o=>List.mem_append.2 (.inr (List.mem_map.2 ⟨_,o,rfl⟩))
 refine{size:=h.size,frame:=?_,outer:=h.outer,de:=?_,boxes:=?_,rows:=?_,apart:=?_,keys:=?_,fixed:=?_,kept:=?_}
 ·refine h.frame.step X.same fun b o lJ=>X.block b (Nat.lt_of_lt_of_le o h.frame.size) fun j _ q Y=>?_
  rcases(h.lt q Y).2 with lu|lu
  ·omega
  ·exact lJ lu
 ·intro i aU W
  obtain⟨⟨j,s⟩,O,le⟩:=List.mem_map.1 W
  cases le
  obtain⟨v,lf,a2⟩:=h.de j s O
  exact⟨v,lf,lr v s a2⟩
 ·intro b c o
  rcases List.mem_append.1 o with o|o
  ·obtain⟨g,lf,a2⟩:=lC b c o
   exact⟨g,lf,lt b (lI o),a2⟩
  ·obtain⟨⟨j,s⟩,O,le⟩:=List.mem_map.1 o
   cases le
   obtain⟨O,la⟩:=pJ.1 O
   obtain⟨g,lc,lg,lh⟩:=h.boxes j s O
   rw[X.old j (lm O) la]
   exact⟨g,j7.2 lc,lg,jA lk ll (ig lc) (ls j (lm O) la) lr lh⟩
 ·intro r c Z
  rcases List.mem_append.1 Z with Z|Z
  ·obtain⟨cells,lf,a2⟩:=lD r c Z
   exact⟨cells,lf,lt r (ab7 Z),a2⟩
  ·obtain⟨O,la⟩:=pJ.1 Z
   obtain⟨cells,lc,lg,lh⟩:=h.rows r c O
   rw[X.old r (ln O) la]
   exact⟨cells,qj lc fun b o=>ls r (ln O) la b (gP o),lg,dD (fun _ _=>cS lk ll c.t) lh⟩
 ·intro i j W q lv g Y lb
  rcases qn.1 W with W|⟨W,lw⟩
  ·rcases qn.1 q with q|⟨q,lj⟩
   ·exact X.apart i j W q lv g Y lb
   ·rw[X.old j q lj]at lb
    rcases X.new i W g Y with ⟨k,li,lo,lp⟩|⟨ld,_⟩
    ·exact h.apart k j lo q (fun e=>lj (e▸li)) g lp lb
    ·have:=(h.lt q lb).1;omega
  ·rw[X.old i W lw]at Y
   rcases qn.1 q with q|⟨q,lj⟩
   ·rcases X.new j q g lb with ⟨k,li,lo,lp⟩|⟨ld,_⟩
    ·exact h.apart k i lo W (fun e=>lw (e▸li)) g lp Y
    ·have:=(h.lt W Y).1;omega
   ·rw[X.old j q lj]at lb
    exact h.apart i j W q lv g Y lb
 ·have lx:∀{α:Type} {l:List (Nat×α)},(jb D l).map (·.1)=(l.map (·.1)).filter fun k=>!(gI k D):=by
   intro α l
   induction l with
   |nil=>rfl
   |cons p r ly=>
    unfold jb at ly⊢
    cases o:gI p.1 D<;>simp[o,ly]
  show((R++(jb D st.ae).map fun p=>(p.1,p.2.map f)).map (·.1)++(U++jb D st.rw).map (·.1)).Nodup
  have lc:(R++(jb D st.ae).map fun p=>(p.1,p.2.map f)).map (·.1)=R.map (·.1)++(st.ae.map (·.1)).filter fun k=>!(gI k D):=by
   rw[<-lx];simp[List.map_map,Function.comp_def]
  have lg:(U++jb D st.rw).map (·.1)=U.map (·.1)++(st.rw.map (·.1)).filter fun k=>!(gI k D):=by rw[<-lx];simp
  rw[lc,lg]
  have lh:(st.ae.map (·.1)).filter (fun k=>!(gI k D))++(st.rw.map (·.1)).filter (fun k=>!(gI k D))=st.ids.filter fun k=>!(gI k D):=by simp[af.ids]
  have lK:List.Perm (R.map (·.1)++(st.ae.map (·.1)).filter (fun k=>!(gI k D))++(U.map (·.1)++(st.rw.map (·.1)).filter fun k=>!(gI k D)))
    ((R.map (·.1)++U.map (·.1))++st.ids.filter fun k=>!(gI k D)):=by
   rw[<-lh]
   simp only[List.append_assoc]
   refine List.Perm.append_left _ ?_
   rw[<-List.append_assoc,<-List.append_assoc]
   exact List.Perm.append_right _ List.perm_append_comm
  rw[lK.nodup_iff,List.nodup_append]
  refine⟨X.keys,h.keys.filter _,fun a lL b o e=>?_⟩
  subst e
  obtain⟨ld,lz⟩:=List.mem_filter.1 o
  have:=X.n9 a (List.mem_append.1 lL) ld
  rw[uV.2 this]at lz
  cases lz
 ·intro b c o lA lq
  rcases List.mem_append.1 o with o|o
  ·have:=X.nO b c o lA;omega
  ·obtain⟨⟨j,s⟩,O,le⟩:=List.mem_map.1 o
   cases le
   obtain⟨O,la⟩:=pJ.1 O
   rw[X.old j (lm O) la]
   exact h.fixed j s O (mB.symm.trans lA) lq
 ·intro r c Z lq li
  rcases List.mem_append.1 Z with Z|Z
  ·have:=X.fJ r c Z;omega
  ·obtain⟨O,la⟩:=pJ.1 Z
   rw[X.old r (ln O) la]
   exact h.kept r c O lq li
/-! One element of such a slice. -/
theorem ao.dZ(h:ao cx m st T w){D:List Nat}{o:List (Nat×b7)}{q:List (Nat×cV)}{f:ap->ap}(X:iH cx m aA st w w' D o q)
  (O:∀M v s,aX w' M m v s->aX w' M aA v (f s))
  (R:∀b c,(b,c)∈o->∃g,iS (aA b) g c/\hd w' (au cx aA (st.dZ D o q f).ids) aA (aA b) g c)
  (U:∀r c,(r,c)∈q->∃cells,w'.ownsRow 0 c.e c.t.cells (aA r) c.xs.length cells/\bT (aL w' (au cx aA (st.dZ D o q f).ids) c.t) cells c.xs):ao cx aA (st.dZ D o q f) T w':=
 h.EJ X (O _) R U
theorem zQ{M:Nat->Prop}{k:eF}{h:Option Int}:∀{xs:List k.u.el} {n:Nat} {cs us:List Value},fW w M k h n xs cs us->us.length=xs.length/\cs.length=xs.length*k.u.cells
 |[],_,_,_,⟨o,q⟩=>by rw[o,q];exact⟨rfl,by simp⟩
 |x::xs,n,cs,us,⟨c,d,v,vs,O,R,U,_,W⟩=>by
  obtain⟨a,b⟩:=zQ W
  rw[O,U]
  refine⟨by simp[a],?_⟩
  rw[List.length_append,R,b,List.length_cons,Nat.succ_mul,Nat.add_comm]
theorem Oc{M:Nat->Prop}{k:eF}{h:Option Int}:∀{xs:List k.u.el} {n i:Nat} {x:k.u.el} {cs us:List Value},fW w M k h n xs cs us->xs[i]? =some x->
  ∃c1 c c2 o v q,cs=c1++c++c2/\c1.length=i*k.u.cells/\c.length=k.u.cells/\us=o++v::q/\o.length=i/\mn w M k (iO h (n+i)) c v x/\
   ∀{w':World} {M':Nat->Prop} {h':Option Int} {x':k.u.el} {c':List Value} {v':Value},(∀b,b<w.heap.size->¬M b->w'.heap[b]? =w.heap[b]?)->(∀b,b<w.heap.size->M' b->M b)->(∀j,j≠n+i->(iO h j↔iO h' j))->
    (∀u,u∈o\/u∈q->∀b,aY u=some b->w'.heap[b]? =w.heap[b]?)->c'.length=k.u.cells->mn w' M' k (iO h' (n+i)) c' v' x'->fW w' M' k h' n (xs.set i x') (c1++c'++c2) (o++v'::q)
 |[],_,_,_,_,_,_,O=>by simp at O
 |y::xs,n,0,x,cs,us,⟨c,d,v,vs,la,R,lb,lc,ld⟩,O=>by
  simp at O
  subst O
  subst la
  subst lb
  refine⟨[],c,d,[],v,vs,rfl,by simp,R,rfl,rfl,lc,fun{w' M' h' x' c' v'} U W Y Z le lf=>?_⟩
  exact⟨c',d,v',vs,by simp,le,rfl,lf,rP U W (fun m lm=>Y m (by omega)) (fun u lg=>Z u (.inr lg)) ld⟩
 |y::xs,n,i+1,x,cs,us,⟨c,d,v,vs,la,R,lb,lc,ld⟩,O=>by
  subst la
  subst lb
  obtain⟨c1,lj,c2,o,v0,q,lk,a2,a3,a4,a5,lh,li⟩:=Oc (i:=i) ld (by simpa using O)
  subst lk
  subst a4
  have ll:n+1+i=n+(i+1):=by omega
  rw[ll]at lh li
  refine⟨c++c1,lj,c2,v::o,v0,q,by simp,by rw[List.length_append,R,a2,Nat.succ_mul,Nat.add_comm],a3,by simp,by simp[a5],lh,fun{w' M' h' x' c' v'} U W Y Z le lf=>?_⟩
  refine⟨c,c1++c'++c2,v,o++v'::q,by simp,R,by simp,Dk U W (Y n (by omega)) (Z v (.inl List.mem_cons_self)) lc,?_⟩
  exact li U W Y (fun u lg=>Z u (lg.elim (fun h=>.inl (List.mem_cons_of_mem _ h)) .inr)) le lf
theorem ao.bw(h:ao cx m st T w){b e:Nat}{k:eF}{xs:List k.u.el}{o:Option Int}(q:look st.ae b=some (.bw e k xs o)):
  ∃ai us cells,m b=.tuple (ai::us).toArray/\w.ownsRow 0 e k.u.cells ai xs.length cells/\fW w (au cx m st.ids) k o 0 xs cells us/\((ai::us).filterMap aY).Nodup:=by
 obtain⟨g,_,_,ai,us,cells,O,R,U,W⟩:=h.boxes b _ (be q)
 exact⟨ai,us,cells,O,R,U,W⟩
theorem R7{r:Value}{us:List Value}{g:Nat}:own (.tuple (r::us).toArray) g↔g∈(r::us).filterMap aY:=by
 rw[dA,List.mem_filterMap]
 constructor
 ·rintro(h|⟨u,hu,h⟩)
  ·exact⟨r,List.mem_cons_self,h⟩
  ·exact⟨u,List.mem_cons_of_mem _ hu,h⟩
 ·rintro⟨u,hu,h⟩
  rcases List.mem_cons.1 hu with rfl|hu
  ·exact .inl h
  ·exact .inr ⟨u,hu,h⟩
theorem uO{e o n:Nat}{v:Value}{cells:List Value}(h:w.ownsRow 0 e o v n cells)(Z:0<n):∃g cap cur,v=.slice (some ⟨g,0,none⟩) n cap/\w.heap[g]? =some (.cells cur e (0,0))/\n<=cap/\cap<=maxLen/\cur.size=cap*o/\cur.toList.take (n*o)=cells:=by
 rcases h.2 with ⟨_,la⟩|⟨g,cap,cur,q,_,O,R,U,W,Y⟩
 ·omega
 ·exact⟨g,cap,cur,q,O,R,U,W,Y⟩
def ap.ed(o:List Nat)(s:ap):ap:=bif o.any (fun r=>s.refs r)then .any else s
theorem Zr{D:List Nat}{s:ap}(h:D.any (fun r=>s.refs r)=false){b:Nat}(o:s.refs b=true):b∉D:=by
 intro ai
 have:=List.any_eq_false.1 h b ai
 exact this o
theorem tB{M:Nat->Prop}{m2:Nat->Value}:∀{vs:List Value} {l:List b9},(∀b,l.any (b9.is b)=true->m2 b=m b)->dq w M m vs l->dq w M m2 vs l
 |[],[],_,_=>trivial
 |[],_::_,_,h=>h.elim
 |_::_,[],_,h=>h.elim
 |_::_,.v _::_,o,⟨O,R⟩=>⟨O,tB (fun b q=>o b (by rw[List.any_cons,q,Bool.or_true])) R⟩
 |_::vs,.a::us,o,h=>tB (vs:=vs) (l:=us) (fun b q=>o b (by rw[List.any_cons,q,Bool.or_true])) h
 |_::_,.r c::_,o,⟨O,R⟩=>⟨by rw[o c (by rw[List.any_cons];show(Nat.beq c c||_)=true;rw[Nat.beq_refl,Bool.true_or])];exact O,tB (fun b q=>o b (by rw[List.any_cons,q,Bool.or_true])) R⟩
theorem oa{M:Nat->Prop}{m2:Nat->Value}{D:List Nat}(Y:∀b,b∉D->m2 b=m b){v:Value}{s:ap}(h:aX w M m v s):aX w M m2 v (s.ed D):=by
 unfold ap.ed
 cases ai:D.any (fun r=>s.refs r)with
 |true=>trivial
 |false=>
  have key:∀b,s.refs b=true->m2 b=m b:=fun b O=>Y b (Zr ai O)
  show aX w M m2 v s
  cases s with
  |any=>trivial
  |undef=>exact h
  |val t x=>exact h
  |dW l=>exact h
  |vptr t x=>exact h
  |ptr b off=>obtain⟨g,o,q⟩:=h;exact⟨g,by rw[key b (Nat.beq_refl b)];exact o,q⟩
  |fC b=>show _\/v=m2 b;rw[key b (Nat.beq_refl b)];exact h
  |row b=>show v=m2 b;rw[key b (Nat.beq_refl b)];exact h
  |ep b i off W=>obtain⟨g,n,cap,o,q⟩:=h;exact⟨g,n,cap,by rw[key b (Nat.beq_refl b)];exact o,q⟩
  |iter b=>show v=m2 b;rw[key b (Nat.beq_refl b)];exact h
  |dP b p=>obtain⟨g,o,q⟩:=h;exact⟨g,by rw[key b (Nat.beq_refl b)];exact o,q⟩
  |osl b=>obtain⟨us,o⟩:=h;exact⟨us,by rw[key b (Nat.beq_refl b)];exact o⟩
  |gb b i=>obtain⟨g,n,cap,us,o,q⟩:=h;exact⟨g,n,cap,us,by rw[key b (Nat.beq_refl b)];exact o,q⟩
  |sub b i=>obtain⟨R,us,o,q⟩:=h;exact⟨R,us,by rw[key b (Nat.beq_refl b)];exact o,q⟩
  |clos f bs=>
   have e:bs.map m2=bs.map m:=List.map_congr_left fun b O=>key b (List.any_eq_true.2 ⟨b,O,Nat.beq_refl b⟩)
   show v=_
   rw[e]
   exact h
  |gh l=>obtain⟨vs,e,U⟩:=h;exact⟨vs,e,tB key U⟩
  |fe l=>obtain⟨vs,e,U⟩:=h;exact⟨vs,e,tB key U⟩
  |ai n=>exact h
  |ck f b=>show v=_;rw[key b (Nat.beq_refl b)];exact h
  |en b i off W=>obtain⟨g,n,cap,us,o,q⟩:=h;exact⟨g,n,cap,us,by rw[key b (Nat.beq_refl b)];exact o,q⟩
  |fA b i j off W=>obtain⟨R,us,g,n,cap,o,q⟩:=h;exact⟨R,us,g,n,cap,by rw[key b (Nat.beq_refl b)];exact o,q⟩
end Go.Ev
