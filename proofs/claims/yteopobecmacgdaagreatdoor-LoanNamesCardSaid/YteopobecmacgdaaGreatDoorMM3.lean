/- Literals, made slices, function values, appending: right. -/
import Derived.Test.YteopobecmacgdaaGreatDoorMM2
import Derived.Deep.Quiet
set_option linter.unusedSectionVars false
set_option linter.unusedVariables false
set_option linter.unusedSimpArgs false
namespace Go.Ev
open Go Go.RowKit
variable [bV]
variable {cx:bx} {m:Nat->Value} {st:af} {T:Array Value} {w w':World}
variable [ah cx]
theorem Bt(h:an cx m st T w){u:ag}:∀(parts:List (Nat×Operand)) (k:Nat) (xs:List u.el) (pre old:List Value),k9 st u k parts=some xs->pre.length=k*u.cells->old.length=xs.length*u.cells->
  ∃cells,Instr.fill (fun i=>some (i*u.cells,u.cells)) (pre++old).toArray (parts.map fun p=>(p.1,Act.eval ⟨T,ah.D cx⟩ p.2))=some (pre++cells).toArray/\bL (aK w (ar cx m st.ids) u) cells xs
 |[],k,xs,pre,old,o,_,L=>by
  cases o
  have:old=[]:=List.eq_nil_of_length_eq_zero (by simpa using L)
  subst this
  exact⟨[],rfl,rfl⟩
 |(i,aa)::r,k,xs,pre,old,o,O,L=>by
  unfold k9 at o
  split at o
  ·rename_i v la lb
   split at o
   ·rename_i x R lc ld
    cases o
    have le:=Nat.eq_of_beq_eq_true la
    subst le
    have V:=iI (cK h lb)
    have e:=ak.cO lc
    subst e
    have U:=b6 u V
    have lf:(Act.eval ⟨T,ah.D cx⟩ aa).cells.size=u.cells:=by rw[<-U];simp
    have W:old.length=(R.length+1)*u.cells:=L
    obtain⟨q,aX,rfl,Y⟩:∃q aX,old=q++aX/\q.length=u.cells:=⟨old.take u.cells,old.drop u.cells,(List.take_append_drop _ _).symm,by rw[List.length_take,W,Nat.succ_mul];omega⟩
    have lg:aX.length=R.length*u.cells:=by
     rw[List.length_append,Nat.succ_mul]at W
     omega
    obtain⟨cells,lh,li⟩:=Bt h r (i+1) R (pre++(Act.eval ⟨T,ah.D cx⟩ aa).cells.toList) aX ld (by rw[List.length_append,O,U,Nat.succ_mul]) lg
    refine⟨(Act.eval ⟨T,ah.D cx⟩ aa).cells.toList++cells,?_,(Act.eval ⟨T,ah.D cx⟩ aa).cells.toList,cells,rfl,V,li⟩
    rw[List.map_cons,Instr.fill]
    have lj:¬(((Act.eval ⟨T,ah.D cx⟩ aa).cells.size≠u.cells||decide (i*u.cells+(Act.eval ⟨T,ah.D cx⟩ aa).cells.size>(pre++(q++aX)).toArray.size))=true):=by
     simp only[lf,List.size_toArray,List.length_append,O,Y]
     simp
    simp only[]
    rw[if_neg lj]
    have Z:=rY (Act.eval ⟨T,ah.D cx⟩ aa).cells.toList pre aX q (by rw[Y,U])
    rw[O,Array.toArray_toList]at Z
    rw[<-List.append_assoc,Z,lh]
    simp
   ·cases o
  ·cases o
theorem SG(h:an cx m st T w){aa:Oper}{d:Nat}(aj:d<cx.n){t e:TypeId}{u Z:ag}{n:Nat}{parts:Array (Nat×Operand)}{xs:List u.el}(la:aa.op=.buildSlice t n parts)(lb:dE cx.P t=some (e,u))
  (lc:k9 st u 0 parts.toList=some xs)(L:xs.length=n)(lm:n*u.cells<=16777216)(ld:zeroOf cx.P e=some Z){orc:List ak}:
  dX cx T w aa ⟨.row d,st.da d ⟨e,u,xs⟩,orc,[]⟩:=by
 obtain⟨le,O,lf⟩:=il lb
 obtain⟨i,z,_,R,ln,lg,_⟩:=iO ld
 have lo:i.size=u.cells:=by
  obtain⟨i2,U,lh,_⟩:=cQ O
  rw[R]at U
  cases U
  exact lh
 obtain⟨cells,V,W⟩:=Bt h parts.toList 0 xs [] ((Array.range (n*u.cells)).map ((if n*u.cells=0 then#[]else z.cells)[· %(if n*u.cells=0 then#[]else z.cells).size]!)).toList lc (by simp) (by simp[L])
 have Y:=hO (fun _ _=>b6 u) _ _ W
 have li:xs.length<=maxLen:=by
  have:xs.length<=xs.length*u.cells:=Nat.le_mul_of_pos_right _ lf
  have lp:(16777216:Nat)<=maxLen:=by decide
  rw[L]at this⊢
  omega
 have lj:=qs h d (.inl aj) (cur:=cells.toArray) (cells:=cells) (e:=e) (cap:=xs.length) (w.alloc (.cells cells.toArray e)) (gL _ _) (heap_alloc_new w _) (Nat.le_refl _) li (by simp[Y]) (by rw[<-Y];simp) W
 refine⟨.slice (some ⟨w.heap.size,0,none⟩) n n,_,_,ca (s:=Instr.buildSlice t n (parts.map fun p=>(p.1,Act.eval ⟨T,ah.D cx⟩ p.2))) (by simp only[execOp,la]) ?_,lj,by show _=bt _ _ _ _;rw[b7,L]⟩
 have lk:¬(n*u.cells>2^24):=by omega
 have o:Instr.fill (fun i=>some (i*u.cells,u.cells)) ((Array.range (n*u.cells)).map ((if n*u.cells=0 then#[]else z.cells)[· %(if n*u.cells=0 then#[]else z.cells).size]!)) (parts.map fun p=>(p.1,Act.eval ⟨T,ah.D cx⟩ p.2)).toList=some cells.toArray:=by
  rw[List.nil_append,List.nil_append,Array.toArray_toList]at V
  rw[Array.toList_map]
  exact V
 simp only[Instr.buildSlice,Sem.run_bind,run_underlying le,Result.andThen_ok,eB O,if_neg lk]
 by_cases q:n*u.cells=0
 ·rw[if_pos q]
  rw[if_pos q]at o
  simp only[Sem.run_pure,Result.andThen_ok,o,Sem.run_bind,newRow,run_newObj_alloc]
 ·rw[if_neg q]
  rw[if_neg q]at o
  have ll:(zeroValue e).run cx.P w=.ok z w:=by simp[zeroValue,typeInfo,R,lg]
  simp only[Sem.run_bind,ll,Sem.run_pure,Result.andThen_ok,o,newRow,run_newObj_alloc]
theorem JO(h:an cx m st T w){aa:Oper}{t e:TypeId}{u:ag}{n:Nat}{parts:Array (Nat×Operand)}{xs:List u.el}{i:TypeInfo}{z:Value}(L:aa.op=.build t parts)(lc:ty cx.P t=some (.arr n u))(O:cx.P.info? t=some i)(R:i.zero=some z)
  (U:cx.P.underlying t=some (.array n e))(V:ty cx.P e=some u)(W:k9 st u 0 parts.toList=some xs)(o:xs.length=n)(Y:z.cells.size=n*u.cells){orc:List ak}:
  dX cx T w aa ⟨.val (.arr n u) xs,st,orc,[]⟩:=by
 obtain⟨cells,q,Z⟩:=Bt h parts.toList 0 xs [] z.cells.toList W (by simp) (by simp[Y,o])
 rw[List.nil_append,List.nil_append,Array.toArray_toList]at q
 refine⟨.agg cells.toArray,w,m,ca (s:=Instr.build t (parts.map fun p=>(p.1,Act.eval ⟨T,ah.D cx⟩ p.2))) (by simp only[execOp,L]) ?_,h,(dK (t:=.arr n u) rfl).2 ⟨cells,rfl,o,Z⟩⟩
 have la:(zeroValue t).run cx.P w=.ok z w:=by simp[zeroValue,typeInfo,O,R]
 have lb:Instr.fill (fun i=>some (i*u.cells,u.cells)) z.cells (parts.map fun p=>(p.1,Act.eval ⟨T,ah.D cx⟩ p.2)).toList=some cells.toArray:=by rw[Array.toList_map];exact q
 simp only[Instr.build,Sem.run_bind,la,Result.andThen_ok,run_underlying U,eB V,lb,Sem.run_pure]
theorem D6{z:Array Value}{o:Nat}(q:z.size=o)(n:Nat):(madeCells z ((n+1)*o)).toList=z.toList++(madeCells z (n*o)).toList:=by
 apply List.ext_getElem?
 intro j
 by_cases O:j<z.toList.length
 ·rw[List.getElem?_append_left O]
  have R:j<o:=by rw[<-q];simpa using O
  have L:j<(n+1)*o:=by rw[Nat.succ_mul];omega
  have U:j<z.size:=by rw[q];exact R
  simp only[madeCells,Array.toList_map,Array.toList_range,List.getElem?_map,List.getElem?_range L,Option.map_some,q,Nat.mod_eq_of_lt R]
  rw[getElem!_pos z j U]
  simp[U]
 ·rw[List.getElem?_append_right (by omega)]
  have V:z.toList.length=o:=by simpa using q
  rw[V]at O⊢
  by_cases L:j<(n+1)*o
  ·have W:j-o<n*o:=by rw[Nat.succ_mul]at L;omega
   simp only[madeCells,Array.toList_map,Array.toList_range,List.getElem?_map,List.getElem?_range L,List.getElem?_range W,Option.map_some,q]
   congr 2
   rw[<-Nat.add_mod_right (j-o) o]
   congr 1
   omega
  ·rw[List.getElem?_eq_none (by simp[madeCells];omega),List.getElem?_eq_none (by simp[madeCells];rw[Nat.succ_mul]at L;omega)]
theorem E2{M:Nat->Prop}{u:ag}{z:Array Value}{x:u.el}(o:aK w M u z.toList x)(O:0<u.cells):∀(n:Nat),bL (aK w M u) (madeCells z (n*u.cells)).toList (List.replicate n x):=by
 have q:z.size=u.cells:=by rw[<-b6 u o];simp
 intro n
 induction n with
 |zero=>show _=_;simp[madeCells]
 |succ n L=>
  have e:=D6 q n
  rw[e,List.replicate_succ]
  exact⟨_,_,rfl,o,L⟩
theorem sJ{P:Program}{e:TypeId}(h:kE P e=true):∃i,P.info? e=some i/\i.bytes<=65536:=by
 unfold kE at h
 split at h
 ·rename_i i o;exact⟨i,o,Nat.le_of_ble_eq_true h⟩
 ·cases h
theorem JN(h:an cx m st T w){aa:Oper}{d:Nat}(aj:d<cx.n){t e:TypeId}{u:ag}{l c:Operand}{n k:Int}(V:aa.op=.makeSlice t l c)(W:dE cx.P t=some (e,u))(Y:dL (aO st l)=some n)
  (Z:dL (aO st c)=some k)(la:kE cx.P e=true)(lb:zeroOf cx.P e=some u)(lc:0<=n/\n<=k/\k<=(bq:Int)){orc:List ak}{ob:List Prop}:
  dX cx T w aa ⟨.row d,st.da d ⟨e,u,List.replicate n.toNat (bX u)⟩,orc,ob⟩:=by
 obtain⟨ld,ls,le⟩:=il W
 obtain⟨i,z,_,q,L,lf,lg⟩:=iO lb
 obtain⟨i2,O,lt⟩:=sJ la
 rw[q]at O
 cases O
 obtain⟨R,lh⟩:=eR h Y
 obtain⟨U,li⟩:=eR h Z
 obtain⟨lj,lk,lu⟩:=lc
 have lv:(bq:Int)=2147483648:=rfl
 have ll:0<=k:=by omega
 have lm:(i.bytes:Int)*k<=281474976710656:=by
  have ln:(i.bytes:Int)<=65536:=by omega
  calc (i.bytes:Int)*k<=65536*k:=Int.mul_le_mul_of_nonneg_right ln ll
   _<=281474976710656:=by omega
 have lo:=run_make (P:=cx.P) w t e i z ld q lf R U n k lj lk lm (by omega)
 have lp:=E2 (lg w (ar cx m st.ids)) le n.toNat
 have o:(List.replicate n.toNat (bX u)).length=n.toNat:=List.length_replicate
 have lq:(madeCells z.cells (k.toNat*i.size)).toList.take ((List.replicate n.toNat (bX u)).length*u.cells)=(madeCells z.cells (n.toNat*u.cells)).toList:=by
  rw[o,L]
  simp only[madeCells,Array.toList_map,Array.toList_range,<-List.map_take]
  rw[List.take_range]
  congr 2
  have:n.toNat*u.cells<=k.toNat*u.cells:=Nat.mul_le_mul_right _ (by omega)
  omega
 have lr:=qs h d (.inl aj) (cur:=madeCells z.cells (k.toNat*i.size)) (e:=e) (cap:=k.toNat) (xs:=List.replicate n.toNat (bX u)) (w.alloc (.cells (madeCells z.cells (k.toNat*i.size)) e)) (gL _ _) (heap_alloc_new w _)
  (by rw[o];omega) (by simp only[maxLen];omega) (by rw[size_madeCells,L]) lq lp
 refine⟨_,_,_,ca (s:=Instr.makeSlice t (.int R n) (.int U k)) (by simp only[execOp,V,lh,li]) lo,lr,?_⟩
 show _=bt _ _ _ _
 rw[b7,o]
theorem Cl(h:an cx m st T w):∀{l:List Operand} {bs:List Nat},jA.nN st l=some bs->l.map (Act.eval ⟨T,ah.D cx⟩)=bs.map m
 |[],_,o=>by cases o;rfl
 |x::r,bs,o=>by
  simp only[jA.nN]at o
  split at o
  ·rename_i b U q L
   cases o
   obtain⟨g,O,R⟩:=a8 h q
   rw[List.map_cons,List.map_cons,Cl h L,R,O]
  ·cases o
theorem LH(h:an cx m st T w){aa:Oper}{f:Nat}{first eg:Array Operand}{bs:List Nat}(o:aa.op=.makeFunc (.func f) first eg)(q:first.toList=[])(L:jA.nN st eg.toList=some bs){orc:List ak}:
  dX cx T w aa ⟨.clos f bs,st,orc,[]⟩:=by
 refine⟨.func (.func f) #[] (bs.map m).toArray,w,m,ca (s:=Instr.makeFunc (.func f) (first.map (Act.eval ⟨T,ah.D cx⟩)) (eg.map (Act.eval ⟨T,ah.D cx⟩))) (by simp only[execOp,o]) ?_,h,rfl⟩
 have O:first=#[]:=by rw[<-Array.toArray_toList (xs:=first),q]
 have R:eg.map (Act.eval ⟨T,ah.D cx⟩)=(bs.map m).toArray:=by
  rw[<-Cl h L]
  apply Array.ext'
  simp
 rw[O,R,Array.map_empty]
 rfl
theorem NE(h:an cx m st T w){aa:Oper}{f b:Nat}{first eg:Array Operand}{x:Operand}(o:aa.op=.makeFunc (.func f) first eg)(q:first.toList=[x])(L:jA.nN st eg.toList=some [])(O:aO st x=some (.ptr b 0)){orc:List ak}:
  dX cx T w aa ⟨.bW f b,st,orc,[]⟩:=by
 refine⟨.func (.func f) #[m b] #[],w,m,ca (s:=Instr.makeFunc (.func f) (first.map (Act.eval ⟨T,ah.D cx⟩)) (eg.map (Act.eval ⟨T,ah.D cx⟩))) (by simp only[execOp,o]) ?_,h,rfl⟩
 have R:first=#[x]:=by rw[<-Array.toArray_toList (xs:=first),q]
 have U:eg.map (Act.eval ⟨T,ah.D cx⟩)=#[]:=by
  have:=Cl h L
  apply Array.ext'
  rw[Array.toList_map,this]
  rfl
 obtain⟨g,g1,g2⟩:=a8 h O
 have V:#[x].map (Act.eval ⟨T,ah.D cx⟩)=#[m b]:=by
  rw[g1,<-g2]
  simp
 rw[R,U,V]
 rfl
theorem Ik{M:Nat->Prop}{t:ag}:∀{xs:List t.el} {cs:List Value} (n:Nat),bL (aK w M t) cs xs->bL (aK w M t) (cs.take ((xs.take n).length*t.cells)) (xs.take n)
 |[],cs,n,h=>by cases h;simp;rfl
 |x::xs,cs,0,h=>by simp;rfl
 |x::xs,cs,n+1,⟨o,c2,e,q,O⟩=>by
  have L:=b6 t q
  rw[List.take_succ_cons,List.length_cons,Nat.succ_mul,Nat.add_comm,e,<-L,List.take_append,List.take_of_length_le (by omega)]
  rw[show o.length+(List.take n xs).length*o.length-o.length=(List.take n xs).length*t.cells by rw[<-L];omega]
  exact⟨o,_,rfl,q,Ik n O⟩
theorem Ji(h:an cx m st T w){aa:Oper}{t e:TypeId}{u:ag}{x U:Operand}{r:Nat}{c:cp}{n:Int}(V:aa.op=.slice t x none (some U) none)(lj:aO st x=some (.row r))(lk:dE cx.P t=some (e,u))
  (ll:dL (aO st U)=some n)(lm:look st.rw r=some c)(lC:c.e=e)(lD:c.t=u)(W:r<dT)(ln:0<=n/\n<=(c.xs.length:Int)){orc:List ak}{ob:List Prop}:
  dX cx T w aa ⟨.row r,st.da r ⟨c.e,c.t,c.xs.take n.toNat⟩,orc,ob⟩:=by
 obtain⟨Y,Z,lE⟩:=il lk
 obtain⟨k,la⟩:=eR h ll
 have lb:Act.eval ⟨T,ah.D cx⟩ x=m r:=a8 h lj
 have lc:=aW lm
 obtain⟨cells,ld,lo,lp⟩:=h.rows r c lc
 have lq:r∈st.ids:=List.mem_append.2 (.inr (List.mem_map.2 ⟨_,lc,rfl⟩))
 have le:(c.xs.take n.toNat).length=n.toNat:=by rw[List.length_take];omega
 have lr:∀v L,Instr.sliceAt t v none (some L) none=(do match<-underlying t with
  |.array n ls=>
   let lf<-Instr.sureAddr v
   let(l,h,m)<-Instr.sliceBounds false n n none (some L) none
   let size<-sizeOf ls
   pure (.slice (some (if m=l then lf else lf.add (l*size))) (h-l) (m-l))
  |_=>Instr.slice t v none (some L) none):=fun _ _=>rfl
 have lt:∀(y:Nat) (lg:BoundsCode) (w:World),n<=y->(Instr.sliceBound (.int k n) y lg).run cx.P w=.ok n.toNat w:=by
  intro y lg w lu
  simp[Instr.sliceBound,asIntOf,ln.1,lu]
 have run:∀(a:Option Addr) (q cap:Nat) (w':World),q<=cap->(q:Int)=c.xs.length->(Instr.sliceAt t (.slice a q cap) none (some (.int k n)) none).run cx.P w'=.ok (.slice (if cap=0 then a else a.map (·.add (0*u.cells))) n.toNat cap) w':=by
  intro a q cap w' lh lF
  rw[lr,Sem.run_bind,run_underlying Y]
  simp only[Result.andThen_ok,Instr.slice,Sem.run_bind,run_underlying Y,Instr.sliceBounds,Sem.run_pure,eB Z]
  rw[lt cap _ w' (by omega)]
  simp only[Result.andThen_ok,Sem.run_pure,Sem.run_bind,eB Z]
  simp
 rcases ld.2 with ⟨o,lG⟩|⟨g,cap,cur,o,lv,lw,lh,lx,ly,lz⟩
 ·have li:n=0:=by omega
  have lA:c.xs.take n.toNat=[]:=by rw[li];rfl
  refine⟨.slice none 0 0,w,bt m r (.slice none 0 0),ca (s:=Instr.sliceAt t (.slice none 0 0) none (some (.int k n)) none) (by simp only[execOp,V,lb,o,Option.map_none,Option.map_some,la]) ?_,?_,(b7 _ _ _).symm⟩
  ·rw[run none 0 0 w (Nat.le_refl _) (by omega),li]
   rfl
  ·rw[lA]
   exact ta h r c.e (.inr W) c.t
 ·have O:cX cx m st w r (.slice (some ⟨g,0,none⟩) n.toNat cap) w:=
   ⟨⟨rfl,rfl,rfl,Nat.le_refl _,fun _=>Nat.le_refl _⟩,fun _ _ _=>rfl,fun lB R=>.inl ⟨lq,by cases R;rw[o];rfl⟩⟩
  refine⟨.slice (some ⟨g,0,none⟩) n.toNat cap,w,_,ca (s:=Instr.sliceAt t (.slice (some ⟨g,0,none⟩) c.xs.length cap) none (some (.int k n)) none) (by simp only[execOp,V,lb,o,Option.map_none,Option.map_some,la]) ?_,
   h.da (.inr W) O (fun lB R=>by cases R;exact lo g (by rw[o];rfl)) (cells:=cells.take ((c.xs.take n.toNat).length*c.t.cells)) ⟨by rw[List.length_take,ld.1,Nat.min_eq_left];exact Nat.mul_le_mul_right _ (by rw[List.length_take];omega),.inr ⟨g,cap,cur,by simp only[le],lv,lw,by simp only[le];omega,lx,ly,?_⟩⟩
    (cP (fun _ _=>cq O.keeps (O.mut sM) c.t) (Ik n.toNat lp)),(b7 _ _ _).symm⟩
  ·rw[run (some ⟨g,0,none⟩) c.xs.length cap w lh rfl]
   congr 2
   split
   ·rfl
   ·simp[Addr.add]
  ·simp only[]
   rw[<-lz,List.take_take,Nat.min_eq_left]
   exact Nat.mul_le_mul_right _ (by rw[List.length_take];omega)
end Go.Ev
namespace Go.Ev
open Go Go.RowKit
variable [bV]
variable {cx:bx} {m:Nat->Value} {st:af} {T:Array Value} {w w':World}
variable [ah cx]
theorem Q4{M:Nat->Prop}(s:List UInt8):bL (aK w M (.int .u8)) ((ee s).map (Value.int .u8)) (ee s):=by
 unfold ee
 induction s with
 |nil=>rfl
 |cons b s o=>exact⟨[_],_,rfl,rfl,o⟩
theorem vE{P:Program}{a:Addr}{news:List Value}(h:∀j u,news[j]? =some u->w.cell? (a.add j)=some u){n size:Nat}(q:news.length=n*size):
  ∀w',(∀b,b<w.heap.size->w'.heap[b]? =w.heap[b]?)->(loadCells a (n*size)).run P w'=.ok news.toArray w':=by
 intro w' L
 rw[<-q]
 refine zt (w:=w') fun j u O=>?_
 have o:=h j u O
 rw[World.cell?_of_block (w:=w) (L _ (World.block_lt_of_cell? w _ o))]
 exact o
theorem Ff{P:Program}(s:List UInt8):Builtin.lenOf (.string (bytesOf s))=pure (ee s).length/\
  ∀w,(Builtin.firstCells (ag.int .u8).cells (ee s).length (.string (bytesOf s))).run P w=.ok ((ee s).map (Value.int .u8)).toArray w:=by
 constructor
 ·show pure (bytesOf s).size=_
  rw[gH]
  simp[ee]
 ·intro w
  show Sem.run P (pure (((bytesOf s).extract 0 (ee s).length).data.map fun b=>Value.int .u8 b.toNat)) w=_
  rw[Sem.run_pure]
  congr 1
  apply Array.ext'
  rw[Array.toList_map,Lib.extract_data]
  simp[bytesOf,ee]
theorem EA(h:an cx m st T w){u:ag}{t:TypeId}{x:Operand}{U:List u.el}(o:jQ cx.P st u t x=some U):
  ((∃q,cx.P.underlying t=some (.slice q))\/cx.P.underlying t=some .string)/\
  ∃ld:List Value,Builtin.lenOf (Act.eval ⟨T,ah.D cx⟩ x)=pure U.length/\
   (∀w',(∀b,b<w.heap.size->w'.heap[b]? =w.heap[b]?)->(Builtin.firstCells u.cells U.length (Act.eval ⟨T,ah.D cx⟩ x)).run cx.P w'=.ok ld.toArray w')/\bL (aK w (ar cx m st.ids) u) ld U:=by
 unfold jQ at o
 split at o
 ·rename_i r Y
  split at o
  case h_2=>cases o
  rename_i q L
  refine⟨.inl ⟨q,L⟩,?_⟩
  split at o
  ·rename_i c O
   have le:=aW O
   obtain⟨lp,nj,lf⟩:=c
   have e:=ak.cO o
   cases e
   obtain⟨cells,Z,_,V⟩:=h.rows r _ le
   have R:Act.eval ⟨T,ah.D cx⟩ x=m r:=a8 h Y
   rcases Z.2 with ⟨W,lg⟩|⟨g,cap,cur,W,_⟩
   ·have la:lf=[]:=List.eq_nil_of_length_eq_zero lg
    subst la
    cases V
    exact⟨[],by rw[R,W];rfl,fun w' _=>by rw[R,W];rfl,rfl⟩
   ·refine⟨cells,by rw[R,W];rfl,fun w' lb=>?_,V⟩
    rw[R,W]
    exact vE (Z.cells (g:=g) (by rw[W];rfl)) Z.1 w' lb
  ·cases o
 ·rename_i lq xs Y
  have lh:∃q,cx.P.underlying t=some (.slice q):=by
   cases aj:cx.P.underlying t with
   |none=>rw[aj]at o;exact absurd o (by simp)
   |some lc=>
    rw[aj]at o
    cases lc<;>first|exact⟨_,rfl⟩|exact absurd o (by simp)
  obtain⟨q,L⟩:=lh
  rw[L]at o
  refine⟨.inl ⟨q,L⟩,?_⟩
  have e:=ak.cO o
  cases e
  obtain⟨a,cap,cells,O,li,_,lj,V,lk⟩:=(bA (t:=.ab u) rfl).1 (a8 h Y)
  simp only[List.cons.injEq,and_true]at O
  have ll:=hO (fun _ _=>b6 u) _ _ V
  cases a with
  |none=>
   have lr:cap=0:=lj rfl
   have la:U=[]:=List.eq_nil_of_length_eq_zero (by have:List.length U<=cap:=li;omega)
   subst la
   cases V
   exact⟨[],by rw[O];rfl,fun w' _=>by rw[O];rfl,rfl⟩
  |some b=>
   refine⟨cells,by rw[O];rfl,fun w' lb=>?_,V⟩
   rw[O]
   refine vE (fun j v lm=>?_) ll w' lb
   obtain⟨ls,ln,lo,_⟩:=lk j v lm
   cases ln
   exact lo
 ·rename_i s Y
  have L:cx.P.underlying t=some .string:=by
   cases aj:cx.P.underlying t with
   |none=>rw[aj]at o;exact absurd o (by simp)
   |some lc=>
    rw[aj]at o
    cases lc<;>first|rfl|exact absurd o (by simp)
  rw[L]at o
  refine⟨.inr L,?_⟩
  have e:=ak.cO o
  cases e
  obtain⟨R,_⟩:=dV.1 (a8 h Y)
  exact⟨(ee s).map (Value.int .u8),by rw[R];exact(Ff (P:=cx.P) s).1,fun w' _=>by rw[R];exact(Ff (P:=cx.P) s).2 w',Q4 s⟩
 ·cases o
theorem Ql(h:an cx m st T w){aa:Oper}{d:Nat}{args:Array Operand}{Z:Array TypeId}{s x:Operand}{t la e r:Nat}{u:ag}{c:cp}{q:List c.t.el}
  (lq:aa.op=.call {callee:=.builtin .append,args:=args,argTypes:=Z})(lr:args.toList=[s,x])(ls:Z.toList=[t,la])(lt:dE cx.P t=some (e,u))(L:pJ cx.P st d t s=some (r,c))
  (li:c.e=e)(lu:c.t=u)(lv:kE cx.P e=true)(lw:zeroOf cx.P e=some u)(lx:jQ cx.P st c.t la x=some q)(ly:r<dT)(lj:c.xs.length+q.length<=bq){orc:List ak}{ob:List Prop}:
  dX cx T w aa ⟨.row r,st.da r ⟨c.e,c.t,c.xs++q⟩,orc,ob⟩:=by
 obtain⟨lz,l4,l5⟩:=il lt
 obtain⟨i,z,_,lk,ll,lA,lB⟩:=iO lw
 obtain⟨i2,lm,lC⟩:=sJ lv
 rw[lk]at lm
 cases lm
 obtain⟨lD,V,lE,lF,le⟩:=EA h lx
 -- the base
 obtain⟨v,O,cells,lG,lH,lI,ln⟩:∃v,Act.eval ⟨T,ah.D cx⟩ s=v/\∃cells,w.ownsRow 0 c.e c.t.cells v c.xs.length cells/\(∀g,own v g->cx.w0.heap.size<=g\/cx.X g)/\
   bL (aK w (ar cx m st.ids) c.t) cells c.xs/\∀g,own v g->r∈st.ids/\own (m r) g:=by
  unfold pJ at L
  split at L
  ·rename_i l6
   split at L
   ·rename_i l7 l8 l9
    cases L
    refine⟨.slice none 0 0,rfl,[],World.ownsRow_nil w 0 _ _,?_,rfl,?_⟩
    ·intro g R;cases R
    ·intro g R;cases R
   ·cases L
  ·split at L
   ·rename_i ab lJ
    split at L
    ·rename_i c' lK
     cases L
     have lo:=aW lK
     obtain⟨cells,o,U,lL⟩:=h.rows r c lo
     exact⟨m r,a8 h lJ,cells,o,U,lL,fun g R=>⟨List.mem_append.2 (.inr (List.mem_map.2 ⟨_,lo,rfl⟩)),R⟩⟩
    ·cases L
   ·cases L
 have lb:i.size=c.t.cells:=by rw[lu];exact ll
 have lM:z.cells.size=i.size:=by
  rw[ll,<-b6 u (lB w (ar cx m st.ids))]
  simp
 have lN:V.length=q.length*i.size:=by rw[lb];exact hO (fun _ _=>b6 c.t) _ _ le
 have lO:∀v∈V,v.oneCell'=true:=by
  have key:∀(lc:List Value) (xs:List c.t.el),bL (aK w (ar cx m st.ids) c.t) lc xs->∀v∈lc,v.oneCell'=true:=by
   intro lc xs
   induction xs generalizing lc with
   |nil=>intro lP v O;cases lP;simp at O
   |cons y q lf=>
    rintro⟨W,c2,rfl,o,U⟩ v O
    rcases List.mem_append.1 O with O|O
    ·exact gh c.t o v O
    ·exact lf _ U v O
  exact key V q le
 have lQ:c.xs.length+q.length<=maxLen:=Nat.le_trans lj oC
 have lR:(c.xs.length+q.length)*i.bytes<=140737488355328:=by
  have o:c.xs.length+q.length<=2147483648:=lj
  calc (c.xs.length+q.length)*i.bytes<=2147483648*65536:=Nat.mul_le_mul o lC
   _=140737488355328:=by decide
 obtain⟨v',w',lS,lg,lT,lU,lp⟩:=Gc (P:=cx.P) (w:=w) t la aa.type e i z lz lD lk lA lM (Act.eval ⟨T,ah.D cx⟩ x) q.length V lE
  (by rw[lb];exact lF) lN lO v c.xs.length cells (by rw[lb,<-li];exact lG) lQ lR
 have Y:cX cx m st w r v' w':=⟨lT,fun b lV lW=>lU b lV fun lX=>lW (ln b (fO lX)),fun g R=>by
  rcases lp g (C0 lg R)with o|o
  ·exact .inl (ln g (fO o))
  ·exact .inr o⟩
 have lY:an cx (bt m r v') (st.da r ⟨c.e,c.t,c.xs++q⟩) T w':=by
  refine h.da (.inr ly) Y (fun g R=>?_) (cells:=cells++V) ?_ ?_
  ·rcases lp g (C0 lg R)with o|o
   ·exact lH g (fO o)
   ·exact .inl (Nat.le_trans (mS h) o.1)
  ·simp only[List.length_append]
   rw[<-lb,li]
   exact lg
  ·simp only[]
   have lZ:∀(W c2:List Value) (ld lh:List c.t.el) (f:List Value->c.t.el->Prop),bL f W ld->bL f c2 lh->bL f (W++c2) (ld++lh):=by
    intro W c2 ld lh f
    induction ld generalizing W with
    |nil=>intro o U;cases o;exact U
    |cons y q lf=>rintro⟨d1,d2,rfl,g1,g2⟩ U;exact⟨d1,d2++c2,by simp,g1,lf _ g2 U⟩
   exact lZ _ _ _ _ _ (cP (fun _ _=>cq Y.keeps (Y.mut sM) c.t) lI) (cP (fun _ _=>cq Y.keeps (Y.mut sM) c.t) le)
 have l0:args=#[s,x]:=by rw[<-Array.toArray_toList (xs:=args),lr]
 have l3:Z=#[t,la]:=by rw[<-Array.toArray_toList (xs:=Z),ls]
 subst l0
 subst l3
 refine⟨v',w',_,?_,lY,(b7 _ _ _).symm⟩
 simp only[execOp,lq,resolve,invoke,builtin,Sem.run_bind,Sem.run_pure,Result.andThen_ok,List.map_toArray,List.map_cons,List.map_nil,O,lS]
theorem Ti(h:an cx m st T w){aa:Oper}{d:Nat}(O:d<cx.n){src o e:TypeId}{x:Operand}{s:List UInt8}(R:aa.op=.convert src o x)(U:cY st x=some ⟨.str,s⟩)(V:cx.P.underlying src=some .string)(aj:dE cx.P o=some (e,.int .i32))
  {orc:List ak}{ob:List Prop}(W:s.length<=bq):dX cx T w aa ⟨.row d,st.da d ⟨e,.int .i32,eb s⟩,orc,ob⟩:=by
 obtain⟨Y,_⟩:=dV.1 (cK h U)
 obtain⟨Z,la,_⟩:=il aj
 have lb:cx.P.underlying e=some (.int .i32):=by
  obtain⟨i,_,_,lc⟩:=cQ la
  exact lc
 have L:Conv.runesFrom (bytesOf s) (bytesOf s).size 0 #[]=((eb s).map (Value.int .i32)).toArray:=by
  rw[DC,gH]
  simp[eb]
 have ld:(eb s).length<=s.length:=EW s s.length 0
 have lj:bq<=70368744177664:=by decide
 have le:(eb s).length<=maxLen:=Nat.le_trans ld (Nat.le_trans W oC)
 have q:=run_runes_of_string (P:=cx.P) w src o e (bytesOf s) V Z lb (by rw[L];simp only[List.size_toArray,List.length_map];omega)
 rw[L]at q
 simp only[List.size_toArray,List.length_map]at q
 have lf:=grownCap_ge w (eb s).length 0 e
 have lg:=grownCap_le_maxLen w (eb s).length 0 e le
 refine⟨_,_,_,ca (s:=convert src o (.string (bytesOf s))) (by simp only[execOp,R,Y];rfl) q,
  qs h d (.inl O) (xs:=eb s) (cells:=(eb s).map (Value.int .i32)) (u:=.int .i32) (e:=e) _ {os:=rfl,tape:=rfl,output:=rfl,size:=by simp,drawn:=by first|exact fun _=>Nat.le_refl _|exact fun _=>Nat.le_succ _,block:=fun b lh=>Below.heap_alloc w.drew _ b lh} (heap_alloc_new w.drew _) lf lg ?_ ?_ ?_,(b7 _ _ _).symm⟩
 ·simp only[Array.size_append,List.size_toArray,List.length_map,Array.size_replicate,ag.cells]
  omega
 ·simp only[Array.toList_append,ag.cells,Nat.mul_one]
  rw[List.take_append_of_le_length (by rw[List.length_map];exact Nat.le_refl _)]
  rw[List.take_of_length_le (by rw[List.length_map];exact Nat.le_refl _)]
 ·have:∀(l:List Int),bL (aK w (ar cx m st.ids) (.int .i32)) (l.map (Value.int .i32)) l:=by
   intro l
   induction l with
   |nil=>rfl
   |cons b s li=>exact⟨[_],_,rfl,rfl,li⟩
  exact this _
theorem NF(h:an cx m st T w){aa:Oper}{src o e:TypeId}{x:Operand}{s:List UInt8}(R:aa.op=.convert src o x)(U:cY st x=some ⟨.str,s⟩)(V:cx.P.underlying src=some .string)(aj:dE cx.P o=some (e,.int .u8))
  {orc:List ak}{ob:List Prop}:dX cx T w aa ⟨.val (.ab (.int .u8)) (ee s),st,orc,ob⟩:=by
 obtain⟨W,Y⟩:=dV.1 (cK h U)
 obtain⟨Z,la,_⟩:=il aj
 have lb:cx.P.underlying e=some (.int .u8):=by
  obtain⟨i,_,_,lc⟩:=cQ la
  exact lc
 have L:=run_bytes_of_string (P:=cx.P) w src o e (bytesOf s) V Z lb
 have ld:(bytesOf s).size=s.length:=gH s
 rw[ld]at L
 have le:=grownCap_ge w s.length 0 e
 have lf:=grownCap_le_maxLen w s.length 0 e Y
 have O:(ee s).length=s.length:=by simp[ee]
 refine⟨_,_,m,ca (s:=convert src o (.string (bytesOf s))) (by simp only[execOp,R,W];rfl) L,h.ext {os:=rfl,tape:=rfl,output:=rfl,size:=by simp,drawn:=by first|exact fun _=>Nat.le_refl _|exact fun _=>Nat.le_succ _,block:=fun b lg=>Below.heap_alloc w.drew _ b lg},
  (bA (t:=.ab (.int .u8)) rfl).2 ⟨some ⟨w.heap.size,0,none⟩,grownCap w s.length 0 e,(ee s).map (Value.int .u8),congrArg (fun n=>[Value.slice _ n _]) O.symm,Nat.le_trans (Nat.le_of_eq O) le,lf,(fun h=>by cases h),?_,?_⟩⟩
 ·have:∀(w:World) (M:Nat->Prop) (l:List Int),bL (aK w M (.int .u8)) (l.map (Value.int .u8)) l:=by
   intro w M l
   induction l with
   |nil=>rfl
   |cons b s lh=>exact⟨[_],_,rfl,rfl,lh⟩
  exact this _ _ _
 ·intro j u q
  refine⟨_,rfl,?_,fun li=>Nat.lt_irrefl _ (h.xE li)⟩
  have lj:j<s.length:=by have:=(List.getElem?_eq_some_iff.1 q).1;simpa[ee]using this
  have lk:(⟨w.heap.size,0,none⟩:Addr).add j=⟨w.heap.size,0+j,none⟩:=by unfold Addr.add;split<;>simp_all
  have ll:=mz (heap_alloc_new w.drew (.cells (bytesRow (bytesOf s) (grownCap w s.length 0 e)) e ((bytesRow (bytesOf s) (grownCap w s.length 0 e)).size,(bytesRow (bytesOf s) (grownCap w s.length 0 e)).size+1))) (0+j)
  rw[lk]
  refine Eq.trans ll ?_
  rw[Nat.zero_add]
  unfold bytesRow
  rw[Array.getElem?_append_left (by simp[bytesOf];exact lj)]
  rw[<-Array.getElem?_toList,Array.toList_map]
  simp only[ee,List.map_map,List.getElem?_map]at q
  simp only[bytesOf,List.getElem?_map]
  exact q
theorem xP{M:Nat->Prop}{t:ag}:∀{xs:List t.el} {cs:List Value} (n:Nat),bL (aK w M t) cs xs->n<=xs.length->bL (aK w M t) (cs.drop (n*t.cells)) (xs.drop n)
 |xs,cs,0,h,_=>by rw[Nat.zero_mul];exact h
 |[],_,n+1,_,o=>by simp at o
 |x::xs,cs,n+1,⟨U,c2,e,q,L⟩,o=>by
  have O:=b6 t q
  have R:cs.drop ((n+1)*t.cells)=c2.drop (n*t.cells):=by
   rw[e,Nat.succ_mul,Nat.add_comm,<-List.drop_drop,<-O,List.drop_left]
  rw[R]
  exact xP n L (by simpa using o)
theorem OU(h:an cx m st T w){aa:Oper}{t:TypeId}{u:ag}{len:Nat}{x W:Operand}{r lh li:Nat}{i0 n:Int}{c:cp}{Y:List c.t.el}(ls:aa.op=.slice t x (some W) none none)(lt:aO st x=some (.dA r i0 lh li))(lu:dL (aO st W)=some n)
  (O:o4 cx.P t=some (len,u))(lj:look st.rw r=some c)(q:(c.t.beq u&&(i0==0&&(Nat.beq lh 0&&Nat.beq li c.t.cells)))=true)(lv:dD c.xs n (c.xs.length:Int)=some Y)(lk:c.xs.length=len){orc:List ak}{ob:List Prop}:
  dX cx T w aa ⟨.val (.ab c.t) Y,st.freeze r c,orc,ob⟩:=by
 simp only[Bool.and_eq_true,beq_iff_eq]at q
 obtain⟨Z,la,U,lN⟩:=q
 have U:=Nat.eq_of_beq_eq_true U
 obtain rfl:=ag.eq_of_beq Z
 obtain⟨k,lw⟩:=eR h lu
 obtain⟨lx,L,_,lb⟩:=qT lv
 rw[Int.toNat_natCast,List.take_length]at lb
 unfold o4 at O
 split at O
 case h_2=>cases O
 rename_i lO e ly
 split at O
 case h_2=>cases O
 rename_i lP lz
 cases O
 obtain⟨g,lQ,lR,lA,lc⟩:=a8 h lt
 have lc:Act.eval ⟨T,ah.D cx⟩ x=.pointer (some ⟨g,0,none⟩):=by rw[lc,la,U];simp
 have lB:=h.freeze (aW lj)
 have ld:=aW lj
 have ll:r∈st.ids:=List.mem_append.2 (.inr (List.mem_map.2 ⟨_,ld,rfl⟩))
 have lC:aK w (ar cx m (st.freeze r c).ids) (.ab c.t) [m r] c.xs:=by
  have lD:∀c',(r,c')∉st.ad:=fun c' q=>(List.nodup_append.1 h.keys).2.2 r (List.mem_map.2 ⟨_,q,rfl⟩) r (List.mem_map.2 ⟨_,ld,rfl⟩) rfl
  have lm:∀i,i∈(st.freeze r c).ids->i∈st.ids/\i≠r:=by
   intro i o
   rcases List.mem_append.1 o with o|o
   ·obtain⟨⟨b,s⟩,le,rfl⟩:=List.mem_map.1 o
    obtain⟨⟨lS,lE⟩,ln,V⟩:=List.mem_map.1 le
    cases V
    exact⟨List.mem_append.2 (.inl (List.mem_map.2 ⟨_,ln,rfl⟩)),fun e=>lD lE (by simp only at e;rw[<-e];exact ln)⟩
   ·obtain⟨⟨b,s⟩,le,rfl⟩:=List.mem_map.1 o
    obtain⟨L,R⟩:=cE.1 le
    exact⟨List.mem_append.2 (.inr (List.mem_map.2 ⟨_,L,rfl⟩)),R⟩
  refine h.qK ld (fun b _ q=>jB (fun i o=>(lm i o).1) q) fun lo lp=>?_
  rintro(lF|⟨i,o,lG⟩)
  ·have L:=h.outer lo lF
   rcases(h.lt ll lp).2 with R|R
   ·omega
   ·exact L.2 R
  ·obtain⟨L,R⟩:=lm i o
   exact h.apart i r L ll R lo lG lp
 obtain⟨a,cap,cells,lf,lT,lU,lV,lq,lH⟩:=lC
 rw[lA]at lf
 simp only[List.cons.injEq,and_true,Value.slice.injEq]at lf
 obtain⟨lI,lW,lX⟩:=lf
 subst lI
 have lJ:n.toNat<=c.xs.length:=by omega
 have lK:=hO (fun _ _=>b6 c.t) _ _ lq
 have lr:Y.length=c.xs.length-n.toNat:=by rw[lb,List.length_drop]
 refine⟨.slice (some (if c.xs.length=n.toNat then⟨g,0,none⟩else(⟨g,0,none⟩:Addr).add (n.toNat*c.t.cells))) (c.xs.length-n.toNat) (c.xs.length-n.toNat),w,m,
  ca (s:=Instr.sliceAt t (Act.eval ⟨T,ah.D cx⟩ x) (some (Act.eval ⟨T,ah.D cx⟩ W)) none none) (by simp only[execOp,ls];rfl) ?_,lB,?_⟩
 ·simp only[lc,lw,Instr.sliceAt,Sem.run_bind,run_underlying ly,Result.andThen_ok,Instr.sureAddr,Sem.run_pure]
  have q:(Instr.sliceBounds false len len (some (.int k n)) none none).run cx.P w=.ok (n.toNat,len,len) w:=by
   have lL:n<=(len:Int):=by rw[<-lk];exact L
   simp[Instr.sliceBounds,Instr.sliceBound,asIntOf,lx,lL]
  rw[q]
  simp only[Result.andThen_ok,Sem.run_bind,eB lz,Sem.run_pure,lk]
 ·refine(bA (t:=.ab c.t) rfl).2 ⟨_,c.xs.length-n.toNat,cells.drop (n.toNat*c.t.cells),by rw[lr],by rw[lr];exact Nat.le_refl _,by omega,(fun e=>by cases e),?_,?_⟩
  ·rw[lb];exact xP _ lq lJ
  ·intro j u lg
   rw[List.getElem?_drop]at lg
   obtain⟨b,Z,la,U⟩:=lH _ _ lg
   cases Z
   have lM:=(List.getElem?_eq_some_iff.1 lg).1
   by_cases V:c.xs.length=n.toNat
   ·rw[lK,V]at lM
    omega
   ·refine⟨_,rfl,?_,?_⟩
    ·rw[if_neg V,add_add]
     exact la
    ·rw[if_neg V,iC]
     exact U
theorem Ec(h:an cx m st T w){aa:Oper}{d:Nat}(aj:d<cx.n){orc:List ak}{r:wu}(o:jA cx.P st aa d orc=some r)(V:bJ r.ob):dX cx T w aa r:=by
 unfold jA at o
 split at o
 ·rename_i q
  split at o
  ·cases o;exact DQ h aj (.inl q)
  ·cases o
 ·rename_i q
  split at o
  ·cases o;exact DQ h aj (.inr q)
  ·cases o
 ·rename_i t q
  split at o
  ·rename_i n u R;cases o;exact P4 h aj q R
  ·split at o
   ·rename_i e u R
    cases aY:Nat.blt (d+1000000) dT with
    |false=>rw[aY]at o;cases o
    |true=>rw[aY]at o;cases o;exact QV h aj (cw aY) q R
   ·split at o
    ·rename_i e R
     cases aY:Nat.blt (d+1000000) dT with
     |false=>rw[aY]at o;cases o
     |true=>rw[aY]at o;cases o;exact Q5 h aj (cw aY) q R
    ·split at o
     ·rename_i u R
      cases Z:rk u<;>rw[Z]at o<;>cases o
      ·exact LC h aj q R
      ·exact Ot h aj q R
     ·cases o
 ·rename_i t x q
  split at o
  ·rename_i u s O L
   split at o
   ·rename_i l lb ll;cases o;exact OS h aj q L lb ll
   ·cases o
  ·cases o
 ·rename_i t n parts q
  split at o
  ·rename_i e u la
   split at o
   ·rename_i xs L
    split at o
    ·rename_i lc ld le lf
     cases o
     exact SG h aj q la L (Nat.eq_of_beq_eq_true ld) (Nat.le_of_ble_eq_true le) lf
    ·cases o
   ·cases o
  ·cases o
 ·rename_i t parts q
  split at o
  ·rename_i n u lA e i Y O lj
   split at o
   ·rename_i xs lc z L lm R
    split at o
    ·rename_i Z
     cases o
     simp only[Bool.and_eq_true]at Z
     obtain⟨⟨ln,lo⟩,lp⟩:=Z
     obtain rfl:=ag.eq_of_beq lo
     obtain⟨_,_,_,lB,d2,lk,_⟩:=cQ Y
     have lq:cx.P.underlying t=some (.array n e):=by rw[O]at lk;cases lk;exact O
     exact JO h q Y lj R lq lm L (Nat.eq_of_beq_eq_true ln) (Nat.eq_of_beq_eq_true lp)
    ·cases o
   ·cases o
  ·cases o
 ·rename_i t l c q
  split at o
  ·rename_i e u n k la lb W
   split at o
   ·rename_i lc U R
    cases O:u.beq lc with
    |false=>rw[O]at o;cases o
    |true=>
     rw[O]at o
     cases o
     obtain rfl:=ag.eq_of_beq O
     exact JN h aj q la lb W U R V.1
   ·cases o
  ·cases o
 ·rename_i t x q
  split at o
  ·rename_i s L Y;cases o;exact O0 h aj q L Y
  ·rename_i k v y lr ls L Y;cases o;exact MP h aj q L Y
  ·cases o
 ·rename_i t r q
  split at o
  ·rename_i lr ls Y
   split at o
   ·rename_i k v lC lD
    split at o
    ·rename_i Z
     cases o
     simp only[Bool.and_eq_true]at Z
     exact KE h aj q Y Z.2
    ·cases o
   ·cases o
  ·cases o
 ·rename_i x q
  split at o
  ·rename_i b L
   split at o
   ·rename_i k v left last U
    cases o
    exact IG h q L U V.1
   ·cases o
  ·cases o
 ·rename_i x q
  split at o
  ·rename_i b L
   split at o
   ·rename_i k v left p U
    cases o
    exact Kn h q L U
   ·cases o
  ·cases o
 ·rename_i x q
  split at o
  ·rename_i b lE orc' L
   split at o
   ·rename_i s p U
    split at o
    ·cases o;exact(FI h q L U).1 V.1
    ·cases o;exact(FI h q L U).2 V.1
   ·cases o
  ·cases o
 ·rename_i src lF x q
  split at o
  ·rename_i s e L lg lt;cases o;exact Ti h aj q L lg lt V.1
  ·rename_i s e L lg aj;cases o;exact NF h q L lg aj
  ·cases o
 ·rename_i f first eg q
  split at o
  ·rename_i bs lh W;cases o;exact LH h q lh W
  ·rename_i x lh W
   split at o
   ·rename_i b L;cases o;exact NE h q lh W L
   ·cases o
  ·cases o
 ·rename_i t x lj q
  split at o
  ·rename_i r e u n L la lu
   split at o
   ·rename_i c W
    split at o
    ·rename_i ld le lf
     cases o
     exact Ji h q L la lu W (Nat.eq_of_beq_eq_true ld) (ag.eq_of_beq le) (cw lf) V.1
    ·cases o
   ·cases o
  ·cases o
 ·rename_i t x lG q
  split at o
  ·rename_i r i0 lH lI n lJ u v orc' L lb li
   split at o
   ·rename_i c W
    split at o
    ·rename_i lv U lK
     cases o
     exact OU h q L lb li W U V.1 V.2.1
    ·cases o
   ·cases o
  ·cases o
 ·rename_i c q
  split at o
  ·rename_i args lL
   split at o
   ·rename_i s x t lM li lw
    split at o
    ·rename_i e u r c la lx
     split at o
     ·rename_i lc lv ld le lf ly lz
      cases O:u.beq lc&&Nat.blt r dT with
      |false=>rw[O]at o;cases o
      |true=>
       rw[O]at o
       cases o
       rw[Bool.and_eq_true]at O
       obtain rfl:=ag.eq_of_beq O.1
       exact Ql h q li lw la lx (Nat.eq_of_beq_eq_true ld) (ag.eq_of_beq le) lf ly lz (cw O.2) V.1
     ·cases o
    ·cases o
   ·cases o
  ·cases o
 ·cases o
end Go.Ev
namespace Go.Ev
open Go Go.RowKit
variable [bV]
variable {cx:bx} {m:Nat->Value} {st:af} {T:Array Value} {w w':World}
variable [ah cx]
structure ip where
 flat:Bool
 gf:Nat
 eg:List ag
 rel:List ak->List ak->Prop
def iT(w:World)(M:Nat->Prop)(v:Value):List ak->Prop
 |[]=>True
 |[u]=>bc w M v u.t u.x
 |l=>∃vs:List Value,v=.tuple vs.toArray/\dB w M vs l
structure aR(P:Program)(G:World->Prop)(f:Nat)(F:ip):Prop where
 enters:∀args w,(callFunc f args).run P w=.ok (.enter f args) w
 shape:∀o ap,F.rel o ap->ap.length=F.gf/\(F.flat=true->∀u∈ap,u.t.flat=true)
 calls:∀(w:World) (M:Nat->Prop) (vs:List Value) (o ap:List ak),G w->(∀b,M b->b<w.heap.size)->F.rel o ap->dB w M vs o->
  Calls P f vs.toArray w fun e w'=>∃v,e=.returned v/\iT w' M v ap/\Ext w w'
structure Env where
 P:Program
 G:World->Prop
 n:Nat
 fns:List (Nat×ip)
structure br(E:Env)(cx:bx):Prop where
 P:cx.P=E.P
 n:cx.n=E.n
 oO:∀w,Frame cx.w0 w cx.X->E.G w
 fns:∀f F,(f,F)∈E.fns->aR E.P E.G f F
def jq(st:af)(b off:Nat)(u:ag):Option ak:=
 match look st.ad b with
 |some (.cells l _)=>match pack u ((l.drop off).map (j5 st))with
  |some (x,_)=>some ⟨.ptr u,x⟩
  |none=>none
 |_=>none
def nx(st:af):List Nat->List ag->Option (List ak)
 |[],[]=>some []
 |b::bs,u::us=>match jq st b 0 u,nx st bs us with
  |some v,some vs=>some (v::vs)
  |_,_=>none
 |_,_=>none
def pairUp:List ak->ak
 |[]=>⟨.unit,()⟩
 |u::us=>⟨.pair u.t (pairUp us).t,(u.x,(pairUp us).x)⟩
def GO:ag->List ag
 |.pair (.ptr u) r=>u::GO r
 |_=>[]
def nK(st:af)(b off:Nat)(u:ag):Option ak:=
 match u with
 |.fn f t=>match look st.ad b with
  |some (.cells l _)=>match l.drop off with
   |.clos g o::_=>match Nat.beq g f,nx st o (GO t)with
    |true,some vs=>match ak.as ⟨.fn f (pairUp vs).t,(pairUp vs).x⟩ (.fn f t)with
     |some y=>some ⟨.ptr (.fn f t),y⟩
     |none=>none
    |_,_=>none
   |_=>jq st b off (.fn f t)
  |_=>none
 |u=>jq st b off u
def mJ(st:af):List Nat->List ag->Option (List ak)
 |[],[]=>some []
 |b::bs,u::us=>match nK st b 0 u,mJ st bs us with
  |some v,some vs=>some (v::vs)
  |_,_=>none
 |_,_=>none
def o7:(t:ag)->t.el->Option (List ak)
 |.unit,_=>some []
 |.pair a b,x=>match o7 b x.2 with
  |some l=>some (⟨a,x.1⟩::l)
  |none=>none
 |_,_=>none
def zG(E:Env)(st:af)(flat:Bool)(t:TypeId)(x:Operand):Option ak:=
 match x with
 |.const (.slice none 0 0)=>match dE E.P t with
  |some (_,u)=>some ⟨.ab u,[]⟩
  |none=>none
 |x=>match aO st x with
  |some (.val t y)=>some ⟨t,y⟩
  |some (.vptr t y)=>some ⟨.ptr t,y⟩
  |some (.row r)=>match flat,look st.rw r with
   |true,some c=>some ⟨.ab c.t,c.xs⟩
   |_,_=>none
  |some (.iter b)=>match flat,look st.ad b with
   |true,some (.mp k v ps)=>some ⟨.map k v,some ps⟩
   |_,_=>none
  |some (.ptr b off)=>match flat,E.P.underlying t with
   |true,some (.pointer e)=>match ty E.P e with
    |some u=>nK st b off u
    |none=>none
   |_,_=>none
  |some (.dm b p)=>match flat,look st.ad b with
   |true,some (.aP o y _)=>match iY o y p []with
    |some (r,_,[])=>some ⟨.ptr r.t,r.x⟩
    |_=>none
   |_,_=>none
  |some (.clos f bs)=>match flat,look E.fns f with
   |true,some F=>match mJ st bs F.eg with
    |some l=>some ⟨.fn f (pairUp l).t,(pairUp l).x⟩
    |none=>none
   |_,_=>none
  |_=>none
def pB(E:Env)(st:af)(flat:Bool):List TypeId->List Operand->Option (List ak)
 |[],[]=>some []
 |t::o,x::xs=>match zG E st flat t x,pB E st flat o xs with
  |some v,some vs=>some (v::vs)
  |_,_=>none
 |_,_=>none
def pF:List ak->ao
 |[]=>.any
 |[u]=>.val u.t u.x
 |l=>.dq l
def pA(E:Env)(st:af)(x:Operand):Option (Nat×ip×List ak):=
 match aO st x with
 |some (.clos f bs)=>match look E.fns f with
  |some F=>match bs with
   |[]=>some (f,F,[])
   |bs=>match F.flat,mJ st bs F.eg with
    |true,some l=>some (f,F,l)
    |_,_=>none
  |none=>none
 |some (.val (.fn f t) y)=>match look E.fns f,o7 t y with
  |some F,some l=>match l.all (fun u=>!u.t.agg)with
   |true=>some (f,F,l)
   |false=>none
  |_,_=>none
 |_=>none
def kh(E:Env)(st:af)(c:Call)(orc:List ak):Option di:=
 match c.callee with
 |.value x=>match pA E st x with
  |some (_,F,l)=>match pB E st F.flat c.argTypes.toList c.args.toList with
   |some o=>bif Nat.ble F.gf orc.length then some ⟨pF (orc.take F.gf),orc.drop F.gf,[F.rel (o++l) (orc.take F.gf)]⟩else none
   |none=>none
  |none=>none
 |_=>none
theorem F3(h:an cx m st T w):∀{c:List Value} {l:List ao},cg w (ar cx m st.ids) m c l->cg w (fun _=>False) m c (l.map (j5 st))
 |[],[],_=>trivial
 |[],_::_,h=>h.elim
 |_::_,[],h=>h.elim
 |_::_,_::_,⟨o,q⟩=>⟨DR h o,F3 h q⟩
theorem u9(h:an cx m st T w){b off:Nat}{u:ag}{v:ak}(o:jq st b off u=some v){x:Value}(U:∃g,m b=.pointer (some ⟨g,0,none⟩)/\x=.pointer (some ⟨g,off,none⟩)):
  bc w (fun _=>False) x v.t v.x:=by
 unfold jq at o
 split at o
 ·rename_i l V
  split at o
  ·rename_i y r W
   cases o
   obtain⟨g,Y,rfl⟩:=U
   obtain⟨q,L,_,cells,Z,la⟩:=h.box (aW V)
   have:q=g:=by rw[Y]at L;cases L;rfl
   subst this
   obtain⟨_,aj⟩:=ij off la
   obtain⟨lb,c2,lc,ld,_⟩:=nD u (F3 h aj) W
   refine(bA (t:=.ptr u) rfl).2 ⟨_,lb,rfl,ld,fun j v O=>⟨?_,fun h=>h⟩⟩
   have R:(cells.toList.drop off)[j]? =some v:=by rw[lc,List.getElem?_append_left (List.getElem?_eq_some_iff.1 O).1];exact O
   rw[List.getElem?_drop]at R
   have le:(⟨q,off,none⟩:Addr).add j=⟨q,off+j,none⟩:=by unfold Addr.add;split<;>simp_all
   rw[le,mz Z]
   simpa using R
  ·cases o
 ·cases o
theorem Iy(h:an cx m st T w):∀{bs:List Nat} {us:List ag} {l:List ak},(∀b∈bs,∀c e,look st.ad b=some (.cells c e)->∃g,m b=.pointer (some ⟨g,0,none⟩))->nx st bs us=some l->dB w (fun _=>False) (bs.map m) l
 |[],[],_,_,o=>by cases o;trivial
 |[],_::_,_,_,o=>by cases o
 |_::_,[],_,_,o=>by cases o
 |b::bs,u::us,l,L,o=>by
  unfold nx at o
  split at o
  ·rename_i v vs q R
   cases o
   refine⟨u9 h q ?_,Iy h (fun b U=>L b (List.mem_cons_of_mem _ U)) R⟩
   unfold jq at q
   split at q
   ·rename_i c e V
    obtain⟨g,O⟩:=L b List.mem_cons_self c e V
    exact⟨g,O,O⟩
   ·cases q
  ·cases o
theorem p8(h:an cx m st T w){b:Nat}{c:List ao}{e:Nat}(o:look st.ad b=some (.cells c e)):∃g,m b=.pointer (some ⟨g,0,none⟩):=by
 obtain⟨g,q,_⟩:=h.box (aW o)
 exact⟨g,q⟩
theorem pf{w:World}{M:Nat->Prop}:∀{vs:List Value} {l:List ak},(∀u∈l,u.t.agg=false)->dB w M vs l->aK w M (pairUp l).t vs (pairUp l).x
 |[],[],_,_=>rfl
 |[],_::_,_,h=>h.elim
 |_::_,[],_,h=>h.elim
 |v::vs,u::us,o,⟨q,L⟩=>⟨[v],vs,rfl,(bA (o u List.mem_cons_self)).1 q,pf (fun x O=>o x (List.mem_cons_of_mem _ O)) L⟩
theorem EP:∀{bs:List Nat} {us:List ag} {l:List ak},nx st bs us=some l->∀u∈l,u.t.agg=false
 |[],[],_,o=>by cases o;simp
 |[],_::_,_,o=>by cases o
 |_::_,[],_,o=>by cases o
 |b::bs,u::us,l,o=>by
  unfold nx at o
  split at o
  ·rename_i v vs q O
   cases o
   intro x L
   rcases List.mem_cons.1 L with rfl|L
   ·unfold jq at q
    split at q
    ·split at q
     ·cases q;rfl
     ·cases q
    ·cases q
   ·exact EP O x L
  ·cases o
theorem GJ(h:an cx m st T w){b off:Nat}{u:ag}{v:ak}(o:nK st b off u=some v){x:Value}(O:∃g,m b=.pointer (some ⟨g,0,none⟩)/\x=.pointer (some ⟨g,off,none⟩)):
  bc w (fun _=>False) x v.t v.x:=by
 unfold nK at o
 split at o
 ·rename_i f t
  split at o
  ·rename_i l e la
   split at o
   ·rename_i g R r lb
    split at o
    ·rename_i vs U W
     split at o
     ·rename_i y lc
      cases o
      have U:=Nat.eq_of_beq_eq_true U
      subst U
      have ld:=ak.cO lc
      obtain⟨g0,le,rfl⟩:=O
      obtain⟨V,Y,_,cells,lf,lg⟩:=h.box (aW la)
      have:V=g0:=by rw[le]at Y;cases Y;rfl
      subst this
      obtain⟨_,aj⟩:=ij off lg
      rw[lb]at aj
      match lh:cells.toList.drop off,aj with
      |q::lp,⟨li,_⟩=>
       have lj:q=.func (.func g) #[] (R.map m).toArray:=li
       have lk:aK w (fun _=>False) (pairUp vs).t (R.map m) (pairUp vs).x:=pf (EP W) (Iy h (fun b _ c e ll=>p8 h ll) W)
       have lm:aK w (fun _=>False) (.fn g (pairUp vs).t) [q] (pairUp vs).x:=⟨R.map m,by rw[lj],lk⟩
       have ln:aK w (fun _=>False) (.fn g t) [q] y:=by
        have:∀(a b:ak),a=b->aK w (fun _=>False) a.t [q] a.x->aK w (fun _=>False) b.t [q] b.x:=fun a b e h=>e▸h
        exact this _ ⟨.fn g t,y⟩ ld lm
       refine(bA (t:=.ptr (.fn g t)) rfl).2 ⟨_,[q],rfl,ln,fun j v L=>⟨?_,fun h=>h⟩⟩
       have Z:(cells.toList.drop off)[j]? =some v:=by
        rw[lh]
        match j,L with
        |0,L=>exact L
        |j+1,L=>simp at L
       rw[List.getElem?_drop]at Z
       have lo:(⟨V,off,none⟩:Addr).add j=⟨V,off+j,none⟩:=by unfold Addr.add;split<;>simp_all
       rw[lo,mz lf]
       simpa using Z
      |[],aj=>exact aj.elim
     ·cases o
    ·cases o
   ·exact u9 h o O
  ·cases o
 ·exact u9 h o O
theorem Hn{b off:Nat}{u:ag}{v:ak}(o:nK st b off u=some v):(∃c e,look st.ad b=some (.cells c e))/\v.t.agg=false:=by
 have L:∀{u:ag},jq st b off u=some v->(∃c e,look st.ad b=some (.cells c e))/\v.t.agg=false:=by
  intro u o
  unfold jq at o
  split at o
  ·rename_i l e q
   split at o
   ·cases o;exact⟨⟨l,e,q⟩,rfl⟩
   ·cases o
  ·cases o
 unfold nK at o
 split at o
 ·split at o
  ·rename_i l e q
   split at o
   ·split at o
    ·split at o
     ·cases o;exact⟨⟨l,e,q⟩,rfl⟩
     ·cases o
    ·cases o
   ·exact L o
  ·cases o
 ·exact L o
theorem Bc(h:an cx m st T w):∀{bs:List Nat} {us:List ag} {l:List ak},(∀b∈bs,∀c e,look st.ad b=some (.cells c e)->∃g,m b=.pointer (some ⟨g,0,none⟩))->mJ st bs us=some l->dB w (fun _=>False) (bs.map m) l
 |[],[],_,_,o=>by cases o;trivial
 |[],_::_,_,_,o=>by cases o
 |_::_,[],_,_,o=>by cases o
 |b::bs,u::us,l,q,o=>by
  unfold mJ at o
  split at o
  ·rename_i v vs L R
   cases o
   obtain⟨⟨c,e,U⟩,_⟩:=Hn L
   obtain⟨g,O⟩:=q b List.mem_cons_self c e U
   exact⟨GJ h L ⟨g,O,O⟩,Bc h (fun b V=>q b (List.mem_cons_of_mem _ V)) R⟩
  ·cases o
theorem Ip:∀{bs:List Nat} {us:List ag} {l:List ak},mJ st bs us=some l->∀u∈l,u.t.agg=false
 |[],[],_,o=>by cases o;simp
 |[],_::_,_,o=>by cases o
 |_::_,[],_,o=>by cases o
 |b::bs,u::us,l,o=>by
  unfold mJ at o
  split at o
  ·rename_i v vs L O
   cases o
   intro x q
   rcases List.mem_cons.1 q with rfl|q
   ·exact(Hn L).2
   ·exact Ip O x q
  ·cases o
theorem HF{w:World}{M:Nat->Prop}:∀(t:ag) {vs:List Value} {x:t.el} {l:List ak},o7 t x=some l->aK w M t vs x->∃us,dB w M us l/\(∀u∈l,u.t.agg=false->True)/\(l.all (fun u=>!u.t.agg)=true->us=vs)
 |.unit,vs,x,l,o,h=>by cases o;cases h;exact⟨[],trivial,fun _ _ _=>trivial,fun _=>rfl⟩
 |.pair a b,vs,x,l,o,⟨O,c2,e,R,W⟩=>by
  unfold o7 at o
  split at o
  ·rename_i la Y
   cases o
   obtain⟨us,U,_,Z⟩:=HF b Y W
   cases q:a.agg with
   |true=>exact⟨.agg O.toArray::us,⟨(dK q).2 ⟨O,rfl,R⟩,U⟩,fun _ _ _=>trivial,fun L=>by simp[q]at L⟩
   |false=>
    have V:=b6 a R
    have:a.cells=1:=by cases a<;>first|rfl|(simp[ag.agg]at q)
    rw[this]at V
    match O,V with
    |[v],_=>
     refine⟨v::us,⟨(bA q).2 R,U⟩,fun _ _ _=>trivial,fun L=>?_⟩
     rw[List.all_cons,Bool.and_eq_true]at L
     rw[e,Z L.2]
     rfl
  ·cases o
 |.int _,_,_,_,o,_=>by cases o
 |.bool,_,_,_,o,_=>by cases o
 |.str,_,_,_,o,_=>by cases o
 |.ab _,_,_,_,o,_=>by cases o
 |.ptr _,_,_,_,o,_=>by cases o
 |.fn _ _,_,_,_,o,_=>by cases o
 |.err,_,_,_,o,_=>by cases o
 |.ck,_,_,_,o,_=>by cases o
theorem Ri{E:Env}(lr:cx.P=E.P)(h:an cx m st T w){flat:Bool}{t:TypeId}{x:Operand}{v:ak}(o:zG E st flat t x=some v):
  bc w (fun b=>flat=false/\ar cx m st.ids b) (Act.eval ⟨T,ah.D cx⟩ x) v.t v.x:=by
 have O:∀b,b<w.heap.size->¬ar cx m st.ids b->w.heap[b]? =w.heap[b]? :=fun _ _ _=>rfl
 have R:∀b,b<w.heap.size->(flat=false/\ar cx m st.ids b)->ar cx m st.ids b:=fun _ _ h=>h.2
 have lb:∀b,b<w.heap.size->¬False->w.heap[b]? =w.heap[b]? :=fun _ _ _=>rfl
 have lc:∀b,b<w.heap.size->(true=false/\ar cx m st.ids b)->False:=fun _ _ h=>by cases h.1
 unfold zG at o
 split at o
 ·split at o
  ·rename_i e u le
   cases o
   refine(bA (t:=.ab u) rfl).2 ⟨none,0,[],rfl,Nat.le_refl _,by decide,fun _=>rfl,rfl,fun j v W=>by simp at W⟩
  ·cases o
 ·split at o
  ·rename_i Y y q
   cases o
   have:=a8 h q
   exact cT O R this
  ·rename_i Y y q
   cases o
   have:=eN O R (a8 h q)
   obtain⟨a,cells,e,r⟩:=this
   rw[e]
   exact(bA (t:=.ptr Y) rfl).2 ⟨a,cells,rfl,r⟩
  ·rename_i r q
   split at o
   ·rename_i c U
    cases o
    have V:Act.eval ⟨T,ah.D cx⟩ x=m r:=a8 h q
    rw[V]
    refine(bA (t:=.ab c.t) rfl).2 (h.qK (aW U) (fun b _ L=>L.2) fun g _ L=>?_)
    simp at L
   ·cases o
  ·rename_i b q
   split at o
   ·rename_i k v' ps U
    cases o
    have V:Act.eval ⟨T,ah.D cx⟩ x=m b:=a8 h q
    obtain⟨g,Z,_,es,lf,lg,lh,li,lj⟩:=h.box (aW U)
    rw[V,Z]
    refine(bA (t:=.map k v') rfl).2 ⟨g,es,lf,rfl,lg,(fun L:true=false/\ar cx m st.ids g=>by cases L.1),lh,li,ge (fun _ _ h=>cT O R h) (fun _ _ h=>cT O R h) lj⟩
   ·cases o
  ·rename_i b off q
   split at o
   ·rename_i e le
    split at o
    ·rename_i u ls
     exact cT lb lc (GJ h o (a8 h q))
    ·cases o
   ·cases o
  ·rename_i b p q
   split at o
   ·rename_i Y y e L
    split at o
    ·rename_i r aa lk
     cases o
     obtain⟨g,ll,lm⟩:=a8 h q
     obtain⟨ld,Z,_,cells,ln,lo⟩:=h.box (aW L)
     have:ld=g:=by rw[ll]at Z;cases Z;rfl
     subst this
     obtain⟨lt,c2,c3,lp,la,lq⟩:=sG p Y lo lk trivial
     rw[lm]
     refine(bA (t:=.ptr r.t) rfl).2 ⟨⟨ld,fp p,none⟩,c2,rfl,cq O R r.t lq,fun j v W=>⟨?_,fun L=>by cases L.1⟩⟩
     have lu:=(List.getElem?_eq_some_iff.1 W).1
     rw[fR,mz ln,<-Array.getElem?_toList,lp,List.append_assoc,List.getElem?_append_right (by omega),List.getElem?_append_left (by omega),<-W]
     congr 1
     omega
    ·cases o
   ·cases o
  ·rename_i f bs q
   split at o
   ·rename_i F lv
    split at o
    ·rename_i l la
     cases o
     have V:Act.eval ⟨T,ah.D cx⟩ x=.func (.func f) #[] (bs.map m).toArray:=a8 h q
     rw[V]
     refine(bA (t:=.fn f (pairUp l).t) rfl).2 ⟨bs.map m,rfl,?_⟩
     exact cq lb lc _ (pf (Ip la) (Bc h (fun b _ c e U=>p8 h U) la))
    ·cases o
   ·cases o
  ·cases o
theorem HJ{E:Env}(q:cx.P=E.P)(h:an cx m st T w){flat:Bool}:∀{L:List TypeId} {xs:List Operand} {vs:List ak},pB E st flat L xs=some vs->
  dB w (fun b=>flat=false/\ar cx m st.ids b) (xs.map (Act.eval ⟨T,ah.D cx⟩)) vs
 |[],[],_,o=>by cases o;trivial
 |[],_::_,_,o=>by cases o
 |_::_,[],_,o=>by cases o
 |t::L,x::xs,vs,o=>by
  unfold pB at o
  split at o
  ·rename_i v U O R
   cases o
   exact⟨Ri q h O,HJ q h R⟩
  ·cases o
theorem EX{M:Nat->Prop}:∀{a b:List Value} {l r:List ak},dB w M a l->dB w M b r->dB w M (a++b) (l++r)
 |[],_,[],_,_,h=>h
 |[],_,_::_,_,h,_=>h.elim
 |_::_,_,[],_,h,_=>h.elim
 |_::_,_,_::_,_,⟨o,q⟩,h=>⟨o,EX q h⟩
theorem LI{E:Env}(h:an cx m st T w){x:Operand}{f:Nat}{F:ip}{l:List ak}(o:pA E st x=some (f,F,l)):
  look E.fns f=some F/\∃bs:List Value,Act.eval ⟨T,ah.D cx⟩ x=.func (.func f) #[] bs.toArray/\∃us,us=bs/\dB w (fun b=>F.flat=false/\ar cx m st.ids b) us l:=by
 have W:∀b,b<w.heap.size->¬ar cx m st.ids b->w.heap[b]? =w.heap[b]? :=fun _ _ _=>rfl
 have Y:∀b,b<w.heap.size->¬False->w.heap[b]? =w.heap[b]? :=fun _ _ _=>rfl
 unfold pA at o
 split at o
 ·rename_i U bs R
  have q:Act.eval ⟨T,ah.D cx⟩ x=.func (.func U) #[] (bs.map m).toArray:=a8 h R
  split at o
  ·rename_i ld L
   split at o
   ·cases o
    exact⟨L,[],q,[],rfl,trivial⟩
   ·split at o
    ·rename_i Z V
     cases o
     refine⟨L,_,q,_,rfl,oK Y (fun b _ O=>?_) (Bc h (fun b _ c e o=>p8 h o) V)⟩
     rw[Z]at O
     cases O.1
    ·cases o
  ·cases o
 ·rename_i U t y R
  split at o
  ·rename_i L V
   split at o
   ·cases o
    have q:bc w (ar cx m st.ids) (Act.eval ⟨T,ah.D cx⟩ x) (.fn f t) y:=a8 h R
    obtain⟨bs,e,la⟩:=(bA (t:=.fn f t) rfl).1 q
    simp only[List.cons.injEq,and_true]at e
    obtain⟨us,lb,_,lc⟩:=HF t ‹o7 t y=some l› la
    refine⟨L,bs,e,us,lc ‹_›,oK W (fun b _ O=>O.2) lb⟩
   ·cases o
  ·cases o
 ·cases o
theorem vq{w w':World}{M M':Nat->Prop}:∀{vs:List Value} {l:List ak},(∀u∈l,u.t.flat=true)->dB w M vs l->dB w' M' vs l
 |[],[],_,_=>trivial
 |[],_::_,_,h=>h.elim
 |_::_,[],_,h=>h.elim
 |_::_,u::_,o,⟨q,L⟩=>⟨ug (o u List.mem_cons_self) q,vq (fun x O=>o x (List.mem_cons_of_mem _ O)) L⟩
theorem Kc{M:Nat->Prop}{v:Value}:∀{l:List ak},iT w M v l->aN w M m v (pF l)
 |[],_=>trivial
 |[_],h=>h
 |_::_::_,h=>h
theorem Kr{w w':World}{M M':Nat->Prop}{v:Value}:∀{l:List ak},(∀u∈l,u.t.flat=true)->iT w M v l->iT w' M' v l
 |[],_,_=>trivial
 |[u],o,h=>ug (o u List.mem_cons_self) h
 |_::_::_,o,⟨vs,e,h⟩=>⟨vs,e,vq o h⟩
theorem qV{c:Call}{aa:Oper}{f:Nat}{x:Operand}{bs:List Value}(q:aa.op=.call c)(o:c.callee=.value x)(L:Act.eval ⟨T,ah.D cx⟩ x=.func (.func f) #[] bs.toArray)
  (O:∀args w,(callFunc f args).run cx.P w=.ok (.enter f args) w)(w:World):
  (execOp (Act.eval ⟨T,ah.D cx⟩) aa).run cx.P w=.ok (.enter f (c.args.toList.map (Act.eval ⟨T,ah.D cx⟩)++bs).toArray) w:=by
 obtain⟨U,args,V⟩:=c
 simp only at o
 subst o
 have R:#[]++args.map (Act.eval ⟨T,ah.D cx⟩)++bs.toArray=(args.toList.map (Act.eval ⟨T,ah.D cx⟩)++bs).toArray:=by
  apply Array.ext'
  simp
 simp only[execOp,q,resolve,L,Deferred.ofValue,Sem.run_bind,Sem.run_pure,Result.andThen_ok,invoke]
 rw[R]
 simp[O]
theorem o2{E:Env}(q:br E cx)(h:an cx m st T w){aa:Oper}{c:Call}(W:aa.op=.call c){orc:List ak}{r:di}(o:kh E st c orc=some r)(U:bJ r.ob):
  ∃f args,(∀w,(execOp (Act.eval ⟨T,ah.D cx⟩) aa).run cx.P w=.ok (.enter f args) w)/\
   Calls cx.P f args w fun e w'=>∃v,e=.returned v/\Ext w w'/\aN w' (ar cx m st.ids) m v r.aM:=by
 unfold kh at o
 split at o
 ·rename_i x Y
  split at o
  ·rename_i f F l Z
   split at o
   ·rename_i li la
    cases L:Nat.ble F.gf orc.length with
    |false=>rw[L]at o;cases o
    |true=>
     rw[L]at o
     cases o
     obtain⟨lb,bs,lc,us,e,ld⟩:=LI h Z
     subst e
     have O:=q.fns f F (aW lb)
     rw[<-q.P]at O
     have le:=EX (HJ q.P h la) ld
     have lf:=O.calls w (fun b=>F.flat=false/\ar cx m st.ids b) _ _ _ (q.oO w h.frame) (fun b L=>h.xE L.2) U.1 le
     refine⟨f,_,qV W Y lc O.enters,lf.mono ?_⟩
     rintro e w' ⟨v,lg,R,lh⟩
     refine⟨v,lg,lh,Kc ?_⟩
     cases V:F.flat with
     |true=>exact Kr ((O.shape _ _ U.1).2 V) R
     |false=>
      rw[V]at R
      have:(fun b=>false=false/\ar cx m st.ids b)=ar cx m st.ids:=by funext b;simp
      rw[this]at R
      exact R
   ·cases o
  ·cases o
 ·cases o
def Ft(st:af)(x:Operand):af:=
 match aO st x with
 |some (.row r)=>match look st.rw r with
  |some c=>st.freeze r c
  |none=>st
 |some (.iter b)=>match look st.ad b with
  |some (.mp k v ps)=>st.eT b k v ps
  |_=>st
 |_=>st
def gm:af->List Operand->af
 |st,[]=>st
 |st,x::xs=>gm (Ft st x) xs
def gr(E:Env):Op->List Operand
 |.range _ x=>[x]
 |.slice _ x (some _) _ none=>[x]
 |.build _ ps=>ps.toList.map (·.2)
 |.buildSlice _ _ ps=>ps.toList.map (·.2)
 |.call c=>match c.callee with
  |.value (.func f)=>match look E.fns f with
   |some F=>bif F.flat then[]else c.args.toList
   |none=>c.args.toList
  |_=>[]
 |_=>[]
theorem oS:∀{l:List Operand} {st:af},an cx m st T w->an cx m (gm st l) T w
 |[],_,h=>h
 |x::xs,st,h=>by
  refine oS (l:=xs) ?_
  unfold Ft
  split
  ·split
   ·rename_i c o;exact h.freeze (aW o)
   ·exact h
  ·split
   ·rename_i k v ps o;exact h.eT (aW o)
   ·exact h
  ·exact h
def kT(E:Env)(o:af)(aa:Oper)(orc:List ak):Option (af×List ak×List Prop):=
 match aa.dst with
 |none=>match aa.op with
  |.store t x y=>qC E.P o t x y orc
  |.mapUpdate t x k v=>match pV E.P (gm o [v]) t x k v with
   |some q=>some (q,orc,[])
   |none=>none
  |.call c=>match kh E (gm o (gr E aa.op)) c orc with
   |some r=>some (gm o (gr E aa.op),r.orc,r.ob)
   |none=>none
  |_=>none
 |some d=>match Nat.blt d E.n with
  |true=>match db E.P (gm o (gr E aa.op)) aa.op orc with
   |some r=>some ((gm o (gr E aa.op)).put d r.aM,r.orc,r.ob)
   |none=>match aa.op with
    |.load t x=>match pW E.P o t x orc with
     |some r=>some (o.put d r.aM,r.orc,r.ob)
     |none=>none
    |.call c=>match kh E (gm o (gr E aa.op)) c orc with
     |some r=>some ((gm o (gr E aa.op)).put d r.aM,r.orc,r.ob)
     |none=>match jA E.P o aa d orc with
      |some r=>some (r.st.put d r.aM,r.orc,r.ob)
      |none=>none
    |_=>match jA E.P (gm o (gr E aa.op)) aa d orc with
     |some r=>some (r.st.put d r.aM,r.orc,r.ob)
     |none=>none
  |false=>none
theorem fQ{aa:Oper}{v:Value}{K:Act->World->Prop}{Q:Exit->Act->World->Prop}(o:(execOp (Act.eval ⟨T,ah.D cx⟩) aa).run cx.P w=.ok (.value v) w')(q:K (Act.put ⟨T,ah.D cx⟩ aa.dst v) w'):
  aa.wp cx.P ⟨T,ah.D cx⟩ w K Q:=by
 unfold Oper.wp
 rw[o]
 exact q
theorem oH{E:Env}(O:br E cx)(h:al cx st T w){aa:Oper}{orc:List ak}{st':af}{orc':List ak}{ob:List Prop}(o:kT E st aa orc=some (st',orc',ob))(R:bJ ob)
  {K:Act->World->Prop}{Q:Exit->Act->World->Prop}(Y:∀ll w',al cx st' ll w'->K ⟨ll,ah.D cx⟩ w'):aa.wp cx.P ⟨T,ah.D cx⟩ w K Q:=by
 obtain⟨m,U⟩:=h
 unfold kT at o
 split at o
 ·rename_i aj
  split at o
  ·rename_i t x y q
   rw[<-O.P]at o
   obtain⟨w',V,le⟩:=SU U o R
   unfold Oper.wp
   have Z:(execOp (Act.eval ⟨T,ah.D cx⟩) aa).run cx.P w=.ok .skip w':=by
    simp only[execOp,q,Sem.run_bind,V,Result.andThen_ok,Sem.run_pure]
   rw[Z]
   show K (Act.put ⟨T,ah.D cx⟩ aa.dst undef) w'
   rw[aj]
   exact Y T w' ⟨m,le⟩
  ·rename_i t x k v q
   split at o
   ·rename_i ls lm
    cases o
    have L:=oS (l:=[v]) U
    rw[<-O.P]at lm
    obtain⟨w',V,le⟩:=MM L lm
    unfold Oper.wp
    have Z:(execOp (Act.eval ⟨T,ah.D cx⟩) aa).run cx.P w=.ok .skip w':=by
     simp only[execOp,q,Sem.run_bind,V,Result.andThen_ok,Sem.run_pure]
    rw[Z]
    show K (Act.put ⟨T,ah.D cx⟩ aa.dst undef) w'
    rw[aj]
    exact Y T w' ⟨m,le⟩
   ·cases o
  ·rename_i c q
   split at o
   ·rename_i r la
    cases o
    have L:=oS (l:=gr E aa.op) U
    obtain⟨f,args,V,lf⟩:=o2 O L q la R
    unfold Oper.wp
    rw[V w]
    refine lf.mono ?_
    rintro e w' ⟨v,rfl,lg,_⟩
    show K (Act.put ⟨T,ah.D cx⟩ aa.dst v) w'
    rw[aj]
    exact Y T w' ⟨m,L.ext lg⟩
   ·cases o
  ·cases o
 ·rename_i d aj
  split at o
  ·rename_i lp
   have lc:d<cx.n:=by rw[O.n];exact cw lp
   have L:=oS (l:=gr E aa.op) U
   have fin:∀(v:Value) (w':World) (aA:Nat->Value) (ld:af) (aM:ao),(execOp (Act.eval ⟨T,ah.D cx⟩) aa).run cx.P w=.ok (.value v) w'->an cx aA ld T w'->aN w' (ar cx aA ld.ids) aA v aM->ld.put d aM=st'->aa.wp cx.P ⟨T,ah.D cx⟩ w K Q:=by
    intro v w' aA ld aM Z lh W e
    refine fQ Z ?_
    rw[aj]
    exact Y _ _ ⟨aA,e▸lh.put lc W⟩
   have lq:∀(c:Call) (r:di),aa.op=.call c->kh E (gm st (gr E aa.op)) c orc=some r->bJ r.ob->(gm st (gr E aa.op)).put d r.aM=st'->aa.wp cx.P ⟨T,ah.D cx⟩ w K Q:=by
    intro c r q la R e
    obtain⟨f,args,V,lf⟩:=o2 O L q la R
    unfold Oper.wp
    rw[V w]
    refine lf.mono ?_
    rintro lt w' ⟨v,rfl,lg,W⟩
    show K (Act.put ⟨T,ah.D cx⟩ aa.dst v) w'
    rw[aj]
    exact Y _ _ ⟨m,e▸(L.ext lg).put lc W⟩
   split at o
   ·rename_i r ln
    cases o
    rw[<-O.P]at ln
    obtain⟨v,lr,W⟩:=yE L ln R
    exact fin v w m _ _ (lr w (Ext.refl w)) L W rfl
   ·split at o
    ·rename_i t x q
     split at o
     ·rename_i r lo
      cases o
      rw[<-O.P]at lo
      obtain⟨v,lh,W⟩:=vR U lo R
      exact fin v w m _ _ (ca (by simp only[execOp,q]) (lh w (Ext.refl w))) U W rfl
     ·cases o
    ·rename_i c q
     split at o
     ·rename_i r la
      cases o
      exact lq c r q la R rfl
     ·split at o
      ·rename_i r lb
       cases o
       rw[<-O.P]at lb
       obtain⟨v,w',aA,li,lj,lk⟩:=Ec U lc lb R
       exact fin v w' aA _ _ li lj lk rfl
      ·cases o
    ·split at o
     ·rename_i r lb
      cases o
      rw[<-O.P]at lb
      obtain⟨v,w',aA,li,lj,lk⟩:=Ec L lc lb R
      exact fin v w' aA _ _ li lj lk rfl
     ·cases o
  ·cases o
def zw(E:Env)(st:af)(aa:Oper)(orc:List ak):Option (af×List ak×List Prop):=
 match aa.op,orc with
 |.slice _ x none (some _) none,⟨.unit,_⟩::orc'=>kT E (gm st [x]) aa orc'
 |_,_=>kT E st aa orc
theorem JU{E:Env}(q:br E cx)(h:al cx st T w){aa:Oper}{orc:List ak}{st':af}{orc':List ak}{ob:List Prop}(o:zw E st aa orc=some (st',orc',ob))(L:bJ ob)
  {K:Act->World->Prop}{Q:Exit->Act->World->Prop}(O:∀R w',al cx st' R w'->K ⟨R,ah.D cx⟩ w'):aa.wp cx.P ⟨T,ah.D cx⟩ w K Q:=by
 unfold zw at o
 split at o
 ·obtain⟨m,U⟩:=h
  exact oH q ⟨m,oS U⟩ o L O
 ·exact oH q h o L O
end Go.Ev
namespace Go.Ev
open Go Go.RowKit
variable [bV]
variable {cx:bx} {m:Nat->Value} {st st':af} {T:Array Value} {w w':World}
variable [ah cx]
theorem tp{M:Nat->Prop}{k:dW}:∀{xs:List (Option k.el)} {us o:List Value} {i:Nat} {x:k.el},fV w M k xs us o->xs[i]? =some (some x)->∃u,us[i]? =some u/\o[i]? =some u/\ji w M u k x
 |[],[],[],i,x,_,h=>by simp at h
 |none::xs,_::us,_::o,0,x,_,h=>by simp at h
 |some y::xs,u::us,R::o,0,x,⟨L,O,_⟩,h=>by
  simp at h
  subst h
  exact⟨u,rfl,by rw[L];rfl,O⟩
 |none::xs,_::us,_::o,i+1,x,⟨_,h⟩,q=>by
  obtain⟨u,a,b,c⟩:=tp (i:=i) h (by simpa using q)
  exact⟨u,by simpa using a,by simpa using b,c⟩
 |some y::xs,_::us,_::o,i+1,x,⟨_,_,h⟩,q=>by
  obtain⟨u,a,b,c⟩:=tp (i:=i) h (by simpa using q)
  exact⟨u,by simpa using a,by simpa using b,c⟩
theorem rz{M M':Nat->Prop}{k:dW}(O:∀b,b<w.heap.size->¬M b->w'.heap[b]? =w.heap[b]?)(R:∀b,b<w.heap.size->M' b->M b){x':k.el}{Y:Value}(V:ji w' M' Y k x'):
  ∀{xs:List (Option k.el)} {us L:List Value} {i:Nat},(∀j v,j≠i->L[j]? =some v->∀b,aP v=some b->w'.heap[b]? =w.heap[b]?)->fV w M k xs us L->fV w' M' k (xs.set i (some x')) (us.set i Y) (L.set i Y)
 |[],[],[],_,_,_=>trivial
 |none::xs,_::us,_::L,0,q,⟨_,h⟩=>⟨rfl,V,nh O R (fun u Z b o=>by
   obtain⟨j,U⟩:=List.getElem?_of_mem Z
   exact q (j+1) u (by omega) (by simpa using U) b o) h⟩
 |some y::xs,_::us,_::L,0,q,⟨_,_,h⟩=>⟨rfl,V,nh O R (fun u Z b o=>by
   obtain⟨j,U⟩:=List.getElem?_of_mem Z
   exact q (j+1) u (by omega) (by simpa using U) b o) h⟩
 |none::xs,_::us,_::L,i+1,q,⟨W,h⟩=>⟨W,rz O R V (fun j v U la b o=>q (j+1) v (by omega) (by simpa using la) b o) h⟩
 |some y::xs,u::us,lb::L,i+1,q,⟨W,lc,h⟩=>⟨W,Fp O R (fun b o=>q 0 lb (by omega) rfl b (by rw[W];exact o)) lc,rz O R V (fun j v U la b o=>q (j+1) v (by omega) (by simpa using la) b o) h⟩
theorem wi{M:Nat->Prop}{k:dW}:∀{xs:List (Option k.el)} {us o:List Value} {i:Nat},fV w M k xs us o->fV w M k (xs.set i none) us (o.set i undef)
 |[],[],[],_,_=>trivial
 |none::xs,_::us,_::o,0,⟨_,h⟩=>⟨rfl,h⟩
 |some y::xs,_::us,_::o,0,⟨_,_,h⟩=>⟨rfl,h⟩
 |none::xs,_::us,_::o,i+1,⟨q,h⟩=>⟨q,wi h⟩
 |some y::xs,u::us,O::o,i+1,⟨q,L,h⟩=>⟨q,L,wi h⟩
theorem mT{us:List Value}{b:Nat}:b∈us.filterMap aP↔∃(j:Nat) (v:Value),us[j]? =some v/\aP v=some b:=by
 rw[List.mem_filterMap]
 constructor
 ·rintro⟨v,q,h⟩
  obtain⟨j,o⟩:=List.getElem?_of_mem q
  exact⟨j,v,o,h⟩
 ·rintro⟨j,v,o,h⟩
  exact⟨v,List.mem_of_getElem? o,h⟩
theorem ut:∀{us:List Value} {i j:Nat} {u v:Value} {b:Nat},(us.filterMap aP).Nodup->us[i]? =some u->us[j]? =some v->i≠j->aP u=some b->aP v≠some b
 |[],i,j,u,v,b,_,h,_,_,_=>by simp at h
 |x::us,0,0,u,v,b,_,_,_,R,_=>absurd rfl R
 |x::us,0,j+1,u,v,b,o,q,L,_,O=>by
  simp at q
  subst q
  rw[List.filterMap_cons,O,List.nodup_cons]at o
  intro U
  exact o.1 (mT.2 ⟨j,v,by simpa using L,U⟩)
 |x::us,i+1,0,u,v,b,o,q,L,_,O=>by
  simp at L
  subst L
  intro U
  rw[List.filterMap_cons,U,List.nodup_cons]at o
  exact o.1 (mT.2 ⟨i,u,by simpa using q,O⟩)
 |x::us,i+1,j+1,u,v,b,o,q,L,R,O=>by
  have V:(us.filterMap aP).Nodup:=by
   rw[List.filterMap_cons]at o
   split at o
   ·exact o
   ·exact(List.nodup_cons.1 o).2
  exact ut V (by simpa using q) (by simpa using L) (fun e=>R (by rw[e])) O
theorem tt:∀{us:List Value} {i:Nat} {u:Value},(us.filterMap aP).Nodup->(∀b,aP u=some b->∀j v,j≠i->us[j]? =some v->aP v≠some b)->((us.set i u).filterMap aP).Nodup
 |[],_,_,h,_=>h
 |x::us,0,u,o,O=>by
  have R:(us.filterMap aP).Nodup:=by
   rw[List.filterMap_cons]at o
   split at o
   ·exact o
   ·exact(List.nodup_cons.1 o).2
  rw[List.set_cons_zero,List.filterMap_cons]
  split
  ·exact R
  ·rename_i b q
   refine List.nodup_cons.2 ⟨fun U=>?_,R⟩
   obtain⟨j,v,Y,V⟩:=mT.1 U
   exact O b q (j+1) v (by omega) (by simpa using Y) V
 |x::us,i+1,u,o,O=>by
  have R:(us.filterMap aP).Nodup:=by
   rw[List.filterMap_cons]at o
   split at o
   ·exact o
   ·exact(List.nodup_cons.1 o).2
  have W:=tt (i:=i) (u:=u) R (fun b q j v Z L=>O b q (j+1) v (by omega) (by simpa using L))
  rw[List.set_cons_succ,List.filterMap_cons]
  split
  ·exact W
  ·rename_i b q
   refine List.nodup_cons.2 ⟨fun U=>?_,W⟩
   rw[List.mem_filterMap]at U
   obtain⟨v,L,V⟩:=U
   rcases List.mem_or_eq_of_mem_set L with L|rfl
   ·rw[List.filterMap_cons,q,List.nodup_cons]at o
    exact o.1 (List.mem_filterMap.2 ⟨v,L,V⟩)
   ·exact O b V 0 x (by omega) rfl q
theorem an.aX(h:an cx m st T w){b e:Nat}{k:dW}{xs:List (Option k.el)}(V:look st.ad b=some (.aX e k xs)):
  ∃g cap us o cur,m b=.tuple (.slice (some ⟨g,0,none⟩) xs.length cap::o).toArray/\(∀L,own (m b) L->cx.w0.heap.size<=L\/cx.X L)/\w.ownsRow 0 e 1 (.slice (some ⟨g,0,none⟩) xs.length cap) xs.length us/\
   w.heap[g]? =some (.cells cur e (0,0))/\xs.length<=cap/\cap<=maxLen/\cur.size=cap/\cur.toList.take xs.length=us/\fV w (ar cx m st.ids) k xs us o/\(g::o.filterMap aP).Nodup:=by
 obtain⟨g,_,W,n,cap,us,o,Y,O,Z,la⟩:=h.boxes b _ (aW V)
 rcases O.2 with ⟨q,_⟩|⟨L,le,cur,q,_,lb,lc,ld,R,U⟩
 ·cases q
 ·have lf:=q
  simp only[Value.slice.injEq,Option.some.injEq,Addr.mk.injEq,and_true]at q
  obtain⟨rfl,rfl,rfl⟩:=q
  rw[Nat.mul_one]at R U
  exact⟨g,cap,us,o,cur,Y,W,O,lb,lc,ld,R,U,Z,la⟩
def ao.pM(b:Nat):ao->ao
 |.osl c=>.osl c
 |.ff c i=>.ff c i
 |s=>bif s.refs b then .any else s
theorem Kz{M:Nat->Prop}{b:Nat}{r v2:Value}{us O:List Value}(U:m b=.tuple (r::us).toArray)(V:v2=.tuple (r::O).toArray){v:Value}{s:ao}(h:aN w M m v s):aN w M (bt m b v2) v (s.pM b):=by
 have o:∀s:ao,aN w M m v s->aN w M (bt m b v2) v (bif s.refs b then .any else s):=by
  intro s W
  cases Y:s.refs b with
  |true=>trivial
  |false=>exact sD Y W
 cases s with
 |osl c=>
  by_cases e:c=b
  ·subst e
   obtain⟨L,q⟩:=h
   refine⟨O,?_⟩
   rw[b7,V]
   rw[U]at q
   simp only[Value.tuple.injEq,Array.mk.injEq,List.cons.injEq]at q
   rw[q.1]
  ·obtain⟨L,q⟩:=h
   exact⟨L,by rw[cF _ _ e];exact q⟩
 |ff c i=>
  by_cases e:c=b
  ·subst e
   obtain⟨g,n,cap,L,q,R⟩:=h
   refine⟨g,n,cap,O,?_,R⟩
   rw[b7,V]
   rw[U]at q
   simp only[Value.tuple.injEq,Array.mk.injEq,List.cons.injEq]at q
   rw[q.1]
  ·obtain⟨g,n,cap,L,q,R⟩:=h
   exact⟨g,n,cap,L,by rw[cF _ _ e];exact q,R⟩
 |any=>exact o _ h
 |undef=>exact o _ h
 |val t x=>exact o _ h
 |dq l=>exact o _ h
 |fr l=>exact o _ h
 |ptr a aa=>exact o _ h
 |eI a=>exact o _ h
 |vptr t x=>exact o _ h
 |row r=>exact o _ h
 |dA r i aa z=>exact o _ h
 |clos f bs=>exact o _ h
 |iter a=>exact o _ h
 |dm a p=>exact o _ h
 |sub a i=>exact o _ h
 |bW f b=>exact o _ h
 |dy b i aa s=>exact o _ h
 |eH b i j aa s=>exact o _ h
 |aj n=>exact o _ h
 |ep l=>exact o _ h
def af.fJ(st:af)(b c:Nat)(c2:bM):af:=
 {ab:=st.ab.map fun p=>(p.1,p.2.pM b),ad:=(b,c2)::((del (del st.ad b) c).map fun p=>(p.1,p.2.map (ao.pM b))),rw:=st.rw}
theorem an.fJ(h:an cx m st T w){b c:Nat}{lG lH c2:bM}(lz:(b,lG)∈st.ad)(lA:(c,lH)∈st.ad)(lT:b<cx.n){r v2:Value}{us lI:List Value}(lJ:m b=.tuple (r::us).toArray)(lK:v2=.tuple (r::lI).toArray){g:Nat}(lj:Touch m w b w')
  (lq:∀o,own v2 o->own (m b) o\/own (m c) o)(lL:gO v2 g c2)(lM:gd w' (ar cx (bt m b v2) (st.fJ b c c2).ids) (bt m b v2) v2 g c2):an cx (bt m b v2) (st.fJ b c c2) T w':=by
 have Y:b∈st.ids:=List.mem_append.2 (.inl (List.mem_map.2 ⟨_,lz,rfl⟩))
 have lr:c∈st.ids:=List.mem_append.2 (.inl (List.mem_map.2 ⟨_,lA,rfl⟩))
 have lk:∀c',(b,c')∉st.rw:=fun c' q=>(List.nodup_append.1 h.keys).2.2 b (List.mem_map.2 ⟨_,lz,rfl⟩) b (List.mem_map.2 ⟨_,q,rfl⟩) rfl
 have lN:∀c',(c,c')∉st.rw:=fun c' q=>(List.nodup_append.1 h.keys).2.2 c (List.mem_map.2 ⟨_,lA,rfl⟩) c (List.mem_map.2 ⟨_,q,rfl⟩) rfl
 have ls:∀i,i∈(st.fJ b c c2).ids->i∈st.ids/\(i=b\/(i≠b/\i≠c)):=by
  intro i U
  rcases List.mem_append.1 U with U|U
  ·obtain⟨⟨j,s⟩,R,rfl⟩:=List.mem_map.1 U
   rcases List.mem_cons.1 R with R|R
   ·cases R;exact⟨Y,.inl rfl⟩
   ·obtain⟨⟨ld,ll⟩,lh,la⟩:=List.mem_map.1 R
    cases la
    obtain⟨lb,lm⟩:=cE.1 lh
    obtain⟨le,lf⟩:=cE.1 lb
    exact⟨List.mem_append.2 (.inl (List.mem_map.2 ⟨_,le,rfl⟩)),.inr ⟨lf,lm⟩⟩
  ·obtain⟨⟨j,s⟩,R,rfl⟩:=List.mem_map.1 U
   exact⟨List.mem_append.2 (.inr (List.mem_map.2 ⟨_,R,rfl⟩)),.inr ⟨fun e=>lk s (by rw[<-e];exact R),fun e=>lN s (by rw[<-e];exact R)⟩⟩
 have W:∀{i:Nat},i≠b->bt m b v2 i=m i:=fun ln=>cF _ _ ln
 have lt:∀o,o<w.heap.size->¬ar cx m st.ids o->w'.heap[o]? =w.heap[o]? :=fun o V lO=>lj.block o V fun e=>lO (.inr ⟨b,Y,e⟩)
 have lu:∀o,o<w.heap.size->ar cx (bt m b v2) (st.fJ b c c2).ids o->ar cx m st.ids o:=by
  rintro o _ (lP|⟨i,U,O⟩)
  ·exact .inl lP
  ·obtain⟨lb,lm⟩:=ls i U
   by_cases e:i=b
   ·subst e
    rw[b7]at O
    rcases lq o O with q|q
    ·exact .inr ⟨i,Y,q⟩
    ·exact .inr ⟨c,lr,q⟩
   ·rw[W e]at O
    exact .inr ⟨i,lb,O⟩
 have lB:∀v s,aN w (ar cx m st.ids) m v s->aN w' (ar cx (bt m b v2) (st.fJ b c c2).ids) (bt m b v2) v (s.pM b):=fun v s lg=>Kz lJ lK (eN lt lu lg)
 refine{size:=h.size,frame:=h.B6 Y lj,outer:=h.outer,cv:=fun i aM U=>?_,boxes:=fun j c' L=>?_,rows:=fun j c' L=>?_,apart:=fun i j U L ln o O V=>?_,keys:=?_,fixed:=fun j c' L lQ lv=>?_,kept:=fun j c' L lv lw=>?_}
 rotate_right
 ·rw[W (fun e=>lk c' (by rw[<-e];exact L))]
  exact h.kept j c' L lv lw
 ·obtain⟨⟨j,s⟩,R,la⟩:=List.mem_map.1 U
  cases la
  obtain⟨v,lo,a2⟩:=h.cv j s R
  exact⟨v,lo,lB v s a2⟩
 ·rcases List.mem_cons.1 L with L|L
  ·cases L
   rw[b7]
   refine⟨g,lL,fun o V=>?_,lM⟩
   rcases lq o V with q|q
   ·exact(h.lt Y q).2
   ·exact(h.lt lr q).2
  ·obtain⟨⟨ld,ll⟩,lh,la⟩:=List.mem_map.1 L
   cases la
   obtain⟨lb,lm⟩:=cE.1 lh
   obtain⟨le,lf⟩:=cE.1 lb
   obtain⟨o,li,lx,ly⟩:=h.boxes ld ll le
   rw[W lf]
   have Z:ld∈st.ids:=List.mem_append.2 (.inl (List.mem_map.2 ⟨_,le,rfl⟩))
   exact⟨o,iF.2 li,lx,ii lt lu (gg li) (fun lC lD=>lj.block lC (h.lt Z lD).1 fun e=>h.apart b ld Y Z (fun e=>lf e.symm) lC e lD) lB ly⟩
 ·obtain⟨cells,li,lx,ly⟩:=h.rows j c' L
  have lp:j≠b:=fun e=>lk c' (by rw[<-e];exact L)
  have Z:j∈st.ids:=List.mem_append.2 (.inr (List.mem_map.2 ⟨_,L,rfl⟩))
  rw[W lp]
  refine⟨cells,⟨li.1,?_⟩,lx,cP (fun _ _=>cq lt lu c'.t) ly⟩
  rcases li.2 with q|⟨o,cap,cur,lg,lR,q,rest⟩
  ·exact .inl q
  ·have O:own (m j) o:=by rw[lg];exact fO rfl
   exact .inr ⟨o,cap,cur,lg,lR,by rw[lj.block o (h.lt Z O).1 fun e=>h.apart b j Y Z (fun e=>lp e.symm) o e O];exact q,rest⟩
 ·obtain⟨lo,a2⟩:=ls i U
  obtain⟨lE,lc⟩:=ls j L
  have key:∀{j:Nat},j∈st.ids->j≠b->j≠c->own v2 o->own (m j) o->False:=by
   intro j Z lp lS lg O
   rcases lq o lg with q|q
   ·exact h.apart b j Y Z (fun e=>lp e.symm) o q O
   ·exact h.apart c j lr Z (fun e=>lS e.symm) o q O
  rcases a2 with rfl|⟨a2,a3⟩
  ·rcases lc with rfl|⟨lc,lF⟩
   ·exact ln rfl
   ·rw[b7]at O
    rw[W lc]at V
    exact key lE lc lF O V
  ·rcases lc with rfl|⟨lc,lF⟩
   ·rw[b7]at V
    rw[W a2]at O
    exact key lo a2 a3 V O
   ·rw[W a2]at O
    rw[W lc]at V
    exact h.apart i j lo lE ln o O V
 ·have lw:(st.fJ b c c2).ids=b::(((del (del st.ad b) c).map (·.1))++st.rw.map (·.1)):=by
   show(b::((del (del st.ad b) c).map fun p=>(p.1,p.2.map (ao.pM b))).map (·.1))++st.rw.map (·.1)=_
   simp[List.map_map,Function.comp_def]
  rw[lw]
  refine List.nodup_cons.2 ⟨fun q=>?_,?_⟩
  ·rcases List.mem_append.1 q with q|q
   ·obtain⟨⟨j,s⟩,R,e⟩:=List.mem_map.1 q
    exact(cE.1 (cE.1 R).1).2 e
   ·obtain⟨⟨j,s⟩,R,e⟩:=List.mem_map.1 q
    exact lk s (by rw[<-e];exact R)
  ·rw[jR,jR]
   exact h.keys.sublist (List.Sublist.append (List.filter_sublist.trans List.filter_sublist) (List.Sublist.refl _))
 ·rcases List.mem_cons.1 L with L|L
  ·cases L;omega
  ·obtain⟨⟨ld,ll⟩,lh,la⟩:=List.mem_map.1 L
   cases la
   obtain⟨lb,lm⟩:=cE.1 lh
   obtain⟨le,lf⟩:=cE.1 lb
   rw[W lf]
   exact h.fixed ld ll le (jp.symm.trans lQ) lv
def ao.og(r:Nat):ao->ao
 |.row b=>bif Nat.beq b r then .osl r else .row b
 |s=>bif s.refs r then .any else s
def af.iQ(st:af)(r:Nat)(c2:bM):af:=
 {ab:=st.ab.map fun p=>(p.1,p.2.og r),ad:=(r,c2)::(st.ad.map fun p=>(p.1,p.2.map (ao.og r))),rw:=del st.rw r}
theorem T0{M:Nat->Prop}{b:Nat}{v2:Value}{L:List Value}(O:v2=.tuple (m b::L).toArray){v:Value}{s:ao}(h:aN w M m v s):aN w M (bt m b v2) v (s.og b):=by
 have o:∀s:ao,aN w M m v s->aN w M (bt m b v2) v (bif s.refs b then .any else s):=by
  intro s R
  cases q:s.refs b with
  |true=>trivial
  |false=>exact sD q R
 cases s with
 |row r=>
  show aN _ _ _ _ (bif Nat.beq r b then .osl b else .row r)
  cases q:Nat.beq r b with
  |true=>
   have e:=Nat.eq_of_beq_eq_true q
   subst e
   have U:v=m r:=h
   exact⟨L,by rw[b7,O,U]⟩
  |false=>exact sD q h
 |osl c=>exact o _ h
 |ff c i=>exact o _ h
 |any=>exact o _ h
 |undef=>exact o _ h
 |val t x=>exact o _ h
 |dq l=>exact o _ h
 |fr l=>exact o _ h
 |ptr a aa=>exact o _ h
 |eI a=>exact o _ h
 |vptr t x=>exact o _ h
 |dA r i aa z=>exact o _ h
 |clos f bs=>exact o _ h
 |iter a=>exact o _ h
 |dm a p=>exact o _ h
 |sub a i=>exact o _ h
 |bW f b=>exact o _ h
 |dy b i aa s=>exact o _ h
 |eH b i j aa s=>exact o _ h
 |aj n=>exact o _ h
 |ep l=>exact o _ h
theorem Ge{M:Nat->Prop}{k v:ag}:∀{n:Nat} {cells:List Value},bL (aK w M (.map k v)) cells (List.replicate n none)->cells=List.replicate n (.map none)
 |0,_,h=>h
 |n+1,_,⟨q,c2,e,o,L⟩=>by
  have o:q=[Value.map none]:=o
  rw[e,o,Ge L]
  rfl
theorem Fm{M:Nat->Prop}{k v:ag}:∀(n:Nat),fV w M (.mp k v) ((List.replicate n none).map some) (List.replicate n (.map none)) (List.replicate n (.map none))
 |0=>trivial
 |n+1=>⟨rfl,rfl,Fm n⟩
theorem an.iQ(h:an cx m st T w){r e n:Nat}{k v:ag}(lg:(r,(⟨e,.map k v,List.replicate n none⟩:cp))∈st.rw)(lK:0<n)(lL:r<cx.n):∃aA,an cx aA (st.iQ r (.aX e (.mp k v) ((List.replicate n none).map some))) T w:=by
 obtain⟨cells,lc,lz,lA⟩:=h.rows r _ lg
 have lB:r∈st.ids:=List.mem_append.2 (.inr (List.mem_map.2 ⟨_,lg,rfl⟩))
 have lC:=Ge lA
 subst lC
 have lt:List.length (α:=(ag.map k v).el) (List.replicate n none)=n:=List.length_replicate
 simp only at lc lt
 rw[lt]at lc
 have lD:=lc
 rcases lc.2 with ⟨_,lM⟩|⟨g,cap,cur,ld,lN,O,rest⟩
 ·omega
 generalize lE:bM.aX e (.mp k v) ((List.replicate n none).map some)=c2
 have Y:∀{i:Nat} {v2:Value},i≠r->bt m r v2 i=m i:=fun lh=>cF _ _ lh
 obtain⟨v2,le⟩:∃v2,v2=Value.tuple (m r::List.replicate n (.map none)).toArray:=⟨_,rfl⟩
 have lu:∀o,own v2 o↔own (m r) o:=by
  intro o
  rw[le,cR,ld]
  constructor
  ·rintro(O|⟨u,Z,lv⟩)
   ·exact fO O
   ·rw[List.eq_of_mem_replicate Z]at lv;cases lv
  ·intro O;exact .inl O
 have li:∀c',(r,c')∉st.ad:=fun c' O=>(List.nodup_append.1 h.keys).2.2 r (List.mem_map.2 ⟨_,O,rfl⟩) r (List.mem_map.2 ⟨_,lg,rfl⟩) rfl
 have lj:∀i,i∈(st.iQ r c2).ids->i∈st.ids:=by
  intro i R
  rcases List.mem_append.1 R with R|R
  ·obtain⟨⟨j,s⟩,q,rfl⟩:=List.mem_map.1 R
   rcases List.mem_cons.1 q with q|q
   ·cases q;exact lB
   ·obtain⟨⟨la,W⟩,U,V⟩:=List.mem_map.1 q
    cases V
    exact List.mem_append.2 (.inl (List.mem_map.2 ⟨_,U,rfl⟩))
  ·obtain⟨⟨j,s⟩,q,rfl⟩:=List.mem_map.1 R
   exact List.mem_append.2 (.inr (List.mem_map.2 ⟨_,(cE.1 q).1,rfl⟩))
 have lk:∀i o,own (bt m r v2 i) o↔own (m i) o:=by
  intro i o
  by_cases lw:i=r
  ·subst lw;rw[b7];exact lu o
  ·rw[Y lw]
 have ll:∀o,o<w.heap.size->¬ar cx m st.ids o->w.heap[o]? =w.heap[o]? :=fun _ _ _=>rfl
 have lm:∀o,o<w.heap.size->ar cx (bt m r v2) (st.iQ r c2).ids o->ar cx m st.ids o:=by
  rintro o _ (lF|⟨i,R,ln⟩)
  ·exact .inl lF
  ·exact .inr ⟨i,lj i R,(lk i o).1 ln⟩
 have lG:∀j c',(j,c')∈(st.iQ r c2).rw->cx.n<=j->dT<=j->bt m r v2 j=cx.m0 j:=by
  intro j c' L lo lp
  obtain⟨q,lb⟩:=cE.1 L
  rw[Y lb]
  exact h.kept j c' q lo lp
 have lx:∀u s,aN w (ar cx m st.ids) m u s->aN w (ar cx (bt m r v2) (st.iQ r c2).ids) (bt m r v2) u (s.og r):=fun u s Z=>T0 le (eN ll lm Z)
 refine⟨bt m r v2,{size:=h.size,frame:=h.frame,outer:=h.outer,cv:=fun i aM R=>?_,boxes:=fun j c' L=>?_,rows:=fun j c' L=>?_,apart:=fun i j R L lh o ln lq=>h.apart i j (lj i R) (lj j L) lh o ((lk i o).1 ln) ((lk j o).1 lq),keys:=?_,fixed:=fun j c' L lH lo=>?_,kept:=lG}⟩
 ·obtain⟨⟨j,s⟩,q,V⟩:=List.mem_map.1 R
  cases V
  obtain⟨u,lI,a2⟩:=h.cv j s q
  exact⟨u,lI,lx u s a2⟩
 ·rcases List.mem_cons.1 L with L|L
  ·cases L
   rw[b7,<-lE,le,ld]
   have lJ:((List.replicate n (none:Option (List (k.el×v.el)))).map some).length=n:=by simp
   refine⟨g,⟨n,cap,_,rfl⟩,fun o lq=>lz o ((lu o).1 (by rw[le,ld];exact lq)),n,cap,List.replicate n (.map none),List.replicate n (.map none),rfl,?_,Fm n,?_⟩
   ·have ly:=lD
    rw[ld]at ly
    show World.ownsRow w 0 e 1 _ (List.length ((List.replicate n none).map some)) _
    rw[lJ]
    exact ly
   ·have:(List.replicate n (Value.map none)).filterMap aP=[]:=by
     rw[List.filterMap_eq_nil_iff]
     intro u Z
     rw[List.eq_of_mem_replicate Z]
     rfl
    rw[this]
    simp
  ·obtain⟨⟨la,W⟩,U,V⟩:=List.mem_map.1 L
   cases V
   obtain⟨o,lf,lr,ls⟩:=h.boxes la W U
   have lb:la≠r:=fun e=>li W (by rw[<-e];exact U)
   rw[Y lb]
   exact⟨o,iF.2 lf,lr,ii ll lm (gg lf) (fun _ _=>rfl) lx ls⟩
 ·obtain⟨q,lb⟩:=cE.1 L
  obtain⟨cells,lf,lr,ls⟩:=h.rows j c' q
  rw[Y lb]
  exact⟨cells,lf,lr,cP (fun _ _=>cq ll lm c'.t) ls⟩
 ·have lp:(st.iQ r c2).ids=r::(st.ad.map (·.1)++(del st.rw r).map (·.1)):=by
   show(r::(st.ad.map fun p=>(p.1,p.2.map (ao.og r))).map (·.1))++(del st.rw r).map (·.1)=_
   simp[List.map_map,Function.comp_def]
  rw[lp]
  refine List.nodup_cons.2 ⟨fun O=>?_,?_⟩
  ·rcases List.mem_append.1 O with O|O
   ·obtain⟨⟨j,s⟩,q,e⟩:=List.mem_map.1 O
    exact li s (by rw[<-e];exact q)
   ·obtain⟨⟨j,s⟩,q,e⟩:=List.mem_map.1 O
    exact(cE.1 q).2 e
  ·rw[jR]
   exact h.keys.sublist (List.Sublist.append (List.Sublist.refl _) List.filter_sublist)
 ·rcases List.mem_cons.1 L with L|L
  ·cases L;omega
  ·obtain⟨⟨la,W⟩,U,V⟩:=List.mem_map.1 L
   cases V
   rw[Y (fun e=>li W (by rw[<-e];exact U))]
   exact h.fixed la W U (jp.symm.trans lH) lo
theorem an.Tg(h:an cx m st T w){r e n:Nat}{k v:ag}{xs:List (ag.map k v).el}(o:(r,(⟨e,.map k v,xs⟩:cp))∈st.rw)(q:xs=List.replicate n (show(ag.map k v).el from none))(L:0<n)(O:r<cx.n):
  ∃aA,an cx aA (st.iQ r (.aX e (.mp k v) (show List (Option (dW.mp k v).el)from List.map some xs))) T w:=by
 subst q
 exact h.iQ o L O
theorem Dd(U:an cx m st T w){b e:Nat}{n:Int}{k:dW}{xs:List (Option k.el)}{y:k.el}(Y:look st.ad b=some (.aX e k xs))(Z:xs[n.toNat]? =some (some y)){x:Operand}(la:aO st x=some (.ff b n))
  {t:TypeId}{u:ag}(lb:ty cx.P t=some u)(lc:u.cells=1)(ld:u.agg=false):
  ∃g cap us o,m b=.tuple (.slice (some ⟨g,0,none⟩) xs.length cap::o).toArray/\(g::o.filterMap aP).Nodup/\fV w (ar cx m st.ids) k xs us o/\w.ownsRow 0 e 1 (.slice (some ⟨g,0,none⟩) xs.length cap) xs.length us/\
   ∃v,us[n.toNat]? =some v/\o[n.toNat]? =some v/\ji w (ar cx m st.ids) v k y/\(Instr.loadAt t (Act.eval ⟨T,ah.D cx⟩ x)).run cx.P w=.ok v w:=by
 obtain⟨g,cap,us,o,cur,V,_,le,lf,ln,lo,lp,lg,W,lh⟩:=U.aX Y
 obtain⟨g2,lq,lr,ls,L,a2⟩:=a8 U la
 rw[V]at L
 have:g2=g:=by
  simp only[Value.tuple.injEq,Array.mk.injEq,List.cons.injEq,Value.slice.injEq,Option.some.injEq,Addr.mk.injEq]at L
  exact L.1.1.1.symm
 subst this
 obtain⟨v,q,li,lj⟩:=tp W Z
 refine⟨g2,cap,us,o,V,lh,W,le,v,q,li,lj,?_⟩
 have lk:Instr.loadAt t (Act.eval ⟨T,ah.D cx⟩ x)=loadVar t ⟨g2,n.toNat,none⟩:=by rw[a2];rfl
 rw[lk]
 obtain⟨v',ll,O⟩:=io (c:=[v]) lb lf (fun j v2 R=>by
  have lm:j=0:=by have:=(List.getElem?_eq_some_iff.1 R).1;simpa using this
  subst lm
  simp at R
  subst R
  rw[<-lg,List.getElem?_take]at q
  split at q
  ·simpa using q
  ·cases q) (by rw[lc];rfl) (fun _=>by omega)
 rw[ld]at O
 simp at O
 subst O
 exact ll w (Ext.refl w)
theorem Dr(L:an cx m st T w){b e:Nat}{n:Int}{k:dW}{xs:List (Option k.el)}{y:k.el}(W:look st.ad b=some (.aX e k xs))(Y:xs[n.toNat]? =some (some y)){x:Operand}(Z:aO st x=some (.sub b n)):
  ∃g cap us o,m b=.tuple (.slice (some ⟨g,0,none⟩) xs.length cap::o).toArray/\(g::o.filterMap aP).Nodup/\fV w (ar cx m st.ids) k xs us o/\w.ownsRow 0 e 1 (.slice (some ⟨g,0,none⟩) xs.length cap) xs.length us/\
   us[n.toNat]? =some (Act.eval ⟨T,ah.D cx⟩ x)/\o[n.toNat]? =some (Act.eval ⟨T,ah.D cx⟩ x)/\ji w (ar cx m st.ids) (Act.eval ⟨T,ah.D cx⟩ x) k y:=by
 obtain⟨g,cap,us,o,cur,O,_,la,le,lf,lg,lh,li,R,lb⟩:=L.aX W
 obtain⟨ch,U,q,a2⟩:=a8 L Z
 rw[O]at q
 have:U=o:=by
  simp only[Value.tuple.injEq,Array.mk.injEq,List.cons.injEq]at q
  exact q.2.symm
 subst this
 obtain⟨v,lc,V,ld⟩:=tp R Y
 rw[a2]at V
 cases V
 exact⟨g,cap,us,U,O,lb,R,la,lc,a2,ld⟩
def zZ(E:Env)(st:af)(aa:Oper)(orc:List ak):Option (af×List ak×List Prop):=
 match aa.dst with
 |some d=>match Nat.blt d E.n with
  |true=>match aa.op with
   |.indexAddr t x i=>match aO st x,dL (aO st i),ty E.P t with
    |some (.osl b),some n,some (.ab u)=>match look st.ad b,Nat.beq u.cells 1 with
     |some (.aX _ _ xs),true=>some (st.put d (.ff b n),orc,[0<=n/\n<(xs.length:Int)])
     |_,_=>none
    |_,_,_=>none
   |.load t x=>match aO st x,ty E.P t with
    |some (.ff b n),some u=>match look st.ad b,Nat.beq u.cells 1&&!u.agg,orc with
     |some (.aX e (.mp k v) xs),true,⟨.unit,_⟩::a::orc'=>match a.as (.map k v),Nat.blt b E.n with
      |some y,true=>some ((st.fJ b b (.aX e (.mp k v) (xs.set n.toNat none))).put d (.val (.map k v) y),orc',[xs[n.toNat]? =some (some (show(dW.mp k v).el from y))])
      |_,_=>none
     |some (.aX _ (.mp k v) xs),true,a::orc'=>match a.as (.map k v)with
      |some y=>some (st.put d (.sub b n),orc',[xs[n.toNat]? =some (some (show(dW.mp k v).el from y))])
      |none=>none
     |_,_,_=>none
    |_,_=>none
   |.call {callee:=.builtin .len,args:=args,argTypes:=L}=>match args.toList,L.toList with
    |[x],[t]=>match aO st x,ty E.P t with
     |some (.sub b n),some (.map _ _)=>match look st.ad b,orc with
      |some (.aX _ (.mp k v) xs),a::orc'=>match a.as (.map k v)with
       |some y=>some (st.put d (.val (.int .i64) ((Option.getD (α:=List (k.el×v.el)) y []).length:Int)),orc',[xs[n.toNat]? =some (some (show(dW.mp k v).el from y))])
       |none=>none
      |_,_=>none
     |_,_=>none
    |_,_=>none
   |.makeSlice _ _ _=>match orc with
    |⟨.unit,_⟩::orc'=>match kT E st aa orc' with
     |some (o,O,ob)=>match look o.rw d,Nat.beq d d with
      |some ⟨e,.map k v,xs⟩,true=>some (o.iQ d (.aX e (.mp k v) (show List (Option (dW.mp k v).el)from List.map some xs)),O,(xs=List.replicate xs.length (show(ag.map k v).el from none)/\0<xs.length)::ob)
      |_,_=>none
     |none=>none
    |_=>none
   |_=>none
  |false=>none
 |none=>match aa.op with
  |.mapUpdate t x R U=>match aO st x,E.P.underlying t,cY st R,cY st U with
   |some (.sub b n),some (.map q V),some kv,some vv=>match look st.ad b,ty E.P q,ty E.P V,orc with
    |some (.aX e (.mp k v) xs),some W,some Y,a::orc'=>match kv.as k,vv.as v,k.beq W&&(v.beq Y&&(k.flat&&dJ E.P 16 q)),a.as (.map k v)with
     |some y,some z,true,some (some ps)=>some (st.cL b (.aX e (.mp k v) (xs.set n.toNat (some (show(dW.mp k v).el from some (cU (aV k) ps y z))))),orc',[xs[n.toNat]? =some (some (show(dW.mp k v).el from some ps))])
     |_,_,_,_=>none
    |_,_,_,_=>none
   |_,_,_,_=>none
  |.store t x y=>match aO st x,aO st y,ty E.P t with
   |some (.ff b n),some (.iter c),some u=>match look st.ad b,look st.ad c,Nat.beq u.cells 1&&(!u.agg&&Nat.blt b E.n)with
    |some (.aX e (.mp k v) xs),some (.mp k' v' ps),true=>match(⟨.map k' v',some ps⟩:ak).as (.map k v)with
     |some y=>some (st.fJ b c (.aX e (.mp k v) (xs.set n.toNat (some (show(dW.mp k v).el from y)))),orc,[0<=n/\n<(xs.length:Int)])
     |none=>none
    |_,_,_=>none
   |_,_,_=>none
  |_=>none
theorem J9{E:Env}(lo:br E cx)(h:al cx st T w){aa:Oper}{orc:List ak}{st':af}{orc':List ak}{ob:List Prop}(o:zZ E st aa orc=some (st',orc',ob))(ls:bJ ob)
  {K:Act->World->Prop}{Q:Exit->Act->World->Prop}(lA:∀lQ w',al cx st' lQ w'->K ⟨lQ,ah.D cx⟩ w'):aa.wp cx.P ⟨T,ah.D cx⟩ w K Q:=by
 obtain⟨m,R⟩:=h
 unfold zZ at o
 split at o
 ·rename_i d aj
  split at o
  case h_2=>cases o
  rename_i aL
  have lC:d<cx.n:=by rw[lo.n];exact cw aL
  have fin:∀(v:Value) (w':World) (aA:Nat->Value) (lR:af) (aM:ao),(execOp (Act.eval ⟨T,ah.D cx⟩) aa).run cx.P w=.ok (.value v) w'->an cx aA lR T w'->aN w' (ar cx aA lR.ids) aA v aM->lR.put d aM=st'->aa.wp cx.P ⟨T,ah.D cx⟩ w K Q:=by
   intro v w' aA lR aM lw lD lZ e
   refine fQ lw ?_
   rw[aj]
   exact lA _ _ ⟨aA,e▸lD.put lC lZ⟩
  split at o
  ·rename_i t x i lf
   split at o
   case h_2=>cases o
   rename_i b n u lb U lc
   split at o
   case h_2=>cases o
   rename_i e k xs Y Z
   cases o
   rw[<-lo.P]at lc
   have Z:=Nat.eq_of_beq_eq_true Z
   obtain⟨g,cap,us,W,cur,V,_⟩:=R.aX Y
   obtain⟨aO,la⟩:=a8 R lb
   rw[V]at la
   have lt:Act.eval ⟨T,ah.D cx⟩ x=.slice (some ⟨g,0,none⟩) xs.length cap:=by
    simp only[Value.tuple.injEq,Array.mk.injEq,List.cons.injEq]at la
    exact la.1.symm
   obtain⟨bC,lS⟩:=eR R U
   obtain⟨_,_,_,bD,d2,aP,aQ⟩:=cQ lc
   refine fin (.pointer (some ⟨g,n.toNat,none⟩)) w m _ (.ff b n) (ca (s:=Instr.indexAt t (Act.eval ⟨T,ah.D cx⟩ x) (Act.eval ⟨T,ah.D cx⟩ i)) (by simp only[execOp,lf]) ?_) R ⟨g,xs.length,cap,W,V,rfl⟩ rfl
   have l0:(⟨g,0,none⟩:Addr).add (n.toNat*1)=⟨g,n.toNat,none⟩:=by rw[fR];simp
   rw[lt,lS]
   simp only[Instr.indexAt,asIntOf,Sem.run_bind,Sem.run_pure,Result.andThen_ok,run_underlying aP]
   rw[if_pos ls.1]
   simp only[Sem.run_bind,eB aQ,Result.andThen_ok,Sem.run_pure,Z,l0]
  ·rename_i t x lf
   split at o
   case h_2=>cases o
   rename_i b n u lb lc
   rw[<-lo.P]at lc
   split at o
   ·rename_i e k v xs aR a lT Y Z
    simp only[Bool.and_eq_true,Bool.not_eq_true']at Z
    split at o
    case h_2=>cases o
    rename_i y lU lE
    cases o
    have lE:b<cx.n:=by rw[lo.n];exact cw lE
    obtain⟨g,cap,us,W,V,la,lt,lB,l3,l4,lg,ld,lp⟩:=Dd R Y ls.1 lb lc (Nat.eq_of_beq_eq_true Z.1) Z.2
    have lj:=aW Y
    have le:b∈st.ids:=List.mem_append.2 (.inl (List.mem_map.2 ⟨_,lj,rfl⟩))
    have lF:∀u∈W.set n.toNat undef,u∈W\/u=undef:=fun u O=>List.mem_or_eq_of_mem_set O
    have lu:∀L,own (.tuple (.slice (some ⟨g,0,none⟩) xs.length cap::W.set n.toNat undef).toArray) L->own (m b) L\/own (m b) L:=by
     intro L q
     rw[V]
     rcases cR.1 q with q|⟨u,O,q⟩
     ·exact .inl (cR.2 (.inl q))
     ·rcases lF u O with O|rfl
      ·exact .inl (cR.2 (.inr ⟨u,O,q⟩))
      ·cases q
    obtain⟨v2,lk⟩:∃v2,v2=Value.tuple (.slice (some ⟨g,0,none⟩) xs.length cap::W.set n.toNat undef).toArray:=⟨_,rfl⟩
    rw[<-lk]at lu
    have lv:∀i,i∈(st.fJ b b (.aX e (.mp k v) (xs.set n.toNat none))).ids->i∈st.ids:=by
     intro i U
     rcases List.mem_append.1 U with U|U
     ·obtain⟨⟨j,s⟩,lh,rfl⟩:=List.mem_map.1 U
      rcases List.mem_cons.1 lh with lh|lh
      ·cases lh;exact le
      ·obtain⟨⟨aS,aT⟩,l5,l6⟩:=List.mem_map.1 lh
       cases l6
       exact List.mem_append.2 (.inl (List.mem_map.2 ⟨_,(cE.1 (cE.1 l5).1).1,rfl⟩))
     ·exact List.mem_append.2 (.inr U)
    have lx:∀L,L<w.heap.size->ar cx (bt m b v2) (st.fJ b b (.aX e (.mp k v) (xs.set n.toNat none))).ids L->ar cx m st.ids L:=by
     intro L _ q
     rcases q with lG|⟨i,U,q⟩
     ·exact .inl lG
     ·by_cases lq:i=b
      ·subst lq
       rw[b7]at q
       exact .inr ⟨i,le,(lu L q).elim id id⟩
      ·rw[cF _ _ lq]at q
       exact .inr ⟨i,lv i U,q⟩
    have l7:=R.fJ (c2:=.aX e (.mp k v) (xs.set n.toNat none)) lj lj lE V lk ⟨⟨rfl,rfl,rfl,Nat.le_refl _,fun _=>Nat.le_refl _⟩,fun _ _ _=>rfl⟩ lu ⟨xs.length,cap,_,lk⟩
     ⟨xs.length,cap,us,W.set n.toNat undef,lk,by rw[List.length_set];exact lB,nh (fun _ _ _=>rfl) lx (fun _ _ _ _=>rfl) (wi lt),by
      have lD:=tt (i:=n.toNat) (u:=undef) (List.nodup_cons.1 la).2 (fun b Y=>by cases Y)
      refine List.nodup_cons.2 ⟨fun lv=>?_,lD⟩
      obtain⟨u,O,q⟩:=List.mem_filterMap.1 lv
      rcases lF u O with O|rfl
      ·exact(List.nodup_cons.1 la).1 (List.mem_filterMap.2 ⟨u,O,q⟩)
      ·cases q⟩
    refine fin l3 w _ _ (.val (.map k v) y) (ca (by simp only[execOp,lf]) lp) l7 ?_ rfl
    refine(bA (t:=.map k v) rfl).2 ?_
    match y,ld with
    |none,ld=>
     have ld:l3=.map none:=ld
     show[l3]=[Value.map none]
     rw[ld]
    |some ps,⟨r,es,lH,li,ll,lI,lJ,ly⟩=>
     have ay:own (m b) r:=by rw[V];exact cR.2 (.inr ⟨_,List.mem_of_getElem? lg,by rw[li];rfl⟩)
     refine⟨r,es,lH,by rw[li],ll,?_,lI,lJ,ge (fun _ _ h=>cT (fun _ _ _=>rfl) lx h) (fun _ _ h=>cT (fun _ _ _=>rfl) lx h) ly⟩
     rintro(lG|⟨i,U,q⟩)
     ·have aU:=R.outer r lG
      rcases(R.lt le ay).2 with aX|aX
      ·omega
      ·exact aU.2 aX
     ·by_cases lq:i=b
      ·subst lq
       rw[b7,lk]at q
       rcases cR.1 q with q|⟨u,O,q⟩
       ·cases q
        exact(List.nodup_cons.1 la).1 (mT.2 ⟨_,_,lg,by rw[li];rfl⟩)
       ·obtain⟨j,lr⟩:=List.getElem?_of_mem O
        rw[List.getElem?_set]at lr
        split at lr
        ·split at lr
         ·cases lr;cases q
         ·cases lr
        ·rename_i lz
         exact ut (List.nodup_cons.1 la).2 lg lr lz (by rw[li];rfl) q
      ·rw[cF _ _ lq]at q
       exact R.apart b i le (lv i U) (fun e=>lq e.symm) r ay q
   ·rename_i e k v xs a lT _ Y Z
    simp only[Bool.and_eq_true,Bool.not_eq_true']at Z
    split at o
    case h_2=>cases o
    rename_i y lU
    cases o
    obtain⟨g,cap,us,W,V,_,_,_,v0,_,lg,_,lp⟩:=Dd R Y ls.1 lb lc (Nat.eq_of_beq_eq_true Z.1) Z.2
    exact fin v0 w m _ (.sub b n) (ca (by simp only[execOp,lf]) lp) R ⟨_,W,V,lg⟩ rfl
   ·cases o
  ·rename_i args az lf
   split at o
   case h_2=>cases o
   rename_i x t lU aZ
   split at o
   case h_2=>cases o
   rename_i b n a0 bE lb lc
   split at o
   case h_2=>cases o
   rename_i e k v xs a lT Y
   split at o
   case h_2=>cases o
   rename_i y lV
   cases o
   rw[<-lo.P]at lc
   obtain⟨g,cap,us,W,V,_,_,_,_,_,ld⟩:=Dr R Y ls.1 lb
   obtain⟨i,_,_,bF,la,_,aB,_,_⟩:=cQ lc
   have l0:args=#[x]:=by rw[<-Array.toArray_toList (xs:=args),lU]
   have aC:az=#[t]:=by rw[<-Array.toArray_toList (xs:=az),aZ]
   subst l0
   subst aC
   refine fin (.int .i64 ((Option.getD (α:=List (k.el×v.el)) y []).length:Int)) w m _ (.val (.int .i64) _) ?_ R (cJ.2 rfl) rfl
   simp only[execOp,lf,resolve,invoke,builtin,Sem.run_bind,Sem.run_pure,Result.andThen_ok,List.map_toArray,List.map_cons,List.map_nil]
   generalize Act.eval ⟨T,ah.D cx⟩ x=a1 at ld
   match y,ld with
   |none,ld=>
    have ld:a1=.map none:=ld
    rw[ld]
    simp[Builtin.len_,run_underlying aB,goInt]
   |some ps,⟨r,es,lH,li,ll,_,_,ly⟩=>
    rw[li]
    have aD:=oP ly
    rw[Array.length_toList]at aD
    simp[Builtin.len_,run_underlying aB,goInt,getObj,Sem.run,ll,aD]
  ·rename_i lf
   split at o
   case h_2=>cases o
   rename_i aR lT
   split at o
   case h_2=>cases o
   rename_i bG bH bI ll
   split at o
   case h_2=>cases o
   rename_i e k v xs lw _
   cases o
   refine oH lo ⟨m,R⟩ ll ls.2 fun lQ w' l8=>?_
   obtain⟨m1,a3⟩:=l8
   obtain⟨⟨a4,a5⟩,_⟩:=ls
   obtain⟨m2,a6⟩:=a3.Tg (aW lw) a4 a5 lC
   exact lA lQ w' ⟨m2,a6⟩
  ·cases o
 ·rename_i aj
  split at o
  ·rename_i t x bK bL lf
   split at o
   case h_2=>cases o
   rename_i b n a0 aC kv vv lb aE lS lZ
   split at o
   case h_2=>cases o
   rename_i e k v xs bM bN a lT Y aF a7
   split at o
   case h_2=>cases o
   rename_i y z ps lV a9 lm lU
   cases o
   simp only[Bool.and_eq_true]at lm
   obtain⟨ba,bb,bc,aG⟩:=lm
   obtain rfl:=ag.eq_of_beq ba
   obtain rfl:=ag.eq_of_beq bb
   have bd:=ak.cO lV
   subst bd
   have be:=ak.cO a9
   subst be
   rw[<-lo.P]at aE aF a7 aG
   obtain⟨g,cap,us,W,V,la,lt,lB,l4,lg,r,es,lH,li,ll,lI,lJ,ly⟩:=Dr R Y ls.1 lb
   obtain⟨lK,lL,lp,bf,ch,dw⟩:=C9 (d:=iu) (d':=16) aE aF aG (by decide) bc (cK R lS) (cK R lZ) ll lI lJ ly
   have lj:=aW Y
   have lu:own (m b) r:=by rw[V];exact cR.2 (.inr ⟨_,List.mem_of_getElem? lg,by rw[li];rfl⟩)
   have lM:Touch m w b {w with heap:=w.heap.setIfInBounds r (.map lK lL)}:=
    ⟨⟨rfl,rfl,rfl,by simp,fun _=>Nat.le_refl _⟩,fun k _ lz=>by
     show(w.heap.setIfInBounds r _)[k]? =_
     rw[Array.getElem?_setIfInBounds_ne]
     intro e
     exact lz (by rw[<-e];exact lu)⟩
   have le:b∈st.ids:=List.mem_append.2 (.inl (List.mem_map.2 ⟨_,lj,rfl⟩))
   generalize lN:xs.set n.toNat (some (show(dW.mp k v).el from some (cU (aV k) ps y z)))=ln at lA
   obtain⟨l9,ab⟩:=an.fU (cx:=cx) le lM (ids:=(st.cL b (.aX e (.mp k v) ln)).ids) (iZ lj R.keys _).1
   have bg:g≠r:=fun e=>(List.nodup_cons.1 la).1 (mT.2 ⟨_,_,lg,by rw[li,e];rfl⟩)
   rw[li]at l4 lg
   have ad:ln.length=xs.length:=by rw[<-lN,List.length_set]
   have l8:an cx m (st.cL b (.aX e (.mp k v) ln)) T {w with heap:=w.heap.setIfInBounds r (.map lK lL)}:=by
    refine R.cL lj lM (g:=g) ⟨xs.length,cap,W,V⟩ ⟨xs.length,cap,us,W,V,?_,?_,la⟩
    ·rw[ad]
     refine⟨lB.1,?_⟩
     rcases lB.2 with lm|⟨L,bh,cur,aH,bi,lm,rest⟩
     ·exact .inl lm
     ·refine .inr ⟨L,bh,cur,aH,bi,?_,rest⟩
      show(w.heap.setIfInBounds r _)[L]? =_
      rw[Array.getElem?_setIfInBounds_ne (by rintro rfl;cases aH;exact bg rfl)]
      exact lm
    ·have U:ji {w with heap:=w.heap.setIfInBounds r (.map lK lL)} (ar cx m (st.cL b (.aX e (.mp k v) ln)).ids) (.map (some r)) (.mp k v) (some (cU (aV k) ps y z)):=by
      refine⟨r,lK,lL,rfl,?_,bf,ch,ge (fun _ _ h=>cT l9 ab h) (fun _ _ h=>cT l9 ab h) dw⟩
      show(w.heap.setIfInBounds r _)[r]? =_
      rw[Array.getElem?_setIfInBounds_self_of_lt (fG ll)]
     have lW:=rz l9 ab U (i:=n.toNat) (fun j u lr O ae lX=>by
      show(w.heap.setIfInBounds r _)[ae]? =_
      rw[Array.getElem?_setIfInBounds_ne]
      rintro rfl
      exact ut (List.nodup_cons.1 la).2 lg O (fun e=>lr e.symm) rfl lX) lt
     have f1:us.set n.toNat (.map (some r))=us:=by
      obtain⟨lC,ai⟩:=List.getElem?_eq_some_iff.1 l4
      rw[<-ai,List.set_getElem_self]
     have f2:W.set n.toNat (.map (some r))=W:=by
      obtain⟨lC,ai⟩:=List.getElem?_eq_some_iff.1 lg
      rw[<-ai,List.set_getElem_self]
     rw[f1,f2]at lW
     rw[<-lN]
     exact lW
   unfold Oper.wp
   have lw:(execOp (Act.eval ⟨T,ah.D cx⟩) aa).run cx.P w=.ok .skip {w with heap:=w.heap.setIfInBounds r (.map lK lL)}:=by
    simp only[execOp,lf,Sem.run_bind,li,lp,Result.andThen_ok,Sem.run_pure]
   rw[lw]
   show K (Act.put ⟨T,ah.D cx⟩ aa.dst undef) _
   rw[aj]
   exact lA T _ ⟨m,l8⟩
  ·rename_i t x y lf
   split at o
   case h_2=>cases o
   rename_i b n c u lb lV lc
   split at o
   case h_2=>cases o
   rename_i e k v xs k' v' ps Y Z aY
   split at o
   case h_2=>cases o
   rename_i bO bj
   cases o
   simp only[Bool.and_eq_true,Bool.not_eq_true']at aY
   obtain⟨lO,bP,bk⟩:=aY
   have lO:=Nat.eq_of_beq_eq_true lO
   have lE:b<cx.n:=by rw[lo.n];exact cw bk
   rw[<-lo.P]at lc
   obtain⟨g,cap,us,W,cur,V,_,la,lt,lB,bl,am,bm,bn,ap⟩:=R.aX Y
   obtain⟨g2,bQ,bR,aO,aq,a2⟩:=a8 R lb
   rw[V]at aq
   have:g2=g:=by
    simp only[Value.tuple.injEq,Array.mk.injEq,List.cons.injEq,Value.slice.injEq,Option.some.injEq,Addr.mk.injEq]at aq
    exact aq.1.1.1.symm
   subst this
   have lj:=aW Y
   have au:=aW Z
   have le:b∈st.ids:=List.mem_append.2 (.inl (List.mem_map.2 ⟨_,lj,rfl⟩))
   have av:c∈st.ids:=List.mem_append.2 (.inl (List.mem_map.2 ⟨_,au,rfl⟩))
   have aI:b≠c:=by
    rintro rfl
    rw[Y]at Z
    cases Z
   have bo:=ak.cO bj
   cases bo
   obtain⟨r,f1,_,es,lH,ll,lI,lJ,ly⟩:=R.box au
   have f1:m c=.map (some r):=f1
   have bp:Act.eval ⟨T,ah.D cx⟩ y=.map (some r):=by have:Act.eval ⟨T,ah.D cx⟩ y=m c:=a8 R lV;rw[this,f1]
   have aw:own (m c) r:=by rw[f1];exact fO rfl
   have aJ:own (m b) g2:=by rw[V];exact cR.2 (.inl rfl)
   have aK:r≠g2:=fun e=>R.apart b c le av aI g2 aJ (by rw[<-e];exact aw)
   obtain⟨bS,_⟩:=ls
   have lC:n.toNat<xs.length:=by omega
   have bq:n.toNat+u.cells<=cur.size:=by rw[lO,am];omega
   have lp:=kg (P:=cx.P) (v:=.map (some r)) lc lt (by rw[lO];rfl) bq (fun x lb=>by simp[Value.cells]at lb;subst lb;rfl)
   have bu:cur.toList.take n.toNat++(Value.map (some r)).cells.toList++cur.toList.drop (n.toNat+u.cells)=cur.toList.set n.toNat (.map (some r)):=by
    rw[List.set_eq_take_append_cons_drop,if_pos (by rw[Array.length_toList,am];omega),lO]
    simp[Value.cells]
   rw[bu]at lp
   generalize lY:w.setRow g2 (cur.toList.set n.toNat (.map (some r))).toArray=lP at lp
   have lM:Touch m w b lP:=by rw[<-lY];exact⟨iP _ _ _,fun k lS lz=>setRow_other _ _ _ _ (fun e=>lz (by rw[e];exact aJ))⟩
   obtain⟨v2,lk⟩:∃v2,v2=Value.tuple (.slice (some ⟨g2,0,none⟩) xs.length cap::W.set n.toNat (.map (some r))).toArray:=⟨_,rfl⟩
   have lF:∀u∈W.set n.toNat (.map (some r)),u∈W\/u=.map (some r):=fun u O=>List.mem_or_eq_of_mem_set O
   have lu:∀L,own v2 L->own (m b) L\/own (m c) L:=by
    intro L q
    rw[lk]at q
    rcases cR.1 q with q|⟨u,O,q⟩
    ·exact .inl (by rw[V];exact cR.2 (.inl q))
    ·rcases lF u O with O|rfl
     ·exact .inl (by rw[V];exact cR.2 (.inr ⟨u,O,q⟩))
     ·cases q;exact .inr aw
   generalize lN:xs.set n.toNat (some (show(dW.mp k v).el from some ps))=ln at lA
   have ad:ln.length=xs.length:=by rw[<-lN,List.length_set]
   have lv:∀i,i∈(st.fJ b c (.aX e (.mp k v) ln)).ids->i∈st.ids:=by
    intro i U
    rcases List.mem_append.1 U with U|U
    ·obtain⟨⟨j,s⟩,lh,rfl⟩:=List.mem_map.1 U
     rcases List.mem_cons.1 lh with lh|lh
     ·cases lh;exact le
     ·obtain⟨⟨aS,aT⟩,l5,l6⟩:=List.mem_map.1 lh
      cases l6
      exact List.mem_append.2 (.inl (List.mem_map.2 ⟨_,(cE.1 (cE.1 l5).1).1,rfl⟩))
    ·exact List.mem_append.2 (.inr U)
   have ax:∀L,L<w.heap.size->¬ar cx m st.ids L->lP.heap[L]? =w.heap[L]? :=fun L bv bw=>lM.block L bv fun e=>bw (.inr ⟨b,le,e⟩)
   have lx:∀L,L<w.heap.size->ar cx (bt m b v2) (st.fJ b c (.aX e (.mp k v) ln)).ids L->ar cx m st.ids L:=by
    intro L _ q
    rcases q with lG|⟨i,U,q⟩
    ·exact .inl lG
    ·by_cases lq:i=b
     ·subst lq
      rw[b7]at q
      rcases lu L q with lm|lm
      ·exact .inr ⟨i,le,lm⟩
      ·exact .inr ⟨c,av,lm⟩
     ·rw[cF _ _ lq]at q
      exact .inr ⟨i,lv i U,q⟩
   have bx:∀L,own (m b) L->L≠g2->lP.heap[L]? =w.heap[L]? :=fun L _ lz=>by rw[<-lY];exact setRow_other _ _ _ _ lz
   have U:ji lP (ar cx (bt m b v2) (st.fJ b c (.aX e (.mp k v) ln)).ids) (.map (some r)) (.mp k v) (some ps):=
    ⟨r,es,lH,rfl,by rw[<-lY,setRow_other _ _ _ _ aK];exact ll,lI,lJ,ge (fun _ _ h=>cT ax lx h) (fun _ _ h=>cT ax lx h) ly⟩
   have lW:=rz ax lx U (i:=n.toNat) (fun j u lr O ae lX=>by
    refine bx ae (by rw[V];exact cR.2 (.inr ⟨u,List.mem_of_getElem? O,lX⟩)) ?_
    rintro rfl
    exact(List.nodup_cons.1 ap).1 (mT.2 ⟨_,_,O,lX⟩)) bn
   have l7:=R.fJ (c2:=.aX e (.mp k v) ln) lj au lE V lk lM lu ⟨xs.length,cap,_,lk⟩ ⟨xs.length,cap,us.set n.toNat (.map (some r)),W.set n.toNat (.map (some r)),lk,by
     rw[ad]
     refine⟨by rw[List.length_set];exact la.1,.inr ⟨g2,cap,_,rfl,Nat.zero_le _,by rw[<-lY];exact setRow_heap _ _ _ _ _ _ lt,lB,bl,?_,?_⟩⟩
     ·simp[am]
     ·rw[Nat.mul_one,<-bm,List.take_set],by rw[<-lN];exact lW,by
     have lD:=tt (i:=n.toNat) (u:=.map (some r)) (List.nodup_cons.1 ap).2 (fun bT bz j u _ O bB=>by
      cases bz
      exact R.apart b c le av aI r (by rw[V];exact cR.2 (.inr ⟨u,List.mem_of_getElem? O,bB⟩)) aw)
     refine List.nodup_cons.2 ⟨fun lv=>?_,lD⟩
     obtain⟨u,O,q⟩:=List.mem_filterMap.1 lv
     rcases lF u O with O|rfl
     ·exact(List.nodup_cons.1 ap).1 (List.mem_filterMap.2 ⟨u,O,q⟩)
     ·cases q;exact aK rfl⟩
   unfold Oper.wp
   have lw:(execOp (Act.eval ⟨T,ah.D cx⟩) aa).run cx.P w=.ok .skip lP:=by
    simp only[execOp,lf,Sem.run_bind,bp,a2,lp,Result.andThen_ok,Sem.run_pure]
   rw[lw]
   show K (Act.put ⟨T,ah.D cx⟩ aa.dst undef) _
   rw[aj]
   exact lA T _ ⟨_,l7⟩
  ·cases o
def yX(E:Env)(st:af)(aa:Oper)(orc:List ak):Option (af×List ak×List Prop):=
 match zZ E st aa orc with
 |some r=>some r
 |none=>zw E st aa orc
theorem QW{E:Env}(q:br E cx)(h:al cx st T w){aa:Oper}{orc:List ak}{st':af}{orc':List ak}{ob:List Prop}(o:yX E st aa orc=some (st',orc',ob))(L:bJ ob)
  {K:Act->World->Prop}{Q:Exit->Act->World->Prop}(O:∀R w',al cx st' R w'->K ⟨R,ah.D cx⟩ w'):aa.wp cx.P ⟨T,ah.D cx⟩ w K Q:=by
 unfold yX at o
 split at o
 ·rename_i r U
  cases o
  exact J9 q h U L O
 ·exact JU q h o L O
end Go.Ev
namespace Go.Ev
open Go Go.RowKit
variable [bV]
variable {cx:bx} {m:Nat->Value} {st st':af} {T:Array Value} {w w':World}
variable [ah cx]
/-! Copying, clearing. -/
theorem Gk{α:Type}{f:List Value->α->Prop}:∀{q L:List α} {O c2:List Value},bL f O q->bL f c2 L->bL f (O++c2) (q++L)
 |[],_,_,_,R,o=>by cases R;exact o
 |y::U,_,_,_,⟨d1,d2,e,g1,g2⟩,o=>by subst e;exact⟨d1,_,by simp,g1,Gk g2 o⟩
theorem xp{M:Nat->Prop}{u:ag}:∀{xs:List u.el} {cs:List Value},bL (aK w M u) cs xs->∀v∈cs,v.oneCell'=true
 |[],cs,q,v,o=>by cases q;simp at o
 |y::R,cs,⟨U,c2,e,L,O⟩,v,o=>by
  subst e
  rcases List.mem_append.1 o with o|o
  ·exact gh u L v o
  ·exact xp O v o
theorem an.over(h:an cx m st T w){r:Nat}{c:cp}(q:(r,c)∈st.rw){o:List c.t.el}{news:List Value}(V:bL (aK w (ar cx m st.ids) c.t) news o)(W:o.length<=c.xs.length){g:Nat}{n cap:Nat}{cur:Array Value}
  (L:m r=.slice (some ⟨g,0,none⟩) n cap)(Y:w.heap[g]? =some (.cells cur c.e (0,0))):
  an cx m (st.setRow r {c with xs:=o++c.xs.drop o.length}) T (w.setRow g (news++cur.toList.drop news.length).toArray):=by
 obtain⟨cells,Z,lp,lf⟩:=h.rows r c q
 have lg:r∈st.ids:=List.mem_append.2 (.inr (List.mem_map.2 ⟨_,q,rfl⟩))
 rcases Z.2 with ⟨la,_⟩|⟨lq,lr,ls,U,lh,lb,lc,li,ld,lj⟩
 ·rw[L]at la;cases la
 rw[L]at U
 simp only[Value.slice.injEq,Option.some.injEq,Addr.mk.injEq,and_true]at U
 obtain⟨rfl,rfl,rfl⟩:=U
 rw[Y]at lb
 cases lb
 have O:news.length=o.length*c.t.cells:=hO (fun _ _=>b6 c.t) _ _ V
 have lk:cells.length=c.xs.length*c.t.cells:=Z.1
 have le:Touch m w r (w.setRow g (news++cur.toList.drop news.length).toArray):=
  ⟨iP _ _ _,fun k lt ll=>setRow_other _ _ _ _ (fun e=>ll (by rw[L,e];exact fO rfl))⟩
 obtain⟨lm,_⟩:=k7 q h.keys {c with xs:=o++c.xs.drop o.length}
 obtain⟨ln,lo⟩:=an.fU (cx:=cx) lg le lm
 have R:(o++c.xs.drop o.length).length=c.xs.length:=by rw[List.length_append,List.length_drop];omega
 have lu:o.length*c.t.cells<=c.xs.length*c.t.cells:=Nat.mul_le_mul_right _ W
 have lv:c.xs.length*c.t.cells<=cur.size:=by rw[ld];exact Nat.mul_le_mul_right _ lc
 refine h.setRow q le (cells:=news++cells.drop news.length) ?_ (cP (fun _ _=>cq ln lo c.t) (Gk V (by rw[O];exact xP o.length lf W)))
 refine⟨by simp only[R];rw[List.length_append,List.length_drop,lk,O];omega,.inr ⟨g,cap,_,by simp only[R];exact L,lh,setRow_heap _ _ _ _ _ _ Y,by simp only[R];exact lc,li,?_,?_⟩⟩
 ·have e:cur.toList.length=cur.size:=Array.length_toList
  rw[List.size_toArray,List.length_append,List.length_drop,e,O,<-ld]
  omega
 ·simp only[R]
  rw[<-lj,List.drop_take,List.take_append,List.take_of_length_le (by omega),O]
/-! Structs whose fields own things. -/
theorem qz{M:Nat->Prop}:∀{vs:List Value} {l:List bQ},cM w M m vs l->vs.length=l.length
 |[],[],_=>rfl
 |[],_::_,h=>h.elim
 |_::_,[],h=>h.elim
 |_::_,.v _::_,⟨_,h⟩=>by simp[qz h]
 |_::_,.r _::_,⟨_,h⟩=>by simp[qz h]
 |_::vs,.a::l,h=>by simp[qz (vs:=vs) (l:=l) h]
theorem ou{M:Nat->Prop}:∀{v1 v2:List Value} {l1 l2:List bQ},cM w M m v1 l1->cM w M m v2 l2->cM w M m (v1++v2) (l1++l2)
 |[],_,[],_,_,h=>h
 |[],_,_::_,_,h,_=>h.elim
 |_::_,_,[],_,h,_=>h.elim
 |_::_,_,.v _::_,_,⟨q,o⟩,h=>⟨q,ou o h⟩
 |_::_,_,.r _::_,_,⟨q,o⟩,h=>⟨q,ou o h⟩
 |_::vs,_,.a::l,_,o,h=>ou (v1:=vs) (l1:=l) o h
theorem jZ{M:Nat->Prop}:∀(n:Nat) {vs:List Value} {l:List bQ},cM w M m vs l->cM w M m (vs.take n) (l.take n)/\cM w M m (vs.drop n) (l.drop n)
 |0,vs,l,h=>⟨trivial,h⟩
 |n+1,[],[],_=>⟨trivial,trivial⟩
 |n+1,[],_::_,h=>h.elim
 |n+1,_::_,[],h=>h.elim
 |n+1,_::_,.v _::_,⟨q,o⟩=>⟨⟨q,(jZ n o).1⟩,(jZ n o).2⟩
 |n+1,_::_,.r _::_,⟨q,o⟩=>⟨⟨q,(jZ n o).1⟩,(jZ n o).2⟩
 |n+1,_::vs,.a::l,h=>⟨(jZ n (vs:=vs) (l:=l) h).1,(jZ n (vs:=vs) (l:=l) h).2⟩
theorem Dz{M:Nat->Prop}:∀(vs:List Value),cM w M m vs (List.replicate vs.length .a)
 |[]=>trivial
 |_::vs=>Dz vs
def rp:List ao->Option (List bQ)
 |[]=>some []
 |.val t x::l=>match rp l with
  |some r=>some (.v ⟨t,x⟩::r)
  |none=>none
 |_=>none
theorem Ds{M:Nat->Prop}:∀{vs:List Value} {l:List ao} {r:List bQ},rp l=some r->cg w M m vs l->cM w M m vs r
 |[],[],_,h,_=>by cases h;trivial
 |_::_,[],_,_,o=>o.elim
 |[],_::_,_,_,o=>o.elim
 |v::vs,s::l,r,h,⟨q,L⟩=>by
  unfold rp at h
  split at h
  ·rename_i e;cases e
  ·rename_i t x R e
   cases e
   split at h
   ·rename_i U O;cases h;exact⟨q,Ds O L⟩
   ·cases h
  ·cases h
def CP(st:af)(u:ag)(s:ao):Option (List bQ):=
 match s with
 |.val t x=>match t.beq u with
  |true=>rp (leaves t x)
  |false=>match u,t.agg with
   |.ck,false=>some [.v ⟨t,x⟩]
   |_,_=>none
 |.row r=>match Nat.beq u.cells 1,look st.rw r with
  |true,some _=>some [.r r]
  |_,_=>none
 |.iter b=>match Nat.beq u.cells 1,look st.ad b with
  |true,some (.mp _ _ _)=>some [.r b]
  |_,_=>none
 |_=>none
theorem Lu(h:an cx m st T w){u:ag}{s:ao}{c:List bQ}{v:Value}(o:CP st u s=some c)(q:aN w (ar cx m st.ids) m v s):
  cM w (ar cx m st.ids) m v.cells.toList c/\v.cells.size=u.cells:=by
 unfold CP at o
 split at o
 ·rename_i t x
  split at o
  ·rename_i L
   obtain rfl:=ag.eq_of_beq L
   have O:=iI q
   exact⟨Ds o (qh t O),by rw[<-b6 t O];simp⟩
  ·split at o
   ·rename_i U _
    cases o
    have V:=gh t ((bA U).1 (show bc w (ar cx m st.ids) v t x from q)) v List.mem_cons_self
    have R:v.cells=#[v]:=by cases v<;>first|rfl|(simp[Value.oneCell']at V)
    rw[R]
    exact⟨⟨q,trivial⟩,rfl⟩
   ·cases o
 ·rename_i r
  split at o
  ·rename_i c' L W
   cases o
   have e:v=m r:=q
   have O:=row_one h (aW W)
   have R:v.cells=#[v]:=by rw[e];cases Y:m r<;>first|rfl|(rw[Y]at O;simp[Value.oneCell']at O)
   rw[R]
   exact⟨⟨e,trivial⟩,by rw[Nat.eq_of_beq_eq_true L];rfl⟩
  ·cases o
 ·rename_i b
  split at o
  ·rename_i k v' ps L Z
   cases o
   have e:v=m b:=q
   obtain⟨g,la,_⟩:=h.box (aW Z)
   have R:v.cells=#[v]:=by rw[e,la];rfl
   rw[R]
   exact⟨⟨e,trivial⟩,by rw[Nat.eq_of_beq_eq_true L];rfl⟩
  ·cases o
 ·cases o
def r5(P:Program)(st:af)(t:TypeId):List (Nat×Operand)->List bQ->Option (List bQ)
 |[],l=>some l
 |(i,x)::r,l=>match fieldInfo P t i,aO st x with
  |some (off,u),some s=>match CP st u s,Nat.ble (off+u.cells) l.length with
   |some c,true=>r5 P st t r (l.take off++c++l.drop (off+u.cells))
   |_,_=>none
  |_,_=>none
theorem Iv{t:TypeId}{la:Array Field}(lb:cx.P.underlying t=some (.struct la))(h:an cx m st T w)
  {place:Nat->Option (Nat×Nat)}(V:∀i off q,fieldInfo cx.P t i=some (off,q)->place i=some (off,q.cells)):
  ∀(parts:List (Nat×Operand)) (l O:List bQ) (o:List Value),cM w (ar cx m st.ids) m o l->r5 cx.P st t parts l=some O->
   ∃U,Instr.fill place o.toArray (parts.map fun p=>(p.1,Act.eval ⟨T,ah.D cx⟩ p.2))=some U.toArray/\cM w (ar cx m st.ids) m U O
 |[],l,O,o,R,L=>by cases L;exact⟨o,rfl,R⟩
 |(i,aa)::r,l,O,o,R,L=>by
  unfold r5 at L
  split at L
  ·rename_i off q s lc ld
   split at L
   ·rename_i c le W
    have W:=Nat.le_of_ble_eq_true W
    obtain⟨lf,Y⟩:=Lu h le (a8 h ld)
    have ln:=qz R
    have lg:(Act.eval ⟨T,ah.D cx⟩ aa).cells.toList.length=q.cells:=by rw[Array.length_toList,Y]
    have lh:o=o.take off++(o.drop off).take q.cells++o.drop (off+q.cells):=by
     rw[List.append_assoc,<-List.drop_drop,List.take_append_drop,List.take_append_drop]
    have li:(o.take off).length=off:=by rw[List.length_take];omega
    have lj:((o.drop off).take q.cells).length=q.cells:=by rw[List.length_take,List.length_drop];omega
    obtain⟨U,lk,ll⟩:=Iv lb h V r _ O (o.take off++(Act.eval ⟨T,ah.D cx⟩ aa).cells.toList++o.drop (off+q.cells)) (ou (ou (jZ off R).1 lf) (jZ (off+q.cells) R).2) L
    refine⟨U,?_,ll⟩
    rw[List.map_cons,Instr.fill,V i off q lc]
    have lm:¬(((Act.eval ⟨T,ah.D cx⟩ aa).cells.size≠q.cells||decide (off+(Act.eval ⟨T,ah.D cx⟩ aa).cells.size>o.toArray.size))=true):=by
     simp only[Y,List.size_toArray]
     simp
     omega
    simp only[]
    rw[if_neg lm]
    have Z:=rY (Act.eval ⟨T,ah.D cx⟩ aa).cells.toList (o.take off) (o.drop (off+q.cells)) ((o.drop off).take q.cells) (by rw[lj,lg])
    rw[<-lh,li,Array.toArray_toList]at Z
    rw[Z]
    exact lk
   ·cases L
  ·cases L
def bQ.aM(st:af):bQ->ao
 |.v u=>.val u.t u.x
 |.r b=>match look st.ad b with
  |some (.cells _ _)=>.ptr b 0
  |some _=>.iter b
  |none=>.row b
 |.a=>.any
theorem si(h:an cx m st T w):∀{vs:List Value} {l:List bQ},cM w (ar cx m st.ids) m vs l->cg w (ar cx m st.ids) m vs (l.map (bQ.aM st))
 |[],[],_=>trivial
 |[],_::_,h=>h.elim
 |_::_,[],h=>h.elim
 |_::_,.v _::_,⟨o,q⟩=>⟨o,si h q⟩
 |v::_,.r b::_,⟨o,q⟩=>by
  refine⟨?_,si h q⟩
  show aN _ _ _ _ (match look st.ad b with
   |some (.cells _ _)=>.ptr b 0
   |some _=>.iter b
   |none=>.row b)
  split
  ·rename_i l e O
   obtain⟨g,L,_⟩:=h.box (aW O)
   exact⟨g,L,by rw[o];exact L⟩
  ·exact o
  ·exact o
 |_::vs,.a::l,q=>⟨trivial,si (vs:=vs) (l:=l) h q⟩
def NT(r:Nat)(n:Int):ao->ao
 |.row b=>bif Nat.beq b r then .aj n else .row b
 |s=>s
def Gn(st:af)(a r:Nat)(n:Int):af:={st with ab:=st.ab.map fun p=>bif Nat.beq p.1 a then p else(p.1,NT r n p.2)}
theorem OE(h:an cx m st T w){a r:Nat}{c:cp}(V:(r,c)∈st.rw):an cx m (Gn st a r (c.xs.length:Int)) T w:=
 {h with
  cv:=fun i aM W=>by
   obtain⟨⟨j,s⟩,Y,o⟩:=List.mem_map.1 W
   obtain⟨v,O,q⟩:=h.cv j s Y
   cases R:Nat.beq j a with
   |true=>
    simp only[R,cond_true]at o
    cases o
    exact⟨v,O,q⟩
   |false=>
    simp only[R,cond_false]at o
    cases o
    refine⟨v,O,?_⟩
    cases s with
    |row b=>
     show aN _ _ _ _ (bif Nat.beq b r then .aj (c.xs.length:Int)else .row b)
     cases Z:Nat.beq b r with
     |false=>exact q
     |true=>
      have e:=Nat.eq_of_beq_eq_true Z
      subst e
      have U:v=m b:=q
      obtain⟨cells,la,_⟩:=h.rows b c V
      rcases la.2 with ⟨L,lb⟩|⟨g,cap,cur,L,_⟩
      ·exact⟨none,0,0,by rw[U,L],by rw[lb]⟩
      ·exact⟨_,_,cap,by rw[U,L],rfl⟩
    |_=>exact q}
def wG(E:Env)(st:af)(aa:Oper)(orc:List ak):Option (af×List ak×List Prop):=
 match aa.op with
 |.call {callee:=.builtin .append,args:=args,argTypes:=_}=>match args.toList,orc with
  |[.tmp a,_],⟨.unit,_⟩::orc'=>match look st.ab a with
   |some (.row r)=>match look st.rw r with
    |some c=>kT E (Gn st a r (c.xs.length:Int)) aa orc'
    |none=>none
   |_=>none
  |_,_=>none
 |.box t x=>match aa.dst,orc with
  |some d,⟨.unit,_⟩::orc'=>match ty E.P t,cY st x,Nat.blt d E.n with
   |some u,some v,true=>match v.as u with
    |some y=>some ((st.cN d (.aP u y t)).put d (.dm d []),orc',[])
    |none=>none
   |_,_,_=>none
  |_,_=>none
 |_=>none
theorem Qb{E:Env}(R:br E cx)(h:al cx st T w){aa:Oper}{orc:List ak}{st':af}{orc':List ak}{ob:List Prop}(o:wG E st aa orc=some (st',orc',ob))(Y:bJ ob)
  {K:Act->World->Prop}{Q:Exit->Act->World->Prop}(U:∀V w',al cx st' V w'->K ⟨V,ah.D cx⟩ w'):aa.wp cx.P ⟨T,ah.D cx⟩ w K Q:=by
 obtain⟨m,L⟩:=h
 unfold wG at o
 split at o
 ·split at o
  ·split at o
   ·split at o
    ·rename_i c Z
     exact oH R ⟨m,OE L (aW Z)⟩ o Y U
    ·cases o
   ·cases o
  ·cases o
 ·rename_i t x la
  split at o
  case h_2=>cases o
  rename_i d lj lk aj
  split at o
  case h_2=>cases o
  rename_i u v ll lb lc
  split at o
  case h_2=>cases o
  rename_i y ld
  cases o
  have W:d<cx.n:=by rw[R.n];exact cw lc
  have le:=ak.cO ld
  subst le
  have lf:=iI (cK L lb)
  have O:cX cx m st w d (eP w.heap.size (.aP u y t)) (w.alloc (.cells (Act.eval ⟨T,ah.D cx⟩ x).cells t)):=
   cX.fresh L d _ (gL _ _) fun g lg=>by cases jE lg;exact⟨Nat.le_refl _,by simp⟩
  have lh:∀i,i∈(st.cN d (.aP u y t)).ids->i=d\/i∈st.ids:=by
   intro i q
   rw[sx]at q
   rcases List.mem_cons.1 q with q|q
   ·exact .inl q
   ·exact .inr ((kr st d i).1 q).1
  have li:=L.cN W O (.inl (mS L)) ⟨(Act.eval ⟨T,ah.D cx⟩ x).cells,heap_alloc_new w _,cq O.keeps (O.mut lh) u lf⟩
  refine fQ (v:=.pointer (some ⟨w.heap.size,0,none⟩)) (w':=w.alloc (.cells (Act.eval ⟨T,ah.D cx⟩ x).cells t)) (ca (s:=Instr.box t (Act.eval ⟨T,ah.D cx⟩ x)) (by simp only[execOp,la]) ?_) ?_
  ·simp[Instr.box,newVar,newRow]
  ·rw[aj]
   exact U _ _ ⟨_,li.put W ⟨w.heap.size,b7 _ _ _,rfl⟩⟩
 ·cases o
def rH(st:af):List Operand->Option (List ak)
 |[]=>some []
 |x::xs=>match aO st x,rH st xs with
  |some (.vptr u y),some l=>some (⟨.ptr u,y⟩::l)
  |_,_=>none
theorem DV(h:an cx m st T w):∀{xs:List Operand} {l:List ak},rH st xs=some l->dB w (ar cx m st.ids) (xs.map (Act.eval ⟨T,ah.D cx⟩)) l/\∀u∈l,u.t.agg=false
 |[],l,o=>by cases o;exact⟨trivial,fun u L=>absurd L List.not_mem_nil⟩
 |x::xs,l,o=>by
  unfold rH at o
  split at o
  ·rename_i u y Y O R
   cases o
   obtain⟨U,V⟩:=DV h R
   obtain⟨a,cells,e,W,ch⟩:=a8 h O
   refine⟨⟨(bA (t:=.ptr u) rfl).2 ⟨a,cells,by rw[e],W,ch⟩,U⟩,fun v q=>?_⟩
   rcases List.mem_cons.1 q with rfl|q
   ·rfl
   ·exact V v q
  ·cases o
def rS(E:Env)(st:af)(aa:Oper)(orc:List ak):Option (af×List ak×List Prop):=
 match aa.op with
 |.call {callee:=.builtin .copy,args:=args,argTypes:=q}=>match args.toList,q.toList with
  |[x,y],[t,L]=>match aO st x,dE E.P t with
   |some (.row r),some (e,u)=>match look st.rw r with
    |some c=>match c.t.beq u,jQ E.P st c.t L y with
     |true,some o=>match aa.dst with
      |none=>some (st.setRow r ⟨c.e,c.t,o++c.xs.drop o.length⟩,orc,[o.length<=c.xs.length])
      |some d=>match Nat.blt d E.n with
       |true=>some ((st.setRow r ⟨c.e,c.t,o++c.xs.drop o.length⟩).put d (.val (.int .i64) (o.length:Int)),orc,[o.length<=c.xs.length])
       |false=>none
     |_,_=>none
    |none=>none
   |_,_=>none
  |_,_=>none
 |.call {callee:=.builtin .clear,args:=args,argTypes:=q}=>match args.toList,q.toList,aa.dst with
  |[x],[t],none=>match aO st x,dE E.P t with
   |some (.row r),some (e,u)=>match look st.rw r,zeroOf E.P e with
    |some c,some O=>match c.t.beq u&&u.beq O with
     |true=>some (st.setRow r ⟨c.e,c.t,List.replicate c.xs.length (bX c.t)⟩,orc,[])
     |false=>none
    |_,_=>none
   |_,_=>none
  |_,_,_=>none
 |.call {callee:=.builtin .len,args:=args,argTypes:=q}=>match args.toList,q.toList,aa.dst with
  |[x],[t],some d=>match aO st x,ty E.P t,Nat.blt d E.n with
   |some (.aj n),some (.ab _),true=>some (st.put d (.val (.int .i64) n),orc,[])
   |some (.osl b),some (.ab _),true=>match look st.ad b with
    |some (.aX _ _ xs)=>some (st.put d (.val (.int .i64) (xs.length:Int)),orc,[])
    |_=>none
   |_,_,_=>none
  |_,_,_=>none
 |.call {callee:=.builtin .min,args:=args,.. }=>match args.toList,aa.dst with
  |[x,y,z],some d=>match cY st x,cY st y,cY st z,Nat.blt d E.n with
   |some ⟨.int k,a⟩,some ⟨.int k',b⟩,some ⟨.int R,c⟩,true=>bif fS k k'&&fS k R then some (st.put d (.val (.int k) (fA (fA a b) c)),orc,[])else none
   |_,_,_,_=>none
  |_,_=>none
 |.assign (.const (.map none))=>match aa.dst,ty E.P aa.type with
  |some d,some (.map k v)=>match Nat.blt d E.n with
   |true=>some (st.put d (.val (.map k v) none),orc,[])
   |false=>none
  |_,_=>none
 |.move (.const (.map none))=>match aa.dst,ty E.P aa.type with
  |some d,some (.map k v)=>match Nat.blt d E.n with
   |true=>some (st.put d (.val (.map k v) none),orc,[])
   |false=>none
  |_,_=>none
 |.build t parts=>match aa.dst,ty E.P t,E.P.info? t with
  |some d,some u,some i=>match i.zero,u.mZ&&Nat.blt d E.n with
   |some z,true=>match Nat.beq z.cells.size u.cells,r5 E.P st t parts.toList (List.replicate z.cells.size .a)with
    |true,some l=>some (st.put d (.ep l),orc,[])
    |_,_=>none
   |_,_=>none
  |_,_,_=>none
 |.box t x=>match aa.dst,aO st x with
  |some d,some (.ep l)=>match Nat.blt d E.n with
   |true=>some ((st.cN d (.cells ((l.map (bQ.aM st)).map (ao.cW d)) t)).put d (.ptr d 0),orc,[])
   |false=>none
  |some d,some (.val u y)=>match u.agg&&Nat.blt d E.n with
   |true=>some ((st.cN d (.cells ((leaves u y).map (ao.cW d)) t)).put d (.ptr d 0),orc,[])
   |false=>none
  |_,_=>none
 |.makeFunc (.func f) first eg=>match aa.dst,first.toList,rH st eg.toList with
  |some d,[],some l=>match Nat.blt d E.n with
   |true=>some (st.put d (.val (.fn f (pairUp l).t) (pairUp l).x),orc,[])
   |false=>none
  |_,_,_=>none
 |_=>none
theorem sK{aa:Oper}{K:Act->World->Prop}{Q:Exit->Act->World->Prop}(aj:aa.dst=none){v:Value}(o:(execOp (Act.eval ⟨T,ah.D cx⟩) aa).run cx.P w=.ok (.value v) w')(q:K ⟨T,ah.D cx⟩ w'):aa.wp cx.P ⟨T,ah.D cx⟩ w K Q:=by
 unfold Oper.wp
 rw[o]
 show K (Act.put ⟨T,ah.D cx⟩ aa.dst v) w'
 rw[aj]
 exact q
theorem Dh{E:Env}(le:br E cx)(h:al cx st T w){aa:Oper}{orc:List ak}{st':af}{orc':List ak}{ob:List Prop}(o:rS E st aa orc=some (st',orc',ob))(lS:bJ ob)
  {K:Act->World->Prop}{Q:Exit->Act->World->Prop}(lq:∀lT w',al cx st' lT w'->K ⟨lT,ah.D cx⟩ w'):aa.wp cx.P ⟨T,ah.D cx⟩ w K Q:=by
 obtain⟨m,q⟩:=h
 have fin:∀(d:Nat) (v:Value) (w':World) (aA:Nat->Value) (lA:af) (aM:ao),aa.dst=some d->Nat.blt d E.n=true->(execOp (Act.eval ⟨T,ah.D cx⟩) aa).run cx.P w=.ok (.value v) w'->an cx aA lA T w'->aN w' (ar cx aA lA.ids) aA v aM->lA.put d aM=st'->aa.wp cx.P ⟨T,ah.D cx⟩ w K Q:=by
  intro d v w' aA lA aM aj L lr ad ae e
  have ls:d<cx.n:=by rw[le.n];exact cw L
  refine fQ lr ?_
  rw[aj]
  exact lq _ _ ⟨aA,e▸ad.put ls ae⟩
 unfold rS at o
 split at o
 ·rename_i args lf O
  split at o
  case h_2=>cases o
  rename_i x y t ai li lt
  split at o
  case h_2=>cases o
  rename_i r e u W lu
  split at o
  case h_2=>cases o
  rename_i c lE
  split at o
  case h_2=>cases o
  rename_i lg lv lU
  rw[<-le.P]at lu lU
  obtain⟨ld,lB,lV⟩:=il lu
  obtain⟨i2,a3,lC,_⟩:=cQ lB
  obtain⟨_,lF,lW,lX,lG⟩:=EA q lU
  have U:=aW lE
  have ln:=ag.eq_of_beq lv
  have lj:args=#[x,y]:=by rw[<-Array.toArray_toList (xs:=args),li]
  have lw:lf=#[t,ai]:=by rw[<-Array.toArray_toList (xs:=lf),lt]
  subst lj
  subst lw
  have lo:Act.eval ⟨T,ah.D cx⟩ x=m r:=a8 q W
  have lk:i2.size=c.t.cells:=by rw[ln];exact lC
  have key:lg.length<=c.xs.length->∃w',(execOp (Act.eval ⟨T,ah.D cx⟩) aa).run cx.P w=.ok (.value (goInt lg.length)) w'/\an cx m (st.setRow r ⟨c.e,c.t,lg++c.xs.drop lg.length⟩) T w':=by
   intro lY
   have am:Nat.min lg.length c.xs.length=lg.length:=Nat.min_eq_left lY
   obtain⟨cells,lH,ap,aq⟩:=q.rows r c U
   rcases lH.2 with ⟨la,lI⟩|⟨g,cap,cur,la,au,Y,lZ,av,lJ,aw⟩
   ·have ax:lg=[]:=List.eq_nil_of_length_eq_zero (by omega)
    subst ax
    have lh:c.xs=[]:=List.eq_nil_of_length_eq_zero lI
    refine⟨w,?_,?_⟩
    ·have V:=lX w (fun _ _=>rfl)
     have ay:Builtin.lenOf (Act.eval ⟨T,ah.D cx⟩ y)=pure 0:=lW
     simp only[List.length_nil]at V
     simp[execOp,O,resolve,invoke,builtin,Builtin.copy_,lo,la,run_underlying ld,ay,eB lB,<-ln,V]
    ·have R:(⟨c.e,c.t,([]:List c.t.el)++c.xs.drop ([]:List c.t.el).length⟩:cp)=c:=by simp
     rw[R]
     obtain⟨l0,lx,l3,ly⟩:=q.rows r c U
     exact q.setRow U ⟨⟨rfl,rfl,rfl,Nat.le_refl _,fun _=>Nat.le_refl _⟩,fun _ _ _=>rfl⟩ lx (cP (fun _ _=>cq (fun _ _ _=>rfl) (fun _ _ Y=>jB (fun i lb=>((k7 U q.keys c).1 i).1 lb) Y) c.t) ly)
   ·have lK:lF.length=lg.length*c.t.cells:=hO (fun _ _=>b6 c.t) _ _ lG
    have lL:lF.length<=cur.size:=by
     rw[lK,lJ]
     exact Nat.mul_le_mul_right _ (by omega)
    have lc:=run_storeCells_at (P:=cx.P) g 0 c.e lF 0 cur w Y (by simpa using lL) (xp lG)
    simp only[Nat.add_zero,List.take_zero,List.nil_append,Nat.zero_add]at lc
    refine⟨_,?_,q.over U lG lY la Y⟩
    have V:=lX w (fun _ _=>rfl)
    simp[execOp,O,resolve,invoke,builtin,Builtin.copy_,lo,la,run_underlying ld,lW,eB lB,<-ln,am,V,lc]
  split at o
  ·rename_i aj
   cases o
   obtain⟨w',lz,lM⟩:=key lS.1
   exact sK aj lz (lq _ _ ⟨m,lM⟩)
  ·rename_i d aj
   split at o
   case h_2=>cases o
   rename_i L
   cases o
   obtain⟨w',lz,lM⟩:=key lS.1
   exact fin d _ w' m _ (.val (.int .i64) _) aj L lz lM (cJ.2 rfl) rfl
 ·rename_i args lf O
  split at o
  case h_2=>cases o
  rename_i x t li lt aj
  split at o
  case h_2=>cases o
  rename_i r e u W lu
  split at o
  case h_2=>cases o
  rename_i c a4 lE lk
  split at o
  case h_2=>cases o
  rename_i lv
  cases o
  rw[Bool.and_eq_true]at lv
  have ln:=ag.eq_of_beq lv.1
  have az:=ag.eq_of_beq lv.2
  rw[<-le.P]at lu lk
  obtain⟨ld,lB,lV⟩:=il lu
  obtain⟨i,z,_,lb,lC,aB,lN⟩:=iO lk
  rw[<-az,<-ln]at lC lN
  have U:=aW lE
  have lj:args=#[x]:=by rw[<-Array.toArray_toList (xs:=args),li]
  have lw:lf=#[t]:=by rw[<-Array.toArray_toList (xs:=lf),lt]
  subst lj
  subst lw
  have lo:Act.eval ⟨T,ah.D cx⟩ x=m r:=a8 q W
  have aC:∀w',(zeroValue e).run cx.P w'=.ok z w':=fun w'=>by simp[zeroValue,typeInfo,lb,aB]
  have lD:z.cells.size=c.t.cells:=by rw[<-b6 c.t (lN w (ar cx m st.ids))];simp
  have aD:0<c.t.cells:=by rw[ln];exact lV
  obtain⟨cells,lH,ap,aq⟩:=q.rows r c U
  rcases lH.2 with ⟨la,lI⟩|⟨g,cap,cur,la,au,Y,lZ,av,lJ,aw⟩
  ·have lh:c.xs=[]:=List.eq_nil_of_length_eq_zero lI
   refine sK aj (w':=w) (v:=.tuple #[]) ?_ (lq _ _ ⟨m,?_⟩)
   ·simp[execOp,O,resolve,invoke,builtin,Builtin.clear_,lo,la,run_underlying ld]
   ·have R:(⟨c.e,c.t,List.replicate c.xs.length (bX c.t)⟩:cp)=c:=by rw[lh];obtain⟨aE,nj,aF⟩:=c;simp only at lh;subst lh;rfl
    rw[R]
    obtain⟨l0,lx,l3,ly⟩:=q.rows r c U
    exact q.setRow U ⟨⟨rfl,rfl,rfl,Nat.le_refl _,fun _=>Nat.le_refl _⟩,fun _ _ _=>rfl⟩ lx (cP (fun _ _=>cq (fun _ _ _=>rfl) (fun _ _ Y=>jB (fun i lb=>((k7 U q.keys c).1 i).1 lb) Y) c.t) ly)
  ·have lO:=E2 (lN w (ar cx m st.ids)) aD c.xs.length
   have l4:(Builtin.zeroCells z.cells c.xs.length)=madeCells z.cells (c.xs.length*c.t.cells):=by rw[<-lD];rfl
   have l5:=q.over U lO (by rw[List.length_replicate];exact Nat.le_refl _) la Y
   have aG:List.replicate c.xs.length (bX c.t)++c.xs.drop (List.replicate c.xs.length (bX c.t)).length=List.replicate c.xs.length (bX c.t):=by
    rw[List.length_replicate,List.drop_eq_nil_of_le (Nat.le_refl _),List.append_nil]
   rw[aG]at l5
   have lK:(madeCells z.cells (c.xs.length*c.t.cells)).toList.length=c.xs.length*c.t.cells:=by
    rw[hO (fun _ _=>b6 c.t) _ _ lO,List.length_replicate]
   have lL:(madeCells z.cells (c.xs.length*c.t.cells)).toList.length<=cur.size:=by
    rw[lK,lJ]
    exact Nat.mul_le_mul_right _ lZ
   have lc:=run_storeCells_at (P:=cx.P) g 0 c.e (madeCells z.cells (c.xs.length*c.t.cells)).toList 0 cur w Y (by simpa using lL) (xp lO)
   simp only[Nat.add_zero,List.take_zero,List.nil_append,Nat.zero_add]at lc
   by_cases l6:c.xs.length=0
   ·have lh:c.xs=[]:=List.eq_nil_of_length_eq_zero l6
    refine sK aj (w':=w) (v:=.tuple #[]) ?_ (lq _ _ ⟨m,?_⟩)
    ·have aH:m r=.slice (some ⟨g,0,none⟩) 0 cap:=by rw[la,l6]
     simp[execOp,O,resolve,invoke,builtin,Builtin.clear_,lo,aH,run_underlying ld]
    ·have R:(⟨c.e,c.t,List.replicate c.xs.length (bX c.t)⟩:cp)=c:=by rw[lh];obtain⟨aE,nj,aF⟩:=c;simp only at lh;subst lh;rfl
     rw[R]
     obtain⟨l0,lx,l3,ly⟩:=q.rows r c U
     exact q.setRow U ⟨⟨rfl,rfl,rfl,Nat.le_refl _,fun _=>Nat.le_refl _⟩,fun _ _ _=>rfl⟩ lx (cP (fun _ _=>cq (fun _ _ _=>rfl) (fun _ _ Y=>jB (fun i lb=>((k7 U q.keys c).1 i).1 lb) Y) c.t) ly)
   ·refine sK aj (v:=.tuple #[]) ?_ (lq _ _ ⟨m,l5⟩)
    have aI:m r=.slice (some ⟨g,0,none⟩) c.xs.length cap:=la
    have lz:(Builtin.clear_ #[t] aa.type #[m r]).run cx.P w=.ok (.tuple #[]) (w.setRow g ((madeCells z.cells (c.xs.length*c.t.cells)).toList++cur.toList.drop (madeCells z.cells (c.xs.length*c.t.cells)).toList.length).toArray):=by
     rw[aI]
     obtain⟨k,ll⟩:∃k,c.xs.length=k+1:=⟨c.xs.length-1,by omega⟩
     rw[ll]at lc l4⊢
     simp only[Builtin.clear_,List.getElem?_toArray,List.getElem?_cons_zero,Sem.run_bind,run_underlying ld,Result.andThen_ok,aC w,l4,lc,Sem.run_pure]
    simp only[execOp,O,resolve,invoke,builtin,Sem.run_bind,Sem.run_pure,Result.andThen_ok,List.map_toArray,List.map_cons,List.map_nil,lo,lz]
 ·rename_i args lf O
  split at o
  case h_2=>cases o
  rename_i x t d li lt aj
  have lj:args=#[x]:=by rw[<-Array.toArray_toList (xs:=args),li]
  have lw:lf=#[t]:=by rw[<-Array.toArray_toList (xs:=lf),lt]
  subst lj
  subst lw
  split at o
  ·rename_i n u W lm L
   cases o
   rw[<-le.P]at lm
   obtain⟨i,_,_,aJ,_,V,_⟩:=cQ lm
   obtain⟨a,k,cap,Z,R⟩:=a8 q W
   refine fin d (.int .i64 n) w m _ (.val (.int .i64) n) aj L ?_ q (cJ.2 rfl) rfl
   rw[<-R]
   simp[execOp,O,resolve,invoke,builtin,Builtin.len_,Z,run_underlying V,goInt]
  ·rename_i b u W lm L
   split at o
   case h_2=>cases o
   rename_i e k xs aK
   cases o
   rw[<-le.P]at lm
   obtain⟨i,_,_,aJ,_,V,_⟩:=cQ lm
   obtain⟨g,cap,us,a5,cur,Z,_⟩:=q.aX aK
   obtain⟨a6,R⟩:=a8 q W
   rw[Z]at R
   have lP:Act.eval ⟨T,ah.D cx⟩ x=.slice (some ⟨g,0,none⟩) xs.length cap:=by
    simp only[Value.tuple.injEq,Array.mk.injEq,List.cons.injEq]at R
    exact R.1.symm
   refine fin d (.int .i64 (xs.length:Int)) w m _ (.val (.int .i64) _) aj L ?_ q (cJ.2 rfl) rfl
   simp[execOp,O,resolve,invoke,builtin,Builtin.len_,lP,run_underlying V,goInt]
  ·cases o
 ·rename_i args _ O
  split at o
  case h_2=>cases o
  rename_i x y z d li aj
  split at o
  case h_2=>cases o
  rename_i k a k' b aL c W aO lk L
  cases ll:fS k k'&&fS k aL with
  |false=>rw[ll]at o;cases o
  |true=>
  rw[ll]at o
  cases o
  rw[Bool.and_eq_true]at ll
  obtain rfl:=kD ll.1
  obtain rfl:=kD ll.2
  have lj:args=#[x,y,z]:=by rw[<-Array.toArray_toList (xs:=args),li]
  subst lj
  have Z:=cJ.1 (cK q W)
  have R:=cJ.1 (cK q aO)
  have lP:=cJ.1 (cK q lk)
  refine fin d (.int k (fA (fA a b) c)) w m _ (.val (.int k) _) aj L ?_ q (cJ.2 rfl) rfl
  simp[execOp,O,resolve,invoke,builtin,Builtin.min_,Z,R,lP,Builtin.min2,fA]
  rfl
 ·rename_i O
  split at o
  case h_2=>cases o
  rename_i d k v aj lm
  split at o
  case h_2=>cases o
  rename_i L
  cases o
  exact fin d (.map none) w m _ (.val (.map k v) none) aj L (by simp[execOp,O,Act.eval]) q ((bA (t:=.map k v) rfl).2 rfl) rfl
 ·rename_i O
  split at o
  case h_2=>cases o
  rename_i d k v aj lm
  split at o
  case h_2=>cases o
  rename_i L
  cases o
  exact fin d (.map none) w m _ (.val (.map k v) none) aj L (by simp[execOp,O,Act.eval]) q ((bA (t:=.map k v) rfl).2 rfl) rfl
 ·rename_i t parts O
  split at o
  case h_2=>cases o
  rename_i d u i aj ld lb
  split at o
  case h_2=>cases o
  rename_i z lk lc
  split at o
  case h_2=>cases o
  rename_i l lD l7
  cases o
  rw[Bool.and_eq_true]at lc
  rw[<-le.P]at ld lb l7
  have lD:=Nat.eq_of_beq_eq_true lD
  obtain⟨a7,a9,lC,V⟩:=cQ ld
  have aP:∃lp d',cx.P.underlying t=some (.struct lp)/\fieldsOf (cH cx.P d') 0 lp.toList=some u:=by
   cases u<;>first|exact V|(simp[ag.mZ]at lc)
  obtain⟨lp,d',lQ,aQ⟩:=aP
  obtain⟨l8,l9,aR⟩:=Iv lQ q (place:=fun k=>(lp.map fun f=>(f.offset,cx.P.cellsOf f.type))[k]?) (fun k off ba aS=>by
   obtain⟨aT,bb,ab,aU,aV,aX,bc⟩:=r4 aS
   have:aT=lp:=by rw[lQ]at ab;cases ab;rfl
   subst this
   obtain⟨i3,aY,aZ,_⟩:=cQ aV
   rw[Array.getElem?_map,aU]
   simp[aX,Program.cellsOf,aY,aZ]) parts.toList _ l z.cells.toList (by rw[<-Array.length_toList];exact Dz _) l7
  refine fin d (.agg l8.toArray) w m _ (.ep l) aj lc.2 (ca (s:=Instr.build t (parts.map fun p=>(p.1,Act.eval ⟨T,ah.D cx⟩ p.2))) (by simp only[execOp,O]) ?_) q ⟨l8,rfl,aR⟩ rfl
  refine run_build w t _ _ ?_
  unfold Program.built
  simp only[lb,lQ,lk,B9 lp.toList (fun f V=>zV aQ f V)]
  rw[Array.toList_map]
  rw[Array.toArray_toList]at l9
  rw[<-l9]
  congr 1
  funext k
  simp
 ·rename_i t x O
  split at o
  case h_3=>cases o
  ·rename_i d l aj W
   split at o
   case h_2=>cases o
   rename_i L
   cases o
   have ls:d<cx.n:=by rw[le.n];exact cw L
   obtain⟨vs,Z,lr⟩:=a8 q W
   have lR:=oJ q ls (cells:=vs.toArray) (e:=t) (l:=l.map (bQ.aM st)) (si q lr)
   refine fin d _ _ _ _ (.ptr d 0) aj L (ca (s:=Instr.box t (Act.eval ⟨T,ah.D cx⟩ x)) (by simp only[execOp,O]) ?_) lR ⟨w.heap.size,b7 _ _ _,rfl⟩ rfl
   rw[Z]
   simp[Instr.box,newVar,newRow,Value.cells]
  ·rename_i d u y aj W
   split at o
   case h_2=>cases o
   rename_i L
   rw[Bool.and_eq_true]at L
   cases o
   have ls:d<cx.n:=by rw[le.n];exact cw L.2
   obtain⟨vs,Z,lr⟩:=(dK L.1).1 (a8 q W)
   have lR:=oJ q ls (cells:=vs.toArray) (e:=t) (l:=leaves u y) (qh u lr)
   refine fin d _ _ _ _ (.ptr d 0) aj L.2 (ca (s:=Instr.box t (Act.eval ⟨T,ah.D cx⟩ x)) (by simp only[execOp,O]) ?_) lR ⟨w.heap.size,b7 _ _ _,rfl⟩ rfl
   rw[Z]
   simp[Instr.box,newVar,newRow,Value.cells]
 ·rename_i f first eg O
  split at o
  case h_2=>cases o
  rename_i d l aj V a0
  split at o
  case h_2=>cases o
  rename_i L
  cases o
  have Z:first.map (Act.eval ⟨T,ah.D cx⟩)=#[]:=by rw[show first=#[] by rw[<-Array.toArray_toList (xs:=first),V]];simp
  obtain⟨a1,a2⟩:=DV q a0
  have R:eg.map (Act.eval ⟨T,ah.D cx⟩)=(eg.toList.map (Act.eval ⟨T,ah.D cx⟩)).toArray:=by apply Array.ext';simp
  refine fin d (.func (.func f) #[] (eg.toList.map (Act.eval ⟨T,ah.D cx⟩)).toArray) w m _ (.val (.fn f (pairUp l).t) (pairUp l).x) aj L (ca (s:=Instr.makeFunc (.func f) (first.map (Act.eval ⟨T,ah.D cx⟩)) (eg.map (Act.eval ⟨T,ah.D cx⟩))) (by simp only[execOp,O]) ?_) q ((bA (t:=.fn f (pairUp l).t) rfl).2 ⟨_,rfl,pf a2 a1⟩) rfl
  rw[Z,R]
  simp[Instr.makeFunc]
 ·cases o
def yJ(E:Env)(st:af)(aa:Oper)(orc:List ak):Option (af×List ak×List Prop):=
 match wG E st aa orc with
 |some r=>some r
 |none=>match yX E st aa orc with
  |some r=>some r
  |none=>rS E st aa orc
theorem LV{E:Env}(q:br E cx)(h:al cx st T w){aa:Oper}{orc:List ak}{st':af}{orc':List ak}{ob:List Prop}(o:yJ E st aa orc=some (st',orc',ob))(L:bJ ob)
  {K:Act->World->Prop}{Q:Exit->Act->World->Prop}(O:∀U w',al cx st' U w'->K ⟨U,ah.D cx⟩ w'):aa.wp cx.P ⟨T,ah.D cx⟩ w K Q:=by
 unfold yJ at o
 split at o
 ·rename_i r R
  cases o
  exact Qb q h R L O
 ·split at o
  ·rename_i r R
   cases o
   exact QW q h R L O
  ·exact Dh q h o L O
end Go.Ev
namespace Go.Ev
open Go Go.RowKit
variable [bV]
variable {cx:bx} {m aA:Nat->Value} {st st':af} {T:Array Value} {w w':World}
variable [ah cx]
def fE(i:Nat)(l:List Nat):Bool:=l.any (Nat.beq i)
theorem nU{i:Nat}{l:List Nat}:fE i l=true↔i∈l:=by
 unfold fE
 rw[List.any_eq_true]
 exact⟨fun⟨x,o,e⟩=>by rw[Nat.eq_of_beq_eq_true e];exact o,fun h=>⟨i,h,Nat.beq_refl i⟩⟩
def gN{α:Type}(o:List Nat)(l:List (Nat×α)):List (Nat×α):=l.filter fun p=>!(fE p.1 o)
theorem nC{α:Type}{o:List Nat}{l:List (Nat×α)}{p:Nat×α}:p∈gN o l↔p∈l/\p.1∉o:=by
 unfold gN
 rw[List.mem_filter,Bool.not_eq_true',<-nU]
 exact⟨fun⟨a,b⟩=>⟨a,by rw[b];decide⟩,fun⟨a,b⟩=>⟨a,by cases h:fE p.1 o with|true=>exact absurd h b|false=>rfl⟩⟩
def af.dv(st:af)(o:List Nat)(q:List (Nat×bM))(L:List (Nat×cp))(f:ao->ao):af:=
 {ab:=st.ab.map fun p=>(p.1,f p.2),ad:=q++(gN o st.ad).map fun p=>(p.1,p.2.map f),rw:=L++gN o st.rw}
theorem np{D:List Nat}{L:List (Nat×bM)}{O:List (Nat×cp)}{f:ao->ao}{i:Nat}:i∈(st.dv D L O f).ids↔(i∈L.map (·.1)\/i∈O.map (·.1))\/(i∈st.ids/\i∉D):=by
 simp only[af.ids,af.dv,List.map_append,List.mem_append,List.map_map,Function.comp_def]
 have R:∀{α:Type} {l:List (Nat×α)},i∈(gN D l).map (·.1)↔i∈l.map (·.1)/\i∉D:=by
  intro α l
  rw[List.mem_map,List.mem_map]
  constructor
  ·rintro⟨p,q,rfl⟩;obtain⟨a,b⟩:=nC.1 q;exact⟨⟨p,a,rfl⟩,b⟩
  ·rintro⟨⟨p,q,rfl⟩,o⟩;exact⟨p,nC.2 ⟨q,o⟩,rfl⟩
 have U:i∈List.map (fun x:Nat×bM=>x.fst) (gN D st.ad)↔i∈st.ad.map (·.1)/\i∉D:=R
 have V:i∈List.map (fun x:Nat×cp=>x.fst) (gN D st.rw)↔i∈st.rw.map (·.1)/\i∉D:=R
 rw[U,V]
 constructor
 ·rintro((h|h)|(h|h))
  ·exact .inl (.inl h)
  ·exact .inr ⟨.inl h.1,h.2⟩
  ·exact .inl (.inr h)
  ·exact .inr ⟨.inr h.1,h.2⟩
 ·rintro((h|h)|⟨h|h,o⟩)
  ·exact .inl (.inl h)
  ·exact .inr (.inl h)
  ·exact .inl (.inr ⟨h,o⟩)
  ·exact .inr (.inr ⟨h,o⟩)
structure gt(cx:bx)(m aA:Nat->Value)(st:af)(w w':World)(D:List Nat)(o:List (Nat×bM))(q:List (Nat×cp)):Prop where
 same:Same w w'
 block:∀g,g<w.heap.size->(∀j,j∈D->j∈st.ids->¬own (m j) g)->w'.heap[g]? =w.heap[g]?
 old:∀i,i∈st.ids->i∉D->aA i=m i
 new:∀i,i∈o.map (·.1)\/i∈q.map (·.1)->∀g,own (aA i) g->(∃j,j∈D/\j∈st.ids/\own (m j) g)\/(w.heap.size<=g/\g<w'.heap.size)
 apart:∀i j,i∈o.map (·.1)\/i∈q.map (·.1)->j∈o.map (·.1)\/j∈q.map (·.1)->i≠j->∀g,own (aA i) g->¬own (aA j) g
 keys:(o.map (·.1)++q.map (·.1)).Nodup
 kz:∀i,i∈o.map (·.1)\/i∈q.map (·.1)->i∈st.ids->i∈D
 j8:∀b c,(b,c)∈o->c.one=true->b<cx.n
 eO:∀r c,(r,c)∈q->r<cx.n
theorem gt.keeps{D:List Nat}{o:List (Nat×bM)}{q:List (Nat×cp)}(X:gt cx m aA st w w' D o q):∀b,b<w.heap.size->¬ar cx m st.ids b->w'.heap[b]? =w.heap[b]? :=
 fun b L O=>X.block b L fun j _ R U=>O (.inr ⟨j,R,U⟩)
theorem gt.mut{D:List Nat}{L:List (Nat×bM)}{O:List (Nat×cp)}{f:ao->ao}(X:gt cx m aA st w w' D L O):∀b,b<w.heap.size->ar cx aA (st.dv D L O f).ids b->ar cx m st.ids b:=by
 rintro b Y (R|⟨i,o,q⟩)
 ·exact .inl R
 ·rcases np.1 o with o|⟨o,U⟩
  ·rcases X.new i o b q with ⟨j,_,V,W⟩|⟨Z,_⟩
   ·exact .inr ⟨j,V,W⟩
   ·omega
  ·rw[X.old i o U]at q
   exact .inr ⟨i,o,q⟩
theorem an.wz(h:an cx m st T w){D:List Nat}{O:List (Nat×bM)}{R:List (Nat×cp)}{f:ao->ao}(X:gt cx m aA st w w' D O R)
  (lz:∀v s,aN w' (ar cx aA (st.dv D O R f).ids) m v s->aN w' (ar cx aA (st.dv D O R f).ids) aA v (f s))
  (lA:∀b c,(b,c)∈O->∃g,gO (aA b) g c/\gd w' (ar cx aA (st.dv D O R f).ids) aA (aA b) g c)
  (lB:∀r c,(r,c)∈R->∃cells,w'.ownsRow 0 c.e c.t.cells (aA r) c.xs.length cells/\bL (aK w' (ar cx aA (st.dv D O R f).ids) c.t) cells c.xs):an cx aA (st.dv D O R f) T w':=by
 have li:=X.keeps
 have lj:=X.mut (f:=f)
 have lp:∀v s,aN w (ar cx m st.ids) m v s->aN w' (ar cx aA (st.dv D O R f).ids) aA v (f s):=fun v s lC=>lz v s (eN li lj lC)
 have lq:∀j,j∈st.ids->j∉D->∀g,own (m j) g->w'.heap[g]? =w.heap[g]? :=fun j q Y g V=>X.block g (h.lt q V).1 fun i U lD lE=>h.apart i j lD q (fun e=>Y (e▸U)) g lE V
 have lr:∀i,i∈O.map (·.1)\/i∈R.map (·.1)->∀g,own (aA i) g->cx.w0.heap.size<=g\/cx.X g:=fun i U g V=>by
  rcases X.new i U g V with ⟨j,_,q,lF⟩|⟨lb,_⟩
  ·exact(h.lt q lF).2
  ·exact .inl (Nat.le_trans h.frame.size lb)
 have lG:∀{b c},(b,c)∈O->b∈O.map (·.1)\/b∈R.map (·.1):=fun o=>.inl (List.mem_map.2 ⟨_,o,rfl⟩)
 have lH:∀{b c},(b,c)∈R->b∈O.map (·.1)\/b∈R.map (·.1):=fun o=>.inr (List.mem_map.2 ⟨_,o,rfl⟩)
 have lk:∀{b c},(b,c)∈st.ad->b∈st.ids:=fun o=>List.mem_append.2 (.inl (List.mem_map.2 ⟨_,o,rfl⟩))
 have ll:∀{b c},(b,c)∈st.rw->b∈st.ids:=fun o=>List.mem_append.2 (.inr (List.mem_map.2 ⟨_,o,rfl⟩))
 refine{size:=h.size,frame:=?_,outer:=h.outer,cv:=?_,boxes:=?_,rows:=?_,apart:=?_,keys:=?_,fixed:=?_,kept:=?_}
 ·refine h.frame.step X.same fun b o lI=>X.block b (Nat.lt_of_lt_of_le o h.frame.size) fun j _ q V=>?_
  rcases(h.lt q V).2 with ls|ls
  ·omega
  ·exact lI ls
 ·intro i aM U
  obtain⟨⟨j,s⟩,L,lc⟩:=List.mem_map.1 U
  cases lc
  obtain⟨v,ld,a2⟩:=h.cv j s L
  exact⟨v,ld,lp v s a2⟩
 ·intro b c o
  rcases List.mem_append.1 o with o|o
  ·obtain⟨g,ld,a2⟩:=lA b c o
   exact⟨g,ld,lr b (lG o),a2⟩
  ·obtain⟨⟨j,s⟩,L,lc⟩:=List.mem_map.1 o
   cases lc
   obtain⟨L,Y⟩:=nC.1 L
   obtain⟨g,la,le,lf⟩:=h.boxes j s L
   rw[X.old j (lk L) Y]
   exact⟨g,iF.2 la,le,ii li lj (gg la) (lq j (lk L) Y) lp lf⟩
 ·intro r c W
  rcases List.mem_append.1 W with W|W
  ·obtain⟨cells,ld,a2⟩:=lB r c W
   exact⟨cells,ld,lr r (lH W),a2⟩
  ·obtain⟨L,Y⟩:=nC.1 W
   obtain⟨cells,la,le,lf⟩:=h.rows r c L
   rw[X.old r (ll L) Y]
   exact⟨cells,nP la fun b o=>lq r (ll L) Y b (fO o),le,cP (fun _ _=>cq li lj c.t) lf⟩
 ·intro i j U q lt g V Z
  rcases np.1 U with U|⟨U,lu⟩
  ·rcases np.1 q with q|⟨q,lh⟩
   ·exact X.apart i j U q lt g V Z
   ·rw[X.old j q lh]at Z
    rcases X.new i U g V with ⟨k,lg,lm,ln⟩|⟨lb,_⟩
    ·exact h.apart k j lm q (fun e=>lh (e▸lg)) g ln Z
    ·have:=(h.lt q Z).1;omega
  ·rw[X.old i U lu]at V
   rcases np.1 q with q|⟨q,lh⟩
   ·rcases X.new j q g Z with ⟨k,lg,lm,ln⟩|⟨lb,_⟩
    ·exact h.apart k i lm U (fun e=>lu (e▸lg)) g ln V
    ·have:=(h.lt U V).1;omega
   ·rw[X.old j q lh]at Z
    exact h.apart i j U q lt g V Z
 ·have lv:∀{α:Type} {l:List (Nat×α)},(gN D l).map (·.1)=(l.map (·.1)).filter fun k=>!(fE k D):=by
   intro α l
   induction l with
   |nil=>rfl
   |cons p r lw=>
    unfold gN at lw⊢
    cases o:fE p.1 D<;>simp[o,lw]
  show((O++(gN D st.ad).map fun p=>(p.1,p.2.map f)).map (·.1)++(R++gN D st.rw).map (·.1)).Nodup
  have la:(O++(gN D st.ad).map fun p=>(p.1,p.2.map f)).map (·.1)=O.map (·.1)++(st.ad.map (·.1)).filter fun k=>!(fE k D):=by
   rw[<-lv];simp[List.map_map,Function.comp_def]
  have le:(R++gN D st.rw).map (·.1)=R.map (·.1)++(st.rw.map (·.1)).filter fun k=>!(fE k D):=by rw[<-lv];simp
  rw[la,le]
  have lf:(st.ad.map (·.1)).filter (fun k=>!(fE k D))++(st.rw.map (·.1)).filter (fun k=>!(fE k D))=st.ids.filter fun k=>!(fE k D):=by simp[af.ids]
  have lJ:List.Perm (O.map (·.1)++(st.ad.map (·.1)).filter (fun k=>!(fE k D))++(R.map (·.1)++(st.rw.map (·.1)).filter fun k=>!(fE k D)))
    ((O.map (·.1)++R.map (·.1))++st.ids.filter fun k=>!(fE k D)):=by
   rw[<-lf]
   simp only[List.append_assoc]
   refine List.Perm.append_left _ ?_
   rw[<-List.append_assoc,<-List.append_assoc]
   exact List.Perm.append_right _ List.perm_append_comm
  rw[lJ.nodup_iff,List.nodup_append]
  refine⟨X.keys,h.keys.filter _,fun a lK b o e=>?_⟩
  subst e
  obtain⟨lb,lx⟩:=List.mem_filter.1 o
  have:=X.kz a (List.mem_append.1 lK) lb
  rw[nU.2 this]at lx
  cases lx
 ·intro b c o ly lo
  rcases List.mem_append.1 o with o|o
  ·have:=X.j8 b c o ly;omega
  ·obtain⟨⟨j,s⟩,L,lc⟩:=List.mem_map.1 o
   cases lc
   obtain⟨L,Y⟩:=nC.1 L
   rw[X.old j (lk L) Y]
   exact h.fixed j s L (jp.symm.trans ly) lo
 ·intro r c W lo lg
  rcases List.mem_append.1 W with W|W
  ·have:=X.eO r c W;omega
  ·obtain⟨L,Y⟩:=nC.1 W
   rw[X.old r (ll L) Y]
   exact h.kept r c L lo lg
/-! One element of such a slice. -/
theorem an.dv(h:an cx m st T w){D:List Nat}{o:List (Nat×bM)}{q:List (Nat×cp)}{f:ao->ao}(X:gt cx m aA st w w' D o q)
  (L:∀M v s,aN w' M m v s->aN w' M aA v (f s))
  (O:∀b c,(b,c)∈o->∃g,gO (aA b) g c/\gd w' (ar cx aA (st.dv D o q f).ids) aA (aA b) g c)
  (R:∀r c,(r,c)∈q->∃cells,w'.ownsRow 0 c.e c.t.cells (aA r) c.xs.length cells/\bL (aK w' (ar cx aA (st.dv D o q f).ids) c.t) cells c.xs):an cx aA (st.dv D o q f) T w':=
 h.wz X (L _) O R
theorem BE{M:Nat->Prop}{k:dH}{h:Option Int}:∀{xs:List k.u.el} {n:Nat} {cs us:List Value},eU w M k h n xs cs us->us.length=xs.length/\cs.length=xs.length*k.u.cells
 |[],_,_,_,⟨o,q⟩=>by rw[o,q];exact⟨rfl,by simp⟩
 |x::xs,n,cs,us,⟨c,d,v,vs,L,O,R,_,U⟩=>by
  obtain⟨a,b⟩:=BE U
  rw[L,R]
  refine⟨by simp[a],?_⟩
  rw[List.length_append,O,b,List.length_cons,Nat.succ_mul,Nat.add_comm]
theorem Fs{M:Nat->Prop}{k:dH}{h:Option Int}:∀{xs:List k.u.el} {n i:Nat} {x:k.u.el} {cs us:List Value},eU w M k h n xs cs us->xs[i]? =some x->
  ∃q c c2 o v L,cs=q++c++c2/\q.length=i*k.u.cells/\c.length=k.u.cells/\us=o++v::L/\o.length=i/\jn w M k (gA h (n+i)) c v x/\
   ∀{w':World} {M':Nat->Prop} {h':Option Int} {x':k.u.el} {c':List Value} {v':Value},(∀b,b<w.heap.size->¬M b->w'.heap[b]? =w.heap[b]?)->(∀b,b<w.heap.size->M' b->M b)->(∀j,j≠n+i->(gA h j↔gA h' j))->
    (∀u,u∈o\/u∈L->∀b,aP u=some b->w'.heap[b]? =w.heap[b]?)->c'.length=k.u.cells->jn w' M' k (gA h' (n+i)) c' v' x'->eU w' M' k h' n (xs.set i x') (q++c'++c2) (o++v'::L)
 |[],_,_,_,_,_,_,O=>by simp at O
 |y::xs,n,0,x,cs,us,⟨c,d,v,vs,Z,R,la,lb,lc⟩,O=>by
  simp at O
  subst O
  subst Z
  subst la
  refine⟨[],c,d,[],v,vs,rfl,by simp,R,rfl,rfl,lb,fun{w' M' h' x' c' v'} U V W Y ld le=>?_⟩
  exact⟨c',d,v',vs,by simp,ld,rfl,le,oN U V (fun m ll=>W m (by omega)) (fun u lf=>Y u (.inr lf)) lc⟩
 |y::xs,n,i+1,x,cs,us,⟨c,d,v,vs,Z,R,la,lb,lc⟩,O=>by
  subst Z
  subst la
  obtain⟨q,li,c2,o,v0,L,lj,a2,a3,a4,a5,lg,lh⟩:=Fs (i:=i) lc (by simpa using O)
  subst lj
  subst a4
  have lk:n+1+i=n+(i+1):=by omega
  rw[lk]at lg lh
  refine⟨c++q,li,c2,v::o,v0,L,by simp,by rw[List.length_append,R,a2,Nat.succ_mul,Nat.add_comm],a3,by simp,by simp[a5],lg,fun{w' M' h' x' c' v'} U V W Y ld le=>?_⟩
  refine⟨c,q++c'++c2,v,o++v'::L,by simp,R,by simp,tK U V (W n (by omega)) (Y v (.inl List.mem_cons_self)) lb,?_⟩
  exact lh U V W (fun u lf=>Y u (lf.elim (fun h=>.inl (List.mem_cons_of_mem _ h)) .inr)) ld le
theorem an.bn(h:an cx m st T w){b e:Nat}{k:dH}{xs:List k.u.el}{o:Option Int}(q:look st.ad b=some (.bn e k xs o)):
  ∃aj us cells,m b=.tuple (aj::us).toArray/\w.ownsRow 0 e k.u.cells aj xs.length cells/\eU w (ar cx m st.ids) k o 0 xs cells us/\((aj::us).filterMap aP).Nodup:=by
 obtain⟨g,_,_,aj,us,cells,L,O,R,U⟩:=h.boxes b _ (aW q)
 exact⟨aj,us,cells,L,O,R,U⟩
theorem Rg{r:Value}{us:List Value}{g:Nat}:own (.tuple (r::us).toArray) g↔g∈(r::us).filterMap aP:=by
 rw[cR,List.mem_filterMap]
 constructor
 ·rintro(h|⟨u,hu,h⟩)
  ·exact⟨r,List.mem_cons_self,h⟩
  ·exact⟨u,List.mem_cons_of_mem _ hu,h⟩
 ·rintro⟨u,hu,h⟩
  rcases List.mem_cons.1 hu with rfl|hu
  ·exact .inl h
  ·exact .inr ⟨u,hu,h⟩
theorem n9{e o n:Nat}{v:Value}{cells:List Value}(h:w.ownsRow 0 e o v n cells)(W:0<n):∃g cap cur,v=.slice (some ⟨g,0,none⟩) n cap/\w.heap[g]? =some (.cells cur e (0,0))/\n<=cap/\cap<=maxLen/\cur.size=cap*o/\cur.toList.take (n*o)=cells:=by
 rcases h.2 with ⟨_,Y⟩|⟨g,cap,cur,q,_,L,O,R,U,V⟩
 ·omega
 ·exact⟨g,cap,cur,q,L,O,R,U,V⟩
def ao.dx(o:List Nat)(s:ao):ao:=bif o.any (fun r=>s.refs r)then .any else s
theorem KC{D:List Nat}{s:ao}(h:D.any (fun r=>s.refs r)=false){b:Nat}(o:s.refs b=true):b∉D:=by
 intro aj
 have:=List.any_eq_false.1 h b aj
 exact this o
theorem pv{M:Nat->Prop}{m2:Nat->Value}:∀{vs:List Value} {l:List bQ},(∀b,l.any (bQ.is b)=true->m2 b=m b)->cM w M m vs l->cM w M m2 vs l
 |[],[],_,_=>trivial
 |[],_::_,_,h=>h.elim
 |_::_,[],_,h=>h.elim
 |_::_,.v _::_,o,⟨L,O⟩=>⟨L,pv (fun b q=>o b (by rw[List.any_cons,q,Bool.or_true])) O⟩
 |_::vs,.a::us,o,h=>pv (vs:=vs) (l:=us) (fun b q=>o b (by rw[List.any_cons,q,Bool.or_true])) h
 |_::_,.r c::_,o,⟨L,O⟩=>⟨by rw[o c (by rw[List.any_cons];show(Nat.beq c c||_)=true;rw[Nat.beq_refl,Bool.true_or])];exact L,pv (fun b q=>o b (by rw[List.any_cons,q,Bool.or_true])) O⟩
theorem kB{M:Nat->Prop}{m2:Nat->Value}{D:List Nat}(V:∀b,b∉D->m2 b=m b){v:Value}{s:ao}(h:aN w M m v s):aN w M m2 v (s.dx D):=by
 unfold ao.dx
 cases aj:D.any (fun r=>s.refs r)with
 |true=>trivial
 |false=>
  have key:∀b,s.refs b=true->m2 b=m b:=fun b L=>V b (KC aj L)
  show aN w M m2 v s
  cases s with
  |any=>trivial
  |undef=>exact h
  |val t x=>exact h
  |dq l=>exact h
  |vptr t x=>exact h
  |ptr b off=>obtain⟨g,o,q⟩:=h;exact⟨g,by rw[key b (Nat.beq_refl b)];exact o,q⟩
  |eI b=>show _\/v=m2 b;rw[key b (Nat.beq_refl b)];exact h
  |row b=>show v=m2 b;rw[key b (Nat.beq_refl b)];exact h
  |dA b i off U=>obtain⟨g,n,cap,o,q⟩:=h;exact⟨g,n,cap,by rw[key b (Nat.beq_refl b)];exact o,q⟩
  |iter b=>show v=m2 b;rw[key b (Nat.beq_refl b)];exact h
  |dm b p=>obtain⟨g,o,q⟩:=h;exact⟨g,by rw[key b (Nat.beq_refl b)];exact o,q⟩
  |osl b=>obtain⟨us,o⟩:=h;exact⟨us,by rw[key b (Nat.beq_refl b)];exact o⟩
  |ff b i=>obtain⟨g,n,cap,us,o,q⟩:=h;exact⟨g,n,cap,us,by rw[key b (Nat.beq_refl b)];exact o,q⟩
  |sub b i=>obtain⟨O,us,o,q⟩:=h;exact⟨O,us,by rw[key b (Nat.beq_refl b)];exact o,q⟩
  |clos f bs=>
   have e:bs.map m2=bs.map m:=List.map_congr_left fun b L=>key b (List.any_eq_true.2 ⟨b,L,Nat.beq_refl b⟩)
   show v=_
   rw[e]
   exact h
  |fr l=>obtain⟨vs,e,R⟩:=h;exact⟨vs,e,pv key R⟩
  |ep l=>obtain⟨vs,e,R⟩:=h;exact⟨vs,e,pv key R⟩
  |aj n=>exact h
  |bW f b=>show v=_;rw[key b (Nat.beq_refl b)];exact h
  |dy b i off U=>obtain⟨g,n,cap,us,o,q⟩:=h;exact⟨g,n,cap,us,by rw[key b (Nat.beq_refl b)];exact o,q⟩
  |eH b i j off U=>obtain⟨O,us,g,n,cap,o,q⟩:=h;exact⟨O,us,g,n,cap,by rw[key b (Nat.beq_refl b)];exact o,q⟩
end Go.Ev
