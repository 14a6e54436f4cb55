/- Literals, made slices, function values, appending: right. -/
import Derived.Test.YteopobecmacgdaaGreatDoorMM2
import Derived.Deep.Quiet
set_option linter.unusedSectionVars false
set_option linter.unusedVariables false
set_option linter.unusedSimpArgs false
namespace Go.Ev
open Go Go.RowKit
variable [b8]
variable {cx:bI} {m:Nat->Value} {st:af} {T:Array Value} {w w':World}
variable [ah cx]
theorem AD(h:an cx m st T w){u:ag}:∀(parts:List (Nat×Operand)) (k:Nat) (xs:List u.el) (pre old:List Value),oL st u k parts=some xs->pre.length=k*u.cells->old.length=xs.length*u.cells->
  ∃cells,Instr.fill (fun i=>some (i*u.cells,u.cells)) (pre++old).toArray (parts.map fun p=>(p.1,Act.eval ⟨T,ah.D cx⟩ p.2))=some (pre++cells).toArray/\bL (aJ w (av cx m st.ids) u) cells xs
 |[],k,xs,pre,old,o,_,O=>by
  cases o
  have:old=[]:=List.eq_nil_of_length_eq_zero (by simpa using O)
  subst this
  exact⟨[],rfl,rfl⟩
 |(i,aa)::r,k,xs,pre,old,o,R,O=>by
  unfold oL at o
  split at o
  ·rename_i v lb lc
   split at o
   ·rename_i x U ld le
    cases o
    have lf:=Nat.eq_of_beq_eq_true lb
    subst lf
    have X:=j7 (Uy h lc)
    have e:=al.dj ld
    subst e
    have W:=cf u X
    have lg:(Act.eval ⟨T,ah.D cx⟩ aa).cells.size=u.cells:=by rw[<-W];simp
    have Y:old.length=(U.length+1)*u.cells:=O
    obtain⟨q,bd,rfl,Z⟩:∃q bd,old=q++bd/\q.length=u.cells:=⟨old.take u.cells,old.drop u.cells,(List.take_append_drop _ _).symm,by rw[List.length_take,Y,Nat.succ_mul];omega⟩
    have lh:bd.length=U.length*u.cells:=by
     rw[List.length_append,Nat.succ_mul]at Y
     omega
    obtain⟨cells,li,lj⟩:=AD h r (i+1) U (pre++(Act.eval ⟨T,ah.D cx⟩ aa).cells.toList) bd le (by rw[List.length_append,R,W,Nat.succ_mul]) lh
    refine⟨(Act.eval ⟨T,ah.D cx⟩ aa).cells.toList++cells,?_,(Act.eval ⟨T,ah.D cx⟩ aa).cells.toList,cells,rfl,X,lj⟩
    rw[List.map_cons,Instr.fill]
    have lk:¬(((Act.eval ⟨T,ah.D cx⟩ aa).cells.size≠u.cells||decide (i*u.cells+(Act.eval ⟨T,ah.D cx⟩ aa).cells.size>(pre++(q++bd)).toArray.size))=true):=by
     simp only[lg,List.size_toArray,List.length_append,R,Z]
     simp
    simp only[]
    rw[if_neg lk]
    have la:=xI (Act.eval ⟨T,ah.D cx⟩ aa).cells.toList pre bd q (by rw[Z,W])
    rw[R,Array.toArray_toList]at la
    rw[<-List.append_assoc,la,li]
    simp
   ·cases o
  ·cases o
theorem Oz(h:an cx m st T w){aa:Oper}{d:Nat}(ai:d<cx.n){t e:TypeId}{u Z:ag}{n:Nat}{parts:Array (Nat×Operand)}{xs:List u.el}(la:aa.op=.buildSlice t n parts)(lb:dY cx.P t=some (e,u))
  (lc:oL st u 0 parts.toList=some xs)(O:xs.length=n)(lm:n*u.cells<=16777216)(ld:zeroOf cx.P e=some Z){orc:List al}:
  eS cx T w aa ⟨.row d,st.dq d ⟨e,u,xs⟩,orc,[]⟩:=by
 obtain⟨le,R,lf⟩:=jz lb
 obtain⟨i,z,_,hi,ln,lg,_⟩:=kg ld
 have lo:i.size=u.cells:=by
  obtain⟨i2,U,lh,_⟩:=dk R
  rw[hi]at U
  cases U
  exact lh
 obtain⟨cells,W,X⟩:=AD h parts.toList 0 xs [] ((Array.range (n*u.cells)).map ((if n*u.cells=0 then#[]else z.cells)[· %(if n*u.cells=0 then#[]else z.cells).size]!)).toList lc (by simp) (by simp[O])
 have Y:=jw (fun _ _=>cf u) _ _ X
 have li:xs.length<=maxLen:=by
  have:xs.length<=xs.length*u.cells:=Nat.le_mul_of_pos_right _ lf
  have lp:(16777216:Nat)<=maxLen:=by decide
  rw[O]at this⊢
  omega
 have lj:=r7 h d (.inl ai) (cur:=cells.toArray) (cells:=cells) (e:=e) (cap:=xs.length) (w.alloc (.cells cells.toArray e)) (iU _ _) (heap_alloc_new w _) (Nat.le_refl _) li (by simp[Y]) (by rw[<-Y];simp) X
 refine⟨.slice (some ⟨w.heap.size,0,none⟩) n n,_,_,cn (s:=Instr.buildSlice t n (parts.map fun p=>(p.1,Act.eval ⟨T,ah.D cx⟩ p.2))) (by simp only[execOp,la]) ?_,lj,by show _=bG _ _ _ _;rw[b7,O]⟩
 have lk:¬(n*u.cells>2^24):=by omega
 have o:Instr.fill (fun i=>some (i*u.cells,u.cells)) ((Array.range (n*u.cells)).map ((if n*u.cells=0 then#[]else z.cells)[· %(if n*u.cells=0 then#[]else z.cells).size]!)) (parts.map fun p=>(p.1,Act.eval ⟨T,ah.D cx⟩ p.2)).toList=some cells.toArray:=by
  rw[List.nil_append,List.nil_append,Array.toArray_toList]at W
  rw[Array.toList_map]
  exact W
 simp only[Instr.buildSlice,Sem.run_bind,run_underlying le,Result.andThen_ok,fa R,if_neg lk]
 by_cases q:n*u.cells=0
 ·rw[if_pos q]
  rw[if_pos q]at o
  simp only[Sem.run_pure,Result.andThen_ok,o,Sem.run_bind,newRow,run_newObj_alloc]
 ·rw[if_neg q]
  rw[if_neg q]at o
  have ll:(zeroValue e).run cx.P w=.ok z w:=by simp[zeroValue,typeInfo,hi,lg]
  simp only[Sem.run_bind,ll,Sem.run_pure,Result.andThen_ok,o,newRow,run_newObj_alloc]
theorem WO(h:an cx m st T w){aa:Oper}{t e:TypeId}{u:ag}{n:Nat}{parts:Array (Nat×Operand)}{xs:List u.el}{i:TypeInfo}{z:Value}(O:aa.op=.build t parts)(lc:ty cx.P t=some (.arr n u))(hi:cx.P.info? t=some i)(R:i.zero=some z)
  (U:cx.P.underlying t=some (.array n e))(W:ty cx.P e=some u)(X:oL st u 0 parts.toList=some xs)(o:xs.length=n)(Y:z.cells.size=n*u.cells){orc:List al}:
  eS cx T w aa ⟨.val (.arr n u) xs,st,orc,[]⟩:=by
 obtain⟨cells,q,Z⟩:=AD h parts.toList 0 xs [] z.cells.toList X (by simp) (by simp[Y,o])
 rw[List.nil_append,List.nil_append,Array.toArray_toList]at q
 refine⟨.agg cells.toArray,w,m,cn (s:=Instr.build t (parts.map fun p=>(p.1,Act.eval ⟨T,ah.D cx⟩ p.2))) (by simp only[execOp,O]) ?_,h,(eh (t:=.arr n u) rfl).2 ⟨cells,rfl,o,Z⟩⟩
 have la:(zeroValue t).run cx.P w=.ok z w:=by simp[zeroValue,typeInfo,hi,R]
 have lb:Instr.fill (fun i=>some (i*u.cells,u.cells)) z.cells (parts.map fun p=>(p.1,Act.eval ⟨T,ah.D cx⟩ p.2)).toList=some cells.toArray:=by rw[Array.toList_map];exact q
 simp only[Instr.build,Sem.run_bind,la,Result.andThen_ok,run_underlying U,fa W,lb,Sem.run_pure]
theorem MQ{z:Array Value}{o:Nat}(q:z.size=o)(n:Nat):(madeCells z ((n+1)*o)).toList=z.toList++(madeCells z (n*o)).toList:=by
 apply List.ext_getElem?
 intro j
 by_cases R:j<z.toList.length
 ·rw[List.getElem?_append_left R]
  have U:j<o:=by rw[<-q];simpa using R
  have O:j<(n+1)*o:=by rw[Nat.succ_mul];omega
  have W:j<z.size:=by rw[q];exact U
  simp only[madeCells,Array.toList_map,Array.toList_range,List.getElem?_map,List.getElem?_range O,Option.map_some,q,Nat.mod_eq_of_lt U]
  rw[getElem!_pos z j W]
  simp[W]
 ·rw[List.getElem?_append_right (by omega)]
  have X:z.toList.length=o:=by simpa using q
  rw[X]at R⊢
  by_cases O:j<(n+1)*o
  ·have Y:j-o<n*o:=by rw[Nat.succ_mul]at O;omega
   simp only[madeCells,Array.toList_map,Array.toList_range,List.getElem?_map,List.getElem?_range O,List.getElem?_range Y,Option.map_some,q]
   congr 2
   rw[<-Nat.add_mod_right (j-o) o]
   congr 1
   omega
  ·rw[List.getElem?_eq_none (by simp[madeCells];omega),List.getElem?_eq_none (by simp[madeCells];rw[Nat.succ_mul]at O;omega)]
theorem KW{M:Nat->Prop}{u:ag}{z:Array Value}{x:u.el}(o:aJ w M u z.toList x)(R:0<u.cells):∀(n:Nat),bL (aJ w M u) (madeCells z (n*u.cells)).toList (List.replicate n x):=by
 have q:z.size=u.cells:=by rw[<-cf u o];simp
 intro n
 induction n with
 |zero=>show _=_;simp[madeCells]
 |succ n O=>
  have e:=MQ q n
  rw[e,List.replicate_succ]
  exact⟨_,_,rfl,o,O⟩
theorem z7{P:Program}{e:TypeId}(h:oe P e=true):∃i,P.info? e=some i/\i.bytes<=65536:=by
 unfold oe at h
 split at h
 ·rename_i i hi;exact⟨i,hi,Nat.le_of_ble_eq_true h⟩
 ·cases h
theorem TU(h:an cx m st T w){aa:Oper}{d:Nat}(ai:d<cx.n){t e:TypeId}{u:ag}{l c:Operand}{n k:Int}(W:aa.op=.makeSlice t l c)(X:dY cx.P t=some (e,u))(Y:eA (aS st l)=some n)
  (Z:eA (aS st c)=some k)(la:oe cx.P e=true)(lb:zeroOf cx.P e=some u)(lc:0<=n/\n<=k/\k<=(bC:Int)){orc:List al}{ob:List Prop}:
  eS cx T w aa ⟨.row d,st.dq d ⟨e,u,List.replicate n.toNat (b9 u)⟩,orc,ob⟩:=by
 obtain⟨ld,ls,le⟩:=jz X
 obtain⟨i,z,_,hi,q,lf,lg⟩:=kg lb
 obtain⟨i2,O,lt⟩:=z7 la
 rw[hi]at O
 cases O
 obtain⟨R,lh⟩:=fx h Y
 obtain⟨U,li⟩:=fx h Z
 obtain⟨lj,lk,lu⟩:=lc
 have lv:(bC:Int)=2147483648:=rfl
 have ll:0<=k:=by omega
 have lm:(i.bytes:Int)*k<=281474976710656:=by
  have ln:(i.bytes:Int)<=65536:=by omega
  calc (i.bytes:Int)*k<=65536*k:=Int.mul_le_mul_of_nonneg_right ln ll
   _<=281474976710656:=by omega
 have lo:=run_make (P:=cx.P) w t e i z ld hi lf R U n k lj lk lm (by omega)
 have lp:=KW (lg w (av cx m st.ids)) le n.toNat
 have o:(List.replicate n.toNat (b9 u)).length=n.toNat:=List.length_replicate
 have lq:(madeCells z.cells (k.toNat*i.size)).toList.take ((List.replicate n.toNat (b9 u)).length*u.cells)=(madeCells z.cells (n.toNat*u.cells)).toList:=by
  rw[o,q]
  simp only[madeCells,Array.toList_map,Array.toList_range,<-List.map_take]
  rw[List.take_range]
  congr 2
  have:n.toNat*u.cells<=k.toNat*u.cells:=Nat.mul_le_mul_right _ (by omega)
  omega
 have lr:=r7 h d (.inl ai) (cur:=madeCells z.cells (k.toNat*i.size)) (e:=e) (cap:=k.toNat) (xs:=List.replicate n.toNat (b9 u)) (w.alloc (.cells (madeCells z.cells (k.toNat*i.size)) e)) (iU _ _) (heap_alloc_new w _)
  (by rw[o];omega) (by simp only[maxLen];omega) (by rw[size_madeCells,q]) lq lp
 refine⟨_,_,_,cn (s:=Instr.makeSlice t (.int R n) (.int U k)) (by simp only[execOp,W,lh,li]) lo,lr,?_⟩
 show _=bG _ _ _ _
 rw[b7,o]
theorem DU(h:an cx m st T w):∀{l:List Operand} {bs:List Nat},mc.rH st l=some bs->l.map (Act.eval ⟨T,ah.D cx⟩)=bs.map m
 |[],_,o=>by cases o;rfl
 |x::r,bs,o=>by
  simp only[mc.rH]at o
  split at o
  ·rename_i b W q O
   cases o
   obtain⟨g,R,U⟩:=bf h q
   rw[List.map_cons,List.map_cons,DU h O,U,R]
  ·cases o
theorem Ro(h:an cx m st T w){aa:Oper}{f:Nat}{first eX:Array Operand}{bs:List Nat}(o:aa.op=.makeFunc (.func f) first eX)(q:first.toList=[])(O:mc.rH st eX.toList=some bs){orc:List al}:
  eS cx T w aa ⟨.clos f bs,st,orc,[]⟩:=by
 refine⟨.func (.func f) #[] (bs.map m).toArray,w,m,cn (s:=Instr.makeFunc (.func f) (first.map (Act.eval ⟨T,ah.D cx⟩)) (eX.map (Act.eval ⟨T,ah.D cx⟩))) (by simp only[execOp,o]) ?_,h,rfl⟩
 have ae:first=#[]:=by rw[<-Array.toArray_toList (xs:=first),q]
 have R:eX.map (Act.eval ⟨T,ah.D cx⟩)=(bs.map m).toArray:=by
  rw[<-DU h O]
  apply Array.ext'
  simp
 rw[ae,R,Array.map_empty]
 rfl
theorem QI(h:an cx m st T w){aa:Oper}{f b:Nat}{first eX:Array Operand}{x:Operand}(o:aa.op=.makeFunc (.func f) first eX)(q:first.toList=[x])(O:mc.rH st eX.toList=some [])(R:aS st x=some (.ptr b 0)){orc:List al}:
  eS cx T w aa ⟨.ca f b,st,orc,[]⟩:=by
 refine⟨.func (.func f) #[m b] #[],w,m,cn (s:=Instr.makeFunc (.func f) (first.map (Act.eval ⟨T,ah.D cx⟩)) (eX.map (Act.eval ⟨T,ah.D cx⟩))) (by simp only[execOp,o]) ?_,h,rfl⟩
 have ae:first=#[x]:=by rw[<-Array.toArray_toList (xs:=first),q]
 have U:eX.map (Act.eval ⟨T,ah.D cx⟩)=#[]:=by
  have:=DU h O
  apply Array.ext'
  rw[Array.toList_map,this]
  rfl
 obtain⟨g,g1,g2⟩:=bf h R
 have W:#[x].map (Act.eval ⟨T,ah.D cx⟩)=#[m b]:=by
  rw[g1,<-g2]
  simp
 rw[ae,U,W]
 rfl
theorem MW{M:Nat->Prop}{t:ag}:∀{xs:List t.el} {cs:List Value} (n:Nat),bL (aJ w M t) cs xs->bL (aJ w M t) (cs.take ((xs.take n).length*t.cells)) (xs.take n)
 |[],cs,n,h=>by cases h;simp;rfl
 |x::xs,cs,0,h=>by simp;rfl
 |x::xs,cs,n+1,⟨c1,c2,e,o,O⟩=>by
  have q:=cf t o
  rw[List.take_succ_cons,List.length_cons,Nat.succ_mul,Nat.add_comm,e,<-q,List.take_append,List.take_of_length_le (by omega)]
  rw[show c1.length+(List.take n xs).length*c1.length-c1.length=(List.take n xs).length*t.cells by rw[<-q];omega]
  exact⟨c1,_,rfl,o,MW n O⟩
theorem QG(h:an cx m st T w){aa:Oper}{t e:TypeId}{u:ag}{x hi:Operand}{r:Nat}{c:cG}{n:Int}(U:aa.op=.slice t x none (some hi) none)(li:aS st x=some (.row r))(lj:dY cx.P t=some (e,u))
  (lk:eA (aS st hi)=some n)(ll:look st.rw r=some c)(lB:c.e=e)(lC:c.t=u)(W:r<eG)(lm:0<=n/\n<=(c.xs.length:Int)){orc:List al}{ob:List Prop}:
  eS cx T w aa ⟨.row r,st.dq r ⟨c.e,c.t,c.xs.take n.toNat⟩,orc,ob⟩:=by
 obtain⟨X,Y,lD⟩:=jz lj
 obtain⟨k,Z⟩:=fx h lk
 have la:Act.eval ⟨T,ah.D cx⟩ x=m r:=bf h li
 have lb:=bc ll
 obtain⟨cells,lc,ln,lo⟩:=h.rows r c lb
 have lp:r∈st.ids:=List.mem_append.2 (.inr (List.mem_map.2 ⟨_,lb,rfl⟩))
 have ld:(c.xs.take n.toNat).length=n.toNat:=by rw[List.length_take];omega
 have lq:∀v q,Instr.sliceAt t v none (some q) none=(do match<-underlying t with
  |.array n lr=>
   let le<-Instr.sureAddr v
   let(l,h,m)<-Instr.sliceBounds false n n none (some q) none
   let size<-sizeOf lr
   pure (.slice (some (if m=l then le else le.add (l*size))) (h-l) (m-l))
  |_=>Instr.slice t v none (some q) none):=fun _ _=>rfl
 have ls:∀(y:Nat) (lf:BoundsCode) (w:World),n<=y->(Instr.sliceBound (.int k n) y lf).run cx.P w=.ok n.toNat w:=by
  intro y lf w lt
  simp[Instr.sliceBound,asIntOf,lm.1,lt]
 have run:∀(a:Option Addr) (len cap:Nat) (w':World),len<=cap->(len:Int)=c.xs.length->(Instr.sliceAt t (.slice a len cap) none (some (.int k n)) none).run cx.P w'=.ok (.slice (if cap=0 then a else a.map (·.add (0*u.cells))) n.toNat cap) w':=by
  intro a len cap w' lg lE
  rw[lq,Sem.run_bind,run_underlying X]
  simp only[Result.andThen_ok,Instr.slice,Sem.run_bind,run_underlying X,Instr.sliceBounds,Sem.run_pure,fa Y]
  rw[ls cap _ w' (by omega)]
  simp only[Result.andThen_ok,Sem.run_pure,Sem.run_bind,fa Y]
  simp
 rcases lc.2 with ⟨o,lF⟩|⟨g,cap,cur,o,lu,lv,lg,lw,lx,ly⟩
 ·have lh:n=0:=by omega
  have lz:c.xs.take n.toNat=[]:=by rw[lh];rfl
  refine⟨.slice none 0 0,w,bG m r (.slice none 0 0),cn (s:=Instr.sliceAt t (.slice none 0 0) none (some (.int k n)) none) (by simp only[execOp,U,la,o,Option.map_none,Option.map_some,Z]) ?_,?_,(b7 _ _ _).symm⟩
  ·rw[run none 0 0 w (Nat.le_refl _) (by omega),lh]
   rfl
  ·rw[lz]
   exact tU h r c.e (.inr W) c.t
 ·have O:dw cx m st w r (.slice (some ⟨g,0,none⟩) n.toNat cap) w:=
   ⟨⟨rfl,rfl,rfl,Nat.le_refl _,fun _=>Nat.le_refl _⟩,fun _ _ _=>rfl,fun lA R=>.inl ⟨lp,by cases R;rw[o];rfl⟩⟩
  refine⟨.slice (some ⟨g,0,none⟩) n.toNat cap,w,_,cn (s:=Instr.sliceAt t (.slice (some ⟨g,0,none⟩) c.xs.length cap) none (some (.int k n)) none) (by simp only[execOp,U,la,o,Option.map_none,Option.map_some,Z]) ?_,
   h.dq (.inr W) O (fun lA R=>by cases R;exact ln g (by rw[o];rfl)) (cells:=cells.take ((c.xs.take n.toNat).length*c.t.cells)) ⟨by rw[List.length_take,lc.1,Nat.min_eq_left];exact Nat.mul_le_mul_right _ (by rw[List.length_take];omega),.inr ⟨g,cap,cur,by simp only[ld],lu,lv,by simp only[ld];omega,lw,lx,?_⟩⟩
    (dy (fun _ _=>cI O.keeps (O.mut wd) c.t) (MW n.toNat lo)),(b7 _ _ _).symm⟩
  ·rw[run (some ⟨g,0,none⟩) c.xs.length cap w lg rfl]
   congr 2
   split
   ·rfl
   ·simp[Addr.add]
  ·simp only[]
   rw[<-ly,List.take_take,Nat.min_eq_left]
   exact Nat.mul_le_mul_right _ (by rw[List.length_take];omega)
end Go.Ev
namespace Go.Ev
open Go Go.RowKit
variable [b8]
variable {cx:bI} {m:Nat->Value} {st:af} {T:Array Value} {w w':World}
variable [ah cx]
theorem SM{M:Nat->Prop}(s:List UInt8):bL (aJ w M (.int .u8)) ((dB s).map (Value.int .u8)) (dB s):=by
 unfold dB
 induction s with
 |nil=>rfl
 |cons b s o=>exact⟨[_],_,rfl,rfl,o⟩
theorem D5{P:Program}{a:Addr}{news:List Value}(h:∀j u,news[j]? =some u->w.cell? (a.add j)=some u){n size:Nat}(q:news.length=n*size):
  ∀w',(∀b,b<w.heap.size->w'.heap[b]? =w.heap[b]?)->(loadCells a (n*size)).run P w'=.ok news.toArray w':=by
 intro w' O
 rw[<-q]
 refine Cs (w:=w') fun j u R=>?_
 have o:=h j u R
 rw[World.cell?_of_block (w:=w) (O _ (World.block_lt_of_cell? w _ o))]
 exact o
theorem Mq{P:Program}(s:List UInt8):Builtin.lenOf (.string (bytesOf s))=pure (dB s).length/\
  ∀w,(Builtin.firstCells (ag.int .u8).cells (dB s).length (.string (bytesOf s))).run P w=.ok ((dB s).map (Value.int .u8)).toArray w:=by
 constructor
 ·show pure (bytesOf s).size=_
  rw[iL]
  simp[dB]
 ·intro w
  show Sem.run P (pure (((bytesOf s).extract 0 (dB s).length).data.map fun b=>Value.int .u8 b.toNat)) w=_
  rw[Sem.run_pure]
  congr 1
  apply Array.ext'
  rw[Array.toList_map,Lib.extract_data]
  simp[bytesOf,dB]
theorem Hj(h:an cx m st T w){u:ag}{t:TypeId}{x:Operand}{W:List u.el}(o:mS cx.P st u t x=some W):
  ((∃q,cx.P.underlying t=some (.slice q))\/cx.P.underlying t=some .string)/\
  ∃le:List Value,Builtin.lenOf (Act.eval ⟨T,ah.D cx⟩ x)=pure W.length/\
   (∀w',(∀b,b<w.heap.size->w'.heap[b]? =w.heap[b]?)->(Builtin.firstCells u.cells W.length (Act.eval ⟨T,ah.D cx⟩ x)).run cx.P w'=.ok le.toArray w')/\bL (aJ w (av cx m st.ids) u) le W:=by
 unfold mS at o
 split at o
 ·rename_i r Z
  split at o
  case h_2=>cases o
  rename_i q O
  refine⟨.inl ⟨q,O⟩,?_⟩
  split at o
  ·rename_i c R
   have lf:=bc R
   obtain⟨ce,rC,lg⟩:=c
   have e:=al.dj o
   cases e
   obtain⟨cells,la,_,X⟩:=h.rows r _ lf
   have U:Act.eval ⟨T,ah.D cx⟩ x=m r:=bf h Z
   rcases la.2 with ⟨Y,lh⟩|⟨g,cap,cur,Y,_⟩
   ·have lb:lg=[]:=List.eq_nil_of_length_eq_zero lh
    subst lb
    cases X
    exact⟨[],by rw[U,Y];rfl,fun w' _=>by rw[U,Y];rfl,rfl⟩
   ·refine⟨cells,by rw[U,Y];rfl,fun w' lc=>?_,X⟩
    rw[U,Y]
    exact D5 (la.cells (g:=g) (by rw[Y];rfl)) la.1 w' lc
  ·cases o
 ·rename_i lq xs Z
  have li:∃q,cx.P.underlying t=some (.slice q):=by
   cases ai:cx.P.underlying t with
   |none=>rw[ai]at o;exact absurd o (by simp)
   |some ld=>
    rw[ai]at o
    cases ld<;>first|exact⟨_,rfl⟩|exact absurd o (by simp)
  obtain⟨q,O⟩:=li
  rw[O]at o
  refine⟨.inl ⟨q,O⟩,?_⟩
  have e:=al.dj o
  cases e
  obtain⟨a,cap,cells,R,lj,_,lk,X,ll⟩:=(bA (t:=.ab u) rfl).1 (bf h Z)
  simp only[List.cons.injEq,and_true]at R
  have lm:=jw (fun _ _=>cf u) _ _ X
  cases a with
  |none=>
   have lr:cap=0:=lk rfl
   have lb:W=[]:=List.eq_nil_of_length_eq_zero (by have:List.length W<=cap:=lj;omega)
   subst lb
   cases X
   exact⟨[],by rw[R];rfl,fun w' _=>by rw[R];rfl,rfl⟩
  |some b=>
   refine⟨cells,by rw[R];rfl,fun w' lc=>?_,X⟩
   rw[R]
   refine D5 (fun j v ln=>?_) lm w' lc
   obtain⟨ls,lo,lp,_⟩:=ll j v ln
   cases lo
   exact lp
 ·rename_i s Z
  have O:cx.P.underlying t=some .string:=by
   cases ai:cx.P.underlying t with
   |none=>rw[ai]at o;exact absurd o (by simp)
   |some ld=>
    rw[ai]at o
    cases ld<;>first|rfl|exact absurd o (by simp)
  rw[O]at o
  refine⟨.inr O,?_⟩
  have e:=al.dj o
  cases e
  obtain⟨U,_⟩:=eO.1 (bf h Z)
  exact⟨(dB s).map (Value.int .u8),by rw[U];exact(Mq (P:=cx.P) s).1,fun w' _=>by rw[U];exact(Mq (P:=cx.P) s).2 w',SM s⟩
 ·cases o
theorem XE(h:an cx m st T w){aa:Oper}{d:Nat}{args:Array Operand}{Z:Array TypeId}{s x:Operand}{t la e r:Nat}{u:ag}{c:cG}{q:List c.t.el}
  (lo:aa.op=.call {callee:=.builtin .append,args:=args,argTypes:=Z})(lp:args.toList=[s,x])(lq:Z.toList=[t,la])(lr:dY cx.P t=some (e,u))(O:vE cx.P st d t s=some (r,c))
  (lh:c.e=e)(ls:c.t=u)(lt:oe cx.P e=true)(lu:zeroOf cx.P e=some u)(lv:mS cx.P st c.t la x=some q)(lw:r<eG)(li:c.xs.length+q.length<=bC){orc:List al}{ob:List Prop}:
  eS cx T w aa ⟨.row r,st.dq r ⟨c.e,c.t,c.xs++q⟩,orc,ob⟩:=by
 obtain⟨lx,l0,l3⟩:=jz lr
 obtain⟨i,z,_,hi,lj,ly,lz⟩:=kg lu
 obtain⟨i2,lk,lA⟩:=z7 lt
 rw[hi]at lk
 cases lk
 obtain⟨lB,X,lC,lD,ld⟩:=Hj h lv
 -- the base
 obtain⟨v,R,cells,lE,lF,lG,ll⟩:∃v,Act.eval ⟨T,ah.D cx⟩ s=v/\∃cells,w.ownsRow 0 c.e c.t.cells v c.xs.length cells/\(∀g,own v g->cx.w0.heap.size<=g\/cx.X g)/\
   bL (aJ w (av cx m st.ids) c.t) cells c.xs/\∀g,own v g->r∈st.ids/\own (m r) g:=by
  unfold vE at O
  split at O
  ·rename_i l4
   split at O
   ·rename_i l5 l6 l7
    cases O
    refine⟨.slice none 0 0,rfl,[],World.ownsRow_nil w 0 _ _,?_,rfl,?_⟩
    ·intro g U;cases U
    ·intro g U;cases U
   ·cases O
  ·split at O
   ·rename_i l8 lH
    split at O
    ·rename_i c' lI
     cases O
     have lm:=bc lI
     obtain⟨cells,o,W,lJ⟩:=h.rows r c lm
     exact⟨m r,bf h lH,cells,o,W,lJ,fun g U=>⟨List.mem_append.2 (.inr (List.mem_map.2 ⟨_,lm,rfl⟩)),U⟩⟩
    ·cases O
   ·cases O
 have lb:i.size=c.t.cells:=by rw[ls];exact lj
 have lK:z.cells.size=i.size:=by
  rw[lj,<-cf u (lz w (av cx m st.ids))]
  simp
 have lL:X.length=q.length*i.size:=by rw[lb];exact jw (fun _ _=>cf c.t) _ _ ld
 have lM:∀v∈X,v.oneCell'=true:=by
  have key:∀(cs:List Value) (xs:List c.t.el),bL (aJ w (av cx m st.ids) c.t) cs xs->∀v∈cs,v.oneCell'=true:=by
   intro cs xs
   induction xs generalizing cs with
   |nil=>intro lN v R;cases lN;simp at R
   |cons y q le=>
    rintro⟨c1,c2,rfl,o,W⟩ v R
    rcases List.mem_append.1 R with R|R
    ·exact hZ c.t o v R
    ·exact le _ W v R
  exact key X q ld
 have lO:c.xs.length+q.length<=maxLen:=Nat.le_trans li yo
 have lP:(c.xs.length+q.length)*i.bytes<=140737488355328:=by
  have o:c.xs.length+q.length<=2147483648:=li
  calc (c.xs.length+q.length)*i.bytes<=2147483648*65536:=Nat.mul_le_mul o lA
   _=140737488355328:=by decide
 obtain⟨v',w',lQ,lf,lR,lS,ln⟩:=GN (P:=cx.P) (w:=w) t la aa.type e i z lx lB hi ly lK (Act.eval ⟨T,ah.D cx⟩ x) q.length X lC
  (by rw[lb];exact lD) lL lM v c.xs.length cells (by rw[lb,<-lh];exact lE) lO lP
 have Y:dw cx m st w r v' w':=⟨lR,fun b lT lU=>lS b lT fun lV=>lU (ll b (gQ lV)),fun g U=>by
  rcases ln g (Ck lf U)with o|o
  ·exact .inl (ll g (gQ o))
  ·exact .inr o⟩
 have lW:an cx (bG m r v') (st.dq r ⟨c.e,c.t,c.xs++q⟩) T w':=by
  refine h.dq (.inr lw) Y (fun g U=>?_) (cells:=cells++X) ?_ ?_
  ·rcases ln g (Ck lf U)with o|o
   ·exact lF g (gQ o)
   ·exact .inl (Nat.le_trans (pX h) o.1)
  ·simp only[List.length_append]
   rw[<-lb,lh]
   exact lf
  ·simp only[]
   have lX:∀(c1 c2:List Value) (lc lg:List c.t.el) (f:List Value->c.t.el->Prop),bL f c1 lc->bL f c2 lg->bL f (c1++c2) (lc++lg):=by
    intro c1 c2 lc lg f
    induction lc generalizing c1 with
    |nil=>intro o W;cases o;exact W
    |cons y q le=>rintro⟨d1,d2,rfl,g1,g2⟩ W;exact⟨d1,d2++c2,by simp,g1,le _ g2 W⟩
   exact lX _ _ _ _ _ (dy (fun _ _=>cI Y.keeps (Y.mut wd) c.t) lG) (dy (fun _ _=>cI Y.keeps (Y.mut wd) c.t) ld)
 have lY:args=#[s,x]:=by rw[<-Array.toArray_toList (xs:=args),lp]
 have lZ:Z=#[t,la]:=by rw[<-Array.toArray_toList (xs:=Z),lq]
 subst lY
 subst lZ
 refine⟨v',w',_,?_,lW,(b7 _ _ _).symm⟩
 simp only[execOp,lo,resolve,invoke,builtin,Sem.run_bind,Sem.run_pure,Result.andThen_ok,List.map_toArray,List.map_cons,List.map_nil,R,lQ]
theorem O5{P:Program}(w:World)(src o e:TypeId)(s:ByteArray)(q:P.underlying src=some .string)(ai:P.underlying o=some (.slice e))(O:P.underlying e=some (.int .i32)):
  (convert src o (.string s)).run P w=.ok (.slice (some ⟨w.heap.size,0,none⟩) (Conv.runesFrom s s.size 0 #[]).size (grownCap w (Conv.runesFrom s s.size 0 #[]).size 0 e))
   (w.drew.alloc (.cells (Conv.runesFrom s s.size 0 #[]++Array.replicate (grownCap w (Conv.runesFrom s s.size 0 #[]).size 0 e-(Conv.runesFrom s s.size 0 #[]).size) (.int .i32 0)) e)):=by
 simp[convert,run_underlying q,run_underlying ai,run_underlying O,Conv.stringToRunes,Question.forced,newRow,grownCap]
theorem Wt(h:an cx m st T w){aa:Oper}{d:Nat}(O:d<cx.n){src o e:TypeId}{x:Operand}{s:List UInt8}(R:aa.op=.convert src o x)(U:dC st x=some ⟨.str,s⟩)(W:cx.P.underlying src=some .string)(ai:dY cx.P o=some (e,.int .i32))
  {orc:List al}{ob:List Prop}:eS cx T w aa ⟨.row d,st.dq d ⟨e,.int .i32,dS s⟩,orc,ob⟩:=by
 obtain⟨X,Y⟩:=eO.1 (di h U)
 obtain⟨Z,la,_⟩:=jz ai
 have lb:cx.P.underlying e=some (.int .i32):=by
  obtain⟨i,_,_,lc⟩:=dk la
  exact lc
 have ld:Conv.runesFrom (bytesOf s) (bytesOf s).size 0 #[]=((dS s).map (Value.int .i32)).toArray:=by
  rw[IE,iL]
  simp[dS]
 have le:(dS s).length<=s.length:=Lk s s.length 0
 have lf:(dS s).length<=maxLen:=Nat.le_trans le Y
 have q:=O5 (P:=cx.P) w src o e (bytesOf s) W Z lb
 rw[ld]at q
 simp only[List.size_toArray,List.length_map]at q
 have lg:=grownCap_ge w (dS s).length 0 e
 have lh:=grownCap_le_maxLen w (dS s).length 0 e lf
 refine⟨_,_,_,cn (s:=convert src o (.string (bytesOf s))) (by simp only[execOp,R,X];rfl) q,
  r7 h d (.inl O) (xs:=dS s) (cells:=(dS s).map (Value.int .i32)) (u:=.int .i32) (e:=e) _ {os:=rfl,tape:=rfl,output:=rfl,size:=by simp,drawn:=by first|exact fun _=>Nat.le_refl _|exact fun _=>Nat.le_succ _,block:=fun b li=>Below.heap_alloc w.drew _ b li} (heap_alloc_new w.drew _) lg lh ?_ ?_ ?_,(b7 _ _ _).symm⟩
 ·simp only[Array.size_append,List.size_toArray,List.length_map,Array.size_replicate,ag.cells]
  omega
 ·simp only[Array.toList_append,ag.cells,Nat.mul_one]
  rw[List.take_append_of_le_length (by rw[List.length_map];exact Nat.le_refl _)]
  rw[List.take_of_length_le (by rw[List.length_map];exact Nat.le_refl _)]
 ·have:∀(l:List Int),bL (aJ w (av cx m st.ids) (.int .i32)) (l.map (Value.int .i32)) l:=by
   intro l
   induction l with
   |nil=>rfl
   |cons b s lj=>exact⟨[_],_,rfl,rfl,lj⟩
  exact this _
theorem Uz(h:an cx m st T w){aa:Oper}{src o e:TypeId}{x:Operand}{s:List UInt8}(U:aa.op=.convert src o x)(W:dC st x=some ⟨.str,s⟩)(X:cx.P.underlying src=some .string)(ai:dY cx.P o=some (e,.int .u8))
  {orc:List al}{ob:List Prop}:eS cx T w aa ⟨.val (.ab (.int .u8)) (dB s),st,orc,ob⟩:=by
 obtain⟨Y,Z⟩:=eO.1 (di h W)
 obtain⟨la,lb,_⟩:=jz ai
 have lc:cx.P.underlying e=some (.int .u8):=by
  obtain⟨i,_,_,ld⟩:=dk lb
  exact ld
 have O:=run_bytes_of_string (P:=cx.P) w src o e (bytesOf s) X la lc
 have le:(bytesOf s).size=s.length:=iL s
 rw[le]at O
 have lf:=grownCap_ge w s.length 0 e
 have lg:=grownCap_le_maxLen w s.length 0 e Z
 have R:(dB s).length=s.length:=by simp[dB]
 refine⟨_,_,m,cn (s:=convert src o (.string (bytesOf s))) (by simp only[execOp,U,Y];rfl) O,h.ext {os:=rfl,tape:=rfl,output:=rfl,size:=by simp,drawn:=by first|exact fun _=>Nat.le_refl _|exact fun _=>Nat.le_succ _,block:=fun b lh=>Below.heap_alloc w.drew _ b lh},
  (bA (t:=.ab (.int .u8)) rfl).2 ⟨some ⟨w.heap.size,0,none⟩,grownCap w s.length 0 e,(dB s).map (Value.int .u8),congrArg (fun n=>[Value.slice _ n _]) R.symm,Nat.le_trans (Nat.le_of_eq R) lf,lg,(fun h=>by cases h),?_,?_⟩⟩
 ·have:∀(w:World) (M:Nat->Prop) (l:List Int),bL (aJ w M (.int .u8)) (l.map (Value.int .u8)) l:=by
   intro w M l
   induction l with
   |nil=>rfl
   |cons b s li=>exact⟨[_],_,rfl,rfl,li⟩
  exact this _ _ _
 ·intro j u q
  refine⟨_,rfl,?_,fun lj=>Nat.lt_irrefl _ (h.ym lj)⟩
  have lk:j<s.length:=by have:=(List.getElem?_eq_some_iff.1 q).1;simpa[dB]using this
  have ll:(⟨w.heap.size,0,none⟩:Addr).add j=⟨w.heap.size,0+j,none⟩:=by unfold Addr.add;split<;>simp_all
  have lm:=pR (heap_alloc_new w.drew (.cells (bytesRow (bytesOf s) (grownCap w s.length 0 e)) e ((bytesRow (bytesOf s) (grownCap w s.length 0 e)).size,(bytesRow (bytesOf s) (grownCap w s.length 0 e)).size+1))) (0+j)
  rw[ll]
  refine Eq.trans lm ?_
  rw[Nat.zero_add]
  unfold bytesRow
  rw[Array.getElem?_append_left (by simp[bytesOf];exact lk)]
  rw[<-Array.getElem?_toList,Array.toList_map]
  simp only[dB,List.map_map,List.getElem?_map]at q
  simp only[bytesOf,List.getElem?_map]
  exact q
theorem E5{M:Nat->Prop}{t:ag}:∀{xs:List t.el} {cs:List Value} (n:Nat),bL (aJ w M t) cs xs->n<=xs.length->bL (aJ w M t) (cs.drop (n*t.cells)) (xs.drop n)
 |xs,cs,0,h,_=>by rw[Nat.zero_mul];exact h
 |[],_,n+1,_,o=>by simp at o
 |x::xs,cs,n+1,⟨c1,c2,e,q,O⟩,o=>by
  have R:=cf t q
  have U:cs.drop ((n+1)*t.cells)=c2.drop (n*t.cells):=by
   rw[e,Nat.succ_mul,Nat.add_comm,<-List.drop_drop,<-R,List.drop_left]
  rw[U]
  exact E5 n O (by simpa using o)
theorem Pd(h:an cx m st T w){aa:Oper}{t:TypeId}{u:ag}{len:Nat}{x X:Operand}{r lh li:Nat}{i0 n:Int}{c:cG}{Y:List c.t.el}(ls:aa.op=.slice t x (some X) none none)(lt:aS st x=some (.dU r i0 lh li))(lu:eA (aS st X)=some n)
  (O:se cx.P t=some (len,u))(lj:look st.rw r=some c)(o:(c.t.beq u&&(i0==0&&(Nat.beq lh 0&&Nat.beq li c.t.cells)))=true)(lv:dz c.xs n (c.xs.length:Int)=some Y)(lk:c.xs.length=len){orc:List al}{ob:List Prop}:
  eS cx T w aa ⟨.val (.ab c.t) Y,st.freeze r c,orc,ob⟩:=by
 simp only[Bool.and_eq_true,beq_iff_eq]at o
 obtain⟨Z,la,U,lN⟩:=o
 have U:=Nat.eq_of_beq_eq_true U
 obtain rfl:=ag.eq_of_beq Z
 obtain⟨k,lw⟩:=fx h lu
 obtain⟨lx,q,_,lb⟩:=yG lv
 rw[Int.toNat_natCast,List.take_length]at lb
 unfold se at O
 split at O
 case h_2=>cases O
 rename_i lO e ly
 split at O
 case h_2=>cases O
 rename_i lP lz
 cases O
 obtain⟨g,lQ,lR,lA,lc⟩:=bf h lt
 have lc:Act.eval ⟨T,ah.D cx⟩ x=.pointer (some ⟨g,0,none⟩):=by rw[lc,la,U];simp
 have lB:=h.freeze (bc lj)
 have ld:=bc lj
 have ll:r∈st.ids:=List.mem_append.2 (.inr (List.mem_map.2 ⟨_,ld,rfl⟩))
 have lC:aJ w (av cx m (st.freeze r c).ids) (.ab c.t) [m r] c.xs:=by
  have lD:∀c',(r,c')∉st.ad:=fun c' o=>(List.nodup_append.1 h.keys).2.2 r (List.mem_map.2 ⟨_,o,rfl⟩) r (List.mem_map.2 ⟨_,ld,rfl⟩) rfl
  have lm:∀i,i∈(st.freeze r c).ids->i∈st.ids/\i≠r:=by
   intro i hi
   rcases List.mem_append.1 hi with hi|hi
   ·obtain⟨⟨b,s⟩,le,rfl⟩:=List.mem_map.1 hi
    obtain⟨⟨lS,lE⟩,ln,W⟩:=List.mem_map.1 le
    cases W
    exact⟨List.mem_append.2 (.inl (List.mem_map.2 ⟨_,ln,rfl⟩)),fun e=>lD lE (by simp only at e;rw[<-e];exact ln)⟩
   ·obtain⟨⟨b,s⟩,le,rfl⟩:=List.mem_map.1 hi
    obtain⟨q,R⟩:=cW.1 le
    exact⟨List.mem_append.2 (.inr (List.mem_map.2 ⟨_,q,rfl⟩)),R⟩
  refine h.zY ld (fun b _ o=>mM (fun i hi=>(lm i hi).1) o) fun lo lp=>?_
  rintro(lF|⟨i,hi,lG⟩)
  ·have q:=h.outer lo lF
   rcases(h.lt ll lp).2 with R|R
   ·omega
   ·exact q.2 R
  ·obtain⟨q,R⟩:=lm i hi
   exact h.apart i r q ll R lo lG lp
 obtain⟨a,cap,cells,lf,lT,lU,lV,lq,lH⟩:=lC
 rw[lA]at lf
 simp only[List.cons.injEq,and_true,Value.slice.injEq]at lf
 obtain⟨lI,lW,lX⟩:=lf
 subst lI
 have lJ:n.toNat<=c.xs.length:=by omega
 have lK:=jw (fun _ _=>cf c.t) _ _ lq
 have lr:Y.length=c.xs.length-n.toNat:=by rw[lb,List.length_drop]
 refine⟨.slice (some (if c.xs.length=n.toNat then⟨g,0,none⟩else(⟨g,0,none⟩:Addr).add (n.toNat*c.t.cells))) (c.xs.length-n.toNat) (c.xs.length-n.toNat),w,m,
  cn (s:=Instr.sliceAt t (Act.eval ⟨T,ah.D cx⟩ x) (some (Act.eval ⟨T,ah.D cx⟩ X)) none none) (by simp only[execOp,ls];rfl) ?_,lB,?_⟩
 ·simp only[lc,lw,Instr.sliceAt,Sem.run_bind,run_underlying ly,Result.andThen_ok,Instr.sureAddr,Sem.run_pure]
  have o:(Instr.sliceBounds false len len (some (.int k n)) none none).run cx.P w=.ok (n.toNat,len,len) w:=by
   have lL:n<=(len:Int):=by rw[<-lk];exact q
   simp[Instr.sliceBounds,Instr.sliceBound,asIntOf,lx,lL]
  rw[o]
  simp only[Result.andThen_ok,Sem.run_bind,fa lz,Sem.run_pure,lk]
 ·refine(bA (t:=.ab c.t) rfl).2 ⟨_,c.xs.length-n.toNat,cells.drop (n.toNat*c.t.cells),by rw[lr],by rw[lr];exact Nat.le_refl _,by omega,(fun e=>by cases e),?_,?_⟩
  ·rw[lb];exact E5 _ lq lJ
  ·intro j u lg
   rw[List.getElem?_drop]at lg
   obtain⟨b,Z,la,U⟩:=lH _ _ lg
   cases Z
   have lM:=(List.getElem?_eq_some_iff.1 lg).1
   by_cases W:c.xs.length=n.toNat
   ·rw[lK,W]at lM
    omega
   ·refine⟨_,rfl,?_,?_⟩
    ·rw[if_neg W,add_add]
     exact la
    ·rw[if_neg W,jQ]
     exact U
theorem MX(h:an cx m st T w){aa:Oper}{d:Nat}(ai:d<cx.n){orc:List al}{r:Ax}(o:mc cx.P st aa d orc=some r)(Y:bP r.ob):eS cx T w aa r:=by
 unfold mc at o
 split at o
 ·rename_i q
  split at o
  ·cases o;exact Nf h ai (.inl q)
  ·cases o
 ·rename_i q
  split at o
  ·cases o;exact Nf h ai (.inr q)
  ·cases o
 ·rename_i t q
  split at o
  ·rename_i n u U;cases o;exact Q2 h ai q U
  ·split at o
   ·rename_i e u U
    cases aM:Nat.blt (d+1000000) eG with
    |false=>rw[aM]at o;cases o
    |true=>rw[aM]at o;cases o;exact S9 h ai (cR aM) q U
   ·split at o
    ·rename_i e U
     cases aM:Nat.blt (d+1000000) eG with
     |false=>rw[aM]at o;cases o
     |true=>rw[aM]at o;cases o;exact Ny h ai (cR aM) q U
    ·split at o
     ·rename_i u U
      cases la:zN u<;>rw[la]at o<;>cases o
      ·exact U5 h ai q U
      ·exact QE h ai q U
     ·cases o
 ·rename_i t x q
  split at o
  ·rename_i u s R O
   split at o
   ·rename_i l lc ll;cases o;exact WU h ai q O lc ll
   ·cases o
  ·cases o
 ·rename_i t n parts q
  split at o
  ·rename_i e u lb
   split at o
   ·rename_i xs O
    split at o
    ·rename_i ld le lf lg
     cases o
     exact Oz h ai q lb O (Nat.eq_of_beq_eq_true le) (Nat.le_of_ble_eq_true lf) lg
    ·cases o
   ·cases o
  ·cases o
 ·rename_i t parts q
  split at o
  ·rename_i n u lA e i Z R hi
   split at o
   ·rename_i xs ld z O lm U
    split at o
    ·rename_i la
     cases o
     simp only[Bool.and_eq_true]at la
     obtain⟨⟨ln,lo⟩,lp⟩:=la
     obtain rfl:=ag.eq_of_beq lo
     obtain⟨_,_,_,lB,d2,lk,_⟩:=dk Z
     have lq:cx.P.underlying t=some (.array n e):=by rw[R]at lk;cases lk;exact R
     exact WO h q Z hi U lq lm O (Nat.eq_of_beq_eq_true ln) (Nat.eq_of_beq_eq_true lp)
    ·cases o
   ·cases o
  ·cases o
 ·rename_i t l c q
  split at o
  ·rename_i e u n k lb lc X
   split at o
   ·rename_i ld W U
    cases R:u.beq ld with
    |false=>rw[R]at o;cases o
    |true=>
     rw[R]at o
     cases o
     obtain rfl:=ag.eq_of_beq R
     exact TU h ai q lb lc X W U Y.1
   ·cases o
  ·cases o
 ·rename_i t x q
  split at o
  ·rename_i s O Z;cases o;exact QH h ai q O Z
  ·rename_i k v y lr ls O Z;cases o;exact Tg h ai q O Z
  ·cases o
 ·rename_i t r q
  split at o
  ·rename_i lr ls Z
   split at o
   ·rename_i k v lC lD
    split at o
    ·rename_i la
     cases o
     simp only[Bool.and_eq_true]at la
     exact Vq h ai q Z la.2
    ·cases o
   ·cases o
  ·cases o
 ·rename_i x q
  split at o
  ·rename_i b O
   split at o
   ·rename_i k v left last W
    cases o
    exact M1 h q O W Y.1
   ·cases o
  ·cases o
 ·rename_i x q
  split at o
  ·rename_i b O
   split at o
   ·rename_i k v left p W
    cases o
    exact TX h q O W
   ·cases o
  ·cases o
 ·rename_i x q
  split at o
  ·rename_i b lE orc' O
   split at o
   ·rename_i s p W
    split at o
    ·cases o;exact(In h q O W).1 Y.1
    ·cases o;exact(In h q O W).2 Y.1
   ·cases o
  ·cases o
 ·rename_i src lF x q
  split at o
  ·rename_i s e O lh lt;cases o;exact Wt h ai q O lh lt
  ·rename_i s e O lh ai;cases o;exact Uz h q O lh ai
  ·cases o
 ·rename_i f first eX q
  split at o
  ·rename_i bs li X;cases o;exact Ro h q li X
  ·rename_i x li X
   split at o
   ·rename_i b O;cases o;exact QI h q li X O
   ·cases o
  ·cases o
 ·rename_i t x hi q
  split at o
  ·rename_i r e u n O lb lu
   split at o
   ·rename_i c X
    split at o
    ·rename_i le lf lg
     cases o
     exact QG h q O lb lu X (Nat.eq_of_beq_eq_true le) (ag.eq_of_beq lf) (cR lg) Y.1
    ·cases o
   ·cases o
  ·cases o
 ·rename_i t x lG q
  split at o
  ·rename_i r i0 lH lI n len u v orc' O lc lj
   split at o
   ·rename_i c X
    split at o
    ·rename_i lv W lJ
     cases o
     exact Pd h q O lc lj X W Y.1 Y.2.1
    ·cases o
   ·cases o
  ·cases o
 ·rename_i c q
  split at o
  ·rename_i args lK
   split at o
   ·rename_i s x t lL lj lw
    split at o
    ·rename_i e u r c lb lx
     split at o
     ·rename_i ld lv le lf lg ly lz
      cases R:u.beq ld&&Nat.blt r eG with
      |false=>rw[R]at o;cases o
      |true=>
       rw[R]at o
       cases o
       rw[Bool.and_eq_true]at R
       obtain rfl:=ag.eq_of_beq R.1
       exact XE h q lj lw lb lx (Nat.eq_of_beq_eq_true le) (ag.eq_of_beq lf) lg ly lz (cR R.2) Y.1
     ·cases o
    ·cases o
   ·cases o
  ·cases o
 ·cases o
end Go.Ev
namespace Go.Ev
open Go Go.RowKit
variable [b8]
variable {cx:bI} {m:Nat->Value} {st:af} {T:Array Value} {w w':World}
variable [ah cx]
structure jd where
 flat:Bool
 fH:Nat
 eX:List ag
 rel:List al->List al->Prop
def ol(w:World)(M:Nat->Prop)(v:Value):List al->Prop
 |[]=>True
 |[u]=>ba w M v u.t u.x
 |l=>∃vs:List Value,v=.tuple vs.toArray/\dQ w M vs l
structure a8(P:Program)(G:World->Prop)(f:Nat)(F:jd):Prop where
 enters:∀args w,(callFunc f args).run P w=.ok (.enter f args) w
 shape:∀o au,F.rel o au->au.length=F.fH/\(F.flat=true->∀u∈au,u.t.flat=true)
 calls:∀(w:World) (M:Nat->Prop) (vs:List Value) (o au:List al),G w->(∀b,M b->b<w.heap.size)->F.rel o au->dQ w M vs o->
  Calls P f vs.toArray w fun e w'=>∃v,e=.returned v/\ol w' M v au/\Ext w w'
structure Env where
 P:Program
 G:World->Prop
 n:Nat
 fns:List (Nat×jd)
structure bE(E:Env)(cx:bI):Prop where
 P:cx.P=E.P
 n:cx.n=E.n
 rm:∀w,Frame cx.w0 w cx.X->E.G w
 fns:∀f F,(f,F)∈E.fns->a8 E.P E.G f F
def mg(st:af)(b off:Nat)(u:ag):Option al:=
 match look st.ad b with
 |some (.cells l _)=>match pack u ((l.drop off).map (mZ st))with
  |some (x,_)=>some ⟨.ptr u,x⟩
  |none=>none
 |_=>none
def qj(st:af):List Nat->List ag->Option (List al)
 |[],[]=>some []
 |b::bs,u::us=>match mg st b 0 u,qj st bs us with
  |some v,some vs=>some (v::vs)
  |_,_=>none
 |_,_=>none
def pairUp:List al->al
 |[]=>⟨.unit,()⟩
 |u::us=>⟨.pair u.t (pairUp us).t,(u.x,(pairUp us).x)⟩
def Iv:ag->List ag
 |.pair (.ptr u) r=>u::Iv r
 |_=>[]
def rR(st:af)(b off:Nat)(u:ag):Option al:=
 match u with
 |.fn f t=>match look st.ad b with
  |some (.cells l _)=>match l.drop off with
   |.clos g cs::_=>match Nat.beq g f,qj st cs (Iv t)with
    |true,some vs=>match al.as ⟨.fn f (pairUp vs).t,(pairUp vs).x⟩ (.fn f t)with
     |some y=>some ⟨.ptr (.fn f t),y⟩
     |none=>none
    |_,_=>none
   |_=>mg st b off (.fn f t)
  |_=>none
 |u=>mg st b off u
def oI(st:af):List Nat->List ag->Option (List al)
 |[],[]=>some []
 |b::bs,u::us=>match rR st b 0 u,oI st bs us with
  |some v,some vs=>some (v::vs)
  |_,_=>none
 |_,_=>none
def tm:(t:ag)->t.el->Option (List al)
 |.unit,_=>some []
 |.pair a b,x=>match tm b x.2 with
  |some l=>some (⟨a,x.1⟩::l)
  |none=>none
 |_,_=>none
def EH(E:Env)(st:af)(flat:Bool)(t:TypeId)(x:Operand):Option al:=
 match x with
 |.const (.slice none 0 0)=>match dY E.P t with
  |some (_,u)=>some ⟨.ab u,[]⟩
  |none=>none
 |x=>match aS st x with
  |some (.val t y)=>some ⟨t,y⟩
  |some (.vptr t y)=>some ⟨.ptr t,y⟩
  |some (.row r)=>match flat,look st.rw r with
   |true,some c=>some ⟨.ab c.t,c.xs⟩
   |_,_=>none
  |some (.iter b)=>match flat,look st.ad b with
   |true,some (.mp k v ps)=>some ⟨.map k v,some ps⟩
   |_,_=>none
  |some (.ptr b off)=>match flat,E.P.underlying t with
   |true,some (.pointer e)=>match ty E.P e with
    |some u=>rR st b off u
    |none=>none
   |_,_=>none
  |some (.dW b p)=>match flat,look st.ad b with
   |true,some (.aY o y _)=>match kL o y p []with
    |some (r,_,[])=>some ⟨.ptr r.t,r.x⟩
    |_=>none
   |_,_=>none
  |some (.clos f bs)=>match flat,look E.fns f with
   |true,some F=>match oI st bs F.eX with
    |some l=>some ⟨.fn f (pairUp l).t,(pairUp l).x⟩
    |none=>none
   |_,_=>none
  |_=>none
def pC(E:Env)(st:af)(flat:Bool):List TypeId->List Operand->Option (List al)
 |[],[]=>some []
 |t::o,x::xs=>match EH E st flat t x,pC E st flat o xs with
  |some v,some vs=>some (v::vs)
  |_,_=>none
 |_,_=>none
def qX:List al->ao
 |[]=>.any
 |[u]=>.val u.t u.x
 |l=>.dI l
def sB(E:Env)(st:af)(x:Operand):Option (Nat×jd×List al):=
 match aS st x with
 |some (.clos f bs)=>match look E.fns f with
  |some F=>match bs with
   |[]=>some (f,F,[])
   |bs=>match F.flat,oI st bs F.eX with
    |true,some l=>some (f,F,l)
    |_,_=>none
  |none=>none
 |some (.val (.fn f t) y)=>match look E.fns f,tm t y with
  |some F,some l=>match l.all (fun u=>!u.t.agg)with
   |true=>some (f,F,l)
   |false=>none
  |_,_=>none
 |_=>none
def yF(P:Program)(n:Nat)(name:String):Option Nat:=
 match P.info? n,P.underlying n with
 |some i,some (.struct _)=>match i.methods.find? (·.name==name)with
  |some o=>match o.path.toList,o.func with
   |[],some (f,false)=>some f
   |_,_=>none
  |none=>none
 |_,_=>none
theorem SJ{P:Program}{n:Nat}{name:String}{f:Nat}(h:yF P n name=some f)(v:Value)(w:World):(method (P.types.size+Made.depth) n v name).run P w=.ok (f,v) w:=by
 unfold yF at h
 split at h
 case h_2=>cases h
 rename_i i ap hi o
 split at h
 case h_2=>cases h
 rename_i R aM
 split at h
 case h_2=>cases h
 rename_i U q O
 cases h
 have e:P.types.size+Made.depth=(P.types.size+99)+1:=rfl
 rw[e]
 unfold method
 simp[Sem.run_bind,typeInfo,hi,aM,q,follow,O,receiverAt,run_underlying o,Place.get]
def FB(P:Program)(st:af)(x:Operand)(name:String):Option (Nat×al):=
 match aS st x with
 |some (.val (.cB n t) y)=>match yF P n name with
  |some f=>some (f,⟨t,y⟩)
  |none=>none
 |_=>none
def nR(E:Env)(st:af)(c:Call)(orc:List al):Option ew:=
 match c.callee with
 |.invoke x name=>match FB E.P st x name with
  |some (f,u)=>match look E.fns f with
   |some F=>match pC E st F.flat c.argTypes.toList c.args.toList with
    |some o=>bif Nat.ble F.fH orc.length then some ⟨qX (orc.take F.fH),orc.drop F.fH,[F.rel (u::o) (orc.take F.fH)]⟩else none
    |none=>none
   |none=>none
  |none=>none
 |.value x=>match sB E st x with
  |some (_,F,l)=>match pC E st F.flat c.argTypes.toList c.args.toList with
   |some o=>bif Nat.ble F.fH orc.length then some ⟨qX (orc.take F.fH),orc.drop F.fH,[F.rel (o++l) (orc.take F.fH)]⟩else none
   |none=>none
  |none=>none
 |_=>none
theorem KC(h:an cx m st T w):∀{c:List Value} {l:List ao},ct w (av cx m st.ids) m c l->ct w (fun _=>False) m c (l.map (mZ st))
 |[],[],_=>trivial
 |[],_::_,h=>h.elim
 |_::_,[],h=>h.elim
 |_::_,_::_,⟨o,q⟩=>⟨Js h o,KC h q⟩
theorem Dt(h:an cx m st T w){b off:Nat}{u:ag}{v:al}(o:mg st b off u=some v){x:Value}(U:∃g,m b=.pointer (some ⟨g,0,none⟩)/\x=.pointer (some ⟨g,off,none⟩)):
  ba w (fun _=>False) x v.t v.x:=by
 unfold mg at o
 split at o
 ·rename_i l W
  split at o
  ·rename_i y r X
   cases o
   obtain⟨g,Y,rfl⟩:=U
   obtain⟨q,ae,_,cells,Z,e4⟩:=h.box (bc W)
   have:q=g:=by rw[Y]at ae;cases ae;rfl
   subst this
   obtain⟨_,ai⟩:=jm off e4
   obtain⟨c1,c2,la,lb,_⟩:=rh u (KC h ai) X
   refine(bA (t:=.ptr u) rfl).2 ⟨_,c1,rfl,lb,fun j v O=>⟨?_,fun h=>h⟩⟩
   have R:(cells.toList.drop off)[j]? =some v:=by rw[la,List.getElem?_append_left (List.getElem?_eq_some_iff.1 O).1];exact O
   rw[List.getElem?_drop]at R
   have lc:(⟨q,off,none⟩:Addr).add j=⟨q,off+j,none⟩:=by unfold Addr.add;split<;>simp_all
   rw[lc,pR Z]
   simpa using R
  ·cases o
 ·cases o
theorem KG(h:an cx m st T w):∀{bs:List Nat} {us:List ag} {l:List al},(∀b∈bs,∀c e,look st.ad b=some (.cells c e)->∃g,m b=.pointer (some ⟨g,0,none⟩))->qj st bs us=some l->dQ w (fun _=>False) (bs.map m) l
 |[],[],_,_,o=>by cases o;trivial
 |[],_::_,_,_,o=>by cases o
 |_::_,[],_,_,o=>by cases o
 |b::bs,u::us,l,O,o=>by
  unfold qj at o
  split at o
  ·rename_i v vs q U
   cases o
   refine⟨Dt h q ?_,KG h (fun b W=>O b (List.mem_cons_of_mem _ W)) U⟩
   unfold mg at q
   split at q
   ·rename_i c e X
    obtain⟨g,R⟩:=O b List.mem_cons_self c e X
    exact⟨g,R,R⟩
   ·cases q
  ·cases o
theorem xR(h:an cx m st T w){b:Nat}{c:List ao}{e:Nat}(o:look st.ad b=some (.cells c e)):∃g,m b=.pointer (some ⟨g,0,none⟩):=by
 obtain⟨g,ae,_⟩:=h.box (bc o)
 exact⟨g,ae⟩
theorem sx{w:World}{M:Nat->Prop}:∀{vs:List Value} {l:List al},(∀u∈l,u.t.agg=false)->dQ w M vs l->aJ w M (pairUp l).t vs (pairUp l).x
 |[],[],_,_=>rfl
 |[],_::_,_,h=>h.elim
 |_::_,[],_,h=>h.elim
 |v::vs,u::us,o,⟨q,O⟩=>⟨[v],vs,rfl,(bA (o u List.mem_cons_self)).1 q,sx (fun x R=>o x (List.mem_cons_of_mem _ R)) O⟩
theorem MF:∀{bs:List Nat} {us:List ag} {l:List al},qj st bs us=some l->∀u∈l,u.t.agg=false
 |[],[],_,o=>by cases o;simp
 |[],_::_,_,o=>by cases o
 |_::_,[],_,o=>by cases o
 |b::bs,u::us,l,o=>by
  unfold qj at o
  split at o
  ·rename_i v vs q R
   cases o
   intro x O
   rcases List.mem_cons.1 O with rfl|O
   ·unfold mg at q
    split at q
    ·split at q
     ·cases q;rfl
     ·cases q
    ·cases q
   ·exact MF R x O
  ·cases o
theorem HD(h:an cx m st T w){b off:Nat}{u:ag}{v:al}(o:rR st b off u=some v){x:Value}(O:∃g,m b=.pointer (some ⟨g,0,none⟩)/\x=.pointer (some ⟨g,off,none⟩)):
  ba w (fun _=>False) x v.t v.x:=by
 unfold rR at o
 split at o
 ·rename_i f t
  split at o
  ·rename_i l e Y
   split at o
   ·rename_i g cs r Z
    split at o
    ·rename_i vs R W
     split at o
     ·rename_i y la
      cases o
      have R:=Nat.eq_of_beq_eq_true R
      subst R
      have lb:=al.dj la
      obtain⟨g0,lc,rfl⟩:=O
      obtain⟨U,ae,_,cells,ld,e4⟩:=h.box (bc Y)
      have:U=g0:=by rw[lc]at ae;cases ae;rfl
      subst this
      obtain⟨_,ai⟩:=jm off e4
      rw[Z]at ai
      match le:cells.toList.drop off,ai with
      |c1::lm,⟨lf,_⟩=>
       have lg:c1=.func (.func g) #[] (cs.map m).toArray:=lf
       have lh:aJ w (fun _=>False) (pairUp vs).t (cs.map m) (pairUp vs).x:=sx (MF W) (KG h (fun b _ c e li=>xR h li) W)
       have lj:aJ w (fun _=>False) (.fn g (pairUp vs).t) [c1] (pairUp vs).x:=⟨cs.map m,by rw[lg],lh⟩
       have lk:aJ w (fun _=>False) (.fn g t) [c1] y:=by
        have:∀(a b:al),a=b->aJ w (fun _=>False) a.t [c1] a.x->aJ w (fun _=>False) b.t [c1] b.x:=fun a b e h=>e▸h
        exact this _ ⟨.fn g t,y⟩ lb lj
       refine(bA (t:=.ptr (.fn g t)) rfl).2 ⟨_,[c1],rfl,lk,fun j v q=>⟨?_,fun h=>h⟩⟩
       have X:(cells.toList.drop off)[j]? =some v:=by
        rw[le]
        match j,q with
        |0,q=>exact q
        |j+1,q=>simp at q
       rw[List.getElem?_drop]at X
       have ll:(⟨U,off,none⟩:Addr).add j=⟨U,off+j,none⟩:=by unfold Addr.add;split<;>simp_all
       rw[ll,pR ld]
       simpa using X
      |[],ai=>exact ai.elim
     ·cases o
    ·cases o
   ·exact Dt h o O
  ·cases o
 ·exact Dt h o O
theorem Jv{b off:Nat}{u:ag}{v:al}(o:rR st b off u=some v):(∃c e,look st.ad b=some (.cells c e))/\v.t.agg=false:=by
 have O:∀{u:ag},mg st b off u=some v->(∃c e,look st.ad b=some (.cells c e))/\v.t.agg=false:=by
  intro u o
  unfold mg at o
  split at o
  ·rename_i l e q
   split at o
   ·cases o;exact⟨⟨l,e,q⟩,rfl⟩
   ·cases o
  ·cases o
 unfold rR at o
 split at o
 ·split at o
  ·rename_i l e q
   split at o
   ·split at o
    ·split at o
     ·cases o;exact⟨⟨l,e,q⟩,rfl⟩
     ·cases o
    ·cases o
   ·exact O o
  ·cases o
 ·exact O o
theorem Dg(h:an cx m st T w):∀{bs:List Nat} {us:List ag} {l:List al},(∀b∈bs,∀c e,look st.ad b=some (.cells c e)->∃g,m b=.pointer (some ⟨g,0,none⟩))->oI st bs us=some l->dQ w (fun _=>False) (bs.map m) l
 |[],[],_,_,o=>by cases o;trivial
 |[],_::_,_,_,o=>by cases o
 |_::_,[],_,_,o=>by cases o
 |b::bs,u::us,l,q,o=>by
  unfold oI at o
  split at o
  ·rename_i v vs O U
   cases o
   obtain⟨⟨c,e,W⟩,_⟩:=Jv O
   obtain⟨g,R⟩:=q b List.mem_cons_self c e W
   exact⟨HD h O ⟨g,R,R⟩,Dg h (fun b X=>q b (List.mem_cons_of_mem _ X)) U⟩
  ·cases o
theorem GX:∀{bs:List Nat} {us:List ag} {l:List al},oI st bs us=some l->∀u∈l,u.t.agg=false
 |[],[],_,o=>by cases o;simp
 |[],_::_,_,o=>by cases o
 |_::_,[],_,o=>by cases o
 |b::bs,u::us,l,o=>by
  unfold oI at o
  split at o
  ·rename_i v vs O R
   cases o
   intro x q
   rcases List.mem_cons.1 q with rfl|q
   ·exact(Jv O).2
   ·exact GX R x q
  ·cases o
theorem M8{w:World}{M:Nat->Prop}:∀(t:ag) {vs:List Value} {x:t.el} {l:List al},tm t x=some l->aJ w M t vs x->∃us,dQ w M us l/\(∀u∈l,u.t.agg=false->True)/\(l.all (fun u=>!u.t.agg)=true->us=vs)
 |.unit,vs,x,l,o,h=>by cases o;cases h;exact⟨[],trivial,fun _ _ _=>trivial,fun _=>rfl⟩
 |.pair a b,vs,x,l,o,⟨c1,c2,e,R,W⟩=>by
  unfold tm at o
  split at o
  ·rename_i Y X
   cases o
   obtain⟨us,aC,_,bW⟩:=M8 b X W
   cases q:a.agg with
   |true=>exact⟨.agg c1.toArray::us,⟨(eh q).2 ⟨c1,rfl,R⟩,aC⟩,fun _ _ _=>trivial,fun O=>by simp[q]at O⟩
   |false=>
    have U:=cf a R
    have:a.cells=1:=by cases a<;>first|rfl|(simp[ag.agg]at q)
    rw[this]at U
    match c1,U with
    |[v],_=>
     refine⟨v::us,⟨(bA q).2 R,aC⟩,fun _ _ _=>trivial,fun O=>?_⟩
     rw[List.all_cons,Bool.and_eq_true]at O
     rw[e,bW O.2]
     rfl
  ·cases o
 |.int _,_,_,_,o,_=>by cases o
 |.bool,_,_,_,o,_=>by cases o
 |.str,_,_,_,o,_=>by cases o
 |.ab _,_,_,_,o,_=>by cases o
 |.ptr _,_,_,_,o,_=>by cases o
 |.fn _ _,_,_,_,o,_=>by cases o
 |.err,_,_,_,o,_=>by cases o
 |.ck,_,_,_,o,_=>by cases o
 |.cE,_,_,_,o,_=>by cases o
theorem Xl{E:Env}(ln:cx.P=E.P)(h:an cx m st T w){flat:Bool}{t:TypeId}{x:Operand}{v:al}(o:EH E st flat t x=some v):
  ba w (fun b=>flat=false/\av cx m st.ids b) (Act.eval ⟨T,ah.D cx⟩ x) v.t v.x:=by
 have aC:∀b,b<w.heap.size->¬av cx m st.ids b->w.heap[b]? =w.heap[b]? :=fun _ _ _=>rfl
 have aA:∀b,b<w.heap.size->(flat=false/\av cx m st.ids b)->av cx m st.ids b:=fun _ _ h=>h.2
 have bW:∀b,b<w.heap.size->¬False->w.heap[b]? =w.heap[b]? :=fun _ _ _=>rfl
 have Z:∀b,b<w.heap.size->(true=false/\av cx m st.ids b)->False:=fun _ _ h=>by cases h.1
 unfold EH at o
 split at o
 ·split at o
  ·rename_i e u lb
   cases o
   refine(bA (t:=.ab u) rfl).2 ⟨none,0,[],rfl,Nat.le_refl _,by decide,fun _=>rfl,rfl,fun j v W=>by simp at W⟩
  ·cases o
 ·split at o
  ·rename_i X y q
   cases o
   have:=bf h q
   exact dt aC aA this
  ·rename_i X y q
   cases o
   have:=fE aC aA (bf h q)
   obtain⟨a,cells,e,r⟩:=this
   rw[e]
   exact(bA (t:=.ptr X) rfl).2 ⟨a,cells,rfl,r⟩
  ·rename_i r q
   split at o
   ·rename_i c R
    cases o
    have U:Act.eval ⟨T,ah.D cx⟩ x=m r:=bf h q
    rw[U]
    refine(bA (t:=.ab c.t) rfl).2 (h.zY (bc R) (fun b _ O=>O.2) fun g _ O=>?_)
    simp at O
   ·cases o
  ·rename_i b q
   split at o
   ·rename_i k v' ps R
    cases o
    have U:Act.eval ⟨T,ah.D cx⟩ x=m b:=bf h q
    obtain⟨g,ae,_,es,lc,ld,le,lf,lg⟩:=h.box (bc R)
    rw[U,ae]
    refine(bA (t:=.map k v') rfl).2 ⟨g,es,lc,rfl,ld,(fun O:true=false/\av cx m st.ids g=>by cases O.1),le,lf,ic (fun _ _ h=>dt aC aA h) (fun _ _ h=>dt aC aA h) lg⟩
   ·cases o
  ·rename_i b off q
   split at o
   ·rename_i e lb
    split at o
    ·rename_i u lo
     exact dt bW Z (HD h o (bf h q))
    ·cases o
   ·cases o
  ·rename_i b p q
   split at o
   ·rename_i X y e O
    split at o
    ·rename_i r aa lh
     cases o
     obtain⟨g,li,lj⟩:=bf h q
     obtain⟨la,ae,_,cells,lk,e4⟩:=h.box (bc O)
     have:la=g:=by rw[li]at ae;cases ae;rfl
     subst this
     obtain⟨c1,c2,c3,ll,Y,lm⟩:=zA p X e4 lh trivial
     rw[lj]
     refine(bA (t:=.ptr r.t) rfl).2 ⟨⟨la,gc p,none⟩,c2,rfl,cI aC aA r.t lm,fun j v W=>⟨?_,fun O=>by cases O.1⟩⟩
     have lp:=(List.getElem?_eq_some_iff.1 W).1
     rw[gU,pR lk,<-Array.getElem?_toList,ll,List.append_assoc,List.getElem?_append_right (by omega),List.getElem?_append_left (by omega),<-W]
     congr 1
     omega
    ·cases o
   ·cases o
  ·rename_i f bs q
   split at o
   ·rename_i F lq
    split at o
    ·rename_i l Y
     cases o
     have U:Act.eval ⟨T,ah.D cx⟩ x=.func (.func f) #[] (bs.map m).toArray:=bf h q
     rw[U]
     refine(bA (t:=.fn f (pairUp l).t) rfl).2 ⟨bs.map m,rfl,?_⟩
     exact cI bW Z _ (sx (GX Y) (Dg h (fun b _ c e R=>xR h R) Y))
    ·cases o
   ·cases o
  ·cases o
theorem Cb{E:Env}(q:cx.P=E.P)(h:an cx m st T w){flat:Bool}:∀{O:List TypeId} {xs:List Operand} {vs:List al},pC E st flat O xs=some vs->
  dQ w (fun b=>flat=false/\av cx m st.ids b) (xs.map (Act.eval ⟨T,ah.D cx⟩)) vs
 |[],[],_,o=>by cases o;trivial
 |[],_::_,_,o=>by cases o
 |_::_,[],_,o=>by cases o
 |t::O,x::xs,vs,o=>by
  unfold pC at o
  split at o
  ·rename_i v W R U
   cases o
   exact⟨Xl q h R,Cb q h U⟩
  ·cases o
theorem ES{M:Nat->Prop}:∀{a b:List Value} {l r:List al},dQ w M a l->dQ w M b r->dQ w M (a++b) (l++r)
 |[],_,[],_,_,h=>h
 |[],_,_::_,_,h,_=>h.elim
 |_::_,_,[],_,h,_=>h.elim
 |_::_,_,_::_,_,⟨o,q⟩,h=>⟨o,ES q h⟩
theorem V2{E:Env}(h:an cx m st T w){x:Operand}{f:Nat}{F:jd}{l:List al}(o:sB E st x=some (f,F,l)):
  look E.fns f=some F/\∃bs:List Value,Act.eval ⟨T,ah.D cx⟩ x=.func (.func f) #[] bs.toArray/\∃us,us=bs/\dQ w (fun b=>F.flat=false/\av cx m st.ids b) us l:=by
 have aC:∀b,b<w.heap.size->¬av cx m st.ids b->w.heap[b]? =w.heap[b]? :=fun _ _ _=>rfl
 have bW:∀b,b<w.heap.size->¬False->w.heap[b]? =w.heap[b]? :=fun _ _ _=>rfl
 unfold sB at o
 split at o
 ·rename_i W bs U
  have q:Act.eval ⟨T,ah.D cx⟩ x=.func (.func W) #[] (bs.map m).toArray:=bf h U
  split at o
  ·rename_i lc O
   split at o
   ·cases o
    exact⟨O,[],q,[],rfl,trivial⟩
   ·split at o
    ·rename_i Y X
     cases o
     refine⟨O,_,q,_,rfl,rJ bW (fun b _ R=>?_) (Dg h (fun b _ c e o=>xR h o) X)⟩
     rw[Y]at R
     cases R.1
    ·cases o
  ·cases o
 ·rename_i W t y U
  split at o
  ·rename_i O X
   split at o
   ·cases o
    have q:ba w (av cx m st.ids) (Act.eval ⟨T,ah.D cx⟩ x) (.fn f t) y:=bf h U
    obtain⟨bs,e,Z⟩:=(bA (t:=.fn f t) rfl).1 q
    simp only[List.cons.injEq,and_true]at e
    obtain⟨us,la,_,lb⟩:=M8 t ‹tm t y=some l› Z
    refine⟨O,bs,e,us,lb ‹_›,rJ aC (fun b _ R=>R.2) la⟩
   ·cases o
  ·cases o
 ·cases o
theorem BY{w w':World}{M M':Nat->Prop}:∀{vs:List Value} {l:List al},(∀u∈l,u.t.flat=true)->dQ w M vs l->dQ w' M' vs l
 |[],[],_,_=>trivial
 |[],_::_,_,h=>h.elim
 |_::_,[],_,h=>h.elim
 |_::_,u::_,o,⟨q,O⟩=>⟨DF (o u List.mem_cons_self) q,BY (fun x R=>o x (List.mem_cons_of_mem _ R)) O⟩
theorem LN{M:Nat->Prop}{v:Value}:∀{l:List al},ol w M v l->aT w M m v (qX l)
 |[],_=>trivial
 |[_],h=>h
 |_::_::_,h=>h
theorem JG{w w':World}{M M':Nat->Prop}{v:Value}:∀{l:List al},(∀u∈l,u.t.flat=true)->ol w M v l->ol w' M' v l
 |[],_,_=>trivial
 |[u],o,h=>DF (o u List.mem_cons_self) h
 |_::_::_,o,⟨vs,e,h⟩=>⟨vs,e,BY o h⟩
theorem vq{c:Call}{aa:Oper}{f:Nat}{x:Operand}{bs:List Value}(q:aa.op=.call c)(o:c.callee=.value x)(O:Act.eval ⟨T,ah.D cx⟩ x=.func (.func f) #[] bs.toArray)
  (R:∀args w,(callFunc f args).run cx.P w=.ok (.enter f args) w)(w:World):
  (execOp (Act.eval ⟨T,ah.D cx⟩) aa).run cx.P w=.ok (.enter f (c.args.toList.map (Act.eval ⟨T,ah.D cx⟩)++bs).toArray) w:=by
 obtain⟨U,args,W⟩:=c
 simp only at o
 subst o
 have ae:#[]++args.map (Act.eval ⟨T,ah.D cx⟩)++bs.toArray=(args.toList.map (Act.eval ⟨T,ah.D cx⟩)++bs).toArray:=by
  apply Array.ext'
  simp
 simp only[execOp,q,resolve,O,Deferred.ofValue,Sem.run_bind,Sem.run_pure,Result.andThen_ok,invoke]
 rw[ae]
 simp[R]
theorem Sz{c:Call}{aa:Oper}{n f:Nat}{x:Operand}{name:String}{v:Value}(q:aa.op=.call c)(o:c.callee=.invoke x name)(O:Act.eval ⟨T,ah.D cx⟩ x=.iface n v)
  (R:yF cx.P n name=some f)(U:∀args w,(callFunc f args).run cx.P w=.ok (.enter f args) w)(w:World):
  (execOp (Act.eval ⟨T,ah.D cx⟩) aa).run cx.P w=.ok (.enter f (v::c.args.toList.map (Act.eval ⟨T,ah.D cx⟩)).toArray) w:=by
 obtain⟨Z,args,la⟩:=c
 simp only at o
 subst o
 have ae:#[v]++args.map (Act.eval ⟨T,ah.D cx⟩)=(v::args.toList.map (Act.eval ⟨T,ah.D cx⟩)).toArray:=by
  apply Array.ext'
  simp
 have W:=SJ R v w
 have X:(#[Value.iface n v]++args.map (Act.eval ⟨T,ah.D cx⟩))[0]? =some (Value.iface n v):=by
  rw[Array.getElem?_append_left (by simp)]
  rfl
 have Y:(#[Value.iface n v]++args.map (Act.eval ⟨T,ah.D cx⟩)).extract 1 (#[Value.iface n v]++args.map (Act.eval ⟨T,ah.D cx⟩)).size=args.map (Act.eval ⟨T,ah.D cx⟩):=by
  apply Array.ext'
  simp
  exact List.take_of_length_le (by simp)
 simp only[execOp,q,resolve,O,Sem.run_bind,Sem.run_pure,Result.andThen_ok,invoke,X,Y]
 simp only[callMethod,Sem.run_bind,run_program,Result.andThen_ok,W,ae,U]
theorem tx{E:Env}(U:bE E cx)(h:an cx m st T w){aa:Oper}{c:Call}(le:aa.op=.call c){orc:List al}{r:ew}(o:nR E st c orc=some r)(X:bP r.ob):
  ∃f args,(∀w,(execOp (Act.eval ⟨T,ah.D cx⟩) aa).run cx.P w=.ok (.enter f args) w)/\
   Calls cx.P f args w fun e w'=>∃v,e=.returned v/\Ext w w'/\aT w' (av cx m st.ids) m v r.aU:=by
 unfold nR at o
 split at o
 ·rename_i x name Y
  split at o
  case h_2=>cases o
  rename_i f u hi
  split at o
  case h_2=>cases o
  rename_i F Z
  split at o
  case h_2=>cases o
  rename_i lg has
  cases q:Nat.ble F.fH orc.length with
  |false=>rw[q]at o;cases o
  |true=>
   rw[q]at o
   cases o
   unfold FB at hi
   split at hi
   case h_2=>cases hi
   rename_i n t y lh
   split at hi
   case h_2=>cases hi
   rename_i lo lf
   cases hi
   have li:ba w (av cx m st.ids) (Act.eval ⟨T,ah.D cx⟩ x) (.cB n t) y:=bf h lh
   obtain⟨v0,eC,lj⟩:=(bA (t:=.cB n t) rfl).1 li
   simp only[List.cons.injEq,and_true]at eC
   have O:=U.fns f F (bc Z)
   rw[<-U.P]at O lf
   have aC:∀b,b<w.heap.size->¬av cx m st.ids b->w.heap[b]? =w.heap[b]? :=fun _ _ _=>rfl
   have lk:dQ w (fun b=>F.flat=false/\av cx m st.ids b) [v0] [⟨t,y⟩]:=rJ aC (fun b _ q=>q.2) ⟨lj,trivial⟩
   have la:=ES lk (Cb U.P h has)
   have lb:=O.calls w (fun b=>F.flat=false/\av cx m st.ids b) _ _ _ (U.rm w h.frame) (fun b q=>h.ym q.2) X.1 la
   refine⟨f,_,Sz le Y eC lf O.enters,lb.mono ?_⟩
   rintro e w' ⟨v,lc,R,ld⟩
   refine⟨v,lc,ld,LN ?_⟩
   cases W:F.flat with
   |true=>exact JG ((O.shape _ _ X.1).2 W) R
   |false=>
    rw[W]at R
    have:(fun b=>false=false/\av cx m st.ids b)=av cx m st.ids:=by funext b;simp
    rw[this]at R
    exact R
 ·rename_i x Y
  split at o
  ·rename_i f F l Z
   split at o
   ·rename_i lg has
    cases q:Nat.ble F.fH orc.length with
    |false=>rw[q]at o;cases o
    |true=>
     rw[q]at o
     cases o
     obtain⟨ll,bs,lm,us,e,ln⟩:=V2 h Z
     subst e
     have O:=U.fns f F (bc ll)
     rw[<-U.P]at O
     have la:=ES (Cb U.P h has) ln
     have lb:=O.calls w (fun b=>F.flat=false/\av cx m st.ids b) _ _ _ (U.rm w h.frame) (fun b q=>h.ym q.2) X.1 la
     refine⟨f,_,vq le Y lm O.enters,lb.mono ?_⟩
     rintro e w' ⟨v,lc,R,ld⟩
     refine⟨v,lc,ld,LN ?_⟩
     cases W:F.flat with
     |true=>exact JG ((O.shape _ _ X.1).2 W) R
     |false=>
      rw[W]at R
      have:(fun b=>false=false/\av cx m st.ids b)=av cx m st.ids:=by funext b;simp
      rw[this]at R
      exact R
   ·cases o
  ·cases o
 ·cases o
def KL(st:af)(x:Operand):af:=
 match aS st x with
 |some (.row r)=>match look st.rw r with
  |some c=>st.freeze r c
  |none=>st
 |some (.iter b)=>match look st.ad b with
  |some (.mp k v ps)=>st.fK b k v ps
  |_=>st
 |_=>st
def ip:af->List Operand->af
 |st,[]=>st
 |st,x::xs=>ip (KL st x) xs
def ir(E:Env):Op->List Operand
 |.range _ x=>[x]
 |.slice _ x (some _) _ none=>[x]
 |.build _ ps=>ps.toList.map (·.2)
 |.buildSlice _ _ ps=>ps.toList.map (·.2)
 |.call c=>match c.callee with
  |.value (.func f)=>match look E.fns f with
   |some F=>bif F.flat then[]else c.args.toList
   |none=>c.args.toList
  |_=>[]
 |_=>[]
theorem vL:∀{l:List Operand} {st:af},an cx m st T w->an cx m (ip st l) T w
 |[],_,h=>h
 |x::xs,st,h=>by
  refine vL (l:=xs) ?_
  unfold KL
  split
  ·split
   ·rename_i c o;exact h.freeze (bc o)
   ·exact h
  ·split
   ·rename_i k v ps o;exact h.fK (bc o)
   ·exact h
  ·exact h
def oT(E:Env)(o:af)(aa:Oper)(orc:List al):Option (af×List al×List Prop):=
 match aa.dst with
 |none=>match aa.op with
  |.store t x y=>wX E.P o t x y orc
  |.mapUpdate t x k v=>match uI E.P (ip o [v]) t x k v with
   |some q=>some (q,orc,[])
   |none=>none
  |.call c=>match nR E (ip o (ir E aa.op)) c orc with
   |some r=>some (ip o (ir E aa.op),r.orc,r.ob)
   |none=>none
  |_=>none
 |some d=>match Nat.blt d E.n with
  |true=>match dA E.P (ip o (ir E aa.op)) aa.op orc with
   |some r=>some ((ip o (ir E aa.op)).put d r.aU,r.orc,r.ob)
   |none=>match aa.op with
    |.load t x=>match tR E.P o t x orc with
     |some r=>some (o.put d r.aU,r.orc,r.ob)
     |none=>none
    |.call c=>match nR E (ip o (ir E aa.op)) c orc with
     |some r=>some ((ip o (ir E aa.op)).put d r.aU,r.orc,r.ob)
     |none=>match mc E.P o aa d orc with
      |some r=>some (r.st.put d r.aU,r.orc,r.ob)
      |none=>none
    |_=>match mc E.P (ip o (ir E aa.op)) aa d orc with
     |some r=>some (r.st.put d r.aU,r.orc,r.ob)
     |none=>none
  |false=>none
theorem gT{aa:Oper}{v:Value}{K:Act->World->Prop}{Q:Exit->Act->World->Prop}(o:(execOp (Act.eval ⟨T,ah.D cx⟩) aa).run cx.P w=.ok (.value v) w')(q:K (Act.put ⟨T,ah.D cx⟩ aa.dst v) w'):
  aa.wp cx.P ⟨T,ah.D cx⟩ w K Q:=by
 unfold Oper.wp
 rw[o]
 exact q
theorem uK{E:Env}(R:bE E cx)(h:ak cx st T w){aa:Oper}{orc:List al}{st':af}{orc':List al}{ob:List Prop}(o:oT E st aa orc=some (st',orc',ob))(U:bP ob)
  {K:Act->World->Prop}{Q:Exit->Act->World->Prop}(Z:∀lm w',ak cx st' lm w'->K ⟨lm,ah.D cx⟩ w'):aa.wp cx.P ⟨T,ah.D cx⟩ w K Q:=by
 obtain⟨m,W⟩:=h
 unfold oT at o
 split at o
 ·rename_i ai
  split at o
  ·rename_i t x y q
   rw[<-R.P]at o
   obtain⟨w',X,lf⟩:=Ue W o U
   unfold Oper.wp
   have la:(execOp (Act.eval ⟨T,ah.D cx⟩) aa).run cx.P w=.ok .skip w':=by
    simp only[execOp,q,Sem.run_bind,X,Result.andThen_ok,Sem.run_pure]
   rw[la]
   show K (Act.put ⟨T,ah.D cx⟩ aa.dst undef) w'
   rw[ai]
   exact Z T w' ⟨m,lf⟩
  ·rename_i t x k v q
   split at o
   ·rename_i lt ln
    cases o
    have O:=vL (l:=[v]) W
    rw[<-R.P]at ln
    obtain⟨w',X,lf⟩:=Vj O ln
    unfold Oper.wp
    have la:(execOp (Act.eval ⟨T,ah.D cx⟩) aa).run cx.P w=.ok .skip w':=by
     simp only[execOp,q,Sem.run_bind,X,Result.andThen_ok,Sem.run_pure]
    rw[la]
    show K (Act.put ⟨T,ah.D cx⟩ aa.dst undef) w'
    rw[ai]
    exact Z T w' ⟨m,lf⟩
   ·cases o
  ·rename_i c q
   split at o
   ·rename_i r lb
    cases o
    have O:=vL (l:=ir E aa.op) W
    obtain⟨f,args,X,lg⟩:=tx R O q lb U
    unfold Oper.wp
    rw[X w]
    refine lg.mono ?_
    rintro e w' ⟨v,rfl,lh,_⟩
    show K (Act.put ⟨T,ah.D cx⟩ aa.dst v) w'
    rw[ai]
    exact Z T w' ⟨m,O.ext lh⟩
   ·cases o
  ·cases o
 ·rename_i d ai
  split at o
  ·rename_i lq
   have ld:d<cx.n:=by rw[R.n];exact cR lq
   have O:=vL (l:=ir E aa.op) W
   have fin:∀(v:Value) (w':World) (aI:Nat->Value) (le:af) (aU:ao),(execOp (Act.eval ⟨T,ah.D cx⟩) aa).run cx.P w=.ok (.value v) w'->an cx aI le T w'->aT w' (av cx aI le.ids) aI v aU->le.put d aU=st'->aa.wp cx.P ⟨T,ah.D cx⟩ w K Q:=by
    intro v w' aI le aU la li Y e
    refine gT la ?_
    rw[ai]
    exact Z _ _ ⟨aI,e▸li.put ld Y⟩
   have lr:∀(c:Call) (r:ew),aa.op=.call c->nR E (ip st (ir E aa.op)) c orc=some r->bP r.ob->(ip st (ir E aa.op)).put d r.aU=st'->aa.wp cx.P ⟨T,ah.D cx⟩ w K Q:=by
    intro c r q lb U e
    obtain⟨f,args,X,lg⟩:=tx R O q lb U
    unfold Oper.wp
    rw[X w]
    refine lg.mono ?_
    rintro lu w' ⟨v,rfl,lh,Y⟩
    show K (Act.put ⟨T,ah.D cx⟩ aa.dst v) w'
    rw[ai]
    exact Z _ _ ⟨m,e▸(O.ext lh).put ld Y⟩
   split at o
   ·rename_i r lo
    cases o
    rw[<-R.P]at lo
    obtain⟨v,ls,Y⟩:=EG O lo U
    exact fin v w m _ _ (ls w (Ext.refl w)) O Y rfl
   ·split at o
    ·rename_i t x q
     split at o
     ·rename_i r lp
      cases o
      rw[<-R.P]at lp
      obtain⟨v,li,Y⟩:=Cr W lp U
      exact fin v w m _ _ (cn (by simp only[execOp,q]) (li w (Ext.refl w))) W Y rfl
     ·cases o
    ·rename_i c q
     split at o
     ·rename_i r lb
      cases o
      exact lr c r q lb U rfl
     ·split at o
      ·rename_i r lc
       cases o
       rw[<-R.P]at lc
       obtain⟨v,w',aI,lj,lk,ll⟩:=MX W ld lc U
       exact fin v w' aI _ _ lj lk ll rfl
      ·cases o
    ·split at o
     ·rename_i r lc
      cases o
      rw[<-R.P]at lc
      obtain⟨v,w',aI,lj,lk,ll⟩:=MX O ld lc U
      exact fin v w' aI _ _ lj lk ll rfl
     ·cases o
  ·cases o
def BA(E:Env)(st:af)(aa:Oper)(orc:List al):Option (af×List al×List Prop):=
 match aa.op,orc with
 |.slice _ x none (some _) none,⟨.unit,_⟩::orc'=>oT E (ip st [x]) aa orc'
 |_,_=>oT E st aa orc
theorem RP{E:Env}(q:bE E cx)(h:ak cx st T w){aa:Oper}{orc:List al}{st':af}{orc':List al}{ob:List Prop}(o:BA E st aa orc=some (st',orc',ob))(O:bP ob)
  {K:Act->World->Prop}{Q:Exit->Act->World->Prop}(R:∀U w',ak cx st' U w'->K ⟨U,ah.D cx⟩ w'):aa.wp cx.P ⟨T,ah.D cx⟩ w K Q:=by
 unfold BA at o
 split at o
 ·obtain⟨m,W⟩:=h
  exact uK q ⟨m,vL W⟩ o O R
 ·exact uK q h o O R
end Go.Ev
namespace Go.Ev
open Go Go.RowKit
variable [b8]
variable {cx:bI} {m:Nat->Value} {st st':af} {T:Array Value} {w w':World}
variable [ah cx]
theorem zi{M:Nat->Prop}{k:eQ}:∀{xs:List (Option k.el)} {us o:List Value} {i:Nat} {x:k.el},ij w M k xs us o->xs[i]? =some (some x)->∃u,us[i]? =some u/\o[i]? =some u/\kp w M u k x
 |[],[],[],i,x,_,h=>by simp at h
 |none::xs,_::us,_::o,0,x,_,h=>by simp at h
 |some y::xs,u::us,U::o,0,x,⟨O,R,_⟩,h=>by
  simp at h
  subst h
  exact⟨u,rfl,by rw[O];rfl,R⟩
 |none::xs,_::us,_::o,i+1,x,⟨_,h⟩,q=>by
  obtain⟨u,a,b,c⟩:=zi (i:=i) h (by simpa using q)
  exact⟨u,by simpa using a,by simpa using b,c⟩
 |some y::xs,_::us,_::o,i+1,x,⟨_,_,h⟩,q=>by
  obtain⟨u,a,b,c⟩:=zi (i:=i) h (by simpa using q)
  exact⟨u,by simpa using a,by simpa using b,c⟩
theorem xl{M M':Nat->Prop}{k:eQ}(R:∀b,b<w.heap.size->¬M b->w'.heap[b]? =w.heap[b]?)(U:∀b,b<w.heap.size->M' b->M b){x':k.el}{Y:Value}(hi:kp w' M' Y k x'):
  ∀{xs:List (Option k.el)} {us O:List Value} {i:Nat},(∀j v,j≠i->O[j]? =some v->∀b,aY v=some b->w'.heap[b]? =w.heap[b]?)->ij w M k xs us O->ij w' M' k (xs.set i (some x')) (us.set i Y) (O.set i Y)
 |[],[],[],_,_,_=>trivial
 |none::xs,_::us,_::O,0,q,⟨_,h⟩=>⟨rfl,hi,pZ R U (fun u Z b o=>by
   obtain⟨j,W⟩:=List.getElem?_of_mem Z
   exact q (j+1) u (by omega) (by simpa using W) b o) h⟩
 |some y::xs,_::us,_::O,0,q,⟨_,_,h⟩=>⟨rfl,hi,pZ R U (fun u Z b o=>by
   obtain⟨j,W⟩:=List.getElem?_of_mem Z
   exact q (j+1) u (by omega) (by simpa using W) b o) h⟩
 |none::xs,_::us,_::O,i+1,q,⟨X,h⟩=>⟨X,xl R U hi (fun j v W la b o=>q (j+1) v (by omega) (by simpa using la) b o) h⟩
 |some y::xs,u::us,lb::O,i+1,q,⟨X,lc,h⟩=>⟨X,JS R U (fun b o=>q 0 lb (by omega) rfl b (by rw[X];exact o)) lc,xl R U hi (fun j v W la b o=>q (j+1) v (by omega) (by simpa using la) b o) h⟩
theorem B0{M:Nat->Prop}{k:eQ}:∀{xs:List (Option k.el)} {us o:List Value} {i:Nat},ij w M k xs us o->ij w M k (xs.set i none) us (o.set i undef)
 |[],[],[],_,_=>trivial
 |none::xs,_::us,_::o,0,⟨_,h⟩=>⟨rfl,h⟩
 |some y::xs,_::us,_::o,0,⟨_,_,h⟩=>⟨rfl,h⟩
 |none::xs,_::us,_::o,i+1,⟨q,h⟩=>⟨q,B0 h⟩
 |some y::xs,u::us,R::o,i+1,⟨q,O,h⟩=>⟨q,O,B0 h⟩
theorem qQ{us:List Value}{b:Nat}:b∈us.filterMap aY↔∃(j:Nat) (v:Value),us[j]? =some v/\aY v=some b:=by
 rw[List.mem_filterMap]
 constructor
 ·rintro⟨v,q,h⟩
  obtain⟨j,o⟩:=List.getElem?_of_mem q
  exact⟨j,v,o,h⟩
 ·rintro⟨j,v,o,h⟩
  exact⟨v,List.mem_of_getElem? o,h⟩
theorem Ak:∀{us:List Value} {i j:Nat} {u v:Value} {b:Nat},(us.filterMap aY).Nodup->us[i]? =some u->us[j]? =some v->i≠j->aY u=some b->aY v≠some b
 |[],i,j,u,v,b,_,h,_,_,_=>by simp at h
 |x::us,0,0,u,v,b,_,_,_,R,_=>absurd rfl R
 |x::us,0,j+1,u,v,b,o,hi,q,_,O=>by
  simp at hi
  subst hi
  rw[List.filterMap_cons,O,List.nodup_cons]at o
  intro U
  exact o.1 (qQ.2 ⟨j,v,by simpa using q,U⟩)
 |x::us,i+1,0,u,v,b,o,hi,q,_,O=>by
  simp at q
  subst q
  intro U
  rw[List.filterMap_cons,U,List.nodup_cons]at o
  exact o.1 (qQ.2 ⟨i,u,by simpa using hi,O⟩)
 |x::us,i+1,j+1,u,v,b,o,hi,q,R,O=>by
  have W:(us.filterMap aY).Nodup:=by
   rw[List.filterMap_cons]at o
   split at o
   ·exact o
   ·exact(List.nodup_cons.1 o).2
  exact Ak W (by simpa using hi) (by simpa using q) (fun e=>R (by rw[e])) O
theorem Cq:∀{us:List Value} {i:Nat} {u:Value},(us.filterMap aY).Nodup->(∀b,aY u=some b->∀j v,j≠i->us[j]? =some v->aY v≠some b)->((us.set i u).filterMap aY).Nodup
 |[],_,_,h,_=>h
 |x::us,0,u,o,R=>by
  have U:(us.filterMap aY).Nodup:=by
   rw[List.filterMap_cons]at o
   split at o
   ·exact o
   ·exact(List.nodup_cons.1 o).2
  rw[List.set_cons_zero,List.filterMap_cons]
  split
  ·exact U
  ·rename_i b q
   refine List.nodup_cons.2 ⟨fun W=>?_,U⟩
   obtain⟨j,v,Z,X⟩:=qQ.1 W
   exact R b q (j+1) v (by omega) (by simpa using Z) X
 |x::us,i+1,u,o,R=>by
  have U:(us.filterMap aY).Nodup:=by
   rw[List.filterMap_cons]at o
   split at o
   ·exact o
   ·exact(List.nodup_cons.1 o).2
  have Y:=Cq (i:=i) (u:=u) U (fun b q j v la O=>R b q (j+1) v (by omega) (by simpa using O))
  rw[List.set_cons_succ,List.filterMap_cons]
  split
  ·exact Y
  ·rename_i b q
   refine List.nodup_cons.2 ⟨fun W=>?_,Y⟩
   rw[List.mem_filterMap]at W
   obtain⟨v,O,X⟩:=W
   rcases List.mem_or_eq_of_mem_set O with O|rfl
   ·rw[List.filterMap_cons,q,List.nodup_cons]at o
    exact o.1 (List.mem_filterMap.2 ⟨v,O,X⟩)
   ·exact R b X 0 x (by omega) rfl q
theorem an.bd(h:an cx m st T w){b e:Nat}{k:eQ}{xs:List (Option k.el)}(X:look st.ad b=some (.bd e k xs)):
  ∃g cap us o cur,m b=.tuple (.slice (some ⟨g,0,none⟩) xs.length cap::o).toArray/\(∀O,own (m b) O->cx.w0.heap.size<=O\/cx.X O)/\w.ownsRow 0 e 1 (.slice (some ⟨g,0,none⟩) xs.length cap) xs.length us/\
   w.heap[g]? =some (.cells cur e (0,0))/\xs.length<=cap/\cap<=maxLen/\cur.size=cap/\cur.toList.take xs.length=us/\ij w (av cx m st.ids) k xs us o/\(g::o.filterMap aY).Nodup:=by
 obtain⟨g,_,Y,n,cap,us,o,Z,R,la,lb⟩:=h.boxes b _ (bc X)
 rcases R.2 with ⟨q,_⟩|⟨O,lf,cur,q,_,lc,ld,le,U,W⟩
 ·cases q
 ·have lg:=q
  simp only[Value.slice.injEq,Option.some.injEq,Addr.mk.injEq,and_true]at q
  obtain⟨rfl,rfl,rfl⟩:=q
  rw[Nat.mul_one]at U W
  exact⟨g,cap,us,o,cur,Z,Y,R,lc,ld,le,U,W,la,lb⟩
def ao.vr(b:Nat):ao->ao
 |.osl c=>.osl c
 |.fT c i=>.fT c i
 |s=>bif s.refs b then .any else s
theorem TN{M:Nat->Prop}{b:Nat}{r v2:Value}{us R:List Value}(W:m b=.tuple (r::us).toArray)(X:v2=.tuple (r::R).toArray){v:Value}{s:ao}(h:aT w M m v s):aT w M (bG m b v2) v (s.vr b):=by
 have o:∀s:ao,aT w M m v s->aT w M (bG m b v2) v (bif s.refs b then .any else s):=by
  intro s Y
  cases Z:s.refs b with
  |true=>trivial
  |false=>exact we Z Y
 cases s with
 |osl c=>
  by_cases e:c=b
  ·subst e
   obtain⟨O,q⟩:=h
   refine⟨R,?_⟩
   rw[b7,X]
   rw[W]at q
   simp only[Value.tuple.injEq,Array.mk.injEq,List.cons.injEq]at q
   rw[q.1]
  ·obtain⟨O,q⟩:=h
   exact⟨O,by rw[cX _ _ e];exact q⟩
 |fT c i=>
  by_cases e:c=b
  ·subst e
   obtain⟨g,n,cap,O,q,U⟩:=h
   refine⟨g,n,cap,R,?_,U⟩
   rw[b7,X]
   rw[W]at q
   simp only[Value.tuple.injEq,Array.mk.injEq,List.cons.injEq]at q
   rw[q.1]
  ·obtain⟨g,n,cap,O,q,U⟩:=h
   exact⟨g,n,cap,O,by rw[cX _ _ e];exact q,U⟩
 |any=>exact o _ h
 |undef=>exact o _ h
 |val t x=>exact o _ h
 |dI l=>exact o _ h
 |gu l=>exact o _ h
 |ptr a aa=>exact o _ h
 |fp a=>exact o _ h
 |vptr t x=>exact o _ h
 |row r=>exact o _ h
 |dU r i aa z=>exact o _ h
 |clos f bs=>exact o _ h
 |iter a=>exact o _ h
 |dW a p=>exact o _ h
 |sub a i=>exact o _ h
 |ca f b=>exact o _ h
 |dT b i aa s=>exact o _ h
 |fq b i j aa s=>exact o _ h
 |ai n=>exact o _ h
 |eZ l=>exact o _ h
def af.gO(st:af)(b c:Nat)(c2:bQ):af:=
 {ab:=st.ab.map fun p=>(p.1,p.2.vr b),ad:=(b,c2)::((del (del st.ad b) c).map fun p=>(p.1,p.2.map (ao.vr b))),rw:=st.rw}
theorem an.gO(h:an cx m st T w){b c:Nat}{lF lG c2:bQ}(ly:(b,lF)∈st.ad)(lz:(c,lG)∈st.ad)(lS:b<cx.n){r v2:Value}{us lH:List Value}(lI:m b=.tuple (r::us).toArray)(lJ:v2=.tuple (r::lH).toArray){g:Nat}(li:Touch m w b w')
  (lp:∀o,own v2 o->own (m b) o\/own (m c) o)(lK:iK v2 g c2)(lL:ii w' (av cx (bG m b v2) (st.gO b c c2).ids) (bG m b v2) v2 g c2):an cx (bG m b v2) (st.gO b c c2) T w':=by
 have Y:b∈st.ids:=List.mem_append.2 (.inl (List.mem_map.2 ⟨_,ly,rfl⟩))
 have lq:c∈st.ids:=List.mem_append.2 (.inl (List.mem_map.2 ⟨_,lz,rfl⟩))
 have lj:∀c',(b,c')∉st.rw:=fun c' q=>(List.nodup_append.1 h.keys).2.2 b (List.mem_map.2 ⟨_,ly,rfl⟩) b (List.mem_map.2 ⟨_,q,rfl⟩) rfl
 have lM:∀c',(c,c')∉st.rw:=fun c' q=>(List.nodup_append.1 h.keys).2.2 c (List.mem_map.2 ⟨_,lz,rfl⟩) c (List.mem_map.2 ⟨_,q,rfl⟩) rfl
 have lr:∀i,i∈(st.gO b c c2).ids->i∈st.ids/\(i=b\/(i≠b/\i≠c)):=by
  intro i hi
  rcases List.mem_append.1 hi with hi|hi
  ·obtain⟨⟨j,s⟩,U,rfl⟩:=List.mem_map.1 hi
   rcases List.mem_cons.1 U with U|U
   ·cases U;exact⟨Y,.inl rfl⟩
   ·obtain⟨⟨ld,lk⟩,lh,la⟩:=List.mem_map.1 U
    cases la
    obtain⟨lb,ll⟩:=cW.1 lh
    obtain⟨le,lf⟩:=cW.1 lb
    exact⟨List.mem_append.2 (.inl (List.mem_map.2 ⟨_,le,rfl⟩)),.inr ⟨lf,ll⟩⟩
  ·obtain⟨⟨j,s⟩,U,rfl⟩:=List.mem_map.1 hi
   exact⟨List.mem_append.2 (.inr (List.mem_map.2 ⟨_,U,rfl⟩)),.inr ⟨fun e=>lj s (by rw[<-e];exact U),fun e=>lM s (by rw[<-e];exact U)⟩⟩
 have X:∀{i:Nat},i≠b->bG m b v2 i=m i:=fun lm=>cX _ _ lm
 have ls:∀o,o<w.heap.size->¬av cx m st.ids o->w'.heap[o]? =w.heap[o]? :=fun o W lN=>li.block o W fun e=>lN (.inr ⟨b,Y,e⟩)
 have lt:∀o,o<w.heap.size->av cx (bG m b v2) (st.gO b c c2).ids o->av cx m st.ids o:=by
  rintro o _ (lO|⟨i,hi,R⟩)
  ·exact .inl lO
  ·obtain⟨lb,ll⟩:=lr i hi
   by_cases e:i=b
   ·subst e
    rw[b7]at R
    rcases lp o R with q|q
    ·exact .inr ⟨i,Y,q⟩
    ·exact .inr ⟨c,lq,q⟩
   ·rw[X e]at R
    exact .inr ⟨i,lb,R⟩
 have lA:∀v s,aT w (av cx m st.ids) m v s->aT w' (av cx (bG m b v2) (st.gO b c c2).ids) (bG m b v2) v (s.vr b):=fun v s lg=>TN lI lJ (fE ls lt lg)
 refine{size:=h.size,frame:=h.B6 Y li,outer:=h.outer,cT:=fun i aU hi=>?_,boxes:=fun j c' O=>?_,rows:=fun j c' O=>?_,apart:=fun i j hi O lm o R W=>?_,keys:=?_,fixed:=fun j c' O lP lu=>?_,kept:=fun j c' O lu lv=>?_}
 rotate_right
 ·rw[X (fun e=>lj c' (by rw[<-e];exact O))]
  exact h.kept j c' O lu lv
 ·obtain⟨⟨j,s⟩,U,la⟩:=List.mem_map.1 hi
  cases la
  obtain⟨v,ln,a2⟩:=h.cT j s U
  exact⟨v,ln,lA v s a2⟩
 ·rcases List.mem_cons.1 O with O|O
  ·cases O
   rw[b7]
   refine⟨g,lK,fun o W=>?_,lL⟩
   rcases lp o W with q|q
   ·exact(h.lt Y q).2
   ·exact(h.lt lq q).2
  ·obtain⟨⟨ld,lk⟩,lh,la⟩:=List.mem_map.1 O
   cases la
   obtain⟨lb,ll⟩:=cW.1 lh
   obtain⟨le,lf⟩:=cW.1 lb
   obtain⟨o,ae,lw,lx⟩:=h.boxes ld lk le
   rw[X lf]
   have Z:ld∈st.ids:=List.mem_append.2 (.inl (List.mem_map.2 ⟨_,le,rfl⟩))
   exact⟨o,kQ.2 ae,lw,jS ls lt (ix ae) (fun lB lC=>li.block lB (h.lt Z lC).1 fun e=>h.apart b ld Y Z (fun e=>lf e.symm) lB e lC) lA lx⟩
 ·obtain⟨cells,ae,lw,lx⟩:=h.rows j c' O
  have lo:j≠b:=fun e=>lj c' (by rw[<-e];exact O)
  have Z:j∈st.ids:=List.mem_append.2 (.inr (List.mem_map.2 ⟨_,O,rfl⟩))
  rw[X lo]
  refine⟨cells,⟨ae.1,?_⟩,lw,dy (fun _ _=>cI ls lt c'.t) lx⟩
  rcases ae.2 with q|⟨o,cap,cur,lg,lQ,q,rest⟩
  ·exact .inl q
  ·have R:own (m j) o:=by rw[lg];exact gQ rfl
   exact .inr ⟨o,cap,cur,lg,lQ,by rw[li.block o (h.lt Z R).1 fun e=>h.apart b j Y Z (fun e=>lo e.symm) o e R];exact q,rest⟩
 ·obtain⟨ln,a2⟩:=lr i hi
  obtain⟨lD,lc⟩:=lr j O
  have key:∀{j:Nat},j∈st.ids->j≠b->j≠c->own v2 o->own (m j) o->False:=by
   intro j Z lo lR lg R
   rcases lp o lg with q|q
   ·exact h.apart b j Y Z (fun e=>lo e.symm) o q R
   ·exact h.apart c j lq Z (fun e=>lR e.symm) o q R
  rcases a2 with rfl|⟨a2,a3⟩
  ·rcases lc with rfl|⟨lc,lE⟩
   ·exact lm rfl
   ·rw[b7]at R
    rw[X lc]at W
    exact key lD lc lE R W
  ·rcases lc with rfl|⟨lc,lE⟩
   ·rw[b7]at W
    rw[X a2]at R
    exact key ln a2 a3 W R
   ·rw[X a2]at R
    rw[X lc]at W
    exact h.apart i j ln lD lm o R W
 ·have lv:(st.gO b c c2).ids=b::(((del (del st.ad b) c).map (·.1))++st.rw.map (·.1)):=by
   show(b::((del (del st.ad b) c).map fun p=>(p.1,p.2.map (ao.vr b))).map (·.1))++st.rw.map (·.1)=_
   simp[List.map_map,Function.comp_def]
  rw[lv]
  refine List.nodup_cons.2 ⟨fun q=>?_,?_⟩
  ·rcases List.mem_append.1 q with q|q
   ·obtain⟨⟨j,s⟩,U,e⟩:=List.mem_map.1 q
    exact(cW.1 (cW.1 U).1).2 e
   ·obtain⟨⟨j,s⟩,U,e⟩:=List.mem_map.1 q
    exact lj s (by rw[<-e];exact U)
  ·rw[mm,mm]
   exact h.keys.sublist (List.Sublist.append (List.filter_sublist.trans List.filter_sublist) (List.Sublist.refl _))
 ·rcases List.mem_cons.1 O with O|O
  ·cases O;omega
  ·obtain⟨⟨ld,lk⟩,lh,la⟩:=List.mem_map.1 O
   cases la
   obtain⟨lb,ll⟩:=cW.1 lh
   obtain⟨le,lf⟩:=cW.1 lb
   rw[X lf]
   exact h.fixed ld lk le (mR.symm.trans lP) lu
def ao.sR(r:Nat):ao->ao
 |.row b=>bif Nat.beq b r then .osl r else .row b
 |s=>bif s.refs r then .any else s
def af.kx(st:af)(r:Nat)(c2:bQ):af:=
 {ab:=st.ab.map fun p=>(p.1,p.2.sR r),ad:=(r,c2)::(st.ad.map fun p=>(p.1,p.2.map (ao.sR r))),rw:=del st.rw r}
theorem Xc{M:Nat->Prop}{b:Nat}{v2:Value}{O:List Value}(R:v2=.tuple (m b::O).toArray){v:Value}{s:ao}(h:aT w M m v s):aT w M (bG m b v2) v (s.sR b):=by
 have o:∀s:ao,aT w M m v s->aT w M (bG m b v2) v (bif s.refs b then .any else s):=by
  intro s U
  cases q:s.refs b with
  |true=>trivial
  |false=>exact we q U
 cases s with
 |row r=>
  show aT _ _ _ _ (bif Nat.beq r b then .osl b else .row r)
  cases q:Nat.beq r b with
  |true=>
   have e:=Nat.eq_of_beq_eq_true q
   subst e
   have W:v=m r:=h
   exact⟨O,by rw[b7,R,W]⟩
  |false=>exact we q h
 |osl c=>exact o _ h
 |fT c i=>exact o _ h
 |any=>exact o _ h
 |undef=>exact o _ h
 |val t x=>exact o _ h
 |dI l=>exact o _ h
 |gu l=>exact o _ h
 |ptr a aa=>exact o _ h
 |fp a=>exact o _ h
 |vptr t x=>exact o _ h
 |dU r i aa z=>exact o _ h
 |clos f bs=>exact o _ h
 |iter a=>exact o _ h
 |dW a p=>exact o _ h
 |sub a i=>exact o _ h
 |ca f b=>exact o _ h
 |dT b i aa s=>exact o _ h
 |fq b i j aa s=>exact o _ h
 |ai n=>exact o _ h
 |eZ l=>exact o _ h
theorem Kc{M:Nat->Prop}{k v:ag}:∀{n:Nat} {cells:List Value},bL (aJ w M (.map k v)) cells (List.replicate n none)->cells=List.replicate n (.map none)
 |0,_,h=>h
 |n+1,_,⟨c1,c2,e,o,q⟩=>by
  have o:c1=[Value.map none]:=o
  rw[e,o,Kc q]
  rfl
theorem Jq{M:Nat->Prop}{k v:ag}:∀(n:Nat),ij w M (.mp k v) ((List.replicate n none).map some) (List.replicate n (.map none)) (List.replicate n (.map none))
 |0=>trivial
 |n+1=>⟨rfl,rfl,Jq n⟩
theorem an.kx(h:an cx m st T w){r e n:Nat}{k v:ag}(lf:(r,(⟨e,.map k v,List.replicate n none⟩:cG))∈st.rw)(lJ:0<n)(lK:r<cx.n):∃aI,an cx aI (st.kx r (.bd e (.mp k v) ((List.replicate n none).map some))) T w:=by
 obtain⟨cells,lc,ly,lz⟩:=h.rows r _ lf
 have lA:r∈st.ids:=List.mem_append.2 (.inr (List.mem_map.2 ⟨_,lf,rfl⟩))
 have lB:=Kc lz
 subst lB
 have ls:List.length (α:=(ag.map k v).el) (List.replicate n none)=n:=List.length_replicate
 simp only at lc ls
 rw[ls]at lc
 have lC:=lc
 rcases lc.2 with ⟨_,lL⟩|⟨g,cap,cur,ld,lM,R,rest⟩
 ·omega
 generalize lD:bQ.bd e (.mp k v) ((List.replicate n none).map some)=c2
 have Y:∀{i:Nat} {v2:Value},i≠r->bG m r v2 i=m i:=fun lg=>cX _ _ lg
 obtain⟨v2,le⟩:∃v2,v2=Value.tuple (m r::List.replicate n (.map none)).toArray:=⟨_,rfl⟩
 have lt:∀o,own v2 o↔own (m r) o:=by
  intro o
  rw[le,dr,ld]
  constructor
  ·rintro(R|⟨u,Z,lu⟩)
   ·exact gQ R
   ·rw[List.eq_of_mem_replicate Z]at lu;cases lu
  ·intro R;exact .inl R
 have lh:∀c',(r,c')∉st.ad:=fun c' R=>(List.nodup_append.1 h.keys).2.2 r (List.mem_map.2 ⟨_,R,rfl⟩) r (List.mem_map.2 ⟨_,lf,rfl⟩) rfl
 have li:∀i,i∈(st.kx r c2).ids->i∈st.ids:=by
  intro i hi
  rcases List.mem_append.1 hi with hi|hi
  ·obtain⟨⟨j,s⟩,q,rfl⟩:=List.mem_map.1 hi
   rcases List.mem_cons.1 q with q|q
   ·cases q;exact lA
   ·obtain⟨⟨la,X⟩,U,W⟩:=List.mem_map.1 q
    cases W
    exact List.mem_append.2 (.inl (List.mem_map.2 ⟨_,U,rfl⟩))
  ·obtain⟨⟨j,s⟩,q,rfl⟩:=List.mem_map.1 hi
   exact List.mem_append.2 (.inr (List.mem_map.2 ⟨_,(cW.1 q).1,rfl⟩))
 have lj:∀i o,own (bG m r v2 i) o↔own (m i) o:=by
  intro i o
  by_cases lv:i=r
  ·subst lv;rw[b7];exact lt o
  ·rw[Y lv]
 have lk:∀o,o<w.heap.size->¬av cx m st.ids o->w.heap[o]? =w.heap[o]? :=fun _ _ _=>rfl
 have ll:∀o,o<w.heap.size->av cx (bG m r v2) (st.kx r c2).ids o->av cx m st.ids o:=by
  rintro o _ (lE|⟨i,hi,lm⟩)
  ·exact .inl lE
  ·exact .inr ⟨i,li i hi,(lj i o).1 lm⟩
 have lF:∀j c',(j,c')∈(st.kx r c2).rw->cx.n<=j->eG<=j->bG m r v2 j=cx.m0 j:=by
  intro j c' O ln lo
  obtain⟨q,lb⟩:=cW.1 O
  rw[Y lb]
  exact h.kept j c' q ln lo
 have lw:∀u s,aT w (av cx m st.ids) m u s->aT w (av cx (bG m r v2) (st.kx r c2).ids) (bG m r v2) u (s.sR r):=fun u s Z=>Xc le (fE lk ll Z)
 refine⟨bG m r v2,{size:=h.size,frame:=h.frame,outer:=h.outer,cT:=fun i aU hi=>?_,boxes:=fun j c' O=>?_,rows:=fun j c' O=>?_,apart:=fun i j hi O lg o lm lp=>h.apart i j (li i hi) (li j O) lg o ((lj i o).1 lm) ((lj j o).1 lp),keys:=?_,fixed:=fun j c' O lG ln=>?_,kept:=lF}⟩
 ·obtain⟨⟨j,s⟩,q,W⟩:=List.mem_map.1 hi
  cases W
  obtain⟨u,lH,a2⟩:=h.cT j s q
  exact⟨u,lH,lw u s a2⟩
 ·rcases List.mem_cons.1 O with O|O
  ·cases O
   rw[b7,<-lD,le,ld]
   have lI:((List.replicate n (none:Option (List (k.el×v.el)))).map some).length=n:=by simp
   refine⟨g,⟨n,cap,_,rfl⟩,fun o lp=>ly o ((lt o).1 (by rw[le,ld];exact lp)),n,cap,List.replicate n (.map none),List.replicate n (.map none),rfl,?_,Jq n,?_⟩
   ·have lx:=lC
    rw[ld]at lx
    show World.ownsRow w 0 e 1 _ (List.length ((List.replicate n none).map some)) _
    rw[lI]
    exact lx
   ·have:(List.replicate n (Value.map none)).filterMap aY=[]:=by
     rw[List.filterMap_eq_nil_iff]
     intro u Z
     rw[List.eq_of_mem_replicate Z]
     rfl
    rw[this]
    simp
  ·obtain⟨⟨la,X⟩,U,W⟩:=List.mem_map.1 O
   cases W
   obtain⟨o,ae,lq,lr⟩:=h.boxes la X U
   have lb:la≠r:=fun e=>lh X (by rw[<-e];exact U)
   rw[Y lb]
   exact⟨o,kQ.2 ae,lq,jS lk ll (ix ae) (fun _ _=>rfl) lw lr⟩
 ·obtain⟨q,lb⟩:=cW.1 O
  obtain⟨cells,ae,lq,lr⟩:=h.rows j c' q
  rw[Y lb]
  exact⟨cells,ae,lq,dy (fun _ _=>cI lk ll c'.t) lr⟩
 ·have lo:(st.kx r c2).ids=r::(st.ad.map (·.1)++(del st.rw r).map (·.1)):=by
   show(r::(st.ad.map fun p=>(p.1,p.2.map (ao.sR r))).map (·.1))++(del st.rw r).map (·.1)=_
   simp[List.map_map,Function.comp_def]
  rw[lo]
  refine List.nodup_cons.2 ⟨fun R=>?_,?_⟩
  ·rcases List.mem_append.1 R with R|R
   ·obtain⟨⟨j,s⟩,q,e⟩:=List.mem_map.1 R
    exact lh s (by rw[<-e];exact q)
   ·obtain⟨⟨j,s⟩,q,e⟩:=List.mem_map.1 R
    exact(cW.1 q).2 e
  ·rw[mm]
   exact h.keys.sublist (List.Sublist.append (List.Sublist.refl _) List.filter_sublist)
 ·rcases List.mem_cons.1 O with O|O
  ·cases O;omega
  ·obtain⟨⟨la,X⟩,U,W⟩:=List.mem_map.1 O
   cases W
   rw[Y (fun e=>lh X (by rw[<-e];exact U))]
   exact h.fixed la X U (mR.symm.trans lG) ln
theorem an.XK(h:an cx m st T w){r e n:Nat}{k v:ag}{xs:List (ag.map k v).el}(o:(r,(⟨e,.map k v,xs⟩:cG))∈st.rw)(q:xs=List.replicate n (show(ag.map k v).el from none))(O:0<n)(R:r<cx.n):
  ∃aI,an cx aI (st.kx r (.bd e (.mp k v) (show List (Option (eQ.mp k v).el)from List.map some xs))) T w:=by
 subst q
 exact h.kx o O R
theorem LQ(W:an cx m st T w){b e:Nat}{n:Int}{k:eQ}{xs:List (Option k.el)}{y:k.el}(Y:look st.ad b=some (.bd e k xs))(Z:xs[n.toNat]? =some (some y)){x:Operand}(la:aS st x=some (.fT b n))
  {t:TypeId}{u:ag}(lb:ty cx.P t=some u)(lc:u.cells=1)(ld:u.agg=false):
  ∃g cap us o,m b=.tuple (.slice (some ⟨g,0,none⟩) xs.length cap::o).toArray/\(g::o.filterMap aY).Nodup/\ij w (av cx m st.ids) k xs us o/\w.ownsRow 0 e 1 (.slice (some ⟨g,0,none⟩) xs.length cap) xs.length us/\
   ∃v,us[n.toNat]? =some v/\o[n.toNat]? =some v/\kp w (av cx m st.ids) v k y/\(Instr.loadAt t (Act.eval ⟨T,ah.D cx⟩ x)).run cx.P w=.ok v w:=by
 obtain⟨g,cap,us,o,cur,ae,_,le,lf,e4,ln,lo,lg,X,lh⟩:=W.bd Y
 obtain⟨g2,lp,lq,lr,O,a2⟩:=bf W la
 rw[ae]at O
 have:g2=g:=by
  simp only[Value.tuple.injEq,Array.mk.injEq,List.cons.injEq,Value.slice.injEq,Option.some.injEq,Addr.mk.injEq]at O
  exact O.1.1.1.symm
 subst this
 obtain⟨v,q,li,lj⟩:=zi X Z
 refine⟨g2,cap,us,o,ae,lh,X,le,v,q,li,lj,?_⟩
 have lk:Instr.loadAt t (Act.eval ⟨T,ah.D cx⟩ x)=loadVar t ⟨g2,n.toNat,none⟩:=by rw[a2];rfl
 rw[lk]
 obtain⟨v',ll,R⟩:=jJ (c:=[v]) lb lf (fun j v2 U=>by
  have lm:j=0:=by have:=(List.getElem?_eq_some_iff.1 U).1;simpa using this
  subst lm
  simp at U
  subst U
  rw[<-lg,List.getElem?_take]at q
  split at q
  ·simpa using q
  ·cases q) (by rw[lc];rfl) (fun _=>by omega)
 rw[ld]at R
 simp at R
 subst R
 exact ll w (Ext.refl w)
theorem J2(O:an cx m st T w){b e:Nat}{n:Int}{k:eQ}{xs:List (Option k.el)}{y:k.el}(X:look st.ad b=some (.bd e k xs))(Y:xs[n.toNat]? =some (some y)){x:Operand}(Z:aS st x=some (.sub b n)):
  ∃g cap us o,m b=.tuple (.slice (some ⟨g,0,none⟩) xs.length cap::o).toArray/\(g::o.filterMap aY).Nodup/\ij w (av cx m st.ids) k xs us o/\w.ownsRow 0 e 1 (.slice (some ⟨g,0,none⟩) xs.length cap) xs.length us/\
   us[n.toNat]? =some (Act.eval ⟨T,ah.D cx⟩ x)/\o[n.toNat]? =some (Act.eval ⟨T,ah.D cx⟩ x)/\kp w (av cx m st.ids) (Act.eval ⟨T,ah.D cx⟩ x) k y:=by
 obtain⟨g,cap,us,o,cur,ae,_,la,le,e4,lf,lg,lh,R,lb⟩:=O.bd X
 obtain⟨cS,U,q,a2⟩:=bf O Z
 rw[ae]at q
 have:U=o:=by
  simp only[Value.tuple.injEq,Array.mk.injEq,List.cons.injEq]at q
  exact q.2.symm
 subst this
 obtain⟨v,lc,W,ld⟩:=zi R Y
 rw[a2]at W
 cases W
 exact⟨g,cap,us,U,ae,lb,R,la,lc,a2,ld⟩
def A1(E:Env)(st:af)(aa:Oper)(orc:List al):Option (af×List al×List Prop):=
 match aa.dst with
 |some d=>match Nat.blt d E.n with
  |true=>match aa.op with
   |.indexAddr t x i=>match aS st x,eA (aS st i),ty E.P t with
    |some (.osl b),some n,some (.ab u)=>match look st.ad b,Nat.beq u.cells 1 with
     |some (.bd _ _ xs),true=>some (st.put d (.fT b n),orc,[0<=n/\n<(xs.length:Int)])
     |_,_=>none
    |_,_,_=>none
   |.load t x=>match aS st x,ty E.P t with
    |some (.fT b n),some u=>match look st.ad b,Nat.beq u.cells 1&&!u.agg,orc with
     |some (.bd e (.mp k v) xs),true,⟨.unit,_⟩::a::orc'=>match a.as (.map k v),Nat.blt b E.n with
      |some y,true=>some ((st.gO b b (.bd e (.mp k v) (xs.set n.toNat none))).put d (.val (.map k v) y),orc',[xs[n.toNat]? =some (some (show(eQ.mp k v).el from y))])
      |_,_=>none
     |some (.bd _ (.mp k v) xs),true,a::orc'=>match a.as (.map k v)with
      |some y=>some (st.put d (.sub b n),orc',[xs[n.toNat]? =some (some (show(eQ.mp k v).el from y))])
      |none=>none
     |_,_,_=>none
    |_,_=>none
   |.call {callee:=.builtin .len,args:=args,argTypes:=O}=>match args.toList,O.toList with
    |[x],[t]=>match aS st x,ty E.P t with
     |some (.sub b n),some (.map _ _)=>match look st.ad b,orc with
      |some (.bd _ (.mp k v) xs),a::orc'=>match a.as (.map k v)with
       |some y=>some (st.put d (.val (.int .i64) ((Option.getD (α:=List (k.el×v.el)) y []).length:Int)),orc',[xs[n.toNat]? =some (some (show(eQ.mp k v).el from y))])
       |none=>none
      |_,_=>none
     |_,_=>none
    |_,_=>none
   |.makeSlice _ _ _=>match orc with
    |⟨.unit,_⟩::orc'=>match oT E st aa orc' with
     |some (o,R,ob)=>match look o.rw d,Nat.beq d d with
      |some ⟨e,.map k v,xs⟩,true=>some (o.kx d (.bd e (.mp k v) (show List (Option (eQ.mp k v).el)from List.map some xs)),R,(xs=List.replicate xs.length (show(ag.map k v).el from none)/\0<xs.length)::ob)
      |_,_=>none
     |none=>none
    |_=>none
   |_=>none
  |false=>none
 |none=>match aa.op with
  |.mapUpdate t x U W=>match aS st x,E.P.underlying t,dC st U,dC st W with
   |some (.sub b n),some (.map q X),some kv,some vv=>match look st.ad b,ty E.P q,ty E.P X,orc with
    |some (.bd e (.mp k v) xs),some Y,some Z,a::orc'=>match kv.as k,vv.as v,k.beq Y&&(v.beq Z&&(k.flat&&ed E.P 16 q)),a.as (.map k v)with
     |some y,some z,true,some (some ps)=>some (st.dd b (.bd e (.mp k v) (xs.set n.toNat (some (show(eQ.mp k v).el from some (cl (aV k) ps y z))))),orc',[xs[n.toNat]? =some (some (show(eQ.mp k v).el from some ps))])
     |_,_,_,_=>none
    |_,_,_,_=>none
   |_,_,_,_=>none
  |.store t x y=>match aS st x,aS st y,ty E.P t with
   |some (.fT b n),some (.iter c),some u=>match look st.ad b,look st.ad c,Nat.beq u.cells 1&&(!u.agg&&Nat.blt b E.n)with
    |some (.bd e (.mp k v) xs),some (.mp k' v' ps),true=>match(⟨.map k' v',some ps⟩:al).as (.map k v)with
     |some y=>some (st.gO b c (.bd e (.mp k v) (xs.set n.toNat (some (show(eQ.mp k v).el from y)))),orc,[0<=n/\n<(xs.length:Int)])
     |none=>none
    |_,_,_=>none
   |_,_,_=>none
  |_=>none
theorem PN{E:Env}(ln:bE E cx)(h:ak cx st T w){aa:Oper}{orc:List al}{st':af}{orc':List al}{ob:List Prop}(o:A1 E st aa orc=some (st',orc',ob))(lr:bP ob)
  {K:Act->World->Prop}{Q:Exit->Act->World->Prop}(lz:∀lO w',ak cx st' lO w'->K ⟨lO,ah.D cx⟩ w'):aa.wp cx.P ⟨T,ah.D cx⟩ w K Q:=by
 obtain⟨m,U⟩:=h
 unfold A1 at o
 split at o
 ·rename_i d ai
  split at o
  case h_2=>cases o
  rename_i aL
  have lA:d<cx.n:=by rw[ln.n];exact cR aL
  have fin:∀(v:Value) (w':World) (aI:Nat->Value) (lP:af) (aU:ao),(execOp (Act.eval ⟨T,ah.D cx⟩) aa).run cx.P w=.ok (.value v) w'->an cx aI lP T w'->aT w' (av cx aI lP.ids) aI v aU->lP.put d aU=st'->aa.wp cx.P ⟨T,ah.D cx⟩ w K Q:=by
   intro v w' aI lP aU lv lB lX e
   refine gT lv ?_
   rw[ai]
   exact lz _ _ ⟨aI,e▸lB.put lA lX⟩
  split at o
  ·rename_i t x i le
   split at o
   case h_2=>cases o
   rename_i b n u la hi lb
   split at o
   case h_2=>cases o
   rename_i e k xs X Y
   cases o
   rw[<-ln.P]at lb
   have Y:=Nat.eq_of_beq_eq_true Y
   obtain⟨g,cap,us,W,cur,ae,_⟩:=U.bd X
   obtain⟨aN,Z⟩:=bf U la
   rw[ae]at Z
   have ls:Act.eval ⟨T,ah.D cx⟩ x=.slice (some ⟨g,0,none⟩) xs.length cap:=by
    simp only[Value.tuple.injEq,Array.mk.injEq,List.cons.injEq]at Z
    exact Z.1.symm
   obtain⟨bz,lQ⟩:=fx U hi
   obtain⟨_,_,_,bB,d2,aO,aP⟩:=dk lb
   refine fin (.pointer (some ⟨g,n.toNat,none⟩)) w m _ (.fT b n) (cn (s:=Instr.indexAt t (Act.eval ⟨T,ah.D cx⟩ x) (Act.eval ⟨T,ah.D cx⟩ i)) (by simp only[execOp,le]) ?_) U ⟨g,xs.length,cap,W,ae,rfl⟩ rfl
   have lY:(⟨g,0,none⟩:Addr).add (n.toNat*1)=⟨g,n.toNat,none⟩:=by rw[gU];simp
   rw[ls,lQ]
   simp only[Instr.indexAt,asIntOf,Sem.run_bind,Sem.run_pure,Result.andThen_ok,run_underlying aO]
   rw[if_pos lr.1]
   simp only[Sem.run_bind,fa aP,Result.andThen_ok,Sem.run_pure,Y,lY]
  ·rename_i t x le
   split at o
   case h_2=>cases o
   rename_i b n u la lb
   rw[<-ln.P]at lb
   split at o
   ·rename_i e k v xs aQ a lR X Y
    simp only[Bool.and_eq_true,Bool.not_eq_true']at Y
    split at o
    case h_2=>cases o
    rename_i y lS lC
    cases o
    have lC:b<cx.n:=by rw[ln.n];exact cR lC
    obtain⟨g,cap,us,W,ae,Z,ls,e4,lZ,l0,lf,lc,lo⟩:=LQ U X lr.1 la lb (Nat.eq_of_beq_eq_true Y.1) Y.2
    have li:=bc X
    have ld:b∈st.ids:=List.mem_append.2 (.inl (List.mem_map.2 ⟨_,li,rfl⟩))
    have lD:∀u∈W.set n.toNat undef,u∈W\/u=undef:=fun u R=>List.mem_or_eq_of_mem_set R
    have lt:∀O,own (.tuple (.slice (some ⟨g,0,none⟩) xs.length cap::W.set n.toNat undef).toArray) O->own (m b) O\/own (m b) O:=by
     intro O q
     rw[ae]
     rcases dr.1 q with q|⟨u,R,q⟩
     ·exact .inl (dr.2 (.inl q))
     ·rcases lD u R with R|rfl
      ·exact .inl (dr.2 (.inr ⟨u,R,q⟩))
      ·cases q
    obtain⟨v2,lj⟩:∃v2,v2=Value.tuple (.slice (some ⟨g,0,none⟩) xs.length cap::W.set n.toNat undef).toArray:=⟨_,rfl⟩
    rw[<-lj]at lt
    have lu:∀i,i∈(st.gO b b (.bd e (.mp k v) (xs.set n.toNat none))).ids->i∈st.ids:=by
     intro i hi
     rcases List.mem_append.1 hi with hi|hi
     ·obtain⟨⟨j,s⟩,lg,rfl⟩:=List.mem_map.1 hi
      rcases List.mem_cons.1 lg with lg|lg
      ·cases lg;exact ld
      ·obtain⟨⟨aR,aS⟩,l3,l4⟩:=List.mem_map.1 lg
       cases l4
       exact List.mem_append.2 (.inl (List.mem_map.2 ⟨_,(cW.1 (cW.1 l3).1).1,rfl⟩))
     ·exact List.mem_append.2 (.inr hi)
    have lw:∀O,O<w.heap.size->av cx (bG m b v2) (st.gO b b (.bd e (.mp k v) (xs.set n.toNat none))).ids O->av cx m st.ids O:=by
     intro O _ q
     rcases q with lE|⟨i,hi,q⟩
     ·exact .inl lE
     ·by_cases lp:i=b
      ·subst lp
       rw[b7]at q
       exact .inr ⟨i,ld,(lt O q).elim id id⟩
      ·rw[cX _ _ lp]at q
       exact .inr ⟨i,lu i hi,q⟩
    have l5:=U.gO (c2:=.bd e (.mp k v) (xs.set n.toNat none)) li li lC ae lj ⟨⟨rfl,rfl,rfl,Nat.le_refl _,fun _=>Nat.le_refl _⟩,fun _ _ _=>rfl⟩ lt ⟨xs.length,cap,_,lj⟩
     ⟨xs.length,cap,us,W.set n.toNat undef,lj,by rw[List.length_set];exact e4,pZ (fun _ _ _=>rfl) lw (fun _ _ _ _=>rfl) (B0 ls),by
      have lB:=Cq (i:=n.toNat) (u:=undef) (List.nodup_cons.1 Z).2 (fun b X=>by cases X)
      refine List.nodup_cons.2 ⟨fun lu=>?_,lB⟩
      obtain⟨u,R,q⟩:=List.mem_filterMap.1 lu
      rcases lD u R with R|rfl
      ·exact(List.nodup_cons.1 Z).1 (List.mem_filterMap.2 ⟨u,R,q⟩)
      ·cases q⟩
    refine fin lZ w _ _ (.val (.map k v) y) (cn (by simp only[execOp,le]) lo) l5 ?_ rfl
    refine(bA (t:=.map k v) rfl).2 ?_
    match y,lc with
    |none,lc=>
     have lc:lZ=.map none:=lc
     show[lZ]=[Value.map none]
     rw[lc]
    |some ps,⟨r,es,lF,lh,lk,lG,lH,lx⟩=>
     have ax:own (m b) r:=by rw[ae];exact dr.2 (.inr ⟨_,List.mem_of_getElem? lf,by rw[lh];rfl⟩)
     refine⟨r,es,lF,by rw[lh],lk,?_,lG,lH,ic (fun _ _ h=>dt (fun _ _ _=>rfl) lw h) (fun _ _ h=>dt (fun _ _ _=>rfl) lw h) lx⟩
     rintro(lE|⟨i,hi,q⟩)
     ·have aW:=U.outer r lE
      rcases(U.lt ld ax).2 with bd|bd
      ·omega
      ·exact aW.2 bd
     ·by_cases lp:i=b
      ·subst lp
       rw[b7,lj]at q
       rcases dr.1 q with q|⟨u,R,q⟩
       ·cases q
        exact(List.nodup_cons.1 Z).1 (qQ.2 ⟨_,_,lf,by rw[lh];rfl⟩)
       ·obtain⟨j,lq⟩:=List.getElem?_of_mem R
        rw[List.getElem?_set]at lq
        split at lq
        ·split at lq
         ·cases lq;cases q
         ·cases lq
        ·rename_i ly
         exact Ak (List.nodup_cons.1 Z).2 lf lq ly (by rw[lh];rfl) q
      ·rw[cX _ _ lp]at q
       exact U.apart b i ld (lu i hi) (fun e=>lp e.symm) r ax q
   ·rename_i e k v xs a lR _ X Y
    simp only[Bool.and_eq_true,Bool.not_eq_true']at Y
    split at o
    case h_2=>cases o
    rename_i y lS
    cases o
    obtain⟨g,cap,us,W,ae,_,_,_,v0,_,lf,_,lo⟩:=LQ U X lr.1 la lb (Nat.eq_of_beq_eq_true Y.1) Y.2
    exact fin v0 w m _ (.sub b n) (cn (by simp only[execOp,le]) lo) U ⟨_,W,ae,lf⟩ rfl
   ·cases o
  ·rename_i args ay le
   split at o
   case h_2=>cases o
   rename_i x t lS aX
   split at o
   case h_2=>cases o
   rename_i b n aY bC la lb
   split at o
   case h_2=>cases o
   rename_i e k v xs a lR X
   split at o
   case h_2=>cases o
   rename_i y lT
   cases o
   rw[<-ln.P]at lb
   obtain⟨g,cap,us,W,ae,_,_,_,_,_,lc⟩:=J2 U X lr.1 la
   obtain⟨i,_,_,aA,Z,_,az,_,_⟩:=dk lb
   have lY:args=#[x]:=by rw[<-Array.toArray_toList (xs:=args),lS]
   have aB:ay=#[t]:=by rw[<-Array.toArray_toList (xs:=ay),aX]
   subst lY
   subst aB
   refine fin (.int .i64 ((Option.getD (α:=List (k.el×v.el)) y []).length:Int)) w m _ (.val (.int .i64) _) ?_ U (da.2 rfl) rfl
   simp only[execOp,le,resolve,invoke,builtin,Sem.run_bind,Sem.run_pure,Result.andThen_ok,List.map_toArray,List.map_cons,List.map_nil]
   generalize Act.eval ⟨T,ah.D cx⟩ x=aZ at lc
   match y,lc with
   |none,lc=>
    have lc:aZ=.map none:=lc
    rw[lc]
    simp[Builtin.len_,run_underlying az,goInt]
   |some ps,⟨r,es,lF,lh,lk,_,_,lx⟩=>
    rw[lh]
    have aC:=uc lx
    rw[Array.length_toList]at aC
    simp[Builtin.len_,run_underlying az,goInt,getObj,Sem.run,lk,aC]
  ·rename_i le
   split at o
   case h_2=>cases o
   rename_i aQ lR
   split at o
   case h_2=>cases o
   rename_i bD bF bH lk
   split at o
   case h_2=>cases o
   rename_i e k v xs lv _
   cases o
   refine uK ln ⟨m,U⟩ lk lr.2 fun lO w' l6=>?_
   obtain⟨m1,a0⟩:=l6
   obtain⟨⟨a1,a3⟩,_⟩:=lr
   obtain⟨m2,a4⟩:=a0.XK (bc lv) a1 a3 lA
   exact lz lO w' ⟨m2,a4⟩
  ·cases o
 ·rename_i ai
  split at o
  ·rename_i t x bI bJ le
   split at o
   case h_2=>cases o
   rename_i b n aY aB kv vv la aD lQ lX
   split at o
   case h_2=>cases o
   rename_i e k v xs bK bL a lR X aE a5
   split at o
   case h_2=>cases o
   rename_i y z ps lT a6 ll lS
   cases o
   simp only[Bool.and_eq_true]at ll
   obtain⟨a7,a8,a9,aF⟩:=ll
   obtain rfl:=ag.eq_of_beq a7
   obtain rfl:=ag.eq_of_beq a8
   have ba:=al.dj lT
   subst ba
   have bb:=al.dj a6
   subst bb
   rw[<-ln.P]at aD aE a5 aF
   obtain⟨g,cap,us,W,ae,Z,ls,e4,l0,lf,r,es,lF,lh,lk,lG,lH,lx⟩:=J2 U X lr.1 la
   obtain⟨lI,lJ,lo,be,cS,eU⟩:=Jm (d:=jA) (d':=16) aD aE aF (by decide) a9 (di U lQ) (di U lX) lk lG lH lx
   have li:=bc X
   have lt:own (m b) r:=by rw[ae];exact dr.2 (.inr ⟨_,List.mem_of_getElem? lf,by rw[lh];rfl⟩)
   have lK:Touch m w b {w with heap:=w.heap.setIfInBounds r (.map lI lJ)}:=
    ⟨⟨rfl,rfl,rfl,by simp,fun _=>Nat.le_refl _⟩,fun k _ ly=>by
     show(w.heap.setIfInBounds r _)[k]? =_
     rw[Array.getElem?_setIfInBounds_ne]
     intro e
     exact ly (by rw[<-e];exact lt)⟩
   have ld:b∈st.ids:=List.mem_append.2 (.inl (List.mem_map.2 ⟨_,li,rfl⟩))
   generalize lL:xs.set n.toNat (some (show(eQ.mp k v).el from some (cl (aV k) ps y z)))=lm at lz
   obtain⟨l7,l8⟩:=an.ia (cx:=cx) ld lK (ids:=(st.dd b (.bd e (.mp k v) lm)).ids) (ko li U.keys _).1
   have bg:g≠r:=fun e=>(List.nodup_cons.1 Z).1 (qQ.2 ⟨_,_,lf,by rw[lh,e];rfl⟩)
   rw[lh]at l0 lf
   have l9:lm.length=xs.length:=by rw[<-lL,List.length_set]
   have l6:an cx m (st.dd b (.bd e (.mp k v) lm)) T {w with heap:=w.heap.setIfInBounds r (.map lI lJ)}:=by
    refine U.dd li lK (g:=g) ⟨xs.length,cap,W,ae⟩ ⟨xs.length,cap,us,W,ae,?_,?_,Z⟩
    ·rw[l9]
     refine⟨e4.1,?_⟩
     rcases e4.2 with ll|⟨O,bh,cur,aG,bi,ll,rest⟩
     ·exact .inl ll
     ·refine .inr ⟨O,bh,cur,aG,bi,?_,rest⟩
      show(w.heap.setIfInBounds r _)[O]? =_
      rw[Array.getElem?_setIfInBounds_ne (by rintro rfl;cases aG;exact bg rfl)]
      exact ll
    ·have hi:kp {w with heap:=w.heap.setIfInBounds r (.map lI lJ)} (av cx m (st.dd b (.bd e (.mp k v) lm)).ids) (.map (some r)) (.mp k v) (some (cl (aV k) ps y z)):=by
      refine⟨r,lI,lJ,rfl,?_,be,cS,ic (fun _ _ h=>dt l7 l8 h) (fun _ _ h=>dt l7 l8 h) eU⟩
      show(w.heap.setIfInBounds r _)[r]? =_
      rw[Array.getElem?_setIfInBounds_self_of_lt (gx lk)]
     have lU:=xl l7 l8 hi (i:=n.toNat) (fun j u lq R ab lV=>by
      show(w.heap.setIfInBounds r _)[ab]? =_
      rw[Array.getElem?_setIfInBounds_ne]
      rintro rfl
      exact Ak (List.nodup_cons.1 Z).2 lf R (fun e=>lq e.symm) rfl lV) ls
     have f1:us.set n.toNat (.map (some r))=us:=by
      obtain⟨lA,ad⟩:=List.getElem?_eq_some_iff.1 l0
      rw[<-ad,List.set_getElem_self]
     have f2:W.set n.toNat (.map (some r))=W:=by
      obtain⟨lA,ad⟩:=List.getElem?_eq_some_iff.1 lf
      rw[<-ad,List.set_getElem_self]
     rw[f1,f2]at lU
     rw[<-lL]
     exact lU
   unfold Oper.wp
   have lv:(execOp (Act.eval ⟨T,ah.D cx⟩) aa).run cx.P w=.ok .skip {w with heap:=w.heap.setIfInBounds r (.map lI lJ)}:=by
    simp only[execOp,le,Sem.run_bind,lh,lo,Result.andThen_ok,Sem.run_pure]
   rw[lv]
   show K (Act.put ⟨T,ah.D cx⟩ aa.dst undef) _
   rw[ai]
   exact lz T _ ⟨m,l6⟩
  ·rename_i t x y le
   split at o
   case h_2=>cases o
   rename_i b n c u la lT lb
   split at o
   case h_2=>cases o
   rename_i e k v xs k' v' ps X Y aM
   split at o
   case h_2=>cases o
   rename_i bM bj
   cases o
   simp only[Bool.and_eq_true,Bool.not_eq_true']at aM
   obtain⟨lM,bN,bk⟩:=aM
   have lM:=Nat.eq_of_beq_eq_true lM
   have lC:b<cx.n:=by rw[ln.n];exact cR bk
   rw[<-ln.P]at lb
   obtain⟨g,cap,us,W,cur,ae,_,Z,ls,e4,bl,aj,bm,bn,am⟩:=U.bd X
   obtain⟨g2,bO,bQ,aN,ap,a2⟩:=bf U la
   rw[ae]at ap
   have:g2=g:=by
    simp only[Value.tuple.injEq,Array.mk.injEq,List.cons.injEq,Value.slice.injEq,Option.some.injEq,Addr.mk.injEq]at ap
    exact ap.1.1.1.symm
   subst this
   have li:=bc X
   have aq:=bc Y
   have ld:b∈st.ids:=List.mem_append.2 (.inl (List.mem_map.2 ⟨_,li,rfl⟩))
   have ar:c∈st.ids:=List.mem_append.2 (.inl (List.mem_map.2 ⟨_,aq,rfl⟩))
   have aH:b≠c:=by
    rintro rfl
    rw[X]at Y
    cases Y
   have bo:=al.dj bj
   cases bo
   obtain⟨r,f1,_,es,lF,lk,lG,lH,lx⟩:=U.box aq
   have f1:m c=.map (some r):=f1
   have bp:Act.eval ⟨T,ah.D cx⟩ y=.map (some r):=by have:Act.eval ⟨T,ah.D cx⟩ y=m c:=bf U lT;rw[this,f1]
   have au:own (m c) r:=by rw[f1];exact gQ rfl
   have aJ:own (m b) g2:=by rw[ae];exact dr.2 (.inl rfl)
   have aK:r≠g2:=fun e=>U.apart b c ld ar aH g2 aJ (by rw[<-e];exact au)
   obtain⟨bR,_⟩:=lr
   have lA:n.toNat<xs.length:=by omega
   have bq:n.toNat+u.cells<=cur.size:=by rw[lM,aj];omega
   have lo:=oa (P:=cx.P) (v:=.map (some r)) lb ls (by rw[lM];rfl) bq (fun x la=>by simp[Value.cells]at la;subst la;rfl)
   have br:cur.toList.take n.toNat++(Value.map (some r)).cells.toList++cur.toList.drop (n.toNat+u.cells)=cur.toList.set n.toNat (.map (some r)):=by
    rw[List.set_eq_take_append_cons_drop,if_pos (by rw[Array.length_toList,aj];omega),lM]
    simp[Value.cells]
   rw[br]at lo
   generalize lW:w.setRow g2 (cur.toList.set n.toNat (.map (some r))).toArray=lN at lo
   have lK:Touch m w b lN:=by rw[<-lW];exact⟨kZ _ _ _,fun k lQ ly=>setRow_other _ _ _ _ (fun e=>ly (by rw[e];exact aJ))⟩
   obtain⟨v2,lj⟩:∃v2,v2=Value.tuple (.slice (some ⟨g2,0,none⟩) xs.length cap::W.set n.toNat (.map (some r))).toArray:=⟨_,rfl⟩
   have lD:∀u∈W.set n.toNat (.map (some r)),u∈W\/u=.map (some r):=fun u R=>List.mem_or_eq_of_mem_set R
   have lt:∀O,own v2 O->own (m b) O\/own (m c) O:=by
    intro O q
    rw[lj]at q
    rcases dr.1 q with q|⟨u,R,q⟩
    ·exact .inl (by rw[ae];exact dr.2 (.inl q))
    ·rcases lD u R with R|rfl
     ·exact .inl (by rw[ae];exact dr.2 (.inr ⟨u,R,q⟩))
     ·cases q;exact .inr au
   generalize lL:xs.set n.toNat (some (show(eQ.mp k v).el from some ps))=lm at lz
   have l9:lm.length=xs.length:=by rw[<-lL,List.length_set]
   have lu:∀i,i∈(st.gO b c (.bd e (.mp k v) lm)).ids->i∈st.ids:=by
    intro i hi
    rcases List.mem_append.1 hi with hi|hi
    ·obtain⟨⟨j,s⟩,lg,rfl⟩:=List.mem_map.1 hi
     rcases List.mem_cons.1 lg with lg|lg
     ·cases lg;exact ld
     ·obtain⟨⟨aR,aS⟩,l3,l4⟩:=List.mem_map.1 lg
      cases l4
      exact List.mem_append.2 (.inl (List.mem_map.2 ⟨_,(cW.1 (cW.1 l3).1).1,rfl⟩))
    ·exact List.mem_append.2 (.inr hi)
   have aw:∀O,O<w.heap.size->¬av cx m st.ids O->lN.heap[O]? =w.heap[O]? :=fun O bt bu=>lK.block O bt fun e=>bu (.inr ⟨b,ld,e⟩)
   have lw:∀O,O<w.heap.size->av cx (bG m b v2) (st.gO b c (.bd e (.mp k v) lm)).ids O->av cx m st.ids O:=by
    intro O _ q
    rcases q with lE|⟨i,hi,q⟩
    ·exact .inl lE
    ·by_cases lp:i=b
     ·subst lp
      rw[b7]at q
      rcases lt O q with ll|ll
      ·exact .inr ⟨i,ld,ll⟩
      ·exact .inr ⟨c,ar,ll⟩
     ·rw[cX _ _ lp]at q
      exact .inr ⟨i,lu i hi,q⟩
   have bv:∀O,own (m b) O->O≠g2->lN.heap[O]? =w.heap[O]? :=fun O _ ly=>by rw[<-lW];exact setRow_other _ _ _ _ ly
   have hi:kp lN (av cx (bG m b v2) (st.gO b c (.bd e (.mp k v) lm)).ids) (.map (some r)) (.mp k v) (some ps):=
    ⟨r,es,lF,rfl,by rw[<-lW,setRow_other _ _ _ _ aK];exact lk,lG,lH,ic (fun _ _ h=>dt aw lw h) (fun _ _ h=>dt aw lw h) lx⟩
   have lU:=xl aw lw hi (i:=n.toNat) (fun j u lq R ab lV=>by
    refine bv ab (by rw[ae];exact dr.2 (.inr ⟨u,List.mem_of_getElem? R,lV⟩)) ?_
    rintro rfl
    exact(List.nodup_cons.1 am).1 (qQ.2 ⟨_,_,R,lV⟩)) bn
   have l5:=U.gO (c2:=.bd e (.mp k v) lm) li aq lC ae lj lK lt ⟨xs.length,cap,_,lj⟩ ⟨xs.length,cap,us.set n.toNat (.map (some r)),W.set n.toNat (.map (some r)),lj,by
     rw[l9]
     refine⟨by rw[List.length_set];exact Z.1,.inr ⟨g2,cap,_,rfl,Nat.zero_le _,by rw[<-lW];exact setRow_heap _ _ _ _ _ _ ls,e4,bl,?_,?_⟩⟩
     ·simp[aj]
     ·rw[Nat.mul_one,<-bm,List.take_set],by rw[<-lL];exact lU,by
     have lB:=Cq (i:=n.toNat) (u:=.map (some r)) (List.nodup_cons.1 am).2 (fun bS bw j u _ R bx=>by
      cases bw
      exact U.apart b c ld ar aH r (by rw[ae];exact dr.2 (.inr ⟨u,List.mem_of_getElem? R,bx⟩)) au)
     refine List.nodup_cons.2 ⟨fun lu=>?_,lB⟩
     obtain⟨u,R,q⟩:=List.mem_filterMap.1 lu
     rcases lD u R with R|rfl
     ·exact(List.nodup_cons.1 am).1 (List.mem_filterMap.2 ⟨u,R,q⟩)
     ·cases q;exact aK rfl⟩
   unfold Oper.wp
   have lv:(execOp (Act.eval ⟨T,ah.D cx⟩) aa).run cx.P w=.ok .skip lN:=by
    simp only[execOp,le,Sem.run_bind,bp,a2,lo,Result.andThen_ok,Sem.run_pure]
   rw[lv]
   show K (Act.put ⟨T,ah.D cx⟩ aa.dst undef) _
   rw[ai]
   exact lz T _ ⟨_,l5⟩
  ·cases o
def AJ(E:Env)(st:af)(aa:Oper)(orc:List al):Option (af×List al×List Prop):=
 match A1 E st aa orc with
 |some r=>some r
 |none=>BA E st aa orc
theorem UJ{E:Env}(q:bE E cx)(h:ak cx st T w){aa:Oper}{orc:List al}{st':af}{orc':List al}{ob:List Prop}(o:AJ E st aa orc=some (st',orc',ob))(O:bP ob)
  {K:Act->World->Prop}{Q:Exit->Act->World->Prop}(R:∀U w',ak cx st' U w'->K ⟨U,ah.D cx⟩ w'):aa.wp cx.P ⟨T,ah.D cx⟩ w K Q:=by
 unfold AJ at o
 split at o
 ·rename_i r W
  cases o
  exact PN q h W O R
 ·exact RP q h o O R
end Go.Ev
namespace Go.Ev
open Go Go.RowKit
variable [b8]
variable {cx:bI} {m:Nat->Value} {st st':af} {T:Array Value} {w w':World}
variable [ah cx]
/-! Copying, clearing. -/
theorem Ld{α:Type}{f:List Value->α->Prop}:∀{q O:List α} {c1 c2:List Value},bL f c1 q->bL f c2 O->bL f (c1++c2) (q++O)
 |[],_,_,_,R,o=>by cases R;exact o
 |y::U,_,_,_,⟨d1,d2,e,g1,g2⟩,o=>by subst e;exact⟨d1,_,by simp,g1,Ld g2 o⟩
theorem AI{M:Nat->Prop}{u:ag}:∀{xs:List u.el} {cs:List Value},bL (aJ w M u) cs xs->∀v∈cs,v.oneCell'=true
 |[],cs,q,v,o=>by cases q;simp at o
 |y::U,cs,⟨c1,c2,e,O,R⟩,v,o=>by
  subst e
  rcases List.mem_append.1 o with o|o
  ·exact hZ u O v o
  ·exact AI R v o
theorem an.over(h:an cx m st T w){r:Nat}{c:cG}(q:(r,c)∈st.rw){o:List c.t.el}{news:List Value}(X:bL (aJ w (av cx m st.ids) c.t) news o)(Y:o.length<=c.xs.length){g:Nat}{n cap:Nat}{cur:Array Value}
  (O:m r=.slice (some ⟨g,0,none⟩) n cap)(Z:w.heap[g]? =some (.cells cur c.e (0,0))):
  an cx m (st.setRow r {c with xs:=o++c.xs.drop o.length}) T (w.setRow g (news++cur.toList.drop news.length).toArray):=by
 obtain⟨cells,la,lq,lg⟩:=h.rows r c q
 have lh:r∈st.ids:=List.mem_append.2 (.inr (List.mem_map.2 ⟨_,q,rfl⟩))
 rcases la.2 with ⟨lb,_⟩|⟨lr,ls,lt,W,li,lc,ld,lj,le,lk⟩
 ·rw[O]at lb;cases lb
 rw[O]at W
 simp only[Value.slice.injEq,Option.some.injEq,Addr.mk.injEq,and_true]at W
 obtain⟨rfl,rfl,rfl⟩:=W
 rw[Z]at lc
 cases lc
 have R:news.length=o.length*c.t.cells:=jw (fun _ _=>cf c.t) _ _ X
 have ll:cells.length=c.xs.length*c.t.cells:=la.1
 have lf:Touch m w r (w.setRow g (news++cur.toList.drop news.length).toArray):=
  ⟨kZ _ _ _,fun k lu lm=>setRow_other _ _ _ _ (fun e=>lm (by rw[O,e];exact gQ rfl))⟩
 obtain⟨ln,_⟩:=ou q h.keys {c with xs:=o++c.xs.drop o.length}
 obtain⟨lo,lp⟩:=an.ia (cx:=cx) lh lf ln
 have U:(o++c.xs.drop o.length).length=c.xs.length:=by rw[List.length_append,List.length_drop];omega
 have lv:o.length*c.t.cells<=c.xs.length*c.t.cells:=Nat.mul_le_mul_right _ Y
 have lw:c.xs.length*c.t.cells<=cur.size:=by rw[le];exact Nat.mul_le_mul_right _ ld
 refine h.setRow q lf (cells:=news++cells.drop news.length) ?_ (dy (fun _ _=>cI lo lp c.t) (Ld X (by rw[R];exact E5 o.length lg Y)))
 refine⟨by simp only[U];rw[List.length_append,List.length_drop,ll,R];omega,.inr ⟨g,cap,_,by simp only[U];exact O,li,setRow_heap _ _ _ _ _ _ Z,by simp only[U];exact ld,lj,?_,?_⟩⟩
 ·have e:cur.toList.length=cur.size:=Array.length_toList
  rw[List.size_toArray,List.length_append,List.length_drop,e,R,<-le]
  omega
 ·simp only[U]
  rw[<-lk,List.drop_take,List.take_append,List.take_of_length_le (by omega),R]
/-! Structs whose fields own things. -/
theorem yj{M:Nat->Prop}:∀{vs:List Value} {l:List bV},de w M m vs l->vs.length=l.length
 |[],[],_=>rfl
 |[],_::_,h=>h.elim
 |_::_,[],h=>h.elim
 |_::_,.v _::_,⟨_,h⟩=>by simp[yj h]
 |_::_,.r _::_,⟨_,h⟩=>by simp[yj h]
 |_::vs,.a::l,h=>by simp[yj (vs:=vs) (l:=l) h]
theorem so{M:Nat->Prop}:∀{v1 v2:List Value} {l1 l2:List bV},de w M m v1 l1->de w M m v2 l2->de w M m (v1++v2) (l1++l2)
 |[],_,[],_,_,h=>h
 |[],_,_::_,_,h,_=>h.elim
 |_::_,_,[],_,h,_=>h.elim
 |_::_,_,.v _::_,_,⟨q,o⟩,h=>⟨q,so o h⟩
 |_::_,_,.r _::_,_,⟨q,o⟩,h=>⟨q,so o h⟩
 |_::vs,_,.a::l,_,o,h=>so (v1:=vs) (l1:=l) o h
theorem nv{M:Nat->Prop}:∀(n:Nat) {vs:List Value} {l:List bV},de w M m vs l->de w M m (vs.take n) (l.take n)/\de w M m (vs.drop n) (l.drop n)
 |0,vs,l,h=>⟨trivial,h⟩
 |n+1,[],[],_=>⟨trivial,trivial⟩
 |n+1,[],_::_,h=>h.elim
 |n+1,_::_,[],h=>h.elim
 |n+1,_::_,.v _::_,⟨q,o⟩=>⟨⟨q,(nv n o).1⟩,(nv n o).2⟩
 |n+1,_::_,.r _::_,⟨q,o⟩=>⟨⟨q,(nv n o).1⟩,(nv n o).2⟩
 |n+1,_::vs,.a::l,h=>⟨(nv n (vs:=vs) (l:=l) h).1,(nv n (vs:=vs) (l:=l) h).2⟩
theorem JO{M:Nat->Prop}:∀(vs:List Value),de w M m vs (List.replicate vs.length .a)
 |[]=>trivial
 |_::vs=>JO vs
def zk:List ao->Option (List bV)
 |[]=>some []
 |.val t x::l=>match zk l with
  |some r=>some (.v ⟨t,x⟩::r)
  |none=>none
 |_=>none
theorem Kh{M:Nat->Prop}:∀{vs:List Value} {l:List ao} {r:List bV},zk l=some r->ct w M m vs l->de w M m vs r
 |[],[],_,h,_=>by cases h;trivial
 |_::_,[],_,_,o=>o.elim
 |[],_::_,_,_,o=>o.elim
 |v::vs,s::l,r,h,⟨q,O⟩=>by
  unfold zk at h
  split at h
  ·rename_i e;cases e
  ·rename_i t x U e
   cases e
   split at h
   ·rename_i W R;cases h;exact⟨q,Kh R O⟩
   ·cases h
  ·cases h
def FD(st:af)(u:ag)(s:ao):Option (List bV):=
 match s with
 |.val t x=>match t.beq u with
  |true=>zk (leaves t x)
  |false=>match u,t.agg with
   |.ck,false=>some [.v ⟨t,x⟩]
   |_,_=>none
 |.row r=>match Nat.beq u.cells 1,look st.rw r with
  |true,some _=>some [.r r]
  |_,_=>none
 |.iter b=>match Nat.beq u.cells 1,look st.ad b with
  |true,some (.mp _ _ _)=>some [.r b]
  |_,_=>none
 |_=>none
theorem Sj(h:an cx m st T w){u:ag}{s:ao}{c:List bV}{v:Value}(o:FD st u s=some c)(q:aT w (av cx m st.ids) m v s):
  de w (av cx m st.ids) m v.cells.toList c/\v.cells.size=u.cells:=by
 unfold FD at o
 split at o
 ·rename_i t x
  split at o
  ·rename_i O
   obtain rfl:=ag.eq_of_beq O
   have R:=j7 q
   exact⟨Kh o (xM t R),by rw[<-cf t R];simp⟩
  ·split at o
   ·rename_i W _
    cases o
    have X:=hZ t ((bA W).1 (show ba w (av cx m st.ids) v t x from q)) v List.mem_cons_self
    have U:v.cells=#[v]:=by cases v<;>first|rfl|(simp[Value.oneCell']at X)
    rw[U]
    exact⟨⟨q,trivial⟩,rfl⟩
   ·cases o
 ·rename_i r
  split at o
  ·rename_i c' O Y
   cases o
   have e:v=m r:=q
   have R:=row_one h (bc Y)
   have U:v.cells=#[v]:=by rw[e];cases Z:m r<;>first|rfl|(rw[Z]at R;simp[Value.oneCell']at R)
   rw[U]
   exact⟨⟨e,trivial⟩,by rw[Nat.eq_of_beq_eq_true O];rfl⟩
  ·cases o
 ·rename_i b
  split at o
  ·rename_i k v' ps O la
   cases o
   have e:v=m b:=q
   obtain⟨g,lb,_⟩:=h.box (bc la)
   have U:v.cells=#[v]:=by rw[e,lb];rfl
   rw[U]
   exact⟨⟨e,trivial⟩,by rw[Nat.eq_of_beq_eq_true O];rfl⟩
  ·cases o
 ·cases o
def xZ(P:Program)(st:af)(t:TypeId):List (Nat×Operand)->List bV->Option (List bV)
 |[],l=>some l
 |(i,x)::r,l=>match fieldInfo P t i,aS st x with
  |some (off,u),some s=>match FD st u s,Nat.ble (off+u.cells) l.length with
   |some c,true=>xZ P st t r (l.take off++c++l.drop (off+u.cells))
   |_,_=>none
  |_,_=>none
theorem MG{t:TypeId}{ap:Array Field}(Z:cx.P.underlying t=some (.struct ap))(h:an cx m st T w)
  {place:Nat->Option (Nat×Nat)}(W:∀i off o,fieldInfo cx.P t i=some (off,o)->place i=some (off,o.cells)):
  ∀(parts:List (Nat×Operand)) (l O:List bV) (cs:List Value),de w (av cx m st.ids) m cs l->xZ cx.P st t parts l=some O->
   ∃U,Instr.fill place cs.toArray (parts.map fun p=>(p.1,Act.eval ⟨T,ah.D cx⟩ p.2))=some U.toArray/\de w (av cx m st.ids) m U O
 |[],l,O,cs,R,q=>by cases q;exact⟨cs,rfl,R⟩
 |(i,aa)::r,l,O,cs,R,q=>by
  unfold xZ at q
  split at q
  ·rename_i off o s la lb
   split at q
   ·rename_i c lc X
    have X:=Nat.le_of_ble_eq_true X
    obtain⟨aC,aA⟩:=Sj h lc (bf h lb)
    have lk:=yj R
    have ld:(Act.eval ⟨T,ah.D cx⟩ aa).cells.toList.length=o.cells:=by rw[Array.length_toList,aA]
    have le:cs=cs.take off++(cs.drop off).take o.cells++cs.drop (off+o.cells):=by
     rw[List.append_assoc,<-List.drop_drop,List.take_append_drop,List.take_append_drop]
    have lf:(cs.take off).length=off:=by rw[List.length_take];omega
    have lg:((cs.drop off).take o.cells).length=o.cells:=by rw[List.length_take,List.length_drop];omega
    obtain⟨U,lh,li⟩:=MG Z h W r _ O (cs.take off++(Act.eval ⟨T,ah.D cx⟩ aa).cells.toList++cs.drop (off+o.cells)) (so (so (nv off R).1 aC) (nv (off+o.cells) R).2) q
    refine⟨U,?_,li⟩
    rw[List.map_cons,Instr.fill,W i off o la]
    have lj:¬(((Act.eval ⟨T,ah.D cx⟩ aa).cells.size≠o.cells||decide (off+(Act.eval ⟨T,ah.D cx⟩ aa).cells.size>cs.toArray.size))=true):=by
     simp only[aA,List.size_toArray]
     simp
     omega
    simp only[]
    rw[if_neg lj]
    have Y:=xI (Act.eval ⟨T,ah.D cx⟩ aa).cells.toList (cs.take off) (cs.drop (off+o.cells)) ((cs.drop off).take o.cells) (by rw[lg,ld])
    rw[<-le,lf,Array.toArray_toList]at Y
    rw[Y]
    exact lh
   ·cases q
  ·cases q
def bV.aU(st:af):bV->ao
 |.v u=>.val u.t u.x
 |.r b=>match look st.ad b with
  |some (.cells _ _)=>.ptr b 0
  |some _=>.iter b
  |none=>.row b
 |.a=>.any
theorem yO(h:an cx m st T w):∀{vs:List Value} {l:List bV},de w (av cx m st.ids) m vs l->ct w (av cx m st.ids) m vs (l.map (bV.aU st))
 |[],[],_=>trivial
 |[],_::_,h=>h.elim
 |_::_,[],h=>h.elim
 |_::_,.v _::_,⟨o,q⟩=>⟨o,yO h q⟩
 |v::_,.r b::_,⟨o,q⟩=>by
  refine⟨?_,yO h q⟩
  show aT _ _ _ _ (match look st.ad b with
   |some (.cells _ _)=>.ptr b 0
   |some _=>.iter b
   |none=>.row b)
  split
  ·rename_i l e R
   obtain⟨g,O,_⟩:=h.box (bc R)
   exact⟨g,O,by rw[o];exact O⟩
  ·exact o
  ·exact o
 |_::vs,.a::l,q=>⟨trivial,yO (vs:=vs) (l:=l) h q⟩
def V1(r:Nat)(n:Int):ao->ao
 |.row b=>bif Nat.beq b r then .ai n else .row b
 |s=>s
def GZ(st:af)(a r:Nat)(n:Int):af:={st with ab:=st.ab.map fun p=>bif Nat.beq p.1 a then p else(p.1,V1 r n p.2)}
theorem R4(h:an cx m st T w){a r:Nat}{c:cG}(X:(r,c)∈st.rw):an cx m (GZ st a r (c.xs.length:Int)) T w:=
 {h with
  cT:=fun i aU hi=>by
   obtain⟨⟨j,s⟩,Y,o⟩:=List.mem_map.1 hi
   obtain⟨v,R,q⟩:=h.cT j s Y
   cases U:Nat.beq j a with
   |true=>
    simp only[U,cond_true]at o
    cases o
    exact⟨v,R,q⟩
   |false=>
    simp only[U,cond_false]at o
    cases o
    refine⟨v,R,?_⟩
    cases s with
    |row b=>
     show aT _ _ _ _ (bif Nat.beq b r then .ai (c.xs.length:Int)else .row b)
     cases Z:Nat.beq b r with
     |false=>exact q
     |true=>
      have e:=Nat.eq_of_beq_eq_true Z
      subst e
      have W:v=m b:=q
      obtain⟨cells,la,_⟩:=h.rows b c X
      rcases la.2 with ⟨O,lb⟩|⟨g,cap,cur,O,_⟩
      ·exact⟨none,0,0,by rw[W,O],by rw[lb]⟩
      ·exact⟨_,_,cap,by rw[W,O],rfl⟩
    |_=>exact q}
def DQ(E:Env)(st:af)(aa:Oper)(orc:List al):Option (af×List al×List Prop):=
 match aa.op with
 |.call {callee:=.builtin .append,args:=args,argTypes:=_}=>match args.toList,orc with
  |[.tmp a,_],⟨.unit,_⟩::orc'=>match look st.ab a with
   |some (.row r)=>match look st.rw r with
    |some c=>oT E (GZ st a r (c.xs.length:Int)) aa orc'
    |none=>none
   |_=>none
  |_,_=>none
 |.box t x=>match aa.dst,orc with
  |some d,⟨.unit,_⟩::orc'=>match ty E.P t,dC st x,Nat.blt d E.n with
   |some u,some v,true=>match v.as u with
    |some y=>some ((st.dn d (.aY u y t)).put d (.dW d []),orc',[])
    |none=>none
   |_,_,_=>none
  |_,_=>none
 |_=>none
theorem Ns{E:Env}(R:bE E cx)(h:ak cx st T w){aa:Oper}{orc:List al}{st':af}{orc':List al}{ob:List Prop}(o:DQ E st aa orc=some (st',orc',ob))(Y:bP ob)
  {K:Act->World->Prop}{Q:Exit->Act->World->Prop}(U:∀W w',ak cx st' W w'->K ⟨W,ah.D cx⟩ w'):aa.wp cx.P ⟨T,ah.D cx⟩ w K Q:=by
 obtain⟨m,q⟩:=h
 unfold DQ at o
 split at o
 ·split at o
  ·split at o
   ·split at o
    ·rename_i c Z
     exact uK R ⟨m,R4 q (bc Z)⟩ o Y U
    ·cases o
   ·cases o
  ·cases o
 ·rename_i t x la
  split at o
  case h_2=>cases o
  rename_i d lj lk ai
  split at o
  case h_2=>cases o
  rename_i u v ll lb lc
  split at o
  case h_2=>cases o
  rename_i y ld
  cases o
  have X:d<cx.n:=by rw[R.n];exact cR lc
  have le:=al.dj ld
  subst le
  have lf:=j7 (di q lb)
  have O:dw cx m st w d (fC w.heap.size (.aY u y t)) (w.alloc (.cells (Act.eval ⟨T,ah.D cx⟩ x).cells t)):=
   dw.fresh q d _ (iU _ _) fun g lg=>by cases mB lg;exact⟨Nat.le_refl _,by simp⟩
  have lh:∀i,i∈(st.dn d (.aY u y t)).ids->i=d\/i∈st.ids:=by
   intro i hi
   rw[w6]at hi
   rcases List.mem_cons.1 hi with hi|hi
   ·exact .inl hi
   ·exact .inr ((nV st d i).1 hi).1
  have li:=q.dn X O (.inl (pX q)) ⟨(Act.eval ⟨T,ah.D cx⟩ x).cells,heap_alloc_new w _,cI O.keeps (O.mut lh) u lf⟩
  refine gT (v:=.pointer (some ⟨w.heap.size,0,none⟩)) (w':=w.alloc (.cells (Act.eval ⟨T,ah.D cx⟩ x).cells t)) (cn (s:=Instr.box t (Act.eval ⟨T,ah.D cx⟩ x)) (by simp only[execOp,la]) ?_) ?_
  ·simp[Instr.box,newVar,newRow]
  ·rw[ai]
   exact U _ _ ⟨_,li.put X ⟨w.heap.size,b7 _ _ _,rfl⟩⟩
 ·cases o
def Aa(st:af):List Operand->Option (List al)
 |[]=>some []
 |x::xs=>match aS st x,Aa st xs with
  |some (.vptr u y),some l=>some (⟨.ptr u,y⟩::l)
  |_,_=>none
theorem GJ(h:an cx m st T w):∀{xs:List Operand} {l:List al},Aa st xs=some l->dQ w (av cx m st.ids) (xs.map (Act.eval ⟨T,ah.D cx⟩)) l/\∀u∈l,u.t.agg=false
 |[],l,o=>by cases o;exact⟨trivial,fun u O=>absurd O List.not_mem_nil⟩
 |x::xs,l,o=>by
  unfold Aa at o
  split at o
  ·rename_i u y X R U
   cases o
   obtain⟨aC,aA⟩:=GJ h U
   obtain⟨a,cells,e,W,cS⟩:=bf h R
   refine⟨⟨(bA (t:=.ptr u) rfl).2 ⟨a,cells,by rw[e],W,cS⟩,aC⟩,fun v q=>?_⟩
   rcases List.mem_cons.1 q with rfl|q
   ·rfl
   ·exact aA v q
  ·cases o
def tg(E:Env)(st:af)(aa:Oper)(orc:List al):Option (af×List al×List Prop):=
 match aa.op with
 |.call {callee:=.builtin .copy,args:=args,argTypes:=q}=>match args.toList,q.toList with
  |[x,y],[t,O]=>match aS st x,dY E.P t with
   |some (.row r),some (e,u)=>match look st.rw r with
    |some c=>match c.t.beq u,mS E.P st c.t O y with
     |true,some o=>match aa.dst with
      |none=>some (st.setRow r ⟨c.e,c.t,o++c.xs.drop o.length⟩,orc,[o.length<=c.xs.length])
      |some d=>match Nat.blt d E.n with
       |true=>some ((st.setRow r ⟨c.e,c.t,o++c.xs.drop o.length⟩).put d (.val (.int .i64) (o.length:Int)),orc,[o.length<=c.xs.length])
       |false=>none
     |_,_=>none
    |none=>none
   |_,_=>none
  |_,_=>none
 |.call {callee:=.builtin .clear,args:=args,argTypes:=q}=>match args.toList,q.toList,aa.dst with
  |[x],[t],none=>match aS st x,dY E.P t with
   |some (.row r),some (e,u)=>match look st.rw r,zeroOf E.P e with
    |some c,some R=>match c.t.beq u&&u.beq R with
     |true=>some (st.setRow r ⟨c.e,c.t,List.replicate c.xs.length (b9 c.t)⟩,orc,[])
     |false=>none
    |_,_=>none
   |_,_=>none
  |_,_,_=>none
 |.call {callee:=.builtin .len,args:=args,argTypes:=q}=>match args.toList,q.toList,aa.dst with
  |[x],[t],some d=>match aS st x,ty E.P t,Nat.blt d E.n with
   |some (.ai n),some (.ab _),true=>some (st.put d (.val (.int .i64) n),orc,[])
   |some (.osl b),some (.ab _),true=>match look st.ad b with
    |some (.bd _ _ xs)=>some (st.put d (.val (.int .i64) (xs.length:Int)),orc,[])
    |_=>none
   |_,_,_=>none
  |_,_,_=>none
 |.call {callee:=.builtin .min,args:=args,.. }=>match args.toList,aa.dst with
  |[x,y,z],some d=>match dC st x,dC st y,dC st z,Nat.blt d E.n with
   |some ⟨.int k,a⟩,some ⟨.int k',b⟩,some ⟨.int U,c⟩,true=>bif gN k k'&&gN k U then some (st.put d (.val (.int k) (iT (iT a b) c)),orc,[])else none
   |_,_,_,_=>none
  |_,_=>none
 |.assign (.const (.map none))=>match aa.dst,ty E.P aa.type with
  |some d,some (.map k v)=>match Nat.blt d E.n with
   |true=>some (st.put d (.val (.map k v) none),orc,[])
   |false=>none
  |_,_=>none
 |.move (.const (.map none))=>match aa.dst,ty E.P aa.type with
  |some d,some (.map k v)=>match Nat.blt d E.n with
   |true=>some (st.put d (.val (.map k v) none),orc,[])
   |false=>none
  |_,_=>none
 |.build t parts=>match aa.dst,ty E.P t,E.P.info? t with
  |some d,some u,some i=>match i.zero,u.pW&&Nat.blt d E.n with
   |some z,true=>match Nat.beq z.cells.size u.cells,xZ E.P st t parts.toList (List.replicate z.cells.size .a)with
    |true,some l=>some (st.put d (.eZ l),orc,[])
    |_,_=>none
   |_,_=>none
  |_,_,_=>none
 |.box t x=>match aa.dst,aS st x with
  |some d,some (.eZ l)=>match Nat.blt d E.n with
   |true=>some ((st.dn d (.cells ((l.map (bV.aU st)).map (ao.dv d)) t)).put d (.ptr d 0),orc,[])
   |false=>none
  |some d,some (.val u y)=>match u.agg&&Nat.blt d E.n with
   |true=>some ((st.dn d (.cells ((leaves u y).map (ao.dv d)) t)).put d (.ptr d 0),orc,[])
   |false=>none
  |_,_=>none
 |.makeFunc (.func f) first eX=>match aa.dst,first.toList,Aa st eX.toList with
  |some d,[],some l=>match Nat.blt d E.n with
   |true=>some (st.put d (.val (.fn f (pairUp l).t) (pairUp l).x),orc,[])
   |false=>none
  |_,_,_=>none
 |_=>none
theorem zQ{aa:Oper}{K:Act->World->Prop}{Q:Exit->Act->World->Prop}(ai:aa.dst=none){v:Value}(o:(execOp (Act.eval ⟨T,ah.D cx⟩) aa).run cx.P w=.ok (.value v) w')(q:K ⟨T,ah.D cx⟩ w'):aa.wp cx.P ⟨T,ah.D cx⟩ w K Q:=by
 unfold Oper.wp
 rw[o]
 show K (Act.put ⟨T,ah.D cx⟩ aa.dst v) w'
 rw[ai]
 exact q
theorem Ei{E:Env}(ld:bE E cx)(h:ak cx st T w){aa:Oper}{orc:List al}{st':af}{orc':List al}{ob:List Prop}(o:tg E st aa orc=some (st',orc',ob))(lQ:bP ob)
  {K:Act->World->Prop}{Q:Exit->Act->World->Prop}(lo:∀lR w',ak cx st' lR w'->K ⟨lR,ah.D cx⟩ w'):aa.wp cx.P ⟨T,ah.D cx⟩ w K Q:=by
 obtain⟨m,q⟩:=h
 have fin:∀(d:Nat) (v:Value) (w':World) (aI:Nat->Value) (ly:af) (aU:ao),aa.dst=some d->Nat.blt d E.n=true->(execOp (Act.eval ⟨T,ah.D cx⟩) aa).run cx.P w=.ok (.value v) w'->an cx aI ly T w'->aT w' (av cx aI ly.ids) aI v aU->ly.put d aU=st'->aa.wp cx.P ⟨T,ah.D cx⟩ w K Q:=by
  intro d v w' aI ly aU ai O lp l9 ab e
  have lq:d<cx.n:=by rw[ld.n];exact cR O
  refine gT lp ?_
  rw[ai]
  exact lo _ _ ⟨aI,e▸l9.put lq ab⟩
 unfold tg at o
 split at o
 ·rename_i args le R
  split at o
  case h_2=>cases o
  rename_i x y t ad lh lr
  split at o
  case h_2=>cases o
  rename_i r e u Y ls
  split at o
  case h_2=>cases o
  rename_i c lC
  split at o
  case h_2=>cases o
  rename_i lf lt lS
  rw[<-ld.P]at ls lS
  obtain⟨lc,lz,lT⟩:=jz ls
  obtain⟨i2,a1,lA,_⟩:=dk lz
  obtain⟨_,lD,lU,lV,lE⟩:=Hj q lS
  have W:=bc lC
  have lm:=ag.eq_of_beq lt
  have li:args=#[x,y]:=by rw[<-Array.toArray_toList (xs:=args),lh]
  have lu:le=#[t,ad]:=by rw[<-Array.toArray_toList (xs:=le),lr]
  subst li
  subst lu
  have ln:Act.eval ⟨T,ah.D cx⟩ x=m r:=bf q Y
  have lj:i2.size=c.t.cells:=by rw[lm];exact lA
  have key:lf.length<=c.xs.length->∃w',(execOp (Act.eval ⟨T,ah.D cx⟩) aa).run cx.P w=.ok (.value (goInt lf.length)) w'/\an cx m (st.setRow r ⟨c.e,c.t,lf++c.xs.drop lf.length⟩) T w':=by
   intro lW
   have aj:Nat.min lf.length c.xs.length=lf.length:=Nat.min_eq_left lW
   obtain⟨cells,lF,am,aq⟩:=q.rows r c W
   rcases lF.2 with ⟨la,lG⟩|⟨g,cap,cur,la,ar,Z,lX,au,lH,aw⟩
   ·have ax:lf=[]:=List.eq_nil_of_length_eq_zero (by omega)
    subst ax
    have lg:c.xs=[]:=List.eq_nil_of_length_eq_zero lG
    refine⟨w,?_,?_⟩
    ·have X:=lV w (fun _ _=>rfl)
     have ay:Builtin.lenOf (Act.eval ⟨T,ah.D cx⟩ y)=pure 0:=lU
     simp only[List.length_nil]at X
     simp[execOp,R,resolve,invoke,builtin,Builtin.copy_,ln,la,run_underlying lc,ay,fa lz,<-lm,X]
    ·have U:(⟨c.e,c.t,([]:List c.t.el)++c.xs.drop ([]:List c.t.el).length⟩:cG)=c:=by simp
     rw[U]
     obtain⟨lY,lv,lZ,lw⟩:=q.rows r c W
     exact q.setRow W ⟨⟨rfl,rfl,rfl,Nat.le_refl _,fun _=>Nat.le_refl _⟩,fun _ _ _=>rfl⟩ lv (dy (fun _ _=>cI (fun _ _ _=>rfl) (fun _ _ Z=>mM (fun i hi=>((ou W q.keys c).1 i).1 hi) Z) c.t) lw)
   ·have lI:lD.length=lf.length*c.t.cells:=jw (fun _ _=>cf c.t) _ _ lE
    have lJ:lD.length<=cur.size:=by
     rw[lI,lH]
     exact Nat.mul_le_mul_right _ (by omega)
    have lb:=run_storeCells_at (P:=cx.P) g 0 c.e lD 0 cur w Z (by simpa using lJ) (AI lE)
    simp only[Nat.add_zero,List.take_zero,List.nil_append,Nat.zero_add]at lb
    refine⟨_,?_,q.over W lE lW la Z⟩
    have X:=lV w (fun _ _=>rfl)
    simp[execOp,R,resolve,invoke,builtin,Builtin.copy_,ln,la,run_underlying lc,lU,fa lz,<-lm,aj,X,lb]
  split at o
  ·rename_i ai
   cases o
   obtain⟨w',lx,lK⟩:=key lQ.1
   exact zQ ai lx (lo _ _ ⟨m,lK⟩)
  ·rename_i d ai
   split at o
   case h_2=>cases o
   rename_i O
   cases o
   obtain⟨w',lx,lK⟩:=key lQ.1
   exact fin d _ w' m _ (.val (.int .i64) _) ai O lx lK (da.2 rfl) rfl
 ·rename_i args le R
  split at o
  case h_2=>cases o
  rename_i x t lh lr ai
  split at o
  case h_2=>cases o
  rename_i r e u Y ls
  split at o
  case h_2=>cases o
  rename_i c a2 lC lj
  split at o
  case h_2=>cases o
  rename_i lt
  cases o
  rw[Bool.and_eq_true]at lt
  have lm:=ag.eq_of_beq lt.1
  have az:=ag.eq_of_beq lt.2
  rw[<-ld.P]at ls lj
  obtain⟨lc,lz,lT⟩:=jz ls
  obtain⟨i,z,_,hi,lA,aB,lL⟩:=kg lj
  rw[<-az,<-lm]at lA lL
  have W:=bc lC
  have li:args=#[x]:=by rw[<-Array.toArray_toList (xs:=args),lh]
  have lu:le=#[t]:=by rw[<-Array.toArray_toList (xs:=le),lr]
  subst li
  subst lu
  have ln:Act.eval ⟨T,ah.D cx⟩ x=m r:=bf q Y
  have aD:∀w',(zeroValue e).run cx.P w'=.ok z w':=fun w'=>by simp[zeroValue,typeInfo,hi,aB]
  have lB:z.cells.size=c.t.cells:=by rw[<-cf c.t (lL w (av cx m st.ids))];simp
  have aE:0<c.t.cells:=by rw[lm];exact lT
  obtain⟨cells,lF,am,aq⟩:=q.rows r c W
  rcases lF.2 with ⟨la,lG⟩|⟨g,cap,cur,la,ar,Z,lX,au,lH,aw⟩
  ·have lg:c.xs=[]:=List.eq_nil_of_length_eq_zero lG
   refine zQ ai (w':=w) (v:=.tuple #[]) ?_ (lo _ _ ⟨m,?_⟩)
   ·simp[execOp,R,resolve,invoke,builtin,Builtin.clear_,ln,la,run_underlying lc]
   ·have U:(⟨c.e,c.t,List.replicate c.xs.length (b9 c.t)⟩:cG)=c:=by rw[lg];obtain⟨ce,rC,aF⟩:=c;simp only at lg;subst lg;rfl
    rw[U]
    obtain⟨lY,lv,lZ,lw⟩:=q.rows r c W
    exact q.setRow W ⟨⟨rfl,rfl,rfl,Nat.le_refl _,fun _=>Nat.le_refl _⟩,fun _ _ _=>rfl⟩ lv (dy (fun _ _=>cI (fun _ _ _=>rfl) (fun _ _ Z=>mM (fun i hi=>((ou W q.keys c).1 i).1 hi) Z) c.t) lw)
  ·have lM:=KW (lL w (av cx m st.ids)) aE c.xs.length
   have l0:(Builtin.zeroCells z.cells c.xs.length)=madeCells z.cells (c.xs.length*c.t.cells):=by rw[<-lB];rfl
   have l3:=q.over W lM (by rw[List.length_replicate];exact Nat.le_refl _) la Z
   have aG:List.replicate c.xs.length (b9 c.t)++c.xs.drop (List.replicate c.xs.length (b9 c.t)).length=List.replicate c.xs.length (b9 c.t):=by
    rw[List.length_replicate,List.drop_eq_nil_of_le (Nat.le_refl _),List.append_nil]
   rw[aG]at l3
   have lI:(madeCells z.cells (c.xs.length*c.t.cells)).toList.length=c.xs.length*c.t.cells:=by
    rw[jw (fun _ _=>cf c.t) _ _ lM,List.length_replicate]
   have lJ:(madeCells z.cells (c.xs.length*c.t.cells)).toList.length<=cur.size:=by
    rw[lI,lH]
    exact Nat.mul_le_mul_right _ lX
   have lb:=run_storeCells_at (P:=cx.P) g 0 c.e (madeCells z.cells (c.xs.length*c.t.cells)).toList 0 cur w Z (by simpa using lJ) (AI lM)
   simp only[Nat.add_zero,List.take_zero,List.nil_append,Nat.zero_add]at lb
   by_cases l4:c.xs.length=0
   ·have lg:c.xs=[]:=List.eq_nil_of_length_eq_zero l4
    refine zQ ai (w':=w) (v:=.tuple #[]) ?_ (lo _ _ ⟨m,?_⟩)
    ·have aH:m r=.slice (some ⟨g,0,none⟩) 0 cap:=by rw[la,l4]
     simp[execOp,R,resolve,invoke,builtin,Builtin.clear_,ln,aH,run_underlying lc]
    ·have U:(⟨c.e,c.t,List.replicate c.xs.length (b9 c.t)⟩:cG)=c:=by rw[lg];obtain⟨ce,rC,aF⟩:=c;simp only at lg;subst lg;rfl
     rw[U]
     obtain⟨lY,lv,lZ,lw⟩:=q.rows r c W
     exact q.setRow W ⟨⟨rfl,rfl,rfl,Nat.le_refl _,fun _=>Nat.le_refl _⟩,fun _ _ _=>rfl⟩ lv (dy (fun _ _=>cI (fun _ _ _=>rfl) (fun _ _ Z=>mM (fun i hi=>((ou W q.keys c).1 i).1 hi) Z) c.t) lw)
   ·refine zQ ai (v:=.tuple #[]) ?_ (lo _ _ ⟨m,l3⟩)
    have aJ:m r=.slice (some ⟨g,0,none⟩) c.xs.length cap:=la
    have lx:(Builtin.clear_ #[t] aa.type #[m r]).run cx.P w=.ok (.tuple #[]) (w.setRow g ((madeCells z.cells (c.xs.length*c.t.cells)).toList++cur.toList.drop (madeCells z.cells (c.xs.length*c.t.cells)).toList.length).toArray):=by
     rw[aJ]
     obtain⟨k,lk⟩:∃k,c.xs.length=k+1:=⟨c.xs.length-1,by omega⟩
     rw[lk]at lb l0⊢
     simp only[Builtin.clear_,List.getElem?_toArray,List.getElem?_cons_zero,Sem.run_bind,run_underlying lc,Result.andThen_ok,aD w,l0,lb,Sem.run_pure]
    simp only[execOp,R,resolve,invoke,builtin,Sem.run_bind,Sem.run_pure,Result.andThen_ok,List.map_toArray,List.map_cons,List.map_nil,ln,lx]
 ·rename_i args le R
  split at o
  case h_2=>cases o
  rename_i x t d lh lr ai
  have li:args=#[x]:=by rw[<-Array.toArray_toList (xs:=args),lh]
  have lu:le=#[t]:=by rw[<-Array.toArray_toList (xs:=le),lr]
  subst li
  subst lu
  split at o
  ·rename_i n u Y ll O
   cases o
   rw[<-ld.P]at ll
   obtain⟨i,_,_,aK,_,X,_⟩:=dk ll
   obtain⟨a,k,cap,ae,U⟩:=bf q Y
   refine fin d (.int .i64 n) w m _ (.val (.int .i64) n) ai O ?_ q (da.2 rfl) rfl
   rw[<-U]
   simp[execOp,R,resolve,invoke,builtin,Builtin.len_,ae,run_underlying X,goInt]
  ·rename_i b u Y ll O
   split at o
   case h_2=>cases o
   rename_i e k xs aL
   cases o
   rw[<-ld.P]at ll
   obtain⟨i,_,_,aK,_,X,_⟩:=dk ll
   obtain⟨g,cap,us,a3,cur,ae,_⟩:=q.bd aL
   obtain⟨a4,U⟩:=bf q Y
   rw[ae]at U
   have lN:Act.eval ⟨T,ah.D cx⟩ x=.slice (some ⟨g,0,none⟩) xs.length cap:=by
    simp only[Value.tuple.injEq,Array.mk.injEq,List.cons.injEq]at U
    exact U.1.symm
   refine fin d (.int .i64 (xs.length:Int)) w m _ (.val (.int .i64) _) ai O ?_ q (da.2 rfl) rfl
   simp[execOp,R,resolve,invoke,builtin,Builtin.len_,lN,run_underlying X,goInt]
  ·cases o
 ·rename_i args _ R
  split at o
  case h_2=>cases o
  rename_i x y z d lh ai
  split at o
  case h_2=>cases o
  rename_i k a k' b aM c Y aN lj O
  cases lk:gN k k'&&gN k aM with
  |false=>rw[lk]at o;cases o
  |true=>
  rw[lk]at o
  cases o
  rw[Bool.and_eq_true]at lk
  obtain rfl:=nq lk.1
  obtain rfl:=nq lk.2
  have li:args=#[x,y,z]:=by rw[<-Array.toArray_toList (xs:=args),lh]
  subst li
  have ae:=da.1 (di q Y)
  have U:=da.1 (di q aN)
  have lN:=da.1 (di q lj)
  refine fin d (.int k (iT (iT a b) c)) w m _ (.val (.int k) _) ai O ?_ q (da.2 rfl) rfl
  simp[execOp,R,resolve,invoke,builtin,Builtin.min_,ae,U,lN,Builtin.min2,iT]
  rfl
 ·rename_i R
  split at o
  case h_2=>cases o
  rename_i d k v ai ll
  split at o
  case h_2=>cases o
  rename_i O
  cases o
  exact fin d (.map none) w m _ (.val (.map k v) none) ai O (by simp[execOp,R,Act.eval]) q ((bA (t:=.map k v) rfl).2 rfl) rfl
 ·rename_i R
  split at o
  case h_2=>cases o
  rename_i d k v ai ll
  split at o
  case h_2=>cases o
  rename_i O
  cases o
  exact fin d (.map none) w m _ (.val (.map k v) none) ai O (by simp[execOp,R,Act.eval]) q ((bA (t:=.map k v) rfl).2 rfl) rfl
 ·rename_i t parts R
  split at o
  case h_2=>cases o
  rename_i d u i ai lc hi
  split at o
  case h_2=>cases o
  rename_i z lj lb
  split at o
  case h_2=>cases o
  rename_i l lB l5
  cases o
  rw[Bool.and_eq_true]at lb
  rw[<-ld.P]at lc hi l5
  have lB:=Nat.eq_of_beq_eq_true lB
  obtain⟨a5,a6,lA,X⟩:=dk lc
  have aO:∃ap d',cx.P.underlying t=some (.struct ap)/\fieldsOf (cN cx.P d') 0 ap.toList=some u:=by
   cases u<;>first|exact X|(simp[ag.pW]at lb)
  obtain⟨ap,d',lO,aP⟩:=aO
  obtain⟨l6,l7,aQ⟩:=MG lO q (place:=fun k=>(ap.map fun f=>(f.offset,cx.P.cellsOf f.type))[k]?) (fun k off a7 aR=>by
   obtain⟨aS,a8,l8,aV,aW,aX,a9⟩:=wI aR
   have:aS=ap:=by rw[lO]at l8;cases l8;rfl
   subst this
   obtain⟨i3,aY,aZ,_⟩:=dk aW
   rw[Array.getElem?_map,aV]
   simp[aX,Program.cellsOf,aY,aZ]) parts.toList _ l z.cells.toList (by rw[<-Array.length_toList];exact JO _) l5
  refine fin d (.agg l6.toArray) w m _ (.eZ l) ai lb.2 (cn (s:=Instr.build t (parts.map fun p=>(p.1,Act.eval ⟨T,ah.D cx⟩ p.2))) (by simp only[execOp,R]) ?_) q ⟨l6,rfl,aQ⟩ rfl
  refine run_build w t _ _ ?_
  unfold Program.built
  simp only[hi,lO,lj,Dw ap.toList (fun f X=>DT aP f X)]
  rw[Array.toList_map]
  rw[Array.toArray_toList]at l7
  rw[<-l7]
  congr 1
  funext k
  simp
 ·rename_i t x R
  split at o
  case h_3=>cases o
  ·rename_i d l ai Y
   split at o
   case h_2=>cases o
   rename_i O
   cases o
   have lq:d<cx.n:=by rw[ld.n];exact cR O
   obtain⟨vs,ae,lp⟩:=bf q Y
   have lP:=vA q lq (cells:=vs.toArray) (e:=t) (l:=l.map (bV.aU st)) (yO q lp)
   refine fin d _ _ _ _ (.ptr d 0) ai O (cn (s:=Instr.box t (Act.eval ⟨T,ah.D cx⟩ x)) (by simp only[execOp,R]) ?_) lP ⟨w.heap.size,b7 _ _ _,rfl⟩ rfl
   rw[ae]
   simp[Instr.box,newVar,newRow,Value.cells]
  ·rename_i d u y ai Y
   split at o
   case h_2=>cases o
   rename_i O
   rw[Bool.and_eq_true]at O
   cases o
   have lq:d<cx.n:=by rw[ld.n];exact cR O.2
   obtain⟨vs,ae,lp⟩:=(eh O.1).1 (bf q Y)
   have lP:=vA q lq (cells:=vs.toArray) (e:=t) (l:=leaves u y) (xM u lp)
   refine fin d _ _ _ _ (.ptr d 0) ai O.2 (cn (s:=Instr.box t (Act.eval ⟨T,ah.D cx⟩ x)) (by simp only[execOp,R]) ?_) lP ⟨w.heap.size,b7 _ _ _,rfl⟩ rfl
   rw[ae]
   simp[Instr.box,newVar,newRow,Value.cells]
 ·rename_i f first eX R
  split at o
  case h_2=>cases o
  rename_i d l ai X a0
  split at o
  case h_2=>cases o
  rename_i O
  cases o
  have ae:first.map (Act.eval ⟨T,ah.D cx⟩)=#[]:=by rw[show first=#[] by rw[<-Array.toArray_toList (xs:=first),X]];simp
  obtain⟨aC,aA⟩:=GJ q a0
  have U:eX.map (Act.eval ⟨T,ah.D cx⟩)=(eX.toList.map (Act.eval ⟨T,ah.D cx⟩)).toArray:=by apply Array.ext';simp
  refine fin d (.func (.func f) #[] (eX.toList.map (Act.eval ⟨T,ah.D cx⟩)).toArray) w m _ (.val (.fn f (pairUp l).t) (pairUp l).x) ai O (cn (s:=Instr.makeFunc (.func f) (first.map (Act.eval ⟨T,ah.D cx⟩)) (eX.map (Act.eval ⟨T,ah.D cx⟩))) (by simp only[execOp,R]) ?_) q ((bA (t:=.fn f (pairUp l).t) rfl).2 ⟨_,rfl,sx aA aC⟩) rfl
  rw[ae,U]
  simp[Instr.makeFunc]
 ·cases o
def Fs(E:Env)(st:af)(aa:Oper)(orc:List al):Option (af×List al×List Prop):=
 match DQ E st aa orc with
 |some r=>some r
 |none=>match AJ E st aa orc with
  |some r=>some r
  |none=>tg E st aa orc
theorem UT{E:Env}(q:bE E cx)(h:ak cx st T w){aa:Oper}{orc:List al}{st':af}{orc':List al}{ob:List Prop}(o:Fs E st aa orc=some (st',orc',ob))(O:bP ob)
  {K:Act->World->Prop}{Q:Exit->Act->World->Prop}(R:∀W w',ak cx st' W w'->K ⟨W,ah.D cx⟩ w'):aa.wp cx.P ⟨T,ah.D cx⟩ w K Q:=by
 unfold Fs at o
 split at o
 ·rename_i r U
  cases o
  exact Ns q h U O R
 ·split at o
  ·rename_i r U
   cases o
   exact UJ q h U O R
  ·exact Ei q h o O R
end Go.Ev
namespace Go.Ev
open Go Go.RowKit
variable [b8]
variable {cx:bI} {m aI:Nat->Value} {st st':af} {T:Array Value} {w w':World}
variable [ah cx]
def gM(i:Nat)(l:List Nat):Bool:=l.any (Nat.beq i)
theorem uB{i:Nat}{l:List Nat}:gM i l=true↔i∈l:=by
 unfold gM
 rw[List.any_eq_true]
 exact⟨fun⟨x,o,e⟩=>by rw[Nat.eq_of_beq_eq_true e];exact o,fun h=>⟨i,h,Nat.beq_refl i⟩⟩
def iX{α:Type}(o:List Nat)(l:List (Nat×α)):List (Nat×α):=l.filter fun p=>!(gM p.1 o)
theorem rP{α:Type}{o:List Nat}{l:List (Nat×α)}{p:Nat×α}:p∈iX o l↔p∈l/\p.1∉o:=by
 unfold iX
 rw[List.mem_filter,Bool.not_eq_true',<-uB]
 exact⟨fun⟨a,b⟩=>⟨a,by rw[b];decide⟩,fun⟨a,b⟩=>⟨a,by cases h:gM p.1 o with|true=>exact absurd h b|false=>rfl⟩⟩
def af.dL(st:af)(o:List Nat)(q:List (Nat×bQ))(O:List (Nat×cG))(f:ao->ao):af:=
 {ab:=st.ab.map fun p=>(p.1,f p.2),ad:=q++(iX o st.ad).map fun p=>(p.1,p.2.map f),rw:=O++iX o st.rw}
theorem qI{D:List Nat}{O:List (Nat×bQ)}{R:List (Nat×cG)}{f:ao->ao}{i:Nat}:i∈(st.dL D O R f).ids↔(i∈O.map (·.1)\/i∈R.map (·.1))\/(i∈st.ids/\i∉D):=by
 simp only[af.ids,af.dL,List.map_append,List.mem_append,List.map_map,Function.comp_def]
 have ae:∀{α:Type} {l:List (Nat×α)},i∈(iX D l).map (·.1)↔i∈l.map (·.1)/\i∉D:=by
  intro α l
  rw[List.mem_map,List.mem_map]
  constructor
  ·rintro⟨p,q,rfl⟩;obtain⟨a,b⟩:=rP.1 q;exact⟨⟨p,a,rfl⟩,b⟩
  ·rintro⟨⟨p,q,rfl⟩,o⟩;exact⟨p,rP.2 ⟨q,o⟩,rfl⟩
 have U:i∈List.map (fun x:Nat×bQ=>x.fst) (iX D st.ad)↔i∈st.ad.map (·.1)/\i∉D:=ae
 have W:i∈List.map (fun x:Nat×cG=>x.fst) (iX D st.rw)↔i∈st.rw.map (·.1)/\i∉D:=ae
 rw[U,W]
 constructor
 ·rintro((h|h)|(h|h))
  ·exact .inl (.inl h)
  ·exact .inr ⟨.inl h.1,h.2⟩
  ·exact .inl (.inr h)
  ·exact .inr ⟨.inr h.1,h.2⟩
 ·rintro((h|h)|⟨h|h,o⟩)
  ·exact .inl (.inl h)
  ·exact .inr (.inl h)
  ·exact .inl (.inr ⟨h,o⟩)
  ·exact .inr (.inr ⟨h,o⟩)
structure iy(cx:bI)(m aI:Nat->Value)(st:af)(w w':World)(D:List Nat)(o:List (Nat×bQ))(q:List (Nat×cG)):Prop where
 same:Same w w'
 block:∀g,g<w.heap.size->(∀j,j∈D->j∈st.ids->¬own (m j) g)->w'.heap[g]? =w.heap[g]?
 old:∀i,i∈st.ids->i∉D->aI i=m i
 new:∀i,i∈o.map (·.1)\/i∈q.map (·.1)->∀g,own (aI i) g->(∃j,j∈D/\j∈st.ids/\own (m j) g)\/(w.heap.size<=g/\g<w'.heap.size)
 apart:∀i j,i∈o.map (·.1)\/i∈q.map (·.1)->j∈o.map (·.1)\/j∈q.map (·.1)->i≠j->∀g,own (aI i) g->¬own (aI j) g
 keys:(o.map (·.1)++q.map (·.1)).Nodup
 nj:∀i,i∈o.map (·.1)\/i∈q.map (·.1)->i∈st.ids->i∈D
 nu:∀b c,(b,c)∈o->c.one=true->b<cx.n
 gd:∀r c,(r,c)∈q->r<cx.n
theorem iy.keeps{D:List Nat}{o:List (Nat×bQ)}{q:List (Nat×cG)}(X:iy cx m aI st w w' D o q):∀b,b<w.heap.size->¬av cx m st.ids b->w'.heap[b]? =w.heap[b]? :=
 fun b O R=>X.block b O fun j _ U W=>R (.inr ⟨j,U,W⟩)
theorem iy.mut{D:List Nat}{q:List (Nat×bQ)}{O:List (Nat×cG)}{f:ao->ao}(X:iy cx m aI st w w' D q O):∀b,b<w.heap.size->av cx aI (st.dL D q O f).ids b->av cx m st.ids b:=by
 rintro b Z (R|⟨i,hi,o⟩)
 ·exact .inl R
 ·rcases qI.1 hi with hi|⟨hi,U⟩
  ·rcases X.new i hi b o with ⟨j,_,W,Y⟩|⟨la,_⟩
   ·exact .inr ⟨j,W,Y⟩
   ·omega
  ·rw[X.old i hi U]at o
   exact .inr ⟨i,hi,o⟩
theorem an.BQ(h:an cx m st T w){D:List Nat}{R:List (Nat×bQ)}{U:List (Nat×cG)}{f:ao->ao}(X:iy cx m aI st w w' D R U)
  (ly:∀v s,aT w' (av cx aI (st.dL D R U f).ids) m v s->aT w' (av cx aI (st.dL D R U f).ids) aI v (f s))
  (lz:∀b c,(b,c)∈R->∃g,iK (aI b) g c/\ii w' (av cx aI (st.dL D R U f).ids) aI (aI b) g c)
  (lA:∀r c,(r,c)∈U->∃cells,w'.ownsRow 0 c.e c.t.cells (aI r) c.xs.length cells/\bL (aJ w' (av cx aI (st.dL D R U f).ids) c.t) cells c.xs):an cx aI (st.dL D R U f) T w':=by
 have li:=X.keeps
 have lj:=X.mut (f:=f)
 have lo:∀v s,aT w (av cx m st.ids) m v s->aT w' (av cx aI (st.dL D R U f).ids) aI v (f s):=fun v s lB=>ly v s (fE li lj lB)
 have lp:∀j,j∈st.ids->j∉D->∀g,own (m j) g->w'.heap[g]? =w.heap[g]? :=fun j q Z g W=>X.block g (h.lt q W).1 fun i hi lC lD=>h.apart i j lC q (fun e=>Z (e▸hi)) g lD W
 have lq:∀i,i∈R.map (·.1)\/i∈U.map (·.1)->∀g,own (aI i) g->cx.w0.heap.size<=g\/cx.X g:=fun i hi g W=>by
  rcases X.new i hi g W with ⟨j,_,q,lE⟩|⟨lb,_⟩
  ·exact(h.lt q lE).2
  ·exact .inl (Nat.le_trans h.frame.size lb)
 have lF:∀{b c},(b,c)∈R->b∈R.map (·.1)\/b∈U.map (·.1):=fun o=>.inl (List.mem_map.2 ⟨_,o,rfl⟩)
 have WT:∀{b c},(b,c)∈U->b∈R.map (·.1)\/b∈U.map (·.1):=fun o=>.inr (List.mem_map.2 ⟨_,o,rfl⟩)
 have fR:∀{b c},(b,c)∈st.ad->b∈st.ids:=fun o=>List.mem_append.2 (.inl (List.mem_map.2 ⟨_,o,rfl⟩))
 have lk:∀{b c},(b,c)∈st.rw->b∈st.ids:=fun o=>List.mem_append.2 (.inr (List.mem_map.2 ⟨_,o,rfl⟩))
 refine{size:=h.size,frame:=?_,outer:=h.outer,cT:=?_,boxes:=?_,rows:=?_,apart:=?_,keys:=?_,fixed:=?_,kept:=?_}
 ·refine h.frame.step X.same fun b o lG=>X.block b (Nat.lt_of_lt_of_le o h.frame.size) fun j _ q W=>?_
  rcases(h.lt q W).2 with lr|lr
  ·omega
  ·exact lG lr
 ·intro i aU hi
  obtain⟨⟨j,s⟩,O,lc⟩:=List.mem_map.1 hi
  cases lc
  obtain⟨v,ld,a2⟩:=h.cT j s O
  exact⟨v,ld,lo v s a2⟩
 ·intro b c o
  rcases List.mem_append.1 o with o|o
  ·obtain⟨g,ld,a2⟩:=lz b c o
   exact⟨g,ld,lq b (lF o),a2⟩
  ·obtain⟨⟨j,s⟩,O,lc⟩:=List.mem_map.1 o
   cases lc
   obtain⟨O,Z⟩:=rP.1 O
   obtain⟨g,ae,le,lf⟩:=h.boxes j s O
   rw[X.old j (fR O) Z]
   exact⟨g,kQ.2 ae,le,jS li lj (ix ae) (lp j (fR O) Z) lo lf⟩
 ·intro r c Y
  rcases List.mem_append.1 Y with Y|Y
  ·obtain⟨cells,ld,a2⟩:=lA r c Y
   exact⟨cells,ld,lq r (WT Y),a2⟩
  ·obtain⟨O,Z⟩:=rP.1 Y
   obtain⟨cells,ae,le,lf⟩:=h.rows r c O
   rw[X.old r (lk O) Z]
   exact⟨cells,qH ae fun b o=>lp r (lk O) Z b (gQ o),le,dy (fun _ _=>cI li lj c.t) lf⟩
 ·intro i j hi q ls g W la
  rcases qI.1 hi with hi|⟨hi,lt⟩
  ·rcases qI.1 q with q|⟨q,lh⟩
   ·exact X.apart i j hi q ls g W la
   ·rw[X.old j q lh]at la
    rcases X.new i hi g W with ⟨k,lg,ll,lm⟩|⟨lb,_⟩
    ·exact h.apart k j ll q (fun e=>lh (e▸lg)) g lm la
    ·have:=(h.lt q la).1;omega
  ·rw[X.old i hi lt]at W
   rcases qI.1 q with q|⟨q,lh⟩
   ·rcases X.new j q g la with ⟨k,lg,ll,lm⟩|⟨lb,_⟩
    ·exact h.apart k i ll hi (fun e=>lt (e▸lg)) g lm W
    ·have:=(h.lt hi W).1;omega
   ·rw[X.old j q lh]at la
    exact h.apart i j hi q ls g W la
 ·have lu:∀{α:Type} {l:List (Nat×α)},(iX D l).map (·.1)=(l.map (·.1)).filter fun k=>!(gM k D):=by
   intro α l
   induction l with
   |nil=>rfl
   |cons p r lv=>
    unfold iX at lv⊢
    cases o:gM p.1 D<;>simp[o,lv]
  show((R++(iX D st.ad).map fun p=>(p.1,p.2.map f)).map (·.1)++(U++iX D st.rw).map (·.1)).Nodup
  have ae:(R++(iX D st.ad).map fun p=>(p.1,p.2.map f)).map (·.1)=R.map (·.1)++(st.ad.map (·.1)).filter fun k=>!(gM k D):=by
   rw[<-lu];simp[List.map_map,Function.comp_def]
  have le:(U++iX D st.rw).map (·.1)=U.map (·.1)++(st.rw.map (·.1)).filter fun k=>!(gM k D):=by rw[<-lu];simp
  rw[ae,le]
  have lf:(st.ad.map (·.1)).filter (fun k=>!(gM k D))++(st.rw.map (·.1)).filter (fun k=>!(gM k D))=st.ids.filter fun k=>!(gM k D):=by simp[af.ids]
  have lH:List.Perm (R.map (·.1)++(st.ad.map (·.1)).filter (fun k=>!(gM k D))++(U.map (·.1)++(st.rw.map (·.1)).filter fun k=>!(gM k D)))
    ((R.map (·.1)++U.map (·.1))++st.ids.filter fun k=>!(gM k D)):=by
   rw[<-lf]
   simp only[List.append_assoc]
   refine List.Perm.append_left _ ?_
   rw[<-List.append_assoc,<-List.append_assoc]
   exact List.Perm.append_right _ List.perm_append_comm
  rw[lH.nodup_iff,List.nodup_append]
  refine⟨X.keys,h.keys.filter _,fun a lI b o e=>?_⟩
  subst e
  obtain⟨lb,lw⟩:=List.mem_filter.1 o
  have:=X.nj a (List.mem_append.1 lI) lb
  rw[uB.2 this]at lw
  cases lw
 ·intro b c o lx ln
  rcases List.mem_append.1 o with o|o
  ·have:=X.nu b c o lx;omega
  ·obtain⟨⟨j,s⟩,O,lc⟩:=List.mem_map.1 o
   cases lc
   obtain⟨O,Z⟩:=rP.1 O
   rw[X.old j (fR O) Z]
   exact h.fixed j s O (mR.symm.trans lx) ln
 ·intro r c Y ln lg
  rcases List.mem_append.1 Y with Y|Y
  ·have:=X.gd r c Y;omega
  ·obtain⟨O,Z⟩:=rP.1 Y
   rw[X.old r (lk O) Z]
   exact h.kept r c O ln lg
/-! One element of such a slice. -/
theorem an.dL(h:an cx m st T w){D:List Nat}{o:List (Nat×bQ)}{q:List (Nat×cG)}{f:ao->ao}(X:iy cx m aI st w w' D o q)
  (O:∀M v s,aT w' M m v s->aT w' M aI v (f s))
  (R:∀b c,(b,c)∈o->∃g,iK (aI b) g c/\ii w' (av cx aI (st.dL D o q f).ids) aI (aI b) g c)
  (U:∀r c,(r,c)∈q->∃cells,w'.ownsRow 0 c.e c.t.cells (aI r) c.xs.length cells/\bL (aJ w' (av cx aI (st.dL D o q f).ids) c.t) cells c.xs):an cx aI (st.dL D o q f) T w':=
 h.BQ X (O _) R U
theorem EC{M:Nat->Prop}{k:ee}{h:Option Int}:∀{xs:List k.u.el} {n:Nat} {cs us:List Value},fF w M k h n xs cs us->us.length=xs.length/\cs.length=xs.length*k.u.cells
 |[],_,_,_,⟨o,q⟩=>by rw[o,q];exact⟨rfl,by simp⟩
 |x::xs,n,cs,us,⟨c,d,v,vs,ae,O,R,_,U⟩=>by
  obtain⟨a,b⟩:=EC U
  rw[ae,R]
  refine⟨by simp[a],?_⟩
  rw[List.length_append,O,b,List.length_cons,Nat.succ_mul,Nat.add_comm]
theorem LD{M:Nat->Prop}{k:ee}{h:Option Int}:∀{xs:List k.u.el} {n i:Nat} {x:k.u.el} {cs us:List Value},fF w M k h n xs cs us->xs[i]? =some x->
  ∃c1 c c2 o v q,cs=c1++c++c2/\c1.length=i*k.u.cells/\c.length=k.u.cells/\us=o++v::q/\o.length=i/\mU w M k (iV h (n+i)) c v x/\
   ∀{w':World} {M':Nat->Prop} {h':Option Int} {x':k.u.el} {c':List Value} {v':Value},(∀b,b<w.heap.size->¬M b->w'.heap[b]? =w.heap[b]?)->(∀b,b<w.heap.size->M' b->M b)->(∀j,j≠n+i->(iV h j↔iV h' j))->
    (∀u,u∈o\/u∈q->∀b,aY u=some b->w'.heap[b]? =w.heap[b]?)->c'.length=k.u.cells->mU w' M' k (iV h' (n+i)) c' v' x'->fF w' M' k h' n (xs.set i x') (c1++c'++c2) (o++v'::q)
 |[],_,_,_,_,_,_,O=>by simp at O
 |y::xs,n,0,x,cs,us,⟨c,d,v,vs,ae,R,Z,e4,la⟩,O=>by
  simp at O
  subst O
  subst ae
  subst Z
  refine⟨[],c,d,[],v,vs,rfl,by simp,R,rfl,rfl,e4,fun{w' M' h' x' c' v'} U W X Y lb lc=>?_⟩
  exact⟨c',d,v',vs,by simp,lb,rfl,lc,r8 U W (fun m lj=>X m (by omega)) (fun u ld=>Y u (.inr ld)) la⟩
 |y::xs,n,i+1,x,cs,us,⟨c,d,v,vs,ae,R,Z,e4,la⟩,O=>by
  subst ae
  subst Z
  obtain⟨c1,lg,c2,o,v0,q,lh,a2,a3,a4,a5,le,lf⟩:=LD (i:=i) la (by simpa using O)
  subst lh
  subst a4
  have li:n+1+i=n+(i+1):=by omega
  rw[li]at le lf
  refine⟨c++c1,lg,c2,v::o,v0,q,by simp,by rw[List.length_append,R,a2,Nat.succ_mul,Nat.add_comm],a3,by simp,by simp[a5],le,fun{w' M' h' x' c' v'} U W X Y lb lc=>?_⟩
  refine⟨c,c1++c'++c2,v,o++v'::q,by simp,R,by simp,AQ U W (X n (by omega)) (Y v (.inl List.mem_cons_self)) e4,?_⟩
  exact lf U W X (fun u ld=>Y u (ld.elim (fun h=>.inl (List.mem_cons_of_mem _ h)) .inr)) lb lc
theorem an.bu(h:an cx m st T w){b e:Nat}{k:ee}{xs:List k.u.el}{o:Option Int}(q:look st.ad b=some (.bu e k xs o)):
  ∃ai us cells,m b=.tuple (ai::us).toArray/\w.ownsRow 0 e k.u.cells ai xs.length cells/\fF w (av cx m st.ids) k o 0 xs cells us/\((ai::us).filterMap aY).Nodup:=by
 obtain⟨g,_,_,ai,us,cells,O,R,U,W⟩:=h.boxes b _ (bc q)
 exact⟨ai,us,cells,O,R,U,W⟩
theorem TE{r:Value}{us:List Value}{g:Nat}:own (.tuple (r::us).toArray) g↔g∈(r::us).filterMap aY:=by
 rw[dr,List.mem_filterMap]
 constructor
 ·rintro(h|⟨u,hu,h⟩)
  ·exact⟨r,List.mem_cons_self,h⟩
  ·exact⟨u,List.mem_cons_of_mem _ hu,h⟩
 ·rintro⟨u,hu,h⟩
  rcases List.mem_cons.1 hu with rfl|hu
  ·exact .inl h
  ·exact .inr ⟨u,hu,h⟩
theorem vN{e o n:Nat}{v:Value}{cells:List Value}(h:w.ownsRow 0 e o v n cells)(Y:0<n):∃g cap cur,v=.slice (some ⟨g,0,none⟩) n cap/\w.heap[g]? =some (.cells cur e (0,0))/\n<=cap/\cap<=maxLen/\cur.size=cap*o/\cur.toList.take (n*o)=cells:=by
 rcases h.2 with ⟨_,Z⟩|⟨g,cap,cur,q,_,O,R,U,W,X⟩
 ·omega
 ·exact⟨g,cap,cur,q,O,R,U,W,X⟩
def ao.dK(o:List Nat)(s:ao):ao:=bif o.any (fun r=>s.refs r)then .any else s
theorem Vf{D:List Nat}{s:ao}(h:D.any (fun r=>s.refs r)=false){b:Nat}(o:s.refs b=true):b∉D:=by
 intro ai
 have:=List.any_eq_false.1 h b ai
 exact this o
theorem sp{M:Nat->Prop}{m2:Nat->Value}:∀{vs:List Value} {l:List bV},(∀b,l.any (bV.is b)=true->m2 b=m b)->de w M m vs l->de w M m2 vs l
 |[],[],_,_=>trivial
 |[],_::_,_,h=>h.elim
 |_::_,[],_,h=>h.elim
 |_::_,.v _::_,o,⟨O,R⟩=>⟨O,sp (fun b q=>o b (by rw[List.any_cons,q,Bool.or_true])) R⟩
 |_::vs,.a::us,o,h=>sp (vs:=vs) (l:=us) (fun b q=>o b (by rw[List.any_cons,q,Bool.or_true])) h
 |_::_,.r c::_,o,⟨O,R⟩=>⟨by rw[o c (by rw[List.any_cons];show(Nat.beq c c||_)=true;rw[Nat.beq_refl,Bool.true_or])];exact O,sp (fun b q=>o b (by rw[List.any_cons,q,Bool.or_true])) R⟩
theorem nZ{M:Nat->Prop}{m2:Nat->Value}{D:List Nat}(X:∀b,b∉D->m2 b=m b){v:Value}{s:ao}(h:aT w M m v s):aT w M m2 v (s.dK D):=by
 unfold ao.dK
 cases ai:D.any (fun r=>s.refs r)with
 |true=>trivial
 |false=>
  have key:∀b,s.refs b=true->m2 b=m b:=fun b O=>X b (Vf ai O)
  show aT w M m2 v s
  cases s with
  |any=>trivial
  |undef=>exact h
  |val t x=>exact h
  |dI l=>exact h
  |vptr t x=>exact h
  |ptr b off=>obtain⟨g,o,q⟩:=h;exact⟨g,by rw[key b (Nat.beq_refl b)];exact o,q⟩
  |fp b=>show _\/v=m2 b;rw[key b (Nat.beq_refl b)];exact h
  |row b=>show v=m2 b;rw[key b (Nat.beq_refl b)];exact h
  |dU b i off W=>obtain⟨g,n,cap,o,q⟩:=h;exact⟨g,n,cap,by rw[key b (Nat.beq_refl b)];exact o,q⟩
  |iter b=>show v=m2 b;rw[key b (Nat.beq_refl b)];exact h
  |dW b p=>obtain⟨g,o,q⟩:=h;exact⟨g,by rw[key b (Nat.beq_refl b)];exact o,q⟩
  |osl b=>obtain⟨us,o⟩:=h;exact⟨us,by rw[key b (Nat.beq_refl b)];exact o⟩
  |fT b i=>obtain⟨g,n,cap,us,o,q⟩:=h;exact⟨g,n,cap,us,by rw[key b (Nat.beq_refl b)];exact o,q⟩
  |sub b i=>obtain⟨R,us,o,q⟩:=h;exact⟨R,us,by rw[key b (Nat.beq_refl b)];exact o,q⟩
  |clos f bs=>
   have e:bs.map m2=bs.map m:=List.map_congr_left fun b O=>key b (List.any_eq_true.2 ⟨b,O,Nat.beq_refl b⟩)
   show v=_
   rw[e]
   exact h
  |gu l=>obtain⟨vs,e,U⟩:=h;exact⟨vs,e,sp key U⟩
  |eZ l=>obtain⟨vs,e,U⟩:=h;exact⟨vs,e,sp key U⟩
  |ai n=>exact h
  |ca f b=>show v=_;rw[key b (Nat.beq_refl b)];exact h
  |dT b i off W=>obtain⟨g,n,cap,us,o,q⟩:=h;exact⟨g,n,cap,us,by rw[key b (Nat.beq_refl b)];exact o,q⟩
  |fq b i j off W=>obtain⟨R,us,g,n,cap,o,q⟩:=h;exact⟨R,us,g,n,cap,by rw[key b (Nat.beq_refl b)];exact o,q⟩
end Go.Ev
