/- Literals, made slices, function values, appending: right. -/
import Derived.Test.YteopobecmacgdaaGreatDoorMM2
import Derived.Deep.Quiet
set_option linter.unusedSectionVars false
set_option linter.unusedVariables false
set_option linter.unusedSimpArgs false
namespace Go.Ev
open Go Go.RowKit
variable [b8]
variable {cx:bB} {m:Nat->Value} {st:af} {T:Array Value} {w w':World}
variable [ai cx]
theorem zB(h:an cx m st T w){u:ag}:∀(parts:List (Nat×Operand)) (k:Nat) (xs:List u.el) (pre old:List Value),mV st u k parts=some xs->pre.length=k*u.cells->old.length=xs.length*u.cells->
  ∃cells,Instr.fill (fun i=>some (i*u.cells,u.cells)) (pre++old).toArray (parts.map fun p=>(p.1,Act.eval ⟨T,ai.D cx⟩ p.2))=some (pre++cells).toArray/\bM (aH w (ar cx m st.ids) u) cells xs
 |[],k,xs,pre,old,o,_,L=>by
  cases o
  have:old=[]:=List.eq_nil_of_length_eq_zero (by simpa using L)
  subst this
  exact⟨[],rfl,rfl⟩
 |(i,aa)::r,k,xs,pre,old,o,O,L=>by
  unfold mV at o
  split at o
  ·rename_i v lb lc
   split at o
   ·rename_i x R ld le
    cases o
    have lf:=Nat.eq_of_beq_eq_true lb
    subst lf
    have W:=jd (cW h lc)
    have e:=ak.dd ld
    subst e
    have U:=cf u W
    have lg:(Act.eval ⟨T,ai.D cx⟩ aa).cells.size=u.cells:=by rw[<-U];simp
    have Y:old.length=(R.length+1)*u.cells:=L
    obtain⟨q,aZ,rfl,Z⟩:∃q aZ,old=q++aZ/\q.length=u.cells:=⟨old.take u.cells,old.drop u.cells,(List.take_append_drop _ _).symm,by rw[List.length_take,Y,Nat.succ_mul];omega⟩
    have lh:aZ.length=R.length*u.cells:=by
     rw[List.length_append,Nat.succ_mul]at Y
     omega
    obtain⟨cells,li,lj⟩:=zB h r (i+1) R (pre++(Act.eval ⟨T,ai.D cx⟩ aa).cells.toList) aZ le (by rw[List.length_append,O,U,Nat.succ_mul]) lh
    refine⟨(Act.eval ⟨T,ai.D cx⟩ aa).cells.toList++cells,?_,(Act.eval ⟨T,ai.D cx⟩ aa).cells.toList,cells,rfl,W,lj⟩
    rw[List.map_cons,Instr.fill]
    have lk:¬(((Act.eval ⟨T,ai.D cx⟩ aa).cells.size≠u.cells||decide (i*u.cells+(Act.eval ⟨T,ai.D cx⟩ aa).cells.size>(pre++(q++aZ)).toArray.size))=true):=by
     simp only[lg,List.size_toArray,List.length_append,O,Z]
     simp
    simp only[]
    rw[if_neg lk]
    have la:=uX (Act.eval ⟨T,ai.D cx⟩ aa).cells.toList pre aZ q (by rw[Z,U])
    rw[O,Array.toArray_toList]at la
    rw[<-List.append_assoc,la,li]
    simp
   ·cases o
  ·cases o
theorem PO(h:an cx m st T w){aa:Oper}{d:Nat}(ah:d<cx.n){t e:TypeId}{u la:ag}{n:Nat}{parts:Array (Nat×Operand)}{xs:List u.el}(lb:aa.op=.buildSlice t n parts)(lc:dO cx.P t=some (e,u))
  (ld:mV st u 0 parts.toList=some xs)(L:xs.length=n)(ln:n*u.cells<=16777216)(le:zeroOf cx.P e=some la){orc:List ak}:
  eA cx T w aa ⟨.row d,st.dn d ⟨e,u,xs⟩,orc,[]⟩:=by
 obtain⟨lf,O,lg⟩:=iM lc
 obtain⟨i,z,_,R,lo,lh,_⟩:=iV le
 have lp:i.size=u.cells:=by
  obtain⟨i2,U,li,_⟩:=da O
  rw[R]at U
  cases U
  exact li
 obtain⟨cells,W,Y⟩:=zB h parts.toList 0 xs [] ((Array.range (n*u.cells)).map ((if n*u.cells=0 then#[]else z.cells)[· %(if n*u.cells=0 then#[]else z.cells).size]!)).toList ld (by simp) (by simp[L])
 have Z:=iq (fun _ _=>cf u) _ _ Y
 have lj:xs.length<=maxLen:=by
  have:xs.length<=xs.length*u.cells:=Nat.le_mul_of_pos_right _ lg
  have lq:(16777216:Nat)<=maxLen:=by decide
  rw[L]at this⊢
  omega
 have lk:=tR h d (.inl ah) (cur:=cells.toArray) (cells:=cells) (e:=e) (cap:=xs.length) (w.alloc (.cells cells.toArray e)) (hY _ _) (heap_alloc_new w _) (Nat.le_refl _) lj (by simp[Z]) (by rw[<-Z];simp) Y
 refine⟨.slice (some ⟨w.heap.size,0,none⟩) n n,_,_,cn (s:=Instr.buildSlice t n (parts.map fun p=>(p.1,Act.eval ⟨T,ai.D cx⟩ p.2))) (by simp only[execOp,lb]) ?_,lk,by show _=bx _ _ _ _;rw[cd,L]⟩
 have ll:¬(n*u.cells>2^24):=by omega
 have o:Instr.fill (fun i=>some (i*u.cells,u.cells)) ((Array.range (n*u.cells)).map ((if n*u.cells=0 then#[]else z.cells)[· %(if n*u.cells=0 then#[]else z.cells).size]!)) (parts.map fun p=>(p.1,Act.eval ⟨T,ai.D cx⟩ p.2)).toList=some cells.toArray:=by
  rw[List.nil_append,List.nil_append,Array.toArray_toList]at W
  rw[Array.toList_map]
  exact W
 simp only[Instr.buildSlice,Sem.run_bind,run_underlying lf,Result.andThen_ok,eK O,if_neg ll]
 by_cases q:n*u.cells=0
 ·rw[if_pos q]
  rw[if_pos q]at o
  simp only[Sem.run_pure,Result.andThen_ok,o,Sem.run_bind,newRow,run_newObj_alloc]
 ·rw[if_neg q]
  rw[if_neg q]at o
  have lm:(zeroValue e).run cx.P w=.ok z w:=by simp[zeroValue,typeInfo,R,lh]
  simp only[Sem.run_bind,lm,Sem.run_pure,Result.andThen_ok,o,newRow,run_newObj_alloc]
theorem WX(h:an cx m st T w){aa:Oper}{t e:TypeId}{u:ag}{n:Nat}{parts:Array (Nat×Operand)}{xs:List u.el}{i:TypeInfo}{z:Value}(L:aa.op=.build t parts)(ld:ty cx.P t=some (.arr n u))(O:cx.P.info? t=some i)(R:i.zero=some z)
  (U:cx.P.underlying t=some (.array n e))(W:ty cx.P e=some u)(Y:mV st u 0 parts.toList=some xs)(o:xs.length=n)(Z:z.cells.size=n*u.cells){orc:List ak}:
  eA cx T w aa ⟨.val (.arr n u) xs,st,orc,[]⟩:=by
 obtain⟨cells,q,la⟩:=zB h parts.toList 0 xs [] z.cells.toList Y (by simp) (by simp[Z,o])
 rw[List.nil_append,List.nil_append,Array.toArray_toList]at q
 refine⟨.agg cells.toArray,w,m,cn (s:=Instr.build t (parts.map fun p=>(p.1,Act.eval ⟨T,ai.D cx⟩ p.2))) (by simp only[execOp,L]) ?_,h,(dS (t:=.arr n u) rfl).2 ⟨cells,rfl,o,la⟩⟩
 have lb:(zeroValue t).run cx.P w=.ok z w:=by simp[zeroValue,typeInfo,O,R]
 have lc:Instr.fill (fun i=>some (i*u.cells,u.cells)) z.cells (parts.map fun p=>(p.1,Act.eval ⟨T,ai.D cx⟩ p.2)).toList=some cells.toArray:=by rw[Array.toList_map];exact q
 simp only[Instr.build,Sem.run_bind,lb,Result.andThen_ok,run_underlying U,eK W,lc,Sem.run_pure]
theorem HX{z:Array Value}{o:Nat}(q:z.size=o)(n:Nat):(madeCells z ((n+1)*o)).toList=z.toList++(madeCells z (n*o)).toList:=by
 apply List.ext_getElem?
 intro j
 by_cases O:j<z.toList.length
 ·rw[List.getElem?_append_left O]
  have R:j<o:=by rw[<-q];simpa using O
  have L:j<(n+1)*o:=by rw[Nat.succ_mul];omega
  have U:j<z.size:=by rw[q];exact R
  simp only[madeCells,Array.toList_map,Array.toList_range,List.getElem?_map,List.getElem?_range L,Option.map_some,q,Nat.mod_eq_of_lt R]
  rw[getElem!_pos z j U]
  simp[U]
 ·rw[List.getElem?_append_right (by omega)]
  have W:z.toList.length=o:=by simpa using q
  rw[W]at O⊢
  by_cases L:j<(n+1)*o
  ·have Y:j-o<n*o:=by rw[Nat.succ_mul]at L;omega
   simp only[madeCells,Array.toList_map,Array.toList_range,List.getElem?_map,List.getElem?_range L,List.getElem?_range Y,Option.map_some,q]
   congr 2
   rw[<-Nat.add_mod_right (j-o) o]
   congr 1
   omega
  ·rw[List.getElem?_eq_none (by simp[madeCells];omega),List.getElem?_eq_none (by simp[madeCells];rw[Nat.succ_mul]at L;omega)]
theorem Hj{M:Nat->Prop}{u:ag}{z:Array Value}{x:u.el}(o:aH w M u z.toList x)(O:0<u.cells):∀(n:Nat),bM (aH w M u) (madeCells z (n*u.cells)).toList (List.replicate n x):=by
 have q:z.size=u.cells:=by rw[<-cf u o];simp
 intro n
 induction n with
 |zero=>show _=_;simp[madeCells]
 |succ n L=>
  have e:=HX q n
  rw[e,List.replicate_succ]
  exact⟨_,_,rfl,o,L⟩
theorem uY{P:Program}{e:TypeId}(h:mw P e=true):∃i,P.info? e=some i/\i.bytes<=65536:=by
 unfold mw at h
 split at h
 ·rename_i i o;exact⟨i,o,Nat.le_of_ble_eq_true h⟩
 ·cases h
theorem Xa(h:an cx m st T w){aa:Oper}{d:Nat}(ah:d<cx.n){t e:TypeId}{u:ag}{l c:Operand}{n k:Int}(W:aa.op=.makeSlice t l c)(Y:dO cx.P t=some (e,u))(Z:dV (aR st l)=some n)
  (la:dV (aR st c)=some k)(lb:mw cx.P e=true)(lc:zeroOf cx.P e=some u)(ld:0<=n/\n<=k/\k<=(br:Int)){orc:List ak}{ob:List Prop}:
  eA cx T w aa ⟨.row d,st.dn d ⟨e,u,List.replicate n.toNat (ca u)⟩,orc,ob⟩:=by
 obtain⟨le,lt,lf⟩:=iM Y
 obtain⟨i,z,_,q,L,lg,lh⟩:=iV lc
 obtain⟨i2,O,lu⟩:=uY lb
 rw[q]at O
 cases O
 obtain⟨R,li⟩:=fe h Z
 obtain⟨U,lj⟩:=fe h la
 obtain⟨lk,ll,lv⟩:=ld
 have lw:(br:Int)=2147483648:=rfl
 have lm:0<=k:=by omega
 have ln:(i.bytes:Int)*k<=281474976710656:=by
  have lo:(i.bytes:Int)<=65536:=by omega
  calc (i.bytes:Int)*k<=65536*k:=Int.mul_le_mul_of_nonneg_right lo lm
   _<=281474976710656:=by omega
 have lp:=run_make (P:=cx.P) w t e i z le q lg R U n k lk ll ln (by omega)
 have lq:=Hj (lh w (ar cx m st.ids)) lf n.toNat
 have o:(List.replicate n.toNat (ca u)).length=n.toNat:=List.length_replicate
 have lr:(madeCells z.cells (k.toNat*i.size)).toList.take ((List.replicate n.toNat (ca u)).length*u.cells)=(madeCells z.cells (n.toNat*u.cells)).toList:=by
  rw[o,L]
  simp only[madeCells,Array.toList_map,Array.toList_range,<-List.map_take]
  rw[List.take_range]
  congr 2
  have:n.toNat*u.cells<=k.toNat*u.cells:=Nat.mul_le_mul_right _ (by omega)
  omega
 have ls:=tR h d (.inl ah) (cur:=madeCells z.cells (k.toNat*i.size)) (e:=e) (cap:=k.toNat) (xs:=List.replicate n.toNat (ca u)) (w.alloc (.cells (madeCells z.cells (k.toNat*i.size)) e)) (hY _ _) (heap_alloc_new w _)
  (by rw[o];omega) (by simp only[maxLen];omega) (by rw[size_madeCells,L]) lr lq
 refine⟨_,_,_,cn (s:=Instr.makeSlice t (.int R n) (.int U k)) (by simp only[execOp,W,li,lj]) lp,ls,?_⟩
 show _=bx _ _ _ _
 rw[cd,o]
theorem Cl(h:an cx m st T w):∀{l:List Operand} {bs:List Nat},jY.nZ st l=some bs->l.map (Act.eval ⟨T,ai.D cx⟩)=bs.map m
 |[],_,o=>by cases o;rfl
 |x::r,bs,o=>by
  simp only[jY.nZ]at o
  split at o
  ·rename_i b U q L
   cases o
   obtain⟨g,O,R⟩:=be h q
   rw[List.map_cons,List.map_cons,Cl h L,R,O]
  ·cases o
theorem UM(h:an cx m st T w){aa:Oper}{f:Nat}{first eJ:Array Operand}{bs:List Nat}(o:aa.op=.makeFunc (.func f) first eJ)(q:first.toList=[])(L:jY.nZ st eJ.toList=some bs){orc:List ak}:
  eA cx T w aa ⟨.clos f bs,st,orc,[]⟩:=by
 refine⟨.func (.func f) #[] (bs.map m).toArray,w,m,cn (s:=Instr.makeFunc (.func f) (first.map (Act.eval ⟨T,ai.D cx⟩)) (eJ.map (Act.eval ⟨T,ai.D cx⟩))) (by simp only[execOp,o]) ?_,h,rfl⟩
 have O:first=#[]:=by rw[<-Array.toArray_toList (xs:=first),q]
 have R:eJ.map (Act.eval ⟨T,ai.D cx⟩)=(bs.map m).toArray:=by
  rw[<-Cl h L]
  apply Array.ext'
  simp
 rw[O,R,Array.map_empty]
 rfl
theorem ME(h:an cx m st T w){aa:Oper}{f b:Nat}{first eJ:Array Operand}{x:Operand}(o:aa.op=.makeFunc (.func f) first eJ)(q:first.toList=[x])(L:jY.nZ st eJ.toList=some [])(O:aR st x=some (.ptr b 0)){orc:List ak}:
  eA cx T w aa ⟨.b9 f b,st,orc,[]⟩:=by
 refine⟨.func (.func f) #[m b] #[],w,m,cn (s:=Instr.makeFunc (.func f) (first.map (Act.eval ⟨T,ai.D cx⟩)) (eJ.map (Act.eval ⟨T,ai.D cx⟩))) (by simp only[execOp,o]) ?_,h,rfl⟩
 have R:first=#[x]:=by rw[<-Array.toArray_toList (xs:=first),q]
 have U:eJ.map (Act.eval ⟨T,ai.D cx⟩)=#[]:=by
  have:=Cl h L
  apply Array.ext'
  rw[Array.toList_map,this]
  rfl
 obtain⟨g,g1,g2⟩:=be h O
 have W:#[x].map (Act.eval ⟨T,ai.D cx⟩)=#[m b]:=by
  rw[g1,<-g2]
  simp
 rw[R,U,W]
 rfl
theorem Hr{M:Nat->Prop}{t:ag}:∀{xs:List t.el} {cs:List Value} (n:Nat),bM (aH w M t) cs xs->bM (aH w M t) (cs.take ((xs.take n).length*t.cells)) (xs.take n)
 |[],cs,n,h=>by cases h;simp;rfl
 |x::xs,cs,0,h=>by simp;rfl
 |x::xs,cs,n+1,⟨o,c2,e,q,O⟩=>by
  have L:=cf t q
  rw[List.take_succ_cons,List.length_cons,Nat.succ_mul,Nat.add_comm,e,<-L,List.take_append,List.take_of_length_le (by omega)]
  rw[show o.length+(List.take n xs).length*o.length-o.length=(List.take n xs).length*t.cells by rw[<-L];omega]
  exact⟨o,_,rfl,q,Hr n O⟩
theorem Sq(h:an cx m st T w){aa:Oper}{t e:TypeId}{u:ag}{x U:Operand}{r:Nat}{c:cE}{n:Int}(W:aa.op=.slice t x none (some U) none)(lk:aR st x=some (.row r))(ll:dO cx.P t=some (e,u))
  (lm:dV (aR st U)=some n)(ln:look st.rw r=some c)(lD:c.e=e)(lE:c.t=u)(Y:r<ep)(lo:0<=n/\n<=(c.xs.length:Int)){orc:List ak}{ob:List Prop}:
  eA cx T w aa ⟨.row r,st.dn r ⟨c.e,c.t,c.xs.take n.toNat⟩,orc,ob⟩:=by
 obtain⟨Z,la,lF⟩:=iM ll
 obtain⟨k,lb⟩:=fe h lm
 have lc:Act.eval ⟨T,ai.D cx⟩ x=m r:=be h lk
 have ld:=a8 ln
 obtain⟨cells,le,lp,lq⟩:=h.rows r c ld
 have lr:r∈st.ids:=List.mem_append.2 (.inr (List.mem_map.2 ⟨_,ld,rfl⟩))
 have lf:(c.xs.take n.toNat).length=n.toNat:=by rw[List.length_take];omega
 have ls:∀v L,Instr.sliceAt t v none (some L) none=(do match<-underlying t with
  |.array n lt=>
   let lg<-Instr.sureAddr v
   let(l,h,m)<-Instr.sliceBounds false n n none (some L) none
   let size<-sizeOf lt
   pure (.slice (some (if m=l then lg else lg.add (l*size))) (h-l) (m-l))
  |_=>Instr.slice t v none (some L) none):=fun _ _=>rfl
 have lu:∀(y:Nat) (lh:BoundsCode) (w:World),n<=y->(Instr.sliceBound (.int k n) y lh).run cx.P w=.ok n.toNat w:=by
  intro y lh w lv
  simp[Instr.sliceBound,asIntOf,lo.1,lv]
 have run:∀(a:Option Addr) (q cap:Nat) (w':World),q<=cap->(q:Int)=c.xs.length->(Instr.sliceAt t (.slice a q cap) none (some (.int k n)) none).run cx.P w'=.ok (.slice (if cap=0 then a else a.map (·.add (0*u.cells))) n.toNat cap) w':=by
  intro a q cap w' li lG
  rw[ls,Sem.run_bind,run_underlying Z]
  simp only[Result.andThen_ok,Instr.slice,Sem.run_bind,run_underlying Z,Instr.sliceBounds,Sem.run_pure,eK la]
  rw[lu cap _ w' (by omega)]
  simp only[Result.andThen_ok,Sem.run_pure,Sem.run_bind,eK la]
  simp
 rcases le.2 with ⟨o,lH⟩|⟨g,cap,cur,o,lw,lx,li,ly,lz,lA⟩
 ·have lj:n=0:=by omega
  have lB:c.xs.take n.toNat=[]:=by rw[lj];rfl
  refine⟨.slice none 0 0,w,bx m r (.slice none 0 0),cn (s:=Instr.sliceAt t (.slice none 0 0) none (some (.int k n)) none) (by simp only[execOp,W,lc,o,Option.map_none,Option.map_some,lb]) ?_,?_,(cd _ _ _).symm⟩
  ·rw[run none 0 0 w (Nat.le_refl _) (by omega),lj]
   rfl
  ·rw[lB]
   exact vk h r c.e (.inr Y) c.t
 ·have O:dk cx m st w r (.slice (some ⟨g,0,none⟩) n.toNat cap) w:=
   ⟨⟨rfl,rfl,rfl,Nat.le_refl _,fun _=>Nat.le_refl _⟩,fun _ _ _=>rfl,fun lC R=>.inl ⟨lr,by cases R;rw[o];rfl⟩⟩
  refine⟨.slice (some ⟨g,0,none⟩) n.toNat cap,w,_,cn (s:=Instr.sliceAt t (.slice (some ⟨g,0,none⟩) c.xs.length cap) none (some (.int k n)) none) (by simp only[execOp,W,lc,o,Option.map_none,Option.map_some,lb]) ?_,
   h.dn (.inr Y) O (fun lC R=>by cases R;exact lp g (by rw[o];rfl)) (cells:=cells.take ((c.xs.take n.toNat).length*c.t.cells)) ⟨by rw[List.length_take,le.1,Nat.min_eq_left];exact Nat.mul_le_mul_right _ (by rw[List.length_take];omega),.inr ⟨g,cap,cur,by simp only[lf],lw,lx,by simp only[lf];omega,ly,lz,?_⟩⟩
    (di (fun _ _=>cC O.keeps (O.mut sx) c.t) (Hr n.toNat lq)),(cd _ _ _).symm⟩
  ·rw[run (some ⟨g,0,none⟩) c.xs.length cap w li rfl]
   congr 2
   split
   ·rfl
   ·simp[Addr.add]
  ·simp only[]
   rw[<-lA,List.take_take,Nat.min_eq_left]
   exact Nat.mul_le_mul_right _ (by rw[List.length_take];omega)
end Go.Ev
namespace Go.Ev
open Go Go.RowKit
variable [b8]
variable {cx:bB} {m:Nat->Value} {st:af} {T:Array Value} {w w':World}
variable [ai cx]
theorem T8{M:Nat->Prop}(s:List UInt8):bM (aH w M (.int .u8)) ((eH s).map (Value.int .u8)) (eH s):=by
 unfold eH
 induction s with
 |nil=>rfl
 |cons b s o=>exact⟨[_],_,rfl,rfl,o⟩
theorem zi{P:Program}{a:Addr}{news:List Value}(h:∀j u,news[j]? =some u->w.cell? (a.add j)=some u){n size:Nat}(q:news.length=n*size):
  ∀w',(∀b,b<w.heap.size->w'.heap[b]? =w.heap[b]?)->(loadCells a (n*size)).run P w'=.ok news.toArray w':=by
 intro w' L
 rw[<-q]
 refine xB (w:=w') fun j u O=>?_
 have o:=h j u O
 rw[World.cell?_of_block (w:=w) (L _ (World.block_lt_of_cell? w _ o))]
 exact o
theorem Gb{P:Program}(s:List UInt8):Builtin.lenOf (.string (bytesOf s))=pure (eH s).length/\
  ∀w,(Builtin.firstCells (ag.int .u8).cells (eH s).length (.string (bytesOf s))).run P w=.ok ((eH s).map (Value.int .u8)).toArray w:=by
 constructor
 ·show pure (bytesOf s).size=_
  rw[gY]
  simp[eH]
 ·intro w
  show Sem.run P (pure (((bytesOf s).extract 0 (eH s).length).data.map fun b=>Value.int .u8 b.toNat)) w=_
  rw[Sem.run_pure]
  congr 1
  apply Array.ext'
  rw[Array.toList_map,Lib.extract_data]
  simp[bytesOf,eH]
theorem HE(h:an cx m st T w){u:ag}{t:TypeId}{x:Operand}{U:List u.el}(o:kJ cx.P st u t x=some U):
  ((∃q,cx.P.underlying t=some (.slice q))\/cx.P.underlying t=some .string)/\
  ∃le:List Value,Builtin.lenOf (Act.eval ⟨T,ai.D cx⟩ x)=pure U.length/\
   (∀w',(∀b,b<w.heap.size->w'.heap[b]? =w.heap[b]?)->(Builtin.firstCells u.cells U.length (Act.eval ⟨T,ai.D cx⟩ x)).run cx.P w'=.ok le.toArray w')/\bM (aH w (ar cx m st.ids) u) le U:=by
 unfold kJ at o
 split at o
 ·rename_i r Z
  split at o
  case h_2=>cases o
  rename_i q L
  refine⟨.inl ⟨q,L⟩,?_⟩
  split at o
  ·rename_i c O
   have lf:=a8 O
   obtain⟨lq,pa,lg⟩:=c
   have e:=ak.dd o
   cases e
   obtain⟨cells,la,_,W⟩:=h.rows r _ lf
   have R:Act.eval ⟨T,ai.D cx⟩ x=m r:=be h Z
   rcases la.2 with ⟨Y,lh⟩|⟨g,cap,cur,Y,_⟩
   ·have lb:lg=[]:=List.eq_nil_of_length_eq_zero lh
    subst lb
    cases W
    exact⟨[],by rw[R,Y];rfl,fun w' _=>by rw[R,Y];rfl,rfl⟩
   ·refine⟨cells,by rw[R,Y];rfl,fun w' lc=>?_,W⟩
    rw[R,Y]
    exact zi (la.cells (g:=g) (by rw[Y];rfl)) la.1 w' lc
  ·cases o
 ·rename_i lr xs Z
  have li:∃q,cx.P.underlying t=some (.slice q):=by
   cases ah:cx.P.underlying t with
   |none=>rw[ah]at o;exact absurd o (by simp)
   |some ld=>
    rw[ah]at o
    cases ld<;>first|exact⟨_,rfl⟩|exact absurd o (by simp)
  obtain⟨q,L⟩:=li
  rw[L]at o
  refine⟨.inl ⟨q,L⟩,?_⟩
  have e:=ak.dd o
  cases e
  obtain⟨a,cap,cells,O,lj,_,lk,W,ll⟩:=(bD (t:=.ab u) rfl).1 (be h Z)
  simp only[List.cons.injEq,and_true]at O
  have lm:=iq (fun _ _=>cf u) _ _ W
  cases a with
  |none=>
   have ls:cap=0:=lk rfl
   have lb:U=[]:=List.eq_nil_of_length_eq_zero (by have:List.length U<=cap:=lj;omega)
   subst lb
   cases W
   exact⟨[],by rw[O];rfl,fun w' _=>by rw[O];rfl,rfl⟩
  |some b=>
   refine⟨cells,by rw[O];rfl,fun w' lc=>?_,W⟩
   rw[O]
   refine zi (fun j v ln=>?_) lm w' lc
   obtain⟨lt,lo,lp,_⟩:=ll j v ln
   cases lo
   exact lp
 ·rename_i s Z
  have L:cx.P.underlying t=some .string:=by
   cases ah:cx.P.underlying t with
   |none=>rw[ah]at o;exact absurd o (by simp)
   |some ld=>
    rw[ah]at o
    cases ld<;>first|rfl|exact absurd o (by simp)
  rw[L]at o
  refine⟨.inr L,?_⟩
  have e:=ak.dd o
  cases e
  obtain⟨R,_⟩:=eG.1 (be h Z)
  exact⟨(eH s).map (Value.int .u8),by rw[R];exact(Gb (P:=cx.P) s).1,fun w' _=>by rw[R];exact(Gb (P:=cx.P) s).2 w',T8 s⟩
 ·cases o
theorem RF(h:an cx m st T w){aa:Oper}{d:Nat}{args:Array Operand}{la:Array TypeId}{s x:Operand}{t lb e r:Nat}{u:ag}{c:cE}{q:List c.t.el}
  (lr:aa.op=.call {callee:=.builtin .append,args:=args,argTypes:=la})(ls:args.toList=[s,x])(lt:la.toList=[t,lb])(lu:dO cx.P t=some (e,u))(L:rG cx.P st d t s=some (r,c))
  (lj:c.e=e)(lv:c.t=u)(lw:mw cx.P e=true)(lx:zeroOf cx.P e=some u)(ly:kJ cx.P st c.t lb x=some q)(lz:r<ep)(lk:c.xs.length+q.length<=br){orc:List ak}{ob:List Prop}:
  eA cx T w aa ⟨.row r,st.dn r ⟨c.e,c.t,c.xs++q⟩,orc,ob⟩:=by
 obtain⟨lA,l5,l6⟩:=iM lu
 obtain⟨i,z,_,ll,lm,lB,lC⟩:=iV lx
 obtain⟨i2,ln,lD⟩:=uY lw
 rw[ll]at ln
 cases ln
 obtain⟨lE,W,lF,lG,lf⟩:=HE h ly
 -- the base
 obtain⟨v,O,cells,lH,lI,lJ,lo⟩:∃v,Act.eval ⟨T,ai.D cx⟩ s=v/\∃cells,w.ownsRow 0 c.e c.t.cells v c.xs.length cells/\(∀g,own v g->cx.w0.heap.size<=g\/cx.X g)/\
   bM (aH w (ar cx m st.ids) c.t) cells c.xs/\∀g,own v g->r∈st.ids/\own (m r) g:=by
  unfold rG at L
  split at L
  ·rename_i l7
   split at L
   ·rename_i l8 l9 ab
    cases L
    refine⟨.slice none 0 0,rfl,[],World.ownsRow_nil w 0 _ _,?_,rfl,?_⟩
    ·intro g R;cases R
    ·intro g R;cases R
   ·cases L
  ·split at L
   ·rename_i ad lK
    split at L
    ·rename_i c' lL
     cases L
     have lp:=a8 lL
     obtain⟨cells,o,U,lM⟩:=h.rows r c lp
     exact⟨m r,be h lK,cells,o,U,lM,fun g R=>⟨List.mem_append.2 (.inr (List.mem_map.2 ⟨_,lp,rfl⟩)),R⟩⟩
    ·cases L
   ·cases L
 have lc:i.size=c.t.cells:=by rw[lv];exact lm
 have lN:z.cells.size=i.size:=by
  rw[lm,<-cf u (lC w (ar cx m st.ids))]
  simp
 have lO:W.length=q.length*i.size:=by rw[lc];exact iq (fun _ _=>cf c.t) _ _ lf
 have lP:∀v∈W,v.oneCell'=true:=by
  have key:∀(ld:List Value) (xs:List c.t.el),bM (aH w (ar cx m st.ids) c.t) ld xs->∀v∈ld,v.oneCell'=true:=by
   intro ld xs
   induction xs generalizing ld with
   |nil=>intro lQ v O;cases lQ;simp at O
   |cons y q lg=>
    rintro⟨Y,c2,rfl,o,U⟩ v O
    rcases List.mem_append.1 O with O|O
    ·exact gy c.t o v O
    ·exact lg _ U v O
  exact key W q lf
 have lR:c.xs.length+q.length<=maxLen:=Nat.le_trans lk qc
 have lS:(c.xs.length+q.length)*i.bytes<=140737488355328:=by
  have o:c.xs.length+q.length<=2147483648:=lk
  calc (c.xs.length+q.length)*i.bytes<=2147483648*65536:=Nat.mul_le_mul o lD
   _=140737488355328:=by decide
 obtain⟨v',w',lT,lh,lU,lV,lq⟩:=Lr (P:=cx.P) (w:=w) t lb aa.type e i z lA lE ll lB lN (Act.eval ⟨T,ai.D cx⟩ x) q.length W lF
  (by rw[lc];exact lG) lO lP v c.xs.length cells (by rw[lc,<-lj];exact lH) lR lS
 have Z:dk cx m st w r v' w':=⟨lU,fun b lW lX=>lV b lW fun lY=>lX (lo b (gi lY)),fun g R=>by
  rcases lq g (Bi lh R)with o|o
  ·exact .inl (lo g (gi o))
  ·exact .inr o⟩
 have lZ:an cx (bx m r v') (st.dn r ⟨c.e,c.t,c.xs++q⟩) T w':=by
  refine h.dn (.inr lz) Z (fun g R=>?_) (cells:=cells++W) ?_ ?_
  ·rcases lq g (Bi lh R)with o|o
   ·exact lI g (gi o)
   ·exact .inl (Nat.le_trans (oJ h) o.1)
  ·simp only[List.length_append]
   rw[<-lc,lj]
   exact lh
  ·simp only[]
   have l0:∀(Y c2:List Value) (le li:List c.t.el) (f:List Value->c.t.el->Prop),bM f Y le->bM f c2 li->bM f (Y++c2) (le++li):=by
    intro Y c2 le li f
    induction le generalizing Y with
    |nil=>intro o U;cases o;exact U
    |cons y q lg=>rintro⟨d1,d2,rfl,g1,g2⟩ U;exact⟨d1,d2++c2,by simp,g1,lg _ g2 U⟩
   exact l0 _ _ _ _ _ (di (fun _ _=>cC Z.keeps (Z.mut sx) c.t) lJ) (di (fun _ _=>cC Z.keeps (Z.mut sx) c.t) lf)
 have l3:args=#[s,x]:=by rw[<-Array.toArray_toList (xs:=args),ls]
 have l4:la=#[t,lb]:=by rw[<-Array.toArray_toList (xs:=la),lt]
 subst l3
 subst l4
 refine⟨v',w',_,?_,lZ,(cd _ _ _).symm⟩
 simp only[execOp,lr,resolve,invoke,builtin,Sem.run_bind,Sem.run_pure,Result.andThen_ok,List.map_toArray,List.map_cons,List.map_nil,O,lT]
theorem QY(h:an cx m st T w){aa:Oper}{d:Nat}(O:d<cx.n){src o e:TypeId}{x:Operand}{s:List UInt8}(R:aa.op=.convert src o x)(U:dm st x=some ⟨.str,s⟩)(W:cx.P.underlying src=some .string)(ah:dO cx.P o=some (e,.int .i32))
  {orc:List ak}{ob:List Prop}(Y:s.length<=br):eA cx T w aa ⟨.row d,st.dn d ⟨e,.int .i32,eB s⟩,orc,ob⟩:=by
 obtain⟨Z,_⟩:=eG.1 (cW h U)
 obtain⟨la,lb,_⟩:=iM ah
 have lc:cx.P.underlying e=some (.int .i32):=by
  obtain⟨i,_,_,ld⟩:=da lb
  exact ld
 have L:Conv.runesFrom (bytesOf s) (bytesOf s).size 0 #[]=((eB s).map (Value.int .i32)).toArray:=by
  rw[FP,gY]
  simp[eB]
 have le:(eB s).length<=s.length:=IQ s s.length 0
 have lk:br<=70368744177664:=by decide
 have lf:(eB s).length<=maxLen:=Nat.le_trans le (Nat.le_trans Y qc)
 have q:=run_runes_of_string (P:=cx.P) w src o e (bytesOf s) W la lc (by rw[L];simp only[List.size_toArray,List.length_map];omega)
 rw[L]at q
 simp only[List.size_toArray,List.length_map]at q
 have lg:=grownCap_ge w (eB s).length 0 e
 have lh:=grownCap_le_maxLen w (eB s).length 0 e lf
 refine⟨_,_,_,cn (s:=convert src o (.string (bytesOf s))) (by simp only[execOp,R,Z];rfl) q,
  tR h d (.inl O) (xs:=eB s) (cells:=(eB s).map (Value.int .i32)) (u:=.int .i32) (e:=e) _ {os:=rfl,tape:=rfl,output:=rfl,size:=by simp,drawn:=by first|exact fun _=>Nat.le_refl _|exact fun _=>Nat.le_succ _,block:=fun b li=>Below.heap_alloc w.drew _ b li} (heap_alloc_new w.drew _) lg lh ?_ ?_ ?_,(cd _ _ _).symm⟩
 ·simp only[Array.size_append,List.size_toArray,List.length_map,Array.size_replicate,ag.cells]
  omega
 ·simp only[Array.toList_append,ag.cells,Nat.mul_one]
  rw[List.take_append_of_le_length (by rw[List.length_map];exact Nat.le_refl _)]
  rw[List.take_of_length_le (by rw[List.length_map];exact Nat.le_refl _)]
 ·have:∀(l:List Int),bM (aH w (ar cx m st.ids) (.int .i32)) (l.map (Value.int .i32)) l:=by
   intro l
   induction l with
   |nil=>rfl
   |cons b s lj=>exact⟨[_],_,rfl,rfl,lj⟩
  exact this _
theorem OF(h:an cx m st T w){aa:Oper}{src o e:TypeId}{x:Operand}{s:List UInt8}(R:aa.op=.convert src o x)(U:dm st x=some ⟨.str,s⟩)(W:cx.P.underlying src=some .string)(ah:dO cx.P o=some (e,.int .u8))
  {orc:List ak}{ob:List Prop}:eA cx T w aa ⟨.val (.ab (.int .u8)) (eH s),st,orc,ob⟩:=by
 obtain⟨Y,Z⟩:=eG.1 (cW h U)
 obtain⟨la,lb,_⟩:=iM ah
 have lc:cx.P.underlying e=some (.int .u8):=by
  obtain⟨i,_,_,ld⟩:=da lb
  exact ld
 have L:=run_bytes_of_string (P:=cx.P) w src o e (bytesOf s) W la lc
 have le:(bytesOf s).size=s.length:=gY s
 rw[le]at L
 have lf:=grownCap_ge w s.length 0 e
 have lg:=grownCap_le_maxLen w s.length 0 e Z
 have O:(eH s).length=s.length:=by simp[eH]
 refine⟨_,_,m,cn (s:=convert src o (.string (bytesOf s))) (by simp only[execOp,R,Y];rfl) L,h.ext {os:=rfl,tape:=rfl,output:=rfl,size:=by simp,drawn:=by first|exact fun _=>Nat.le_refl _|exact fun _=>Nat.le_succ _,block:=fun b lh=>Below.heap_alloc w.drew _ b lh},
  (bD (t:=.ab (.int .u8)) rfl).2 ⟨some ⟨w.heap.size,0,none⟩,grownCap w s.length 0 e,(eH s).map (Value.int .u8),congrArg (fun n=>[Value.slice _ n _]) O.symm,Nat.le_trans (Nat.le_of_eq O) lf,lg,(fun h=>by cases h),?_,?_⟩⟩
 ·have:∀(w:World) (M:Nat->Prop) (l:List Int),bM (aH w M (.int .u8)) (l.map (Value.int .u8)) l:=by
   intro w M l
   induction l with
   |nil=>rfl
   |cons b s li=>exact⟨[_],_,rfl,rfl,li⟩
  exact this _ _ _
 ·intro j u q
  refine⟨_,rfl,?_,fun lj=>Nat.lt_irrefl _ (h.DF lj)⟩
  have lk:j<s.length:=by have:=(List.getElem?_eq_some_iff.1 q).1;simpa[eH]using this
  have ll:(⟨w.heap.size,0,none⟩:Addr).add j=⟨w.heap.size,0+j,none⟩:=by unfold Addr.add;split<;>simp_all
  have lm:=mX (heap_alloc_new w.drew (.cells (bytesRow (bytesOf s) (grownCap w s.length 0 e)) e ((bytesRow (bytesOf s) (grownCap w s.length 0 e)).size,(bytesRow (bytesOf s) (grownCap w s.length 0 e)).size+1))) (0+j)
  rw[ll]
  refine Eq.trans lm ?_
  rw[Nat.zero_add]
  unfold bytesRow
  rw[Array.getElem?_append_left (by simp[bytesOf];exact lk)]
  rw[<-Array.getElem?_toList,Array.toList_map]
  simp only[eH,List.map_map,List.getElem?_map]at q
  simp only[bytesOf,List.getElem?_map]
  exact q
theorem wG{M:Nat->Prop}{t:ag}:∀{xs:List t.el} {cs:List Value} (n:Nat),bM (aH w M t) cs xs->n<=xs.length->bM (aH w M t) (cs.drop (n*t.cells)) (xs.drop n)
 |xs,cs,0,h,_=>by rw[Nat.zero_mul];exact h
 |[],_,n+1,_,o=>by simp at o
 |x::xs,cs,n+1,⟨U,c2,e,q,L⟩,o=>by
  have O:=cf t q
  have R:cs.drop ((n+1)*t.cells)=c2.drop (n*t.cells):=by
   rw[e,Nat.succ_mul,Nat.add_comm,<-List.drop_drop,<-O,List.drop_left]
  rw[R]
  exact wG n L (by simpa using o)
theorem Mx(h:an cx m st T w){aa:Oper}{t:TypeId}{u:ag}{len:Nat}{x Y:Operand}{r li lj:Nat}{i0 n:Int}{c:cE}{Z:List c.t.el}(lt:aa.op=.slice t x (some Y) none none)(lu:aR st x=some (.dN r i0 li lj))(lv:dV (aR st Y)=some n)
  (O:pS cx.P t=some (len,u))(lk:look st.rw r=some c)(q:(c.t.beq u&&(i0==0&&(Nat.beq li 0&&Nat.beq lj c.t.cells)))=true)(lw:dx c.xs n (c.xs.length:Int)=some Z)(ll:c.xs.length=len){orc:List ak}{ob:List Prop}:
  eA cx T w aa ⟨.val (.ab c.t) Z,st.freeze r c,orc,ob⟩:=by
 simp only[Bool.and_eq_true,beq_iff_eq]at q
 obtain⟨la,lb,U,lO⟩:=q
 have U:=Nat.eq_of_beq_eq_true U
 obtain rfl:=ag.eq_of_beq la
 obtain⟨k,lx⟩:=fe h lv
 obtain⟨ly,L,_,lc⟩:=r3 lw
 rw[Int.toNat_natCast,List.take_length]at lc
 unfold pS at O
 split at O
 case h_2=>cases O
 rename_i lP e lz
 split at O
 case h_2=>cases O
 rename_i lQ lA
 cases O
 obtain⟨g,lR,lS,lB,ld⟩:=be h lu
 have ld:Act.eval ⟨T,ai.D cx⟩ x=.pointer (some ⟨g,0,none⟩):=by rw[ld,lb,U];simp
 have lC:=h.freeze (a8 lk)
 have le:=a8 lk
 have lm:r∈st.ids:=List.mem_append.2 (.inr (List.mem_map.2 ⟨_,le,rfl⟩))
 have lD:aH w (ar cx m (st.freeze r c).ids) (.ab c.t) [m r] c.xs:=by
  have lE:∀c',(r,c')∉st.ad:=fun c' q=>(List.nodup_append.1 h.keys).2.2 r (List.mem_map.2 ⟨_,q,rfl⟩) r (List.mem_map.2 ⟨_,le,rfl⟩) rfl
  have ln:∀i,i∈(st.freeze r c).ids->i∈st.ids/\i≠r:=by
   intro i o
   rcases List.mem_append.1 o with o|o
   ·obtain⟨⟨b,s⟩,lf,rfl⟩:=List.mem_map.1 o
    obtain⟨⟨lT,lF⟩,lo,W⟩:=List.mem_map.1 lf
    cases W
    exact⟨List.mem_append.2 (.inl (List.mem_map.2 ⟨_,lo,rfl⟩)),fun e=>lE lF (by simp only at e;rw[<-e];exact lo)⟩
   ·obtain⟨⟨b,s⟩,lf,rfl⟩:=List.mem_map.1 o
    obtain⟨L,R⟩:=cT.1 lf
    exact⟨List.mem_append.2 (.inr (List.mem_map.2 ⟨_,L,rfl⟩)),R⟩
  refine h.sc le (fun b _ q=>kj (fun i o=>(ln i o).1) q) fun lp lq=>?_
  rintro(lG|⟨i,o,lH⟩)
  ·have L:=h.outer lp lG
   rcases(h.lt lm lq).2 with R|R
   ·omega
   ·exact L.2 R
  ·obtain⟨L,R⟩:=ln i o
   exact h.apart i r L lm R lp lH lq
 obtain⟨a,cap,cells,lg,lU,lV,lW,lr,lI⟩:=lD
 rw[lB]at lg
 simp only[List.cons.injEq,and_true,Value.slice.injEq]at lg
 obtain⟨lJ,lX,lY⟩:=lg
 subst lJ
 have lK:n.toNat<=c.xs.length:=by omega
 have lL:=iq (fun _ _=>cf c.t) _ _ lr
 have ls:Z.length=c.xs.length-n.toNat:=by rw[lc,List.length_drop]
 refine⟨.slice (some (if c.xs.length=n.toNat then⟨g,0,none⟩else(⟨g,0,none⟩:Addr).add (n.toNat*c.t.cells))) (c.xs.length-n.toNat) (c.xs.length-n.toNat),w,m,
  cn (s:=Instr.sliceAt t (Act.eval ⟨T,ai.D cx⟩ x) (some (Act.eval ⟨T,ai.D cx⟩ Y)) none none) (by simp only[execOp,lt];rfl) ?_,lC,?_⟩
 ·simp only[ld,lx,Instr.sliceAt,Sem.run_bind,run_underlying lz,Result.andThen_ok,Instr.sureAddr,Sem.run_pure]
  have q:(Instr.sliceBounds false len len (some (.int k n)) none none).run cx.P w=.ok (n.toNat,len,len) w:=by
   have lM:n<=(len:Int):=by rw[<-ll];exact L
   simp[Instr.sliceBounds,Instr.sliceBound,asIntOf,ly,lM]
  rw[q]
  simp only[Result.andThen_ok,Sem.run_bind,eK lA,Sem.run_pure,ll]
 ·refine(bD (t:=.ab c.t) rfl).2 ⟨_,c.xs.length-n.toNat,cells.drop (n.toNat*c.t.cells),by rw[ls],by rw[ls];exact Nat.le_refl _,by omega,(fun e=>by cases e),?_,?_⟩
  ·rw[lc];exact wG _ lr lK
  ·intro j u lh
   rw[List.getElem?_drop]at lh
   obtain⟨b,la,lb,U⟩:=lI _ _ lh
   cases la
   have lN:=(List.getElem?_eq_some_iff.1 lh).1
   by_cases W:c.xs.length=n.toNat
   ·rw[lL,W]at lN
    omega
   ·refine⟨_,rfl,?_,?_⟩
    ·rw[if_neg W,add_add]
     exact lb
    ·rw[if_neg W,jo]
     exact U
theorem JF(h:an cx m st T w){aa:Oper}{d:Nat}(ah:d<cx.n){orc:List ak}{r:w8}(o:jY cx.P st aa d orc=some r)(W:bO r.ob):eA cx T w aa r:=by
 unfold jY at o
 split at o
 ·rename_i q
  split at o
  ·cases o;exact Ik h ah (.inl q)
  ·cases o
 ·rename_i q
  split at o
  ·cases o;exact Ik h ah (.inr q)
  ·cases o
 ·rename_i t q
  split at o
  ·rename_i n u R;cases o;exact Rk h ah q R
  ·split at o
   ·rename_i e u R
    cases aK:Nat.blt (d+1000000) ep with
    |false=>rw[aK]at o;cases o
    |true=>rw[aK]at o;cases o;exact U2 h ah (cK aK) q R
   ·split at o
    ·rename_i e R
     cases aK:Nat.blt (d+1000000) ep with
     |false=>rw[aK]at o;cases o
     |true=>rw[aK]at o;cases o;exact PQ h ah (cK aK) q R
    ·split at o
     ·rename_i u R
      cases la:uB u<;>rw[la]at o<;>cases o
      ·exact MG h ah q R
      ·exact Q7 h ah q R
     ·cases o
 ·rename_i t x q
  split at o
  ·rename_i u s O L
   split at o
   ·rename_i l lc lm;cases o;exact Tz h ah q L lc lm
   ·cases o
  ·cases o
 ·rename_i t n parts q
  split at o
  ·rename_i e u lb
   split at o
   ·rename_i xs L
    split at o
    ·rename_i ld le lf lg
     cases o
     exact PO h ah q lb L (Nat.eq_of_beq_eq_true le) (Nat.le_of_ble_eq_true lf) lg
    ·cases o
   ·cases o
  ·cases o
 ·rename_i t parts q
  split at o
  ·rename_i n u lB e i Z O lk
   split at o
   ·rename_i xs ld z L ln R
    split at o
    ·rename_i la
     cases o
     simp only[Bool.and_eq_true]at la
     obtain⟨⟨lo,lp⟩,lq⟩:=la
     obtain rfl:=ag.eq_of_beq lp
     obtain⟨_,_,_,lC,d2,ll,_⟩:=da Z
     have lr:cx.P.underlying t=some (.array n e):=by rw[O]at ll;cases ll;exact O
     exact WX h q Z lk R lr ln L (Nat.eq_of_beq_eq_true lo) (Nat.eq_of_beq_eq_true lq)
    ·cases o
   ·cases o
  ·cases o
 ·rename_i t l c q
  split at o
  ·rename_i e u n k lb lc Y
   split at o
   ·rename_i ld U R
    cases O:u.beq ld with
    |false=>rw[O]at o;cases o
    |true=>
     rw[O]at o
     cases o
     obtain rfl:=ag.eq_of_beq O
     exact Xa h ah q lb lc Y U R W.1
   ·cases o
  ·cases o
 ·rename_i t x q
  split at o
  ·rename_i s L Z;cases o;exact Xb h ah q L Z
  ·rename_i k v y ls lt L Z;cases o;exact Ve h ah q L Z
  ·cases o
 ·rename_i t r q
  split at o
  ·rename_i ls lt Z
   split at o
   ·rename_i k v lD lE
    split at o
    ·rename_i la
     cases o
     simp only[Bool.and_eq_true]at la
     exact VL h ah q Z la.2
    ·cases o
   ·cases o
  ·cases o
 ·rename_i x q
  split at o
  ·rename_i b L
   split at o
   ·rename_i k v left last U
    cases o
    exact He h q L U W.1
   ·cases o
  ·cases o
 ·rename_i x q
  split at o
  ·rename_i b L
   split at o
   ·rename_i k v left p U
    cases o
    exact U5 h q L U
   ·cases o
  ·cases o
 ·rename_i x q
  split at o
  ·rename_i b lF orc' L
   split at o
   ·rename_i s p U
    split at o
    ·cases o;exact(KW h q L U).1 W.1
    ·cases o;exact(KW h q L U).2 W.1
   ·cases o
  ·cases o
 ·rename_i src lG x q
  split at o
  ·rename_i s e L lh lu;cases o;exact QY h ah q L lh lu W.1
  ·rename_i s e L lh ah;cases o;exact OF h q L lh ah
  ·cases o
 ·rename_i f first eJ q
  split at o
  ·rename_i bs li Y;cases o;exact UM h q li Y
  ·rename_i x li Y
   split at o
   ·rename_i b L;cases o;exact ME h q li Y L
   ·cases o
  ·cases o
 ·rename_i t x lk q
  split at o
  ·rename_i r e u n L lb lv
   split at o
   ·rename_i c Y
    split at o
    ·rename_i le lf lg
     cases o
     exact Sq h q L lb lv Y (Nat.eq_of_beq_eq_true le) (ag.eq_of_beq lf) (cK lg) W.1
    ·cases o
   ·cases o
  ·cases o
 ·rename_i t x lH q
  split at o
  ·rename_i r i0 lI lJ n lK u v orc' L lc lj
   split at o
   ·rename_i c Y
    split at o
    ·rename_i lw U lL
     cases o
     exact Mx h q L lc lj Y U W.1 W.2.1
    ·cases o
   ·cases o
  ·cases o
 ·rename_i c q
  split at o
  ·rename_i args lM
   split at o
   ·rename_i s x t lN lj lx
    split at o
    ·rename_i e u r c lb ly
     split at o
     ·rename_i ld lw le lf lg lz lA
      cases O:u.beq ld&&Nat.blt r ep with
      |false=>rw[O]at o;cases o
      |true=>
       rw[O]at o
       cases o
       rw[Bool.and_eq_true]at O
       obtain rfl:=ag.eq_of_beq O.1
       exact RF h q lj lx lb ly (Nat.eq_of_beq_eq_true le) (ag.eq_of_beq lf) lg lz lA (cK O.2) W.1
     ·cases o
    ·cases o
   ·cases o
  ·cases o
 ·cases o
end Go.Ev
namespace Go.Ev
open Go Go.RowKit
variable [b8]
variable {cx:bB} {m:Nat->Value} {st:af} {T:Array Value} {w w':World}
variable [ai cx]
structure jg where
 flat:Bool
 gz:Nat
 eJ:List ag
 rel:List ak->List ak->Prop
def jG(w:World)(M:Nat->Prop)(v:Value):List ak->Prop
 |[]=>True
 |[u]=>ba w M v u.t u.x
 |l=>∃vs:List Value,v=.tuple vs.toArray/\dL w M vs l
structure aV(P:Program)(G:World->Prop)(f:Nat)(F:jg):Prop where
 enters:∀args w,(callFunc f args).run P w=.ok (.enter f args) w
 shape:∀o ap,F.rel o ap->ap.length=F.gz/\(F.flat=true->∀u∈ap,u.t.flat=true)
 calls:∀(w:World) (M:Nat->Prop) (vs:List Value) (o ap:List ak),G w->(∀b,M b->b<w.heap.size)->F.rel o ap->dL w M vs o->
  Calls P f vs.toArray w fun e w'=>∃v,e=.returned v/\jG w' M v ap/\Ext w w'
structure Env where
 P:Program
 G:World->Prop
 n:Nat
 fns:List (Nat×jg)
structure bv(E:Env)(cx:bB):Prop where
 P:cx.P=E.P
 n:cx.n=E.n
 rn:∀w,Frame cx.w0 w cx.X->E.G w
 fns:∀f F,(f,F)∈E.fns->aV E.P E.G f F
def j4(st:af)(b off:Nat)(u:ag):Option ak:=
 match look st.ad b with
 |some (.cells l _)=>match pack u ((l.drop off).map (mm st))with
  |some (x,_)=>some ⟨.ptr u,x⟩
  |none=>none
 |_=>none
def oN(st:af):List Nat->List ag->Option (List ak)
 |[],[]=>some []
 |b::bs,u::us=>match j4 st b 0 u,oN st bs us with
  |some v,some vs=>some (v::vs)
  |_,_=>none
 |_,_=>none
def pairUp:List ak->ak
 |[]=>⟨.unit,()⟩
 |u::us=>⟨.pair u.t (pairUp us).t,(u.x,(pairUp us).x)⟩
def G6:ag->List ag
 |.pair (.ptr u) r=>u::G6 r
 |_=>[]
def om(st:af)(b off:Nat)(u:ag):Option ak:=
 match u with
 |.fn f t=>match look st.ad b with
  |some (.cells l _)=>match l.drop off with
   |.clos g o::_=>match Nat.beq g f,oN st o (G6 t)with
    |true,some vs=>match ak.as ⟨.fn f (pairUp vs).t,(pairUp vs).x⟩ (.fn f t)with
     |some y=>some ⟨.ptr (.fn f t),y⟩
     |none=>none
    |_,_=>none
   |_=>j4 st b off (.fn f t)
  |_=>none
 |u=>j4 st b off u
def nw(st:af):List Nat->List ag->Option (List ak)
 |[],[]=>some []
 |b::bs,u::us=>match om st b 0 u,nw st bs us with
  |some v,some vs=>some (v::vs)
  |_,_=>none
 |_,_=>none
def qP:(t:ag)->t.el->Option (List ak)
 |.unit,_=>some []
 |.pair a b,x=>match qP b x.2 with
  |some l=>some (⟨a,x.1⟩::l)
  |none=>none
 |_,_=>none
def zc(E:Env)(st:af)(flat:Bool)(t:TypeId)(x:Operand):Option ak:=
 match x with
 |.const (.slice none 0 0)=>match dO E.P t with
  |some (_,u)=>some ⟨.ab u,[]⟩
  |none=>none
 |x=>match aR st x with
  |some (.val t y)=>some ⟨t,y⟩
  |some (.vptr t y)=>some ⟨.ptr t,y⟩
  |some (.row r)=>match flat,look st.rw r with
   |true,some c=>some ⟨.ab c.t,c.xs⟩
   |_,_=>none
  |some (.iter b)=>match flat,look st.ad b with
   |true,some (.mp k v ps)=>some ⟨.map k v,some ps⟩
   |_,_=>none
  |some (.ptr b off)=>match flat,E.P.underlying t with
   |true,some (.pointer e)=>match ty E.P e with
    |some u=>om st b off u
    |none=>none
   |_,_=>none
  |some (.dz b p)=>match flat,look st.ad b with
   |true,some (.aT o y _)=>match jM o y p []with
    |some (r,_,[])=>some ⟨.ptr r.t,r.x⟩
    |_=>none
   |_,_=>none
  |some (.clos f bs)=>match flat,look E.fns f with
   |true,some F=>match nw st bs F.eJ with
    |some l=>some ⟨.fn f (pairUp l).t,(pairUp l).x⟩
    |none=>none
   |_,_=>none
  |_=>none
def qn(E:Env)(st:af)(flat:Bool):List TypeId->List Operand->Option (List ak)
 |[],[]=>some []
 |t::o,x::xs=>match zc E st flat t x,qn E st flat o xs with
  |some v,some vs=>some (v::vs)
  |_,_=>none
 |_,_=>none
def rF:List ak->ao
 |[]=>.any
 |[u]=>.val u.t u.x
 |l=>.dD l
def pP(E:Env)(st:af)(x:Operand):Option (Nat×jg×List ak):=
 match aR st x with
 |some (.clos f bs)=>match look E.fns f with
  |some F=>match bs with
   |[]=>some (f,F,[])
   |bs=>match F.flat,nw st bs F.eJ with
    |true,some l=>some (f,F,l)
    |_,_=>none
  |none=>none
 |some (.val (.fn f t) y)=>match look E.fns f,qP t y with
  |some F,some l=>match l.all (fun u=>!u.t.agg)with
   |true=>some (f,F,l)
   |false=>none
  |_,_=>none
 |_=>none
def kN(E:Env)(st:af)(c:Call)(orc:List ak):Option dw:=
 match c.callee with
 |.value x=>match pP E st x with
  |some (_,F,l)=>match qn E st F.flat c.argTypes.toList c.args.toList with
   |some o=>bif Nat.ble F.gz orc.length then some ⟨rF (orc.take F.gz),orc.drop F.gz,[F.rel (o++l) (orc.take F.gz)]⟩else none
   |none=>none
  |none=>none
 |_=>none
theorem LC(h:an cx m st T w):∀{c:List Value} {l:List ao},ct w (ar cx m st.ids) m c l->ct w (fun _=>False) m c (l.map (mm st))
 |[],[],_=>trivial
 |[],_::_,h=>h.elim
 |_::_,[],h=>h.elim
 |_::_,_::_,⟨o,q⟩=>⟨Fi h o,LC h q⟩
theorem D5(h:an cx m st T w){b off:Nat}{u:ag}{v:ak}(o:j4 st b off u=some v){x:Value}(U:∃g,m b=.pointer (some ⟨g,0,none⟩)/\x=.pointer (some ⟨g,off,none⟩)):
  ba w (fun _=>False) x v.t v.x:=by
 unfold j4 at o
 split at o
 ·rename_i l W
  split at o
  ·rename_i y r Y
   cases o
   obtain⟨g,Z,rfl⟩:=U
   obtain⟨q,L,_,cells,la,lb⟩:=h.box (a8 W)
   have:q=g:=by rw[Z]at L;cases L;rfl
   subst this
   obtain⟨_,ah⟩:=iw off lb
   obtain⟨lc,c2,ld,le,_⟩:=oP u (LC h ah) Y
   refine(bD (t:=.ptr u) rfl).2 ⟨_,lc,rfl,le,fun j v O=>⟨?_,fun h=>h⟩⟩
   have R:(cells.toList.drop off)[j]? =some v:=by rw[ld,List.getElem?_append_left (List.getElem?_eq_some_iff.1 O).1];exact O
   rw[List.getElem?_drop]at R
   have lf:(⟨q,off,none⟩:Addr).add j=⟨q,off+j,none⟩:=by unfold Addr.add;split<;>simp_all
   rw[lf,mX la]
   simpa using R
  ·cases o
 ·cases o
theorem KY(h:an cx m st T w):∀{bs:List Nat} {us:List ag} {l:List ak},(∀b∈bs,∀c e,look st.ad b=some (.cells c e)->∃g,m b=.pointer (some ⟨g,0,none⟩))->oN st bs us=some l->dL w (fun _=>False) (bs.map m) l
 |[],[],_,_,o=>by cases o;trivial
 |[],_::_,_,_,o=>by cases o
 |_::_,[],_,_,o=>by cases o
 |b::bs,u::us,l,L,o=>by
  unfold oN at o
  split at o
  ·rename_i v vs q R
   cases o
   refine⟨D5 h q ?_,KY h (fun b U=>L b (List.mem_cons_of_mem _ U)) R⟩
   unfold j4 at q
   split at q
   ·rename_i c e W
    obtain⟨g,O⟩:=L b List.mem_cons_self c e W
    exact⟨g,O,O⟩
   ·cases q
  ·cases o
theorem td(h:an cx m st T w){b:Nat}{c:List ao}{e:Nat}(o:look st.ad b=some (.cells c e)):∃g,m b=.pointer (some ⟨g,0,none⟩):=by
 obtain⟨g,q,_⟩:=h.box (a8 o)
 exact⟨g,q⟩
theorem pK{w:World}{M:Nat->Prop}:∀{vs:List Value} {l:List ak},(∀u∈l,u.t.agg=false)->dL w M vs l->aH w M (pairUp l).t vs (pairUp l).x
 |[],[],_,_=>rfl
 |[],_::_,_,h=>h.elim
 |_::_,[],_,h=>h.elim
 |v::vs,u::us,o,⟨q,L⟩=>⟨[v],vs,rfl,(bD (o u List.mem_cons_self)).1 q,pK (fun x O=>o x (List.mem_cons_of_mem _ O)) L⟩
theorem IS:∀{bs:List Nat} {us:List ag} {l:List ak},oN st bs us=some l->∀u∈l,u.t.agg=false
 |[],[],_,o=>by cases o;simp
 |[],_::_,_,o=>by cases o
 |_::_,[],_,o=>by cases o
 |b::bs,u::us,l,o=>by
  unfold oN at o
  split at o
  ·rename_i v vs q O
   cases o
   intro x L
   rcases List.mem_cons.1 L with rfl|L
   ·unfold j4 at q
    split at q
    ·split at q
     ·cases q;rfl
     ·cases q
    ·cases q
   ·exact IS O x L
  ·cases o
theorem Hn(h:an cx m st T w){b off:Nat}{u:ag}{v:ak}(o:om st b off u=some v){x:Value}(O:∃g,m b=.pointer (some ⟨g,0,none⟩)/\x=.pointer (some ⟨g,off,none⟩)):
  ba w (fun _=>False) x v.t v.x:=by
 unfold om at o
 split at o
 ·rename_i f t
  split at o
  ·rename_i l e lb
   split at o
   ·rename_i g R r lc
    split at o
    ·rename_i vs U Y
     split at o
     ·rename_i y ld
      cases o
      have U:=Nat.eq_of_beq_eq_true U
      subst U
      have le:=ak.dd ld
      obtain⟨g0,lf,rfl⟩:=O
      obtain⟨W,Z,_,cells,lg,lh⟩:=h.box (a8 lb)
      have:W=g0:=by rw[lf]at Z;cases Z;rfl
      subst this
      obtain⟨_,ah⟩:=iw off lh
      rw[lc]at ah
      match li:cells.toList.drop off,ah with
      |q::lq,⟨lj,_⟩=>
       have lk:q=.func (.func g) #[] (R.map m).toArray:=lj
       have ll:aH w (fun _=>False) (pairUp vs).t (R.map m) (pairUp vs).x:=pK (IS Y) (KY h (fun b _ c e lm=>td h lm) Y)
       have ln:aH w (fun _=>False) (.fn g (pairUp vs).t) [q] (pairUp vs).x:=⟨R.map m,by rw[lk],ll⟩
       have lo:aH w (fun _=>False) (.fn g t) [q] y:=by
        have:∀(a b:ak),a=b->aH w (fun _=>False) a.t [q] a.x->aH w (fun _=>False) b.t [q] b.x:=fun a b e h=>e▸h
        exact this _ ⟨.fn g t,y⟩ le ln
       refine(bD (t:=.ptr (.fn g t)) rfl).2 ⟨_,[q],rfl,lo,fun j v L=>⟨?_,fun h=>h⟩⟩
       have la:(cells.toList.drop off)[j]? =some v:=by
        rw[li]
        match j,L with
        |0,L=>exact L
        |j+1,L=>simp at L
       rw[List.getElem?_drop]at la
       have lp:(⟨W,off,none⟩:Addr).add j=⟨W,off+j,none⟩:=by unfold Addr.add;split<;>simp_all
       rw[lp,mX lg]
       simpa using la
      |[],ah=>exact ah.elim
     ·cases o
    ·cases o
   ·exact D5 h o O
  ·cases o
 ·exact D5 h o O
theorem IL{b off:Nat}{u:ag}{v:ak}(o:om st b off u=some v):(∃c e,look st.ad b=some (.cells c e))/\v.t.agg=false:=by
 have L:∀{u:ag},j4 st b off u=some v->(∃c e,look st.ad b=some (.cells c e))/\v.t.agg=false:=by
  intro u o
  unfold j4 at o
  split at o
  ·rename_i l e q
   split at o
   ·cases o;exact⟨⟨l,e,q⟩,rfl⟩
   ·cases o
  ·cases o
 unfold om at o
 split at o
 ·split at o
  ·rename_i l e q
   split at o
   ·split at o
    ·split at o
     ·cases o;exact⟨⟨l,e,q⟩,rfl⟩
     ·cases o
    ·cases o
   ·exact L o
  ·cases o
 ·exact L o
theorem DQ(h:an cx m st T w):∀{bs:List Nat} {us:List ag} {l:List ak},(∀b∈bs,∀c e,look st.ad b=some (.cells c e)->∃g,m b=.pointer (some ⟨g,0,none⟩))->nw st bs us=some l->dL w (fun _=>False) (bs.map m) l
 |[],[],_,_,o=>by cases o;trivial
 |[],_::_,_,_,o=>by cases o
 |_::_,[],_,_,o=>by cases o
 |b::bs,u::us,l,q,o=>by
  unfold nw at o
  split at o
  ·rename_i v vs L R
   cases o
   obtain⟨⟨c,e,U⟩,_⟩:=IL L
   obtain⟨g,O⟩:=q b List.mem_cons_self c e U
   exact⟨Hn h L ⟨g,O,O⟩,DQ h (fun b W=>q b (List.mem_cons_of_mem _ W)) R⟩
  ·cases o
theorem It:∀{bs:List Nat} {us:List ag} {l:List ak},nw st bs us=some l->∀u∈l,u.t.agg=false
 |[],[],_,o=>by cases o;simp
 |[],_::_,_,o=>by cases o
 |_::_,[],_,o=>by cases o
 |b::bs,u::us,l,o=>by
  unfold nw at o
  split at o
  ·rename_i v vs L O
   cases o
   intro x q
   rcases List.mem_cons.1 q with rfl|q
   ·exact(IL L).2
   ·exact It O x q
  ·cases o
theorem Hx{w:World}{M:Nat->Prop}:∀(t:ag) {vs:List Value} {x:t.el} {l:List ak},qP t x=some l->aH w M t vs x->∃us,dL w M us l/\(∀u∈l,u.t.agg=false->True)/\(l.all (fun u=>!u.t.agg)=true->us=vs)
 |.unit,vs,x,l,o,h=>by cases o;cases h;exact⟨[],trivial,fun _ _ _=>trivial,fun _=>rfl⟩
 |.pair a b,vs,x,l,o,⟨O,c2,e,R,Y⟩=>by
  unfold qP at o
  split at o
  ·rename_i lb Z
   cases o
   obtain⟨us,U,_,la⟩:=Hx b Z Y
   cases q:a.agg with
   |true=>exact⟨.agg O.toArray::us,⟨(dS q).2 ⟨O,rfl,R⟩,U⟩,fun _ _ _=>trivial,fun L=>by simp[q]at L⟩
   |false=>
    have W:=cf a R
    have:a.cells=1:=by cases a<;>first|rfl|(simp[ag.agg]at q)
    rw[this]at W
    match O,W with
    |[v],_=>
     refine⟨v::us,⟨(bD q).2 R,U⟩,fun _ _ _=>trivial,fun L=>?_⟩
     rw[List.all_cons,Bool.and_eq_true]at L
     rw[e,la L.2]
     rfl
  ·cases o
 |.int _,_,_,_,o,_=>by cases o
 |.bool,_,_,_,o,_=>by cases o
 |.str,_,_,_,o,_=>by cases o
 |.ab _,_,_,_,o,_=>by cases o
 |.ptr _,_,_,_,o,_=>by cases o
 |.fn _ _,_,_,_,o,_=>by cases o
 |.err,_,_,_,o,_=>by cases o
 |.cy,_,_,_,o,_=>by cases o
theorem SA{E:Env}(ls:cx.P=E.P)(h:an cx m st T w){flat:Bool}{t:TypeId}{x:Operand}{v:ak}(o:zc E st flat t x=some v):
  ba w (fun b=>flat=false/\ar cx m st.ids b) (Act.eval ⟨T,ai.D cx⟩ x) v.t v.x:=by
 have O:∀b,b<w.heap.size->¬ar cx m st.ids b->w.heap[b]? =w.heap[b]? :=fun _ _ _=>rfl
 have R:∀b,b<w.heap.size->(flat=false/\ar cx m st.ids b)->ar cx m st.ids b:=fun _ _ h=>h.2
 have lc:∀b,b<w.heap.size->¬False->w.heap[b]? =w.heap[b]? :=fun _ _ _=>rfl
 have ld:∀b,b<w.heap.size->(true=false/\ar cx m st.ids b)->False:=fun _ _ h=>by cases h.1
 unfold zc at o
 split at o
 ·split at o
  ·rename_i e u lf
   cases o
   refine(bD (t:=.ab u) rfl).2 ⟨none,0,[],rfl,Nat.le_refl _,by decide,fun _=>rfl,rfl,fun j v Y=>by simp at Y⟩
  ·cases o
 ·split at o
  ·rename_i Z y q
   cases o
   have:=be h q
   exact dc O R this
  ·rename_i Z y q
   cases o
   have:=fh O R (be h q)
   obtain⟨a,cells,e,r⟩:=this
   rw[e]
   exact(bD (t:=.ptr Z) rfl).2 ⟨a,cells,rfl,r⟩
  ·rename_i r q
   split at o
   ·rename_i c U
    cases o
    have W:Act.eval ⟨T,ai.D cx⟩ x=m r:=be h q
    rw[W]
    refine(bD (t:=.ab c.t) rfl).2 (h.sc (a8 U) (fun b _ L=>L.2) fun g _ L=>?_)
    simp at L
   ·cases o
  ·rename_i b q
   split at o
   ·rename_i k v' ps U
    cases o
    have W:Act.eval ⟨T,ai.D cx⟩ x=m b:=be h q
    obtain⟨g,la,_,es,lg,lh,li,lj,lk⟩:=h.box (a8 U)
    rw[W,la]
    refine(bD (t:=.map k v') rfl).2 ⟨g,es,lg,rfl,lh,(fun L:true=false/\ar cx m st.ids g=>by cases L.1),li,lj,gJ (fun _ _ h=>dc O R h) (fun _ _ h=>dc O R h) lk⟩
   ·cases o
  ·rename_i b off q
   split at o
   ·rename_i e lf
    split at o
    ·rename_i u lt
     exact dc lc ld (Hn h o (be h q))
    ·cases o
   ·cases o
  ·rename_i b p q
   split at o
   ·rename_i Z y e L
    split at o
    ·rename_i r aa ll
     cases o
     obtain⟨g,lm,ln⟩:=be h q
     obtain⟨le,la,_,cells,lo,lp⟩:=h.box (a8 L)
     have:le=g:=by rw[lm]at la;cases la;rfl
     subst this
     obtain⟨lu,c2,c3,lq,lb,lr⟩:=vi p Z lp ll trivial
     rw[ln]
     refine(bD (t:=.ptr r.t) rfl).2 ⟨⟨le,fL p,none⟩,c2,rfl,cC O R r.t lr,fun j v Y=>⟨?_,fun L=>by cases L.1⟩⟩
     have lv:=(List.getElem?_eq_some_iff.1 Y).1
     rw[gl,mX lo,<-Array.getElem?_toList,lq,List.append_assoc,List.getElem?_append_right (by omega),List.getElem?_append_left (by omega),<-Y]
     congr 1
     omega
    ·cases o
   ·cases o
  ·rename_i f bs q
   split at o
   ·rename_i F lw
    split at o
    ·rename_i l lb
     cases o
     have W:Act.eval ⟨T,ai.D cx⟩ x=.func (.func f) #[] (bs.map m).toArray:=be h q
     rw[W]
     refine(bD (t:=.fn f (pairUp l).t) rfl).2 ⟨bs.map m,rfl,?_⟩
     exact cC lc ld _ (pK (It lb) (DQ h (fun b _ c e U=>td h U) lb))
    ·cases o
   ·cases o
  ·cases o
theorem FZ{E:Env}(q:cx.P=E.P)(h:an cx m st T w){flat:Bool}:∀{L:List TypeId} {xs:List Operand} {vs:List ak},qn E st flat L xs=some vs->
  dL w (fun b=>flat=false/\ar cx m st.ids b) (xs.map (Act.eval ⟨T,ai.D cx⟩)) vs
 |[],[],_,o=>by cases o;trivial
 |[],_::_,_,o=>by cases o
 |_::_,[],_,o=>by cases o
 |t::L,x::xs,vs,o=>by
  unfold qn at o
  split at o
  ·rename_i v U O R
   cases o
   exact⟨SA q h O,FZ q h R⟩
  ·cases o
theorem Ji{M:Nat->Prop}:∀{a b:List Value} {l r:List ak},dL w M a l->dL w M b r->dL w M (a++b) (l++r)
 |[],_,[],_,_,h=>h
 |[],_,_::_,_,h,_=>h.elim
 |_::_,_,[],_,h,_=>h.elim
 |_::_,_,_::_,_,⟨o,q⟩,h=>⟨o,Ji q h⟩
theorem L9{E:Env}(h:an cx m st T w){x:Operand}{f:Nat}{F:jg}{l:List ak}(o:pP E st x=some (f,F,l)):
  look E.fns f=some F/\∃bs:List Value,Act.eval ⟨T,ai.D cx⟩ x=.func (.func f) #[] bs.toArray/\∃us,us=bs/\dL w (fun b=>F.flat=false/\ar cx m st.ids b) us l:=by
 have Y:∀b,b<w.heap.size->¬ar cx m st.ids b->w.heap[b]? =w.heap[b]? :=fun _ _ _=>rfl
 have Z:∀b,b<w.heap.size->¬False->w.heap[b]? =w.heap[b]? :=fun _ _ _=>rfl
 unfold pP at o
 split at o
 ·rename_i U bs R
  have q:Act.eval ⟨T,ai.D cx⟩ x=.func (.func U) #[] (bs.map m).toArray:=be h R
  split at o
  ·rename_i le L
   split at o
   ·cases o
    exact⟨L,[],q,[],rfl,trivial⟩
   ·split at o
    ·rename_i la W
     cases o
     refine⟨L,_,q,_,rfl,rg Z (fun b _ O=>?_) (DQ h (fun b _ c e o=>td h o) W)⟩
     rw[la]at O
     cases O.1
    ·cases o
  ·cases o
 ·rename_i U t y R
  split at o
  ·rename_i L W
   split at o
   ·cases o
    have q:ba w (ar cx m st.ids) (Act.eval ⟨T,ai.D cx⟩ x) (.fn f t) y:=be h R
    obtain⟨bs,e,lb⟩:=(bD (t:=.fn f t) rfl).1 q
    simp only[List.cons.injEq,and_true]at e
    obtain⟨us,lc,_,ld⟩:=Hx t ‹qP t y=some l› lb
    refine⟨L,bs,e,us,ld ‹_›,rg Y (fun b _ O=>O.2) lc⟩
   ·cases o
  ·cases o
 ·cases o
theorem D3{w w':World}{M M':Nat->Prop}:∀{vs:List Value} {l:List ak},(∀u∈l,u.t.flat=true)->dL w M vs l->dL w' M' vs l
 |[],[],_,_=>trivial
 |[],_::_,_,h=>h.elim
 |_::_,[],_,h=>h.elim
 |_::_,u::_,o,⟨q,L⟩=>⟨w5 (o u List.mem_cons_self) q,D3 (fun x O=>o x (List.mem_cons_of_mem _ O)) L⟩
theorem Qj{M:Nat->Prop}{v:Value}:∀{l:List ak},jG w M v l->aS w M m v (rF l)
 |[],_=>trivial
 |[_],h=>h
 |_::_::_,h=>h
theorem Qc{w w':World}{M M':Nat->Prop}{v:Value}:∀{l:List ak},(∀u∈l,u.t.flat=true)->jG w M v l->jG w' M' v l
 |[],_,_=>trivial
 |[u],o,h=>w5 (o u List.mem_cons_self) h
 |_::_::_,o,⟨vs,e,h⟩=>⟨vs,e,D3 o h⟩
theorem sK{c:Call}{aa:Oper}{f:Nat}{x:Operand}{bs:List Value}(q:aa.op=.call c)(o:c.callee=.value x)(L:Act.eval ⟨T,ai.D cx⟩ x=.func (.func f) #[] bs.toArray)
  (O:∀args w,(callFunc f args).run cx.P w=.ok (.enter f args) w)(w:World):
  (execOp (Act.eval ⟨T,ai.D cx⟩) aa).run cx.P w=.ok (.enter f (c.args.toList.map (Act.eval ⟨T,ai.D cx⟩)++bs).toArray) w:=by
 obtain⟨U,args,W⟩:=c
 simp only at o
 subst o
 have R:#[]++args.map (Act.eval ⟨T,ai.D cx⟩)++bs.toArray=(args.toList.map (Act.eval ⟨T,ai.D cx⟩)++bs).toArray:=by
  apply Array.ext'
  simp
 simp only[execOp,q,resolve,L,Deferred.ofValue,Sem.run_bind,Sem.run_pure,Result.andThen_ok,invoke]
 rw[R]
 simp[O]
theorem rm{E:Env}(q:bv E cx)(h:an cx m st T w){aa:Oper}{c:Call}(Y:aa.op=.call c){orc:List ak}{r:dw}(o:kN E st c orc=some r)(U:bO r.ob):
  ∃f args,(∀w,(execOp (Act.eval ⟨T,ai.D cx⟩) aa).run cx.P w=.ok (.enter f args) w)/\
   Calls cx.P f args w fun e w'=>∃v,e=.returned v/\Ext w w'/\aS w' (ar cx m st.ids) m v r.aO:=by
 unfold kN at o
 split at o
 ·rename_i x Z
  split at o
  ·rename_i f F l la
   split at o
   ·rename_i li has
    cases L:Nat.ble F.gz orc.length with
    |false=>rw[L]at o;cases o
    |true=>
     rw[L]at o
     cases o
     obtain⟨lb,bs,lc,us,e,ld⟩:=L9 h la
     subst e
     have O:=q.fns f F (a8 lb)
     rw[<-q.P]at O
     have le:=Ji (FZ q.P h has) ld
     have lf:=O.calls w (fun b=>F.flat=false/\ar cx m st.ids b) _ _ _ (q.rn w h.frame) (fun b L=>h.DF L.2) U.1 le
     refine⟨f,_,sK Y Z lc O.enters,lf.mono ?_⟩
     rintro e w' ⟨v,lg,R,lh⟩
     refine⟨v,lg,lh,Qj ?_⟩
     cases W:F.flat with
     |true=>exact Qc ((O.shape _ _ U.1).2 W) R
     |false=>
      rw[W]at R
      have:(fun b=>false=false/\ar cx m st.ids b)=ar cx m st.ids:=by funext b;simp
      rw[this]at R
      exact R
   ·cases o
  ·cases o
 ·cases o
def GX(st:af)(x:Operand):af:=
 match aR st x with
 |some (.row r)=>match look st.rw r with
  |some c=>st.freeze r c
  |none=>st
 |some (.iter b)=>match look st.ad b with
  |some (.mp k v ps)=>st.fr b k v ps
  |_=>st
 |_=>st
def gR:af->List Operand->af
 |st,[]=>st
 |st,x::xs=>gR (GX st x) xs
def gM(E:Env):Op->List Operand
 |.range _ x=>[x]
 |.slice _ x (some _) _ none=>[x]
 |.build _ ps=>ps.toList.map (·.2)
 |.buildSlice _ _ ps=>ps.toList.map (·.2)
 |.call c=>match c.callee with
  |.value (.func f)=>match look E.fns f with
   |some F=>bif F.flat then[]else c.args.toList
   |none=>c.args.toList
  |_=>[]
 |_=>[]
theorem pB:∀{l:List Operand} {st:af},an cx m st T w->an cx m (gR st l) T w
 |[],_,h=>h
 |x::xs,st,h=>by
  refine pB (l:=xs) ?_
  unfold GX
  split
  ·split
   ·rename_i c o;exact h.freeze (a8 o)
   ·exact h
  ·split
   ·rename_i k v ps o;exact h.fr (a8 o)
   ·exact h
  ·exact h
def nt(E:Env)(o:af)(aa:Oper)(orc:List ak):Option (af×List ak×List Prop):=
 match aa.dst with
 |none=>match aa.op with
  |.store t x y=>r9 E.P o t x y orc
  |.mapUpdate t x k v=>match rJ E.P (gR o [v]) t x k v with
   |some q=>some (q,orc,[])
   |none=>none
  |.call c=>match kN E (gR o (gM E aa.op)) c orc with
   |some r=>some (gR o (gM E aa.op),r.orc,r.ob)
   |none=>none
  |_=>none
 |some d=>match Nat.blt d E.n with
  |true=>match dv E.P (gR o (gM E aa.op)) aa.op orc with
   |some r=>some ((gR o (gM E aa.op)).put d r.aO,r.orc,r.ob)
   |none=>match aa.op with
    |.load t x=>match pI E.P o t x orc with
     |some r=>some (o.put d r.aO,r.orc,r.ob)
     |none=>none
    |.call c=>match kN E (gR o (gM E aa.op)) c orc with
     |some r=>some ((gR o (gM E aa.op)).put d r.aO,r.orc,r.ob)
     |none=>match jY E.P o aa d orc with
      |some r=>some (r.st.put d r.aO,r.orc,r.ob)
      |none=>none
    |_=>match jY E.P (gR o (gM E aa.op)) aa d orc with
     |some r=>some (r.st.put d r.aO,r.orc,r.ob)
     |none=>none
  |false=>none
theorem gg{aa:Oper}{v:Value}{K:Act->World->Prop}{Q:Exit->Act->World->Prop}(o:(execOp (Act.eval ⟨T,ai.D cx⟩) aa).run cx.P w=.ok (.value v) w')(q:K (Act.put ⟨T,ai.D cx⟩ aa.dst v) w'):
  aa.wp cx.P ⟨T,ai.D cx⟩ w K Q:=by
 unfold Oper.wp
 rw[o]
 exact q
theorem ra{E:Env}(O:bv E cx)(h:al cx st T w){aa:Oper}{orc:List ak}{st':af}{orc':List ak}{ob:List Prop}(o:nt E st aa orc=some (st',orc',ob))(R:bO ob)
  {K:Act->World->Prop}{Q:Exit->Act->World->Prop}(Z:∀lm w',al cx st' lm w'->K ⟨lm,ai.D cx⟩ w'):aa.wp cx.P ⟨T,ai.D cx⟩ w K Q:=by
 obtain⟨m,U⟩:=h
 unfold nt at o
 split at o
 ·rename_i ah
  split at o
  ·rename_i t x y q
   rw[<-O.P]at o
   obtain⟨w',W,lf⟩:=O7 U o R
   unfold Oper.wp
   have la:(execOp (Act.eval ⟨T,ai.D cx⟩) aa).run cx.P w=.ok .skip w':=by
    simp only[execOp,q,Sem.run_bind,W,Result.andThen_ok,Sem.run_pure]
   rw[la]
   show K (Act.put ⟨T,ai.D cx⟩ aa.dst undef) w'
   rw[ah]
   exact Z T w' ⟨m,lf⟩
  ·rename_i t x k v q
   split at o
   ·rename_i lt ln
    cases o
    have L:=pB (l:=[v]) U
    rw[<-O.P]at ln
    obtain⟨w',W,lf⟩:=Uy L ln
    unfold Oper.wp
    have la:(execOp (Act.eval ⟨T,ai.D cx⟩) aa).run cx.P w=.ok .skip w':=by
     simp only[execOp,q,Sem.run_bind,W,Result.andThen_ok,Sem.run_pure]
    rw[la]
    show K (Act.put ⟨T,ai.D cx⟩ aa.dst undef) w'
    rw[ah]
    exact Z T w' ⟨m,lf⟩
   ·cases o
  ·rename_i c q
   split at o
   ·rename_i r lb
    cases o
    have L:=pB (l:=gM E aa.op) U
    obtain⟨f,args,W,lg⟩:=rm O L q lb R
    unfold Oper.wp
    rw[W w]
    refine lg.mono ?_
    rintro e w' ⟨v,rfl,lh,_⟩
    show K (Act.put ⟨T,ai.D cx⟩ aa.dst v) w'
    rw[ah]
    exact Z T w' ⟨m,L.ext lh⟩
   ·cases o
  ·cases o
 ·rename_i d ah
  split at o
  ·rename_i lq
   have ld:d<cx.n:=by rw[O.n];exact cK lq
   have L:=pB (l:=gM E aa.op) U
   have fin:∀(v:Value) (w':World) (ay:Nat->Value) (le:af) (aO:ao),(execOp (Act.eval ⟨T,ai.D cx⟩) aa).run cx.P w=.ok (.value v) w'->an cx ay le T w'->aS w' (ar cx ay le.ids) ay v aO->le.put d aO=st'->aa.wp cx.P ⟨T,ai.D cx⟩ w K Q:=by
    intro v w' ay le aO la li Y e
    refine gg la ?_
    rw[ah]
    exact Z _ _ ⟨ay,e▸li.put ld Y⟩
   have lr:∀(c:Call) (r:dw),aa.op=.call c->kN E (gR st (gM E aa.op)) c orc=some r->bO r.ob->(gR st (gM E aa.op)).put d r.aO=st'->aa.wp cx.P ⟨T,ai.D cx⟩ w K Q:=by
    intro c r q lb R e
    obtain⟨f,args,W,lg⟩:=rm O L q lb R
    unfold Oper.wp
    rw[W w]
    refine lg.mono ?_
    rintro lu w' ⟨v,rfl,lh,Y⟩
    show K (Act.put ⟨T,ai.D cx⟩ aa.dst v) w'
    rw[ah]
    exact Z _ _ ⟨m,e▸(L.ext lh).put ld Y⟩
   split at o
   ·rename_i r lo
    cases o
    rw[<-O.P]at lo
    obtain⟨v,ls,Y⟩:=ya L lo R
    exact fin v w m _ _ (ls w (Ext.refl w)) L Y rfl
   ·split at o
    ·rename_i t x q
     split at o
     ·rename_i r lp
      cases o
      rw[<-O.P]at lp
      obtain⟨v,li,Y⟩:=ER U lp R
      exact fin v w m _ _ (cn (by simp only[execOp,q]) (li w (Ext.refl w))) U Y rfl
     ·cases o
    ·rename_i c q
     split at o
     ·rename_i r lb
      cases o
      exact lr c r q lb R rfl
     ·split at o
      ·rename_i r lc
       cases o
       rw[<-O.P]at lc
       obtain⟨v,w',ay,lj,lk,ll⟩:=JF U ld lc R
       exact fin v w' ay _ _ lj lk ll rfl
      ·cases o
    ·split at o
     ·rename_i r lc
      cases o
      rw[<-O.P]at lc
      obtain⟨v,w',ay,lj,lk,ll⟩:=JF L ld lc R
      exact fin v w' ay _ _ lj lk ll rfl
     ·cases o
  ·cases o
def DC(E:Env)(st:af)(aa:Oper)(orc:List ak):Option (af×List ak×List Prop):=
 match aa.op,orc with
 |.slice _ x none (some _) none,⟨.unit,_⟩::orc'=>nt E (gR st [x]) aa orc'
 |_,_=>nt E st aa orc
theorem OI{E:Env}(q:bv E cx)(h:al cx st T w){aa:Oper}{orc:List ak}{st':af}{orc':List ak}{ob:List Prop}(o:DC E st aa orc=some (st',orc',ob))(L:bO ob)
  {K:Act->World->Prop}{Q:Exit->Act->World->Prop}(O:∀R w',al cx st' R w'->K ⟨R,ai.D cx⟩ w'):aa.wp cx.P ⟨T,ai.D cx⟩ w K Q:=by
 unfold DC at o
 split at o
 ·obtain⟨m,U⟩:=h
  exact ra q ⟨m,pB U⟩ o L O
 ·exact ra q h o L O
end Go.Ev
namespace Go.Ev
open Go Go.RowKit
variable [b8]
variable {cx:bB} {m:Nat->Value} {st st':af} {T:Array Value} {w w':World}
variable [ai cx]
theorem tj{M:Nat->Prop}{k:eD}:∀{xs:List (Option k.el)} {us o:List Value} {i:Nat} {x:k.el},gx w M k xs us o->xs[i]? =some (some x)->∃u,us[i]? =some u/\o[i]? =some u/\jK w M u k x
 |[],[],[],i,x,_,h=>by simp at h
 |none::xs,_::us,_::o,0,x,_,h=>by simp at h
 |some y::xs,u::us,R::o,0,x,⟨L,O,_⟩,h=>by
  simp at h
  subst h
  exact⟨u,rfl,by rw[L];rfl,O⟩
 |none::xs,_::us,_::o,i+1,x,⟨_,h⟩,q=>by
  obtain⟨u,a,b,c⟩:=tj (i:=i) h (by simpa using q)
  exact⟨u,by simpa using a,by simpa using b,c⟩
 |some y::xs,_::us,_::o,i+1,x,⟨_,_,h⟩,q=>by
  obtain⟨u,a,b,c⟩:=tj (i:=i) h (by simpa using q)
  exact⟨u,by simpa using a,by simpa using b,c⟩
theorem tc{M M':Nat->Prop}{k:eD}(O:∀b,b<w.heap.size->¬M b->w'.heap[b]? =w.heap[b]?)(R:∀b,b<w.heap.size->M' b->M b){x':k.el}{Z:Value}(W:jK w' M' Z k x'):
  ∀{xs:List (Option k.el)} {us L:List Value} {i:Nat},(∀j v,j≠i->L[j]? =some v->∀b,aT v=some b->w'.heap[b]? =w.heap[b]?)->gx w M k xs us L->gx w' M' k (xs.set i (some x')) (us.set i Z) (L.set i Z)
 |[],[],[],_,_,_=>trivial
 |none::xs,_::us,_::L,0,q,⟨_,h⟩=>⟨rfl,W,oR O R (fun u la b o=>by
   obtain⟨j,U⟩:=List.getElem?_of_mem la
   exact q (j+1) u (by omega) (by simpa using U) b o) h⟩
 |some y::xs,_::us,_::L,0,q,⟨_,_,h⟩=>⟨rfl,W,oR O R (fun u la b o=>by
   obtain⟨j,U⟩:=List.getElem?_of_mem la
   exact q (j+1) u (by omega) (by simpa using U) b o) h⟩
 |none::xs,_::us,_::L,i+1,q,⟨Y,h⟩=>⟨Y,tc O R W (fun j v U lb b o=>q (j+1) v (by omega) (by simpa using lb) b o) h⟩
 |some y::xs,u::us,lc::L,i+1,q,⟨Y,ld,h⟩=>⟨Y,HN O R (fun b o=>q 0 lc (by omega) rfl b (by rw[Y];exact o)) ld,tc O R W (fun j v U lb b o=>q (j+1) v (by omega) (by simpa using lb) b o) h⟩
theorem AP{M:Nat->Prop}{k:eD}:∀{xs:List (Option k.el)} {us o:List Value} {i:Nat},gx w M k xs us o->gx w M k (xs.set i none) us (o.set i undef)
 |[],[],[],_,_=>trivial
 |none::xs,_::us,_::o,0,⟨_,h⟩=>⟨rfl,h⟩
 |some y::xs,_::us,_::o,0,⟨_,_,h⟩=>⟨rfl,h⟩
 |none::xs,_::us,_::o,i+1,⟨q,h⟩=>⟨q,AP h⟩
 |some y::xs,u::us,O::o,i+1,⟨q,L,h⟩=>⟨q,L,AP h⟩
theorem o7{us:List Value}{b:Nat}:b∈us.filterMap aT↔∃(j:Nat) (v:Value),us[j]? =some v/\aT v=some b:=by
 rw[List.mem_filterMap]
 constructor
 ·rintro⟨v,q,h⟩
  obtain⟨j,o⟩:=List.getElem?_of_mem q
  exact⟨j,v,o,h⟩
 ·rintro⟨j,v,o,h⟩
  exact⟨v,List.mem_of_getElem? o,h⟩
theorem BO:∀{us:List Value} {i j:Nat} {u v:Value} {b:Nat},(us.filterMap aT).Nodup->us[i]? =some u->us[j]? =some v->i≠j->aT u=some b->aT v≠some b
 |[],i,j,u,v,b,_,h,_,_,_=>by simp at h
 |x::us,0,0,u,v,b,_,_,_,R,_=>absurd rfl R
 |x::us,0,j+1,u,v,b,o,q,L,_,O=>by
  simp at q
  subst q
  rw[List.filterMap_cons,O,List.nodup_cons]at o
  intro U
  exact o.1 (o7.2 ⟨j,v,by simpa using L,U⟩)
 |x::us,i+1,0,u,v,b,o,q,L,_,O=>by
  simp at L
  subst L
  intro U
  rw[List.filterMap_cons,U,List.nodup_cons]at o
  exact o.1 (o7.2 ⟨i,u,by simpa using q,O⟩)
 |x::us,i+1,j+1,u,v,b,o,q,L,R,O=>by
  have W:(us.filterMap aT).Nodup:=by
   rw[List.filterMap_cons]at o
   split at o
   ·exact o
   ·exact(List.nodup_cons.1 o).2
  exact BO W (by simpa using q) (by simpa using L) (fun e=>R (by rw[e])) O
theorem DX:∀{us:List Value} {i:Nat} {u:Value},(us.filterMap aT).Nodup->(∀b,aT u=some b->∀j v,j≠i->us[j]? =some v->aT v≠some b)->((us.set i u).filterMap aT).Nodup
 |[],_,_,h,_=>h
 |x::us,0,u,o,O=>by
  have R:(us.filterMap aT).Nodup:=by
   rw[List.filterMap_cons]at o
   split at o
   ·exact o
   ·exact(List.nodup_cons.1 o).2
  rw[List.set_cons_zero,List.filterMap_cons]
  split
  ·exact R
  ·rename_i b q
   refine List.nodup_cons.2 ⟨fun U=>?_,R⟩
   obtain⟨j,v,Z,W⟩:=o7.1 U
   exact O b q (j+1) v (by omega) (by simpa using Z) W
 |x::us,i+1,u,o,O=>by
  have R:(us.filterMap aT).Nodup:=by
   rw[List.filterMap_cons]at o
   split at o
   ·exact o
   ·exact(List.nodup_cons.1 o).2
  have Y:=DX (i:=i) (u:=u) R (fun b q j v la L=>O b q (j+1) v (by omega) (by simpa using L))
  rw[List.set_cons_succ,List.filterMap_cons]
  split
  ·exact Y
  ·rename_i b q
   refine List.nodup_cons.2 ⟨fun U=>?_,Y⟩
   rw[List.mem_filterMap]at U
   obtain⟨v,L,W⟩:=U
   rcases List.mem_or_eq_of_mem_set L with L|rfl
   ·rw[List.filterMap_cons,q,List.nodup_cons]at o
    exact o.1 (List.mem_filterMap.2 ⟨v,L,W⟩)
   ·exact O b W 0 x (by omega) rfl q
theorem an.aZ(h:an cx m st T w){b e:Nat}{k:eD}{xs:List (Option k.el)}(W:look st.ad b=some (.aZ e k xs)):
  ∃g cap us o cur,m b=.tuple (.slice (some ⟨g,0,none⟩) xs.length cap::o).toArray/\(∀L,own (m b) L->cx.w0.heap.size<=L\/cx.X L)/\w.ownsRow 0 e 1 (.slice (some ⟨g,0,none⟩) xs.length cap) xs.length us/\
   w.heap[g]? =some (.cells cur e (0,0))/\xs.length<=cap/\cap<=maxLen/\cur.size=cap/\cur.toList.take xs.length=us/\gx w (ar cx m st.ids) k xs us o/\(g::o.filterMap aT).Nodup:=by
 obtain⟨g,_,Y,n,cap,us,o,Z,O,la,lb⟩:=h.boxes b _ (a8 W)
 rcases O.2 with ⟨q,_⟩|⟨L,lf,cur,q,_,lc,ld,le,R,U⟩
 ·cases q
 ·have lg:=q
  simp only[Value.slice.injEq,Option.some.injEq,Addr.mk.injEq,and_true]at q
  obtain⟨rfl,rfl,rfl⟩:=q
  rw[Nat.mul_one]at R U
  exact⟨g,cap,us,o,cur,Z,Y,O,lc,ld,le,R,U,la,lb⟩
def ao.pv(b:Nat):ao->ao
 |.osl c=>.osl c
 |.fC c i=>.fC c i
 |s=>bif s.refs b then .any else s
theorem UZ{M:Nat->Prop}{b:Nat}{r v2:Value}{us O:List Value}(U:m b=.tuple (r::us).toArray)(W:v2=.tuple (r::O).toArray){v:Value}{s:ao}(h:aS w M m v s):aS w M (bx m b v2) v (s.pv b):=by
 have o:∀s:ao,aS w M m v s->aS w M (bx m b v2) v (bif s.refs b then .any else s):=by
  intro s Y
  cases Z:s.refs b with
  |true=>trivial
  |false=>exact u7 Z Y
 cases s with
 |osl c=>
  by_cases e:c=b
  ·subst e
   obtain⟨L,q⟩:=h
   refine⟨O,?_⟩
   rw[cd,W]
   rw[U]at q
   simp only[Value.tuple.injEq,Array.mk.injEq,List.cons.injEq]at q
   rw[q.1]
  ·obtain⟨L,q⟩:=h
   exact⟨L,by rw[cR _ _ e];exact q⟩
 |fC c i=>
  by_cases e:c=b
  ·subst e
   obtain⟨g,n,cap,L,q,R⟩:=h
   refine⟨g,n,cap,O,?_,R⟩
   rw[cd,W]
   rw[U]at q
   simp only[Value.tuple.injEq,Array.mk.injEq,List.cons.injEq]at q
   rw[q.1]
  ·obtain⟨g,n,cap,L,q,R⟩:=h
   exact⟨g,n,cap,L,by rw[cR _ _ e];exact q,R⟩
 |any=>exact o _ h
 |undef=>exact o _ h
 |val t x=>exact o _ h
 |dD l=>exact o _ h
 |fM l=>exact o _ h
 |ptr a aa=>exact o _ h
 |eX a=>exact o _ h
 |vptr t x=>exact o _ h
 |row r=>exact o _ h
 |dN r i aa z=>exact o _ h
 |clos f bs=>exact o _ h
 |iter a=>exact o _ h
 |dz a p=>exact o _ h
 |sub a i=>exact o _ h
 |b9 f b=>exact o _ h
 |dM b i aa s=>exact o _ h
 |eV b i j aa s=>exact o _ h
 |ah n=>exact o _ h
 |eO l=>exact o _ h
def af.ge(st:af)(b c:Nat)(c2:bT):af:=
 {ab:=st.ab.map fun p=>(p.1,p.2.pv b),ad:=(b,c2)::((del (del st.ad b) c).map fun p=>(p.1,p.2.map (ao.pv b))),rw:=st.rw}
theorem an.ge(h:an cx m st T w){b c:Nat}{lH lI c2:bT}(lA:(b,lH)∈st.ad)(lB:(c,lI)∈st.ad)(lU:b<cx.n){r v2:Value}{us lJ:List Value}(lK:m b=.tuple (r::us).toArray)(lL:v2=.tuple (r::lJ).toArray){g:Nat}(lk:Touch m w b w')
  (lr:∀o,own v2 o->own (m b) o\/own (m c) o)(lM:ia v2 g c2)(lN:gG w' (ar cx (bx m b v2) (st.ge b c c2).ids) (bx m b v2) v2 g c2):an cx (bx m b v2) (st.ge b c c2) T w':=by
 have Z:b∈st.ids:=List.mem_append.2 (.inl (List.mem_map.2 ⟨_,lA,rfl⟩))
 have ls:c∈st.ids:=List.mem_append.2 (.inl (List.mem_map.2 ⟨_,lB,rfl⟩))
 have ll:∀c',(b,c')∉st.rw:=fun c' q=>(List.nodup_append.1 h.keys).2.2 b (List.mem_map.2 ⟨_,lA,rfl⟩) b (List.mem_map.2 ⟨_,q,rfl⟩) rfl
 have lO:∀c',(c,c')∉st.rw:=fun c' q=>(List.nodup_append.1 h.keys).2.2 c (List.mem_map.2 ⟨_,lB,rfl⟩) c (List.mem_map.2 ⟨_,q,rfl⟩) rfl
 have lt:∀i,i∈(st.ge b c c2).ids->i∈st.ids/\(i=b\/(i≠b/\i≠c)):=by
  intro i U
  rcases List.mem_append.1 U with U|U
  ·obtain⟨⟨j,s⟩,R,rfl⟩:=List.mem_map.1 U
   rcases List.mem_cons.1 R with R|R
   ·cases R;exact⟨Z,.inl rfl⟩
   ·obtain⟨⟨le,lm⟩,li,lb⟩:=List.mem_map.1 R
    cases lb
    obtain⟨lc,ln⟩:=cT.1 li
    obtain⟨lf,lg⟩:=cT.1 lc
    exact⟨List.mem_append.2 (.inl (List.mem_map.2 ⟨_,lf,rfl⟩)),.inr ⟨lg,ln⟩⟩
  ·obtain⟨⟨j,s⟩,R,rfl⟩:=List.mem_map.1 U
   exact⟨List.mem_append.2 (.inr (List.mem_map.2 ⟨_,R,rfl⟩)),.inr ⟨fun e=>ll s (by rw[<-e];exact R),fun e=>lO s (by rw[<-e];exact R)⟩⟩
 have Y:∀{i:Nat},i≠b->bx m b v2 i=m i:=fun lo=>cR _ _ lo
 have lu:∀o,o<w.heap.size->¬ar cx m st.ids o->w'.heap[o]? =w.heap[o]? :=fun o W lP=>lk.block o W fun e=>lP (.inr ⟨b,Z,e⟩)
 have lv:∀o,o<w.heap.size->ar cx (bx m b v2) (st.ge b c c2).ids o->ar cx m st.ids o:=by
  rintro o _ (lQ|⟨i,U,O⟩)
  ·exact .inl lQ
  ·obtain⟨lc,ln⟩:=lt i U
   by_cases e:i=b
   ·subst e
    rw[cd]at O
    rcases lr o O with q|q
    ·exact .inr ⟨i,Z,q⟩
    ·exact .inr ⟨c,ls,q⟩
   ·rw[Y e]at O
    exact .inr ⟨i,lc,O⟩
 have lC:∀v s,aS w (ar cx m st.ids) m v s->aS w' (ar cx (bx m b v2) (st.ge b c c2).ids) (bx m b v2) v (s.pv b):=fun v s lh=>UZ lK lL (fh lu lv lh)
 refine{size:=h.size,frame:=h.CE Z lk,outer:=h.outer,cJ:=fun i aO U=>?_,boxes:=fun j c' L=>?_,rows:=fun j c' L=>?_,apart:=fun i j U L lo o O W=>?_,keys:=?_,fixed:=fun j c' L lR lw=>?_,kept:=fun j c' L lw lx=>?_}
 rotate_right
 ·rw[Y (fun e=>ll c' (by rw[<-e];exact L))]
  exact h.kept j c' L lw lx
 ·obtain⟨⟨j,s⟩,R,lb⟩:=List.mem_map.1 U
  cases lb
  obtain⟨v,lp,a2⟩:=h.cJ j s R
  exact⟨v,lp,lC v s a2⟩
 ·rcases List.mem_cons.1 L with L|L
  ·cases L
   rw[cd]
   refine⟨g,lM,fun o W=>?_,lN⟩
   rcases lr o W with q|q
   ·exact(h.lt Z q).2
   ·exact(h.lt ls q).2
  ·obtain⟨⟨le,lm⟩,li,lb⟩:=List.mem_map.1 L
   cases lb
   obtain⟨lc,ln⟩:=cT.1 li
   obtain⟨lf,lg⟩:=cT.1 lc
   obtain⟨o,lj,ly,lz⟩:=h.boxes le lm lf
   rw[Y lg]
   have la:le∈st.ids:=List.mem_append.2 (.inl (List.mem_map.2 ⟨_,lf,rfl⟩))
   exact⟨o,iT.2 lj,ly,iH lu lv (gF lj) (fun lD lE=>lk.block lD (h.lt la lE).1 fun e=>h.apart b le Z la (fun e=>lg e.symm) lD e lE) lC lz⟩
 ·obtain⟨cells,lj,ly,lz⟩:=h.rows j c' L
  have lq:j≠b:=fun e=>ll c' (by rw[<-e];exact L)
  have la:j∈st.ids:=List.mem_append.2 (.inr (List.mem_map.2 ⟨_,L,rfl⟩))
  rw[Y lq]
  refine⟨cells,⟨lj.1,?_⟩,ly,di (fun _ _=>cC lu lv c'.t) lz⟩
  rcases lj.2 with q|⟨o,cap,cur,lh,lS,q,rest⟩
  ·exact .inl q
  ·have O:own (m j) o:=by rw[lh];exact gi rfl
   exact .inr ⟨o,cap,cur,lh,lS,by rw[lk.block o (h.lt la O).1 fun e=>h.apart b j Z la (fun e=>lq e.symm) o e O];exact q,rest⟩
 ·obtain⟨lp,a2⟩:=lt i U
  obtain⟨lF,ld⟩:=lt j L
  have key:∀{j:Nat},j∈st.ids->j≠b->j≠c->own v2 o->own (m j) o->False:=by
   intro j la lq lT lh O
   rcases lr o lh with q|q
   ·exact h.apart b j Z la (fun e=>lq e.symm) o q O
   ·exact h.apart c j ls la (fun e=>lT e.symm) o q O
  rcases a2 with rfl|⟨a2,a3⟩
  ·rcases ld with rfl|⟨ld,lG⟩
   ·exact lo rfl
   ·rw[cd]at O
    rw[Y ld]at W
    exact key lF ld lG O W
  ·rcases ld with rfl|⟨ld,lG⟩
   ·rw[cd]at W
    rw[Y a2]at O
    exact key lp a2 a3 W O
   ·rw[Y a2]at O
    rw[Y ld]at W
    exact h.apart i j lp lF lo o O W
 ·have lx:(st.ge b c c2).ids=b::(((del (del st.ad b) c).map (·.1))++st.rw.map (·.1)):=by
   show(b::((del (del st.ad b) c).map fun p=>(p.1,p.2.map (ao.pv b))).map (·.1))++st.rw.map (·.1)=_
   simp[List.map_map,Function.comp_def]
  rw[lx]
  refine List.nodup_cons.2 ⟨fun q=>?_,?_⟩
  ·rcases List.mem_append.1 q with q|q
   ·obtain⟨⟨j,s⟩,R,e⟩:=List.mem_map.1 q
    exact(cT.1 (cT.1 R).1).2 e
   ·obtain⟨⟨j,s⟩,R,e⟩:=List.mem_map.1 q
    exact ll s (by rw[<-e];exact R)
  ·rw[kb,kb]
   exact h.keys.sublist (List.Sublist.append (List.filter_sublist.trans List.filter_sublist) (List.Sublist.refl _))
 ·rcases List.mem_cons.1 L with L|L
  ·cases L;omega
  ·obtain⟨⟨le,lm⟩,li,lb⟩:=List.mem_map.1 L
   cases lb
   obtain⟨lc,ln⟩:=cT.1 li
   obtain⟨lf,lg⟩:=cT.1 lc
   rw[Y lg]
   exact h.fixed le lm lf (jS.symm.trans lR) lw
def ao.pT(r:Nat):ao->ao
 |.row b=>bif Nat.beq b r then .osl r else .row b
 |s=>bif s.refs r then .any else s
def af.jJ(st:af)(r:Nat)(c2:bT):af:=
 {ab:=st.ab.map fun p=>(p.1,p.2.pT r),ad:=(r,c2)::(st.ad.map fun p=>(p.1,p.2.map (ao.pT r))),rw:=del st.rw r}
theorem OC{M:Nat->Prop}{b:Nat}{v2:Value}{L:List Value}(O:v2=.tuple (m b::L).toArray){v:Value}{s:ao}(h:aS w M m v s):aS w M (bx m b v2) v (s.pT b):=by
 have o:∀s:ao,aS w M m v s->aS w M (bx m b v2) v (bif s.refs b then .any else s):=by
  intro s R
  cases q:s.refs b with
  |true=>trivial
  |false=>exact u7 q R
 cases s with
 |row r=>
  show aS _ _ _ _ (bif Nat.beq r b then .osl b else .row r)
  cases q:Nat.beq r b with
  |true=>
   have e:=Nat.eq_of_beq_eq_true q
   subst e
   have U:v=m r:=h
   exact⟨L,by rw[cd,O,U]⟩
  |false=>exact u7 q h
 |osl c=>exact o _ h
 |fC c i=>exact o _ h
 |any=>exact o _ h
 |undef=>exact o _ h
 |val t x=>exact o _ h
 |dD l=>exact o _ h
 |fM l=>exact o _ h
 |ptr a aa=>exact o _ h
 |eX a=>exact o _ h
 |vptr t x=>exact o _ h
 |dN r i aa z=>exact o _ h
 |clos f bs=>exact o _ h
 |iter a=>exact o _ h
 |dz a p=>exact o _ h
 |sub a i=>exact o _ h
 |b9 f b=>exact o _ h
 |dM b i aa s=>exact o _ h
 |eV b i j aa s=>exact o _ h
 |ah n=>exact o _ h
 |eO l=>exact o _ h
theorem Hi{M:Nat->Prop}{k v:ag}:∀{n:Nat} {cells:List Value},bM (aH w M (.map k v)) cells (List.replicate n none)->cells=List.replicate n (.map none)
 |0,_,h=>h
 |n+1,_,⟨q,c2,e,o,L⟩=>by
  have o:q=[Value.map none]:=o
  rw[e,o,Hi L]
  rfl
theorem Gn{M:Nat->Prop}{k v:ag}:∀(n:Nat),gx w M (.mp k v) ((List.replicate n none).map some) (List.replicate n (.map none)) (List.replicate n (.map none))
 |0=>trivial
 |n+1=>⟨rfl,rfl,Gn n⟩
theorem an.jJ(h:an cx m st T w){r e n:Nat}{k v:ag}(lh:(r,(⟨e,.map k v,List.replicate n none⟩:cE))∈st.rw)(lL:0<n)(lM:r<cx.n):∃ay,an cx ay (st.jJ r (.aZ e (.mp k v) ((List.replicate n none).map some))) T w:=by
 obtain⟨cells,ld,lA,lB⟩:=h.rows r _ lh
 have lC:r∈st.ids:=List.mem_append.2 (.inr (List.mem_map.2 ⟨_,lh,rfl⟩))
 have lD:=Hi lB
 subst lD
 have lu:List.length (α:=(ag.map k v).el) (List.replicate n none)=n:=List.length_replicate
 simp only at ld lu
 rw[lu]at ld
 have lE:=ld
 rcases ld.2 with ⟨_,lN⟩|⟨g,cap,cur,le,lO,O,rest⟩
 ·omega
 generalize lF:bT.aZ e (.mp k v) ((List.replicate n none).map some)=c2
 have Z:∀{i:Nat} {v2:Value},i≠r->bx m r v2 i=m i:=fun li=>cR _ _ li
 obtain⟨v2,lf⟩:∃v2,v2=Value.tuple (m r::List.replicate n (.map none)).toArray:=⟨_,rfl⟩
 have lv:∀o,own v2 o↔own (m r) o:=by
  intro o
  rw[lf,dg,le]
  constructor
  ·rintro(O|⟨u,la,lw⟩)
   ·exact gi O
   ·rw[List.eq_of_mem_replicate la]at lw;cases lw
  ·intro O;exact .inl O
 have lj:∀c',(r,c')∉st.ad:=fun c' O=>(List.nodup_append.1 h.keys).2.2 r (List.mem_map.2 ⟨_,O,rfl⟩) r (List.mem_map.2 ⟨_,lh,rfl⟩) rfl
 have lk:∀i,i∈(st.jJ r c2).ids->i∈st.ids:=by
  intro i R
  rcases List.mem_append.1 R with R|R
  ·obtain⟨⟨j,s⟩,q,rfl⟩:=List.mem_map.1 R
   rcases List.mem_cons.1 q with q|q
   ·cases q;exact lC
   ·obtain⟨⟨lb,Y⟩,U,W⟩:=List.mem_map.1 q
    cases W
    exact List.mem_append.2 (.inl (List.mem_map.2 ⟨_,U,rfl⟩))
  ·obtain⟨⟨j,s⟩,q,rfl⟩:=List.mem_map.1 R
   exact List.mem_append.2 (.inr (List.mem_map.2 ⟨_,(cT.1 q).1,rfl⟩))
 have ll:∀i o,own (bx m r v2 i) o↔own (m i) o:=by
  intro i o
  by_cases lx:i=r
  ·subst lx;rw[cd];exact lv o
  ·rw[Z lx]
 have lm:∀o,o<w.heap.size->¬ar cx m st.ids o->w.heap[o]? =w.heap[o]? :=fun _ _ _=>rfl
 have ln:∀o,o<w.heap.size->ar cx (bx m r v2) (st.jJ r c2).ids o->ar cx m st.ids o:=by
  rintro o _ (lG|⟨i,R,lo⟩)
  ·exact .inl lG
  ·exact .inr ⟨i,lk i R,(ll i o).1 lo⟩
 have lH:∀j c',(j,c')∈(st.jJ r c2).rw->cx.n<=j->ep<=j->bx m r v2 j=cx.m0 j:=by
  intro j c' L lp lq
  obtain⟨q,lc⟩:=cT.1 L
  rw[Z lc]
  exact h.kept j c' q lp lq
 have ly:∀u s,aS w (ar cx m st.ids) m u s->aS w (ar cx (bx m r v2) (st.jJ r c2).ids) (bx m r v2) u (s.pT r):=fun u s la=>OC lf (fh lm ln la)
 refine⟨bx m r v2,{size:=h.size,frame:=h.frame,outer:=h.outer,cJ:=fun i aO R=>?_,boxes:=fun j c' L=>?_,rows:=fun j c' L=>?_,apart:=fun i j R L li o lo lr=>h.apart i j (lk i R) (lk j L) li o ((ll i o).1 lo) ((ll j o).1 lr),keys:=?_,fixed:=fun j c' L lI lp=>?_,kept:=lH}⟩
 ·obtain⟨⟨j,s⟩,q,W⟩:=List.mem_map.1 R
  cases W
  obtain⟨u,lJ,a2⟩:=h.cJ j s q
  exact⟨u,lJ,ly u s a2⟩
 ·rcases List.mem_cons.1 L with L|L
  ·cases L
   rw[cd,<-lF,lf,le]
   have lK:((List.replicate n (none:Option (List (k.el×v.el)))).map some).length=n:=by simp
   refine⟨g,⟨n,cap,_,rfl⟩,fun o lr=>lA o ((lv o).1 (by rw[lf,le];exact lr)),n,cap,List.replicate n (.map none),List.replicate n (.map none),rfl,?_,Gn n,?_⟩
   ·have lz:=lE
    rw[le]at lz
    show World.ownsRow w 0 e 1 _ (List.length ((List.replicate n none).map some)) _
    rw[lK]
    exact lz
   ·have:(List.replicate n (Value.map none)).filterMap aT=[]:=by
     rw[List.filterMap_eq_nil_iff]
     intro u la
     rw[List.eq_of_mem_replicate la]
     rfl
    rw[this]
    simp
  ·obtain⟨⟨lb,Y⟩,U,W⟩:=List.mem_map.1 L
   cases W
   obtain⟨o,lg,ls,lt⟩:=h.boxes lb Y U
   have lc:lb≠r:=fun e=>lj Y (by rw[<-e];exact U)
   rw[Z lc]
   exact⟨o,iT.2 lg,ls,iH lm ln (gF lg) (fun _ _=>rfl) ly lt⟩
 ·obtain⟨q,lc⟩:=cT.1 L
  obtain⟨cells,lg,ls,lt⟩:=h.rows j c' q
  rw[Z lc]
  exact⟨cells,lg,ls,di (fun _ _=>cC lm ln c'.t) lt⟩
 ·have lq:(st.jJ r c2).ids=r::(st.ad.map (·.1)++(del st.rw r).map (·.1)):=by
   show(r::(st.ad.map fun p=>(p.1,p.2.map (ao.pT r))).map (·.1))++(del st.rw r).map (·.1)=_
   simp[List.map_map,Function.comp_def]
  rw[lq]
  refine List.nodup_cons.2 ⟨fun O=>?_,?_⟩
  ·rcases List.mem_append.1 O with O|O
   ·obtain⟨⟨j,s⟩,q,e⟩:=List.mem_map.1 O
    exact lj s (by rw[<-e];exact q)
   ·obtain⟨⟨j,s⟩,q,e⟩:=List.mem_map.1 O
    exact(cT.1 q).2 e
  ·rw[kb]
   exact h.keys.sublist (List.Sublist.append (List.Sublist.refl _) List.filter_sublist)
 ·rcases List.mem_cons.1 L with L|L
  ·cases L;omega
  ·obtain⟨⟨lb,Y⟩,U,W⟩:=List.mem_map.1 L
   cases W
   rw[Z (fun e=>lj Y (by rw[<-e];exact U))]
   exact h.fixed lb Y U (jS.symm.trans lI) lp
theorem an.R3(h:an cx m st T w){r e n:Nat}{k v:ag}{xs:List (ag.map k v).el}(o:(r,(⟨e,.map k v,xs⟩:cE))∈st.rw)(q:xs=List.replicate n (show(ag.map k v).el from none))(L:0<n)(O:r<cx.n):
  ∃ay,an cx ay (st.jJ r (.aZ e (.mp k v) (show List (Option (eD.mp k v).el)from List.map some xs))) T w:=by
 subst q
 exact h.jJ o L O
theorem IV(U:an cx m st T w){b e:Nat}{n:Int}{k:eD}{xs:List (Option k.el)}{y:k.el}(Z:look st.ad b=some (.aZ e k xs))(la:xs[n.toNat]? =some (some y)){x:Operand}(lb:aR st x=some (.fC b n))
  {t:TypeId}{u:ag}(lc:ty cx.P t=some u)(ld:u.cells=1)(le:u.agg=false):
  ∃g cap us o,m b=.tuple (.slice (some ⟨g,0,none⟩) xs.length cap::o).toArray/\(g::o.filterMap aT).Nodup/\gx w (ar cx m st.ids) k xs us o/\w.ownsRow 0 e 1 (.slice (some ⟨g,0,none⟩) xs.length cap) xs.length us/\
   ∃v,us[n.toNat]? =some v/\o[n.toNat]? =some v/\jK w (ar cx m st.ids) v k y/\(Instr.loadAt t (Act.eval ⟨T,ai.D cx⟩ x)).run cx.P w=.ok v w:=by
 obtain⟨g,cap,us,o,cur,W,_,lf,lg,lo,lp,lq,lh,Y,li⟩:=U.aZ Z
 obtain⟨g2,lr,ls,lt,L,a2⟩:=be U lb
 rw[W]at L
 have:g2=g:=by
  simp only[Value.tuple.injEq,Array.mk.injEq,List.cons.injEq,Value.slice.injEq,Option.some.injEq,Addr.mk.injEq]at L
  exact L.1.1.1.symm
 subst this
 obtain⟨v,q,lj,lk⟩:=tj Y la
 refine⟨g2,cap,us,o,W,li,Y,lf,v,q,lj,lk,?_⟩
 have ll:Instr.loadAt t (Act.eval ⟨T,ai.D cx⟩ x)=loadVar t ⟨g2,n.toNat,none⟩:=by rw[a2];rfl
 rw[ll]
 obtain⟨v',lm,O⟩:=jm (c:=[v]) lc lg (fun j v2 R=>by
  have ln:j=0:=by have:=(List.getElem?_eq_some_iff.1 R).1;simpa using this
  subst ln
  simp at R
  subst R
  rw[<-lh,List.getElem?_take]at q
  split at q
  ·simpa using q
  ·cases q) (by rw[ld];rfl) (fun _=>by omega)
 rw[le]at O
 simp at O
 subst O
 exact lm w (Ext.refl w)
theorem GW(L:an cx m st T w){b e:Nat}{n:Int}{k:eD}{xs:List (Option k.el)}{y:k.el}(Y:look st.ad b=some (.aZ e k xs))(Z:xs[n.toNat]? =some (some y)){x:Operand}(la:aR st x=some (.sub b n)):
  ∃g cap us o,m b=.tuple (.slice (some ⟨g,0,none⟩) xs.length cap::o).toArray/\(g::o.filterMap aT).Nodup/\gx w (ar cx m st.ids) k xs us o/\w.ownsRow 0 e 1 (.slice (some ⟨g,0,none⟩) xs.length cap) xs.length us/\
   us[n.toNat]? =some (Act.eval ⟨T,ai.D cx⟩ x)/\o[n.toNat]? =some (Act.eval ⟨T,ai.D cx⟩ x)/\jK w (ar cx m st.ids) (Act.eval ⟨T,ai.D cx⟩ x) k y:=by
 obtain⟨g,cap,us,o,cur,O,_,lb,lf,lg,lh,li,lj,R,lc⟩:=L.aZ Y
 obtain⟨bW,U,q,a2⟩:=be L la
 rw[O]at q
 have:U=o:=by
  simp only[Value.tuple.injEq,Array.mk.injEq,List.cons.injEq]at q
  exact q.2.symm
 subst this
 obtain⟨v,ld,W,le⟩:=tj R Z
 rw[a2]at W
 cases W
 exact⟨g,cap,us,U,O,lc,R,lb,ld,a2,le⟩
def B9(E:Env)(st:af)(aa:Oper)(orc:List ak):Option (af×List ak×List Prop):=
 match aa.dst with
 |some d=>match Nat.blt d E.n with
  |true=>match aa.op with
   |.indexAddr t x i=>match aR st x,dV (aR st i),ty E.P t with
    |some (.osl b),some n,some (.ab u)=>match look st.ad b,Nat.beq u.cells 1 with
     |some (.aZ _ _ xs),true=>some (st.put d (.fC b n),orc,[0<=n/\n<(xs.length:Int)])
     |_,_=>none
    |_,_,_=>none
   |.load t x=>match aR st x,ty E.P t with
    |some (.fC b n),some u=>match look st.ad b,Nat.beq u.cells 1&&!u.agg,orc with
     |some (.aZ e (.mp k v) xs),true,⟨.unit,_⟩::a::orc'=>match a.as (.map k v),Nat.blt b E.n with
      |some y,true=>some ((st.ge b b (.aZ e (.mp k v) (xs.set n.toNat none))).put d (.val (.map k v) y),orc',[xs[n.toNat]? =some (some (show(eD.mp k v).el from y))])
      |_,_=>none
     |some (.aZ _ (.mp k v) xs),true,a::orc'=>match a.as (.map k v)with
      |some y=>some (st.put d (.sub b n),orc',[xs[n.toNat]? =some (some (show(eD.mp k v).el from y))])
      |none=>none
     |_,_,_=>none
    |_,_=>none
   |.call {callee:=.builtin .len,args:=args,argTypes:=L}=>match args.toList,L.toList with
    |[x],[t]=>match aR st x,ty E.P t with
     |some (.sub b n),some (.map _ _)=>match look st.ad b,orc with
      |some (.aZ _ (.mp k v) xs),a::orc'=>match a.as (.map k v)with
       |some y=>some (st.put d (.val (.int .i64) ((Option.getD (α:=List (k.el×v.el)) y []).length:Int)),orc',[xs[n.toNat]? =some (some (show(eD.mp k v).el from y))])
       |none=>none
      |_,_=>none
     |_,_=>none
    |_,_=>none
   |.makeSlice _ _ _=>match orc with
    |⟨.unit,_⟩::orc'=>match nt E st aa orc' with
     |some (o,O,ob)=>match look o.rw d,Nat.beq d d with
      |some ⟨e,.map k v,xs⟩,true=>some (o.jJ d (.aZ e (.mp k v) (show List (Option (eD.mp k v).el)from List.map some xs)),O,(xs=List.replicate xs.length (show(ag.map k v).el from none)/\0<xs.length)::ob)
      |_,_=>none
     |none=>none
    |_=>none
   |_=>none
  |false=>none
 |none=>match aa.op with
  |.mapUpdate t x R U=>match aR st x,E.P.underlying t,dm st R,dm st U with
   |some (.sub b n),some (.map q W),some kv,some vv=>match look st.ad b,ty E.P q,ty E.P W,orc with
    |some (.aZ e (.mp k v) xs),some Y,some Z,a::orc'=>match kv.as k,vv.as v,k.beq Y&&(v.beq Z&&(k.flat&&dX E.P 16 q)),a.as (.map k v)with
     |some y,some z,true,some (some ps)=>some (st.cY b (.aZ e (.mp k v) (xs.set n.toNat (some (show(eD.mp k v).el from some (cm (aQ k) ps y z))))),orc',[xs[n.toNat]? =some (some (show(eD.mp k v).el from some ps))])
     |_,_,_,_=>none
    |_,_,_,_=>none
   |_,_,_,_=>none
  |.store t x y=>match aR st x,aR st y,ty E.P t with
   |some (.fC b n),some (.iter c),some u=>match look st.ad b,look st.ad c,Nat.beq u.cells 1&&(!u.agg&&Nat.blt b E.n)with
    |some (.aZ e (.mp k v) xs),some (.mp k' v' ps),true=>match(⟨.map k' v',some ps⟩:ak).as (.map k v)with
     |some y=>some (st.ge b c (.aZ e (.mp k v) (xs.set n.toNat (some (show(eD.mp k v).el from y)))),orc,[0<=n/\n<(xs.length:Int)])
     |none=>none
    |_,_,_=>none
   |_,_,_=>none
  |_=>none
theorem U8{E:Env}(lp:bv E cx)(h:al cx st T w){aa:Oper}{orc:List ak}{st':af}{orc':List ak}{ob:List Prop}(o:B9 E st aa orc=some (st',orc',ob))(lt:bO ob)
  {K:Act->World->Prop}{Q:Exit->Act->World->Prop}(lB:∀lR w',al cx st' lR w'->K ⟨lR,ai.D cx⟩ w'):aa.wp cx.P ⟨T,ai.D cx⟩ w K Q:=by
 obtain⟨m,R⟩:=h
 unfold B9 at o
 split at o
 ·rename_i d ah
  split at o
  case h_2=>cases o
  rename_i aN
  have lD:d<cx.n:=by rw[lp.n];exact cK aN
  have fin:∀(v:Value) (w':World) (ay:Nat->Value) (lS:af) (aO:ao),(execOp (Act.eval ⟨T,ai.D cx⟩) aa).run cx.P w=.ok (.value v) w'->an cx ay lS T w'->aS w' (ar cx ay lS.ids) ay v aO->lS.put d aO=st'->aa.wp cx.P ⟨T,ai.D cx⟩ w K Q:=by
   intro v w' ay lS aO lx lE l0 e
   refine gg lx ?_
   rw[ah]
   exact lB _ _ ⟨ay,e▸lE.put lD l0⟩
  split at o
  ·rename_i t x i lg
   split at o
   case h_2=>cases o
   rename_i b n u lc U ld
   split at o
   case h_2=>cases o
   rename_i e k xs Z la
   cases o
   rw[<-lp.P]at ld
   have la:=Nat.eq_of_beq_eq_true la
   obtain⟨g,cap,us,Y,cur,W,_⟩:=R.aZ Z
   obtain⟨aP,lb⟩:=be R lc
   rw[W]at lb
   have lu:Act.eval ⟨T,ai.D cx⟩ x=.slice (some ⟨g,0,none⟩) xs.length cap:=by
    simp only[Value.tuple.injEq,Array.mk.injEq,List.cons.injEq]at lb
    exact lb.1.symm
   obtain⟨bC,lT⟩:=fe R U
   obtain⟨_,_,_,bE,d2,aR,aT⟩:=da ld
   refine fin (.pointer (some ⟨g,n.toNat,none⟩)) w m _ (.fC b n) (cn (s:=Instr.indexAt t (Act.eval ⟨T,ai.D cx⟩ x) (Act.eval ⟨T,ai.D cx⟩ i)) (by simp only[execOp,lg]) ?_) R ⟨g,xs.length,cap,Y,W,rfl⟩ rfl
   have l3:(⟨g,0,none⟩:Addr).add (n.toNat*1)=⟨g,n.toNat,none⟩:=by rw[gl];simp
   rw[lu,lT]
   simp only[Instr.indexAt,asIntOf,Sem.run_bind,Sem.run_pure,Result.andThen_ok,run_underlying aR]
   rw[if_pos lt.1]
   simp only[Sem.run_bind,eK aT,Result.andThen_ok,Sem.run_pure,la,l3]
  ·rename_i t x lg
   split at o
   case h_2=>cases o
   rename_i b n u lc ld
   rw[<-lp.P]at ld
   split at o
   ·rename_i e k v xs aU a lU Z la
    simp only[Bool.and_eq_true,Bool.not_eq_true']at la
    split at o
    case h_2=>cases o
    rename_i y lV lF
    cases o
    have lF:b<cx.n:=by rw[lp.n];exact cK lF
    obtain⟨g,cap,us,Y,W,lb,lu,lC,l4,l5,lh,le,lq⟩:=IV R Z lt.1 lc ld (Nat.eq_of_beq_eq_true la.1) la.2
    have lk:=a8 Z
    have lf:b∈st.ids:=List.mem_append.2 (.inl (List.mem_map.2 ⟨_,lk,rfl⟩))
    have lG:∀u∈Y.set n.toNat undef,u∈Y\/u=undef:=fun u O=>List.mem_or_eq_of_mem_set O
    have lv:∀L,own (.tuple (.slice (some ⟨g,0,none⟩) xs.length cap::Y.set n.toNat undef).toArray) L->own (m b) L\/own (m b) L:=by
     intro L q
     rw[W]
     rcases dg.1 q with q|⟨u,O,q⟩
     ·exact .inl (dg.2 (.inl q))
     ·rcases lG u O with O|rfl
      ·exact .inl (dg.2 (.inr ⟨u,O,q⟩))
      ·cases q
    obtain⟨v2,ll⟩:∃v2,v2=Value.tuple (.slice (some ⟨g,0,none⟩) xs.length cap::Y.set n.toNat undef).toArray:=⟨_,rfl⟩
    rw[<-ll]at lv
    have lw:∀i,i∈(st.ge b b (.aZ e (.mp k v) (xs.set n.toNat none))).ids->i∈st.ids:=by
     intro i U
     rcases List.mem_append.1 U with U|U
     ·obtain⟨⟨j,s⟩,li,rfl⟩:=List.mem_map.1 U
      rcases List.mem_cons.1 li with li|li
      ·cases li;exact lf
      ·obtain⟨⟨aV,aW⟩,l6,l7⟩:=List.mem_map.1 li
       cases l7
       exact List.mem_append.2 (.inl (List.mem_map.2 ⟨_,(cT.1 (cT.1 l6).1).1,rfl⟩))
     ·exact List.mem_append.2 (.inr U)
    have ly:∀L,L<w.heap.size->ar cx (bx m b v2) (st.ge b b (.aZ e (.mp k v) (xs.set n.toNat none))).ids L->ar cx m st.ids L:=by
     intro L _ q
     rcases q with lH|⟨i,U,q⟩
     ·exact .inl lH
     ·by_cases lr:i=b
      ·subst lr
       rw[cd]at q
       exact .inr ⟨i,lf,(lv L q).elim id id⟩
      ·rw[cR _ _ lr]at q
       exact .inr ⟨i,lw i U,q⟩
    have l8:=R.ge (c2:=.aZ e (.mp k v) (xs.set n.toNat none)) lk lk lF W ll ⟨⟨rfl,rfl,rfl,Nat.le_refl _,fun _=>Nat.le_refl _⟩,fun _ _ _=>rfl⟩ lv ⟨xs.length,cap,_,ll⟩
     ⟨xs.length,cap,us,Y.set n.toNat undef,ll,by rw[List.length_set];exact lC,oR (fun _ _ _=>rfl) ly (fun _ _ _ _=>rfl) (AP lu),by
      have lE:=DX (i:=n.toNat) (u:=undef) (List.nodup_cons.1 lb).2 (fun b Z=>by cases Z)
      refine List.nodup_cons.2 ⟨fun lw=>?_,lE⟩
      obtain⟨u,O,q⟩:=List.mem_filterMap.1 lw
      rcases lG u O with O|rfl
      ·exact(List.nodup_cons.1 lb).1 (List.mem_filterMap.2 ⟨u,O,q⟩)
      ·cases q⟩
    refine fin l4 w _ _ (.val (.map k v) y) (cn (by simp only[execOp,lg]) lq) l8 ?_ rfl
    refine(bD (t:=.map k v) rfl).2 ?_
    match y,le with
    |none,le=>
     have le:l4=.map none:=le
     show[l4]=[Value.map none]
     rw[le]
    |some ps,⟨r,es,lI,lj,lm,lJ,lK,lz⟩=>
     have aA:own (m b) r:=by rw[W];exact dg.2 (.inr ⟨_,List.mem_of_getElem? lh,by rw[lj];rfl⟩)
     refine⟨r,es,lI,by rw[lj],lm,?_,lJ,lK,gJ (fun _ _ h=>dc (fun _ _ _=>rfl) ly h) (fun _ _ h=>dc (fun _ _ _=>rfl) ly h) lz⟩
     rintro(lH|⟨i,U,q⟩)
     ·have aX:=R.outer r lH
      rcases(R.lt lf aA).2 with aZ|aZ
      ·omega
      ·exact aX.2 aZ
     ·by_cases lr:i=b
      ·subst lr
       rw[cd,ll]at q
       rcases dg.1 q with q|⟨u,O,q⟩
       ·cases q
        exact(List.nodup_cons.1 lb).1 (o7.2 ⟨_,_,lh,by rw[lj];rfl⟩)
       ·obtain⟨j,ls⟩:=List.getElem?_of_mem O
        rw[List.getElem?_set]at ls
        split at ls
        ·split at ls
         ·cases ls;cases q
         ·cases ls
        ·rename_i lA
         exact BO (List.nodup_cons.1 lb).2 lh ls lA (by rw[lj];rfl) q
      ·rw[cR _ _ lr]at q
       exact R.apart b i lf (lw i U) (fun e=>lr e.symm) r aA q
   ·rename_i e k v xs a lU _ Z la
    simp only[Bool.and_eq_true,Bool.not_eq_true']at la
    split at o
    case h_2=>cases o
    rename_i y lV
    cases o
    obtain⟨g,cap,us,Y,W,_,_,_,v0,_,lh,_,lq⟩:=IV R Z lt.1 lc ld (Nat.eq_of_beq_eq_true la.1) la.2
    exact fin v0 w m _ (.sub b n) (cn (by simp only[execOp,lg]) lq) R ⟨_,Y,W,lh⟩ rfl
   ·cases o
  ·rename_i args aB lg
   split at o
   case h_2=>cases o
   rename_i x t lV aY
   split at o
   case h_2=>cases o
   rename_i b n a0 bF lc ld
   split at o
   case h_2=>cases o
   rename_i e k v xs a lU Z
   split at o
   case h_2=>cases o
   rename_i y lW
   cases o
   rw[<-lp.P]at ld
   obtain⟨g,cap,us,Y,W,_,_,_,_,_,le⟩:=GW R Z lt.1 lc
   obtain⟨i,_,_,bG,lb,_,aC,_,_⟩:=da ld
   have l3:args=#[x]:=by rw[<-Array.toArray_toList (xs:=args),lV]
   have aD:aB=#[t]:=by rw[<-Array.toArray_toList (xs:=aB),aY]
   subst l3
   subst aD
   refine fin (.int .i64 ((Option.getD (α:=List (k.el×v.el)) y []).length:Int)) w m _ (.val (.int .i64) _) ?_ R (cV.2 rfl) rfl
   simp only[execOp,lg,resolve,invoke,builtin,Sem.run_bind,Sem.run_pure,Result.andThen_ok,List.map_toArray,List.map_cons,List.map_nil]
   generalize Act.eval ⟨T,ai.D cx⟩ x=a1 at le
   match y,le with
   |none,le=>
    have le:a1=.map none:=le
    rw[le]
    simp[Builtin.len_,run_underlying aC,goInt]
   |some ps,⟨r,es,lI,lj,lm,_,_,lz⟩=>
    rw[lj]
    have aE:=po lz
    rw[Array.length_toList]at aE
    simp[Builtin.len_,run_underlying aC,goInt,getObj,Sem.run,lm,aE]
  ·rename_i lg
   split at o
   case h_2=>cases o
   rename_i aU lU
   split at o
   case h_2=>cases o
   rename_i bH bI bJ lm
   split at o
   case h_2=>cases o
   rename_i e k v xs lx _
   cases o
   refine ra lp ⟨m,R⟩ lm lt.2 fun lR w' l9=>?_
   obtain⟨m1,a3⟩:=l9
   obtain⟨⟨a4,a5⟩,_⟩:=lt
   obtain⟨m2,a6⟩:=a3.R3 (a8 lx) a4 a5 lD
   exact lB lR w' ⟨m2,a6⟩
  ·cases o
 ·rename_i ah
  split at o
  ·rename_i t x bK bL lg
   split at o
   case h_2=>cases o
   rename_i b n a0 aD kv vv lc aF lT l0
   split at o
   case h_2=>cases o
   rename_i e k v xs bM bN a lU Z aG a7
   split at o
   case h_2=>cases o
   rename_i y z ps lW a9 ln lV
   cases o
   simp only[Bool.and_eq_true]at ln
   obtain⟨ba,bb,bc,aH⟩:=ln
   obtain rfl:=ag.eq_of_beq ba
   obtain rfl:=ag.eq_of_beq bb
   have bd:=ak.dd lW
   subst bd
   have bf:=ak.dd a9
   subst bf
   rw[<-lp.P]at aF aG a7 aH
   obtain⟨g,cap,us,Y,W,lb,lu,lC,l5,lh,r,es,lI,lj,lm,lJ,lK,lz⟩:=GW R Z lt.1 lc
   obtain⟨lL,lM,lq,bg,bW,dJ⟩:=JS (d:=iy) (d':=16) aF aG aH (by decide) bc (cW R lT) (cW R l0) lm lJ lK lz
   have lk:=a8 Z
   have lv:own (m b) r:=by rw[W];exact dg.2 (.inr ⟨_,List.mem_of_getElem? lh,by rw[lj];rfl⟩)
   have lN:Touch m w b {w with heap:=w.heap.setIfInBounds r (.map lL lM)}:=
    ⟨⟨rfl,rfl,rfl,by simp,fun _=>Nat.le_refl _⟩,fun k _ lA=>by
     show(w.heap.setIfInBounds r _)[k]? =_
     rw[Array.getElem?_setIfInBounds_ne]
     intro e
     exact lA (by rw[<-e];exact lv)⟩
   have lf:b∈st.ids:=List.mem_append.2 (.inl (List.mem_map.2 ⟨_,lk,rfl⟩))
   generalize lO:xs.set n.toNat (some (show(eD.mp k v).el from some (cm (aQ k) ps y z)))=lo at lB
   obtain⟨ab,ad⟩:=an.gw (cx:=cx) lf lN (ids:=(st.cY b (.aZ e (.mp k v) lo)).ids) (jC lk R.keys _).1
   have bh:g≠r:=fun e=>(List.nodup_cons.1 lb).1 (o7.2 ⟨_,_,lh,by rw[lj,e];rfl⟩)
   rw[lj]at l5 lh
   have ae:lo.length=xs.length:=by rw[<-lO,List.length_set]
   have l9:an cx m (st.cY b (.aZ e (.mp k v) lo)) T {w with heap:=w.heap.setIfInBounds r (.map lL lM)}:=by
    refine R.cY lk lN (g:=g) ⟨xs.length,cap,Y,W⟩ ⟨xs.length,cap,us,Y,W,?_,?_,lb⟩
    ·rw[ae]
     refine⟨lC.1,?_⟩
     rcases lC.2 with ln|⟨L,bi,cur,aI,bj,ln,rest⟩
     ·exact .inl ln
     ·refine .inr ⟨L,bi,cur,aI,bj,?_,rest⟩
      show(w.heap.setIfInBounds r _)[L]? =_
      rw[Array.getElem?_setIfInBounds_ne (by rintro rfl;cases aI;exact bh rfl)]
      exact ln
    ·have U:jK {w with heap:=w.heap.setIfInBounds r (.map lL lM)} (ar cx m (st.cY b (.aZ e (.mp k v) lo)).ids) (.map (some r)) (.mp k v) (some (cm (aQ k) ps y z)):=by
      refine⟨r,lL,lM,rfl,?_,bg,bW,gJ (fun _ _ h=>dc ab ad h) (fun _ _ h=>dc ab ad h) dJ⟩
      show(w.heap.setIfInBounds r _)[r]? =_
      rw[Array.getElem?_setIfInBounds_self_of_lt (fV lm)]
     have lX:=tc ab ad U (i:=n.toNat) (fun j u ls O aj lY=>by
      show(w.heap.setIfInBounds r _)[aj]? =_
      rw[Array.getElem?_setIfInBounds_ne]
      rintro rfl
      exact BO (List.nodup_cons.1 lb).2 lh O (fun e=>ls e.symm) rfl lY) lu
     have f1:us.set n.toNat (.map (some r))=us:=by
      obtain⟨lD,am⟩:=List.getElem?_eq_some_iff.1 l5
      rw[<-am,List.set_getElem_self]
     have f2:Y.set n.toNat (.map (some r))=Y:=by
      obtain⟨lD,am⟩:=List.getElem?_eq_some_iff.1 lh
      rw[<-am,List.set_getElem_self]
     rw[f1,f2]at lX
     rw[<-lO]
     exact lX
   unfold Oper.wp
   have lx:(execOp (Act.eval ⟨T,ai.D cx⟩) aa).run cx.P w=.ok .skip {w with heap:=w.heap.setIfInBounds r (.map lL lM)}:=by
    simp only[execOp,lg,Sem.run_bind,lj,lq,Result.andThen_ok,Sem.run_pure]
   rw[lx]
   show K (Act.put ⟨T,ai.D cx⟩ aa.dst undef) _
   rw[ah]
   exact lB T _ ⟨m,l9⟩
  ·rename_i t x y lg
   split at o
   case h_2=>cases o
   rename_i b n c u lc lW ld
   split at o
   case h_2=>cases o
   rename_i e k v xs k' v' ps Z la aK
   split at o
   case h_2=>cases o
   rename_i bP bk
   cases o
   simp only[Bool.and_eq_true,Bool.not_eq_true']at aK
   obtain⟨lP,bQ,bl⟩:=aK
   have lP:=Nat.eq_of_beq_eq_true lP
   have lF:b<cx.n:=by rw[lp.n];exact cK bl
   rw[<-lp.P]at ld
   obtain⟨g,cap,us,Y,cur,W,_,lb,lu,lC,bm,ap,bn,bo,aq⟩:=R.aZ Z
   obtain⟨g2,bR,bS,aP,au,a2⟩:=be R lc
   rw[W]at au
   have:g2=g:=by
    simp only[Value.tuple.injEq,Array.mk.injEq,List.cons.injEq,Value.slice.injEq,Option.some.injEq,Addr.mk.injEq]at au
    exact au.1.1.1.symm
   subst this
   have lk:=a8 Z
   have av:=a8 la
   have lf:b∈st.ids:=List.mem_append.2 (.inl (List.mem_map.2 ⟨_,lk,rfl⟩))
   have aw:c∈st.ids:=List.mem_append.2 (.inl (List.mem_map.2 ⟨_,av,rfl⟩))
   have aJ:b≠c:=by
    rintro rfl
    rw[Z]at la
    cases la
   have bp:=ak.dd bk
   cases bp
   obtain⟨r,f1,_,es,lI,lm,lJ,lK,lz⟩:=R.box av
   have f1:m c=.map (some r):=f1
   have bq:Act.eval ⟨T,ai.D cx⟩ y=.map (some r):=by have:Act.eval ⟨T,ai.D cx⟩ y=m c:=be R lW;rw[this,f1]
   have ax:own (m c) r:=by rw[f1];exact gi rfl
   have aL:own (m b) g2:=by rw[W];exact dg.2 (.inl rfl)
   have aM:r≠g2:=fun e=>R.apart b c lf aw aJ g2 aL (by rw[<-e];exact ax)
   obtain⟨bT,_⟩:=lt
   have lD:n.toNat<xs.length:=by omega
   have br:n.toNat+u.cells<=cur.size:=by rw[lP,ap];omega
   have lq:=mf (P:=cx.P) (v:=.map (some r)) ld lu (by rw[lP];rfl) br (fun x lc=>by simp[Value.cells]at lc;subst lc;rfl)
   have bt:cur.toList.take n.toNat++(Value.map (some r)).cells.toList++cur.toList.drop (n.toNat+u.cells)=cur.toList.set n.toNat (.map (some r)):=by
    rw[List.set_eq_take_append_cons_drop,if_pos (by rw[Array.length_toList,ap];omega),lP]
    simp[Value.cells]
   rw[bt]at lq
   generalize lZ:w.setRow g2 (cur.toList.set n.toNat (.map (some r))).toArray=lQ at lq
   have lN:Touch m w b lQ:=by rw[<-lZ];exact⟨jP _ _ _,fun k lT lA=>setRow_other _ _ _ _ (fun e=>lA (by rw[e];exact aL))⟩
   obtain⟨v2,ll⟩:∃v2,v2=Value.tuple (.slice (some ⟨g2,0,none⟩) xs.length cap::Y.set n.toNat (.map (some r))).toArray:=⟨_,rfl⟩
   have lG:∀u∈Y.set n.toNat (.map (some r)),u∈Y\/u=.map (some r):=fun u O=>List.mem_or_eq_of_mem_set O
   have lv:∀L,own v2 L->own (m b) L\/own (m c) L:=by
    intro L q
    rw[ll]at q
    rcases dg.1 q with q|⟨u,O,q⟩
    ·exact .inl (by rw[W];exact dg.2 (.inl q))
    ·rcases lG u O with O|rfl
     ·exact .inl (by rw[W];exact dg.2 (.inr ⟨u,O,q⟩))
     ·cases q;exact .inr ax
   generalize lO:xs.set n.toNat (some (show(eD.mp k v).el from some ps))=lo at lB
   have ae:lo.length=xs.length:=by rw[<-lO,List.length_set]
   have lw:∀i,i∈(st.ge b c (.aZ e (.mp k v) lo)).ids->i∈st.ids:=by
    intro i U
    rcases List.mem_append.1 U with U|U
    ·obtain⟨⟨j,s⟩,li,rfl⟩:=List.mem_map.1 U
     rcases List.mem_cons.1 li with li|li
     ·cases li;exact lf
     ·obtain⟨⟨aV,aW⟩,l6,l7⟩:=List.mem_map.1 li
      cases l7
      exact List.mem_append.2 (.inl (List.mem_map.2 ⟨_,(cT.1 (cT.1 l6).1).1,rfl⟩))
    ·exact List.mem_append.2 (.inr U)
   have az:∀L,L<w.heap.size->¬ar cx m st.ids L->lQ.heap[L]? =w.heap[L]? :=fun L bu bw=>lN.block L bu fun e=>bw (.inr ⟨b,lf,e⟩)
   have ly:∀L,L<w.heap.size->ar cx (bx m b v2) (st.ge b c (.aZ e (.mp k v) lo)).ids L->ar cx m st.ids L:=by
    intro L _ q
    rcases q with lH|⟨i,U,q⟩
    ·exact .inl lH
    ·by_cases lr:i=b
     ·subst lr
      rw[cd]at q
      rcases lv L q with ln|ln
      ·exact .inr ⟨i,lf,ln⟩
      ·exact .inr ⟨c,aw,ln⟩
     ·rw[cR _ _ lr]at q
      exact .inr ⟨i,lw i U,q⟩
   have bz:∀L,own (m b) L->L≠g2->lQ.heap[L]? =w.heap[L]? :=fun L _ lA=>by rw[<-lZ];exact setRow_other _ _ _ _ lA
   have U:jK lQ (ar cx (bx m b v2) (st.ge b c (.aZ e (.mp k v) lo)).ids) (.map (some r)) (.mp k v) (some ps):=
    ⟨r,es,lI,rfl,by rw[<-lZ,setRow_other _ _ _ _ aM];exact lm,lJ,lK,gJ (fun _ _ h=>dc az ly h) (fun _ _ h=>dc az ly h) lz⟩
   have lX:=tc az ly U (i:=n.toNat) (fun j u ls O aj lY=>by
    refine bz aj (by rw[W];exact dg.2 (.inr ⟨u,List.mem_of_getElem? O,lY⟩)) ?_
    rintro rfl
    exact(List.nodup_cons.1 aq).1 (o7.2 ⟨_,_,O,lY⟩)) bo
   have l8:=R.ge (c2:=.aZ e (.mp k v) lo) lk av lF W ll lN lv ⟨xs.length,cap,_,ll⟩ ⟨xs.length,cap,us.set n.toNat (.map (some r)),Y.set n.toNat (.map (some r)),ll,by
     rw[ae]
     refine⟨by rw[List.length_set];exact lb.1,.inr ⟨g2,cap,_,rfl,Nat.zero_le _,by rw[<-lZ];exact setRow_heap _ _ _ _ _ _ lu,lC,bm,?_,?_⟩⟩
     ·simp[ap]
     ·rw[Nat.mul_one,<-bn,List.take_set],by rw[<-lO];exact lX,by
     have lE:=DX (i:=n.toNat) (u:=.map (some r)) (List.nodup_cons.1 aq).2 (fun bU bA j u _ O bB=>by
      cases bA
      exact R.apart b c lf aw aJ r (by rw[W];exact dg.2 (.inr ⟨u,List.mem_of_getElem? O,bB⟩)) ax)
     refine List.nodup_cons.2 ⟨fun lw=>?_,lE⟩
     obtain⟨u,O,q⟩:=List.mem_filterMap.1 lw
     rcases lG u O with O|rfl
     ·exact(List.nodup_cons.1 aq).1 (List.mem_filterMap.2 ⟨u,O,q⟩)
     ·cases q;exact aM rfl⟩
   unfold Oper.wp
   have lx:(execOp (Act.eval ⟨T,ai.D cx⟩) aa).run cx.P w=.ok .skip lQ:=by
    simp only[execOp,lg,Sem.run_bind,bq,a2,lq,Result.andThen_ok,Sem.run_pure]
   rw[lx]
   show K (Act.put ⟨T,ai.D cx⟩ aa.dst undef) _
   rw[ah]
   exact lB T _ ⟨_,l8⟩
  ·cases o
def wY(E:Env)(st:af)(aa:Oper)(orc:List ak):Option (af×List ak×List Prop):=
 match B9 E st aa orc with
 |some r=>some r
 |none=>DC E st aa orc
theorem RX{E:Env}(q:bv E cx)(h:al cx st T w){aa:Oper}{orc:List ak}{st':af}{orc':List ak}{ob:List Prop}(o:wY E st aa orc=some (st',orc',ob))(L:bO ob)
  {K:Act->World->Prop}{Q:Exit->Act->World->Prop}(O:∀R w',al cx st' R w'->K ⟨R,ai.D cx⟩ w'):aa.wp cx.P ⟨T,ai.D cx⟩ w K Q:=by
 unfold wY at o
 split at o
 ·rename_i r U
  cases o
  exact U8 q h U L O
 ·exact OI q h o L O
end Go.Ev
namespace Go.Ev
open Go Go.RowKit
variable [b8]
variable {cx:bB} {m:Nat->Value} {st st':af} {T:Array Value} {w w':World}
variable [ai cx]
/-! Copying, clearing. -/
theorem Fl{α:Type}{f:List Value->α->Prop}:∀{q L:List α} {O c2:List Value},bM f O q->bM f c2 L->bM f (O++c2) (q++L)
 |[],_,_,_,R,o=>by cases R;exact o
 |y::U,_,_,_,⟨d1,d2,e,g1,g2⟩,o=>by subst e;exact⟨d1,_,by simp,g1,Fl g2 o⟩
theorem xv{M:Nat->Prop}{u:ag}:∀{xs:List u.el} {cs:List Value},bM (aH w M u) cs xs->∀v∈cs,v.oneCell'=true
 |[],cs,q,v,o=>by cases q;simp at o
 |y::R,cs,⟨U,c2,e,L,O⟩,v,o=>by
  subst e
  rcases List.mem_append.1 o with o|o
  ·exact gy u L v o
  ·exact xv O v o
theorem an.over(h:an cx m st T w){r:Nat}{c:cE}(q:(r,c)∈st.rw){o:List c.t.el}{news:List Value}(W:bM (aH w (ar cx m st.ids) c.t) news o)(Y:o.length<=c.xs.length){g:Nat}{n cap:Nat}{cur:Array Value}
  (L:m r=.slice (some ⟨g,0,none⟩) n cap)(Z:w.heap[g]? =some (.cells cur c.e (0,0))):
  an cx m (st.setRow r {c with xs:=o++c.xs.drop o.length}) T (w.setRow g (news++cur.toList.drop news.length).toArray):=by
 obtain⟨cells,la,lq,lg⟩:=h.rows r c q
 have lh:r∈st.ids:=List.mem_append.2 (.inr (List.mem_map.2 ⟨_,q,rfl⟩))
 rcases la.2 with ⟨lb,_⟩|⟨lr,ls,lt,U,li,lc,ld,lj,le,lk⟩
 ·rw[L]at lb;cases lb
 rw[L]at U
 simp only[Value.slice.injEq,Option.some.injEq,Addr.mk.injEq,and_true]at U
 obtain⟨rfl,rfl,rfl⟩:=U
 rw[Z]at lc
 cases lc
 have O:news.length=o.length*c.t.cells:=iq (fun _ _=>cf c.t) _ _ W
 have ll:cells.length=c.xs.length*c.t.cells:=la.1
 have lf:Touch m w r (w.setRow g (news++cur.toList.drop news.length).toArray):=
  ⟨jP _ _ _,fun k lu lm=>setRow_other _ _ _ _ (fun e=>lm (by rw[L,e];exact gi rfl))⟩
 obtain⟨ln,_⟩:=ni q h.keys {c with xs:=o++c.xs.drop o.length}
 obtain⟨lo,lp⟩:=an.gw (cx:=cx) lh lf ln
 have R:(o++c.xs.drop o.length).length=c.xs.length:=by rw[List.length_append,List.length_drop];omega
 have lv:o.length*c.t.cells<=c.xs.length*c.t.cells:=Nat.mul_le_mul_right _ Y
 have lw:c.xs.length*c.t.cells<=cur.size:=by rw[le];exact Nat.mul_le_mul_right _ ld
 refine h.setRow q lf (cells:=news++cells.drop news.length) ?_ (di (fun _ _=>cC lo lp c.t) (Fl W (by rw[O];exact wG o.length lg Y)))
 refine⟨by simp only[R];rw[List.length_append,List.length_drop,ll,O];omega,.inr ⟨g,cap,_,by simp only[R];exact L,li,setRow_heap _ _ _ _ _ _ Z,by simp only[R];exact ld,lj,?_,?_⟩⟩
 ·have e:cur.toList.length=cur.size:=Array.length_toList
  rw[List.size_toArray,List.length_append,List.length_drop,e,O,<-le]
  omega
 ·simp only[R]
  rw[<-lk,List.drop_take,List.take_append,List.take_of_length_le (by omega),O]
/-! Structs whose fields own things. -/
theorem vr{M:Nat->Prop}:∀{vs:List Value} {l:List bV},cX w M m vs l->vs.length=l.length
 |[],[],_=>rfl
 |[],_::_,h=>h.elim
 |_::_,[],h=>h.elim
 |_::_,.v _::_,⟨_,h⟩=>by simp[vr h]
 |_::_,.r _::_,⟨_,h⟩=>by simp[vr h]
 |_::vs,.a::l,h=>by simp[vr (vs:=vs) (l:=l) h]
theorem qx{M:Nat->Prop}:∀{v1 v2:List Value} {l1 l2:List bV},cX w M m v1 l1->cX w M m v2 l2->cX w M m (v1++v2) (l1++l2)
 |[],_,[],_,_,h=>h
 |[],_,_::_,_,h,_=>h.elim
 |_::_,_,[],_,h,_=>h.elim
 |_::_,_,.v _::_,_,⟨q,o⟩,h=>⟨q,qx o h⟩
 |_::_,_,.r _::_,_,⟨q,o⟩,h=>⟨q,qx o h⟩
 |_::vs,_,.a::l,_,o,h=>qx (v1:=vs) (l1:=l) o h
theorem kM{M:Nat->Prop}:∀(n:Nat) {vs:List Value} {l:List bV},cX w M m vs l->cX w M m (vs.take n) (l.take n)/\cX w M m (vs.drop n) (l.drop n)
 |0,vs,l,h=>⟨trivial,h⟩
 |n+1,[],[],_=>⟨trivial,trivial⟩
 |n+1,[],_::_,h=>h.elim
 |n+1,_::_,[],h=>h.elim
 |n+1,_::_,.v _::_,⟨q,o⟩=>⟨⟨q,(kM n o).1⟩,(kM n o).2⟩
 |n+1,_::_,.r _::_,⟨q,o⟩=>⟨⟨q,(kM n o).1⟩,(kM n o).2⟩
 |n+1,_::vs,.a::l,h=>⟨(kM n (vs:=vs) (l:=l) h).1,(kM n (vs:=vs) (l:=l) h).2⟩
theorem Ja{M:Nat->Prop}:∀(vs:List Value),cX w M m vs (List.replicate vs.length .a)
 |[]=>trivial
 |_::vs=>Ja vs
def s9:List ao->Option (List bV)
 |[]=>some []
 |.val t x::l=>match s9 l with
  |some r=>some (.v ⟨t,x⟩::r)
  |none=>none
 |_=>none
theorem GV{M:Nat->Prop}:∀{vs:List Value} {l:List ao} {r:List bV},s9 l=some r->ct w M m vs l->cX w M m vs r
 |[],[],_,h,_=>by cases h;trivial
 |_::_,[],_,_,o=>o.elim
 |[],_::_,_,_,o=>o.elim
 |v::vs,s::l,r,h,⟨q,L⟩=>by
  unfold s9 at h
  split at h
  ·rename_i e;cases e
  ·rename_i t x R e
   cases e
   split at h
   ·rename_i U O;cases h;exact⟨q,GV O L⟩
   ·cases h
  ·cases h
def xS(st:af)(u:ag)(s:ao):Option (List bV):=
 match s with
 |.val t x=>match t.beq u with
  |true=>s9 (leaves t x)
  |false=>match u,t.agg with
   |.cy,false=>some [.v ⟨t,x⟩]
   |_,_=>none
 |.row r=>match Nat.beq u.cells 1,look st.rw r with
  |true,some _=>some [.r r]
  |_,_=>none
 |.iter b=>match Nat.beq u.cells 1,look st.ad b with
  |true,some (.mp _ _ _)=>some [.r b]
  |_,_=>none
 |_=>none
theorem W7(h:an cx m st T w){u:ag}{s:ao}{c:List bV}{v:Value}(o:xS st u s=some c)(q:aS w (ar cx m st.ids) m v s):
  cX w (ar cx m st.ids) m v.cells.toList c/\v.cells.size=u.cells:=by
 unfold xS at o
 split at o
 ·rename_i t x
  split at o
  ·rename_i L
   obtain rfl:=ag.eq_of_beq L
   have O:=jd q
   exact⟨GV o (u6 t O),by rw[<-cf t O];simp⟩
  ·split at o
   ·rename_i U _
    cases o
    have W:=gy t ((bD U).1 (show ba w (ar cx m st.ids) v t x from q)) v List.mem_cons_self
    have R:v.cells=#[v]:=by cases v<;>first|rfl|(simp[Value.oneCell']at W)
    rw[R]
    exact⟨⟨q,trivial⟩,rfl⟩
   ·cases o
 ·rename_i r
  split at o
  ·rename_i c' L Y
   cases o
   have e:v=m r:=q
   have O:=row_one h (a8 Y)
   have R:v.cells=#[v]:=by rw[e];cases Z:m r<;>first|rfl|(rw[Z]at O;simp[Value.oneCell']at O)
   rw[R]
   exact⟨⟨e,trivial⟩,by rw[Nat.eq_of_beq_eq_true L];rfl⟩
  ·cases o
 ·rename_i b
  split at o
  ·rename_i k v' ps L la
   cases o
   have e:v=m b:=q
   obtain⟨g,lb,_⟩:=h.box (a8 la)
   have R:v.cells=#[v]:=by rw[e,lb];rfl
   rw[R]
   exact⟨⟨e,trivial⟩,by rw[Nat.eq_of_beq_eq_true L];rfl⟩
  ·cases o
 ·cases o
def tA(P:Program)(st:af)(t:TypeId):List (Nat×Operand)->List bV->Option (List bV)
 |[],l=>some l
 |(i,x)::r,l=>match fieldInfo P t i,aR st x with
  |some (off,u),some s=>match xS st u s,Nat.ble (off+u.cells) l.length with
   |some c,true=>tA P st t r (l.take off++c++l.drop (off+u.cells))
   |_,_=>none
  |_,_=>none
theorem J6{t:TypeId}{lb:Array Field}(lc:cx.P.underlying t=some (.struct lb))(h:an cx m st T w)
  {place:Nat->Option (Nat×Nat)}(W:∀i off q,fieldInfo cx.P t i=some (off,q)->place i=some (off,q.cells)):
  ∀(parts:List (Nat×Operand)) (l O:List bV) (o:List Value),cX w (ar cx m st.ids) m o l->tA cx.P st t parts l=some O->
   ∃U,Instr.fill place o.toArray (parts.map fun p=>(p.1,Act.eval ⟨T,ai.D cx⟩ p.2))=some U.toArray/\cX w (ar cx m st.ids) m U O
 |[],l,O,o,R,L=>by cases L;exact⟨o,rfl,R⟩
 |(i,aa)::r,l,O,o,R,L=>by
  unfold tA at L
  split at L
  ·rename_i off q s ld le
   split at L
   ·rename_i c lf Y
    have Y:=Nat.le_of_ble_eq_true Y
    obtain⟨lg,Z⟩:=W7 h lf (be h le)
    have lo:=vr R
    have lh:(Act.eval ⟨T,ai.D cx⟩ aa).cells.toList.length=q.cells:=by rw[Array.length_toList,Z]
    have li:o=o.take off++(o.drop off).take q.cells++o.drop (off+q.cells):=by
     rw[List.append_assoc,<-List.drop_drop,List.take_append_drop,List.take_append_drop]
    have lj:(o.take off).length=off:=by rw[List.length_take];omega
    have lk:((o.drop off).take q.cells).length=q.cells:=by rw[List.length_take,List.length_drop];omega
    obtain⟨U,ll,lm⟩:=J6 lc h W r _ O (o.take off++(Act.eval ⟨T,ai.D cx⟩ aa).cells.toList++o.drop (off+q.cells)) (qx (qx (kM off R).1 lg) (kM (off+q.cells) R).2) L
    refine⟨U,?_,lm⟩
    rw[List.map_cons,Instr.fill,W i off q ld]
    have ln:¬(((Act.eval ⟨T,ai.D cx⟩ aa).cells.size≠q.cells||decide (off+(Act.eval ⟨T,ai.D cx⟩ aa).cells.size>o.toArray.size))=true):=by
     simp only[Z,List.size_toArray]
     simp
     omega
    simp only[]
    rw[if_neg ln]
    have la:=uX (Act.eval ⟨T,ai.D cx⟩ aa).cells.toList (o.take off) (o.drop (off+q.cells)) ((o.drop off).take q.cells) (by rw[lk,lh])
    rw[<-li,lj,Array.toArray_toList]at la
    rw[la]
    exact ll
   ·cases L
  ·cases L
def bV.aO(st:af):bV->ao
 |.v u=>.val u.t u.x
 |.r b=>match look st.ad b with
  |some (.cells _ _)=>.ptr b 0
  |some _=>.iter b
  |none=>.row b
 |.a=>.any
theorem uv(h:an cx m st T w):∀{vs:List Value} {l:List bV},cX w (ar cx m st.ids) m vs l->ct w (ar cx m st.ids) m vs (l.map (bV.aO st))
 |[],[],_=>trivial
 |[],_::_,h=>h.elim
 |_::_,[],h=>h.elim
 |_::_,.v _::_,⟨o,q⟩=>⟨o,uv h q⟩
 |v::_,.r b::_,⟨o,q⟩=>by
  refine⟨?_,uv h q⟩
  show aS _ _ _ _ (match look st.ad b with
   |some (.cells _ _)=>.ptr b 0
   |some _=>.iter b
   |none=>.row b)
  split
  ·rename_i l e O
   obtain⟨g,L,_⟩:=h.box (a8 O)
   exact⟨g,L,by rw[o];exact L⟩
  ·exact o
  ·exact o
 |_::vs,.a::l,q=>⟨trivial,uv (vs:=vs) (l:=l) h q⟩
def NH(r:Nat)(n:Int):ao->ao
 |.row b=>bif Nat.beq b r then .ah n else .row b
 |s=>s
def HI(st:af)(a r:Nat)(n:Int):af:={st with ab:=st.ab.map fun p=>bif Nat.beq p.1 a then p else(p.1,NH r n p.2)}
theorem MY(h:an cx m st T w){a r:Nat}{c:cE}(W:(r,c)∈st.rw):an cx m (HI st a r (c.xs.length:Int)) T w:=
 {h with
  cJ:=fun i aO Y=>by
   obtain⟨⟨j,s⟩,Z,o⟩:=List.mem_map.1 Y
   obtain⟨v,O,q⟩:=h.cJ j s Z
   cases R:Nat.beq j a with
   |true=>
    simp only[R,cond_true]at o
    cases o
    exact⟨v,O,q⟩
   |false=>
    simp only[R,cond_false]at o
    cases o
    refine⟨v,O,?_⟩
    cases s with
    |row b=>
     show aS _ _ _ _ (bif Nat.beq b r then .ah (c.xs.length:Int)else .row b)
     cases la:Nat.beq b r with
     |false=>exact q
     |true=>
      have e:=Nat.eq_of_beq_eq_true la
      subst e
      have U:v=m b:=q
      obtain⟨cells,lb,_⟩:=h.rows b c W
      rcases lb.2 with ⟨L,lc⟩|⟨g,cap,cur,L,_⟩
      ·exact⟨none,0,0,by rw[U,L],by rw[lc]⟩
      ·exact⟨_,_,cap,by rw[U,L],rfl⟩
    |_=>exact q}
def yK(E:Env)(st:af)(aa:Oper)(orc:List ak):Option (af×List ak×List Prop):=
 match aa.op with
 |.call {callee:=.builtin .append,args:=args,argTypes:=_}=>match args.toList,orc with
  |[.tmp a,_],⟨.unit,_⟩::orc'=>match look st.ab a with
   |some (.row r)=>match look st.rw r with
    |some c=>nt E (HI st a r (c.xs.length:Int)) aa orc'
    |none=>none
   |_=>none
  |_,_=>none
 |.box t x=>match aa.dst,orc with
  |some d,⟨.unit,_⟩::orc'=>match ty E.P t,dm st x,Nat.blt d E.n with
   |some u,some v,true=>match v.as u with
    |some y=>some ((st.db d (.aT u y t)).put d (.dz d []),orc',[])
    |none=>none
   |_,_,_=>none
  |_,_=>none
 |_=>none
theorem N6{E:Env}(R:bv E cx)(h:al cx st T w){aa:Oper}{orc:List ak}{st':af}{orc':List ak}{ob:List Prop}(o:yK E st aa orc=some (st',orc',ob))(Z:bO ob)
  {K:Act->World->Prop}{Q:Exit->Act->World->Prop}(U:∀W w',al cx st' W w'->K ⟨W,ai.D cx⟩ w'):aa.wp cx.P ⟨T,ai.D cx⟩ w K Q:=by
 obtain⟨m,L⟩:=h
 unfold yK at o
 split at o
 ·split at o
  ·split at o
   ·split at o
    ·rename_i c la
     exact ra R ⟨m,MY L (a8 la)⟩ o Z U
    ·cases o
   ·cases o
  ·cases o
 ·rename_i t x lb
  split at o
  case h_2=>cases o
  rename_i d lk ll ah
  split at o
  case h_2=>cases o
  rename_i u v lm lc ld
  split at o
  case h_2=>cases o
  rename_i y le
  cases o
  have Y:d<cx.n:=by rw[R.n];exact cK ld
  have lf:=ak.dd le
  subst lf
  have lg:=jd (cW L lc)
  have O:dk cx m st w d (eZ w.heap.size (.aT u y t)) (w.alloc (.cells (Act.eval ⟨T,ai.D cx⟩ x).cells t)):=
   dk.fresh L d _ (hY _ _) fun g lh=>by cases jU lh;exact⟨Nat.le_refl _,by simp⟩
  have li:∀i,i∈(st.db d (.aT u y t)).ids->i=d\/i∈st.ids:=by
   intro i q
   rw[sP]at q
   rcases List.mem_cons.1 q with q|q
   ·exact .inl q
   ·exact .inr ((mq st d i).1 q).1
  have lj:=L.db Y O (.inl (oJ L)) ⟨(Act.eval ⟨T,ai.D cx⟩ x).cells,heap_alloc_new w _,cC O.keeps (O.mut li) u lg⟩
  refine gg (v:=.pointer (some ⟨w.heap.size,0,none⟩)) (w':=w.alloc (.cells (Act.eval ⟨T,ai.D cx⟩ x).cells t)) (cn (s:=Instr.box t (Act.eval ⟨T,ai.D cx⟩ x)) (by simp only[execOp,lb]) ?_) ?_
  ·simp[Instr.box,newVar,newRow]
  ·rw[ah]
   exact U _ _ ⟨_,lj.put Y ⟨w.heap.size,cd _ _ _,rfl⟩⟩
 ·cases o
def u9(st:af):List Operand->Option (List ak)
 |[]=>some []
 |x::xs=>match aR st x,u9 st xs with
  |some (.vptr u y),some l=>some (⟨.ptr u,y⟩::l)
  |_,_=>none
theorem FC(h:an cx m st T w):∀{xs:List Operand} {l:List ak},u9 st xs=some l->dL w (ar cx m st.ids) (xs.map (Act.eval ⟨T,ai.D cx⟩)) l/\∀u∈l,u.t.agg=false
 |[],l,o=>by cases o;exact⟨trivial,fun u L=>absurd L List.not_mem_nil⟩
 |x::xs,l,o=>by
  unfold u9 at o
  split at o
  ·rename_i u y Z O R
   cases o
   obtain⟨U,W⟩:=FC h R
   obtain⟨a,cells,e,Y,bW⟩:=be h O
   refine⟨⟨(bD (t:=.ptr u) rfl).2 ⟨a,cells,by rw[e],Y,bW⟩,U⟩,fun v q=>?_⟩
   rcases List.mem_cons.1 q with rfl|q
   ·rfl
   ·exact W v q
  ·cases o
def sH(E:Env)(st:af)(aa:Oper)(orc:List ak):Option (af×List ak×List Prop):=
 match aa.op with
 |.call {callee:=.builtin .copy,args:=args,argTypes:=q}=>match args.toList,q.toList with
  |[x,y],[t,L]=>match aR st x,dO E.P t with
   |some (.row r),some (e,u)=>match look st.rw r with
    |some c=>match c.t.beq u,kJ E.P st c.t L y with
     |true,some o=>match aa.dst with
      |none=>some (st.setRow r ⟨c.e,c.t,o++c.xs.drop o.length⟩,orc,[o.length<=c.xs.length])
      |some d=>match Nat.blt d E.n with
       |true=>some ((st.setRow r ⟨c.e,c.t,o++c.xs.drop o.length⟩).put d (.val (.int .i64) (o.length:Int)),orc,[o.length<=c.xs.length])
       |false=>none
     |_,_=>none
    |none=>none
   |_,_=>none
  |_,_=>none
 |.call {callee:=.builtin .clear,args:=args,argTypes:=q}=>match args.toList,q.toList,aa.dst with
  |[x],[t],none=>match aR st x,dO E.P t with
   |some (.row r),some (e,u)=>match look st.rw r,zeroOf E.P e with
    |some c,some O=>match c.t.beq u&&u.beq O with
     |true=>some (st.setRow r ⟨c.e,c.t,List.replicate c.xs.length (ca c.t)⟩,orc,[])
     |false=>none
    |_,_=>none
   |_,_=>none
  |_,_,_=>none
 |.call {callee:=.builtin .len,args:=args,argTypes:=q}=>match args.toList,q.toList,aa.dst with
  |[x],[t],some d=>match aR st x,ty E.P t,Nat.blt d E.n with
   |some (.ah n),some (.ab _),true=>some (st.put d (.val (.int .i64) n),orc,[])
   |some (.osl b),some (.ab _),true=>match look st.ad b with
    |some (.aZ _ _ xs)=>some (st.put d (.val (.int .i64) (xs.length:Int)),orc,[])
    |_=>none
   |_,_,_=>none
  |_,_,_=>none
 |.call {callee:=.builtin .min,args:=args,.. }=>match args.toList,aa.dst with
  |[x,y,z],some d=>match dm st x,dm st y,dm st z,Nat.blt d E.n with
   |some ⟨.int k,a⟩,some ⟨.int k',b⟩,some ⟨.int R,c⟩,true=>bif gh k k'&&gh k R then some (st.put d (.val (.int k) (ga (ga a b) c)),orc,[])else none
   |_,_,_,_=>none
  |_,_=>none
 |.assign (.const (.map none))=>match aa.dst,ty E.P aa.type with
  |some d,some (.map k v)=>match Nat.blt d E.n with
   |true=>some (st.put d (.val (.map k v) none),orc,[])
   |false=>none
  |_,_=>none
 |.move (.const (.map none))=>match aa.dst,ty E.P aa.type with
  |some d,some (.map k v)=>match Nat.blt d E.n with
   |true=>some (st.put d (.val (.map k v) none),orc,[])
   |false=>none
  |_,_=>none
 |.build t parts=>match aa.dst,ty E.P t,E.P.info? t with
  |some d,some u,some i=>match i.zero,u.n9&&Nat.blt d E.n with
   |some z,true=>match Nat.beq z.cells.size u.cells,tA E.P st t parts.toList (List.replicate z.cells.size .a)with
    |true,some l=>some (st.put d (.eO l),orc,[])
    |_,_=>none
   |_,_=>none
  |_,_,_=>none
 |.box t x=>match aa.dst,aR st x with
  |some d,some (.eO l)=>match Nat.blt d E.n with
   |true=>some ((st.db d (.cells ((l.map (bV.aO st)).map (ao.dl d)) t)).put d (.ptr d 0),orc,[])
   |false=>none
  |some d,some (.val u y)=>match u.agg&&Nat.blt d E.n with
   |true=>some ((st.db d (.cells ((leaves u y).map (ao.dl d)) t)).put d (.ptr d 0),orc,[])
   |false=>none
  |_,_=>none
 |.makeFunc (.func f) first eJ=>match aa.dst,first.toList,u9 st eJ.toList with
  |some d,[],some l=>match Nat.blt d E.n with
   |true=>some (st.put d (.val (.fn f (pairUp l).t) (pairUp l).x),orc,[])
   |false=>none
  |_,_,_=>none
 |_=>none
theorem tC{aa:Oper}{K:Act->World->Prop}{Q:Exit->Act->World->Prop}(ah:aa.dst=none){v:Value}(o:(execOp (Act.eval ⟨T,ai.D cx⟩) aa).run cx.P w=.ok (.value v) w')(q:K ⟨T,ai.D cx⟩ w'):aa.wp cx.P ⟨T,ai.D cx⟩ w K Q:=by
 unfold Oper.wp
 rw[o]
 show K (Act.put ⟨T,ai.D cx⟩ aa.dst v) w'
 rw[ah]
 exact q
theorem Ki{E:Env}(lf:bv E cx)(h:al cx st T w){aa:Oper}{orc:List ak}{st':af}{orc':List ak}{ob:List Prop}(o:sH E st aa orc=some (st',orc',ob))(lT:bO ob)
  {K:Act->World->Prop}{Q:Exit->Act->World->Prop}(lr:∀lU w',al cx st' lU w'->K ⟨lU,ai.D cx⟩ w'):aa.wp cx.P ⟨T,ai.D cx⟩ w K Q:=by
 obtain⟨m,q⟩:=h
 have fin:∀(d:Nat) (v:Value) (w':World) (ay:Nat->Value) (lB:af) (aO:ao),aa.dst=some d->Nat.blt d E.n=true->(execOp (Act.eval ⟨T,ai.D cx⟩) aa).run cx.P w=.ok (.value v) w'->an cx ay lB T w'->aS w' (ar cx ay lB.ids) ay v aO->lB.put d aO=st'->aa.wp cx.P ⟨T,ai.D cx⟩ w K Q:=by
  intro d v w' ay lB aO ah L ls ae aj e
  have lt:d<cx.n:=by rw[lf.n];exact cK L
  refine gg ls ?_
  rw[ah]
  exact lr _ _ ⟨ay,e▸ae.put lt aj⟩
 unfold sH at o
 split at o
 ·rename_i args lg O
  split at o
  case h_2=>cases o
  rename_i x y t am lj lu
  split at o
  case h_2=>cases o
  rename_i r e u Y lv
  split at o
  case h_2=>cases o
  rename_i c lF
  split at o
  case h_2=>cases o
  rename_i lh lw lV
  rw[<-lf.P]at lv lV
  obtain⟨le,lC,lW⟩:=iM lv
  obtain⟨i2,a3,lD,_⟩:=da lC
  obtain⟨_,lG,lX,lY,lH⟩:=HE q lV
  have U:=a8 lF
  have lo:=ag.eq_of_beq lw
  have lk:args=#[x,y]:=by rw[<-Array.toArray_toList (xs:=args),lj]
  have lx:lg=#[t,am]:=by rw[<-Array.toArray_toList (xs:=lg),lu]
  subst lk
  subst lx
  have lp:Act.eval ⟨T,ai.D cx⟩ x=m r:=be q Y
  have ll:i2.size=c.t.cells:=by rw[lo];exact lD
  have key:lh.length<=c.xs.length->∃w',(execOp (Act.eval ⟨T,ai.D cx⟩) aa).run cx.P w=.ok (.value (goInt lh.length)) w'/\an cx m (st.setRow r ⟨c.e,c.t,lh++c.xs.drop lh.length⟩) T w':=by
   intro lZ
   have ap:Nat.min lh.length c.xs.length=lh.length:=Nat.min_eq_left lZ
   obtain⟨cells,lI,aq,au⟩:=q.rows r c U
   rcases lI.2 with ⟨lb,lJ⟩|⟨g,cap,cur,lb,av,Z,l0,aw,lK,ax⟩
   ·have az:lh=[]:=List.eq_nil_of_length_eq_zero (by omega)
    subst az
    have li:c.xs=[]:=List.eq_nil_of_length_eq_zero lJ
    refine⟨w,?_,?_⟩
    ·have W:=lY w (fun _ _=>rfl)
     have aA:Builtin.lenOf (Act.eval ⟨T,ai.D cx⟩ y)=pure 0:=lX
     simp only[List.length_nil]at W
     simp[execOp,O,resolve,invoke,builtin,Builtin.copy_,lp,lb,run_underlying le,aA,eK lC,<-lo,W]
    ·have R:(⟨c.e,c.t,([]:List c.t.el)++c.xs.drop ([]:List c.t.el).length⟩:cE)=c:=by simp
     rw[R]
     obtain⟨l3,ly,l4,lz⟩:=q.rows r c U
     exact q.setRow U ⟨⟨rfl,rfl,rfl,Nat.le_refl _,fun _=>Nat.le_refl _⟩,fun _ _ _=>rfl⟩ ly (di (fun _ _=>cC (fun _ _ _=>rfl) (fun _ _ Z=>kj (fun i lc=>((ni U q.keys c).1 i).1 lc) Z) c.t) lz)
   ·have lL:lG.length=lh.length*c.t.cells:=iq (fun _ _=>cf c.t) _ _ lH
    have lM:lG.length<=cur.size:=by
     rw[lL,lK]
     exact Nat.mul_le_mul_right _ (by omega)
    have ld:=run_storeCells_at (P:=cx.P) g 0 c.e lG 0 cur w Z (by simpa using lM) (xv lH)
    simp only[Nat.add_zero,List.take_zero,List.nil_append,Nat.zero_add]at ld
    refine⟨_,?_,q.over U lH lZ lb Z⟩
    have W:=lY w (fun _ _=>rfl)
    simp[execOp,O,resolve,invoke,builtin,Builtin.copy_,lp,lb,run_underlying le,lX,eK lC,<-lo,ap,W,ld]
  split at o
  ·rename_i ah
   cases o
   obtain⟨w',lA,lN⟩:=key lT.1
   exact tC ah lA (lr _ _ ⟨m,lN⟩)
  ·rename_i d ah
   split at o
   case h_2=>cases o
   rename_i L
   cases o
   obtain⟨w',lA,lN⟩:=key lT.1
   exact fin d _ w' m _ (.val (.int .i64) _) ah L lA lN (cV.2 rfl) rfl
 ·rename_i args lg O
  split at o
  case h_2=>cases o
  rename_i x t lj lu ah
  split at o
  case h_2=>cases o
  rename_i r e u Y lv
  split at o
  case h_2=>cases o
  rename_i c a4 lF ll
  split at o
  case h_2=>cases o
  rename_i lw
  cases o
  rw[Bool.and_eq_true]at lw
  have lo:=ag.eq_of_beq lw.1
  have aB:=ag.eq_of_beq lw.2
  rw[<-lf.P]at lv ll
  obtain⟨le,lC,lW⟩:=iM lv
  obtain⟨i,z,_,lc,lD,aC,lO⟩:=iV ll
  rw[<-aB,<-lo]at lD lO
  have U:=a8 lF
  have lk:args=#[x]:=by rw[<-Array.toArray_toList (xs:=args),lj]
  have lx:lg=#[t]:=by rw[<-Array.toArray_toList (xs:=lg),lu]
  subst lk
  subst lx
  have lp:Act.eval ⟨T,ai.D cx⟩ x=m r:=be q Y
  have aD:∀w',(zeroValue e).run cx.P w'=.ok z w':=fun w'=>by simp[zeroValue,typeInfo,lc,aC]
  have lE:z.cells.size=c.t.cells:=by rw[<-cf c.t (lO w (ar cx m st.ids))];simp
  have aE:0<c.t.cells:=by rw[lo];exact lW
  obtain⟨cells,lI,aq,au⟩:=q.rows r c U
  rcases lI.2 with ⟨lb,lJ⟩|⟨g,cap,cur,lb,av,Z,l0,aw,lK,ax⟩
  ·have li:c.xs=[]:=List.eq_nil_of_length_eq_zero lJ
   refine tC ah (w':=w) (v:=.tuple #[]) ?_ (lr _ _ ⟨m,?_⟩)
   ·simp[execOp,O,resolve,invoke,builtin,Builtin.clear_,lp,lb,run_underlying le]
   ·have R:(⟨c.e,c.t,List.replicate c.xs.length (ca c.t)⟩:cE)=c:=by rw[li];obtain⟨aF,pa,aG⟩:=c;simp only at li;subst li;rfl
    rw[R]
    obtain⟨l3,ly,l4,lz⟩:=q.rows r c U
    exact q.setRow U ⟨⟨rfl,rfl,rfl,Nat.le_refl _,fun _=>Nat.le_refl _⟩,fun _ _ _=>rfl⟩ ly (di (fun _ _=>cC (fun _ _ _=>rfl) (fun _ _ Z=>kj (fun i lc=>((ni U q.keys c).1 i).1 lc) Z) c.t) lz)
  ·have lP:=Hj (lO w (ar cx m st.ids)) aE c.xs.length
   have l5:(Builtin.zeroCells z.cells c.xs.length)=madeCells z.cells (c.xs.length*c.t.cells):=by rw[<-lE];rfl
   have l6:=q.over U lP (by rw[List.length_replicate];exact Nat.le_refl _) lb Z
   have aH:List.replicate c.xs.length (ca c.t)++c.xs.drop (List.replicate c.xs.length (ca c.t)).length=List.replicate c.xs.length (ca c.t):=by
    rw[List.length_replicate,List.drop_eq_nil_of_le (Nat.le_refl _),List.append_nil]
   rw[aH]at l6
   have lL:(madeCells z.cells (c.xs.length*c.t.cells)).toList.length=c.xs.length*c.t.cells:=by
    rw[iq (fun _ _=>cf c.t) _ _ lP,List.length_replicate]
   have lM:(madeCells z.cells (c.xs.length*c.t.cells)).toList.length<=cur.size:=by
    rw[lL,lK]
    exact Nat.mul_le_mul_right _ l0
   have ld:=run_storeCells_at (P:=cx.P) g 0 c.e (madeCells z.cells (c.xs.length*c.t.cells)).toList 0 cur w Z (by simpa using lM) (xv lP)
   simp only[Nat.add_zero,List.take_zero,List.nil_append,Nat.zero_add]at ld
   by_cases l7:c.xs.length=0
   ·have li:c.xs=[]:=List.eq_nil_of_length_eq_zero l7
    refine tC ah (w':=w) (v:=.tuple #[]) ?_ (lr _ _ ⟨m,?_⟩)
    ·have aI:m r=.slice (some ⟨g,0,none⟩) 0 cap:=by rw[lb,l7]
     simp[execOp,O,resolve,invoke,builtin,Builtin.clear_,lp,aI,run_underlying le]
    ·have R:(⟨c.e,c.t,List.replicate c.xs.length (ca c.t)⟩:cE)=c:=by rw[li];obtain⟨aF,pa,aG⟩:=c;simp only at li;subst li;rfl
     rw[R]
     obtain⟨l3,ly,l4,lz⟩:=q.rows r c U
     exact q.setRow U ⟨⟨rfl,rfl,rfl,Nat.le_refl _,fun _=>Nat.le_refl _⟩,fun _ _ _=>rfl⟩ ly (di (fun _ _=>cC (fun _ _ _=>rfl) (fun _ _ Z=>kj (fun i lc=>((ni U q.keys c).1 i).1 lc) Z) c.t) lz)
   ·refine tC ah (v:=.tuple #[]) ?_ (lr _ _ ⟨m,l6⟩)
    have aJ:m r=.slice (some ⟨g,0,none⟩) c.xs.length cap:=lb
    have lA:(Builtin.clear_ #[t] aa.type #[m r]).run cx.P w=.ok (.tuple #[]) (w.setRow g ((madeCells z.cells (c.xs.length*c.t.cells)).toList++cur.toList.drop (madeCells z.cells (c.xs.length*c.t.cells)).toList.length).toArray):=by
     rw[aJ]
     obtain⟨k,lm⟩:∃k,c.xs.length=k+1:=⟨c.xs.length-1,by omega⟩
     rw[lm]at ld l5⊢
     simp only[Builtin.clear_,List.getElem?_toArray,List.getElem?_cons_zero,Sem.run_bind,run_underlying le,Result.andThen_ok,aD w,l5,ld,Sem.run_pure]
    simp only[execOp,O,resolve,invoke,builtin,Sem.run_bind,Sem.run_pure,Result.andThen_ok,List.map_toArray,List.map_cons,List.map_nil,lp,lA]
 ·rename_i args lg O
  split at o
  case h_2=>cases o
  rename_i x t d lj lu ah
  have lk:args=#[x]:=by rw[<-Array.toArray_toList (xs:=args),lj]
  have lx:lg=#[t]:=by rw[<-Array.toArray_toList (xs:=lg),lu]
  subst lk
  subst lx
  split at o
  ·rename_i n u Y ln L
   cases o
   rw[<-lf.P]at ln
   obtain⟨i,_,_,aK,_,W,_⟩:=da ln
   obtain⟨a,k,cap,la,R⟩:=be q Y
   refine fin d (.int .i64 n) w m _ (.val (.int .i64) n) ah L ?_ q (cV.2 rfl) rfl
   rw[<-R]
   simp[execOp,O,resolve,invoke,builtin,Builtin.len_,la,run_underlying W,goInt]
  ·rename_i b u Y ln L
   split at o
   case h_2=>cases o
   rename_i e k xs aL
   cases o
   rw[<-lf.P]at ln
   obtain⟨i,_,_,aK,_,W,_⟩:=da ln
   obtain⟨g,cap,us,a5,cur,la,_⟩:=q.aZ aL
   obtain⟨a6,R⟩:=be q Y
   rw[la]at R
   have lQ:Act.eval ⟨T,ai.D cx⟩ x=.slice (some ⟨g,0,none⟩) xs.length cap:=by
    simp only[Value.tuple.injEq,Array.mk.injEq,List.cons.injEq]at R
    exact R.1.symm
   refine fin d (.int .i64 (xs.length:Int)) w m _ (.val (.int .i64) _) ah L ?_ q (cV.2 rfl) rfl
   simp[execOp,O,resolve,invoke,builtin,Builtin.len_,lQ,run_underlying W,goInt]
  ·cases o
 ·rename_i args _ O
  split at o
  case h_2=>cases o
  rename_i x y z d lj ah
  split at o
  case h_2=>cases o
  rename_i k a k' b aM c Y aN ll L
  cases lm:gh k k'&&gh k aM with
  |false=>rw[lm]at o;cases o
  |true=>
  rw[lm]at o
  cases o
  rw[Bool.and_eq_true]at lm
  obtain rfl:=mr lm.1
  obtain rfl:=mr lm.2
  have lk:args=#[x,y,z]:=by rw[<-Array.toArray_toList (xs:=args),lj]
  subst lk
  have la:=cV.1 (cW q Y)
  have R:=cV.1 (cW q aN)
  have lQ:=cV.1 (cW q ll)
  refine fin d (.int k (ga (ga a b) c)) w m _ (.val (.int k) _) ah L ?_ q (cV.2 rfl) rfl
  simp[execOp,O,resolve,invoke,builtin,Builtin.min_,la,R,lQ,Builtin.min2,ga]
  rfl
 ·rename_i O
  split at o
  case h_2=>cases o
  rename_i d k v ah ln
  split at o
  case h_2=>cases o
  rename_i L
  cases o
  exact fin d (.map none) w m _ (.val (.map k v) none) ah L (by simp[execOp,O,Act.eval]) q ((bD (t:=.map k v) rfl).2 rfl) rfl
 ·rename_i O
  split at o
  case h_2=>cases o
  rename_i d k v ah ln
  split at o
  case h_2=>cases o
  rename_i L
  cases o
  exact fin d (.map none) w m _ (.val (.map k v) none) ah L (by simp[execOp,O,Act.eval]) q ((bD (t:=.map k v) rfl).2 rfl) rfl
 ·rename_i t parts O
  split at o
  case h_2=>cases o
  rename_i d u i ah le lc
  split at o
  case h_2=>cases o
  rename_i z ll ld
  split at o
  case h_2=>cases o
  rename_i l lE l8
  cases o
  rw[Bool.and_eq_true]at ld
  rw[<-lf.P]at le lc l8
  have lE:=Nat.eq_of_beq_eq_true lE
  obtain⟨a7,a9,lD,W⟩:=da le
  have aP:∃lq d',cx.P.underlying t=some (.struct lq)/\fieldsOf (cG cx.P d') 0 lq.toList=some u:=by
   cases u<;>first|exact W|(simp[ag.n9]at ld)
  obtain⟨lq,d',lR,aQ⟩:=aP
  obtain⟨l9,ab,aR⟩:=J6 lR q (place:=fun k=>(lq.map fun f=>(f.offset,cx.P.cellsOf f.type))[k]?) (fun k off ba aT=>by
   obtain⟨aU,bb,ad,aV,aW,aX,bc⟩:=tg aT
   have:aU=lq:=by rw[lR]at ad;cases ad;rfl
   subst this
   obtain⟨i3,aY,aZ,_⟩:=da aW
   rw[Array.getElem?_map,aV]
   simp[aX,Program.cellsOf,aY,aZ]) parts.toList _ l z.cells.toList (by rw[<-Array.length_toList];exact Ja _) l8
  refine fin d (.agg l9.toArray) w m _ (.eO l) ah ld.2 (cn (s:=Instr.build t (parts.map fun p=>(p.1,Act.eval ⟨T,ai.D cx⟩ p.2))) (by simp only[execOp,O]) ?_) q ⟨l9,rfl,aR⟩ rfl
  refine run_build w t _ _ ?_
  unfold Program.built
  simp only[lc,lR,ll,Ad lq.toList (fun f W=>Ap aQ f W)]
  rw[Array.toList_map]
  rw[Array.toArray_toList]at ab
  rw[<-ab]
  congr 1
  funext k
  simp
 ·rename_i t x O
  split at o
  case h_3=>cases o
  ·rename_i d l ah Y
   split at o
   case h_2=>cases o
   rename_i L
   cases o
   have lt:d<cx.n:=by rw[lf.n];exact cK L
   obtain⟨vs,la,ls⟩:=be q Y
   have lS:=qN q lt (cells:=vs.toArray) (e:=t) (l:=l.map (bV.aO st)) (uv q ls)
   refine fin d _ _ _ _ (.ptr d 0) ah L (cn (s:=Instr.box t (Act.eval ⟨T,ai.D cx⟩ x)) (by simp only[execOp,O]) ?_) lS ⟨w.heap.size,cd _ _ _,rfl⟩ rfl
   rw[la]
   simp[Instr.box,newVar,newRow,Value.cells]
  ·rename_i d u y ah Y
   split at o
   case h_2=>cases o
   rename_i L
   rw[Bool.and_eq_true]at L
   cases o
   have lt:d<cx.n:=by rw[lf.n];exact cK L.2
   obtain⟨vs,la,ls⟩:=(dS L.1).1 (be q Y)
   have lS:=qN q lt (cells:=vs.toArray) (e:=t) (l:=leaves u y) (u6 u ls)
   refine fin d _ _ _ _ (.ptr d 0) ah L.2 (cn (s:=Instr.box t (Act.eval ⟨T,ai.D cx⟩ x)) (by simp only[execOp,O]) ?_) lS ⟨w.heap.size,cd _ _ _,rfl⟩ rfl
   rw[la]
   simp[Instr.box,newVar,newRow,Value.cells]
 ·rename_i f first eJ O
  split at o
  case h_2=>cases o
  rename_i d l ah W a0
  split at o
  case h_2=>cases o
  rename_i L
  cases o
  have la:first.map (Act.eval ⟨T,ai.D cx⟩)=#[]:=by rw[show first=#[] by rw[<-Array.toArray_toList (xs:=first),W]];simp
  obtain⟨a1,a2⟩:=FC q a0
  have R:eJ.map (Act.eval ⟨T,ai.D cx⟩)=(eJ.toList.map (Act.eval ⟨T,ai.D cx⟩)).toArray:=by apply Array.ext';simp
  refine fin d (.func (.func f) #[] (eJ.toList.map (Act.eval ⟨T,ai.D cx⟩)).toArray) w m _ (.val (.fn f (pairUp l).t) (pairUp l).x) ah L (cn (s:=Instr.makeFunc (.func f) (first.map (Act.eval ⟨T,ai.D cx⟩)) (eJ.map (Act.eval ⟨T,ai.D cx⟩))) (by simp only[execOp,O]) ?_) q ((bD (t:=.fn f (pairUp l).t) rfl).2 ⟨_,rfl,pK a2 a1⟩) rfl
  rw[la,R]
  simp[Instr.makeFunc]
 ·cases o
def Dj(E:Env)(st:af)(aa:Oper)(orc:List ak):Option (af×List ak×List Prop):=
 match yK E st aa orc with
 |some r=>some r
 |none=>match wY E st aa orc with
  |some r=>some r
  |none=>sH E st aa orc
theorem Ts{E:Env}(q:bv E cx)(h:al cx st T w){aa:Oper}{orc:List ak}{st':af}{orc':List ak}{ob:List Prop}(o:Dj E st aa orc=some (st',orc',ob))(L:bO ob)
  {K:Act->World->Prop}{Q:Exit->Act->World->Prop}(O:∀U w',al cx st' U w'->K ⟨U,ai.D cx⟩ w'):aa.wp cx.P ⟨T,ai.D cx⟩ w K Q:=by
 unfold Dj at o
 split at o
 ·rename_i r R
  cases o
  exact N6 q h R L O
 ·split at o
  ·rename_i r R
   cases o
   exact RX q h R L O
  ·exact Ki q h o L O
end Go.Ev
namespace Go.Ev
open Go Go.RowKit
variable [b8]
variable {cx:bB} {m ay:Nat->Value} {st st':af} {T:Array Value} {w w':World}
variable [ai cx]
def fS(i:Nat)(l:List Nat):Bool:=l.any (Nat.beq i)
theorem qf{i:Nat}{l:List Nat}:fS i l=true↔i∈l:=by
 unfold fS
 rw[List.any_eq_true]
 exact⟨fun⟨x,o,e⟩=>by rw[Nat.eq_of_beq_eq_true e];exact o,fun h=>⟨i,h,Nat.beq_refl i⟩⟩
def gW{α:Type}(o:List Nat)(l:List (Nat×α)):List (Nat×α):=l.filter fun p=>!(fS p.1 o)
theorem oU{α:Type}{o:List Nat}{l:List (Nat×α)}{p:Nat×α}:p∈gW o l↔p∈l/\p.1∉o:=by
 unfold gW
 rw[List.mem_filter,Bool.not_eq_true',<-qf]
 exact⟨fun⟨a,b⟩=>⟨a,by rw[b];decide⟩,fun⟨a,b⟩=>⟨a,by cases h:fS p.1 o with|true=>exact absurd h b|false=>rfl⟩⟩
def af.dH(st:af)(o:List Nat)(q:List (Nat×bT))(L:List (Nat×cE))(f:ao->ao):af:=
 {ab:=st.ab.map fun p=>(p.1,f p.2),ad:=q++(gW o st.ad).map fun p=>(p.1,p.2.map f),rw:=L++gW o st.rw}
theorem ow{D:List Nat}{L:List (Nat×bT)}{O:List (Nat×cE)}{f:ao->ao}{i:Nat}:i∈(st.dH D L O f).ids↔(i∈L.map (·.1)\/i∈O.map (·.1))\/(i∈st.ids/\i∉D):=by
 simp only[af.ids,af.dH,List.map_append,List.mem_append,List.map_map,Function.comp_def]
 have R:∀{α:Type} {l:List (Nat×α)},i∈(gW D l).map (·.1)↔i∈l.map (·.1)/\i∉D:=by
  intro α l
  rw[List.mem_map,List.mem_map]
  constructor
  ·rintro⟨p,q,rfl⟩;obtain⟨a,b⟩:=oU.1 q;exact⟨⟨p,a,rfl⟩,b⟩
  ·rintro⟨⟨p,q,rfl⟩,o⟩;exact⟨p,oU.2 ⟨q,o⟩,rfl⟩
 have U:i∈List.map (fun x:Nat×bT=>x.fst) (gW D st.ad)↔i∈st.ad.map (·.1)/\i∉D:=R
 have W:i∈List.map (fun x:Nat×cE=>x.fst) (gW D st.rw)↔i∈st.rw.map (·.1)/\i∉D:=R
 rw[U,W]
 constructor
 ·rintro((h|h)|(h|h))
  ·exact .inl (.inl h)
  ·exact .inr ⟨.inl h.1,h.2⟩
  ·exact .inl (.inr h)
  ·exact .inr ⟨.inr h.1,h.2⟩
 ·rintro((h|h)|⟨h|h,o⟩)
  ·exact .inl (.inl h)
  ·exact .inr (.inl h)
  ·exact .inl (.inr ⟨h,o⟩)
  ·exact .inr (.inr ⟨h,o⟩)
structure gS(cx:bB)(m ay:Nat->Value)(st:af)(w w':World)(D:List Nat)(o:List (Nat×bT))(q:List (Nat×cE)):Prop where
 same:Same w w'
 block:∀g,g<w.heap.size->(∀j,j∈D->j∈st.ids->¬own (m j) g)->w'.heap[g]? =w.heap[g]?
 old:∀i,i∈st.ids->i∉D->ay i=m i
 new:∀i,i∈o.map (·.1)\/i∈q.map (·.1)->∀g,own (ay i) g->(∃j,j∈D/\j∈st.ids/\own (m j) g)\/(w.heap.size<=g/\g<w'.heap.size)
 apart:∀i j,i∈o.map (·.1)\/i∈q.map (·.1)->j∈o.map (·.1)\/j∈q.map (·.1)->i≠j->∀g,own (ay i) g->¬own (ay j) g
 keys:(o.map (·.1)++q.map (·.1)).Nodup
 mu:∀i,i∈o.map (·.1)\/i∈q.map (·.1)->i∈st.ids->i∈D
 mh:∀b c,(b,c)∈o->c.one=true->b<cx.n
 fb:∀r c,(r,c)∈q->r<cx.n
theorem gS.keeps{D:List Nat}{o:List (Nat×bT)}{q:List (Nat×cE)}(X:gS cx m ay st w w' D o q):∀b,b<w.heap.size->¬ar cx m st.ids b->w'.heap[b]? =w.heap[b]? :=
 fun b L O=>X.block b L fun j _ R U=>O (.inr ⟨j,R,U⟩)
theorem gS.mut{D:List Nat}{L:List (Nat×bT)}{O:List (Nat×cE)}{f:ao->ao}(X:gS cx m ay st w w' D L O):∀b,b<w.heap.size->ar cx ay (st.dH D L O f).ids b->ar cx m st.ids b:=by
 rintro b Z (R|⟨i,o,q⟩)
 ·exact .inl R
 ·rcases ow.1 o with o|⟨o,U⟩
  ·rcases X.new i o b q with ⟨j,_,W,Y⟩|⟨la,_⟩
   ·exact .inr ⟨j,W,Y⟩
   ·omega
  ·rw[X.old i o U]at q
   exact .inr ⟨i,o,q⟩
theorem an.Cy(h:an cx m st T w){D:List Nat}{O:List (Nat×bT)}{R:List (Nat×cE)}{f:ao->ao}(X:gS cx m ay st w w' D O R)
  (lA:∀v s,aS w' (ar cx ay (st.dH D O R f).ids) m v s->aS w' (ar cx ay (st.dH D O R f).ids) ay v (f s))
  (lB:∀b c,(b,c)∈O->∃g,ia (ay b) g c/\gG w' (ar cx ay (st.dH D O R f).ids) ay (ay b) g c)
  (lC:∀r c,(r,c)∈R->∃cells,w'.ownsRow 0 c.e c.t.cells (ay r) c.xs.length cells/\bM (aH w' (ar cx ay (st.dH D O R f).ids) c.t) cells c.xs):an cx ay (st.dH D O R f) T w':=by
 have lj:=X.keeps
 have lk:=X.mut (f:=f)
 have lq:∀v s,aS w (ar cx m st.ids) m v s->aS w' (ar cx ay (st.dH D O R f).ids) ay v (f s):=fun v s lD=>lA v s (fh lj lk lD)
 have lr:∀j,j∈st.ids->j∉D->∀g,own (m j) g->w'.heap[g]? =w.heap[g]? :=fun j q Z g W=>X.block g (h.lt q W).1 fun i U lE lF=>h.apart i j lE q (fun e=>Z (e▸U)) g lF W
 have ls:∀i,i∈O.map (·.1)\/i∈R.map (·.1)->∀g,own (ay i) g->cx.w0.heap.size<=g\/cx.X g:=fun i U g W=>by
  rcases X.new i U g W with ⟨j,_,q,lG⟩|⟨lc,_⟩
  ·exact(h.lt q lG).2
  ·exact .inl (Nat.le_trans h.frame.size lc)
 have lH:∀{b c},(b,c)∈O->b∈O.map (·.1)\/b∈R.map (·.1):=fun o=>.inl (List.mem_map.2 ⟨_,o,rfl⟩)
 have lI:∀{b c},(b,c)∈R->b∈O.map (·.1)\/b∈R.map (·.1):=fun o=>.inr (List.mem_map.2 ⟨_,o,rfl⟩)
 have ll:∀{b c},(b,c)∈st.ad->b∈st.ids:=fun o=>List.mem_append.2 (.inl (List.mem_map.2 ⟨_,o,rfl⟩))
 have lm:∀{b c},(b,c)∈st.rw->b∈st.ids:=fun o=>List.mem_append.2 (.inr (List.mem_map.2 ⟨_,o,rfl⟩))
 refine{size:=h.size,frame:=?_,outer:=h.outer,cJ:=?_,boxes:=?_,rows:=?_,apart:=?_,keys:=?_,fixed:=?_,kept:=?_}
 ·refine h.frame.step X.same fun b o lJ=>X.block b (Nat.lt_of_lt_of_le o h.frame.size) fun j _ q W=>?_
  rcases(h.lt q W).2 with lt|lt
  ·omega
  ·exact lJ lt
 ·intro i aO U
  obtain⟨⟨j,s⟩,L,ld⟩:=List.mem_map.1 U
  cases ld
  obtain⟨v,le,a2⟩:=h.cJ j s L
  exact⟨v,le,lq v s a2⟩
 ·intro b c o
  rcases List.mem_append.1 o with o|o
  ·obtain⟨g,le,a2⟩:=lB b c o
   exact⟨g,le,ls b (lH o),a2⟩
  ·obtain⟨⟨j,s⟩,L,ld⟩:=List.mem_map.1 o
   cases ld
   obtain⟨L,Z⟩:=oU.1 L
   obtain⟨g,lb,lf,lg⟩:=h.boxes j s L
   rw[X.old j (ll L) Z]
   exact⟨g,iT.2 lb,lf,iH lj lk (gF lb) (lr j (ll L) Z) lq lg⟩
 ·intro r c Y
  rcases List.mem_append.1 Y with Y|Y
  ·obtain⟨cells,le,a2⟩:=lC r c Y
   exact⟨cells,le,ls r (lI Y),a2⟩
  ·obtain⟨L,Z⟩:=oU.1 Y
   obtain⟨cells,lb,lf,lg⟩:=h.rows r c L
   rw[X.old r (lm L) Z]
   exact⟨cells,oZ lb fun b o=>lr r (lm L) Z b (gi o),lf,di (fun _ _=>cC lj lk c.t) lg⟩
 ·intro i j U q lu g W la
  rcases ow.1 U with U|⟨U,lv⟩
  ·rcases ow.1 q with q|⟨q,li⟩
   ·exact X.apart i j U q lu g W la
   ·rw[X.old j q li]at la
    rcases X.new i U g W with ⟨k,lh,ln,lo⟩|⟨lc,_⟩
    ·exact h.apart k j ln q (fun e=>li (e▸lh)) g lo la
    ·have:=(h.lt q la).1;omega
  ·rw[X.old i U lv]at W
   rcases ow.1 q with q|⟨q,li⟩
   ·rcases X.new j q g la with ⟨k,lh,ln,lo⟩|⟨lc,_⟩
    ·exact h.apart k i ln U (fun e=>lv (e▸lh)) g lo W
    ·have:=(h.lt U W).1;omega
   ·rw[X.old j q li]at la
    exact h.apart i j U q lu g W la
 ·have lw:∀{α:Type} {l:List (Nat×α)},(gW D l).map (·.1)=(l.map (·.1)).filter fun k=>!(fS k D):=by
   intro α l
   induction l with
   |nil=>rfl
   |cons p r lx=>
    unfold gW at lx⊢
    cases o:fS p.1 D<;>simp[o,lx]
  show((O++(gW D st.ad).map fun p=>(p.1,p.2.map f)).map (·.1)++(R++gW D st.rw).map (·.1)).Nodup
  have lb:(O++(gW D st.ad).map fun p=>(p.1,p.2.map f)).map (·.1)=O.map (·.1)++(st.ad.map (·.1)).filter fun k=>!(fS k D):=by
   rw[<-lw];simp[List.map_map,Function.comp_def]
  have lf:(R++gW D st.rw).map (·.1)=R.map (·.1)++(st.rw.map (·.1)).filter fun k=>!(fS k D):=by rw[<-lw];simp
  rw[lb,lf]
  have lg:(st.ad.map (·.1)).filter (fun k=>!(fS k D))++(st.rw.map (·.1)).filter (fun k=>!(fS k D))=st.ids.filter fun k=>!(fS k D):=by simp[af.ids]
  have lK:List.Perm (O.map (·.1)++(st.ad.map (·.1)).filter (fun k=>!(fS k D))++(R.map (·.1)++(st.rw.map (·.1)).filter fun k=>!(fS k D)))
    ((O.map (·.1)++R.map (·.1))++st.ids.filter fun k=>!(fS k D)):=by
   rw[<-lg]
   simp only[List.append_assoc]
   refine List.Perm.append_left _ ?_
   rw[<-List.append_assoc,<-List.append_assoc]
   exact List.Perm.append_right _ List.perm_append_comm
  rw[lK.nodup_iff,List.nodup_append]
  refine⟨X.keys,h.keys.filter _,fun a lL b o e=>?_⟩
  subst e
  obtain⟨lc,ly⟩:=List.mem_filter.1 o
  have:=X.mu a (List.mem_append.1 lL) lc
  rw[qf.2 this]at ly
  cases ly
 ·intro b c o lz lp
  rcases List.mem_append.1 o with o|o
  ·have:=X.mh b c o lz;omega
  ·obtain⟨⟨j,s⟩,L,ld⟩:=List.mem_map.1 o
   cases ld
   obtain⟨L,Z⟩:=oU.1 L
   rw[X.old j (ll L) Z]
   exact h.fixed j s L (jS.symm.trans lz) lp
 ·intro r c Y lp lh
  rcases List.mem_append.1 Y with Y|Y
  ·have:=X.fb r c Y;omega
  ·obtain⟨L,Z⟩:=oU.1 Y
   rw[X.old r (lm L) Z]
   exact h.kept r c L lp lh
/-! One element of such a slice. -/
theorem an.dH(h:an cx m st T w){D:List Nat}{o:List (Nat×bT)}{q:List (Nat×cE)}{f:ao->ao}(X:gS cx m ay st w w' D o q)
  (L:∀M v s,aS w' M m v s->aS w' M ay v (f s))
  (O:∀b c,(b,c)∈o->∃g,ia (ay b) g c/\gG w' (ar cx ay (st.dH D o q f).ids) ay (ay b) g c)
  (R:∀r c,(r,c)∈q->∃cells,w'.ownsRow 0 c.e c.t.cells (ay r) c.xs.length cells/\bM (aH w' (ar cx ay (st.dH D o q f).ids) c.t) cells c.xs):an cx ay (st.dH D o q f) T w':=
 h.Cy X (L _) O R
theorem BJ{M:Nat->Prop}{k:dR}{h:Option Int}:∀{xs:List k.u.el} {n:Nat} {cs us:List Value},fl w M k h n xs cs us->us.length=xs.length/\cs.length=xs.length*k.u.cells
 |[],_,_,_,⟨o,q⟩=>by rw[o,q];exact⟨rfl,by simp⟩
 |x::xs,n,cs,us,⟨c,d,v,vs,L,O,R,_,U⟩=>by
  obtain⟨a,b⟩:=BJ U
  rw[L,R]
  refine⟨by simp[a],?_⟩
  rw[List.length_append,O,b,List.length_cons,Nat.succ_mul,Nat.add_comm]
theorem Ks{M:Nat->Prop}{k:dR}{h:Option Int}:∀{xs:List k.u.el} {n i:Nat} {x:k.u.el} {cs us:List Value},fl w M k h n xs cs us->xs[i]? =some x->
  ∃q c c2 o v L,cs=q++c++c2/\q.length=i*k.u.cells/\c.length=k.u.cells/\us=o++v::L/\o.length=i/\j3 w M k (gX h (n+i)) c v x/\
   ∀{w':World} {M':Nat->Prop} {h':Option Int} {x':k.u.el} {c':List Value} {v':Value},(∀b,b<w.heap.size->¬M b->w'.heap[b]? =w.heap[b]?)->(∀b,b<w.heap.size->M' b->M b)->(∀j,j≠n+i->(gX h j↔gX h' j))->
    (∀u,u∈o\/u∈L->∀b,aT u=some b->w'.heap[b]? =w.heap[b]?)->c'.length=k.u.cells->j3 w' M' k (gX h' (n+i)) c' v' x'->fl w' M' k h' n (xs.set i x') (q++c'++c2) (o++v'::L)
 |[],_,_,_,_,_,_,O=>by simp at O
 |y::xs,n,0,x,cs,us,⟨c,d,v,vs,la,R,lb,lc,ld⟩,O=>by
  simp at O
  subst O
  subst la
  subst lb
  refine⟨[],c,d,[],v,vs,rfl,by simp,R,rfl,rfl,lc,fun{w' M' h' x' c' v'} U W Y Z le lf=>?_⟩
  exact⟨c',d,v',vs,by simp,le,rfl,lf,qL U W (fun m lm=>Y m (by omega)) (fun u lg=>Z u (.inr lg)) ld⟩
 |y::xs,n,i+1,x,cs,us,⟨c,d,v,vs,la,R,lb,lc,ld⟩,O=>by
  subst la
  subst lb
  obtain⟨q,lj,c2,o,v0,L,lk,a2,a3,a4,a5,lh,li⟩:=Ks (i:=i) ld (by simpa using O)
  subst lk
  subst a4
  have ll:n+1+i=n+(i+1):=by omega
  rw[ll]at lh li
  refine⟨c++q,lj,c2,v::o,v0,L,by simp,by rw[List.length_append,R,a2,Nat.succ_mul,Nat.add_comm],a3,by simp,by simp[a5],lh,fun{w' M' h' x' c' v'} U W Y Z le lf=>?_⟩
  refine⟨c,q++c'++c2,v,o++v'::L,by simp,R,by simp,vZ U W (Y n (by omega)) (Z v (.inl List.mem_cons_self)) lc,?_⟩
  exact li U W Y (fun u lg=>Z u (lg.elim (fun h=>.inl (List.mem_cons_of_mem _ h)) .inr)) le lf
theorem an.bp(h:an cx m st T w){b e:Nat}{k:dR}{xs:List k.u.el}{o:Option Int}(q:look st.ad b=some (.bp e k xs o)):
  ∃ah us cells,m b=.tuple (ah::us).toArray/\w.ownsRow 0 e k.u.cells ah xs.length cells/\fl w (ar cx m st.ids) k o 0 xs cells us/\((ah::us).filterMap aT).Nodup:=by
 obtain⟨g,_,_,ah,us,cells,L,O,R,U⟩:=h.boxes b _ (a8 q)
 exact⟨ah,us,cells,L,O,R,U⟩
theorem PU{r:Value}{us:List Value}{g:Nat}:own (.tuple (r::us).toArray) g↔g∈(r::us).filterMap aT:=by
 rw[dg,List.mem_filterMap]
 constructor
 ·rintro(h|⟨u,hu,h⟩)
  ·exact⟨r,List.mem_cons_self,h⟩
  ·exact⟨u,List.mem_cons_of_mem _ hu,h⟩
 ·rintro⟨u,hu,h⟩
  rcases List.mem_cons.1 hu with rfl|hu
  ·exact .inl h
  ·exact .inr ⟨u,hu,h⟩
theorem ql{e o n:Nat}{v:Value}{cells:List Value}(h:w.ownsRow 0 e o v n cells)(Y:0<n):∃g cap cur,v=.slice (some ⟨g,0,none⟩) n cap/\w.heap[g]? =some (.cells cur e (0,0))/\n<=cap/\cap<=maxLen/\cur.size=cap*o/\cur.toList.take (n*o)=cells:=by
 rcases h.2 with ⟨_,Z⟩|⟨g,cap,cur,q,_,L,O,R,U,W⟩
 ·omega
 ·exact⟨g,cap,cur,q,L,O,R,U,W⟩
def ao.dI(o:List Nat)(s:ao):ao:=bif o.any (fun r=>s.refs r)then .any else s
theorem L7{D:List Nat}{s:ao}(h:D.any (fun r=>s.refs r)=false){b:Nat}(o:s.refs b=true):b∉D:=by
 intro ah
 have:=List.any_eq_false.1 h b ah
 exact this o
theorem qj{M:Nat->Prop}{m2:Nat->Value}:∀{vs:List Value} {l:List bV},(∀b,l.any (bV.is b)=true->m2 b=m b)->cX w M m vs l->cX w M m2 vs l
 |[],[],_,_=>trivial
 |[],_::_,_,h=>h.elim
 |_::_,[],_,h=>h.elim
 |_::_,.v _::_,o,⟨L,O⟩=>⟨L,qj (fun b q=>o b (by rw[List.any_cons,q,Bool.or_true])) O⟩
 |_::vs,.a::us,o,h=>qj (vs:=vs) (l:=us) (fun b q=>o b (by rw[List.any_cons,q,Bool.or_true])) h
 |_::_,.r c::_,o,⟨L,O⟩=>⟨by rw[o c (by rw[List.any_cons];show(Nat.beq c c||_)=true;rw[Nat.beq_refl,Bool.true_or])];exact L,qj (fun b q=>o b (by rw[List.any_cons,q,Bool.or_true])) O⟩
theorem mL{M:Nat->Prop}{m2:Nat->Value}{D:List Nat}(W:∀b,b∉D->m2 b=m b){v:Value}{s:ao}(h:aS w M m v s):aS w M m2 v (s.dI D):=by
 unfold ao.dI
 cases ah:D.any (fun r=>s.refs r)with
 |true=>trivial
 |false=>
  have key:∀b,s.refs b=true->m2 b=m b:=fun b L=>W b (L7 ah L)
  show aS w M m2 v s
  cases s with
  |any=>trivial
  |undef=>exact h
  |val t x=>exact h
  |dD l=>exact h
  |vptr t x=>exact h
  |ptr b off=>obtain⟨g,o,q⟩:=h;exact⟨g,by rw[key b (Nat.beq_refl b)];exact o,q⟩
  |eX b=>show _\/v=m2 b;rw[key b (Nat.beq_refl b)];exact h
  |row b=>show v=m2 b;rw[key b (Nat.beq_refl b)];exact h
  |dN b i off U=>obtain⟨g,n,cap,o,q⟩:=h;exact⟨g,n,cap,by rw[key b (Nat.beq_refl b)];exact o,q⟩
  |iter b=>show v=m2 b;rw[key b (Nat.beq_refl b)];exact h
  |dz b p=>obtain⟨g,o,q⟩:=h;exact⟨g,by rw[key b (Nat.beq_refl b)];exact o,q⟩
  |osl b=>obtain⟨us,o⟩:=h;exact⟨us,by rw[key b (Nat.beq_refl b)];exact o⟩
  |fC b i=>obtain⟨g,n,cap,us,o,q⟩:=h;exact⟨g,n,cap,us,by rw[key b (Nat.beq_refl b)];exact o,q⟩
  |sub b i=>obtain⟨O,us,o,q⟩:=h;exact⟨O,us,by rw[key b (Nat.beq_refl b)];exact o,q⟩
  |clos f bs=>
   have e:bs.map m2=bs.map m:=List.map_congr_left fun b L=>key b (List.any_eq_true.2 ⟨b,L,Nat.beq_refl b⟩)
   show v=_
   rw[e]
   exact h
  |fM l=>obtain⟨vs,e,R⟩:=h;exact⟨vs,e,qj key R⟩
  |eO l=>obtain⟨vs,e,R⟩:=h;exact⟨vs,e,qj key R⟩
  |ah n=>exact h
  |b9 f b=>show v=_;rw[key b (Nat.beq_refl b)];exact h
  |dM b i off U=>obtain⟨g,n,cap,us,o,q⟩:=h;exact⟨g,n,cap,us,by rw[key b (Nat.beq_refl b)];exact o,q⟩
  |eV b i j off U=>obtain⟨O,us,g,n,cap,o,q⟩:=h;exact⟨O,us,g,n,cap,by rw[key b (Nat.beq_refl b)];exact o,q⟩
end Go.Ev
