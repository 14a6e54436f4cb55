/- Owned slices whose elements hold owned slices: pointers, lengths; given up; all of these operations. -/
import Derived.Test.YtgkgdfmldioddaaGreatDoorMM3
import Derived.Lib.Repeat
import Derived.Shelf.Unicode.DecodeAny
import Derived.Test.YtgkgdfmldioddaaGreatDoorMM1
import Derived.Lib.LaidU8
import Derived.StillTail
import Derived.Laws.IdiomRangeMap
set_option linter.unusedSectionVars false
set_option linter.unusedVariables false
set_option linter.unusedSimpArgs false
namespace Go.Ev
open Go Go.RowKit
variable [b6]
variable {cx:bB} {m aA:Nat->Value} {st st':ae} {T:Array Value} {w w':World}
def u4:List ak->Option (List bQ)
 |[]=>some []
 |.val t x::l=>match u4 l with
  |some r=>some (.v ⟨t,x⟩::r)
  |none=>none
 |.row b::l=>match u4 l with
  |some r=>some (.r b::r)
  |none=>none
 |_=>none
theorem Ah{M:Nat->Prop}:∀{cs:List Value} {l:List ak} {r:List bQ},u4 l=some r->cA w M m cs l->dd w M m cs r
 |[],[],r,h,_=>by cases h;trivial
 |[],_::_,_,_,h=>h.elim
 |_::_,[],_,_,h=>h.elim
 |c::cs,s::l,r,h,⟨h1,O⟩=>by
  unfold u4 at h
  split at h
  ·rename_i e;cases e
  ·rename_i t x U e
   cases e
   split at h
   ·rename_i W o;cases h;exact⟨h1,Ah o O⟩
   ·cases h
  ·rename_i b U e
   cases e
   split at h
   ·rename_i W o;cases h;exact⟨h1,Ah o O⟩
   ·cases h
  ·cases h
def bQ.isRow:bQ->Bool
 |.r _=>true
 |_=>false
def BY(P:Program)(st:ae)(t:TypeId)(x:Operand)(orc:List aj):Option dG:=
 match aP st x,ty P t with
 |some (.ptr b off),some u=>match look st.ad b,u.agg with
  |some (.cells l _),true=>match u4 ((l.drop off).take u.cells),Nat.beq ((l.drop off).take u.cells).length u.cells with
   |some r,true=>bif r.any bQ.isRow then some ⟨.eH r,orc,[]⟩else none
   |_,_=>none
  |_,_=>none
 |_,_=>none
theorem PW(h:am cx m st T w){t:TypeId}{x:Operand}{orc:List aj}{O:dG}(o:BY cx.P st t x orc=some O):
  ∃v,(∀w',Ext w w'->(Instr.loadAt t (Act.eval ⟨T,[]⟩ x)).run cx.P w'=.ok v w')/\aQ w (ap cx m st.ids) m v O.aJ:=by
 unfold BY at o
 split at o
 case h_2=>cases o
 rename_i b off u lg lh
 split at o
 case h_2=>cases o
 rename_i l e li Y
 split at o
 case h_2=>cases o
 rename_i r lj U
 have o:some (⟨.eH r,orc,[]⟩:dG)=some O:=by
  cases Z:r.any bQ.isRow with
  |false=>rw[Z]at o;cases o
  |true=>rw[Z]at o;exact o
 cases o
 have U:=Nat.eq_of_beq_eq_true U
 obtain⟨g,lk,ll⟩:=aW h lg
 obtain⟨lm,la,_,cells,ln,lo⟩:=h.box (aX li)
 have:lm=g:=by rw[lk]at la;cases la;rfl
 subst this
 have lc:=(jU u.cells (jU off lo).2).1
 have lp:=mx lc
 obtain⟨v,lq,ld⟩:=jS (P:=cx.P) (c:=(cells.toList.drop off).take u.cells) (off:=off) lh ln (fun j v W=>by
  have lr:=(List.getElem?_eq_some_iff.1 W).1
  rw[List.getElem?_take_of_lt (by rw[List.length_take]at lr;omega),List.getElem?_drop]at W
  simpa using W) (by rw[lp,U]) (fun lf=>by rw[Y]at lf;cases lf)
 rw[Y,if_pos rfl]at ld
 refine⟨v,fun w' lt=>?_,_,ld,Ah lj lc⟩
 rw[ll]
 exact lq w' lt
def rH(P:Program)(st:ae)(aa:Oper)(orc:List aj):Option dG:=
 match aa.op with
 |.indexAddr t x i=>match aP st x,eG (aP st i),ty P t with
  |some (.osl b),some n,some (.ab u)=>match look st.ad b with
   |some (.bj _ k xs _)=>bif u.beq k.u then some ⟨.dW b n 0 k.u.cells,orc,[0<=n/\n<(xs.length:Int)]⟩else none
   |_=>none
  |some (.sub b i0),some n,some (.ab u)=>match look st.ad b,orc with
   |some (.bj _ k xs none),a::orc'=>match a.as k.u,u.beq k.t with
    |some o,true=>match cE k.u o k.off (.ab k.t)with
     |some O=>some ⟨.fD b i0 n 0 k.t.cells,orc',[ao xs i0=some o,0<=n/\n<((fe O).length:Int)]⟩
     |none=>none
    |_,_=>none
   |_,_=>none
  |_,_,_=>none
 |.fieldAddr t x f=>match aP st x,fieldInfo P t f with
  |some (.dW b i off U),some (W,_)=>some ⟨.dW b i (off+W) U,orc,[]⟩
  |some (.fD b i j off U),some (W,_)=>some ⟨.fD b i j (off+W) U,orc,[]⟩
  |_,_=>none
 |.load t x=>match DB P st t x orc with
  |some r=>some r
  |none=>BY P st t x orc
 |.call c=>match c.callee,c.args.toList,c.argTypes.toList with
  |.builtin .len,[x],[t]=>match aP st x,ty P t with
   |some (.osl b),some (.ab _)=>match look st.ad b with
    |some (.bj _ _ xs _)=>some ⟨.val (.int .i64) (xs.length:Int),orc,[]⟩
    |_=>none
   |some (.sub b i),some (.ab _)=>match look st.ad b,orc with
    |some (.bj _ k xs none),a::orc'=>match a.as k.u with
     |some o=>match cE k.u o k.off (.ab k.t)with
      |some O=>some ⟨.val (.int .i64) ((fe O).length:Int),orc',[ao xs i=some o]⟩
      |none=>none
     |none=>none
    |_,_=>none
   |_,_=>none
  |_,_,_=>none
 |_=>none
def rx(st:ae):List bQ->Option (List ak)
 |[]=>some []
 |.v u::l=>match rx st l,u.t.agg with
  |some r,false=>some (.val u.t u.x::r)
  |_,_=>none
 |.r b::l=>match rx st l,look st.rw b with
  |some r,some _=>some (.row b::r)
  |_,_=>none
 |.a::_=>none
theorem Fw(h:am cx m st T w){M:Nat->Prop}:∀{vs:List Value} {l:List bQ} {r:List ak},rx st l=some r->dd w M m vs l->cA w M m vs r/\(∀v∈vs,v.oneCell'=true)/\r.length=l.length
 |[],[],r,o,_=>by cases o;exact⟨trivial,(fun v lc=>by cases lc),rfl⟩
 |[],x::_,_,_,h=>by cases x<;>exact h.elim
 |_::_,[],_,_,h=>h.elim
 |v::vs,.v u::l,r,o,⟨h1,U⟩=>by
  unfold rx at o
  split at o
  ·rename_i ld W lf
   cases o
   obtain⟨Y,Z,la⟩:=Fw h W U
   refine⟨⟨h1,Y⟩,fun x O=>?_,by simp[la]⟩
   rcases List.mem_cons.1 O with rfl|O
   ·exact jK u.t ((bZ lf).1 h1) _ (by simp)
   ·exact Z x O
  ·cases o
 |v::vs,.r b::l,r,o,⟨h1,U⟩=>by
  unfold rx at o
  split at o
  ·rename_i ld c W lg
   cases o
   obtain⟨Y,Z,la⟩:=Fw h W U
   refine⟨⟨h1,Y⟩,fun x O=>?_,by simp[la]⟩
   rcases List.mem_cons.1 O with rfl|O
   ·rw[h1];exact row_one h (aX lg)
   ·exact Z x O
  ·cases o
 |v::vs,.a::l,r,o,_=>by cases o
def CC(P:Program)(st:ae)(t:TypeId)(x y:Operand)(orc:List aj):Option (ae×List aj×List Prop):=
 match aP st x,ty P t,aP st y with
 |some (.ptr b off),some u,some (.eH l)=>match look st.ad b,rx st l,Nat.beq l.length u.cells with
  |some (.cells c e),some aJ,true=>bif Nat.ble (off+u.cells) c.length then some (st.db b (.cells (c.take off++aJ++c.drop (off+u.cells)) e),orc,[])else none
  |_,_,_=>none
 |_,_,_=>none
theorem Tc(h:am cx m st T w){t:TypeId}{x y:Operand}{orc orc':List aj}{st':ae}{ob:List Prop}(o:CC cx.P st t x y orc=some (st',orc',ob)):
  ∃w',(Instr.storeAt t (Act.eval ⟨T,[]⟩ x) (Act.eval ⟨T,[]⟩ y)).run cx.P w=.ok () w'/\am cx m st' T w':=by
 unfold CC at o
 split at o
 case h_2=>cases o
 rename_i b off u l lk ll lm
 obtain⟨g,U,ln⟩:=aW h lk
 split at o
 case h_2=>cases o
 rename_i c e aJ lo lp W
 cases Y:Nat.ble (off+u.cells) c.length with
 |false=>rw[Y]at o;cases o
 |true=>
  rw[Y]at o
  cases o
  have lq:=Nat.le_of_ble_eq_true Y
  have W:=Nat.eq_of_beq_eq_true W
  have O:=aX lo
  obtain⟨Z,lg,_,cells,lh,la⟩:=h.box O
  have:Z=g:=by rw[U]at lg;cases lg;rfl
  subst this
  have lr:b∈st.ids:=List.mem_append.2 (.inl (List.mem_map.2 ⟨_,O,rfl⟩))
  have lt:=mx la
  obtain⟨vs,lu,lv⟩:=aW h lm
  obtain⟨li,lw,lx⟩:=Fw h lp lv
  have ly:vs.length=u.cells:=by rw[mx li,lx,W]
  have lc:(Act.eval ⟨T,[]⟩ y).cells=vs.toArray:=by rw[lu];rfl
  have lz:off+u.cells<=cells.size:=by rw[<-Array.length_toList,lt];exact lq
  have lA:=nm (P:=cx.P) (v:=Act.eval ⟨T,[]⟩ y) ll lh (by rw[lc];simpa using ly) lz (by rw[lc];exact lw)
  refine⟨_,by rw[ln];exact lA,?_⟩
  have lj:Touch m w b (w.setRow Z (cells.toList.take off++(Act.eval ⟨T,[]⟩ y).cells.toList++cells.toList.drop (off+u.cells)).toArray):=
   ⟨ml _ _ _,fun k hk lB=>setRow_other _ _ _ _ (fun e=>lB (by rw[U,e];rfl))⟩
  obtain⟨lC,_⟩:=kM O h.keys (.cells (c.take off++aJ++c.drop (off+u.cells)) e)
  obtain⟨ld,lf⟩:=am.ic (cx:=cx) lr lj lC
  refine h.db O lj (g:=Z) U ⟨_,setRow_heap _ _ _ _ _ _ lh,?_⟩
  simp only[]
  have lD:cA w (ap cx m st.ids) m (Act.eval ⟨T,[]⟩ y).cells.toList aJ:=by rw[lc];exact li
  exact mT (mT (oI ld lf (jU off la).1) (oI ld lf lD)) (oI ld lf (jU (off+u.cells) la).2)
def DQ(E:Env)(st:ae)(aa:Oper)(orc:List aj):Option (ae×List aj×List Prop):=
 match aa.dst with
 |none=>match aa.op with
  |.store t x y=>match Df E.P E.n st t x y orc with
   |some r=>some r
   |none=>CC E.P st t x y orc
  |_=>none
 |some d=>match Nat.blt d E.n with
  |false=>none
  |true=>match rH E.P st aa orc with
   |some r=>some (st.put d r.aJ,r.orc,r.ob)
   |none=>match aa.op with
    |.call c=>match c.callee,c.args.toList with
     |.builtin .append,[.tmp a,_]=>match look st.ab a with
      |some (.sub b i)=>match Fi E.n st b i a d orc with
       |some (s,o,O)=>match pU E s aa o with
        |some (U,W,Y)=>some (U,W,O++Y)
        |none=>none
       |none=>none
      |_=>none
     |_,_=>none
    |_=>none
theorem yp:∀{a b:List Prop},bJ (a++b)->bJ a/\bJ b
 |[],_,h=>⟨trivial,h⟩
 |_::_,_,⟨h1,o⟩=>⟨⟨h1,(yp o).1⟩,(yp o).2⟩
theorem VX(h:am cx m st T w){t:TypeId}{x y:Operand}{orc orc':List aj}{ob:List Prop}(o:Df cx.P cx.n st t x y orc=some (st',orc',ob))(U:bJ ob):
  ∃w' aA,(Instr.storeAt t (Act.eval ⟨T,[]⟩ x) (Act.eval ⟨T,[]⟩ y)).run cx.P w=.ok () w'/\am cx aA st' T w':=by
 unfold Df at o
 split at o
 ·rename_i b i off lh li ln z Y Z la
  split at o
  case h_2=>cases o
  rename_i e k xs a lj lc
  split at o
  case h_2=>cases o
  rename_i lk _ az
  simp only[Bool.and_eq_true,Bool.or_eq_true]at az
  obtain⟨⟨O,W⟩,lf⟩:=az
  split at o
  case h_2=>cases o
  rename_i ll lz ld lo
  split at o
  case h_2=>cases o
  rename_i lA lp
  cases o
  have O:=Nat.eq_of_beq_eq_true O
  subst O
  obtain rfl:=ag.eq_of_beq W
  obtain⟨w',h1,ld⟩:=N4 h lc Y Z la (lf.elim (fun h=>.inl (Nat.le_of_ble_eq_true h)) fun h=>.inr (cG h)) ld lo lp U.1 U.2.1 U.2.2.1
  exact⟨w',m,h1,ld⟩
 ·rename_i b i j off lh li ln z Y Z la
  split at o
  case h_2=>cases o
  rename_i e k xs a c lj lc
  split at o
  case h_2=>cases o
  rename_i lk z0 _ _ az
  simp only[Bool.and_eq_true]at az
  obtain⟨O,W⟩:=az
  split at o
  case h_2=>cases o
  rename_i lq lB lg lr
  split at o
  case h_2=>cases o
  rename_i ll lt
  cases o
  have O:=Nat.eq_of_beq_eq_true O
  subst O
  obtain rfl:=ag.eq_of_beq W
  obtain⟨w',h1,ld⟩:=PS h lc Y Z la lg lr U.1 U.2.1 U.2.2.1 U.2.2.2.1
  exact⟨w',m,h1,ld⟩
 ·rename_i b i off lh li r Y Z la
  split at o
  case h_2=>cases o
  rename_i e k xs lC c a lj lc lm
  split at o
  case h_2=>cases o
  rename_i lk lq _ az lg
  simp only[Bool.and_eq_true,Bool.not_eq_true']at az
  obtain⟨O,W,lf,lu,lv⟩:=az
  split at o
  case h_2=>cases o
  rename_i ll lt
  cases o
  have O:=Nat.eq_of_beq_eq_true O
  subst O
  have W:=Nat.eq_of_beq_eq_true W
  subst W
  obtain rfl:=ag.eq_of_beq lf
  have lw:=CH (Nat.eq_of_beq_eq_true lu) lg
  rw[lw]at lm
  obtain⟨⟨lx,aT,eI,_⟩,gz⟩:=yp U
  exact Pa h lc lm (beq_false lv) Y Z la lx aT eI (fun i0 ly=>by subst ly;exact gz.1)
 ·cases o
theorem A0(h:am cx m st T w){aa:Oper}{orc:List aj}{r:dG}(o:rH cx.P st aa orc=some r)(lj:bJ r.ob):
  ∃v,(∀w',Ext w w'->(execOp (Act.eval ⟨T,[]⟩) aa).run cx.P w'=.ok (.value v) w')/\aQ w (ap cx m st.ids) m v r.aJ:=by
 have U:=h
 unfold rH at o
 have fin:∀(v:Value) (aJ:ak),(∀w',(execOp (Act.eval ⟨T,[]⟩) aa).run cx.P w'=.ok (.value v) w')->aQ w (ap cx m st.ids) m v aJ->aJ=r.aJ->∃v,(∀w',Ext w w'->(execOp (Act.eval ⟨T,[]⟩) aa).run cx.P w'=.ok (.value v) w')/\aQ w (ap cx m st.ids) m v r.aJ:=
  fun v aJ h1 lJ lK=>⟨v,fun w' _=>h1 w',lK▸lJ⟩
 split at o
 ·rename_i t x i Y
  split at o
  ·rename_i b n u W lq ld
   split at o
   case h_2=>cases o
   rename_i e k xs lL lf
   cases az:u.beq k.u with
   |false=>rw[az]at o;cases o
   |true=>
    rw[az]at o
    cases o
    obtain rfl:=ag.eq_of_beq az
    obtain⟨lr,h1⟩:=lj.1
    obtain⟨hd0,us,cells,lc,lg,lt,lM⟩:=U.bj lf
    have lu:0<xs.length:=by omega
    obtain⟨g,cap,cur,O,_⟩:=vA lg lu
    subst O
    obtain⟨lN,lv⟩:=aW U W
    have Z:Act.eval ⟨T,[]⟩ x=.slice (some ⟨g,0,none⟩) xs.length cap:=(jP (lv.symm.trans lc)).1
    obtain⟨lO,lw⟩:=fN U lq
    obtain⟨_,_,_,lh,d2,la,lk⟩:=dn ld
    refine fin (.pointer (some ⟨g,n.toNat*k.u.cells+0,none⟩)) (.dW b n 0 k.u.cells) (fun w'=>ct (s:=Instr.indexAt t (Act.eval ⟨T,[]⟩ x) (Act.eval ⟨T,[]⟩ i)) (by simp only[execOp,Y]) ?_) ⟨g,_,cap,us,lc,rfl⟩ rfl
    have ll:(⟨g,0,none⟩:Addr).add (n.toNat*k.u.cells)=⟨g,n.toNat*k.u.cells+0,none⟩:=by rw[gL];simp
    rw[Z,lw]
    simp only[Instr.indexAt,asIntOf,Sem.run_bind,Sem.run_pure,Result.andThen_ok,run_underlying la]
    rw[if_pos ⟨lr,h1⟩]
    simp only[Sem.run_bind,ff lk,Result.andThen_ok,Sem.run_pure,ll]
  ·rename_i b i0 n u W lq ld
   split at o
   case h_2=>cases o
   rename_i e k xs a lP lf
   split at o
   case h_2=>cases o
   rename_i lQ _ az
   split at o
   case h_2=>cases o
   rename_i li lx
   cases o
   obtain rfl:=ag.eq_of_beq az
   obtain⟨lr,h1⟩:=lj.2.1
   obtain⟨g,cap,cur,us,c1,c,c2,lR,v,lS,f1,f2,f3,f4,f5,f6,f7,f8,f9,f10,f11,f12,f13,f14,f15⟩:=U.mE lf (kf lj.1)
   obtain⟨lT,cells,lm,ly,lU,lV⟩:=yh f13
   rw[lx]at lm
   cases lm
   have lu:0<(fe li).length:=by omega
   obtain⟨g2,lW,l3,O,_⟩:=vA ly lu
   obtain⟨lp,lD,t2,t3⟩:=aW U W
   have Z:Act.eval ⟨T,[]⟩ x=v:=by
    rw[f1]at t2
    rw[<-(jP t2).2,f10,<-f11]at t3
    simpa using t3.symm
   obtain⟨lO,lw⟩:=fN U lq
   obtain⟨_,_,_,lh,d2,la,lk⟩:=dn ld
   refine fin (.pointer (some ⟨g2,n.toNat*k.t.cells+0,none⟩)) (.fD b i0 n 0 k.t.cells) (fun w'=>ct (s:=Instr.indexAt t (Act.eval ⟨T,[]⟩ x) (Act.eval ⟨T,[]⟩ i)) (by simp only[execOp,Y]) ?_) ⟨lp,lD,g2,_,lW,t2,by rw[t3,Z,O],rfl⟩ rfl
   have ll:(⟨g2,0,none⟩:Addr).add (n.toNat*k.t.cells)=⟨g2,n.toNat*k.t.cells+0,none⟩:=by rw[gL];simp
   rw[Z,O,lw]
   simp only[Instr.indexAt,asIntOf,Sem.run_bind,Sem.run_pure,Result.andThen_ok,run_underlying la]
   rw[if_pos ⟨lr,h1⟩]
   simp only[Sem.run_bind,ff lk,Result.andThen_ok,Sem.run_pure,ll]
  ·cases o
 ·rename_i t x f Y
  split at o
  ·rename_i b i off ln lo lX W lz
   cases o
   obtain⟨g,n,cap,us,lc,lg⟩:=aW U W
   refine fin (.pointer (some ⟨g,i.toNat*ln+(off+lo),none⟩)) (.dW b i (off+lo) ln) (fun w'=>ct (s:=Instr.fieldAt t (Act.eval ⟨T,[]⟩ x) f) (by simp only[execOp,Y]) ?_) ⟨g,n,cap,us,lc,rfl⟩ rfl
   rw[lg,nW lz,gL,Nat.add_assoc]
  ·rename_i b i j off ln lo lX W lz
   cases o
   obtain⟨lp,us,g,n,cap,lc,lg,lt⟩:=aW U W
   refine fin (.pointer (some ⟨g,j.toNat*ln+(off+lo),none⟩)) (.fD b i j (off+lo) ln) (fun w'=>ct (s:=Instr.fieldAt t (Act.eval ⟨T,[]⟩ x) f) (by simp only[execOp,Y]) ?_) ⟨lp,us,g,n,cap,lc,lg,rfl⟩ rfl
   rw[lt,nW lz,gL,Nat.add_assoc]
  ·cases o
 ·rename_i t x Y
  split at o
  ·rename_i l4 lY
   cases o
   obtain⟨v,lA,O⟩:=QS U lY lj
   exact⟨v,fun w' lB=>ct (by simp only[execOp,Y]) (lA w' lB),O⟩
  ·obtain⟨v,lA,O⟩:=PW U o
   exact⟨v,fun w' lB=>ct (by simp only[execOp,Y]) (lA w' lB),O⟩
 ·rename_i c Y
  split at o
  ·rename_i x t lE lF lG
   obtain⟨l5,args,lH⟩:=c
   simp only at lE lF lG
   subst lE
   have ll:args=#[x]:=by rw[<-Array.toArray_toList (xs:=args),lF]
   have lZ:lH=#[t]:=by rw[<-Array.toArray_toList (xs:=lH),lG]
   subst ll
   subst lZ
   have len:∀(a:Option Addr) (n cap:Nat) (lI:TypeId),Act.eval ⟨T,[]⟩ x=.slice a n cap->cx.P.underlying t=some (.slice lI)->∀w',(execOp (Act.eval ⟨T,[]⟩) aa).run cx.P w'=.ok (.value (.int .i64 (n:Int))) w':=by
    intro a n cap lI O l0 w'
    simp only[execOp,Y,resolve,invoke,builtin,Sem.run_bind,Sem.run_pure,Result.andThen_ok,List.map_toArray,List.map_cons,List.map_nil,O]
    simp[Builtin.len_,run_underlying l0,goInt]
   split at o
   ·rename_i b u W ld
    split at o
    case h_2=>cases o
    rename_i e k xs lL lf
    cases o
    obtain⟨hd0,us,cells,lc,lg,lt,lM⟩:=U.bj lf
    obtain⟨lN,lv⟩:=aW U W
    have Z:Act.eval ⟨T,[]⟩ x=hd0:=(jP (lv.symm.trans lc)).1
    obtain⟨_,_,_,lh,d2,la,lk⟩:=dn ld
    rcases lg.2 with ⟨O,lC⟩|⟨g,cap,cur,O,_⟩
    ·refine fin (.int .i64 (xs.length:Int)) (.val (.int .i64) (xs.length:Int)) ?_ (cZ.2 rfl) rfl
     intro w'
     rw[lC]
     exact len none 0 0 lh (by rw[Z,O]) la w'
    ·exact fin (.int .i64 (xs.length:Int)) (.val (.int .i64) (xs.length:Int)) (len _ _ _ lh (by rw[Z,O]) la) (cZ.2 rfl) rfl
   ·rename_i b i u W ld
    split at o
    case h_2=>cases o
    rename_i e k xs a lP lf
    split at o
    case h_2=>cases o
    rename_i lQ _
    split at o
    case h_2=>cases o
    rename_i li lx
    cases o
    obtain⟨g,cap,cur,us,c1,c,c2,lR,v,lS,f1,f2,f3,f4,f5,f6,f7,f8,f9,f10,f11,f12,f13,f14,f15⟩:=U.mE lf (kf lj.1)
    obtain⟨lT,cells,lm,ly,lU,lV⟩:=yh f13
    rw[lx]at lm
    cases lm
    obtain⟨lp,lD,t2,t3⟩:=aW U W
    have Z:Act.eval ⟨T,[]⟩ x=v:=by
     rw[f1]at t2
     rw[<-(jP t2).2,f10,<-f11]at t3
     simpa using t3.symm
    obtain⟨_,_,_,lh,d2,la,lk⟩:=dn ld
    rcases ly.2 with ⟨O,lC⟩|⟨g,cap,cur,O,_⟩
    ·refine fin (.int .i64 ((fe li).length:Int)) (.val (.int .i64) ((fe li).length:Int)) ?_ (cZ.2 rfl) rfl
     intro w'
     rw[show(fe li).length=0 from lC]
     exact len none 0 0 lh (by rw[Z,O]) la w'
    ·exact fin (.int .i64 ((fe li).length:Int)) (.val (.int .i64) ((fe li).length:Int)) (len _ _ _ lh (by rw[Z,O]) la) (cZ.2 rfl) rfl
   ·cases o
  ·cases o
 ·cases o
theorem RM{E:Env}(O:br E cx)(h:R cx st T w){aa:Oper}{orc:List aj}{st':ae}{orc':List aj}{ob:List Prop}(o:DQ E st aa orc=some (st',orc',ob))(Y:bJ ob)
  {K:Act->World->Prop}{Q:Exit->Act->World->Prop}(Z:∀lc w',R cx st' lc w'->K ⟨lc,[]⟩ w'):aa.wp cx.P ⟨T,[]⟩ w K Q:=by
 obtain⟨m,W⟩:=h
 unfold DQ at o
 split at o
 ·rename_i af
  split at o
  case h_2=>cases o
  rename_i t x y ld
  rw[<-O.P,<-O.n]at o
  obtain⟨w',aA,la,lg⟩:∃w' aA,(Instr.storeAt t (Act.eval ⟨T,[]⟩ x) (Act.eval ⟨T,[]⟩ y)).run cx.P w=.ok () w'/\am cx aA st' T w':=by
   split at o
   ·rename_i r U
    cases o
    exact VX W U Y
   ·obtain⟨w',lh,li⟩:=Tc W o
    exact⟨w',m,lh,li⟩
  unfold Oper.wp
  have U:(execOp (Act.eval ⟨T,[]⟩) aa).run cx.P w=.ok .skip w':=by
   simp only[execOp,ld,Sem.run_bind,la,Result.andThen_ok,Sem.run_pure]
  rw[U]
  show K (Act.put ⟨T,[]⟩ aa.dst undef) w'
  rw[af]
  exact Z T w' ⟨aA,lg⟩
 ·rename_i d af
  split at o
  case h_1=>cases o
  rename_i lj
  have lk:d<cx.n:=by rw[O.n];exact cG lj
  split at o
  ·rename_i r U
   cases o
   rw[<-O.P]at U
   obtain⟨v,la,ll⟩:=A0 W U Y
   refine gT (la w (Ext.refl w)) ?_
   rw[af]
   exact Z _ _ ⟨m,W.put lk ll⟩
  split at o
  ·rename_i c ld
   split at o
   ·rename_i a y lq lr
    split at o
    case h_2=>cases o
    rename_i b i lm
    split at o
    case h_2=>cases o
    rename_i lt lu lv lf
    split at o
    case h_2=>cases o
    rename_i lw lx ly ln
    cases o
    obtain⟨h1,lo⟩:=yp Y
    rw[<-O.n]at lf
    obtain⟨aA,lp⟩:=Ps W lm lf h1
    exact uB O ⟨aA,lp⟩ ln lo Z
   ·cases o
  ·cases o
end Go.Ev
namespace Go.Ev
open Go Go.RowKit
variable [b6]
variable {cx:bB} {m aA:Nat->Value} {st st':ae} {T:Array Value} {w w':World}
theorem Jp{M:Nat->Prop}{e:Nat}{t:ag}{v:Value}{cells:List Value}{xs:List t.el}(h:w.ownsRow 0 e t.cells v xs.length cells)(U:bD (aF w M t) cells xs)(W:∀g,aO v=some g->¬M g):aF w M (.ab t) [v] xs:=by
 rcases h.2 with ⟨o,Y⟩|⟨g,cap,cur,o,_,ld,Z,la,lf,lg⟩
 ·have lc:xs=[]:=List.eq_nil_of_length_eq_zero Y
  rw[lc,o]
  exact⟨none,0,[],rfl,Nat.le_refl _,by decide,fun _=>rfl,rfl,fun j u O=>by simp at O⟩
 ·exact⟨some ⟨g,0,none⟩,cap,cells,by rw[o],Z,la,(fun e=>by cases e),U,fun j u O=>⟨_,rfl,h.cells (g:=g) (by rw[o];rfl) j u O,W g (by rw[o];rfl)⟩⟩
theorem aj.S7{t:ag}{a x y:t.el}(h:aj.as ⟨t,a⟩ t=some y):aj.as ⟨t,x⟩ t=some x:=by
 have O:t.beq t=true:=by
  unfold aj.as at h
  split at h
  ·assumption
  ·cases h
 unfold aj.as
 split
 ·rfl
 ·rename_i o;rw[O]at o;cases o
theorem Sw:∀(t:ag) {x W:t.el} {off:Nat} {e:ag} {a Y:List e.el},cn t x off ⟨.ab e,a⟩=some W->cE t x off (.ab e)=some Y->cn t W off ⟨.ab e,Y⟩=some x:=by
 intro t
 induction t with
 |ab t ld=>
  intro x W off e a Y h1 O
  obtain⟨rfl,o⟩:=fQ (t:=.ab t) h1
  obtain⟨_,Z⟩:=ja (t:=.ab t) O
  cases o
  cases Z
  exact aj.S7 (t:=.ab t) h1
 |int k=>intro x W off e a Y h1;obtain⟨_,o⟩:=fQ (t:=.int k) h1;cases o
 |bool=>intro x W off e a Y h1;obtain⟨_,o⟩:=fQ (t:=.bool) h1;cases o
 |str=>intro x W off e a Y h1;obtain⟨_,o⟩:=fQ (t:=.str) h1;cases o
 |ptr t ld=>intro x W off e a Y h1;obtain⟨_,o⟩:=fQ (t:=.ptr t) h1;cases o
 |fn f t ld=>intro x W off e a Y h1;obtain⟨_,o⟩:=fQ (t:=.fn f t) h1;cases o
 |err=>intro x W off e a Y h1;obtain⟨_,o⟩:=fQ (t:=.err) h1;cases o
 |cV=>intro x W off e a Y h1;obtain⟨_,o⟩:=fQ (t:=.cV) h1;cases o
 |map p q _ _=>intro x W off e a Y h1;obtain⟨_,o⟩:=fQ (t:=.map p q) h1;cases o
 |unit=>intro x W off e a Y h1;obtain⟨_,o⟩:=fQ (t:=.unit) h1;cases o
 |arr n t ld=>
  intro x W off e a Y h1 O
  unfold cn at h1⊢
  unfold cE at O
  split at h1
  ·rename_i y la U;have:=aj.dC U;cases this
  ·split at O
   ·rename_i y la U;obtain⟨_,Z⟩:=ja (t:=.arr n t) (off:=0) (by rw[show Nat.beq 0 0=true from rfl,cond_true];exact U);cases Z
   split
   ·rename_i y la U;have:=aj.dC U;cases this
   cases lh:Nat.beq t.cells 0 with
   |true=>rw[lh]at h1;cases h1
   |false=>
    rw[lh,cond_false]at h1 O
    rw[cond_false]
    split at h1
    ·rename_i z lf
     rw[lf]at O
     split at h1
     ·rename_i lg lk
      cases h1
      have ll:=(List.getElem?_eq_some_iff.1 lf).1
      have li:(List.set (show List t.el from x) (off/t.cells) lg)[off/t.cells]? =some lg:=by rw[List.getElem?_set_self ll]
      simp only[]at O
      have:=ld lk O
      split
      ·rename_i z2 lc
       have Z:z2=lg:=by rw[li]at lc;cases lc;rfl
       subst Z
       rw[this]
       exact congrArg some ((List.set_set ..).trans (zu lf))
      ·rename_i lc
       rw[li]at lc
       cases lc
     ·cases h1
    ·cases h1
 |pair p q lm ln=>
  intro x W off e a Y h1 O
  unfold cn at h1⊢
  unfold cE at O
  split at h1
  ·rename_i y la U;have:=aj.dC U;cases this
  ·split at O
   ·rename_i y la U;obtain⟨_,Z⟩:=ja (t:=.pair p q) (off:=0) (by rw[show Nat.beq 0 0=true from rfl,cond_true];exact U);cases Z
   split
   ·rename_i y la U;have:=aj.dC U;cases this
   cases lj:Nat.blt off p.cells with
   |true=>
    rw[lj,cond_true]at h1 O
    rw[cond_true]
    split at h1
    ·rename_i y U
     cases h1
     rw[lm U O]
     rfl
    ·cases h1
   |false=>
    rw[lj,cond_false]at h1 O
    rw[cond_false]
    split at h1
    ·rename_i y U
     cases h1
     rw[ln U O]
     rfl
    ·cases h1
theorem I2{M M':Nat->Prop}{k:ef}(o:∀b,b<w.heap.size->M' b->M b):∀{xs:List k.u.el} {n:Nat} {cs us:List Value},(∀u,u∈us->∀g,aO u=some g->¬M' g)->fU w M k none n xs cs us->bD (aF w M' k.u) cs xs
 |[],_,cs,us,_,⟨h,_⟩=>h
 |x::xs,n,cs,us,O,⟨c,d,v,vs,W,ll,Y,Z,la⟩=>by
  subst Y
  refine⟨c,d,W,?_,I2 o (fun u lc=>O u (List.mem_cons_of_mem _ lc)) la⟩
  obtain⟨L,v1,lm,ld,ln,lo,lf,lg,lp,lh⟩:=Z
  obtain⟨rfl,U,cells,li,cY,fh⟩:=lh fun⟨_,h,_⟩=>by cases h
  have lj:aF w M' (.ab k.t) [v] U:=Jp cY (dx (fun _ _=>cB (fun _ _ _=>rfl) o k.t) fh) (O v List.mem_cons_self)
  obtain⟨c1,c2,c3,lk,a2,a3,a4⟩:=qG (v:=⟨.ab k.t,U⟩) lj k.u (cB (fun _ _ _=>rfl) o k.u lg) (Sw k.u lf li)
  obtain⟨z,rfl⟩:=List.length_eq_one_iff.1 (show c2.length=1 from a3)
  rw[ld,lk,<-a2]
  have:(c1++[z]++c3).set c1.length v=c1++[v]++c3:=by simp
  rw[this]
  exact a4
def ak.WS(b:Nat)(k:ef)(xs:List k.u.el):ak->ak
 |.osl c=>bif Nat.beq c b then .val (.ab k.u) xs else .osl c
 |s=>s.dQ [b]
def ae.nv(st:ae)(b:Nat)(k:ef)(xs:List k.u.el):ae:=st.dO [b] [] [] (ak.WS b k xs)
theorem am.nv(h:am cx m st T w){b e:Nat}{k:ef}{xs:List k.u.el}(Y:look st.ad b=some (.bj e k xs none)):am cx m (st.nv b k xs) T w:=by
 obtain⟨af,us,cells,U,ld,lf,lp⟩:=h.bj Y
 have Z:b∈st.ids:=List.mem_append.2 (.inl (List.mem_map.2 ⟨_,aX Y,rfl⟩))
 have X:iZ cx m m st w w [b] [] []:=⟨⟨rfl,rfl,rfl,Nat.le_refl _,fun _=>Nat.le_refl _⟩,fun _ _ _=>rfl,fun _ _ _=>rfl,fun i o=>(by rcases o with o|o<;>cases o),fun i j o=>(by rcases o with o|o<;>cases o),List.nodup_nil,fun i o=>(by rcases o with o|o<;>cases o),fun _ _ o _=>(by cases o),fun _ _ o=>(by cases o)⟩
 have la:∀g,own (m b) g->¬ap cx m (st.nv b k xs).ids g:=by
  rintro g O (lg|⟨i,o,lh⟩)
  ·have h1:=h.outer g lg
   rcases(h.lt Z O).2 with lc|lc
   ·omega
   ·exact h1.2 lc
  ·rcases sH.1 o with (o|o)|⟨o,li⟩
   ·cases o
   ·cases o
   ·exact h.apart i b o Z (fun e=>li (by rw[e];exact List.mem_singleton.2 rfl)) g lh O
 refine h.Jt X (fun v s W=>?_) (fun _ _ o=>(by cases o)) (fun _ _ o=>(by cases o))
 have lj:aQ w (ap cx m (st.nv b k xs).ids) m v (s.dQ [b]):=pz (fun _ _=>rfl) W
 cases s with
 |osl c=>
  show aQ _ _ _ _ (bif Nat.beq c b then .val (.ab k.u) xs else .osl c)
  cases lk:Nat.beq c b with
  |false=>exact W
  |true=>
   have e:=Nat.eq_of_beq_eq_true lk
   subst e
   obtain⟨lq,ll⟩:=W
   have lm:=(jP (ll.symm.trans U)).1
   subst lm
   refine Jp ld (I2 (fun _ _ ln=>X.mut _ ‹_› ln) (fun u lo g O=>la g ?_) lf) fun g O=>la g ?_
   ·rw[U];exact dj.2 (.inr ⟨u,lo,O⟩)
   ·rw[U];exact dj.2 (.inl O)
 |_=>exact lj
def xg:ae->List Operand->ae
 |st,[]=>st
 |st,x::l=>xg (match aP st x with
  |some (.osl b)=>match look st.ad b with
   |some (.bj _ k xs none)=>st.nv b k xs
   |_=>st
  |_=>st) l
theorem F0:∀{l:List Operand} {st:ae},am cx m st T w->am cx m (xg st l) T w
 |[],_,h=>h
 |x::l,st,h=>by
  refine F0 (l:=l) ?_
  split
  ·split
   ·rename_i o;exact h.nv o
   ·exact h
  ·exact h
def Bn:List (Nat×bL)->ae->ae
 |[],st=>st
 |(b,_)::l,st=>Bn l (match look st.ad b with|some (.bj _ k xs none)=>st.nv b k xs|_=>st)
theorem J0:∀{l:List (Nat×bL)} {st:ae},am cx m st T w->am cx m (Bn l st) T w
 |[],_,h=>h
 |(b,c)::l,st,h=>by
  refine J0 (l:=l) ?_
  split
  ·rename_i o;exact h.nv o
  ·exact h
def pl(off:Nat)(t:ag):Nat->List bQ->Option (List ak)
 |_,[]=>some []
 |n,.v u::l=>match pl off t (n+1) l with
  |some r=>some (.val u.t u.x::r)
  |none=>none
 |n,.r _::l=>match Nat.beq n off,pl off t (n+1) l with
  |true,some r=>some (.val (.ab t) []::r)
  |_,_=>none
 |_,_=>none
theorem Bq{M:Nat->Prop}{off b:Nat}{t:ag}:∀{n:Nat} {cs:List Value} {l:List bQ} {r:List ak},pl off t n l=some r->dd w M m cs l->
  (n<=off->l[off-n]? =some (.r b)->cA w M m (cs.set (off-n) (.slice none 0 0)) r)/\(off<n->cA w M m cs r)
 |n,[],[],r,h,_=>by cases h;exact⟨fun _ h=>by simp at h,fun _=>trivial⟩
 |n,[],x::_,_,_,h=>by cases x<;>exact h.elim
 |n,_::_,[],_,_,h=>h.elim
 |n,c::cs,.v u::l,r,h,⟨h1,o⟩=>by
  unfold pl at h
  split at h
  ·rename_i la O
   cases h
   obtain⟨Z,U⟩:=Bq (b:=b) O o
   refine⟨fun W Y=>?_,fun W=>⟨h1,U (by omega)⟩⟩
   by_cases lc:n=off
   ·subst lc;simp at Y
   ·have e:off-n=(off-(n+1))+1:=by omega
    rw[e]at Y⊢
    exact⟨h1,Z (by omega) (by simpa using Y)⟩
  ·cases h
 |n,c::cs,.r lg::l,r,h,⟨h1,o⟩=>by
  unfold pl at h
  split at h
  ·rename_i la ld O
   cases h
   have e:=Nat.eq_of_beq_eq_true ld
   subst e
   obtain⟨Z,U⟩:=Bq (b:=b) O o
   refine⟨fun _ _=>?_,fun W=>absurd W (Nat.lt_irrefl _)⟩
   rw[Nat.sub_self]
   exact⟨(bZ (t:=.ab t) rfl).2 ⟨none,0,[],rfl,Nat.le_refl _,by decide,fun _=>rfl,rfl,fun j v lf=>by simp at lf⟩,U (Nat.lt_succ_self _)⟩
  ·cases h
 |n,_::_,.a::_,_,h,_=>by cases h
theorem G2{M:Nat->Prop}:∀{cs:List Value} {l:List bQ} {i b:Nat},dd w M m cs l->l[i]? =some (.r b)->cs[i]? =some (m b)
 |[],[],i,b,_,h=>by simp at h
 |[],x::_,_,_,h,_=>by cases x<;>exact h.elim
 |_::_,[],_,_,h,_=>h.elim
 |c::cs,x::l,0,b,h,o=>by
  simp at o
  subst o
  rw[h.1]
  rfl
 |c::cs,x::l,i+1,b,h,o=>by
  have O:dd w M m cs l:=by cases x with
   |v u=>exact h.2
   |r r=>exact h.2
   |a=>exact h
  have:=G2 (i:=i) O (by simpa using o)
  simpa using this
end Go.Ev
namespace Go.Ev
open Go Go.RowKit
variable [b6]
variable {cx:bB} {m aA:Nat->Value} {st st':ae} {T:Array Value} {w w':World}
def BM(P:Program)(st:ae)(aa:Oper)(d:Nat):Option (ae×List Prop):=
 match aa.op with
 |.buildSlice t n ps=>match ps.toList,n with
  |[(0,x)],1=>match aP st x,ed P t with
   |some (.eH l),some (e,u)=>match pL P e,zeroOf P e with
    |some k,some _=>match l[k.off]?,pl k.off k.t 0 l,u.beq k.u&&Nat.ble u.cells 16777216 with
     |some (.r r),some W,true=>match look st.rw r,pack k.u W with
      |some c,some (O,[])=>match aj.as ⟨.ab c.t,c.xs⟩ (.ab k.t),Nat.beq c.e k.e with
       |some U,true=>match cn k.u O k.off ⟨.ab k.t,U⟩with
        |some o=>some ((st.dO [d,r] [(d,.bj e k [o] none)] [] (ak.dQ [d,r])).put d (.osl d),[cn k.u o k.off ⟨.ab k.t,[]⟩=some O,cE k.u o k.off (.ab k.t)=some U])
        |none=>none
       |_,_=>none
      |_,_=>none
     |_,_,_=>none
    |_,_=>none
   |_,_=>none
  |_,_=>none
 |_=>none
theorem NO(h:am cx m st T w){aa:Oper}{d:Nat}(af:d<cx.n){ob:List Prop}(o:BM cx.P st aa d=some (st',ob))(ly:bJ ob):
  ∃v w' aA,(execOp (Act.eval ⟨T,[]⟩) aa).run cx.P w=.ok (.value v) w'/\am cx aA st' (T.setIfInBounds d v) w':=by
 unfold BM at o
 split at o
 case h_2=>cases o
 rename_i t n ps lz
 split at o
 case h_2=>cases o
 rename_i x lA
 split at o
 case h_2=>cases o
 rename_i l e u lB lC
 split at o
 case h_2=>cases o
 rename_i k l9 hk lD
 split at o
 case h_2=>cases o
 rename_i r ab li lE az
 split at o
 case h_2=>cases o
 rename_i c lF Z lG
 split at o
 case h_2=>cases o
 rename_i lH lI lJ
 split at o
 case h_2=>cases o
 rename_i lj ad
 cases o
 simp only[Bool.and_eq_true]at az
 obtain rfl:=ag.eq_of_beq az.1
 have ae:=Nat.le_of_ble_eq_true az.2
 obtain⟨lK,lL,_⟩:=ly
 have lM:=CH (Nat.eq_of_beq_eq_true lJ) lI
 subst lM
 obtain⟨vs,lN,lk⟩:=aW h lB
 have ll:=G2 lk li
 have lm:=(Bq (b:=r) lE lk).1 (Nat.zero_le _) li
 rw[Nat.sub_zero]at lm
 obtain⟨c1,c2,ln,lo,la⟩:=yJ k.u lm lG
 have la:c2=[]:=List.eq_nil_of_length_eq_zero (mx la)
 subst la
 rw[List.append_nil]at ln
 subst ln
 have U:vs.length=k.u.cells:=by rw[<-ch k.u lo,List.length_set]
 obtain⟨cells,lO,ah,lP⟩:=h.rows r _ (aX Z)
 have lp:r∈st.ids:=List.mem_append.2 (.inr (List.mem_map.2 ⟨_,aX Z,rfl⟩))
 have lQ:=row_one h (aX Z)
 obtain⟨lc,lR,ai⟩:=jz lC
 obtain⟨aj,lS,_,lT,_,lU,an⟩:=ka lD
 -- the run
 have lV:(execOp (Act.eval ⟨T,[]⟩) aa).run cx.P w=.ok (.value (.slice (some ⟨w.heap.size,0,none⟩) 1 1)) (w.alloc (.cells vs.toArray e)):=by
  refine ct (s:=Instr.buildSlice t 1 (ps.map fun p=>(p.1,Act.eval ⟨T,[]⟩ p.2))) (by simp only[execOp,lz]) ?_
  have lW:¬(1*k.u.cells>2^24):=by omega
  have lX:¬(1*k.u.cells=0):=by omega
  have lY:(zeroValue e).run cx.P w=.ok lS w:=by simp[zeroValue,typeInfo,lT,lU]
  have lZ:(ps.map fun p=>(p.1,Act.eval ⟨T,[]⟩ p.2)).toList=[(0,Value.agg vs.toArray)]:=by rw[Array.toList_map,lA];simp[lN]
  have l0:∀z:Array Value,z.size=k.u.cells->Instr.fill (fun i=>some (i*k.u.cells,k.u.cells)) z [(0,Value.agg vs.toArray)]=some vs.toArray:=by
   intro z lq
   rw[Instr.fill]
   simp only[]
   have l3:(Value.agg vs.toArray).cells=vs.toArray:=rfl
   rw[l3,if_neg (by simp[U,lq]),Instr.fill]
   have:=xI vs [] [] z.toList (by rw[Array.length_toList,lq,U])
   simp at this
   simp[this]
  simp only[Instr.buildSlice,Sem.run_bind,run_underlying lc,Result.andThen_ok,ff lR,if_neg lW,if_neg lX,lY,Sem.run_pure,lZ]
  rw[l0 _ (by simp)]
  simp only[Sem.run_bind,Sem.run_pure,Result.andThen_ok,newRow,run_newObj_alloc]
 have l4:(w.alloc (.cells vs.toArray e)).ownsRow 0 e k.u.cells (.slice (some ⟨w.heap.size,0,none⟩) 1 1) [lj].length vs:=
  ⟨by simp[U],.inr ⟨w.heap.size,1,vs.toArray,rfl,Nat.zero_le _,heap_alloc_new w _,Nat.le_refl _,by decide,by simp[U],by simp[<-U]⟩⟩
 obtain⟨v2,Y⟩:∃v2,v2=Value.tuple (.slice (some ⟨w.heap.size,0,none⟩) 1 1::[m r]).toArray:=⟨_,rfl⟩
 have ld:Ext w (w.alloc (.cells vs.toArray e)):=iN _ _
 have lr:∀b,aO (m r)=some b->b<w.heap.size:=fun b lf=>(h.lt lp (hq lf)).1
 have X:iZ cx m (bo m d v2) st w (w.alloc (.cells vs.toArray e)) [d,r] [(d,.bj e k [lj] none)] []:={
  same:=ld.toSame
  block:=fun lt hk _=>ld.block lt hk
  old:=fun j _ O=>cN _ _ fun e=>O (by simp[e])
  new:=fun j O lt hk=>by
   have:j=d:=by simpa using O
   subst this
   rw[b9,Y]at hk
   rcases dj.1 hk with hk|⟨u,lc,hk⟩
   ·cases hk;exact .inr ⟨Nat.le_refl _,by simp⟩
   ·have:u=m r:=by simpa using lc
    subst this
    exact .inl ⟨r,by simp,lp,hq hk⟩
  apart:=fun j l5 O l6 ao=>by
   have:j=d:=by simpa using O
   have:l5=d:=by simpa using l6
   omega
  keys:=by simp
  pB:=fun j O _=>by
   have:j=d:=by simpa using O
   simp[this]
  pj:=fun lu c' W h1=>by simp at W;rw[W.2]at h1;cases h1
  ew:=fun l7 c' lg=>by cases lg}
 refine⟨_,_,bo m d v2,lV,(h.dO X (fun M v s l8=>pz (fun j O=>cN _ _ fun e=>O (by simp[e])) l8) (fun lu c' W=>?_) (fun l7 c' lg=>by cases lg)).put af ⟨[m r],by rw[b9,Y]⟩⟩
 simp only[List.mem_cons,Prod.mk.injEq,List.not_mem_nil,or_false]at W
 obtain⟨rfl,rfl⟩:=W
 rw[b9]
 have lv:=X.mut (f:=ak.dQ [lu,r])
 have lw:=X.keeps
 refine⟨0,⟨_,_,Y⟩,_,[m r],vs,Y,l4,⟨vs,[],m r,[],by simp,U,rfl,?_,rfl,rfl⟩,?_⟩
 ·refine⟨vs.set k.off (.slice none 0 0),m r,lF,?_,?_,lQ,lK,cB lw lv k.u lo,(fun⟨_,h1,_⟩=>by cases h1),fun _=>⟨rfl,lH,cells,lL,rK lO fun b lf=>ld.block b (lr b lf),dx (fun _ _=>cB lw lv k.t) lP⟩⟩
  ·rw[List.set_set,zu ll]
  ·rw[List.getElem?_set_self (List.getElem?_eq_some_iff.1 ll).1]
 ·have lx:aO (Value.slice (some ⟨w.heap.size,0,none⟩) 1 1)=some w.heap.size:=rfl
  cases lh:aO (m r)with
  |none=>rw[List.filterMap_cons_some lx,List.filterMap_cons_none lh];exact List.nodup_cons.2 ⟨by simp,List.nodup_nil⟩
  |some b=>
   have:=lr b lh
   rw[List.filterMap_cons_some lx,List.filterMap_cons_some lh]
   exact List.nodup_cons.2 ⟨by simp;omega,List.nodup_cons.2 ⟨by simp,List.nodup_nil⟩⟩
def C0(k o:ef):Bool:=o.u.beq k.u&&(Nat.beq o.off k.off&&(Nat.beq o.e k.e&&o.t.beq k.t))
theorem W9{k o:ef}(h:C0 k o=true):o=k:=by
 obtain⟨u,off,e,t⟩:=k
 obtain⟨Y,Z,la,t2⟩:=o
 simp only[C0,Bool.and_eq_true]at h
 obtain⟨h1,O,U,W⟩:=h
 obtain rfl:=ag.eq_of_beq h1
 obtain rfl:=ag.eq_of_beq W
 rw[Nat.eq_of_beq_eq_true O,Nat.eq_of_beq_eq_true U]
theorem Gx{n:Nat}:¬jl none n:=fun⟨_,h,_⟩=>by cases h
theorem MF{M:Nat->Prop}{k:ef}:∀{xs o:List k.u.el} {n O:Nat} {cs U us W:List Value},fU w M k none n xs cs us->fU w M k none O o U W->fU w M k none n (xs++o) (cs++U) (us++W)
 |[],o,n,O,cs,U,us,W,⟨h1,lg⟩,Y=>by
  subst h1
  subst lg
  have key:∀{o:List k.u.el} {n O:Nat} {cs us:List Value},fU w M k none O o cs us->fU w M k none n o cs us:=by
   intro o
   induction o with
   |nil=>intro n O cs us h;exact h
   |cons y o lh=>
    rintro n O cs us ⟨c,d,v,vs,Z,la,lc,ld,lf⟩
    exact⟨c,d,v,vs,Z,la,lc,EO (fun _ _ _=>rfl) (fun _ _ h=>h) ⟨fun h=>absurd h Gx,fun h=>absurd h Gx⟩ (fun _ _=>rfl) ld,lh lf⟩
  exact key Y
 |x::xs,o,n,O,cs,U,us,W,⟨c,d,v,vs,Z,la,lc,ld,lf⟩,Y=>by
  subst Z
  subst lc
  exact⟨c,d++U,v,vs++W,by simp,la,rfl,ld,MF lf Y⟩
theorem GF{M:Nat->Prop}{k:ef}:∀{xs:List k.u.el} {n:Nat} {cs us:List Value},fU w M k none n xs cs us->∀v∈cs,v.oneCell'=true
 |[],n,cs,us,⟨h,_⟩,v,o=>by subst h;cases o
 |x::xs,n,cs,us,⟨c,d,u,vs,O,lc,ld,U,W⟩,v,o=>by
  subst O
  rcases List.mem_append.1 o with o|o
  ·obtain⟨L,v1,lf,Y,lg,Z,lh,la,_⟩:=U
   rw[Y]at o
   rcases List.mem_or_eq_of_mem_set o with o|rfl
   ·exact jK k.u la v o
   ·exact Z
  ·exact GF W v o
def AT(P:Program)(st:ae)(c:Call)(d:Nat):Option (ae×List Prop):=
 match c.callee,c.args.toList,c.argTypes.toList with
 |.builtin .append,[.tmp a,y],[t,W]=>match look st.ab a,aP st y with
  |some (.osl b),some (.osl o)=>match look st.ad b,look st.ad o,ed P t,ed P W with
   |some (.bj e k xs none),some (.bj Y O Z none),some (la,u),some _=>match C0 k O&&(Nat.beq e Y&&(Nat.beq e la&&(u.beq k.u&&(!(Nat.beq b o)&&nC P e)))),aj.as ⟨.ab O.u,Z⟩ (.ab k.u),zeroOf P e with
    |true,some U,some lc=>match lc.beq k.u with
     |true=>some ((st.dO [b,o] [(b,.bj e k (xs++fe U) none)] [] (ak.dQ [b,o])).put d (.osl b),[xs.length+(fe U).length<=lim])
     |false=>none
    |_,_,_=>none
   |_,_,_,_=>none
  |_,_=>none
 |_,_,_=>none
theorem RQ(h:am cx m st T w){aa:Oper}{c:Call}{d:Nat}(lW:aa.op=.call c)(af:d<cx.n){ob:List Prop}(U:AT cx.P st c d=some (st',ob))(lo:bJ ob):
  ∃v w' aA,(execOp (Act.eval ⟨T,[]⟩) aa).run cx.P w=.ok (.value v) w'/\am cx aA st' (T.setIfInBounds d v) w':=by
 unfold AT at U
 split at U
 case h_2=>cases U
 rename_i a y t lF lG lH lI
 split at U
 case h_2=>cases U
 rename_i b lc lX lY
 split at U
 case h_2=>cases U
 rename_i e k xs aT lJ W aU u lZ lK lL l0 l3
 split at U
 case h_2=>cases U
 rename_i aV aY az l4 l5
 split at U
 case h_2=>cases U
 rename_i l6
 cases U
 simp only[Bool.and_eq_true,Bool.not_eq_true']at az
 obtain⟨lw,lx,ly,l7,l8,l9⟩:=az
 have lw:=W9 lw
 subst lw
 have ab:=aj.dC l4
 cases ab
 have lx:=Nat.eq_of_beq_eq_true lx
 subst lx
 have ly:=Nat.eq_of_beq_eq_true ly
 subst ly
 obtain rfl:=ag.eq_of_beq l7
 obtain rfl:=ag.eq_of_beq l6
 have lM:=beq_false l8
 have lo:=lo.1
 obtain⟨hu,aZ,a0⟩:=jz l0
 obtain⟨a1,a5⟩:=lZ
 obtain⟨ad,_,_⟩:=jz l3
 obtain⟨i,z,_,lN,lh,ae,ah⟩:=ka l5
 obtain⟨i2,lO,ai⟩:=yc l9
 rw[lN]at lO
 cases lO
 obtain⟨lg,us,cells,lz,a2,a3,a4⟩:=h.bj lK
 obtain⟨li,Z,lp,lP,lq,lr,lt⟩:=h.bj lL
 have ld:b∈st.ids:=List.mem_append.2 (.inl (List.mem_map.2 ⟨_,aX lK,rfl⟩))
 have lj:lc∈st.ids:=List.mem_append.2 (.inl (List.mem_map.2 ⟨_,aX lL,rfl⟩))
 have an:Act.eval ⟨T,[]⟩ (.tmp a)=lg:=by
  obtain⟨v,t1,ao,t2⟩:=h.cI a _ (aX lX)
  rw[Kg t1]
  exact(jP (t2.symm.trans lz)).1
 have aq:Act.eval ⟨T,[]⟩ y=li:=by
  obtain⟨ao,t2⟩:=aW h lY
  exact(jP (t2.symm.trans lP)).1
 have ar:z.cells.size=i.size:=by rw[lh,<-ch lJ.u (ah w (ap cx m st.ids))];simp
 have au:=(Ai lr).2
 have av:xs.length+W.length<=maxLen:=Nat.le_trans lo tF
 have aw:(xs.length+W.length)*i.bytes<=140737488355328:=by
  have h1:xs.length+W.length<=2147483648:=lo
  calc (xs.length+W.length)*i.bytes<=2147483648*65536:=Nat.mul_le_mul h1 ai
   _=140737488355328:=by decide
 have ax:Builtin.lenOf li=pure W.length:=by
  rcases lq.2 with ⟨la,lk⟩|⟨g,cap,cur,la,_⟩
  ·rw[la,lk];rfl
  ·rw[la];rfl
 have ay:∀w',(∀b,b<w.heap.size->w'.heap[b]? =w.heap[b]?)->(Builtin.firstCells i.size W.length li).run cx.P w'=.ok lp.toArray w':=by
  intro w' aB
  rw[lh]
  rcases lq.2 with ⟨la,lk⟩|⟨g,cap,cur,la,_⟩
  ·have aC:W=[]:=List.eq_nil_of_length_eq_zero lk
   subst aC
   have:lp=[]:=lr.1
   subst this
   rw[la];rfl
  ·rw[la]
   exact CB (lq.cells (g:=g) (by rw[la];rfl)) lq.1 w' aB
 obtain⟨v',w',aD,aE,aF,lA,lQ⟩:=MA (P:=cx.P) (w:=w) t lF aa.type e i z hu (.inl ⟨_,ad⟩) lN ae ar li W.length lp ax ay (by rw[lh];exact au) (GF lr) lg xs.length cells (by rw[lh];exact a2) av aw
 have aG:(execOp (Act.eval ⟨T,[]⟩) aa).run cx.P w=.ok (.value v') w':=by
  obtain⟨a6,args,lR⟩:=c
  simp only at lG lH lI
  subst lG
  have aH:args=#[.tmp a,y]:=by rw[<-Array.toArray_toList (xs:=args),lH]
  have aI:lR=#[t,lF]:=by rw[<-Array.toArray_toList (xs:=lR),lI]
  subst aH
  subst aI
  simp only[execOp,lW,resolve,invoke,builtin,Sem.run_bind,Sem.run_pure,Result.andThen_ok,List.map_toArray,List.map_cons,List.map_nil,an,aq]
  simp only[aD,Sem.run_bind,Sem.run_pure,Result.andThen_ok]
 have lu:∀u,u∈us->∀g,aO u=some g->own (m b) g:=fun u hu g o=>by rw[lz];exact dj.2 (.inr ⟨u,hu,o⟩)
 have ll:∀u,u∈Z->∀g,aO u=some g->own (m lc) g:=fun u hu g o=>by rw[lP];exact dj.2 (.inr ⟨u,hu,o⟩)
 have lB:∀g,aO lg=some g->own (m b) g:=fun g o=>by rw[lz];exact dj.2 (.inl o)
 have lS:∀u,u∈us->∀g,aO u=some g->aO lg≠some g:=by
  intro u hu g o O
  rw[List.filterMap_cons_some O]at a4
  exact(List.nodup_cons.1 a4).1 (List.mem_filterMap.2 ⟨u,hu,o⟩)
 have lT:∀u,u∈Z->∀g,aO u=some g->aO lg≠some g:=fun u hu g o O=>h.apart b lc ld lj lM g (lB g O) (ll u hu g o)
 have lC:∀u,u∈us\/u∈Z->∀g,aO u=some g->g<w.heap.size/\w'.heap[g]? =w.heap[g]? :=by
  rintro u (hu|hu) g o
  ·exact⟨(h.lt ld (lu u hu g o)).1,lA g (h.lt ld (lu u hu g o)).1 (lS u hu g o)⟩
  ·exact⟨(h.lt lj (ll u hu g o)).1,lA g (h.lt lj (ll u hu g o)).1 (lT u hu g o)⟩
 obtain⟨v2,lv⟩:∃v2,v2=Value.tuple (v'::(us++Z)).toArray:=⟨_,rfl⟩
 have X:iZ cx m (bo m b v2) st w w' [b,lc] [(b,.bj e lJ (xs++W) none)] []:={
  same:=aF
  block:=fun lf hk lk=>lA lf hk fun O=>lk b (by simp) ld (lB lf O)
  old:=fun j _ Y=>cN _ _ fun e=>Y (by simp[e])
  new:=fun j Y lf hk=>by
   have:j=b:=by simpa using Y
   subst this
   rw[b9,lv]at hk
   rcases dj.1 hk with hk|⟨u,hu,hk⟩
   ·rcases lQ lf hk with h1|h1
    ·exact .inl ⟨j,by simp,ld,lB lf h1⟩
    ·exact .inr h1
   ·rcases List.mem_append.1 hu with hu|hu
    ·exact .inl ⟨j,by simp,ld,lu u hu lf hk⟩
    ·exact .inl ⟨lc,by simp,lj,ll u hu lf hk⟩
  apart:=fun j aJ Y aK a7=>by
   have:j=b:=by simpa using Y
   have:aJ=b:=by simpa using aK
   omega
  keys:=by simp
  pB:=fun j Y _=>by
   have:j=b:=by simpa using Y
   simp[this]
  pj:=fun lD c' lm h1=>by simp at lm;rw[lm.2]at h1;cases h1
  ew:=fun aL c' lE=>by cases lE}
 refine⟨_,_,bo m b v2,aG,(h.dO X (fun M v s aM=>pz (fun j Y=>cN _ _ fun e=>Y (by simp[e])) aM) (fun lD c' lm=>?_) (fun aL c' lE=>by cases lE)).put af ⟨us++Z,by rw[b9,lv]⟩⟩
 simp only[List.mem_cons,Prod.mk.injEq,List.not_mem_nil,or_false]at lm
 obtain⟨rfl,rfl⟩:=lm
 rw[b9]
 have lU:=X.mut (f:=ak.dQ [lD,lc])
 have lV:=X.keeps
 refine⟨0,⟨_,_,lv⟩,v',us++Z,cells++lp,lv,by rw[List.length_append,<-lh];exact aE,?_,?_⟩
 ·exact MF (tx lV lU (fun _ _=>Iff.rfl) (fun u hu g o=>(lC u (.inl hu) g o).2) a3) (tx lV lU (fun _ _=>Iff.rfl) (fun u hu g o=>(lC u (.inr hu) g o).2) lr)
 ·have aN:(us.filterMap aO).Nodup:=by
   cases O:aO lg with
   |none=>rw[List.filterMap_cons_none O]at a4;exact a4
   |some g=>rw[List.filterMap_cons_some O]at a4;exact(List.nodup_cons.1 a4).2
  have aP:(Z.filterMap aO).Nodup:=by
   cases O:aO li with
   |none=>rw[List.filterMap_cons_none O]at lt;exact lt
   |some g=>rw[List.filterMap_cons_some O]at lt;exact(List.nodup_cons.1 lt).2
  have n3:((us++Z).filterMap aO).Nodup:=by
   rw[List.filterMap_append,List.nodup_append]
   refine⟨aN,aP,fun g o a8 aQ e=>?_⟩
   subst e
   obtain⟨u,hu,h1⟩:=List.mem_filterMap.1 o
   obtain⟨aR,aS,ln⟩:=List.mem_filterMap.1 aQ
   exact h.apart lD lc ld lj lM g (lu u hu g h1) (ll aR aS g ln)
  cases O:aO v' with
  |none=>rw[List.filterMap_cons_none O];exact n3
  |some g=>
   rw[List.filterMap_cons_some O]
   refine List.nodup_cons.2 ⟨fun o=>?_,n3⟩
   obtain⟨u,hu,h1⟩:=List.mem_filterMap.1 o
   have hu:=List.mem_append.1 hu
   rcases lQ g O with ln|ln
   ·rcases hu with hu|hu
    ·exact lS u hu g h1 ln
    ·exact lT u hu g h1 ln
   ·have:=(lC u hu g h1).1
    omega
def Er(E:Env)(st:ae)(aa:Oper)(orc:List aj):Option (ae×List aj×List Prop):=
 match aa.dst with
 |some d=>match Nat.blt d E.n with
  |true=>match aa.op with
   |.call c=>match AT E.P st c d with
    |some (s,ob)=>some (s,orc,ob)
    |none=>none
   |_=>match BM E.P st aa d with
    |some (s,ob)=>some (s,orc,ob)
    |none=>none
  |false=>none
 |none=>none
theorem Qf{E:Env}(Y:br E cx)(h:R cx st T w){aa:Oper}{orc:List aj}{st':ae}{orc':List aj}{ob:List Prop}(o:Er E st aa orc=some (st',orc',ob))(Z:bJ ob)
  {K:Act->World->Prop}{Q:Exit->Act->World->Prop}(ld:∀la w',R cx st' la w'->K ⟨la,[]⟩ w'):aa.wp cx.P ⟨T,[]⟩ w K Q:=by
 obtain⟨m,lc⟩:=h
 unfold Er at o
 split at o
 case h_2=>cases o
 rename_i d af
 split at o
 case h_2=>cases o
 rename_i O
 have O:d<cx.n:=by rw[Y.n];exact cG O
 rw[<-Y.P]at o
 have fin:∀v w' aA,(execOp (Act.eval ⟨T,[]⟩) aa).run cx.P w=.ok (.value v) w'->am cx aA st' (T.setIfInBounds d v) w'->aa.wp cx.P ⟨T,[]⟩ w K Q:=by
  intro v w' aA lf lg
  refine gT lf ?_
  rw[af]
  exact ld _ _ ⟨aA,lg⟩
 split at o
 ·rename_i c lh
  split at o
  case h_2=>cases o
  rename_i s li U
  cases o
  obtain⟨v,w',aA,h1,W⟩:=RQ lc lh O U Z
  exact fin v w' aA h1 W
 ·split at o
  case h_2=>cases o
  rename_i s li U
  cases o
  obtain⟨v,w',aA,h1,W⟩:=NO lc O U Z
  exact fin v w' aA h1 W
def ag.yu:ag->Bool
 |.cV=>true
 |.pair a b=>yu a||yu b
 |.arr _ a=>yu a
 |_=>false
def Hv(P:Program)(aa:Oper):Bool:=match aa.op with
 |.build t _=>match ty P t with
  |some u=>u.yu
  |none=>false
 |_=>false
def GO(E:Env)(st:ae)(aa:Oper)(orc:List aj):Option (ae×List aj×List Prop):=bif Hv E.P aa then yG E st aa orc else none
def mS(E:Env)(o:ae)(aa:Oper)(orc:List aj):Option (ae×List aj×List Prop):=
 match Fp E o aa orc with
 |some r=>some r
 |none=>match GO E o aa orc with
 |some r=>some r
 |none=>match Fo E (xg o (iD E aa.op)) aa orc with
  |some r=>some r
  |none=>match DQ E o aa orc with
   |some r=>some r
   |none=>Er E o aa orc
theorem W1{E:Env}(U:br E cx)(h:R cx st T w){aa:Oper}{orc:List aj}{st':ae}{orc':List aj}{ob:List Prop}(O:mS E st aa orc=some (st',orc',ob))(W:bJ ob)
  {K:Act->World->Prop}{Q:Exit->Act->World->Prop}(Y:∀Z w',R cx st' Z w'->K ⟨Z,[]⟩ w'):aa.wp cx.P ⟨T,[]⟩ w K Q:=by
 unfold mS at O
 split at O
 ·rename_i r o
  cases O
  exact WL U h o W Y
 ·split at O
  ·rename_i r o
   cases O
   unfold GO at o
   cases la:Hv E.P aa with
   |false=>rw[la]at o;cases o
   |true=>rw[la]at o;exact KM U h o W Y
  split at O
  ·rename_i r o
   cases O
   obtain⟨m,lc⟩:=h
   exact N0 U ⟨m,F0 lc⟩ o W Y
  ·split at O
   ·rename_i r o
    cases O
    exact RM U h o W Y
   ·exact Qf U h O W Y
end Go.Ev
namespace Go.Ev
open Go Go.RowKit
variable [b6]
abbrev cX:=Exit->Act->World->Prop
def W(cx:bB)(Q:cX)(c:Code)(st:ae):Prop:=∀T w,R cx st T w->c.wp cx.P Q ⟨T,[]⟩ w
def bK(cx:bB)(ops:Array Oper)(Q:cX)(l:List Oper)(st:ae):Prop:=∀T w,R cx st T w->wpList cx.P ops Q l ⟨T,[]⟩ w
def N(cx:bB)(Q:cX)(e:Exit)(st:ae):Prop:=∀T w,R cx st T w->Q e ⟨T,[]⟩ w
def eK(ops:Array Oper)(st:ae)(aa:Oper):Option Bool:=
 match aa.guard with
 |none=>some true
 |some (j,b)=>match(ops[j]?).bind (·.dst)with
  |some d=>match look st.ab d with
   |some (.val .bool true)=>some b
   |some (.val .bool false)=>some (!b)
   |some .undef=>some false
   |_=>none
  |none=>none
def fX(E:Env)(ops:Array Oper):List Oper->ae->List aj->Option (ae×List aj×List Prop)
 |[],st,orc=>some (st,orc,[])
 |aa::l,st,orc=>match eK ops st aa with
  |some true=>match mS E st aa orc with
   |some (st1,o,ob)=>match fX E ops l st1 o with
    |some (st2,O,U)=>some (st2,O,ob++U)
    |none=>none
   |none=>none
  |some false=>match aa.dst with
   |some d=>match Nat.blt d E.n with
    |true=>fX E ops l (st.put d .undef) orc
    |false=>none
   |none=>fX E ops l st orc
  |none=>none
variable {cx:bB} {st st':ae} {T:Array Value} {w:World} {E:Env} {Q:cX} {ops:Array Oper} {l:List Oper}
theorem o5:∀{a b:List Prop},bJ (a++b)->bJ a/\bJ b
 |[],_,h=>⟨trivial,h⟩
 |_::_,_,⟨h1,o⟩=>⟨⟨h1,(o5 o).1⟩,(o5 o).2⟩
theorem iT(h:R cx st T w){aa:Oper}{b:Bool}(o:eK ops st aa=some b):Region.wanted aa (yielded ops T)=b:=by
 obtain⟨m,Z⟩:=h
 unfold eK at o
 unfold Region.wanted
 split at o
 ·rename_i W
  cases o
  rw[W]
 ·rename_i j Y W
  rw[W]
  simp only[]
  split at o
  ·rename_i d af
   have key:∀s,look st.ab d=some s->∃v,T[d]? =some v/\aQ w (ap cx m st.ids) m v s:=fun s la=>Z.cI d s (aX la)
   unfold yielded
   rw[af]
   simp only[Option.bind_some]
   split at o
   ·rename_i O
    obtain⟨v,h1,U⟩:=key _ O
    rw[h1,dH.1 U]
    cases o
    cases b<;>rfl
   ·rename_i O
    obtain⟨v,h1,U⟩:=key _ O
    rw[h1,dH.1 U]
    cases o
    cases Y<;>rfl
   ·rename_i O
    obtain⟨v,h1,U⟩:=key _ O
    have lc:v=undef:=U
    rw[h1,lc]
    cases o
    cases Y<;>rfl
   ·cases o
  ·cases o
theorem sF(O:br E cx):∀{l:List Oper} {st:ae} {T:Array Value} {w:World} {orc orc':List aj} {st':ae} {ob:List Prop},R cx st T w->fX E ops l st orc=some (st',orc',ob)->bJ ob->
  (∀W w',R cx st' W w'->Q .normal ⟨W,[]⟩ w')->wpList cx.P ops Q l ⟨T,[]⟩ w
 |[],st,T,w,_,_,_,_,h,o,_,U=>by
  cases o
  exact U T w h
 |aa::l,st,T,w,orc,orc',st',ob,h,o,Y,U=>by
  unfold fX at o
  refine wpList_step fun K Z=>?_
  split at o
  ·rename_i la
   rw[iT h la]
   simp only[if_true]
   split at o
   ·rename_i st1 ll lm lc
    split at o
    ·rename_i st2 ln lo ld
     cases o
     obtain⟨lf,lg⟩:=o5 Y
     exact W1 O h lc lf fun W w' lh=>Z _ _ (sF O lh ld lg U)
    ·cases o
   ·cases o
  ·rename_i la
   rw[iT h la]
   simp only[Bool.false_eq_true,if_false]
   split at o
   ·rename_i d af
    split at o
    ·rename_i li
     obtain⟨m,lj⟩:=h
     have lk:=lj.put (d:=d) (s:=.undef) (v:=undef) (by rw[O.n];exact cG li) rfl
     refine Z _ _ ?_
     rw[af]
     exact sF O ⟨m,lk⟩ o Y U
    ·cases o
   ·rename_i af
    refine Z _ _ ?_
    rw[af]
    exact sF O h o Y U
  ·cases o
theorem wE{P:Program}{Q:cX}:∀{l1 l2:List Oper} {a:Act} {w:World},wpList P ops (Exit.then (wpList P ops Q l2) Q) l1 a w->wpList P ops Q (l1++l2) a w
 |[],l2,a,w,h=>h
 |aa::l1,l2,a,w,h=>by
  simp only[List.cons_append,wpList]at h⊢
  split
  ·rename_i U
   rw[if_pos U]at h
   rcases h with h|⟨h1,W⟩
   ·refine .inl ?_
    have o:∀a w,wpList P ops (Exit.then (wpList P ops Q l2) Q) l1 a w->wpList P ops Q (l1++l2) a w:=fun a w=>wE
    unfold Oper.wp Oper.upon at h⊢
    split at h
    ·exact o _ _ h
    ·exact o _ _ h
    ·exact o _ _ h
    ·refine Calls.mono h ?_
     intro e w' O
     cases e with
     |returned v=>exact o _ _ O
     |panicked c=>exact O
     |outgrown=>exact O
    ·exact Rows.mono h fun v w' O=>o _ _ O
    ·exact h
    ·exact h.elim
   ·exact .inr ⟨h1,W⟩
  ·rename_i U
   rw[if_neg U]at h
   exact wE h
/-! The rules. -/
theorem dc(h:N cx Q .normal st):W cx Q .skip st:=fun T w o=>wp_skip (h T w o)
theorem ay{x y:Code}(h:W cx (Exit.then (y.wp cx.P Q) Q) x st):W cx Q (.seq x y) st:=fun T w o=>wp_seq (h T w o)
theorem fF{id:Nat}{c:Code}(h:W cx (Exit.inBlock id Q) c st):W cx Q (.block id c) st:=fun T w o=>wp_block (h T w o)
theorem jR{id:Nat}(h:N cx Q (.exit id) st):W cx Q (.exit id) st:=fun T w o=>wp_exit (h T w o)
theorem ep(h:N cx Q .ret st):W cx Q .ret st:=fun T w o=>wp_ret (h T w o)
theorem da{c:Operand}{x y:Code}{b:Bool}(U:aP st c=some (.val .bool b))(Y:b=true->W cx Q x st)(Z:b=false->W cx Q y st):W cx Q (.cond c x y) st:=fun T w la=>by
 obtain⟨m,o⟩:=la
 have O:=dH.1 (aW o U)
 cases b with
 |true=>exact wp_cond_true O (Y rfl T w ⟨m,o⟩)
 |false=>exact wp_cond_false O (Z rfl T w ⟨m,o⟩)
theorem zd{c:Operand}{x y:Code}(o:aP st c=some (.val .bool true))(O:W cx Q x st):W cx Q (.cond c x y) st:=da o (fun _=>O) (fun h=>by cases h)
theorem vL{c:Operand}{x y:Code}(o:aP st c=some (.val .bool false))(O:W cx Q y st):W cx Q (.cond c x y) st:=da o (fun h=>by cases h) (fun _=>O)
theorem exists_least(p:Nat->Prop):∀n,p n->∃n,p n/\∀m,p m->n<=m:=by
 intro n
 induction n using Nat.strongRecOn with
 |_ n O=>
  intro U
  by_cases h:∃m,m<n/\p m
  ·obtain⟨m,o,W⟩:=h
   exact O m o W
  ·exact⟨n,U,fun m o=>by
    rcases Nat.lt_or_ge m n with h1|h1
    ·exact absurd ⟨m,h1,o⟩ h
    ·exact h1⟩
theorem Ap{p:Nat->Prop}(h:∃n,p n):∃n,p n/\∀m,p m->n<=m:=let⟨n,o⟩:=h;exists_least p n o
open Classical in
theorem Rq{P:Program}{c:Code}{Q:cX}(o:Nat->Act->World->Prop)(step:∀k a w,o k a w->c.wp P (Exit.then (fun O w'=>∃k',k'<k/\o k' O w') Q) a w){k:Nat}{a:Act}{w:World}(h:o k a w):
  (Code.loop c).wp P Q a w:=by
 refine wp_loop (fun a w=>∃k,o k a w) (fun a w=>if h:∃k,o k a w then Classical.choose (Ap h)else 0) ⟨k,h⟩ ?_
 intro a w W
 have hk:=Classical.choose_spec (Ap W)
 refine Code.wp_mono ?_ (step _ a w hk.1)
 intro e O w' q
 cases e with
 |normal=>
  obtain⟨k',Z,U⟩:=q
  refine⟨⟨k',U⟩,?_⟩
  have Y:∃k,o k O w':=⟨k',U⟩
  rw[dif_pos W,dif_pos Y]
  exact Nat.lt_of_le_of_lt ((Classical.choose_spec (Ap Y)).2 k' U) Z
 |_=>exact q
def Gq{α:Type}(cx:bB)(F:Nat->α->Prop)(S:α->ae)(k:Nat):Act->World->Prop:=fun o w'=>∃k' x',k'<k/\F k' x'/\o.defers=[]/\R cx (S x') o.tmps w'
theorem jN{α:Type}(F:Nat->α->Prop)(S:α->ae){c:Code}(step:∀k x,F k x->W cx (Exit.then (Gq cx F S k) Q) c (S x)){k:Nat}{x:α}(h:F k x):W cx Q (.loop c) (S x):=by
 intro T w o
 refine Rq (fun k a w=>∃x,F k x/\a.defers=[]/\R cx (S x) a.tmps w) ?_ ⟨x,h,rfl,o⟩
 rintro k ⟨T,d⟩ w ⟨x,O,af,o⟩
 simp only at af o
 subst af
 refine Code.wp_mono ?_ (step k x O T w o)
 intro e la w' q
 cases e with
 |normal=>obtain⟨k',x',h1,U,Y,Z⟩:=q;exact⟨k',h1,x',U,Y,Z⟩
 |_=>exact q
theorem jc{α:Type}{F:Nat->α->Prop}{S:α->ae}{k k':Nat}(x':α)(hk:k'<k)(o:F k' x'):N cx (Exit.then (Gq cx F S k) Q) .normal (S x'):=
 fun _ _ O=>⟨k',x',hk,o,rfl,O⟩
theorem ax{y:Code}(h:W cx Q y st):N cx (Exit.then (y.wp cx.P Q) Q) .normal st:=h
theorem U0{l:List Oper}(h:bK cx ops Q l st):N cx (Exit.then (wpList cx.P ops Q l) Q) .normal st:=h
theorem fW{K:Act->World->Prop}{id:Nat}(h:N cx Q (.exit id) st):N cx (Exit.then K Q) (.exit id) st:=h
theorem cQ{K:Act->World->Prop}(h:N cx Q .ret st):N cx (Exit.then K Q) .ret st:=h
theorem iO{id:Nat}(h:N cx Q .normal st):N cx (Exit.inBlock id Q) .normal st:=h
theorem fl{id:Nat}(h:N cx Q .ret st):N cx (Exit.inBlock id Q) .ret st:=h
theorem kB{id:Nat}(h:N cx Q .normal st):N cx (Exit.inBlock id Q) (.exit id) st:=fun T w o=>by
 show(if id=id then _ else _:Prop)
 rw[if_pos rfl]
 exact h T w o
theorem Oq{id o:Nat}(O:Nat.beq o id=false)(h:N cx Q (.exit o) st):N cx (Exit.inBlock id Q) (.exit o) st:=fun T w U=>by
 show(if o=id then _ else _:Prop)
 rw[if_neg (beq_false O)]
 exact h T w U
theorem aK{id:Nat}{l:List Oper}(h:bK cx l.toArray Q l st):W cx Q (.region id l.toArray false) st:=fun T w o=>wp_region_lit (h T w o)
theorem Rs(o:br E cx){orc:List aj}{ob:List Prop}(O:fX E ops l st orc=some (st',[],ob))(U:bJ ob)(h:N cx Q .normal st'):bK cx ops Q l st:=
 fun _ _ W=>sF o W O U h
theorem tM(o:br E cx)(n:Nat){orc:List aj}{ob:List Prop}(O:fX E ops (l.take n) st orc=some (st',[],ob))(U:bJ ob)(h:bK cx ops Q (l.drop n) st'):bK cx ops Q l st:=by
 intro T w W
 have:=wE (P:=cx.P) (ops:=ops) (Q:=Q) (l1:=l.take n) (l2:=l.drop n) (sF o W O U h)
 rwa [List.take_append_drop]at this
theorem jg(h:N cx Q .normal st):bK cx ops Q [] st:=h
theorem R.norm(h:R cx st T w){o O ar:List Nat}(U:st.norm o O ar=some st'):R cx st' T w:=let⟨m,W⟩:=h;⟨m,W.norm U⟩
def mH(E:Env)(ops:Array Oper)(l:List Oper)(st:ae)(orc:List aj)(o O ar:List Nat):Option (ae×List aj×List Prop):=
 match fX E ops l st orc with
 |some (s,aa,p)=>match s.norm o O ar with
  |some U=>some (U,aa,p)
  |none=>none
 |none=>none
theorem JY{orc orc':List aj}{ob:List Prop}{o O ar:List Nat}(h:mH E ops l st orc o O ar=some (st',orc',ob)):∃s,fX E ops l st orc=some (s,orc',ob)/\s.norm o O ar=some st':=by
 unfold mH at h
 split at h
 ·rename_i s aa p U
  split at h
  ·rename_i Y W
   cases h
   exact⟨s,U,W⟩
  ·cases h
 ·cases h
theorem N.norm{e:Exit}{o O ar:List Nat}(h:N cx Q e st')(U:st.norm o O ar=some st'):N cx Q e st:=fun T w W=>h T w (W.norm U)
theorem bK.norm{o O ar:List Nat}(h:bK cx ops Q l st')(U:st.norm o O ar=some st'):bK cx ops Q l st:=fun T w W=>h T w (W.norm U)
theorem W.norm{c:Code}{o O ar:List Nat}(h:W cx Q c st')(U:st.norm o O ar=some st'):W cx Q c st:=fun T w Y=>h T w (Y.norm U)
end Go.Ev
namespace Go.Ev
open Go Go.RowKit
variable [b6]
variable {cx:bB} {m:Nat->Value} {st st':ae} {T:Array Value} {w w':World} {P:Program}
theorem J4{l:List MapEntry}{n:Nat}{e:MapEntry}(o:(l.map (·.born)).Nodup)(h:l[n]? =some e):l.findIdx? (fun x=>(x.born:Int)==(e.born:Int))=some n:=by
 induction l generalizing n with
 |nil=>simp at h
 |cons x l O=>
  rw[List.map_cons,List.nodup_cons]at o
  rw[List.findIdx?_cons]
  cases n with
  |zero=>
   simp at h
   subst h
   simp
  |succ n=>
   simp at h
   have U:((x.born:Int)==(e.born:Int))=false:=by
    rw[beq_eq_false_iff_ne]
    intro W
    exact o.1 (List.mem_map.2 ⟨e,List.mem_of_getElem? h,by omega⟩)
   rw[U,O o.2 h]
   simp
theorem HN{p:MapEntry->Bool}(es:Array MapEntry):es.findIdx? p=es.toList.findIdx? p:=by
 conv=>lhs;rw[show es=es.toList.toArray from by simp]
 rw[List.findIdx?_toArray]
theorem KH{α:Type}(f:α->α)(a:α):∀l:List α,(l++[a]).modify l.length f=l++[f a]
 |[]=>rfl
 |x::l=>by
  show x::((l++[a]).modify l.length f)=_
  rw[KH f a l]
  rfl
theorem JC(kv:Value):∀(es:List MapEntry) (n:Nat),(es.modify n fun e=>{e with key:=kv}).map (·.born)=es.map (·.born)
 |[],n=>by cases n<;>rfl
 |e::es,0=>rfl
 |e::es,n+1=>by
  have:=JC kv es n
  simp only[List.modify_succ_cons,List.map_cons,this]
theorem QI{mt W lo:TypeId}{d d':Nat}{u v:ag}{M:Nat->Prop}(lp:P.underlying mt=some (.map W lo))(lq:cD P d W=some u)(lr:eD P d' W=true)(af:d'<=10000)(lt:u.flat=true)
  {z:Value}(lE:∀w,(zeroValue lo).run P w=.ok z w)
  {kv vv:Value}{key:u.el}{val:v.el}(hk:a8 w M kv u key)(lu:a8 w M vv v val){g:Nat}{es:Array MapEntry}{clock:Nat}{ps:List (u.el×v.el)}
  (lg:w.heap[g]? =some (.map es clock))(Y:∀e∈es.toList,e.born<clock)(Z:(es.toList.map (·.born)).Nodup)(lh:dX (dL w M u) (dL w M v) es.toList ps):
  ∃(la:Array MapEntry) (lv:Nat) (v0:Value) (s:Int) (lw:World),(Instr.mapEntry mt (.map (some g)) kv).run P w=.ok (.tuple #[v0,.int .i64 s]) lw/\
   (∀o,(Instr.entryStore o (.map (some g)) (.int .i64 s) vv).run P lw=.ok () {w with heap:=w.heap.setIfInBounds g (.map la lv)})/\
   (∀e∈la.toList,e.born<lv)/\(la.toList.map (·.born)).Nodup/\dX (dL w M u) (dL w M v) la.toList (cb (aD u) ps key val):=by
 have lx:=qk (P:=P) false d W u lq d' lr 10000 af w w M kv key hk
 have lc:=vV lq lr af hk w lh
 have ly:=gD lg
 have lz:(getObj g).run P w=.ok (.map es clock) w:=by simp[getObj,Sem.run,lg]
 have lA:∀aa,(setObj g aa).run P w=.ok () {w with heap:=w.heap.setIfInBounds g aa}:=fun aa=>by simp[setObj,Sem.run,lg]
 have store:∀(O:Array MapEntry) (U:Nat) (s:Int) (n:Nat),O.findIdx? (fun e=>(e.born:Int)==s)=some n->∀o,
   (Instr.entryStore o (.map (some g)) (.int .i64 s) vv).run P {w with heap:=w.heap.setIfInBounds g (.map O U)}=.ok () {w with heap:=w.heap.setIfInBounds g (.map (O.modify n fun e=>{e with val:=vv}) U)}:=by
  intro O U s n lF o
  have h1:(getObj g).run P {w with heap:=w.heap.setIfInBounds g (.map O U)}=.ok (.map O U) {w with heap:=w.heap.setIfInBounds g (.map O U)}:=by
   simp[getObj,Sem.run,Array.getElem?_setIfInBounds_self_of_lt ly]
  have lG:∀aa,(setObj g aa).run P {w with heap:=w.heap.setIfInBounds g (.map O U)}=.ok () {w with heap:=w.heap.setIfInBounds g aa}:=fun aa=>by
   simp[setObj,Sem.run,Array.getElem?_setIfInBounds_self_of_lt ly,Array.setIfInBounds_setIfInBounds]
  unfold Instr.entryStore
  simp only[Sem.run_bind,Result.andThen_ok,h1,asInt,asIntOf,Sem.run_pure,lF,lG]
 rcases wH (kv:=kv) (vv:=vv) (val:=val) (eq:=aD u) (key:=key) hk lu es.toList ps 0 lh with ⟨li,ld⟩|⟨n,e,q,li,ld,lH,lI,lJ⟩
 ·rw[li]at lc
  have lj:(es.push {key:=kv,val:=z,born:=clock}).findIdx? (fun e=>(e.born:Int)==((clock:Nat):Int))=some es.size:=by
   rw[HN]
   refine J4 (e:={key:=kv,val:=z,born:=clock}) ?_ (by simp)
   rw[Array.toList_push,List.map_append,List.nodup_append]
   refine⟨Z,by simp,?_⟩
   intro a lk b ll lK
   simp at ll
   obtain⟨e,he,rfl⟩:=List.mem_map.1 lk
   have:=Y e he
   omega
  have lm:(es.push {key:=kv,val:=z,born:=clock}).modify es.size (fun e=>{e with val:=vv})=es.push {key:=kv,val:=vv,born:=clock}:=by
   apply Array.ext'
   rw[Array.toList_modify,Array.toList_push,Array.toList_push,<-Array.length_toList,KH]
  refine⟨es.push {key:=kv,val:=vv,born:=clock},clock+1,z,clock,_,?_,fun o=>by rw[store _ _ _ _ lj o,lm],?_,?_,?_⟩
  ·unfold Instr.mapEntry
   simp only[Sem.run_bind,run_underlying lp,Result.andThen_ok,lz,lx,lc,lA,lE,Sem.run_pure]
   rfl
  ·intro e he
   rw[Array.toList_push]at he
   rcases List.mem_append.1 he with he|he
   ·exact Nat.lt_succ_of_lt (Y e he)
   ·simp at he;subst he;exact Nat.lt_succ_self _
  ·rw[Array.toList_push,List.map_append,List.nodup_append]
   refine⟨Z,by simp,?_⟩
   intro a lk b ll lK
   simp at ll
   obtain⟨e,he,rfl⟩:=List.mem_map.1 lk
   have:=Y e he
   omega
  ·rw[Array.toList_push,ld]
   exact yy lh ⟨hk,lu,trivial⟩
 ·rw[li,Nat.zero_add]at lc
  have lL:key=q:=Aj u lI
  subst lL
  have lM:e.key=kv:=og lt lH hk
  have lB:es[n]? =some e:=by rw[<-Array.getElem?_toList];exact ld
  have lN:((es[n]?).map (·.key)).getD kv=kv:=by rw[lB];simp[lM]
  have lO:((es[n]?).map (fun x=>(x.born:Int))).getD 0=e.born:=by rw[lB];rfl
  have lP:∀ln,(Instr.keyThatStays kv kv).run P ln=.ok kv ln:=fun ln=>by
   unfold Instr.keyThatStays
   rw[if_pos (DD lt hk)]
   rfl
  have lC:(es.modify n fun e=>{e with key:=kv}).toList=es.toList.modify n fun e=>{e with key:=kv}:=by simp
  have lf:(es.modify n fun e=>{e with key:=kv,val:=vv}).toList=es.toList.modify n fun e=>{e with key:=kv,val:=vv}:=by simp
  have lQ:(es.toList.modify n fun e=>{e with key:=kv}).map (·.born)=es.toList.map (·.born):=by
   exact JC kv es.toList n
  have lj:(es.modify n fun e=>{e with key:=kv}).findIdx? (fun x=>(x.born:Int)==(e.born:Int))=some n:=by
   rw[HN,lC]
   refine J4 (e:={e with key:=kv}) (by rw[lQ];exact Z) ?_
   rw[List.getElem?_modify_eq,ld]
   rfl
  have lm:(es.modify n fun e=>{e with key:=kv}).modify n (fun e=>{e with val:=vv})=es.modify n fun e=>{e with key:=kv,val:=vv}:=by
   apply Array.ext'
   rw[Array.toList_modify,lC,lf,List.modify_modify_eq]
   rfl
  refine⟨es.modify n fun e=>{e with key:=kv,val:=vv},clock,e.val,e.born,_,?_,fun o=>by rw[store _ _ _ _ lj o,lm],?_,?_,?_⟩
  ·unfold Instr.mapEntry
   simp only[Sem.run_bind,run_underlying lp,Result.andThen_ok,lz,lx,lc,lN,lP,lA,Sem.run_pure,lO]
   rfl
  ·intro x lD
   rw[lf]at lD
   have h1:x.born∈(es.toList.modify n fun e=>{e with key:=kv,val:=vv}).map (·.born):=List.mem_map.2 ⟨x,lD,rfl⟩
   rw[se]at h1
   obtain⟨y,lR,e⟩:=List.mem_map.1 h1
   rw[<-e];exact Y y lR
  ·rw[lf,se];exact Z
  ·rw[lf];exact lJ
def fy(x:Operand)(d:Nat):Bool:=match x with
 |.tmp t=>!(Nat.beq t d)
 |_=>true
theorem jI{x:Operand}{d:Nat}{v:Value}(h:fy x d=true):Act.eval ⟨T.setIfInBounds d v,[]⟩ x=Act.eval ⟨T,[]⟩ x:=by
 cases x with
 |tmp t=>
  have o:t≠d:=by
   intro e
   subst e
   simp[fy]at h
  show(T.setIfInBounds d v).getD t undef=T.getD t undef
  rw[Array.getD_eq_getD_getElem?,Array.getD_eq_getD_getElem?,Array.getElem?_setIfInBounds_ne (fun e=>o e.symm)]
 |_=>rfl
theorem eval_put{d:Nat}{v:Value}(h:d<T.size):Act.eval ⟨T.setIfInBounds d v,[]⟩ (.tmp d)=v:=by
 show(T.setIfInBounds d v).getD d undef=v
 rw[Array.getD_eq_getD_getElem?,Array.getElem?_setIfInBounds_self_of_lt h]
 rfl
def yk(P:Program)(st:ae)(t:TypeId)(x k v:Operand):Option ae:=
 match P.underlying t with
 |some (.map _ o)=>match zeroOf P o with
  |some _=>uh P st t x k v
  |none=>none
 |_=>none
theorem Hd(h:am cx m st T w){t:TypeId}{x k v:Operand}{st':ae}(o:yk cx.P st t x k v=some st'):
  ∃v0 s U w',(Instr.mapEntry t (Act.eval ⟨T,[]⟩ x) (Act.eval ⟨T,[]⟩ k)).run cx.P w=.ok (.tuple #[v0,.int .i64 s]) U/\
   (∀lj,(Instr.entryStore lj (Act.eval ⟨T,[]⟩ x) (.int .i64 s) (Act.eval ⟨T,[]⟩ v)).run cx.P U=.ok () w')/\am cx m st' T w':=by
 unfold yk at o
 split at o
 case h_2=>cases o
 rename_i lN lk Y
 split at o
 case h_2=>cases o
 rename_i lO ll
 obtain⟨lP,lm,_,ln,_,lo,_⟩:=ka ll
 unfold uh at o
 split at o
 ·rename_i b lQ lR lS lT lp Z hk lq
  rw[Y]at Z
  cases Z
  split at o
  ·rename_i lU lV ps la lr lt lu lW
   split at o
   ·rename_i y z lv lw lc
    cases o
    simp only[Bool.and_eq_true]at lc
    obtain⟨⟨⟨lx,ly⟩,lz⟩,lA⟩:=lc
    obtain rfl:=ag.eq_of_beq lx
    obtain rfl:=ag.eq_of_beq ly
    have lB:=aj.dC lv
    subst lB
    have lC:=aj.dC lw
    subst lC
    have W:=aX lt
    obtain⟨g,O,_,es,clock,h1,lD,lE,lF⟩:=h.box W
    have O:m b=.map (some g):=O
    have lG:Act.eval ⟨T,[]⟩ x=.map (some g):=by have:Act.eval ⟨T,[]⟩ x=m b:=aW h lp;rw[this,O]
    have lH:∀w',(zeroValue lk).run cx.P w'=.ok lm w':=fun w'=>by simp[zeroValue,typeInfo,ln,lo]
    obtain⟨ld,lf,v0,s,U,lI,lJ,lK,cY,fh⟩:=QI (d:=jp) (d':=16) Y lu lA (by decide) lz lH (df h hk) (df h lq) h1 lD lE lF
    have lg:Touch m w b {w with heap:=w.heap.setIfInBounds g (.map ld lf)}:=
     ⟨⟨rfl,rfl,rfl,by simp,fun _=>Nat.le_refl _⟩,fun k _ lL=>by
      show(w.heap.setIfInBounds g _)[k]? =_
      rw[Array.getElem?_setIfInBounds_ne]
      intro e
      exact lL (by rw[O,e];rfl)⟩
    rw[lG]
    refine⟨v0,s,U,_,lI,lJ,h.db W lg (g:=g) O ?_⟩
    have lM:b∈st.ids:=List.mem_append.2 (.inl (List.mem_map.2 ⟨_,W,rfl⟩))
    obtain⟨lh,li⟩:=am.ic (cx:=cx) lM lg (ids:=(st.db b (.mp la lr (cb (aD la) ps y z))).ids) (kM W h.keys _).1
    refine⟨ld,lf,?_,lK,cY,gH (fun _ _ h=>dh lh li h) (fun _ _ h=>dh lh li h) fh⟩
    show(w.heap.setIfInBounds g _)[g]? =_
    rw[Array.getElem?_setIfInBounds_self_of_lt (gD h1)]
   ·cases o
  ·cases o
 ·cases o
def xE(E:Env)(st:ae):List Oper->Option (ae×List Oper)
 |O::aT::eI::l=>match O.guard,aT.guard,eI.guard,O.dst,aT.dst,eI.dst with
  |none,none,none,some d1,some d2,none=>match O.op,aT.op,eI.op with
   |.mapEntry t (.tmp o) k,.extract (.tmp a) i,.entryStore _ (.tmp U) (.tmp c) v=>
    match Nat.beq a d1&&(Nat.beq i 1&&(Nat.beq c d2&&(Nat.beq o U&&(fy (.tmp o) d1&&(fy (.tmp o) d2&&(fy v d1&&(fy v d2&&(Nat.blt d1 E.n&&Nat.blt d2 E.n))))))))with
    |true=>match yk E.P st t (.tmp o) k v with
     |some st1=>some ((st1.put d1 .any).put d2 .any,l)
     |none=>none
    |false=>none
   |_,_,_=>none
  |_,_,_,_,_,_=>none
 |_=>none
theorem TF{E:Env}(U:br E cx){Q:cX}{ops:Array Oper}{l ld:List Oper}(o:xE E st l=some (st',ld))(h:bK cx ops Q ld st'):bK cx ops Q l st:=by
 unfold xE at o
 split at o
 case h_2=>cases o
 rename_i ll aT eI l
 split at o
 case h_2=>cases o
 rename_i d1 d2 g1 g2 g3 lm ln lo
 split at o
 case h_2=>cases o
 rename_i t lf k a i t2 lK c v lp lq lr
 split at o
 case h_2=>cases o
 rename_i lg
 simp only[Bool.and_eq_true]at lg
 obtain⟨W,Y,Z,la,lt,lu,lv,lw,lx,ly⟩:=lg
 have W:=Nat.eq_of_beq_eq_true W
 have Y:=Nat.eq_of_beq_eq_true Y
 have Z:=Nat.eq_of_beq_eq_true Z
 have la:=Nat.eq_of_beq_eq_true la
 subst W
 subst Y
 subst Z
 subst la
 split at o
 case h_2=>cases o
 rename_i st1 lh
 cases o
 intro T w ⟨m,lc⟩
 rw[<-U.P]at lh
 obtain⟨v0,s,O,w',lz,cY,lA⟩:=Hd lc lh
 have li:a<cx.n:=by rw[U.n];exact cG lx
 have lj:c<cx.n:=by rw[U.n];exact cG ly
 have lB:a<T.size:=by rw[lc.size];exact li
 refine wpList_step fun K lC=>?_
 rw[show Region.wanted ll (yielded ops T)=true from by unfold Region.wanted;rw[g1]]
 simp only[if_true]
 refine gT (w':=O) (v:=.tuple #[v0,.int .i64 s]) (ct (by simp only[execOp,lp]) lz) ?_
 refine lC _ _ ?_
 rw[lm]
 refine wpList_step fun lL lD=>?_
 rw[show∀y,Region.wanted aT y=true from fun y=>by unfold Region.wanted;rw[g2]]
 simp only[if_true]
 have lE:Act.eval ⟨T.setIfInBounds a (.tuple #[v0,.int .i64 s]),[]⟩ (.tmp a)=.tuple #[v0,.int .i64 s]:=eval_put lB
 refine gT (w':=O) (v:=.int .i64 s) (by simp[execOp,lq,lE,Instr.extract]) ?_
 refine lD _ _ ?_
 rw[ln]
 refine wpList_step fun lk lF=>?_
 rw[show∀y,Region.wanted eI y=true from fun y=>by unfold Region.wanted;rw[g3]]
 simp only[if_true]
 have lG:Act.eval ⟨(T.setIfInBounds a (.tuple #[v0,.int .i64 s])).setIfInBounds c (.int .i64 s),[]⟩ (.tmp c)=.int .i64 s:=eval_put (by rw[Array.size_setIfInBounds,lc.size];exact lj)
 have lH:Act.eval ⟨(T.setIfInBounds a (.tuple #[v0,.int .i64 s])).setIfInBounds c (.int .i64 s),[]⟩ (.tmp lf)=Act.eval ⟨T,[]⟩ (.tmp lf):=(jI lu).trans (jI lt)
 have lI:Act.eval ⟨(T.setIfInBounds a (.tuple #[v0,.int .i64 s])).setIfInBounds c (.int .i64 s),[]⟩ v=Act.eval ⟨T,[]⟩ v:=(jI lw).trans (jI lv)
 have lJ:(execOp (Act.eval ⟨(T.setIfInBounds a (.tuple #[v0,.int .i64 s])).setIfInBounds c (.int .i64 s),[]⟩) eI).run cx.P O=.ok .skip w':=by
  simp only[execOp,lr,Sem.run_bind,lG,lH,lI,cY,Result.andThen_ok,Sem.run_pure]
 show eI.wp cx.P ⟨(T.setIfInBounds a (.tuple #[v0,.int .i64 s])).setIfInBounds c (.int .i64 s),[]⟩ O lk _
 unfold Oper.wp
 rw[lJ]
 show lk (Act.put ⟨(T.setIfInBounds a (.tuple #[v0,.int .i64 s])).setIfInBounds c (.int .i64 s),[]⟩ eI.dst undef) w'
 rw[lo]
 exact lF _ _ (h _ _ ⟨m,(lA.put li (s:=.any) trivial).put lj (s:=.any) trivial⟩)
end Go.Ev
namespace Go.Ev
open Go Go.RowKit
variable [b6]
variable {cx:bB} {m:Nat->Value} {st st':ae} {T:Array Value} {w w':World} {E:Env} {Q:cX}
def Is:aj->ak
 |⟨.ptr t,x⟩=>.vptr t x
 |⟨t,x⟩=>.val t x
theorem Sx{M:Nat->Prop}{m:Nat->Value}{v:Value}{u:aj}(h:a8 w M v u.t u.x):aQ w M m v (Is u):=by
 obtain⟨t,x⟩:=u
 cases t with
 |ptr t=>
  obtain⟨a,cells,e,r⟩:=(bZ (t:=.ptr t) rfl).1 h
  simp only[List.cons.injEq,and_true]at e
  exact⟨a,cells,e,r⟩
 |_=>exact h
def qb:Nat->List aj->List (Nat×ak)
 |_,[]=>[]
 |k,u::us=>(k,Is u)::qb (k+1) us
theorem HO{M:Nat->Prop}:∀{vs:List Value} {l:List aj},eZ w M vs l->vs.length=l.length
 |[],[],_=>rfl
 |[],_::_,h=>h.elim
 |_::_,[],h=>h.elim
 |_::_,_::_,⟨_,h⟩=>by simp[HO h]
theorem Hl{M:Nat->Prop}{m:Nat->Value}:∀{vs:List Value} {O:List aj} (k:Nat) {T:Array Value},eZ w M vs O->(∀i v,vs[i]? =some v->T[k+i]? =some v)->
  ∀i aJ,(i,aJ)∈qb k O->∃v,T[i]? =some v/\aQ w M m v aJ
 |[],[],k,T,_,_,i,aJ,o=>by simp[qb]at o
 |[],_::_,_,_,h,_,_,_,_=>h.elim
 |_::_,[],_,_,h,_,_,_,_=>h.elim
 |v::vs,a::O,k,T,⟨h1,W⟩,U,i,aJ,o=>by
  rcases List.mem_cons.1 o with o|o
  ·cases o
   exact⟨v,by have:=U 0 v rfl;simpa using this,Sx h1⟩
  ·exact Hl (k+1) W (fun j u Y=>by have:=U (j+1) u (by simpa using Y);rw[<-this];congr 1;omega) i aJ o
theorem entry{P:Program}{n:Nat}{M:Nat->Prop}{vs:List Value}{U:List aj}(Y:∀b,M b->b<w.heap.size)(W:eZ w M vs U)(lf:U.length<=n):
  R ⟨P,n,w,M,fun _=>False,fun _=>undef⟩ ⟨qb 0 U,[],[]⟩ (vs.toArray++Array.replicate (n-vs.toArray.size) undef) w:=by
 have lg:=HO W
 refine⟨fun _=>undef,?_⟩
 have Z:∀b,ap ⟨P,n,w,M,fun _=>False,fun _=>undef⟩ (fun _=>undef) (ae.ids ⟨qb 0 U,[],[]⟩) b->M b:=by
  rintro b (h|⟨i,O,_⟩)
  ·exact h
  ·simp[ae.ids]at O
 refine{size:=?_,frame:=Frame.refl _ _,outer:=fun b o=>⟨Y b o,fun h=>h⟩,kept:=(fun r c la=>absurd la List.not_mem_nil),cI:=?_,boxes:=fun b c o=>by simp at o,rows:=fun b c o=>by simp at o,apart:=fun i j O=>by simp[ae.ids]at O,keys:=by simp[ae.ids],fixed:=fun b c o=>by simp at o}
 ·show(vs.toArray++Array.replicate (n-vs.toArray.size) undef).size=n
  simp only[Array.size_append,List.size_toArray,Array.size_replicate]
  omega
 ·have lc:=Hl (m:=fun _=>undef) (T:=vs.toArray++Array.replicate (n-vs.toArray.size) undef) 0 W (fun i v O=>by
   rw[Nat.zero_add,Array.getElem?_append_left (by have:=(List.getElem?_eq_some_iff.1 O).1;simpa using this)]
   simpa using O)
  intro i aJ O
  obtain⟨v,h1,ld⟩:=lc i aJ O
  exact⟨v,h1,fV (fun _ _ _=>rfl) (fun b _ o=>Z b o) ld⟩
def AQ:List (Nat×cw)->ae->ae
 |[],st=>st
 |(r,c)::l,st=>AQ l (match look st.rw r with|some c'=>st.freeze r c'|none=>st)
def Al:List (Nat×bL)->ae->ae
 |[],st=>st
 |(r,_)::l,st=>Al l (match look st.ad r with|some (.mp k v ps)=>st.gA r k v ps|_=>st)
theorem F9:∀{l:List (Nat×bL)} {st:ae},am cx m st T w->am cx m (Al l st) T w
 |[],_,h=>h
 |(r,c)::l,st,h=>by
  refine F9 (l:=l) ?_
  split
  ·rename_i k v ps o;exact h.gA (aX o)
  ·exact h
def vC(st:ae):ae:=Bn st.ad (Al st.ad (AQ st.rw st))
theorem J6:∀{l:List (Nat×cw)} {st:ae},am cx m st T w->am cx m (AQ l st) T w
 |[],_,h=>h
 |(r,c)::l,st,h=>by
  refine J6 (l:=l) ?_
  split
  ·rename_i c' o;exact h.freeze (aX o)
  ·exact h
def kh(P:Program)(st:ae):List ResultVar->Option (List aj)
 |[]=>some []
 |.tmp t::l=>match look st.ab t,kh P st l with
  |some (.val u x),some vs=>some (⟨u,x⟩::vs)
  |_,_=>none
 |.cell a ty'::l=>match look st.ab a,ty P ty',kh P st l with
  |some (.ptr b off),some u,some vs=>match look st.ad b with
   |some (.cells c _)=>match pack u (c.drop off)with
    |some (x,_)=>some (⟨u,x⟩::vs)
    |none=>none
   |_=>none
  |some (.dE b []),some u,some vs=>match look st.ad b with
   |some (.aO t x _)=>match aj.as ⟨t,x⟩ u,Nat.beq u.cells 0 with
    |some y,false=>some (⟨u,y⟩::vs)
    |_,_=>none
   |_=>none
  |_,_,_=>none
def jG(T:Array Value):ResultVar->Sem Value
 |.tmp t=>pure (T.getD t undef)
 |.cell a t=>do loadVar t (<-asAddr (T.getD a undef))
theorem tW(h:am cx m st T w):∀{l:List ResultVar} {ar:List aj},kh cx.P st l=some ar->
  ∃vs,(l.mapM (jG T)).run cx.P w=.ok vs w/\eZ w (ap cx m st.ids) vs ar
 |[],_,o=>by cases o;exact⟨[],by simp,trivial⟩
 |.tmp t::l,ar,o=>by
  simp only[kh]at o
  split at o
  ·rename_i u x lt Z la
   cases o
   obtain⟨vs,h1,lc⟩:=tW h la
   obtain⟨v,ld,lu⟩:=h.cI t _ (aX Z)
   refine⟨v::vs,?_,lu,lc⟩
   have lv:T.getD t undef=v:=by rw[Array.getD_eq_getD_getElem?,ld];rfl
   have lf:(jG T (.tmp t)).run cx.P w=.ok v w:=by show Sem.run cx.P (pure (T.getD t undef)) w=_;rw[lv,Sem.run_pure]
   rw[List.mapM_cons,Sem.run_bind,lf]
   simp only[Result.andThen_ok,Sem.run_bind,h1,Sem.run_pure]
  ·cases o
 |.cell a t::l,ar,o=>by
  simp only[kh]at o
  split at o
  ·rename_i b off u lt Z lj la
   split at o
   ·rename_i c lk
    split at o
    ·rename_i x r lw
     cases o
     obtain⟨vs,h1,lc⟩:=tW h la
     obtain⟨v0,ld,g,ll,lm⟩:=h.cI a _ (aX Z)
     obtain⟨lg,lh,_,cells,ln,U⟩:=h.box (aX lk)
     have:lg=g:=by rw[ll]at lh;cases lh;rfl
     subst this
     obtain⟨_,af⟩:=jU (w:=w) (m:=m) off U
     obtain⟨c1,c2,lx,lo,_⟩:=yJ u af lw
     have W:u.agg=false->0<u.cells:=by
      intro Y
      cases u<;>first|(simp[ag.cells];done)|(simp[ag.agg]at Y)
     obtain⟨v,lp,O⟩:=jS (c:=c1) lj ln (fun j v li=>by
      have:(cells.toList.drop off)[j]? =some v:=by rw[lx,List.getElem?_append_left (List.getElem?_eq_some_iff.1 li).1];exact li
      rw[List.getElem?_drop]at this
      simpa using this) (ch u lo) W
     have lq:a8 w (ap cx m st.ids) v u x:=by
      cases Y:u.agg with
      |true=>rw[Y,if_pos rfl]at O;exact(eA Y).2 ⟨c1,O,lo⟩
      |false=>rw[Y]at O;simp at O;subst O;exact(bZ Y).2 lo
     refine⟨v::vs,?_,lq,lc⟩
     have lr:T.getD a undef=.pointer (some ⟨lg,off,none⟩):=by rw[Array.getD_eq_getD_getElem?,ld,lm];rfl
     have lf:(jG T (.cell a t)).run cx.P w=.ok v w:=by
      show Sem.run cx.P (do loadVar t (<-asAddr (T.getD a undef))) w=_
      rw[Sem.run_bind,lr]
      exact lp w (Ext.refl w)
     rw[List.mapM_cons,Sem.run_bind,lf]
     simp only[Result.andThen_ok,Sem.run_bind,h1,Sem.run_pure]
    ·cases o
   ·cases o
  ·rename_i b u lt Z lj la
   split at o
   ·rename_i lC x e lk
    split at o
    ·rename_i y ly lz
     cases o
     have lA:=aj.dC ly
     cases lA
     obtain⟨vs,h1,lc⟩:=tW h la
     obtain⟨v0,ld,g,ll,lm⟩:=h.cI a _ (aX Z)
     obtain⟨lg,lh,_,cells,ln,U⟩:=h.box (aX lk)
     have:lg=g:=by rw[ll]at lh;cases lh;rfl
     subst this
     have lB:0<u.cells:=Nat.pos_of_ne_zero (beq_false lz)
     obtain⟨v,lp,O⟩:=jS (off:=0) (c:=cells.toList) lj ln (fun j v li=>by rw[Nat.zero_add,<-Array.getElem?_toList];exact li) (ch u U) (fun _=>lB)
     have lq:a8 w (ap cx m st.ids) v u y:=by
      cases W:u.agg with
      |true=>rw[W,if_pos rfl]at O;exact(eA W).2 ⟨_,O,U⟩
      |false=>rw[W]at O;simp only[Bool.false_eq_true,if_false]at O;rw[O]at U;exact(bZ W).2 U
     refine⟨v::vs,?_,lq,lc⟩
     have lr:T.getD a undef=.pointer (some ⟨lg,0,none⟩):=by rw[Array.getD_eq_getD_getElem?,ld,lm];rfl
     have lf:(jG T (.cell a t)).run cx.P w=.ok v w:=by
      show Sem.run cx.P (do loadVar t (<-asAddr (T.getD a undef))) w=_
      rw[Sem.run_bind,lr]
      exact lp w (Ext.refl w)
     rw[List.mapM_cons,Sem.run_bind,lf]
     simp only[Result.andThen_ok,Sem.run_bind,h1,Sem.run_pure]
    ·cases o
   ·cases o
  ·cases o
theorem Ih{P:Program}{fn:Func}{T:Array Value}{vs:List Value}(h:(fn.results.toList.mapM (jG T)).run P w=.ok vs w):
  (results fn T).run P w=.ok (if h:vs.toArray.size=1 then vs.toArray[0]else .tuple vs.toArray) w:=by
 show Sem.run P (do let vs<-fn.results.mapM (jG T);pure (if h:vs.size=1 then vs[0]else .tuple vs)) w=_
 rw[Array.mapM_eq_mapM_toList,Sem.run_bind]
 have e:(Functor.map List.toArray (fn.results.toList.mapM (jG T))).run P w=.ok vs.toArray w:=by
  rw[map_eq_pure_bind,Sem.run_bind,h]
  rfl
 rw[e]
 rfl
def wX(P:Program)(fn:Func)(M:Nat->Prop)(bC:World)(ar:List aj):cX:=
 bodyPost P fn fun e w'=>∃v,e=.returned v/\oQ w' M v ar/\Ext bC w'
theorem mq{P:Program}{n:Nat}{M:Nat->Prop}{bC:World}{fn:Func}{ar:List aj}{e:Exit}(U:e=.ret\/e=.normal)(W:kh P (vC st) fn.results.toList=some ar):
  N ⟨P,n,bC,M,fun _=>False,fun _=>undef⟩ (wX P fn M bC ar) e st:=by
 rintro T w ⟨m,o⟩
 have Y:=J0 (l:=st.ad) (F9 (l:=st.ad) (J6 (l:=st.rw) o))
 obtain⟨vs,h1,Z⟩:=tW Y W
 have la:=Ih h1
 have lc:Ext bC w:={os:=o.frame.os,tape:=o.frame.tape,output:=o.frame.output,size:=o.frame.size,drawn:=o.frame.drawn,block:=fun b O=>o.frame.block b O (fun h=>h)}
 have ld:eZ w M vs ar:=tI (fun _ _ _=>rfl) (fun b _ O=>.inl O) Z
 have lf:oQ w M (if h:vs.toArray.size=1 then vs.toArray[0]else .tuple vs.toArray) ar:=by
  match vs,ar,ld with
  |[],[],_=>trivial
  |[v],[u],⟨h,_⟩=>exact h
  |v1::v2::vs,lh::li::us,h=>
   have lg:¬(v1::v2::vs).toArray.size=1:=by simp
   rw[dif_neg lg]
   exact⟨_,rfl,h⟩
  |[],_::_,h=>exact h.elim
  |_::_,[],h=>exact h.elim
  |[_],_::_::_,⟨_,h⟩=>exact h.elim
  |_::_::_,[_],⟨_,h⟩=>exact h.elim
 rcases U with rfl|rfl<;>exact⟨rfl,_,la,_,rfl,lf,lc⟩
theorem enters_of{P:Program}{f:FuncId}{fn:Func}{c:Code}(o:P.funcs[f]? =some fn)(O:(fn.name== "runtime.NumGoroutine")=false)(U:fn.body=some c):
  ∀args w,(callFunc f args).run P w=.ok (.enter f args) w:=by
 intro args w
 have h1:fn.name≠ "runtime.NumGoroutine" :=by simpa using O
 simp[callFunc,o,h1,U,mark]
theorem zi{P:Program}{G:World->Prop}(Z:∀w w',Frame w w' (fun _=>False)->G w->G w'){f:FuncId}{fn:Func}{c:Code}{F:jT}(O:P.funcs[f]? =some fn)(la:(fn.name== "runtime.NumGoroutine")=false)(U:fn.body=some c)
  (shape:∀o ar,F.rel o ar->o.length<=fn.ntmps/\ar.length=F.io/\(F.flat=true->∀u∈ar,u.t.flat=true))
  (body:∀(bC:World) (M:Nat->Prop) (o ar:List aj),(∀w,Frame bC w (fun _=>False)->G w)->F.rel o ar->W ⟨P,fn.ntmps,bC,M,fun _=>False,fun _=>undef⟩ (wX P fn M bC ar) c ⟨qb 0 o,[],[]⟩):aY P G f F where
 enters:=enters_of O la U
 shape:=fun o ar h=>(shape o ar h).2
 calls:=fun w M vs o ar lc ld Y lf=>calls_of_wp O U (body w M o ar (fun w' h=>Z w w' h lc) Y _ _ (entry ld lf (shape o ar Y).1))
end Go.Ev
namespace Go.Ev
open Go Go.RowKit
variable [b6]
variable {cx:bB} {st st':ae} {E:Env} {Q:cX} {ops:Array Oper} {l:List Oper}
abbrev aw(x:Int):ak:=.val (.int .i64) x
abbrev Ko(x:Int):ak:=.val (.int .i32) x
abbrev xD(x:Int):ak:=.val (.int .u32) x
abbrev bO(x:Int):ak:=.val (.int .u8) x
abbrev aM(x:Bool):ak:=.val .bool x
abbrev bd(x:List UInt8):ak:=.val .str x
abbrev mn(x:Int):aj:=⟨.int .i64,x⟩
abbrev w4(x:Int):aj:=⟨.int .i32,x⟩
abbrev gY(x:Bool):aj:=⟨.bool,x⟩
abbrev yK(x:List UInt8):aj:=⟨.str,x⟩
def qq{α β o:Type}(v:Sum α β)(f:α->Option o)(g:β->Option o):Option o:=match v with
 |.inl x=>f x
 |.inr y=>g y
theorem VE{α β o:Type}{x:α}{f:α->Option o}{g:β->Option o}{r:o}(h:qq (.inl x) f g=some r):f x=some r:=h
theorem Ng{α β o:Type}{y:β}{f:α->Option o}{g:β->Option o}{r:o}(h:qq (.inr y) f g=some r):g y=some r:=h
def ai(x:Int):Int:=IntKind.i64.wrap x
def dN(x:Int):Int:=IntKind.u32.wrap x
def ou(x:Int):Int:=IntKind.u8.wrap x
theorem NK(S:Bool->ae){b:Bool}(o:b=true->bK cx ops Q l (S true))(O:b=false->bK cx ops Q l (S false)):bK cx ops Q l (S b):=by cases b with|true=>exact o rfl|false=>exact O rfl
theorem Sc(o:br E cx)(n:Nat)(O U ar:List Nat){orc:List aj}{ob:List Prop}(W:mH E ops (l.take n) st orc O U ar=some (st',[],ob))(Y:bJ ob)(h:bK cx ops Q (l.drop n) st'):bK cx ops Q l st:=by
 obtain⟨s,h1,Z⟩:=JY W
 exact tM o n h1 Y (h.norm Z)
theorem F3(o:br E cx)(O U ar:List Nat){orc:List aj}{ob:List Prop}(W:mH E ops l st orc O U ar=some (st',[],ob))(Y:bJ ob)(h:N cx Q .normal st'):bK cx ops Q l st:=by
 obtain⟨s,h1,Z⟩:=JY W
 exact Rs o h1 Y (h.norm Z)
theorem my{α:Type}(F:α->Prop)(S:α->ae){x y:Code}(o:∀a,F a->W cx Q y (S a))(O:(∀a,F a->N cx (Exit.then (y.wp cx.P Q) Q) .normal (S a))->W cx (Exit.then (y.wp cx.P Q) Q) x st):W cx Q (.seq x y) st:=
 ay (O fun a U=>ax (o a U))
theorem ji{α:Type}(F:α->Prop)(S:α->ae)(n:Nat)(o:∀a,F a->bK cx ops Q (l.drop n) (S a))(O:(∀a,F a->N cx (Exit.then (wpList cx.P ops Q (l.drop n)) Q) .normal (S a))->bK cx ops (Exit.then (wpList cx.P ops Q (l.drop n)) Q) (l.take n) st):bK cx ops Q l st:=by
 intro T w U
 have:=wE (P:=cx.P) (ops:=ops) (Q:=Q) (l1:=l.take n) (l2:=l.drop n) (O (fun a W=>U0 (o a W)) T w U)
 rwa [List.take_append_drop]at this
def aG(p:Prop)[Decidable p]:Option Unit:=if p then some ()else none
theorem dy{p:Prop}[Decidable p]{x:Unit}(h:aG p=some x):p:=by
 unfold aG at h
 split at h
 ·assumption
 ·cases h
theorem Mb{g e:Bool}(h:g=true):(g&&e)=e:=by rw[h,Bool.true_and]
theorem KK{g e:Bool}(h:g=false):(g&&e)=false:=by rw[h,Bool.false_and]
theorem sA{g e:Bool}(h:g=true):(g||e)=true:=by rw[h,Bool.true_or]
theorem u5{g e:Bool}(h:g=false):(g||e)=e:=by rw[h,Bool.false_or]
theorem bind_some{α β:Type}{aa:Option α}{f:α->Option β}{r:β}(h:aa.bind f=some r):∃x,aa=some x/\f x=some r:=Option.bind_eq_some_iff.1 h
theorem dw{α:Type}{b:Bool}{x y:α}{r:α}(o:b=true)(h:(if b then x else y)=r):x=r:=by rw[<-h,if_pos o]
theorem dr{α:Type}{b:Bool}{x y:α}{r:α}(o:b=false)(h:(if b then x else y)=r):y=r:=by rw[<-h,if_neg (by rw[o];decide)]
theorem br.nil{P:Program}{G:World->Prop}{n:Nat}{cx:bB}(h1:cx.P=P)(o:cx.n=n)(O:∀w,Frame cx.bC w cx.X->G w):br ⟨P,G,n,[]⟩ cx:=⟨h1,o,O,fun _ _ h=>by cases h⟩
theorem br.cons{P:Program}{G:World->Prop}{n:Nat}{fns:List (Nat×jT)}{cx:bB}{f:Nat}{F:jT}(O:aY P G f F)(h:br ⟨P,G,n,fns⟩ cx):br ⟨P,G,n,(f,F)::fns⟩ cx:=
 ⟨h.P,h.n,h.tq,fun g G o=>by rcases List.mem_cons.1 o with o|o;cases o;exact O;exact h.fns g G o⟩
/-! Slices of maps; maps of one entry at most. -/
def gw{α:Type}(xs:List (Option (Option α)))(i:Int):Option (Option α):=
 match xs[i.toNat]? with
 |some (some y)=>some y
 |_=>none
theorem kZ{α:Type}{xs:List (Option (Option α))}{i:Int}{y:Option α}(h:gw xs i=some y):xs[i.toNat]? =some (some y):=by
 unfold gw at h
 split at h
 ·cases h;assumption
 ·cases h
def iE{α:Type}(xs:List (Option (Option α)))(i:Int):Option α:=
 match xs[i.toNat]? with
 |some (some (some y))=>some y
 |_=>none
theorem qv{α:Type}{xs:List (Option (Option α))}{i:Int}{y:α}(h:iE xs i=some y):xs[i.toNat]? =some (some (some y)):=by
 unfold iE at h
 split at h
 ·cases h;assumption
 ·cases h
theorem HS{α:Type}(z:α){n:Int}(h:0<n):List.replicate n.toNat z=List.replicate (List.length (List.replicate n.toNat z)) z/\0<List.length (List.replicate n.toNat z):=by
 rw[List.length_replicate]
 exact⟨rfl,by omega⟩
def nt{α β:Type}(l:List α)(a:Option β)(f:α->Option β):Option β:=
 match l with
 |[]=>a
 |[p]=>f p
 |_=>none
theorem zh{α β:Type}{l:List α}{a:Option β}{f:α->Option β}{y:β}(h:nt l a f=some y):(l=[]/\a=some y)\/∃p,l=[p]/\f p=some y:=by
 unfold nt at h
 split at h
 ·exact .inl ⟨rfl,h⟩
 ·exact .inr ⟨_,rfl,h⟩
 ·cases h
end Go.Ev
namespace Go.Ev
open Go
def utf8_DecodeRuneInString(o:Nat)(s:List UInt8):Option (Int×Int):=some (((Lib.decodeGo ⟨s.toArray⟩).1:Int),((Lib.decodeGo ⟨s.toArray⟩).2:Int))
/-! The builder. -/
def zm(o:Nat)(O:List Int):Option Unit:=some ()
def q0(o:Nat)(l:List Int):Option (List UInt8):=if dF (fz l)=l then some (fz l)else none
end Go.Ev
namespace Go.Ev
open Go Go.RowKit
variable [b6]
variable {cx:bB} {m:Nat->Value} {st st':ae} {T:Array Value} {w w':World} {E:Env} {Q:cX} {ops:Array Oper} {l:List Oper}
theorem Hg{w w':World}{M M':Nat->Prop}:∀{vs o:List Value} {l:List aj},(∀u∈l,u.t.flat=true)->eZ w M vs l->eZ w' M' o l->vs=o
 |[],[],[],_,_,_=>rfl
 |[],_,_::_,_,h,_=>h.elim
 |_::_,_,[],_,h,_=>h.elim
 |_,[],_::_,_,_,h=>h.elim
 |_,_::_,[],_,_,h=>h.elim
 |_::_,_::_,u::_,O,⟨h1,U⟩,⟨W,Y⟩=>by
  rw[og (O u List.mem_cons_self) h1 W,Hg (fun x Z=>O x (List.mem_cons_of_mem _ Z)) U Y]
def qP:List aj->Bool
 |[]=>false
 |l=>l.all fun u=>u.t.flat
theorem UZ{w w':World}{M M':Nat->Prop}{m aA:Nat->Value}{v v':Value}{l:List aj}(o:qP l=true)(h:aQ w M m v (u6 l))(h':aQ w' M' aA v' (u6 l)):v=v':=by
 match l,o,h,h' with
 |[u],o,h,h'=>exact og (by simpa[qP]using o) h h'
 |W::Y::us,o,⟨vs,e,h⟩,⟨Z,O,h'⟩=>
  rw[e,O,Hg (fun u U=>by simp only[qP,List.all_eq_true]at o;exact o u U) h h']
def gd(E:Env)(st:ae)(aa:Oper)(orc:List aj):Option dG:=
 match dD E.P st aa.op orc with
 |some r=>some r
 |none=>match rH E.P st aa orc with
 |some r=>some r
 |none=>match aa.op with
  |.load t x=>vr E.P st t x orc
  |.call c=>match c.callee with
   |.value x=>match tJ E st x with
    |some (_,F,_)=>bif F.flat&&qP (orc.take F.io)then nP E st c orc else none
    |none=>none
   |_=>none
  |_=>none
def gB(E:Env)(ops:Array Oper):List Oper->ae->List aj->Option (ae×List aj×List Prop)
 |[],st,orc=>some (st,orc,[])
 |aa::l,st,orc=>match eK ops st aa with
  |some true=>match aa.dst,gd E st aa orc with
   |some d,some r=>match Nat.blt d E.n,gB E ops l (st.put d r.aJ) r.orc with
    |true,some (st2,o,O)=>some (st2,o,r.ob++O)
    |_,_=>none
   |_,_=>none
  |some false=>match aa.dst with
   |some d=>match Nat.blt d E.n with
    |true=>gB E ops l (st.put d .undef) orc
    |false=>none
   |none=>gB E ops l st orc
  |none=>none
theorem VD{P:Program}{f:FuncId}{args:Array Value}{R:Ending->World->Prop}(h:Calls P f args w R):∃e w',R e w':=by
 obtain⟨e,w',kp,o,_⟩:=h []
 exact⟨e,w',o⟩
theorem B0(W:br E cx)(h:am cx m st T w){aa:Oper}{orc:List aj}{r:dG}(o:gd E st aa orc=some r)(Y:bJ r.ob):
  ∃v,(∀w',Ext w w'->aa.quietAt cx.P ⟨T,[]⟩ (Ext w) w' v)/\aQ w (ap cx m st.ids) m v r.aJ:=by
 unfold gd at o
 split at o
 ·rename_i lm Z
  cases o
  rw[<-W.P]at Z
  obtain⟨v,af,O⟩:=Co h Z Y
  refine⟨v,fun w' U=>?_,O⟩
  unfold Oper.quietAt
  rw[af w' U]
  exact⟨rfl,rfl⟩
 ·split at o
  ·rename_i lm Z
   cases o
   rw[<-W.P]at Z
   obtain⟨v,lg,O⟩:=A0 h Z Y
   refine⟨v,fun w' U=>?_,O⟩
   unfold Oper.quietAt
   rw[lg w' U]
   exact⟨rfl,rfl⟩
  split at o
  ·rename_i t x ld
   rw[<-W.P]at o
   obtain⟨v,lg,O⟩:=FF h o Y
   refine⟨v,fun w' U=>?_,O⟩
   unfold Oper.quietAt
   rw[ct (by simp only[execOp,ld]) (lg w' U)]
   exact⟨rfl,rfl⟩
  ·rename_i c ld
   split at o
   ·rename_i lw ln
    split at o
    ·rename_i f F lx lo
     cases la:F.flat&&qP (orc.take F.io)with
     |false=>rw[la]at o;cases o
     |true=>
      rw[la,cond_true]at o
      simp only[Bool.and_eq_true]at la
      have lj:r.aJ=u6 (orc.take F.io):=by
       unfold nP at o
       rw[ln]at o
       simp only[lo]at o
       split at o
       ·cases lk:Nat.ble F.io orc.length with
        |false=>rw[lk]at o;cases o
        |true=>rw[lk]at o;cases o;rfl
       ·cases o
      obtain⟨f0,args,ly,lp⟩:=tk W h ld o Y
      obtain⟨e,lz,v,_,lA,O⟩:=VD lp
      refine⟨v,fun w' U=>?_,?_⟩
      ·obtain⟨f1,lB,lq,lr⟩:=tk W (h.ext U) ld o Y
       unfold Oper.quietAt
       rw[lq w']
       refine⟨rfl,lr.mono ?_⟩
       rintro lC lD ⟨v',lt,lu,ll⟩
       rw[lj]at O ll
       refine⟨?_,U.trans lu⟩
       rw[lt,UZ la.2 ll O]
      ·rw[lj]at O⊢
       have lc:∀u∈orc.take F.io,u.t.flat=true:=by
        have lh:=la.2
        intro u lf
        cases li:orc.take F.io with
        |nil=>rw[li]at lf;simp at lf
        |cons a lE=>rw[li]at lh lf;simp only[qP,List.all_eq_true]at lh;exact lh u lf
       match li:orc.take F.io,lc,O with
       |[],_,_=>trivial
       |[u],lc,O=>exact wq (lc u List.mem_cons_self) O
       |_::_::_,lc,⟨vs,e,lv⟩=>exact⟨vs,e,zI lc lv⟩
    ·cases o
   ·cases o
  ·cases o
theorem oo(O:br E cx){Q':Act->Prop}:∀{l:List Oper} {st:ae} {T:Array Value} {orc orc':List aj} {st':ae} {ob:List Prop},R cx st T w->gB E ops l st orc=some (st',orc',ob)->bJ ob->
  (∀lc,R cx st' lc w->Q' ⟨lc,[]⟩)->wpQuiet cx.P ops (Ext w) Q' l ⟨T,[]⟩
 |[],st,T,_,_,_,_,h,o,_,U=>by
  cases o
  exact U T h
 |aa::l,st,T,orc,orc',st',ob,h,o,Y,U=>by
  unfold gB at o
  unfold wpQuiet
  split at o
  ·rename_i Z
   rw[iT h Z]
   simp only[if_true]
   split at o
   ·rename_i d r af ld
    split at o
    ·rename_i st2 lj lk la lf
     cases o
     obtain⟨lg,lh⟩:=o5 Y
     obtain⟨m,W⟩:=h
     obtain⟨v,az,li⟩:=B0 O W ld lg
     refine⟨v,az,?_⟩
     rw[af]
     exact oo O ⟨m,W.put (by rw[O.n];exact cG la) li⟩ lf lh U
    ·cases o
   ·cases o
  ·rename_i Z
   rw[iT h Z]
   simp only[Bool.false_eq_true,if_false]
   split at o
   ·rename_i d af
    split at o
    ·rename_i la
     obtain⟨m,W⟩:=h
     rw[af]
     exact oo O ⟨m,W.put (d:=d) (s:=.undef) (v:=undef) (by rw[O.n];exact cG la) rfl⟩ o Y U
    ·cases o
   ·rename_i af
    rw[af]
    exact oo O h o Y U
  ·cases o
def Cx(cx:bB)(ops:Array Oper)(Q:cX)(l:List Oper)(st:ae):Prop:=∀T w,R cx st T w->wpQuiet cx.P ops (Ext w) (fun a=>∀w',Ext w w'->Q .normal a w') l ⟨T,[]⟩
theorem Cs{E:Env}(o:br E cx){id:Nat}{l:List Oper}(O:E.P.follows .mixedOrders=true)(U:Region.lexB .any l.toArray=true)(h:Cx cx l.toArray Q l st):W cx Q (.region id l.toArray true) st:=fun T w Y=>
 wp_region_quiet (C:=Ext w) (o.P▸O) U {os:=rfl,tape:=rfl,output:=rfl,size:=Nat.le_refl _,drawn:=fun _=>Nat.le_succ _,block:=fun _ _=>rfl} (by simpa using h T w Y)
theorem R.ext(h:R cx st T w)(o:Ext w w'):R cx st T w':=let⟨m,O⟩:=h;⟨m,O.ext o⟩
theorem nx{P:Program}{C:World->Prop}{Q':Act->Prop}:∀{l1 l2:List Oper} {a:Act},wpQuiet P ops C (wpQuiet P ops C Q' l2) l1 a->wpQuiet P ops C Q' (l1++l2) a
 |[],_,_,h=>h
 |aa::l1,l2,a,h=>by
  simp only[List.cons_append,wpQuiet]at h⊢
  split
  ·rename_i o
   rw[if_pos o]at h
   exact Oper.quiet_mono (fun a=>nx) h
  ·rename_i o
   rw[if_neg o]at h
   exact nx h
def sg(E:Env)(ops:Array Oper)(l:List Oper)(st:ae)(orc:List aj)(o O ar:List Nat):Option (ae×List aj×List Prop):=
 match gB E ops l st orc with
 |some (s,aa,p)=>match s.norm o O ar with
  |some U=>some (U,aa,p)
  |none=>none
 |none=>none
theorem TZ{orc orc':List aj}{ob:List Prop}{o O ar:List Nat}(h:sg E ops l st orc o O ar=some (st',orc',ob)):∃s,gB E ops l st orc=some (s,orc',ob)/\s.norm o O ar=some st':=by
 unfold sg at h
 split at h
 ·rename_i s aa p U
  split at h
  ·rename_i Y W
   cases h
   exact⟨s,U,W⟩
  ·cases h
 ·cases h
theorem S3(o:br E cx)(O U ar:List Nat){orc:List aj}{ob:List Prop}(W:sg E ops l st orc O U ar=some (st',[],ob))(Y:bJ ob)(h:N cx Q .normal st'):Cx cx ops Q l st:=by
 obtain⟨s,h1,Z⟩:=TZ W
 intro T w la
 exact oo o la h1 Y fun lc ld w' lf=>h lc w' ((ld.norm Z).ext lf)
def rM(cx:bB)(K:World->Act->Prop)(st:ae):Prop:=∀T w,R cx st T w->K w ⟨T,[]⟩
def oY(cx:bB)(ops:Array Oper)(K:World->Act->Prop)(l:List Oper)(st:ae):Prop:=∀T w,R cx st T w->wpQuiet cx.P ops (Ext w) (K w) l ⟨T,[]⟩
end Go.Ev
namespace Go.Ev
open Go Go.Proofs Go.Shelf
set_option maxRecDepth 100000
def an:World->Prop:=fun w=>Lib.Utf8Tabs 1 2 w/\(1<w.heap.size/\2<w.heap.size)
theorem L8{w:World}{p:Addr}{v:Value}(h:w.cell? p=some v):p.block<w.heap.size:=by
 refine Nat.lt_of_not_le fun o=>?_
 have:w.heap[p.block]? =none:=Array.getElem?_eq_none o
 simp[World.cell?,this]at h
theorem RO{w:World}(h:Lib.Utf8Tabs 1 2 w):an w:=
 ⟨h,L8 (h.1 0 (by decide)),L8 (h.2 0 (by decide)).1⟩
theorem bq:∀w w',Frame w w' (fun _=>False)->an w->an w':=by
 rintro w w' o ⟨⟨h1,Y⟩,O,U⟩
 have Z:∀c,w'.cell? ⟨1,c,none⟩=w.cell? ⟨1,c,none⟩:=fun c=>World.cell?_of_block (w:=w) (o.block _ O id)
 have W:∀c,w'.cell? ⟨2,c,none⟩=w.cell? ⟨2,c,none⟩:=fun c=>World.cell?_of_block (w:=w) (o.block _ U id)
 refine⟨⟨fun c la=>by rw[Z];exact h1 c la,fun i lc=>by rw[W,W];exact Y i lc⟩,Nat.lt_of_lt_of_le O o.size,Nat.lt_of_lt_of_le U o.size⟩
def D8(k:Nat):jT:=⟨true,2,[],fun|[⟨.str,s⟩],[⟨.int .i32,r⟩,⟨.int .i64,n⟩]=>utf8_DecodeRuneInString k s=some (r,n)|_,_=>False⟩
theorem VK(k:Nat):aY Tryz.prog an 113 (D8 k) where
 enters:=enters_of Tryz.func113 (by kernel_rfl) rfl
 shape:=fun xs ar h=>by
  unfold D8 at h
  simp only at h
  split at h
  ·exact⟨rfl,fun _ u O=>by simp at O;(rcases O with rfl|rfl)<;>rfl⟩
  ·exact h.elim
 calls:=fun w M vs xs ar U Z h o=>by
  unfold D8 at h
  simp only at h
  split at h
  case h_2=>exact h.elim
  rename_i s r n
  match vs,o with
  |[v],⟨o,_⟩=>
   have W:v=.string ⟨s.toArray⟩:=by
    have:=(show aF w M .str [v] s from o).1
    simpa using this
   subst W
   refine(Any.utf8_DecodeRuneInString MX ⟨s.toArray⟩ w U.1).mono ?_
   rintro e w' ⟨rfl,Y⟩
   cases h
   exact⟨_,rfl,⟨[_,_],rfl,rfl,rfl,trivial⟩,Ext.wk Y fun h=>h.elim⟩
theorem T7:U8Extra Tryz.prog Hx:=⟨by kernel_rfl,by kernel_rfl,by kernel_rfl,by kernel_rfl,by kernel_rfl,by kernel_rfl,by kernel_rfl⟩
theorem Vw{w:World}(o:Lib.VarReads Tryz.prog w "unicode/utf8.first" Lib.firstData)(O:Lib.VarReads Tryz.prog w "unicode/utf8.acceptRanges" Lib.acceptData):an w:=
 RO (utf8Tabs_of_reads R9 T7 o O)
end Go.Ev
namespace Go.Ev
open Go Go.RowKit
variable [b6]
variable {cx:bB} {m:Nat->Value} {st st':ae} {T:Array Value} {w w':World} {E:Env} {Q:cX} {ops:Array Oper} {l:List Oper}
def zk(ρ:List (Nat×Nat)):List Nat->Option (List Nat)
 |[]=>some []
 |b::o=>match look ρ b,zk ρ o with
  |some O,some U=>some (O::U)
  |_,_=>none
def mQ(ρ:List (Nat×Nat)):List bQ->Option (List bQ)
 |[]=>some []
 |.v u::l=>match mQ ρ l with
  |some o=>some (.v u::o)
  |none=>none
 |.r b::l=>match look ρ b,mQ ρ l with
  |some O,some o=>some (.r O::o)
  |_,_=>none
 |.a::l=>match mQ ρ l with
  |some o=>some (.a::o)
  |none=>none
def ak.cd(ρ:List (Nat×Nat)):ak->ak
 |.ptr b off=>match look ρ b with
  |some o=>.ptr o off
  |none=>.any
 |.fw b=>match look ρ b with
  |some o=>.fw o
  |none=>.any
 |.row b=>match look ρ b with
  |some o=>.row o
  |none=>.any
 |.dV b i off O=>match look ρ b with
  |some o=>.dV o i off O
  |none=>.any
 |.iter b=>match look ρ b with
  |some o=>.iter o
  |none=>.any
 |.osl b=>match look ρ b with
  |some o=>.osl o
  |none=>.any
 |.gc b i=>match look ρ b with
  |some o=>.gc o i
  |none=>.any
 |.sub b i=>match look ρ b with
  |some o=>.sub o i
  |none=>.any
 |.dW b i off O=>match look ρ b with
  |some o=>.dW o i off O
  |none=>.any
 |.fD b i j off O=>match look ρ b with
  |some o=>.fD o i j off O
  |none=>.any
 |.dE b p=>match look ρ b with
  |some o=>.dE o p
  |none=>.any
 |.clos f W=>match zk ρ W with
  |some Y=>.clos f Y
  |none=>.any
 |.bX f b=>match look ρ b with
  |some o=>.bX f o
  |none=>.any
 |.eH l=>match mQ ρ l with
  |some U=>.eH U
  |none=>.any
 |.gn l=>match mQ ρ l with
  |some U=>.gn U
  |none=>.any
 |s=>s
def fj(ρ:List (Nat×Nat))(ad:List (Nat×bL)):List (Nat×Nat)->List (Nat×bL)
 |[]=>[]
 |(i,j)::l=>match look ad i with
  |some c=>(j,c.map (ak.cd ρ))::fj ρ ad l
  |none=>fj ρ ad l
def fJ(rw:List (Nat×cw)):List (Nat×Nat)->List (Nat×cw)
 |[]=>[]
 |(i,j)::l=>match look rw i with
  |some c=>(j,c)::fJ rw l
  |none=>fJ rw l
theorem nA{ρ:List (Nat×Nat)}{ad:List (Nat×bL)}:∀{l:List (Nat×Nat)} {j:Nat} {c':bL},(j,c')∈fj ρ ad l->∃i c,(i,j)∈l/\(i,c)∈ad/\c'=c.map (ak.cd ρ)
 |[],_,_,h=>by simp[fj]at h
 |(i,W)::l,j,c',h=>by
  unfold fj at h
  split at h
  ·rename_i c U
   rcases List.mem_cons.1 h with h|h
   ·cases h;exact⟨i,c,List.mem_cons_self,aX U,rfl⟩
   ·obtain⟨o,c2,h1,O⟩:=nA h;exact⟨o,c2,List.mem_cons_of_mem _ h1,O⟩
  ·obtain⟨o,c2,h1,O⟩:=nA h;exact⟨o,c2,List.mem_cons_of_mem _ h1,O⟩
theorem oq{rw:List (Nat×cw)}:∀{l:List (Nat×Nat)} {j:Nat} {c:cw},(j,c)∈fJ rw l->∃i,(i,j)∈l/\(i,c)∈rw
 |[],_,_,h=>by simp[fJ]at h
 |(i,W)::l,j,c',h=>by
  unfold fJ at h
  split at h
  ·rename_i c U
   rcases List.mem_cons.1 h with h|h
   ·cases h;exact⟨i,List.mem_cons_self,aX U⟩
   ·obtain⟨o,h1,O⟩:=oq h;exact⟨o,List.mem_cons_of_mem _ h1,O⟩
  ·obtain⟨o,h1,O⟩:=oq h;exact⟨o,List.mem_cons_of_mem _ h1,O⟩
def inv(ρ:List (Nat×Nat))(j:Nat):Option Nat:=look (ρ.map fun p=>(p.2,p.1)) j
theorem zB{α:Type}:∀{l:List (Nat×α)} {n:Nat} {v:α},(l.map (·.1)).Nodup->(n,v)∈l->look l n=some v
 |[],_,_,_,h=>by simp at h
 |(k,u)::r,n,v,o,h=>by
  simp only[List.map_cons,List.nodup_cons]at o
  unfold look
  rcases List.mem_cons.1 h with h|h
  ·cases h;simp[Nat.beq_refl]
  ·cases O:Nat.beq k n with
   |true=>
    have e:=Nat.eq_of_beq_eq_true O
    subst e
    exact absurd (List.mem_map.2 ⟨_,h,rfl⟩) o.1
   |false=>exact zB o.2 h
theorem uO{ρ:List (Nat×Nat)}{i j:Nat}(o:(ρ.map (·.2)).Nodup)(h:(i,j)∈ρ):inv ρ j=some i:=by
 refine zB ?_ (List.mem_map.2 ⟨_,h,rfl⟩)
 simpa[List.map_map,Function.comp_def]using o
theorem HE{ρ:List (Nat×Nat)}{i j:Nat}(h:inv ρ j=some i):(i,j)∈ρ:=by
 obtain⟨p,o,O⟩:=List.mem_map.1 (aX h)
 cases O
 exact o
theorem Lf{ρ:List (Nat×Nat)}{m aA:Nat->Value}(U:∀i j,(i,j)∈ρ->aA j=m i):∀{o O:List Nat},zk ρ o=some O->O.map aA=o.map m
 |[],_,h=>by cases h;rfl
 |b::o,O,h=>by
  unfold zk at h
  split at h
  ·rename_i Y Z h1 W
   cases h
   rw[List.map_cons,List.map_cons,U _ _ (aX h1),Lf U W]
  ·cases h
theorem sC{ρ:List (Nat×Nat)}{M:Nat->Prop}{m aA:Nat->Value}(W:∀i j,(i,j)∈ρ->aA j=m i):∀{vs:List Value} {l O:List bQ},mQ ρ l=some O->dd w M m vs l->dd w M aA vs O
 |vs,[],_,h,o=>by cases h;cases vs<;>exact o
 |[],.v _::_,_,_,o=>o.elim
 |[],.r _::_,_,_,o=>o.elim
 |[],.a::_,_,_,o=>o.elim
 |v::vs,.a::l,O,h,o=>by
  unfold mQ at h
  split at h
  ·rename_i l2 U;cases h;exact sC (vs:=vs) (l:=l) W U o
  ·cases h
 |v::vs,.v u::l,O,h,o=>by
  unfold mQ at h
  split at h
  ·rename_i l2 U;cases h;exact⟨o.1,sC W U o.2⟩
  ·cases h
 |v::vs,.r b::l,O,h,o=>by
  unfold mQ at h
  split at h
  ·rename_i Y l2 h1 U;cases h;exact⟨by rw[W _ _ (aX h1)];exact o.1,sC W U o.2⟩
  ·cases h
theorem Du{ρ:List (Nat×Nat)}{M:Nat->Prop}{m aA:Nat->Value}(O:∀i j,(i,j)∈ρ->aA j=m i){v:Value}{s:ak}(h:aQ w M m v s):aQ w M aA v (s.cd ρ):=by
 cases s with
 |any=>trivial
 |undef=>exact h
 |val t x=>exact h
 |dP l=>exact h
 |vptr t x=>exact h
 |ptr b off=>
  simp only[ak.cd]
  split
  ·rename_i U o;obtain⟨g,h1,W⟩:=h;exact⟨g,by rw[O _ _ (aX o)];exact h1,W⟩
  ·trivial
 |fw b=>
  simp only[ak.cd]
  split
  ·rename_i U o;show _\/v=aA U;rw[O _ _ (aX o)];exact h
  ·trivial
 |row b=>
  simp only[ak.cd]
  split
  ·rename_i U o;show v=aA U;rw[O _ _ (aX o)];exact h
  ·trivial
 |dV b i off la=>
  simp only[ak.cd]
  split
  ·rename_i U o;obtain⟨g,n,cap,h1,W⟩:=h;exact⟨g,n,cap,by rw[O _ _ (aX o)];exact h1,W⟩
  ·trivial
 |iter b=>
  simp only[ak.cd]
  split
  ·rename_i U o;show v=aA U;rw[O _ _ (aX o)];exact h
  ·trivial
 |osl b=>
  simp only[ak.cd]
  split
  ·rename_i U o;obtain⟨us,h1⟩:=h;exact⟨us,by rw[O _ _ (aX o)];exact h1⟩
  ·trivial
 |gc b i=>
  simp only[ak.cd]
  split
  ·rename_i U o;obtain⟨g,n,cap,us,h1,W⟩:=h;exact⟨g,n,cap,us,by rw[O _ _ (aX o)];exact h1,W⟩
  ·trivial
 |sub b i=>
  simp only[ak.cd]
  split
  ·rename_i U o;obtain⟨lc,us,h1,W⟩:=h;exact⟨lc,us,by rw[O _ _ (aX o)];exact h1,W⟩
  ·trivial
 |dE b p=>
  simp only[ak.cd]
  split
  ·rename_i U o;obtain⟨g,h1,W⟩:=h;exact⟨g,by rw[O _ _ (aX o)];exact h1,W⟩
  ·trivial
 |clos f lf=>
  simp only[ak.cd]
  split
  ·rename_i lg o;show v=_;rw[Lf O o];exact h
  ·trivial
 |gn l=>
  simp only[ak.cd]
  split
  ·rename_i ld Y;obtain⟨vs,e,Z⟩:=h;exact⟨vs,e,sC O Y Z⟩
  ·trivial
 |eH l=>
  simp only[ak.cd]
  split
  ·rename_i ld Y;obtain⟨vs,e,Z⟩:=h;exact⟨vs,e,sC O Y Z⟩
  ·trivial
 |dW b i off la=>
  simp only[ak.cd]
  split
  ·rename_i U o;obtain⟨g,n,cap,us,h1,W⟩:=h;exact⟨g,n,cap,us,by rw[O _ _ (aX o)];exact h1,W⟩
  ·trivial
 |fD b i j off la=>
  simp only[ak.cd]
  split
  ·rename_i U o;obtain⟨r,us,g,n,cap,h1,W⟩:=h;exact⟨r,us,g,n,cap,by rw[O _ _ (aX o)];exact h1,W⟩
  ·trivial
 |af n=>exact h
 |bX f b=>
  simp only[ak.cd]
  split
  ·rename_i U o;show v=_;rw[O _ _ (aX o)];exact h
  ·trivial
def mG:Nat->List ak->List (Nat×ak)
 |_,[]=>[]
 |k,u::us=>(k,u)::mG (k+1) us
theorem G5{M:Nat->Prop}{m:Nat->Value}:∀{vs:List Value} {O:List ak} (k:Nat) {T:Array Value},cA w M m vs O->(∀i v,vs[i]? =some v->T[k+i]? =some v)->
  ∀i aJ,(i,aJ)∈mG k O->∃v,T[i]? =some v/\aQ w M m v aJ
 |[],[],k,T,_,_,i,aJ,o=>by simp[mG]at o
 |[],_::_,_,_,h,_,_,_,_=>h.elim
 |_::_,[],_,_,h,_,_,_,_=>h.elim
 |v::vs,a::O,k,T,⟨h1,W⟩,U,i,aJ,o=>by
  rcases List.mem_cons.1 o with o|o
  ·cases o
   exact⟨v,by have:=U 0 v rfl;simpa using this,h1⟩
  ·exact G5 (k+1) W (fun j u Y=>by have:=U (j+1) u (by simpa using Y);rw[<-this];congr 1;omega) i aJ o
def ki(st:ae)(n:Nat)(ρ:List (Nat×Nat))(o:List ak):Option ae:=
 match nodupB (ρ.map (·.1)),nodupB (ρ.map (·.2)),nodupB (ae.ids ⟨[],fj ρ st.ad ρ,fJ st.rw ρ⟩),Nat.ble o.length n with
 |true,true,true,true=>some ⟨mG 0 (o.map (ak.cd ρ)),fj ρ st.ad ρ,fJ st.rw ρ⟩
 |_,_,_,_=>none
def sub(cx:bB)(m:Nat->Value)(st:ae)(w:World)(n:Nat)(ρ:List (Nat×Nat)):bB:=
 {P:=cx.P,n:=n,bC:=w,X:=fun b=>∃i j,(i,j)∈ρ/\i∈st.ids/\own (m i) b,
  A:=fun b=>ap cx m st.ids b/\¬∃i j,(i,j)∈ρ/\i∈st.ids/\own (m i) b,m0:=fun j=>match inv ρ j with|some i=>m i|none=>undef}
theorem vJ{ρ:List (Nat×Nat)}{ab:List (Nat×ak)}{j:Nat}(o:j∈ae.ids ⟨ab,fj ρ st.ad ρ,fJ st.rw ρ⟩):∃i,(i,j)∈ρ/\i∈st.ids:=by
 rcases List.mem_append.1 o with o|o
 ·obtain⟨⟨W,c⟩,O,rfl⟩:=List.mem_map.1 o
  obtain⟨i,c',h1,U,_⟩:=nA O
  exact⟨i,h1,List.mem_append.2 (.inl (List.mem_map.2 ⟨_,U,rfl⟩))⟩
 ·obtain⟨⟨W,c⟩,O,rfl⟩:=List.mem_map.1 o
  obtain⟨i,h1,U⟩:=oq O
  exact⟨i,h1,List.mem_append.2 (.inr (List.mem_map.2 ⟨_,U,rfl⟩))⟩
theorem AW{α:Type}{l:List (Nat×α)}(o:(l.map (·.1)).Nodup){i:Nat}{a b:α}(h1:(i,a)∈l)(U:(i,b)∈l):a=b:=by
 have W:=zB o h1
 have O:=zB o U
 rw[W]at O
 exact Option.some.inj O
theorem HQ(h:am cx m st T w){n:Nat}{ρ:List (Nat×Nat)}{W:List ak}{ln:ae}(lc:ki st n ρ W=some ln){vs:List Value}(lo:cA w (ap cx m st.ids) m vs W):
  am (sub cx m st w n ρ) (sub cx m st w n ρ).m0 ln (vs.toArray++Array.replicate (n-vs.toArray.size) undef) w:=by
 unfold ki at lc
 split at lc
 case h_2=>cases lc
 rename_i lg lh li lp
 cases lc
 have lg:=iQ lg
 have lh:=iQ lh
 have li:=iQ li
 have lp:=Nat.le_of_ble_eq_true lp
 have U:∀i j,(i,j)∈ρ->(sub cx m st w n ρ).m0 j=m i:=by
  intro i j o
  show(match inv ρ j with|some i=>m i|none=>undef)=m i
  rw[uO lh o]
 have lB:=mx lo
 have lj:∀b,b<w.heap.size->ap (sub cx m st w n ρ) (sub cx m st w n ρ).m0 (ae.ids ⟨mG 0 (W.map (ak.cd ρ)),fj ρ st.ad ρ,fJ st.rw ρ⟩) b->ap cx m st.ids b:=by
  rintro b _ (lt|⟨j,Y,Z⟩)
  ·exact lt.1
  ·obtain⟨i,o,O⟩:=vJ Y
   rw[U i j o]at Z
   exact .inr ⟨i,O,Z⟩
 have lk:∀b,b<w.heap.size->¬ap cx m st.ids b->w.heap[b]? =w.heap[b]? :=fun _ _ _=>rfl
 have lq:∀v s,aQ w (ap cx m st.ids) m v s->aQ w (ap (sub cx m st w n ρ) (sub cx m st w n ρ).m0 (ae.ids ⟨mG 0 (W.map (ak.cd ρ)),fj ρ st.ad ρ,fJ st.rw ρ⟩)) (sub cx m st w n ρ).m0 v (s.cd ρ):=
  fun v s lu=>Du U (fV lk lj lu)
 refine{size:=?_,frame:=Frame.refl _ _,outer:=fun b Z=>⟨h.Ej Z.1,Z.2⟩,cI:=?_,boxes:=?_,rows:=?_,apart:=?_,keys:=li,fixed:=fun _ _ _ _ _=>rfl,kept:=fun _ _ _ _ _=>rfl}
 ·show(vs.toArray++Array.replicate (n-vs.toArray.size) undef).size=n
  simp only[Array.size_append,List.size_toArray,Array.size_replicate]
  omega
 ·have lv:cA w (ap (sub cx m st w n ρ) (sub cx m st w n ρ).m0 (ae.ids ⟨mG 0 (W.map (ak.cd ρ)),fj ρ st.ad ρ,fJ st.rw ρ⟩)) (sub cx m st w n ρ).m0 vs (W.map (ak.cd ρ)):=uI lq lo
  exact G5 0 lv (fun i v O=>by
   rw[Nat.zero_add,Array.getElem?_append_left (by have:=(List.getElem?_eq_some_iff.1 O).1;simpa using this)]
   simpa using O)
 ·intro j c' Y
  obtain⟨i,c,o,O,rfl⟩:=nA Y
  obtain⟨g,ld,lw,ll⟩:=h.boxes i c O
  have lm:i∈st.ids:=List.mem_append.2 (.inl (List.mem_map.2 ⟨_,O,rfl⟩))
  rw[U i j o]
  refine⟨g,kU.2 ld,fun lC lf=>.inr ⟨i,j,o,lm,lf⟩,kj lk lj (ix ld) (fun _ _=>rfl) lq ll⟩
 ·intro j c Y
  obtain⟨i,o,O⟩:=oq Y
  obtain⟨cells,ld,lw,ll⟩:=h.rows i c O
  have lm:i∈st.ids:=List.mem_append.2 (.inr (List.mem_map.2 ⟨_,O,rfl⟩))
  refine⟨cells,by rw[U i j o];exact ld,fun g la=>.inr ⟨i,j,o,lm,by rw[U i j o]at la;exact la⟩,dx (fun _ _=>cB lk lj c.t) ll⟩
 ·intro lD lE h1 lx ly g la lf
  obtain⟨i1,lr,lz⟩:=vJ h1
  obtain⟨i2,a2,lA⟩:=vJ lx
  rw[U _ _ lr]at la
  rw[U _ _ a2]at lf
  refine h.apart i1 i2 lz lA ?_ g la lf
  rintro rfl
  exact ly (AW lg lr a2)
def jr(i:Nat)(l:List Nat):Bool:=l.any (Nat.beq i)
theorem zt{i:Nat}{l:List Nat}:jr i l=true↔i∈l:=by
 unfold jr
 rw[List.any_eq_true]
 constructor
 ·rintro⟨x,o,O⟩;rw[Nat.eq_of_beq_eq_true O];exact o
 ·intro U;exact⟨i,U,Nat.beq_refl i⟩
def vh(n:Nat)(o:ae)(ρ ρ':List (Nat×Nat))(i:Nat):Bool:=
 match look ρ i with
 |some j=>Nat.ble n j&&(Nat.ble eM j&&((look o.rw j).isSome&&(match look ρ' j with|some O=>Nat.beq O i|none=>false)))
 |none=>false
def ju(st:ae)(i:Nat):Option Bool:=match look st.ad i with
 |some c=>some c.one
 |none=>none
theorem Wp{st:ae}{i:Nat}{c:bL}(o:st.ids.Nodup)(h:(i,c)∈st.ad):ju st i=some c.one:=by
 have key:∀{l:List (Nat×bL)},(l.map (·.1)).Nodup->(i,c)∈l->look l i=some c:=by
  intro l
  induction l with
  |nil=>intro _ h;cases h
  |cons p l O=>
   obtain⟨j,d⟩:=p
   intro o h
   rw[List.map_cons,List.nodup_cons]at o
   unfold look
   rcases List.mem_cons.1 h with h|h
   ·cases h
    rw[Nat.beq_refl]
    rfl
   ·have U:Nat.beq j i=false:=by
     cases W:Nat.beq j i with
     |false=>rfl
     |true=>exact absurd (List.mem_map.2 ⟨_,h,(Nat.eq_of_beq_eq_true W).symm⟩) o.1
    rw[U]
    exact O o.2 h
 unfold ju
 rw[key (List.nodup_append.1 o).1 h]
theorem Lu{st:ae}{i:Nat}{b:Bool}(h:ju st i=some b):∃c,look st.ad i=some c/\c.one=b:=by
 unfold ju at h
 split at h
 ·rename_i c o;cases h;exact⟨c,o,rfl⟩
 ·cases h
def gone(n:Nat)(st o:ae)(ρ ρ':List (Nat×Nat)):List Nat:=
 (ρ.map (·.1)).filter (fun i=>((look st.rw i).isSome&&!vh n o ρ ρ' i)||ju st i==some false)++(ρ'.map (·.2)).filter (fun j=>!(ju st j==some true&&jr j (ρ.map (·.1)))&&!vh n o ρ ρ' j)
def je{α:Type}(o:List Nat)(l:List (Nat×α)):List (Nat×α):=l.filter fun p=>!(jr p.1 o)
def L0(st o:ae)(n O:Nat)(ρ:List (Nat×Nat))(p:Nat×Nat):Bool:=
 match look ρ p.2 with
 |some i=>Nat.beq i p.1&&(Nat.ble n p.1&&((ju st p.2==ju o p.1)&&(Nat.blt p.2 eM||(Nat.ble eM p.1&&(look st.rw p.2).isSome))))
 |none=>!(jr p.2 st.ids)&&!(jr p.2 (ρ.map (·.1)))&&(Nat.blt p.2 O||((look o.ad p.1).isNone&&Nat.blt p.2 eM))
def w8(st o:ae)(n O:Nat)(ρ ρ':List (Nat×Nat)):Option ae:=
 match nodupB (ρ'.map (·.1)),nodupB (ρ'.map (·.2)),ρ'.all (L0 st o n O ρ),nodupB ((je (ρ.map (·.1)) st.ad++fj ρ' o.ad ρ').map (·.1)++(je (ρ.map (·.1)) st.rw++fJ o.rw ρ').map (·.1))with
 |true,true,true,true=>some
  {ab:=st.ab.map fun p=>(p.1,p.2.dQ (gone n st o ρ ρ')),
   ad:=(je (ρ.map (·.1)) st.ad).map (fun p=>(p.1,p.2.map (ak.dQ (gone n st o ρ ρ'))))++fj ρ' o.ad ρ',
   rw:=je (ρ.map (·.1)) st.rw++fJ o.rw ρ'}
 |_,_,_,_=>none
end Go.Ev
namespace Go.Ev
open Go Go.RowKit
variable [b6]
variable {cx:bB} {m:Nat->Value} {st st':ae} {T:Array Value} {w w':World} {E:Env} {Q:cX} {ops:Array Oper} {l:List Oper}
theorem I1{α:Type}{l:List (Nat×α)}{i:Nat}{c:α}(h:(i,c)∈l):(look l i).isSome=true:=by
 induction l with
 |nil=>simp at h
 |cons p r O=>
  obtain⟨k,u⟩:=p
  unfold look
  cases o:Nat.beq k i with
  |true=>rfl
  |false=>
   rcases List.mem_cons.1 h with h|h
   ·cases h;rw[Nat.beq_refl]at o;cases o
   ·exact O h
theorem yf{α:Type}{o:List Nat}{l:List (Nat×α)}{p:Nat×α}(h:p∈je o l):p∈l/\p.1∉o:=by
 obtain⟨h1,O⟩:=List.mem_filter.1 h
 refine⟨h1,fun hk=>?_⟩
 rw[zt.2 hk]at O
 cases O
theorem Lr(h:am cx m st T w){n:Nat}{ρ ρ':List (Nat×Nat)}{Y st1:ae}{m1:Nat->Value}{ai:Array Value}{lj:World}(aB:(ρ.map (·.1)).Nodup)(aj:(ρ.map (·.2)).Nodup)
  (h1:am (sub cx m st w n ρ) m1 Y ai lj)(lH:w8 st Y n cx.n ρ ρ'=some st1):
  ∃m2,am cx m2 st1 T lj/\∀v s,aQ lj (ap (sub cx m st w n ρ) m1 Y.ids) m1 v s->aQ lj (ap cx m2 st1.ids) m2 v (s.cd ρ'):=by
 unfold w8 at lH
 split at lH
 case h_2=>cases lH
 rename_i c1 c2 c3 c4
 cases lH
 have c1:=iQ c1
 have c2:=iQ c2
 have c4:=iQ c4
 have lI:∀i j,(i,j)∈ρ->(sub cx m st w n ρ).m0 j=m i:=by
  intro i j lo
  show(match inv ρ j with|some i=>m i|none=>undef)=m i
  rw[uO aj lo]
 have lJ:∀i j,(i,j)∈ρ'->(n<=i/\(j,i)∈ρ/\ju st j=ju Y i/\(j<eM\/(eM<=i/\(look st.rw j).isSome=true)))\/(True/\j∉st.ids/\j∉ρ.map (·.1)/\(j<cx.n\/(look Y.ad i=none/\j<eM))):=by
  intro i j lo
  have:=List.all_eq_true.1 c3 _ lo
  unfold L0 at this
  split at this
  ·rename_i lN lO
   simp only[Bool.and_eq_true,Bool.or_eq_true,beq_iff_eq]at this
   obtain⟨t1,t2,t3,t4⟩:=this
   have:=Nat.eq_of_beq_eq_true t1
   subst this
   exact .inl ⟨Nat.le_of_ble_eq_true t2,aX lO,t3,t4.imp cG fun t=>⟨Nat.le_of_ble_eq_true t.1,t.2⟩⟩
  ·simp only[Bool.and_eq_true,Bool.or_eq_true,Bool.not_eq_true']at this
   obtain⟨⟨t1,t2⟩,t3⟩:=this
   refine .inr ⟨trivial,(fun O=>?_),(fun O=>?_),?_⟩
   ·have t1:jr j st.ids=false:=t1
    rw[zt.2 O]at t1
    cases t1
   ·have t2:jr j (ρ.map (·.1))=false:=t2
    rw[zt.2 O]at t2
    cases t2
   ·rcases t3 with t3|t3
    ·exact .inl (cG t3)
    ·exact .inr ⟨by simpa using t3.1,cG t3.2⟩
 obtain⟨m2,lZ⟩:∃m2:Nat->Value,m2=fun j=>match inv ρ' j with|some i=>m1 i|none=>m j:=⟨_,rfl⟩
 have lg:∀i j,(i,j)∈ρ'->m2 j=m1 i:=by
  intro i j lo
  rw[lZ]
  simp only
  rw[uO c2 lo]
 have l0:∀j,inv ρ' j=none->m2 j=m j:=by
  intro j lc
  rw[lZ]
  simp only
  rw[lc]
 have ll:∀j,j∈st.ids->j∉ρ.map (·.1)->m2 j=m j:=by
  intro j lc lr
  refine l0 j ?_
  cases lp:inv ρ' j with
  |none=>rfl
  |some i=>
   rcases lJ i j (HE lp)with ⟨_,O,_,_⟩|⟨_,O,_⟩
   ·exact absurd (List.mem_map.2 ⟨_,O,rfl⟩) lr
   ·exact absurd lc O
 have an:∀b,b∉gone n st Y ρ ρ'->m2 b=m b:=by
  intro b W
  cases lp:inv ρ' b with
  |none=>exact l0 b lp
  |some i=>
   have lo:=HE lp
   have lm:(ju st b==some true&&jr b (ρ.map (·.1)))=true\/vh n Y ρ ρ' b=true:=by
    cases lu:(ju st b==some true&&jr b (ρ.map (·.1)))with
    |true=>exact .inl rfl
    |false=>
     cases ao:vh n Y ρ ρ' b with
     |true=>exact .inr rfl
     |false=>
      refine absurd ?_ W
      refine List.mem_append.2 (.inr (List.mem_filter.2 ⟨List.mem_map.2 ⟨_,lo,rfl⟩,by rw[lu,ao];rfl⟩))
   rcases lm with lm|lm
   case inr=>
    unfold vh at lm
    split at lm
    case h_2=>cases lm
    rename_i j lc
    simp only[Bool.and_eq_true]at lm
    obtain⟨aq,ar,au,lP⟩:=lm
    split at lP
    case h_2=>cases lP
    rename_i lN lO
    have lh:=Nat.eq_of_beq_eq_true lP
    subst lh
    have lk:=uO c2 (aX lO)
    rw[lp]at lk
    cases lk
    obtain⟨lD,lE⟩:=Option.isSome_iff_exists.1 au
    rw[lg i lN lo,h1.kept i lD (aX lE) (Nat.le_of_ble_eq_true aq) (Nat.le_of_ble_eq_true ar),lI lN i (aX lc)]
   rw[Bool.and_eq_true]at lm
   rcases lJ i b lo with ⟨lx,O,ld,_⟩|⟨_,_,O,_⟩
   ·rw[beq_iff_eq.1 lm.1]at ld
    obtain⟨c,av,lK⟩:=Lu ld.symm
    rw[lg i b lo,h1.fixed i c (aX av) lK lx,lI b i O]
   ·exact absurd (zt.1 lm.2) O
 -- the ids of the new state
 have lF:∀j,j∈ae.ids {ab:=st.ab.map fun p=>(p.1,p.2.dQ (gone n st Y ρ ρ')),ad:=(je (ρ.map (·.1)) st.ad).map (fun p=>(p.1,p.2.map (ak.dQ (gone n st Y ρ ρ'))))++fj ρ' Y.ad ρ',rw:=je (ρ.map (·.1)) st.rw++fJ Y.rw ρ'}->
   (j∈st.ids/\j∉ρ.map (·.1))\/∃i,(i,j)∈ρ'/\i∈Y.ids:=by
  intro j lc
  rcases List.mem_append.1 lc with lc|lc
  ·obtain⟨⟨aw,c⟩,Z,rfl⟩:=List.mem_map.1 lc
   rcases List.mem_append.1 Z with Z|Z
   ·obtain⟨⟨lt,c'⟩,lQ,ld⟩:=List.mem_map.1 Z
    cases ld
    obtain⟨o,U⟩:=yf lQ
    exact .inl ⟨List.mem_append.2 (.inl (List.mem_map.2 ⟨_,o,rfl⟩)),U⟩
   ·obtain⟨i,c',o,U,_⟩:=nA Z
    exact .inr ⟨i,o,List.mem_append.2 (.inl (List.mem_map.2 ⟨_,U,rfl⟩))⟩
  ·obtain⟨⟨aw,c⟩,Z,rfl⟩:=List.mem_map.1 lc
   rcases List.mem_append.1 Z with Z|Z
   ·obtain⟨o,U⟩:=yf Z
    exact .inl ⟨List.mem_append.2 (.inr (List.mem_map.2 ⟨_,o,rfl⟩)),U⟩
   ·obtain⟨i,o,U⟩:=oq Z
    exact .inr ⟨i,o,List.mem_append.2 (.inr (List.mem_map.2 ⟨_,U,rfl⟩))⟩
 generalize lL:({ab:=st.ab.map fun p=>(p.1,p.2.dQ (gone n st Y ρ ρ')),ad:=(je (ρ.map (·.1)) st.ad).map (fun p=>(p.1,p.2.map (ak.dQ (gone n st Y ρ ρ'))))++fj ρ' Y.ad ρ',rw:=je (ρ.map (·.1)) st.rw++fJ Y.rw ρ'}:ae)=st1 at lF
 have lR:∀i,i∈Y.ids->∀b,own (m1 i) b->w.heap.size<=b\/∃i0 lv,(i0,lv)∈ρ/\i0∈st.ids/\own (m i0) b:=fun i lp b W=>(h1.lt lp W).2
 have lS:∀b,b<w.heap.size->ap cx m2 st1.ids b->ap cx m st.ids b:=by
  rintro b aC (lM|⟨j,lc,W⟩)
  ·exact .inl lM
  ·rcases lF j lc with ⟨o,U⟩|⟨i,o,U⟩
   ·rw[ll j o U]at W
    exact .inr ⟨j,o,W⟩
   ·rw[lg i j o]at W
    rcases lR i U b W with O|⟨i0,_,_,li,lf⟩
    ·omega
    ·exact .inr ⟨i0,li,lf⟩
 have lT:∀b,b<lj.heap.size->ap cx m2 st1.ids b->ap (sub cx m st w n ρ) m1 Y.ids b:=by
  rintro b _ (lM|⟨j,lc,W⟩)
  ·refine .inl ⟨.inl lM,?_⟩
   rintro⟨i0,lv,_,li,lf⟩
   have aa:=h.outer b lM
   rcases(h.lt li lf).2 with O|O
   ·omega
   ·exact aa.2 O
  ·rcases lF j lc with ⟨o,U⟩|⟨i,o,U⟩
   ·rw[ll j o U]at W
    refine .inl ⟨.inr ⟨j,o,W⟩,?_⟩
    rintro⟨i0,lv,lU,li,lf⟩
    refine h.apart i0 j li o ?_ b lf W
    rintro rfl
    exact U (List.mem_map.2 ⟨_,lU,rfl⟩)
   ·rw[lg i j o]at W
    exact .inr ⟨i,U,W⟩
 have lV:∀b,b<w.heap.size->¬ap cx m st.ids b->lj.heap[b]? =w.heap[b]? :=fun b W lr=>h1.frame.block b W fun⟨i0,_,_,li,lf⟩=>lr (.inr ⟨i0,li,lf⟩)
 have lW:∀b,b<lj.heap.size->¬ap (sub cx m st w n ρ) m1 Y.ids b->lj.heap[b]? =lj.heap[b]? :=fun _ _ _=>rfl
 have l3:∀v s,aQ w (ap cx m st.ids) m v s->aQ lj (ap cx m2 st1.ids) m2 v (s.dQ (gone n st Y ρ ρ')):=fun v s lA=>pz an (fV lV lS lA)
 have l4:∀v s,aQ lj (ap (sub cx m st w n ρ) m1 Y.ids) m1 v s->aQ lj (ap cx m2 st1.ids) m2 v (s.cd ρ'):=fun v s lA=>Du lg (fV lW lT lA)
 have l5:∀b c',(b,c')∈st1.ad->(∃c,(b,c)∈st.ad/\b∉ρ.map (·.1)/\c'=c.map (ak.dQ (gone n st Y ρ ρ')))\/∃i c,(i,b)∈ρ'/\(i,c)∈Y.ad/\c'=c.map (ak.cd ρ'):=by
  intro b c' W
  rw[<-lL]at W
  rcases List.mem_append.1 W with Z|Z
  ·obtain⟨⟨lt,c2⟩,lQ,ld⟩:=List.mem_map.1 Z
   cases ld
   obtain⟨o,U⟩:=yf lQ
   exact .inl ⟨c2,o,U,rfl⟩
  ·exact .inr (nA Z)
 have l6:∀b c,(b,c)∈st1.rw->((b,c)∈st.rw/\b∉ρ.map (·.1))\/∃i,(i,b)∈ρ'/\(i,c)∈Y.rw:=by
  intro b c W
  rw[<-lL]at W
  rcases List.mem_append.1 W with Z|Z
  ·exact .inl (yf Z)
  ·exact .inr (oq Z)
 have lG:∀j,j∈st.ids->j∉ρ.map (·.1)->∀g,own (m j) g->g<w.heap.size/\¬∃i0 lv,(i0,lv)∈ρ/\i0∈st.ids/\own (m i0) g:=by
  intro j lc lr g la
  refine⟨(h.lt lc la).1,?_⟩
  rintro⟨i0,lv,lU,li,lf⟩
  refine h.apart i0 j li lc ?_ g lf la
  rintro rfl
  exact lr (List.mem_map.2 ⟨_,lU,rfl⟩)
 have l7:∀g,(w.heap.size<=g\/∃i0 lv,(i0,lv)∈ρ/\i0∈st.ids/\own (m i0) g)->cx.bC.heap.size<=g\/cx.X g:=by
  rintro g (la|⟨i0,_,_,li,lf⟩)
  ·exact .inl (Nat.le_trans h.frame.size la)
  ·exact(h.lt li lf).2
 refine⟨m2,{size:=h.size,frame:=?_,outer:=h.outer,cI:=?_,boxes:=?_,rows:=?_,apart:=?_,keys:=?_,fixed:=?_,kept:=?_},l4⟩
 ·refine⟨h1.frame.os.trans h.frame.os,h1.frame.tape.trans h.frame.tape,h1.frame.output.trans h.frame.output,Nat.le_trans h.frame.size h1.frame.size,fun b W l8=>?_,fun d=>Nat.le_trans (h.frame.drawn d) (h1.frame.drawn d)⟩
  rw[<-h.frame.block b W l8]
  refine h1.frame.block b (Nat.lt_of_lt_of_le W h.frame.size) ?_
  rintro⟨i0,_,_,li,lf⟩
  rcases(h.lt li lf).2 with O|O
  ·omega
  ·exact l8 O
 ·intro i aD lp
  rw[<-lL]at lp
  obtain⟨⟨j,aJ⟩,Z,ld⟩:=List.mem_map.1 lp
  cases ld
  obtain⟨v,lh,lk⟩:=h.cI j aJ Z
  exact⟨v,lh,l3 v aJ lk⟩
 ·intro b c' W
  rcases l5 b c' W with ⟨c,o,U,rfl⟩|⟨i,c,o,U,rfl⟩
  ·have ln:b∈st.ids:=List.mem_append.2 (.inl (List.mem_map.2 ⟨_,o,rfl⟩))
   obtain⟨g,lh,lk,ly⟩:=h.boxes b c o
   rw[ll b ln U]
   exact⟨g,kU.2 lh,lk,kj lV lS (ix lh) (fun lX l9=>h1.frame.block lX (lG b ln U lX l9).1 (lG b ln U lX l9).2) l3 ly⟩
  ·obtain⟨g,lh,lk,ly⟩:=h1.boxes i c U
   rw[lg i b o]
   exact⟨g,kU.2 lh,fun af lq=>l7 af (lk af lq),kj lW lT (ix lh) (fun _ _=>rfl) l4 ly⟩
 ·intro b c W
  rcases l6 b c W with ⟨o,U⟩|⟨i,o,U⟩
  ·have ln:b∈st.ids:=List.mem_append.2 (.inr (List.mem_map.2 ⟨_,o,rfl⟩))
   obtain⟨cells,lh,lk,ly⟩:=h.rows b c o
   refine⟨cells,?_,fun g la=>lk g (by rw[ll b ln U]at la;exact la),dx (fun _ _=>cB lV lS c.t) ly⟩
   rw[ll b ln U]
   refine⟨lh.1,?_⟩
   rcases lh.2 with O|⟨g,cap,cur,lA,lf,O,rest⟩
   ·exact .inl O
   ·have lu:=lG b ln U g (by rw[lA];exact hq rfl)
    exact .inr ⟨g,cap,cur,lA,lf,by rw[h1.frame.block g lu.1 lu.2];exact O,rest⟩
  ·obtain⟨cells,lh,lk,ly⟩:=h1.rows i c U
   exact⟨cells,by rw[lg i b o];exact lh,fun g la=>l7 g (lk g (by rw[lg i b o]at la;exact la)),dx (fun _ _=>cB lW lT c.t) ly⟩
 ·intro lz lt ax ay ag g la lq
  rcases lF lz ax with ⟨lw,lB⟩|⟨i1,lw,lB⟩<;>rcases lF lt ay with ⟨a2,lC⟩|⟨i2,a2,lC⟩
  ·rw[ll lz lw lB]at la
   rw[ll lt a2 lC]at lq
   exact h.apart lz lt lw a2 ag g la lq
  ·rw[ll lz lw lB]at la
   rw[lg i2 lt a2]at lq
   have lu:=lG lz lw lB g la
   rcases lR i2 lC g lq with O|O
   ·omega
   ·exact lu.2 O
  ·rw[lg i1 lz lw]at la
   rw[ll lt a2 lC]at lq
   have lu:=lG lt a2 lC g lq
   rcases lR i1 lB g la with O|O
   ·omega
   ·exact lu.2 O
  ·rw[lg i1 lz lw]at la
   rw[lg i2 lt a2]at lq
   refine h1.apart i1 i2 lB lC ?_ g la lq
   rintro rfl
   exact ag (AW c1 lw a2)
 ·rw[<-lL]
  show(((je (ρ.map (·.1)) st.ad).map (fun p=>(p.1,p.2.map (ak.dQ (gone n st Y ρ ρ'))))++fj ρ' Y.ad ρ').map (·.1)++(je (ρ.map (·.1)) st.rw++fJ Y.rw ρ').map (·.1)).Nodup
  have e:((je (ρ.map (·.1)) st.ad).map (fun p=>(p.1,p.2.map (ak.dQ (gone n st Y ρ ρ'))))++fj ρ' Y.ad ρ').map (·.1)=(je (ρ.map (·.1)) st.ad++fj ρ' Y.ad ρ').map (·.1):=by
   simp[List.map_append,List.map_map,Function.comp_def]
  rw[e]
  exact c4
 ·intro b c' W lK lx
  rcases l5 b c' W with ⟨c,o,U,lY⟩|⟨i,c,o,U,lY⟩
  ·have ln:b∈st.ids:=List.mem_append.2 (.inl (List.mem_map.2 ⟨_,o,rfl⟩))
   rw[ll b ln U]
   exact h.fixed b c o (ni.symm.trans (lY▸lK)) lx
  ·rcases lJ i b o with ⟨lr,O,ld,_⟩|⟨_,_,_,O⟩
   ·have ah:c.one=true:=ni.symm.trans (lY▸lK)
    rw[Wp h1.keys U,ah]at ld
    obtain⟨lD,lE,az⟩:=Lu ld
    rw[lg i b o,h1.fixed i c U ah lr,lI b i O]
    exact h.fixed b lD (aX lE) az lx
   ·rcases O with O|O
    ·omega
    ·have:=I1 U
     rw[O.1]at this
     cases this
 ·intro b c W lx hk
  rcases l6 b c W with ⟨o,U⟩|⟨i,o,U⟩
  ·have ln:b∈st.ids:=List.mem_append.2 (.inr (List.mem_map.2 ⟨_,o,rfl⟩))
   rw[ll b ln U]
   exact h.kept b c o lx hk
  ·rcases lJ i b o with ⟨lr,O,_,ld⟩|⟨_,_,_,O⟩
   ·rcases ld with ld|⟨ld,aA⟩
    ·omega
    ·obtain⟨lD,lE⟩:=Option.isSome_iff_exists.1 aA
     rw[lg i b o,h1.kept i c U lr ld,lI b i O]
     exact h.kept b lD (aX lE) lx hk
   ·rcases O with O|O
    ·omega
    ·omega
end Go.Ev
namespace Go.Ev
open Go Go.RowKit
variable [b6]
variable {cx:bB} {m:Nat->Value} {st st':ae} {T:Array Value} {w w':World} {E:Env} {Q:cX} {ops:Array Oper} {l:List Oper}
structure cJ(α β:Type) where
 n:Nat
 S:α->ae
 be:α->β->ae
 ar:α->β->List ak
 rel:α->β->Prop
def wa(w:World)(M:Nat->Prop)(m:Nat->Value)(v:Value):List ak->Prop
 |[]=>True
 |[s]=>aQ w M m v s
 |l=>∃vs:List Value,v=.tuple vs.toArray/\cA w M m vs l
structure cF{α β:Type}(P:Program)(G:World->Prop)(f:Nat)(F:cJ α β):Prop where
 enters:∀args w,(callFunc f args).run P w=.ok (.enter f args) w
 calls:∀(cx:bB),cx.P=P->cx.n=F.n->(∀w,Frame cx.bC w cx.X->G w)->∀x y,F.rel x y->∀(vs:List Value) (w:World),vs.length=(F.S x).ab.length->R cx (F.S x) (vs.toArray++Array.replicate (F.n-vs.toArray.size) undef) w->
  Calls P f vs.toArray w fun e w'=>∃v aA o,e=.returned v/\am cx aA (F.be x y) o w'/\wa w' (ap cx aA (F.be x y).ids) aA v (F.ar x y)
def mX:List ak->Option (List bQ)
 |[]=>some []
 |.val t x::l=>match mX l with
  |some r=>some (.v ⟨t,x⟩::r)
  |none=>none
 |.row b::l=>match mX l with
  |some r=>some (.r b::r)
  |none=>none
 |.ptr b 0::l=>match mX l with
  |some r=>some (.r b::r)
  |none=>none
 |.dE b []::l=>match mX l with
  |some r=>some (.r b::r)
  |none=>none
 |.any::l=>match mX l with
  |some r=>some (.a::r)
  |none=>none
 |.iter b::l=>match mX l with
  |some r=>some (.r b::r)
  |none=>none
 |_=>none
def wM:List ak->Option ak
 |[]=>some .any
 |[s]=>some s
 |l=>match mX l with
  |some r=>some (.gn r)
  |none=>none
theorem pm{M:Nat->Prop}:∀{vs:List Value} {l:List ak} {r:List bQ},mX l=some r->cA w M m vs l->dd w M m vs r
 |[],[],_,h,_=>by cases h;trivial
 |_::_,[],_,_,Y=>Y.elim
 |[],_::_,_,_,Y=>Y.elim
 |v::vs,s::l,r,h,⟨h1,O⟩=>by
  unfold mX at h
  split at h
  ·rename_i e;cases e
  ·rename_i t x U e
   cases e
   split at h
   ·rename_i W o;cases h;exact⟨h1,pm o O⟩
   ·cases h
  ·rename_i b U e
   cases e
   split at h
   ·rename_i W o;cases h;exact⟨h1,pm o O⟩
   ·cases h
  ·rename_i b U e
   cases e
   split at h
   ·rename_i W o;cases h;obtain⟨g,g1,g2⟩:=h1;exact⟨by rw[g1];exact g2,pm o O⟩
   ·cases h
  ·rename_i b U e
   cases e
   split at h
   ·rename_i W o;cases h;obtain⟨g,g1,g2⟩:=h1;exact⟨by rw[g1];exact g2,pm o O⟩
   ·cases h
  ·rename_i U e
   cases e
   split at h
   ·rename_i W o;cases h;exact pm (vs:=vs) o O
   ·cases h
  ·rename_i b U e
   cases e
   split at h
   ·rename_i W o;cases h;exact⟨h1,pm o O⟩
   ·cases h
  ·cases h
theorem Lg{M:Nat->Prop}{v:Value}{l:List ak}{s:ak}(h:wM l=some s)(W:wa w M m v l):aQ w M m v s:=by
 unfold wM at h
 split at h
 ·cases h;trivial
 ·cases h;exact W
 ·rename_i o O
  split at h
  ·rename_i r U
   cases h
   match l,o,O,W,U with
   |a::b::l,_,_,⟨vs,e,Y⟩,U=>exact⟨vs,e,pm U Y⟩
   |[],o,_,_,_=>exact absurd rfl o
   |[a],_,O,_,_=>exact absurd rfl (O a)
  ·cases h
def zj(P:Program)(st:ae)(t:TypeId)(x:Operand):Option ak:=
 match x with
 |.const (.slice none 0 0)=>match ed P t with
  |some (_,u)=>some (.val (.ab u) [])
  |none=>none
 |x=>aP st x
def tY(P:Program)(st:ae):List TypeId->List Operand->Option (List ak)
 |[],[]=>some []
 |t::o,x::xs=>match zj P st t x,tY P st o xs with
  |some v,some vs=>some (v::vs)
  |_,_=>none
 |_,_=>none
theorem HL(h:am cx m st T w){t:TypeId}{x:Operand}{s:ak}(o:zj cx.P st t x=some s):aQ w (ap cx m st.ids) m (Act.eval ⟨T,[]⟩ x) s:=by
 unfold zj at o
 split at o
 ·split at o
  ·rename_i e u U
   cases o
   exact(bZ (t:=.ab u) rfl).2 ⟨none,0,[],rfl,Nat.le_refl _,by decide,fun _=>rfl,rfl,fun j v O=>by simp at O⟩
  ·cases o
 ·exact aW h o
theorem Cy(h:am cx m st T w):∀{U:List TypeId} {xs:List Operand} {O:List ak},tY cx.P st U xs=some O->cA w (ap cx m st.ids) m (xs.map (Act.eval ⟨T,[]⟩)) O
 |[],[],_,o=>by cases o;trivial
 |[],_::_,_,o=>by cases o
 |_::_,[],_,o=>by cases o
 |t::U,x::xs,O,o=>by
  unfold tY at o
  split at o
  ·rename_i v Y h1 W
   cases o
   exact⟨HL h h1,Cy h W⟩
  ·cases o
def uM(st:ae)(o:List Nat):Bool:=o.all fun b=>match look st.ad b with
 |some (.cells _ _)=>true
 |_=>false
theorem xl(h:am cx m st T w):∀{o:List Nat},uM st o=true->cA w (ap cx m st.ids) m (o.map m) (o.map fun b=>ak.ptr b 0)
 |[],_=>trivial
 |b::o,O=>by
  unfold uM at O
  rw[List.all_cons,Bool.and_eq_true]at O
  refine⟨?_,xl h O.2⟩
  have h1:=O.1
  split at h1
  ·rename_i c W
   obtain⟨g,U⟩:=Ch h W
   exact⟨g,U,U⟩
  ·cases h1
def pS(E:Env)(st:ae)(aa:Oper)(n f:Nat)(ρ:List (Nat×Nat)):Option ae:=
 match aa.op with
 |.call c=>match c.callee with
  |.value x=>match aP st x with
   |some (.clos o U)=>match Nat.beq o f,uM st U,tY E.P st c.argTypes.toList c.args.toList with
    |true,true,some O=>ki st n ρ (O++U.map fun b=>ak.ptr b 0)
    |_,_,_=>none
   |some (.bX o b)=>match Nat.beq o f,uM st [b],tY E.P st c.argTypes.toList c.args.toList with
    |true,true,some O=>ki st n ρ (ak.ptr b 0::O)
    |_,_,_=>none
   |_=>none
  |_=>none
 |_=>none
def kG(st O:ae)(aa:Oper)(n o:Nat)(ρ ρ':List (Nat×Nat))(ar:List ak):Option ae:=
 match w8 st O n o ρ ρ',wM ar with
 |some st1,some s=>match aa.dst with
  |none=>some st1
  |some d=>match Nat.blt d o with
   |true=>some (st1.put d (s.cd ρ'))
   |false=>none
 |_,_=>none
def w5(st Y:ae)(aa:Oper)(n o:Nat)(ρ ρ':List (Nat×Nat))(ar:List ak)(O U W:List Nat):Option ae:=
 match w8 st Y n o ρ ρ',wM ar with
 |some st1,some s=>match aa.dst with
  |none=>st1.norm O U W
  |some d=>match Nat.blt d o with
   |true=>(st1.put d (s.cd ρ')).norm O U W
   |false=>none
 |_,_=>none
theorem FV{n:Nat}{ρ:List (Nat×Nat)}{O:List ak}{U:ae}(o:ki st n ρ O=some U):(ρ.map (·.1)).Nodup/\(ρ.map (·.2)).Nodup:=by
 unfold ki at o
 split at o
 ·rename_i W Y Z la;exact⟨iQ W,iQ Y⟩
 ·cases o
theorem Jd:∀(l:List ak) (k:Nat),(mG k l).length=l.length
 |[],_=>rfl
 |_::l,k=>by simp[mG,Jd l]
theorem Lx{n:Nat}{ρ:List (Nat×Nat)}{O:List ak}{U:ae}(o:ki st n ρ O=some U):U.ab.length=O.length:=by
 unfold ki at o
 split at o
 ·cases o;simp[Jd]
 ·cases o
theorem L9(h:am cx m st T w){n:Nat}{ρ:List (Nat×Nat)}(o:Frame w w' (sub cx m st w n ρ).X):Frame cx.bC w' cx.X:=by
 refine⟨o.os.trans h.frame.os,o.tape.trans h.frame.tape,o.output.trans h.frame.output,Nat.le_trans h.frame.size o.size,fun b O U=>?_,fun d=>Nat.le_trans (h.frame.drawn d) (o.drawn d)⟩
 rw[<-h.frame.block b O U]
 refine o.block b (Nat.lt_of_lt_of_le O h.frame.size) ?_
 rintro⟨i0,_,_,Y,Z⟩
 rcases(h.lt Y Z).2 with W|W
 ·omega
 ·exact U W
theorem QK{c:Call}{aa:Oper}{f:Nat}{x:Operand}{u:Value}(O:aa.op=.call c)(o:c.callee=.value x)(U:Act.eval ⟨T,[]⟩ x=.func (.func f) #[u] #[])
  (W:∀args w,(callFunc f args).run cx.P w=.ok (.enter f args) w)(w:World):
  (execOp (Act.eval ⟨T,[]⟩) aa).run cx.P w=.ok (.enter f (u::c.args.toList.map (Act.eval ⟨T,[]⟩)).toArray) w:=by
 obtain⟨Z,args,la⟩:=c
 simp only at o
 subst o
 have Y:#[u]++args.map (Act.eval ⟨T,[]⟩)++#[]=(u::args.toList.map (Act.eval ⟨T,[]⟩)).toArray:=by
  apply Array.ext'
  simp
 simp only[execOp,O,resolve,U,Deferred.ofValue,Sem.run_bind,Sem.run_pure,Result.andThen_ok,invoke]
 rw[Y]
 simp[W]
theorem zO(Y:br E cx){α β:Type}{F:cJ α β}{f:Nat}(lq:cF E.P E.G f F)(x:α)(y:β)(lr:F.rel x y){aa:Oper}{ρ ρ':List (Nat×Nat)}{n:Nat}(lt:F.n=n)
  (lu:eK ops st aa=some true)(o:pS E st aa n f ρ=some (F.S x))(W:kG st (F.be x y) aa n E.n ρ ρ' (F.ar x y)=some st')(h:bK cx ops Q l st'):bK cx ops Q (aa::l) st:=by
 subst lt
 rintro T w ⟨m,O⟩
 refine wpList_step fun K li=>?_
 rw[iT ⟨m,O⟩ lu]
 simp only[if_true]
 have la:=lq
 rw[<-Y.P]at la
 have lj:∀(Z:List ak) (vs:List Value),ki st F.n ρ Z=some (F.S x)->cA w (ap cx m st.ids) m vs Z->(execOp (Act.eval ⟨T,[]⟩) aa).run cx.P w=.ok (.enter f vs.toArray) w->aa.wp cx.P ⟨T,[]⟩ w K Q:=by
  intro Z vs o lk lv
  have lw:=HQ O o lk
  obtain⟨lx,ly⟩:=FV o
  have lz:=mx lk
  have lA:(F.S x).ab.length=Z.length:=Lx o
  have lB:=la.calls (sub cx m st w F.n ρ) rfl rfl (fun w' U=>Y.tq w' (L9 O U)) x y lr _ w (by rw[lA];exact lz) ⟨_,lw⟩
  unfold Oper.wp
  rw[lv]
  refine lB.mono ?_
  rintro e w' ⟨v,aA,lF,rfl,h1,lC⟩
  unfold kG at W
  split at W
  case h_2=>cases W
  rename_i st1 s ll lD
  rw[<-Y.n]at ll
  obtain⟨m2,lm,lE⟩:=Lr O lx ly h1 ll
  show K (Act.put ⟨T,[]⟩ aa.dst v) w'
  split at W
  ·rename_i af
   rw[af]
   cases W
   exact li _ _ (h _ _ ⟨m2,lm⟩)
  ·rename_i d af
   split at W
   ·rename_i lc
    rw[af]
    have lc:d<cx.n:=by rw[Y.n];exact cG lc
    cases W
    exact li _ _ (h _ _ ⟨m2,lm.put lc (lE v s (Lg lD lC))⟩)
   ·cases W
 unfold pS at o
 split at o
 case h_2=>cases o
 rename_i c ln
 split at o
 case h_2=>cases o
 rename_i lo lp
 split at o
 ·rename_i ld bN lf
  split at o
  case h_2=>cases o
  rename_i Z U lg has
  have U:=Nat.eq_of_beq_eq_true U
  subst U
  rw[<-Y.P]at has
  have lh:Act.eval ⟨T,[]⟩ lo=.func (.func ld) #[] (bN.map m).toArray:=aW O lf
  exact lj _ _ o (mT (Cy O has) (xl O lg)) (yY ln lp lh la.enters w)
 ·rename_i ld b lf
  split at o
  case h_2=>cases o
  rename_i Z U lg has
  have U:=Nat.eq_of_beq_eq_true U
  subst U
  rw[<-Y.P]at has
  have lh:Act.eval ⟨T,[]⟩ lo=.func (.func ld) #[m b] #[]:=aW O lf
  exact lj _ (m b::c.args.toList.map (Act.eval ⟨T,[]⟩)) o ⟨(xl O lg).1,Cy O has⟩ (QK ln lp lh la.enters w)
 ·cases o
theorem yQ(Y:br E cx){α β:Type}{F:cJ α β}{f:Nat}(Z:cF E.P E.G f F)(x:α)(y:β)(la:F.rel x y){aa:Oper}{ρ ρ':List (Nat×Nat)}{n:Nat}(lc:F.n=n)(O U W:List Nat)
  (ld:eK ops st aa=some true)(lf:pS E st aa n f ρ=some (F.S x))(o:w5 st (F.be x y) aa n E.n ρ ρ' (F.ar x y) O U W=some st')(h:bK cx ops Q l st'):bK cx ops Q (aa::l) st:=by
 have e:∃s,kG st (F.be x y) aa n E.n ρ ρ' (F.ar x y)=some s/\s.norm O U W=some st':=by
  unfold w5 at o
  unfold kG
  split at o
  ·split at o
   ·exact⟨_,rfl,o⟩
   ·split at o
    ·exact⟨_,rfl,o⟩
    ·cases o
  ·cases o
 obtain⟨s,h1,lg⟩:=e
 exact zO Y Z x y la lc ld lf h1 (h.norm lg)
def ae.cd(st:ae)(ρ:List (Nat×Nat)):Option ae:=
 match nodupB (ρ.map (·.1)),nodupB (ρ.map (·.2)),ρ.all (fun p=>Nat.beq p.1 p.2||((look st.ad p.1).isNone&&Nat.blt p.2 eM)),nodupB (ae.ids ⟨[],fj ρ st.ad ρ,fJ st.rw ρ⟩)with
 |true,true,true,true=>some ⟨st.ab.map fun p=>(p.1,p.2.cd ρ),fj ρ st.ad ρ,fJ st.rw ρ⟩
 |_,_,_,_=>none
theorem am.cd(h:am cx m st T w){ρ:List (Nat×Nat)}(ld:st.cd ρ=some st'):∃aA,am cx aA st' T w:=by
 unfold ae.cd at ld
 split at ld
 case h_2=>cases ld
 rename_i lg lh lo li
 cases ld
 have lg:=iQ lg
 have lh:=iQ lh
 have li:=iQ li
 obtain⟨aA,lv⟩:∃aA:Nat->Value,aA=fun j=>match inv ρ j with|some i=>m i|none=>undef:=⟨_,rfl⟩
 have W:∀i j,(i,j)∈ρ->aA j=m i:=by
  intro i j o
  rw[lv]
  simp only
  rw[uO lh o]
 have lj:∀{j:Nat},j∈ae.ids ⟨st.ab.map fun p=>(p.1,p.2.cd ρ),fj ρ st.ad ρ,fJ st.rw ρ⟩->∃i,(i,j)∈ρ/\i∈st.ids:=fun Y=>vJ Y
 have lk:∀b,b<w.heap.size->ap cx aA (ae.ids ⟨st.ab.map fun p=>(p.1,p.2.cd ρ),fj ρ st.ad ρ,fJ st.rw ρ⟩) b->ap cx m st.ids b:=by
  rintro b _ (lw|⟨j,Y,lf⟩)
  ·exact .inl lw
  ·obtain⟨i,o,U⟩:=lj Y
   rw[W i j o]at lf
   exact .inr ⟨i,U,lf⟩
 have ll:∀b,b<w.heap.size->¬ap cx m st.ids b->w.heap[b]? =w.heap[b]? :=fun _ _ _=>rfl
 have lp:∀v s,aQ w (ap cx m st.ids) m v s->aQ w (ap cx aA (ae.ids ⟨st.ab.map fun p=>(p.1,p.2.cd ρ),fj ρ st.ad ρ,fJ st.rw ρ⟩)) aA v (s.cd ρ):=
  fun v s lx=>Du W (fV ll lk lx)
 refine⟨aA,{size:=h.size,frame:=h.frame,outer:=h.outer,cI:=?_,boxes:=?_,rows:=?_,apart:=?_,keys:=li,fixed:=?_,kept:=?_}⟩
 ·intro i aJ U
  obtain⟨⟨j,s⟩,ly,lz⟩:=List.mem_map.1 U
  cases lz
  obtain⟨v,Z,la⟩:=h.cI j s ly
  exact⟨v,Z,lp v s la⟩
 ·intro j c' Y
  obtain⟨i,c,o,U,rfl⟩:=nA Y
  obtain⟨g,Z,la,lm⟩:=h.boxes i c U
  rw[W i j o]
  exact⟨g,kU.2 Z,la,kj ll lk (ix Z) (fun _ _=>rfl) lp lm⟩
 ·intro j c Y
  obtain⟨i,o,U⟩:=oq Y
  obtain⟨cells,Z,la,lm⟩:=h.rows i c U
  exact⟨cells,by rw[W i j o];exact Z,fun g lc=>la g (by rw[W i j o]at lc;exact lc),dx (fun _ _=>cB ll lk c.t) lm⟩
 ·intro lG lH h1 lA lB g lc lq
  obtain⟨i1,lr,lC⟩:=lj h1
  obtain⟨i2,a2,lD⟩:=lj lA
  rw[W _ _ lr]at lc
  rw[W _ _ a2]at lq
  refine h.apart i1 i2 lC lD ?_ g lc lq
  rintro rfl
  exact lB (AW lg lr a2)
 ·intro b c lf lE ln
  obtain⟨i,lI,o,U,lF⟩:=nA lf
  have O:=List.all_eq_true.1 lo _ o
  simp only[Bool.or_eq_true,Bool.and_eq_true]at O
  rcases O with O|⟨O,_⟩
  ·have e:=Nat.eq_of_beq_eq_true O
   subst e
   rw[W _ _ o]
   exact h.fixed _ _ U (ni.symm.trans (lF▸lE)) ln
  ·have lt:=I1 U
   cases lu:look st.ad i with
   |none=>rw[lu]at lt;cases lt
   |some x=>rw[lu]at O;cases O
 ·intro j c Y ln hk
  obtain⟨i,o,U⟩:=oq Y
  have O:=List.all_eq_true.1 lo _ o
  simp only[Bool.or_eq_true,Bool.and_eq_true]at O
  rcases O with O|⟨_,O⟩
  ·have e:=Nat.eq_of_beq_eq_true O
   subst e
   rw[W _ _ o]
   exact h.kept _ _ U ln hk
  ·exact absurd hk (Nat.not_le.2 (cG O))
theorem R.cd(h:R cx st T w){ρ:List (Nat×Nat)}(o:st.cd ρ=some st'):R cx st' T w:=let⟨_,O⟩:=h;O.cd o
theorem N.cd{e:Exit}(ρ:List (Nat×Nat))(o:st.cd ρ=some st')(h:N cx Q e st'):N cx Q e st:=fun T w O=>h T w (O.cd o)
theorem W.cd{c:Code}(ρ:List (Nat×Nat))(o:st.cd ρ=some st')(h:W cx Q c st'):W cx Q c st:=fun T w O=>h T w (O.cd o)
theorem bK.cd(ρ:List (Nat×Nat))(o:st.cd ρ=some st')(h:bK cx ops Q l st'):bK cx ops Q l st:=fun T w O=>h T w (O.cd o)
def o2(P:Program)(st:ae):List ResultVar->Option (List ak)
 |[]=>some []
 |.tmp t::l=>match look st.ab t,o2 P st l with
  |some s,some r=>some (s::r)
  |none,some r=>some (.any::r)
  |_,none=>none
 |.cell a ty'::l=>match kh P st [.cell a ty'],o2 P st l with
  |some [u],some r=>some (.val u.t u.x::r)
  |_,_=>none
theorem yo(h:am cx m st T w):∀{l:List ResultVar} {ar:List ak},o2 cx.P st l=some ar->
  ∃vs,(l.mapM (jG T)).run cx.P w=.ok vs w/\cA w (ap cx m st.ids) m vs ar
 |[],_,o=>by cases o;exact⟨[],by simp,trivial⟩
 |.tmp t::l,ar,o=>by
  simp only[o2]at o
  split at o
  ·rename_i s r la W
   cases o
   obtain⟨vs,h1,Y⟩:=yo h W
   obtain⟨v,O,U⟩:=h.cI t _ (aX la)
   refine⟨v::vs,?_,U,Y⟩
   have ld:T.getD t undef=v:=by rw[Array.getD_eq_getD_getElem?,O];rfl
   have Z:(jG T (.tmp t)).run cx.P w=.ok v w:=by show Sem.run cx.P (pure (T.getD t undef)) w=_;rw[ld,Sem.run_pure]
   rw[List.mapM_cons,Sem.run_bind,Z]
   simp only[Result.andThen_ok,Sem.run_bind,h1,Sem.run_pure]
  ·rename_i r la W
   cases o
   obtain⟨vs,h1,Y⟩:=yo h W
   refine⟨T.getD t undef::vs,?_,trivial,Y⟩
   have Z:(jG T (.tmp t)).run cx.P w=.ok (T.getD t undef) w:=rfl
   rw[List.mapM_cons,Sem.run_bind,Z]
   simp only[Result.andThen_ok,Sem.run_bind,h1,Sem.run_pure]
  ·cases o
 |.cell a t::l,ar,o=>by
  simp only[o2]at o
  split at o
  ·rename_i u r lf W
   cases o
   obtain⟨vs,h1,Y⟩:=yo h W
   obtain⟨us,O,U⟩:=tW h lf
   match us,U with
   |[v],⟨Z,_⟩=>
    refine⟨v::vs,?_,Z,Y⟩
    have lg:(jG T (.cell a t)).run cx.P w=.ok v w:=by
     rw[List.mapM_cons,Sem.run_bind]at O
     cases lc:(jG T (.cell a t)).run cx.P w with
     |ok v' lh=>
      rw[lc]at O
      simp only[Result.andThen_ok,List.mapM_nil,Sem.run_bind,Sem.run_pure]at O
      cases O
      rfl
     |_=>rw[lc]at O;cases O
    rw[List.mapM_cons,Sem.run_bind,lg]
    simp only[Result.andThen_ok,Sem.run_bind,h1,Sem.run_pure]
   |[],U=>exact U.elim
   |_::_::_,⟨_,U⟩=>exact U.elim
  ·cases o
def EB(P:Program)(fn:Func)(cx:bB)(o:ae)(ar:List ak):cX:=
 bodyPost P fn fun e w'=>∃v aA O,e=.returned v/\am cx aA o O w'/\wa w' (ap cx aA o.ids) aA v ar
theorem fT{P:Program}(Z:cx.P=P){fn:Func}{ar:List ak}{o:ae}{e:Exit}(la lc:List Nat)(ld:e=.ret\/e=.normal)(lf:o2 P st fn.results.toList=some ar)(O:st.norm [] la lc=some o):
  N cx (EB cx.P fn cx o ar) e st:=by
 subst Z
 rintro T w ⟨m,Y⟩
 obtain⟨vs,h1,lg⟩:=yo Y lf
 have lh:=Ih h1
 have li:=Y.norm O
 have lj:∀i,i∈o.ids->i∈st.ids:=by
  unfold ae.norm at O
  split at O
  ·rename_i ab ad lq lr lk ll _
   cases O
   intro i U
   rcases List.mem_append.1 U with U|U
   ·obtain⟨p,W,rfl⟩:=List.mem_map.1 U;exact List.mem_append.2 (.inl (List.mem_map.2 ⟨p,rh lk p W,rfl⟩))
   ·obtain⟨p,W,rfl⟩:=List.mem_map.1 U;exact List.mem_append.2 (.inr (List.mem_map.2 ⟨p,rh ll p W,rfl⟩))
  ·cases O
 have lm:cA w (ap cx m o.ids) m vs ar:=oI (fun _ _ _=>rfl) (fun b _ ln=>mz lj ln) lg
 have lo:wa w (ap cx m o.ids) m (if h:vs.toArray.size=1 then vs.toArray[0]else .tuple vs.toArray) ar:=by
  match vs,ar,lm with
  |[],[],_=>trivial
  |[v],[u],⟨h,_⟩=>exact h
  |v1::v2::vs,lt::lu::us,h=>
   have lp:¬(v1::v2::vs).toArray.size=1:=by simp
   rw[dif_neg lp]
   exact⟨_,rfl,h⟩
  |[],_::_,h=>exact h.elim
  |_::_,[],h=>exact h.elim
  |[_],_::_::_,⟨_,h⟩=>exact h.elim
  |_::_::_,[_],⟨_,h⟩=>exact h.elim
 rcases ld with rfl|rfl<;>exact⟨rfl,_,lh,_,m,_,rfl,li,lo⟩
theorem oL{P:Program}{G:World->Prop}{f:FuncId}{fn:Func}{c:Code}{α β:Type}{F:cJ α β}(o:P.funcs[f]? =some fn)(U:(fn.name== "runtime.NumGoroutine")=false)(O:fn.body=some c)(Y:fn.ntmps=F.n)
  (body:∀cx:bB,cx.P=P->cx.n=F.n->(∀w,Frame cx.bC w cx.X->G w)->∀x y,F.rel x y->W cx (EB cx.P fn cx (F.be x y) (F.ar x y)) c (F.S x)):cF P G f F where
 enters:=enters_of o U O
 calls:=fun cx Z la lc x y ld vs w _ h=>by
  subst Z
  refine calls_of_wp o O ?_
  rw[Y]
  exact body cx rfl la lc x y ld _ _ h
theorem aY.weaken{P:Program}{G o:World->Prop}{f:Nat}{F:jT}(O:∀w,o w->G w)(h:aY P G f F):aY P o f F:=
 ⟨h.enters,h.shape,fun w M vs U ar W=>h.calls w M vs U ar (O w W)⟩
theorem cF.weaken{α β:Type}{P:Program}{G o:World->Prop}{f:Nat}{F:cJ α β}(O:∀w,o w->G w)(h:cF P G f F):cF P o f F:=
 ⟨h.enters,fun cx U W Y=>h.calls cx U W fun w Z=>O w (Y w Z)⟩
end Go.Ev
namespace Go.Ev
open Go Go.RowKit
variable [b6]
section
variable {P:Program} {ops:Array Oper} {md:Region.Mode} {C:World->Prop}
def sB(P:Program)(md:Region.Mode)(ops:Array Oper)(C:World->Prop)(n:Nat)(L:Array Bool->Act->Prop):Nat->Array Bool->Act->Prop
 |0,done,a=>L done a
 |f+1,done,a=>Region.ready md ops done≠[]/\∀i,i∈Region.ready md ops done->i<n/\qOp P ops C i (sB P md ops C n L f (done.setIfInBounds i true)) a
theorem VQ{n g:Nat}{L:Array Bool->Act->Prop}{Q':Exit->Act->World->Prop}(O:∀done a w,C w->L done a->wpAny P md ops Q' g done a w):
  ∀(f:Nat) (done:Array Bool) (a:Act) (w:World),C w->sB P md ops C n L f done a->wpAny P md ops Q' (f+g) done a w:=by
 intro f
 induction f with
 |zero=>intro done a w o h;rw[Nat.zero_add];exact O _ _ _ o h
 |succ f U=>
  intro done a w o h
  rw[Nat.succ_add]
  exact⟨fun W=>absurd W h.1,fun i Y=>wpOp_of_qOp o (fun Z w' la h'=>U _ Z w' la h') (h.2 i Y).2⟩
theorem R8{n i:Nat}{aa:Oper}{v:Value}{L:Array Bool->Act->Prop}(ld:ops[i]? =some aa)(lh:∀(j:Nat) (aa:Oper) W b,ops[j]? =some aa->aa.op≠.select W b)
  (li:Region.sinkB md ops n=true)(lj:Region.chainB md ops n=true)(lk:n<ops.size)(ll:i<n)(lp:∀done a,L done a->∀j,j∈Region.ready md ops done->n<=j):
  ∀(f:Nat) (done:Array Bool) (a:Act),HeadInv md ops n done->
   (∀j U,ops[j]? =some U->j≠i->done.getD j true=false->(∀e∈U.after,Region.binds md e=true->e.on≠i)->aa.apart ops U=true)->
   i∈Region.ready md ops done->YieldsIn P ops C aa v a->sB P md ops C n L f (done.setIfInBounds i true) (a.put aa.dst v)->sB P md ops C n L (f+1) done a:=by
 intro f
 induction f with
 |zero=>
  intro done a inv _ o la Y
  have lc:=(mem_ready.1 o).1
  refine⟨fun lf=>(by rw[lf]at o;cases o),fun j O=>?_⟩
  have Z:j<n:=Nat.lt_of_not_le fun h=>tail_waits li lj lk inv _ i rfl ll lc j h O
  refine⟨Z,?_⟩
  by_cases e:j=i
  ·subst e;exact la.qOp ld Y
  ·exact absurd (lp _ _ Y j (ready_mono O e)) (Nat.not_le_of_lt Z)
 |succ f lq=>
  intro done a inv lm o la Y
  have lc:=(mem_ready.1 o).1
  refine⟨fun lf=>(by rw[lf]at o;cases o),fun j O=>?_⟩
  have Z:j<n:=Nat.lt_of_not_le fun h=>tail_waits li lj lk inv _ i rfl ll lc j h O
  refine⟨Z,?_⟩
  by_cases e:j=i
  ·subst e;exact la.qOp ld Y
  obtain⟨ln,U,lg,lr⟩:=mem_ready.1 O
  have lt:=lm j U lg e ln fun d af lu az=>by
   have h1:=lr d af lu
   rw[az,getD_both lc]at h1
   cases h1
  refine qOp_mono (fun lv lo=>lq (done.setIfInBounds j true) lv (inv.set O Z) (fun k ok hk lw lx ly=>lm k ok hk lw ?_ ly) (ready_mono o (Ne.symm e)) lo.1 ?_)
   (qOp_put lg lt (fun W b=>lh i aa W b ld) (fun W b=>lh j U W b lg) la (Y.2 j (ready_mono O e)).2)
  ·by_cases q:j=k
   ·subst q;exact ln
   ·rwa [getD_set_ne true q]at lx
  ·rw[Array.setIfInBounds_comm _ _ e];exact lo.2
theorem TC{n g:Nat}{O:Act->Prop}(lc:Region.noSelect ops=true)(ld:Region.sinkB md ops n=true)(lf:Region.chainB md ops n=true)(lg:n<ops.size):
  ∀(l:List Oper) (k:Nat) (done:Array Bool) (a:Act),(∀j,j<l.length->l[j]? =ops[k+j]?)->k+l.length=n->HeadInv md ops n done->Region.lexHead md ops g l.length k done=true->
   wpQuiet P ops C O l a->sB P md ops C n (fun d W=>Region.seqB md ops g n d=true/\O W) l.length done a:=by
 intro l
 induction l with
 |nil=>
  intro k done a _ hk _ U h
  obtain rfl:k=n:=hk
  exact⟨U,h⟩
 |cons aa l lh=>
  intro k done a Y hk inv U h
  have o:ops[k]? =some aa:=(Y 0 (Nat.succ_pos _)).symm
  obtain⟨li,lj⟩:=Bool.and_eq_true_iff.1 U
  obtain⟨lk,ll⟩:=Bool.and_eq_true_iff.1 li
  have Z:k<n:=by rw[<-hk];simp
  have la:k∈Region.ready md ops done:=by simpa using lk
  obtain⟨v,lm,ln⟩:=yieldsIn_of_qOp (K:=wpQuiet P ops C O l) o (by unfold qOp;rw[o];exact h)
  refine R8 o (Region.noSelect_spec lc) ld lf lg Z (fun d W lo=>seqB_ready lo.1) l.length done a inv (Region.free_spec o ll) la lm ?_
  refine lh (k+1) _ _ (fun j lp=>?_) (by rw[<-hk];simp only[List.length_cons];omega) (inv.set la Z) lj ln
  have:=Y (j+1) (Nat.succ_lt_succ lp)
  rw[Nat.add_assoc,Nat.add_comm 1 j]
  exact this
theorem MZ{id:Nat}{Q:Exit->Act->World->Prop}{a:Act}{w:World}{l:List Oper}(n:Nat)(lc:P.follows .mixedOrders=true)(U:Region.lexTailB .any l.toArray n=true)(ld:C {w with drawn:=w.drawn+1})
  (h:wpQuiet P l.toArray C (fun O=>∀w',C w'->wpList P l.toArray Q (l.drop n) O w') (l.take n) a):(Code.region id l.toArray true).wp P Q a w:=by
 simp only[Region.lexTailB,Bool.and_eq_true,decide_eq_true_eq]at U
 obtain⟨⟨⟨⟨lf,W⟩,lg⟩,lh⟩,li⟩:=U
 have lj:n<l.length:=by simpa using W
 have o:(l.take n).length=n:=List.length_take_of_le (Nat.le_of_lt lj)
 have lk:HeadInv .any l.toArray n (Array.replicate l.toArray.size false):=
  ⟨by simp,fun j ln _ Y=>(by rw[getD_replicate_false]at Y;cases Y),fun t _ o=>getD_in (by simpa using o) (getD_replicate_false _ _)⟩
 have ll:=TC (C:=C) (md:=.any) (g:=l.toArray.size-n) lf lg lh W (l.take n) 0 _ a
  (fun j Z=>by rw[o]at Z;simp[Z]) (by rw[o,Nat.zero_add]) lk (by rw[o];exact li) h
 have af:(l.drop n).length=l.toArray.size-n:=by simp
 have R:=VQ (Q':=Q) (g:=l.toArray.size-n) (fun done O w' lm la=>by
  have:=wpAny_of_seq (md:=.any) (Q':=Q) (l.drop n) n done O w' (fun j=>by simp[List.getElem?_drop]) (by rw[af];exact la.1) (la.2 w' lm)
  rwa [af]at this) _ _ _ _ ld ll
 rw[o,show n+(l.toArray.size-n)=l.toArray.size by omega]at R
 exact wp_region_any lc R
end
variable {cx:bB} {st st':ae} {Q:cX} {E:Env}
variable {ops:Array Oper} {l:List Oper}
theorem UH{K:World->Act->Prop}(h:rM cx K st):oY cx ops K [] st:=fun T w o=>h T w o
theorem PV{α:Type}{o:World->Act->Prop}(F:α->Prop)(S:α->ae)(n:Nat)(U:∀a,F a->oY cx ops o (l.drop n) (S a))
  (W:∀K,(∀a,F a->rM cx K (S a))->oY cx ops K (l.take n) st):oY cx ops o l st:=by
 intro T w O
 have:=nx (P:=cx.P) (ops:=ops) (l1:=l.take n) (l2:=l.drop n)
  (W (fun w=>wpQuiet cx.P ops (Ext w) (o w) (l.drop n)) (fun a Y T w O=>U a Y T w O) T w O)
 rwa [List.take_append_drop]at this
end Go.Ev
namespace Go.Ev
open Go Go.RowKit
variable [b6]
variable {cx:bB} {m:Nat->Value} {st st':ae} {T:Array Value} {w w':World} {E:Env} {Q:cX} {ops:Array Oper} {l:List Oper}
theorem Hr:∀(L:List MapEntry) (j:Nat) (e:MapEntry),(L.map (·.born)).Nodup->L[j]? =some e->L.filter (fun x=>!(x.born==e.born))=L.eraseIdx j
 |[],j,e,_,h=>by simp at h
 |x::L,0,e,o,h=>by
  simp at h
  subst h
  rw[List.map_cons,List.nodup_cons]at o
  rw[List.filter_cons,beq_self_eq_true]
  simp only[Bool.not_true,Bool.false_eq_true,if_false,List.eraseIdx_zero,List.tail_cons]
  refine List.filter_eq_self.2 fun y U=>?_
  have:¬y.born=x.born:=fun O=>o.1 (List.mem_map.2 ⟨y,U,O⟩)
  simp[this]
 |x::L,j+1,e,o,h=>by
  rw[List.map_cons,List.nodup_cons]at o
  have h':L[j]? =some e:=by simpa using h
  have W:¬x.born=e.born:=fun O=>o.1 (List.mem_map.2 ⟨e,List.mem_of_getElem? h',O.symm⟩)
  rw[List.filter_cons,if_pos (by simp[W]),Hr L j e o.2 h',List.eraseIdx_cons_succ]
theorem LU{α β:Type}{o:Value->α->Prop}{O:Value->β->Prop}:∀{es:List MapEntry} {ps:List (α×β)} (j:Nat),dX o O es ps->dX o O (es.eraseIdx j) (ps.eraseIdx j)
 |[],[],_,_=>trivial
 |[],_::_,_,h=>h.elim
 |_::_,[],_,h=>h.elim
 |_::_,_::_,0,⟨_,_,h⟩=>h
 |_::_,_::_,j+1,⟨h1,U,W⟩=>⟨h1,U,LU j W⟩
theorem Ml{α β:Type}{o:Value->α->Prop}{O:Value->β->Prop}:∀{es:List MapEntry} {ps:List (α×β)} {j:Nat} {e:MapEntry},dX o O es ps->es[j]? =some e->∃p,ps[j]? =some p/\o e.key p.1/\O e.val p.2
 |[],_,_,_,_,h=>by simp at h
 |_::_,[],_,_,h,_=>h.elim
 |e::_,p::_,0,U,⟨h1,W,_⟩,h=>by simp at h;subst h;exact⟨p,rfl,h1,W⟩
 |_::_,_::_,j+1,U,⟨_,_,Y⟩,h=>by
  obtain⟨p,a,b,c⟩:=Ml Y (j:=j) (by simpa using h)
  exact⟨p,by simpa using a,b,c⟩
theorem Qu{P:Program}(ty:TypeId){r U clock:Nat}{seen:Array Nat}{es:Array MapEntry}(Z:w.heap[r]? =some (.mapIter (some U) clock seen clock))(lg:w.heap[U]? =some (.map es clock))(la:∀x∈es.toList,x.born<clock)
  (W:es.toList.filter (fun e=>!seen.contains e.born)≠[]):
  ∃(j:Nat) (e:MapEntry) (o:World),(es.toList.filter (fun e=>!seen.contains e.born))[j]? =some e/\(o=w\/o=w.drew)/\
   (Instr.next (.pointer (some ⟨r,0,none⟩)) false ty).run P w=.ok (.tuple #[.bool true,e.key,e.val]) {o with heap:=o.heap.setIfInBounds r (.mapIter (some U) clock (seen.push e.born) clock)}:=by
 simp only[Instr.next,getObj,Sem.run_bind,Sem.run,Z,lg,Result.andThen,next_test_false seen es clock clock la (Nat.le_refl _),Bool.false_eq_true,if_false]
 have Y:∀x∈(Array.filter (fun e=>!seen.contains e.born) es).toList,x.born<clock:=fun x O=>la x (by simp at O⊢;exact O.1)
 rw[<-Array.toList_filter]at W⊢
 generalize Array.filter (fun e=>!seen.contains e.born) es=L at Y W⊢
 have lh:L.filter (fun x=>decide (x.born<clock))=L:=Array.filter_eq_self.2 (fun x O=>by simpa using Y x (by simpa using O))
 have li:L.filter (fun x=>decide (x.born≥clock))=#[]:=by
  rw[Array.filter_eq_empty_iff]
  intro x O
  have:=Y x (by simpa using O)
  simp
  omega
 simp only[lh,li,Array.append_empty]
 have lj:L.size≠0:=fun h=>W (by rw[Array.eq_empty_of_size_eq_zero h])
 have lk:L.isEmpty=false:=by simp[Array.isEmpty,lj]
 simp only[lk,Bool.false_eq_true,if_false,Array.empty_append,Array.size_map]
 have ll:∃(j:Nat) (o:World),j<L.size/\(o=w\/o=w.drew)/\(choose (Question.mapNext L.size)).run P w=.ok j o:=by
  by_cases lc:L.size<=1
  ·exact⟨0,w,by omega,.inl rfl,by simp[choose,Sem.run,Question.forced,lc]⟩
  ·exact⟨_,w.drew,Nat.mod_lt _ (by omega),.inr rfl,by
    simp only[choose,Sem.run,Question.forced,decide_eq_true_eq,lc,if_false,Question.cut]
    rfl⟩
 obtain⟨j,o,ld,lf,lm⟩:=ll
 refine⟨j,L[j],o,by simp[ld],lf,?_⟩
 have ln:o.heap[r]? =some (.mapIter (some U) clock seen clock):=by rcases lf with rfl|rfl<;>exact Z
 simp only[lm,Array.getElem?_map,Array.getElem?_eq_getElem ld,Option.map_some,Sem.run_bind,setObj,Sem.run,Result.andThen,ln]
 rfl
theorem UV{lj:Nat}(lr:cx.n=lj){aa:Oper}{l:List Oper}{x:Operand}{d b:Nat}{k v:ag}{left last:List (k.el×v.el)}(lt:aa.op=.next x false)(af:aa.dst=some d)(lu:Nat.blt d lj=true)(lv:aa.guard=none)
  (lw:aP st x=some (.iter b))(lx:look st.ad b=some (.cp k v left last))(lc:left≠[])
  (h:∀j p,left[j]? =some p->bK cx ops Q l ((st.db b (.cp k v (left.eraseIdx j) [p])).put d (.dP [⟨.bool,true⟩,⟨k,p.1⟩,⟨v,p.2⟩]))):bK cx ops Q (aa::l) st:=by
 rintro T w ⟨m,Z⟩
 have ld:=aX lx
 obtain⟨g,W,_,ly⟩:=Z.box ld
 have W:m b=.pointer (some ⟨g,0,none⟩):=W
 have lz:Act.eval ⟨T,[]⟩ x=.pointer (some ⟨g,0,none⟩):=by have:Act.eval ⟨T,[]⟩ x=m b:=aW Z lw;rw[this,W]
 rcases ly with ⟨_,h1,_⟩|⟨la,es,clock,seen,h1,lf,lk,ll,lm,lg,_⟩
 ·exact absurd h1 lc
 have lA:es.toList.filter (fun e=>!seen.contains e.born)≠[]:=fun lh=>lc (List.eq_nil_of_length_eq_zero (by rw[<-ue lg,lh];rfl))
 obtain⟨j,e,O,li,a2,a3⟩:=Qu (P:=cx.P) aa.type h1 lf ll lA
 obtain⟨p,lB,ln,lo⟩:=Ml lg li
 have lC:=gD h1
 have o:Same w O/\O.heap=w.heap:=by
  rcases a2 with rfl|rfl
  ·exact⟨⟨rfl,rfl,rfl,Nat.le_refl _,fun _=>Nat.le_refl _⟩,rfl⟩
  ·exact⟨⟨rfl,rfl,rfl,Nat.le_refl _,fun _=>Nat.le_succ _⟩,rfl⟩
 have lp:Touch m w b {O with heap:=O.heap.setIfInBounds g (.mapIter (some la) clock (seen.push e.born) clock)}:=
  ⟨⟨o.1.os,o.1.tape,o.1.output,by rw[Array.size_setIfInBounds];exact o.1.size,o.1.drawn⟩,fun k _ lc=>by
   show(O.heap.setIfInBounds g _)[k]? =_
   rw[Array.getElem?_setIfInBounds_ne,o.2]
   intro e
   exact lc (by rw[W,e];rfl)⟩
 have lq:b∈st.ids:=List.mem_append.2 (.inl (List.mem_map.2 ⟨_,ld,rfl⟩))
 obtain⟨Y,U⟩:=am.ic (cx:=cx) lq lp (ids:=(st.db b (.cp k v (left.eraseIdx j) [p])).ids) (kM ld Z.keys _).1
 have lD:la≠g:=fun e=>lk (.inr ⟨b,lq,by rw[W,e];rfl⟩)
 have lE:=Z.db ld lp (g:=g) (c:=.cp k v (left.eraseIdx j) [p]) W (by
  refine .inr ⟨la,es,clock,seen.push e.born,?_,?_,fun lh=>lk (U la (gD lf) lh),ll,lm,?_,.inr ⟨e,p,rfl,?_,by simp,?_,?_⟩⟩
  ·show(O.heap.setIfInBounds g _)[g]? =_
   rw[Array.getElem?_setIfInBounds_self_of_lt (by rw[o.2];exact lC)]
  ·show(O.heap.setIfInBounds g _)[la]? =_
   rw[Array.getElem?_setIfInBounds_ne (Ne.symm lD),o.2]
   exact lf
  ·have lF:es.toList.filter (fun x=>!(seen.push e.born).contains x.born)=(es.toList.filter (fun x=>!seen.contains x.born)).eraseIdx j:=by
    have lG:((es.toList.filter (fun x=>!seen.contains x.born)).map (·.born)).Nodup:=lm.sublist (List.Sublist.map _ List.filter_sublist)
    rw[<-Hr _ j e lG li,List.filter_filter]
    congr 1
    funext x
    rw[Array.contains_push,Bool.not_or,Bool.and_comm]
   rw[lF]
   exact gH (fun _ _ h=>dh Y U h) (fun _ _ h=>dh Y U h) (LU j lg)
  ·exact(List.mem_filter.1 (List.mem_of_getElem? li)).1
  ·exact dh Y U ln
  ·exact dh Y U lo)
 have lH:=lE.put (d:=d) (by rw[lr];exact cG lu) (v:=.tuple #[.bool true,e.key,e.val]) (s:=.dP [⟨.bool,true⟩,⟨k,p.1⟩,⟨v,p.2⟩])
  ⟨[.bool true,e.key,e.val],rfl,dH.2 rfl,dh Y U ln,dh Y U lo,trivial⟩
 have lI:=h j p lB _ _ ⟨m,lH⟩
 refine wpList_step fun K lJ=>?_
 have lK:eK ops st aa=some true:=by unfold eK;rw[lv]
 rw[iT ⟨m,Z⟩ lK]
 simp only[if_true]
 refine gT (ct (s:=Instr.next (.pointer (some ⟨g,0,none⟩)) false aa.type) (by simp only[execOp,lt,lz]) a3) ?_
 refine lJ _ _ ?_
 rw[af]
 exact lI
end Go.Ev
namespace Go.Ev
open Go Go.RowKit
variable [b6]
inductive jv:List Prop->Prop
 |n:jv []
 |c {p:Prop} {l:List Prop} (h:p) (t:jv l):jv (p::l)
theorem jv.all{l:List Prop}(h:jv l):bJ l:=by
 induction h with
 |n=>trivial
 |c h _ o=>exact⟨h,o⟩
def cR{α:Type}(l:List (Nat×α)):List Nat:=l.map (·.1)
def tl(r:Option (ae×List aj×List Prop)):ae:=match r with
 |some (s,_)=>s
 |none=>⟨[],[],[]⟩
theorem yi{r:Option (ae×List aj×List Prop)}{ob:List Prop}(h:r.map Prod.snd=some ([],ob)):r=some (tl r,[],ob):=by
 match r,h with
 |some (s,aa,p),h=>cases h;rfl
def xh(r:Option ae):ae:=r.getD ⟨[],[],[]⟩
theorem DH{r:Option ae}(h:r.isSome=true):r=some (xh r):=by
 match r,h with
 |some s,_=>rfl
def gX(st:ae)(d:Nat)(b:Bool):ae:={st with ab:=st.ab.map fun p=>bif Nat.beq p.1 d then(p.1,.val .bool b)else p}
variable {cx:bB} {st st':ae} {Q:cX} {E:Env} {ops:Array Oper} {l:List Oper} {K:World->Act->Prop}
theorem bl(U:br E cx)(o O ar:List Nat){orc:List aj}{ob:List Prop}(W:(mH E ops l st orc o O ar).map Prod.snd=some ([],ob))(Y:jv ob)(h:N cx Q .normal (tl (mH E ops l st orc o O ar))):bK cx ops Q l st:=
 F3 U o O ar (yi W) Y.all h
theorem bF(o:br E cx){orc:List aj}{ob:List Prop}(O:mH E ops l st orc (cR st'.ab) (cR st'.ad) (cR st'.rw)=some (st',[],ob))(U:jv ob)(h:N cx Q .normal st'):bK cx ops Q l st:=
 F3 o _ _ _ O U.all h
theorem fE(U:br E cx)(n:Nat)(o O ar:List Nat){orc:List aj}{ob:List Prop}(W:(mH E ops (l.take n) st orc o O ar).map Prod.snd=some ([],ob))(Y:jv ob)(h:bK cx ops Q (l.drop n) (tl (mH E ops (l.take n) st orc o O ar))):bK cx ops Q l st:=
 Sc U n o O ar (yi W) Y.all h
theorem H3(U:br E cx)(o O ar:List Nat){orc:List aj}{ob:List Prop}(W:(sg E ops l st orc o O ar).map Prod.snd=some ([],ob))(Y:jv ob)(h:N cx Q .normal (tl (sg E ops l st orc o O ar))):Cx cx ops Q l st:=
 S3 U o O ar (yi W) Y.all h
theorem jt(d:Nat){b:Bool}(o:gX st d b=st)(O:b=true->bK cx ops Q l (gX st d true))(U:b=false->bK cx ops Q l (gX st d false)):bK cx ops Q l st:=by
 rw[<-o]
 exact NK (gX st d) O U
theorem qA(W:br E cx){α β:Type}{F:cJ α β}{f:Nat}(Y:cF E.P E.G f F)(x:α)(y:β)(Z:F.rel x y){aa:Oper}{ρ ρ':List (Nat×Nat)}{n:Nat}(la:F.n=n)(o O U:List Nat)
  (lc:eK ops st aa=some true)(ld:pS E st aa n f ρ=some (F.S x))(lf:(w5 st (F.be x y) aa n E.n ρ ρ' (F.ar x y) o O U).isSome=true)(h:bK cx ops Q l (xh (w5 st (F.be x y) aa n E.n ρ ρ' (F.ar x y) o O U))):bK cx ops Q (aa::l) st:=
 yQ W Y x y Z la o O U lc ld (DH lf) h
theorem kO{e:Exit}(o:st.norm (cR st'.ab) (cR st'.ad) (cR st'.rw)=some st')(h:N cx Q e st'):N cx Q e st:=h.norm o
theorem Cw{e:Exit}(o O ar:List Nat)(U:(st.norm o O ar).isSome=true)(h:N cx Q e (xh (st.norm o O ar))):N cx Q e st:=h.norm (DH U)
theorem MB{e:Exit}(o O ar:List Nat)(ρ:List (Nat×Nat))(U:((st.norm o O ar).bind (·.cd ρ))=some st')(h:N cx Q e st'):N cx Q e st:=by
 obtain⟨s,h1,W⟩:=Option.bind_eq_some_iff.1 U
 exact(N.cd ρ W h).norm h1
theorem hU{e:Exit}(o O ar:List Nat)(ρ:List (Nat×Nat))(U:((st.norm o O ar).bind (·.cd ρ)).isSome=true)(h:N cx Q e (xh ((st.norm o O ar).bind (·.cd ρ)))):N cx Q e st:=MB o O ar ρ (DH U) h
end Go.Ev
