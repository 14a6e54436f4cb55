/- Owned slices whose elements hold owned slices: what is read and written at an element. -/
import Derived.Test.YteopobecmacgdaaGreatDoorMM3
import Derived.Lib.Repeat
import Derived.Shelf.Unicode.DecodeAny
import Derived.Lib.ValidU
import Derived.Test.YteopobecmacgdaaGreatDoorMM1
import Derived.Lib.LaidU8
set_option linter.unusedSectionVars false
set_option linter.unusedVariables false
set_option linter.unusedSimpArgs false
namespace Go.Ev
open Go Go.RowKit
variable [b8]
variable {cx:bI} {m aI:Nat->Value} {st st':af} {T:Array Value} {w w':World}
variable [ah cx]
def gb{α:Type}(l:List α)(off:Nat)(o:List α):List α:=l.take off++o++l.drop (off+o.length)
theorem Dd{α:Type}{l o:List α}{off:Nat}(h:off+o.length<=l.length):(gb l off o).length=l.length:=by
 unfold gb
 simp only[List.length_append,List.length_take,List.length_drop]
 omega
theorem sd{α:Type}{l q:List α}{off p:Nat}(h:off+q.length<=l.length)(o:p<off\/off+q.length<=p):(gb l off q)[p]? =l[p]? :=by
 unfold gb
 rcases o with o|o
 ·rw[List.append_assoc,List.getElem?_append_left (by rw[List.length_take];omega),List.getElem?_take,if_pos o]
 ·rw[List.getElem?_append_right (by simp only[List.length_append,List.length_take];omega),List.getElem?_drop]
  congr 1
  simp only[List.length_append,List.length_take]
  omega
theorem UL{α:Type}(a b c o:List α)(h:o.length=b.length):gb (a++b++c) a.length o=a++o++c:=by
 unfold gb
 rw[List.append_assoc a b c,List.take_left,h,<-List.append_assoc,<-List.length_append,List.drop_left]
theorem Xz{α:Type}{l o:List α}{off k:Nat}{a:α}(h:off+o.length<=l.length)(R:k<off\/off+o.length<=k):gb (l.set k a) off o=(gb l off o).set k a:=by
 refine List.ext_getElem? fun p=>?_
 rcases Nat.lt_or_ge p off with q|q
 ·rw[sd (by simpa using h) (.inl q),List.getElem?_set,List.getElem?_set,sd h (.inl q),Dd h]
 ·rcases Nat.lt_or_ge p (off+o.length)with O|O
  ·rw[List.getElem?_set_ne (by omega)]
   unfold gb
   rw[List.getElem?_append_left (by simp only[List.length_append,List.length_take,List.length_set];omega),List.getElem?_append_right (by simp only[List.length_take,List.length_set];omega),
    List.getElem?_append_left (by simp only[List.length_append,List.length_take];omega),List.getElem?_append_right (by simp only[List.length_take];omega)]
   simp only[List.length_take,List.length_set]
  ·rw[sd (by simpa using h) (.inr O),List.getElem?_set,List.getElem?_set,sd h (.inr O),Dd h]
theorem an.mr(h:an cx m st T w){b e i:Nat}{k:ee}{xs:List k.u.el}{O:Option Int}{x:k.u.el}(la:look st.ad b=some (.bu e k xs O))(R:xs[i]? =some x):
  ∃g cap cur us c1 c c2 o v q,m b=.tuple (.slice (some ⟨g,0,none⟩) xs.length cap::us).toArray/\w.heap[g]? =some (.cells cur e (0,0))/\xs.length<=cap/\cap<=maxLen/\cur.size=cap*k.u.cells/\
   cur.toList=c1++c++(c2++cur.toList.drop (xs.length*k.u.cells))/\c1.length=i*k.u.cells/\c.length=k.u.cells/\(c1++c++c2).length=xs.length*k.u.cells/\us=o++v::q/\o.length=i/\us.length=xs.length/\
   mU w (av cx m st.ids) k (iV O i) c v x/\(g::us.filterMap aY).Nodup/\
   ∀{w':World} {M':Nat->Prop} {h':Option Int} {x':k.u.el} {c':List Value} {v':Value},(∀b,b<w.heap.size->¬av cx m st.ids b->w'.heap[b]? =w.heap[b]?)->(∀b,b<w.heap.size->M' b->av cx m st.ids b)->(∀j,j≠i->(iV O j↔iV h' j))->
    (∀u,u∈o\/u∈q->∀b,aY u=some b->w'.heap[b]? =w.heap[b]?)->c'.length=k.u.cells->mU w' M' k (iV h' i) c' v' x'->fF w' M' k h' 0 (xs.set i x') (c1++c'++c2) (o++v'::q):=by
 obtain⟨ai,us,cells,ae,U,W,e4⟩:=h.bu la
 have lh:i<xs.length:=(List.getElem?_eq_some_iff.1 R).1
 obtain⟨g,cap,cur,lb,lc,ld,le,lf,lg⟩:=vN U (by omega)
 obtain⟨c1,c,c2,o,v,q,X,a2,a3,a4,a5,Y,Z⟩:=LD W R
 rw[Nat.zero_add]at Y Z
 subst lb
 refine⟨g,cap,cur,us,c1,c,c2,o,v,q,ae,lc,ld,le,lf,?_,a2,a3,by rw[<-X];exact U.1,a4,a5,(EC W).1,Y,by simpa[aY]using e4,Z⟩
 conv=>lhs;rw[<-List.take_append_drop (xs.length*k.u.cells) cur.toList]
 rw[lg,X]
 simp
theorem GG{e o n:Nat}{g cap:Nat}{cur:Array Value}{c1 c c' c2 rest:List Value}(R:w.heap[g]? =some (.cells cur e (0,0)))(U:n<=cap)(W:cap<=maxLen)(X:cur.size=cap*o)(Y:cur.toList=c1++c++(c2++rest))(Z:(c1++c++c2).length=n*o)(q:c'.length=c.length):
  (w.setRow g (c1++c'++(c2++rest)).toArray).ownsRow 0 e o (.slice (some ⟨g,0,none⟩) n cap) n (c1++c'++c2):=by
 have O:(c1++c'++c2).length=n*o:=by rw[<-Z];simp only[List.length_append,q]
 refine⟨O,.inr ⟨g,cap,_,rfl,Nat.zero_le _,setRow_heap _ _ _ _ _ _ R,U,W,?_,?_⟩⟩
 ·rw[List.size_toArray,<-X,<-Array.length_toList,Y];simp only[List.length_append,q]
 ·have:c1++c'++(c2++rest)=(c1++c'++c2)++rest:=by simp
  rw[List.toList_toArray,this,<-O,List.take_left]
theorem wA{q O:List Value}{v:Value}{g:Nat}(h:(g::(q++v::O).filterMap aY).Nodup):(∀b,aY v=some b->b≠g/\∀u,u∈q\/u∈O->aY u≠some b)/\∀u,u∈q\/u∈O->aY u≠some g:=by
 obtain⟨R,o⟩:=List.nodup_cons.1 h
 refine⟨fun b U=>⟨fun e=>R (List.mem_filterMap.2 ⟨v,by simp,by rw[<-e];exact U⟩),fun u hu e=>?_⟩,fun u hu e=>R (List.mem_filterMap.2 ⟨u,by rcases hu with hu|hu<;>simp[hu],e⟩)⟩
 rw[List.filterMap_append,List.filterMap_cons,U]at o
 simp only at o
 rw[List.nodup_append]at o
 rcases hu with hu|hu
 ·exact o.2.2 b (List.mem_filterMap.2 ⟨u,hu,e⟩) b List.mem_cons_self rfl
 ·exact(List.nodup_cons.1 o.2.1).1 (List.mem_filterMap.2 ⟨u,hu,e⟩)
abbrev e1{t:ag}(x:(ag.ab t).el):List t.el:=x
theorem Ni{q O:List Value}{v x:Value}{g:Nat}(h:(g::(q++v::O).filterMap aY).Nodup)(la:∀b,aY x=some b->b≠g/\∀u,u∈q\/u∈O->aY u≠some b):(g::(q++x::O).filterMap aY).Nodup:=by
 obtain⟨lb,lc⟩:=List.nodup_cons.1 h
 have X:((q++O).filterMap aY).Sublist ((q++v::O).filterMap aY):=List.Sublist.filterMap _ (List.Sublist.append (List.Sublist.refl q) (List.sublist_cons_self v O))
 have aC:g∉(q++O).filterMap aY:=fun o=>lb (X.subset o)
 have aA:=lc.sublist X
 rw[List.filterMap_append]at aC aA
 rw[List.filterMap_append,List.filterMap_cons]
 cases ld:aY x with
 |none=>exact List.nodup_cons.2 ⟨aC,aA⟩
 |some b=>
  obtain⟨le,Y⟩:=la b ld
  rw[List.nodup_append]at aA
  refine List.nodup_cons.2 ⟨fun o=>?_,?_⟩
  ·rcases List.mem_append.1 o with o|o
   ·exact aC (List.mem_append.2 (.inl o))
   ·rcases List.mem_cons.1 o with o|o
    ·exact le o.symm
    ·exact aC (List.mem_append.2 (.inr o))
  ·rw[List.nodup_append]
   refine⟨aA.1,List.nodup_cons.2 ⟨fun o=>?_,aA.2.1⟩,fun a Z lf R=>?_⟩
   ·obtain⟨u,U,W⟩:=List.mem_filterMap.1 o
    exact Y u (.inr U) W
   ·rcases List.mem_cons.1 R with rfl|R
    ·rintro rfl
     obtain⟨u,U,W⟩:=List.mem_filterMap.1 Z
     exact Y u (.inl U) W
    ·exact aA.2.2 a Z lf R
def CW(P:Program)(st:af)(t:TypeId)(x:Operand)(orc:List al):Option ew:=
 match aS st x,ty P t with
 |some (.dT b i off q),some o=>match look st.ad b,orc with
  |some (.bu _ k xs none),a::orc'=>match a.as k.u,Nat.beq q k.u.cells with
   |some x,true=>match Nat.beq off k.off&&o.beq (.ab k.t)with
    |true=>some ⟨.sub b i,orc',[aB xs i=some x]⟩
    |false=>match cm k.u x k.off ⟨.ab k.t,[]⟩,Nat.ble (off+o.cells) k.off||Nat.blt k.off off,Nat.beq o.cells 0 with
     |some O,true,false=>match cM k.u O off o with
      |some y=>some ⟨.val o y,orc',[aB xs i=some x]⟩
      |none=>none
     |_,_,_=>none
   |_,_=>none
  |_,_=>none
 |some (.fq b i j off q),some o=>match look st.ad b,orc with
  |some (.bu _ k xs none),a::c::orc'=>match a.as k.u,c.as k.t,Nat.beq q k.t.cells with
   |some x,some z,true=>match cM k.u x k.off (.ab k.t),cM k.t z off o,Nat.beq o.cells 0 with
    |some R,some y,false=>some ⟨.val o y,orc',[aB xs i=some x,aB (e1 R) j=some z]⟩
    |_,_,_=>none
   |_,_,_=>none
  |_,_=>none
 |_,_=>none
theorem kb{α:Type}{xs:List α}{i:Int}{x:α}(h:aB xs i=some x):xs[i.toNat]? =some x:=(jq h).2.2
theorem xD{M:Nat->Prop}{k:ee}{cs:List Value}{v:Value}{x:k.u.el}{n:Nat}(h:mU w M k (iV none n) cs v x):∃(o:List k.t.el) (cells:List Value),cM k.u x k.off (.ab k.t)=some o/\w.ownsRow 0 k.e k.t.cells v o.length cells/\bL (aJ w M k.t) cells o/\cs[k.off]? =some v:=by
 obtain⟨L,v1,X,ae,q,_,_,_,_,O⟩:=h
 obtain⟨rfl,o,cells,R,U,W⟩:=O fun⟨_,h,_⟩=>by cases h
 refine⟨o,cells,R,U,W,?_⟩
 rw[ae,List.getElem?_set_self (List.getElem?_eq_some_iff.1 q).1]
theorem NI(h:an cx m st T w){t:TypeId}{x:Operand}{orc:List al}{lg:ew}(o:CW cx.P st t x orc=some lg)(lc:bP lg.ob):
  ∃v,(∀w',Ext w w'->(Instr.loadAt t (Act.eval ⟨T,ah.D cx⟩ x)).run cx.P w'=.ok v w')/\aT w (av cx m st.ids) m v lg.aU:=by
 unfold CW at o
 split at o
 ·rename_i b i off X lh li ld
  obtain⟨g2,lo,lp,lJ,W,a2⟩:=bf h li
  split at o
  case h_2=>cases o
  rename_i e k xs a orc' le
  split at o
  case h_2=>cases o
  rename_i lB _ R
  have R:=Nat.eq_of_beq_eq_true R
  have lq:∀g,g2=g->Instr.loadAt t (Act.eval ⟨T,ah.D cx⟩ x)=loadVar t ⟨g,i.toNat*X+off,none⟩:=by rintro g rfl;rw[a2];rfl
  have key:∀{g cap us},m b=.tuple (.slice (some ⟨g,0,none⟩) xs.length cap::us).toArray->g2=g:=by
   intro g cap us ae
   rw[ae]at W
   simp only[Value.tuple.injEq,Array.mk.injEq,List.cons.injEq,Value.slice.injEq,Option.some.injEq,Addr.mk.injEq]at W
   exact W.1.1.1.symm
  split at o
  ·rename_i aM
   cases o
   simp only[Bool.and_eq_true]at aM
   have lr:=Nat.eq_of_beq_eq_true aM.1
   obtain rfl:=ag.eq_of_beq aM.2
   obtain⟨g,cap,cur,us,c1,c,c2,ls,v,lt,f1,f2,f3,f4,f5,f6,f7,f8,f9,f10,f11,f12,f13,f14,f15⟩:=h.mr le (kb lc.1)
   obtain⟨lC,cells,lj,lu,lv,lk⟩:=xD f13
   obtain⟨v',Y,q⟩:=jJ (P:=cx.P) (c:=[v]) (off:=i.toNat*X+off) ld f2 (fun j u O=>by
    have Z:j=0:=by have:=(List.getElem?_eq_some_iff.1 O).1;simpa using this
    subst Z
    simp at O
    subst O
    rw[<-Array.getElem?_toList,f6,Nat.add_zero,R,lr,<-f7,List.append_assoc,List.getElem?_append_right (by omega),Nat.add_sub_cancel_left,List.getElem?_append_left (by rw[<-lr];have:=(List.getElem?_eq_some_iff.1 lk).1;omega)]
    exact lk) rfl (fun _=>Nat.zero_lt_one)
   simp[ag.agg]at q
   subst q
   exact⟨v,fun la lb=>by rw[lq g (key f1)];exact Y la lb,_,us,f1,by rw[f10,<-f11];simp⟩
  ·split at o
   case h_2=>cases o
   rename_i lK lD lw ll
   split at o
   case h_2=>cases o
   rename_i y lm
   cases o
   obtain⟨g,cap,cur,us,c1,c,c2,ls,v,lt,f1,f2,f3,f4,f5,f6,f7,f8,f9,f10,f11,f12,f13,f14,f15⟩:=h.mr le (kb lc.1)
   obtain⟨L,v1,lL,ae,lM,_,e4,lE,_,_⟩:=f13
   rw[lD]at e4
   cases e4
   obtain⟨d1,d2,d3,lx,cS,eU⟩:=pQ k.u lE lm
   have lF:=cf lh eU
   obtain⟨v',Y,q⟩:=jJ (P:=cx.P) (c:=d2) (off:=i.toNat*X+off) ld f2 (fun j u O=>by
    have Z:=(List.getElem?_eq_some_iff.1 O).1
    have lN:L.length=k.u.cells:=by rw[<-f8,ae,List.length_set]
    have lO:L.length=d1.length+d2.length+d3.length:=by rw[lx];simp[Nat.add_assoc]
    rw[<-Array.getElem?_toList,f6,R,Nat.add_assoc,<-f7,List.append_assoc,List.getElem?_append_right (by omega),Nat.add_sub_cancel_left,List.getElem?_append_left (by omega),ae,List.getElem?_set_ne,lx,<-cS,List.append_assoc,List.getElem?_append_right (by omega),Nat.add_sub_cancel_left,List.getElem?_append_left Z]
    ·exact O
    ·simp only[Bool.or_eq_true]at lw
     rcases lw with ai|ai
     ·have:=Nat.le_of_ble_eq_true ai;omega
     ·have:=cR ai;omega) lF (fun _=>Nat.pos_of_ne_zero (by simpa using beq_false ll))
   refine⟨v',fun la lb=>by rw[lq g (key f1)];exact Y la lb,?_⟩
   show ba _ _ _ _ _
   unfold ba
   split at q
   ·rename_i U;rw[if_pos U];exact⟨d2,q,eU⟩
   ·rename_i U;rw[if_neg U,<-q];exact eU
 ·rename_i b i j off X lh li ld
  obtain⟨lP,lQ,g2,lo,lp,a0,W,a2⟩:=bf h li
  split at o
  case h_2=>cases o
  rename_i e k xs a lR orc' le
  split at o
  case h_2=>cases o
  rename_i lB z _ _ R
  have R:=Nat.eq_of_beq_eq_true R
  split at o
  case h_2=>cases o
  rename_i lC y lG lm ll
  cases o
  obtain⟨g,cap,cur,us,c1,c,c2,ls,v,lt,f1,f2,f3,f4,f5,f6,f7,f8,f9,f10,f11,f12,f13,f14,f15⟩:=h.mr le (kb lc.1)
  obtain⟨lS,cells,lj,lu,lv,lk⟩:=xD f13
  rw[lG]at lj
  cases lj
  have lH:v=.slice (some ⟨g2,0,none⟩) lo lp:=by
   rw[f1]at a0
   simp only[Value.tuple.injEq,Array.mk.injEq,List.cons.injEq]at a0
   rw[<-a0.2,f10,<-f11]at W
   simpa using W
  have ly:=kb lc.2.1
  obtain⟨d1,d2,d3,rfl,cS,eU⟩:=mF lv ly
  obtain⟨ar,lf,lz,rfl,lI,ln⟩:=pQ k.t eU lm
  obtain⟨lT,lU,lV,t1,t2,t3,t4,t5,t6⟩:=vN lu (Nat.lt_of_le_of_lt (Nat.zero_le _) (List.getElem?_eq_some_iff.1 ly).1)
  rw[lH]at t1
  cases t1
  obtain⟨v',Y,q⟩:=jJ (P:=cx.P) (c:=lf) (off:=j.toNat*X+off) ld t2 (fun lA u O=>by
   have Z:=(List.getElem?_eq_some_iff.1 O).1
   have:(d1++(ar++lf++lz)++d3)[d1.length+ar.length+lA]? =some u:=by rw[Nl d1 ar lf lz d3 lA Z];exact O
   rw[<-t6,List.getElem?_take]at this
   split at this
   ·rw[<-Array.getElem?_toList,R,<-cS,<-lI];exact this
   ·cases this) (cf lh ln) (fun _=>Nat.pos_of_ne_zero (by simpa using beq_false ll))
  refine⟨v',fun la lb=>by rw[a2];exact Y la lb,?_⟩
  show ba _ _ _ _ _
  unfold ba
  split at q
  ·rename_i U;rw[if_pos U];exact⟨lf,q,ln⟩
  ·rename_i U;rw[if_neg U,<-q];exact ln
 ·cases o
end Go.Ev
namespace Go.Ev
open Go Go.RowKit
variable [b8]
variable {cx:bI} {m aI:Nat->Value} {st st':af} {T:Array Value} {w w':World}
variable [ah cx]
def ao.rD(b:Nat)(o:List Nat):ao->ao
 |.osl c=>bif Nat.beq c b then .osl c else ao.dK o (.osl c)
 |.dT c i aa s=>bif Nat.beq c b then .dT c i aa s else ao.dK o (.dT c i aa s)
 |s=>s.dK o
theorem LB{M:Nat->Prop}{D:List Nat}{b:Nat}{r:Value}{us q:List Value}(R:m b=.tuple (r::us).toArray)(U:aI b=.tuple (r::q).toArray)(X:∀i,i∉D->aI i=m i){v:Value}{s:ao}(h:aT w M m v s):aT w M aI v (s.rD b D):=by
 have O:∀s:ao,aT w M m v s->aT w M aI v (s.dK D):=fun s Y=>nZ X Y
 cases s with
 |osl c=>
  show aT _ _ _ _ (bif Nat.beq c b then .osl c else ao.dK D (.osl c))
  cases e:Nat.beq c b with
  |false=>exact O _ h
  |true=>
   have e:=Nat.eq_of_beq_eq_true e
   subst e
   obtain⟨Z,o⟩:=h
   refine⟨q,?_⟩
   rw[U]
   rw[R]at o
   simp only[Value.tuple.injEq,Array.mk.injEq,List.cons.injEq]at o
   rw[o.1]
 |dT c i aa W=>
  show aT _ _ _ _ (bif Nat.beq c b then .dT c i aa W else ao.dK D (.dT c i aa W))
  cases e:Nat.beq c b with
  |false=>exact O _ h
  |true=>
   have e:=Nat.eq_of_beq_eq_true e
   subst e
   obtain⟨g,n,cap,Z,o,la⟩:=h
   refine⟨g,n,cap,q,?_,la⟩
   rw[U]
   rw[R]at o
   simp only[Value.tuple.injEq,Array.mk.injEq,List.cons.injEq]at o
   rw[o.1]
 |_=>exact O _ h
def CB(P:Program)(la:Nat)(st:af)(t:TypeId)(x y:Operand)(orc:List al):Option (af×List al×List Prop):=
 match aS st x,ty P t,aS st y with
 |some (.dT b i off W),some O,some (.val R z)=>match look st.ad b,orc with
  |some (.bu e k xs none),a::orc'=>match a.as k.u,Nat.beq W k.u.cells&&R.beq O&&(Nat.ble (off+O.cells) k.off||Nat.blt k.off off)with
   |some o,true=>match cm k.u o off ⟨R,z⟩,cm k.u o k.off ⟨.ab k.t,[]⟩with
    |some q,some Y=>match cm k.u Y off ⟨R,z⟩with
     |some Z=>some (st.dd b (.bu e k (xs.set i.toNat q) none),orc',[aB xs i=some o,cm k.u q k.off ⟨.ab k.t,[]⟩=some Z,cM k.u q k.off (.ab k.t)=cM k.u o k.off (.ab k.t)])
     |none=>none
    |_,_=>none
   |_,_=>none
  |_,_=>none
 |some (.fq b i j off W),some O,some (.val R z)=>match look st.ad b,orc with
  |some (.bu e k xs none),a::c::orc'=>match a.as k.u,c.as k.t,Nat.beq W k.t.cells&&R.beq O with
   |some o,some z0,true=>match cM k.u o k.off (.ab k.t),cm k.t z0 off ⟨R,z⟩with
    |some U,some X=>match cm k.u o k.off ⟨.ab k.t,(e1 U).set j.toNat X⟩with
     |some q=>some (st.dd b (.bu e k (xs.set i.toNat q) none),orc',[aB xs i=some o,aB (e1 U) j=some z0,cm k.u q k.off ⟨.ab k.t,[]⟩=cm k.u o k.off ⟨.ab k.t,[]⟩,cM k.u q k.off (.ab k.t)=some ((e1 U).set j.toNat X)])
     |none=>none
    |_,_=>none
   |_,_,_=>none
  |_,_=>none
 |some (.dT b i off W),some O,some (.row r)=>match look st.ad b,look st.rw r,orc with
  |some (.bu e k xs h),some c,a::orc'=>match a.as k.u,Nat.beq W k.u.cells&&(Nat.beq off k.off&&(O.beq (.ab k.t)&&(Nat.beq c.e k.e&&!(Nat.beq b r)))),al.as ⟨.ab c.t,c.xs⟩ (.ab k.t)with
   |some o,true,some U=>match cm k.u o k.off ⟨.ab k.t,U⟩with
    |some q=>some (st.dL [b,r] [(b,.bu e k (xs.set i.toNat q) none)] [] (ao.rD b [b,r]),orc',[aB xs i=some o,cm k.u q k.off ⟨.ab k.t,[]⟩=cm k.u o k.off ⟨.ab k.t,[]⟩,cM k.u q k.off (.ab k.t)=some U]++(match h with
     |none=>[]
     |some i0=>[i0=i]))
    |none=>none
   |_,_,_=>none
  |_,_,_=>none
 |_,_,_=>none
theorem jZ{r o:Value}{us q:List Value}(h:Value.tuple (r::us).toArray=.tuple (o::q).toArray):r=o/\us=q:=by
 simpa using h
theorem FC{g o n q cap O:Nat}(h:Value.slice (some ⟨g,0,none⟩) n cap=.slice (some ⟨o,0,none⟩) q O):g=o:=by
 simp only[Value.slice.injEq,Option.some.injEq,Addr.mk.injEq]at h
 exact h.1.1
theorem Nj{b g n cap:Nat}{us:List Value}(h:m b=.tuple (.slice (some ⟨g,0,none⟩) n cap::us).toArray):own (m b) g:=by rw[h];exact dr.2 (.inl rfl)
theorem Ry(h:an cx m st T w){b e:Nat}{i:Int}{k:ee}{xs:List k.u.el}{off:Nat}{t:TypeId}{o:ag}{z:o.el}{x y:Operand}{R O ld W:k.u.el}(le:look st.ad b=some (.bu e k xs none))(lo:aS st x=some (.dT b i off k.u.cells))(lp:ty cx.P t=some o)(lq:aS st y=some (.val o z))
  (lR:off+o.cells<=k.off\/k.off<off)(lS:cm k.u R off ⟨o,z⟩=some O)(lr:cm k.u R k.off ⟨.ab k.t,[]⟩=some ld)(ls:cm k.u ld off ⟨o,z⟩=some W)(lt:aB xs i=some R)(lu:cm k.u O k.off ⟨.ab k.t,[]⟩=some W)(lv:cM k.u O k.off (.ab k.t)=cM k.u R k.off (.ab k.t)):
  ∃w',(Instr.storeAt t (Act.eval ⟨T,ah.D cx⟩ x) (Act.eval ⟨T,ah.D cx⟩ y)).run cx.P w=.ok () w'/\an cx m (st.dd b (.bu e k (xs.set i.toNat O) none)) T w':=by
 obtain⟨g2,lT,lU,lV,lw,a2⟩:=bf h lo
 obtain⟨g,cap,cur,us,c1,c,c2,lW,v,lX,f1,f2,f3,f4,f5,f6,f7,f8,f9,f10,f11,f12,f13,f14,f15⟩:=h.mr le (kb lt)
 have lx:g2=g:=FC (jZ (lw.symm.trans f1)).1
 subst lx
 obtain⟨L,v1,lY,ae,lf,ly,e4,lz,lA,lB⟩:=f13
 rw[lr]at e4
 cases e4
 have lC:ba w (av cx m st.ids) (Act.eval ⟨T,ah.D cx⟩ y) o z:=bf h lq
 have U:=j7 lC
 have X:=cf o U
 have lD:(Act.eval ⟨T,ah.D cx⟩ y).cells.size=o.cells:=by rw[<-X];simp
 obtain⟨d1,d2,d3,lg,cS,eU,qp⟩:=qx (v:=⟨o,z⟩) U k.u lz ls
 generalize lh:(Act.eval ⟨T,ah.D cx⟩ y).cells.toList=q at*
 have li:L.length=k.u.cells:=by rw[<-f8,ae,List.length_set]
 have lZ:L.length=d1.length+d2.length+d3.length:=by rw[lg];simp[Nat.add_assoc]
 have lE:gb L off q=d1++q++d3:=by rw[lg,<-cS,UL _ _ _ _ eU.symm]
 have Y:off+q.length<=L.length:=by omega
 have l0:k.off<L.length:=(List.getElem?_eq_some_iff.1 lf).1
 have lj:k.off<off\/off+q.length<=k.off:=by rw[X];omega
 have lF:gb c off q=(gb L off q).set k.off v1:=by rw[ae,Xz Y lj]
 have lk:(gb c off q).length=c.length:=Dd (by rw[f8,<-li];exact Y)
 have lG:i.toNat*k.u.cells+off+o.cells<=cur.size:=by
  rw[<-Array.length_toList,f6];simp only[List.length_append];omega
 have ll:=oa (P:=cx.P) lp f2 lD lG (hZ o (by rw[<-lh]at U;exact U))
 have lH:cur.toList.take (i.toNat*k.u.cells+off)++(Act.eval ⟨T,ah.D cx⟩ y).cells.toList++cur.toList.drop (i.toNat*k.u.cells+off+o.cells)=c1++gb c off q++(c2++cur.toList.drop (xs.length*k.u.cells)):=by
  generalize cur.toList.drop (xs.length*k.u.cells)=rest at f6⊢
  rw[f6,lh,<-f7]
  have eC:c1++c++(c2++rest)=c1++(c++(c2++rest)):=by simp
  have lI:off+o.cells<=c.length:=by rw[f8,<-li];omega
  rw[eC,List.take_append,List.take_of_length_le (by omega),Nat.add_sub_cancel_left,List.take_append_of_le_length (by omega),Nat.add_assoc,List.drop_append,List.drop_eq_nil_of_le (by omega),Nat.add_sub_cancel_left,List.drop_append_of_le_length lI]
  unfold gb
  rw[X]
  simp
 rw[lH]at ll
 refine⟨_,by rw[a2];exact ll,?_⟩
 have Z:=bc le
 have lJ:b∈st.ids:=List.mem_append.2 (.inl (List.mem_map.2 ⟨_,Z,rfl⟩))
 have lm:Touch m w b (w.setRow g2 (c1++gb c off q++(c2++cur.toList.drop (xs.length*k.u.cells))).toArray):=
  ⟨kZ _ _ _,fun l3 l4 lK=>setRow_other _ _ _ _ (fun e=>lK (by rw[e];exact Nj f1))⟩
 obtain⟨la,lb⟩:=an.ia (cx:=cx) lJ lm (ids:=(st.dd b (.bu e k (xs.set i.toNat O) none)).ids) (ko Z h.keys _).1
 rw[f10]at f14
 obtain⟨lL,lM⟩:=wA f14
 refine h.dd Z lm (g:=g2) ⟨_,_,f1⟩ ⟨_,us,c1++gb c off q++c2,f1,?_,?_,?_⟩
 ·rw[List.length_set]
  exact GG f2 f3 f4 f5 f6 f9 lk
 ·rw[f10]
  refine f15 la lb (fun _ _=>Iff.rfl) (fun u lN ln lc=>setRow_other _ _ _ _ (fun e=>lM u lN (by rw[<-e];exact lc))) (by rw[lk,f8]) ?_
  refine⟨gb L off q,v1,W,lF,by rw[sd Y lj];exact lf,ly,lu,?_,lA,fun lO=>?_⟩
  ·rw[lE];exact cI la lb k.u qp
  ·obtain⟨aC,lP,cells,aA,bW,lQ⟩:=lB lO
   exact⟨aC,lP,cells,by rw[lv];exact aA,qH bW fun ln lc=>setRow_other _ _ _ _ (lL ln lc).1,dy (fun _ _=>cI la lb k.t) lQ⟩
 ·rw[f10];simpa[aY]using f14
theorem Ru(h:an cx m st T w){b e:Nat}{i j:Int}{k:ee}{xs:List k.u.el}{off:Nat}{t:TypeId}{q:ag}{z:q.el}{x y:Operand}{la X:k.u.el}{O:List k.t.el}{z0 lb:k.t.el}(ll:look st.ad b=some (.bu e k xs none))(lx:aS st x=some (.fq b i j off k.t.cells))(ly:ty cx.P t=some q)(lz:aS st y=some (.val q z))
  (lA:cM k.u la k.off (.ab k.t)=some O)(lB:cm k.t z0 off ⟨q,z⟩=some lb)(lC:aB xs i=some la)(lD:aB O j=some z0)(lE:cm k.u X k.off ⟨.ab k.t,[]⟩=cm k.u la k.off ⟨.ab k.t,[]⟩)(lF:cM k.u X k.off (.ab k.t)=some (O.set j.toNat lb)):
  ∃w',(Instr.storeAt t (Act.eval ⟨T,ah.D cx⟩ x) (Act.eval ⟨T,ah.D cx⟩ y)).run cx.P w=.ok () w'/\an cx m (st.dd b (.bu e k (xs.set i.toNat X) none)) T w':=by
 obtain⟨ab,ad,g2,lG,lH,a0,lm,a2⟩:=bf h lx
 obtain⟨g,cap,cur,us,c1,c,c2,af,v,ai,f1,f2,f3,f4,f5,f6,f7,f8,f9,f10,f11,f12,f13,f14,f15⟩:=h.mr ll (kb lC)
 obtain⟨L,v1,lI,ae,lJ,lK,e4,lL,lM,lN⟩:=f13
 obtain⟨lO,aj,cells,ln,lo,lP⟩:=lN fun⟨_,h,_⟩=>by cases h
 rw[lA]at ln
 cases ln
 have Y:v=.slice (some ⟨g2,0,none⟩) lG lH:=by
  rw[f1]at a0
  rw[<-(jZ a0).2,f10,<-f11]at lm
  simpa using lm
 obtain⟨_,_,lp⟩:=jq lD
 have lQ:ba w (av cx m st.ids) (Act.eval ⟨T,ah.D cx⟩ y) q z:=bf h lz
 have lc:=j7 lQ
 have ld:=cf q lc
 have lR:(Act.eval ⟨T,ah.D cx⟩ y).cells.size=q.cells:=by rw[<-ld];simp
 obtain⟨lS,lT,U,t1,t2,t3,t4,t5,t6⟩:=vN lo (Nat.lt_of_le_of_lt (Nat.zero_le _) (List.getElem?_eq_some_iff.1 lp).1)
 have lU:g2=lS:=by rw[Y]at t1;exact FC t1
 subst lU
 obtain⟨d1,d2,d3,rfl,cS,eU,lV⟩:=sk lP lp
 obtain⟨ar,R,o,rfl,lW,le,lX⟩:=qx (v:=⟨q,z⟩) lc k.t eU lB
 obtain⟨rest,Z⟩:∃rest,U.toList=(d1++(ar++R++o)++d3)++rest:=⟨U.toList.drop (O.length*k.t.cells),by rw[<-t6,List.take_append_drop]⟩
 have lq:(d1++(ar++R++o)++d3).length=O.length*k.t.cells:=lo.1
 have lf:j.toNat*k.t.cells+off=(d1++ar).length:=by rw[List.length_append,cS,lW]
 have lY:U.toList.length=(d1++ar).length+R.length+(o++d3++rest).length:=by rw[Z];simp only[List.length_append];omega
 have lZ:j.toNat*k.t.cells+off+q.cells<=U.size:=by
  rw[<-Array.length_toList,lY,lf,<-ld,le]
  omega
 have lr:=oa (P:=cx.P) ly t2 lR lZ (hZ q lc)
 have l0:U.toList.take (j.toNat*k.t.cells+off)=d1++ar:=by
  rw[Z,lf]
  have:d1++(ar++R++o)++d3++rest=(d1++ar)++(R++o++d3++rest):=by simp
  rw[this,List.take_left]
 have l3:U.toList.drop (j.toNat*k.t.cells+off+q.cells)=o++d3++rest:=by
  rw[Z,lf,<-ld,<-le,<-List.length_append]
  have:d1++(ar++R++o)++d3++rest=(d1++ar++R)++(o++d3++rest):=by simp
  rw[this,List.drop_left]
 rw[l0,l3]at lr
 refine⟨_,by rw[a2];exact lr,?_⟩
 have lg:=bc ll
 have l4:b∈st.ids:=List.mem_append.2 (.inl (List.mem_map.2 ⟨_,lg,rfl⟩))
 have l5:own (m b) g2:=by rw[f1,f10];exact dr.2 (.inr ⟨v,by simp,by rw[Y];rfl⟩)
 generalize lh:w.setRow g2 (d1++ar++(Act.eval ⟨T,ah.D cx⟩ y).cells.toList++(o++d3++rest)).toArray=ls
 have li:∀W,W≠g2->ls.heap[W]? =w.heap[W]? :=fun W lj=>by rw[<-lh];exact setRow_other _ _ _ _ lj
 have lt:Touch m w b ls:=⟨by rw[<-lh];exact kZ _ _ _,fun W ak lj=>li W (fun e=>lj (by rw[e];exact l5))⟩
 obtain⟨aC,aA⟩:=an.ia (cx:=cx) l4 lt (ids:=(st.dd b (.bu e k (xs.set i.toNat X) none)).ids) (ko lg h.keys _).1
 rw[f10]at f14
 obtain⟨lu,al⟩:=wA f14
 have l6:g≠g2:=fun e=>(lu g2 (by rw[Y];rfl)).1 e.symm
 refine h.dd lg lt (g:=g) ⟨_,_,f1⟩ ⟨_,us,c1++c++c2,f1,?_,?_,?_⟩
 ·rw[List.length_set]
  have l7:cur.toList.take (xs.length*k.u.cells)=c1++c++c2:=by
   generalize cur.toList.drop (xs.length*k.u.cells)=lv at f6
   rw[f6,<-f9]
   have:c1++c++(c2++lv)=(c1++c++c2)++lv:=by simp
   rw[this,List.take_left]
  exact⟨f9,.inr ⟨g,cap,cur,rfl,Nat.zero_le _,by rw[li g l6];exact f2,f3,f4,f5,l7⟩⟩
 ·rw[f10]
  refine f15 aC aA (fun _ _=>Iff.rfl) (fun u l8 l9 aa=>li l9 (fun e=>(lu g2 (by rw[Y];rfl)).2 u l8 (by rw[<-e];exact aa))) f8 ?_
  refine⟨L,v1,lI,ae,lJ,lK,by rw[lE];exact e4,cI aC aA k.u lL,lM,fun _=>⟨lO,O.set j.toNat lb,_,lF,?_,dy (fun _ _=>cI aC aA k.t) (lV _ _ lX)⟩⟩
  have lw:d1++ar++(Act.eval ⟨T,ah.D cx⟩ y).cells.toList++(o++d3++rest)=(d1++(ar++(Act.eval ⟨T,ah.D cx⟩ y).cells.toList++o)++d3)++rest:=by simp
  have lk:(d1++(ar++(Act.eval ⟨T,ah.D cx⟩ y).cells.toList++o)++d3).length=O.length*k.t.cells:=by
   rw[<-lq];simp only[List.length_append,le]
  refine⟨by rw[List.length_set];exact lk,.inr ⟨g2,lT,_,by rw[List.length_set,t1],Nat.zero_le _,by rw[<-lh];exact setRow_heap _ _ _ _ _ _ t2,by rw[List.length_set];exact t3,t4,?_,?_⟩⟩
  ·rw[List.size_toArray,lw,List.length_append,lk,<-t5,<-Array.length_toList,Z,List.length_append,lq]
  ·rw[List.length_set,lw,<-lk,List.take_left]
 ·rw[f10];simpa[aY]using f14
end Go.Ev
namespace Go.Ev
open Go Go.RowKit
variable [b8]
variable {cx:bI} {m aI:Nat->Value} {st st':af} {T:Array Value} {w w':World}
variable [ah cx]
theorem BU{c:cG}{e:Nat}{u:ag}{q:List u.el}(O:c.e=e)(o:al.as ⟨.ab c.t,c.xs⟩ (.ab u)=some q):c=⟨e,u,q⟩:=by
 obtain⟨ce,rC,R⟩:=c
 have o:al.as ⟨.ab rC,R⟩ (.ab u)=some q:=o
 have o:=al.dj o
 cases o
 subst O
 rfl
theorem UZ(h:an cx m st T w){b e r:Nat}{i:Int}{k:ee}{xs:List k.u.el}{lt:Option Int}{t:TypeId}{x y:Operand}{lu lc:k.u.el}{lg:List k.t.el}(W:look st.ad b=some (.bu e k xs lt))(lE:look st.rw r=some ⟨k.e,k.t,lg⟩)(lv:b≠r)
  (lF:aS st x=some (.dT b i k.off k.u.cells))(lG:ty cx.P t=some (.ab k.t))(lH:aS st y=some (.row r))
  (lI:aB xs i=some lu)(lJ:cm k.u lc k.off ⟨.ab k.t,[]⟩=cm k.u lu k.off ⟨.ab k.t,[]⟩)(lK:cM k.u lc k.off (.ab k.t)=some lg)(lL:∀i0,lt=some i0->i0=i):
  ∃w' aI,(Instr.storeAt t (Act.eval ⟨T,ah.D cx⟩ x) (Act.eval ⟨T,ah.D cx⟩ y)).run cx.P w=.ok () w'/\an cx aI (st.dL [b,r] [(b,.bu e k (xs.set i.toNat lc) none)] [] (ao.rD b [b,r])) T w':=by
 obtain⟨g2,l5,l6,l7,lM,a2⟩:=bf h lF
 obtain⟨g,cap,cur,us,c1,Y,c2,lw,v,lx,f1,f2,f3,f4,f5,f6,f7,f8,f9,f10,f11,f12,f13,f14,f15⟩:=h.mr W (kb lI)
 have lN:g2=g:=FC (jZ (lM.symm.trans f1)).1
 subst lN
 obtain⟨L,v1,lO,ae,ly,l8,e4,lP,l9,aa⟩:=f13
 have lh:=bc lE
 have lQ:=bc W
 have Z:b∈st.ids:=List.mem_append.2 (.inl (List.mem_map.2 ⟨_,lQ,rfl⟩))
 have li:r∈st.ids:=List.mem_append.2 (.inr (List.mem_map.2 ⟨_,lh,rfl⟩))
 obtain⟨cells,lz,ab,lR⟩:=h.rows r _ lh
 have lS:Act.eval ⟨T,ah.D cx⟩ y=m r:=bf h lH
 have lA:(m r).oneCell'=true:=row_one h lh
 have lj:(m r).cells=#[m r]:=by
  rcases lz.2 with ⟨lB,_⟩|⟨_,_,_,lB,_⟩<;>rw[lB]<;>rfl
 have ad:k.off<L.length:=(List.getElem?_eq_some_iff.1 ly).1
 have af:L.length=k.u.cells:=by rw[<-f8,ae,List.length_set]
 have lT:i.toNat*k.u.cells+k.off+(ag.ab k.t).cells<=cur.size:=by
  rw[<-Array.length_toList,f6];simp only[List.length_append,ag.cells];omega
 have lk:=oa (P:=cx.P) (v:=m r) lG f2 (by rw[lj];rfl) lT (fun u hu=>by rw[lj]at hu;simp at hu;rw[hu];exact lA)
 have lU:cur.toList.take (i.toNat*k.u.cells+k.off)++(m r).cells.toList++cur.toList.drop (i.toNat*k.u.cells+k.off+(ag.ab k.t).cells)=c1++Y.set k.off (m r)++(c2++cur.toList.drop (xs.length*k.u.cells)):=by
  generalize cur.toList.drop (xs.length*k.u.cells)=rest at f6⊢
  rw[f6,<-f7,lj]
  have eC:c1++Y++(c2++rest)=c1++(Y++(c2++rest)):=by simp
  have lV:k.off+1<=Y.length:=by omega
  rw[eC,List.take_append,List.take_of_length_le (by omega),Nat.add_sub_cancel_left,List.take_append_of_le_length (by omega),Nat.add_assoc,List.drop_append,List.drop_eq_nil_of_le (by omega),Nat.add_sub_cancel_left]
  show _=_
  simp only[ag.cells]
  rw[List.drop_append_of_le_length lV,List.set_eq_take_append_cons_drop,if_pos (by omega)]
  simp
 rw[lU]at lk
 generalize ll:w.setRow g2 (c1++Y.set k.off (m r)++(c2++cur.toList.drop (xs.length*k.u.cells))).toArray=lm at lk
 have ln:∀O,O≠g2->lm.heap[O]? =w.heap[O]? :=fun O ld=>by rw[<-ll];exact setRow_other _ _ _ _ ld
 have lo:own (m b) g2:=Nj f1
 obtain⟨v2,le⟩:∃v2,v2=Value.tuple (.slice (some ⟨g2,0,none⟩) xs.length cap::(lw++m r::lx)).toArray:=⟨_,rfl⟩
 rw[f10]at f14 f1
 obtain⟨ai,lW⟩:=wA f14
 have lp:∀o,aY (m r)=some o->own (m r) o:=fun o W=>gQ W
 have lC:∀o,aY (m r)=some o->o≠g2:=fun o W e=>h.apart b r Z li lv g2 lo (by rw[<-e];exact lp o W)
 have X:iy cx m (bG m b v2) st w lm [b,r] [(b,.bu e k (xs.set i.toNat lc) none)] []:={
  same:=by rw[<-ll];exact kZ _ _ _
  block:=fun O _ ld=>ln O fun e=>ld b (by simp) Z (by rw[e];exact lo)
  old:=fun j _ q=>cX _ _ fun e=>q (by simp[e])
  new:=fun j q O R=>by
   have:j=b:=by simpa using q
   subst this
   rw[b7,le]at R
   refine .inl ?_
   rcases dr.1 R with R|⟨u,hu,R⟩
   ·cases R;exact⟨j,by simp,Z,lo⟩
   ·rcases List.mem_append.1 hu with hu|hu
    ·exact⟨j,by simp,Z,by rw[f1];exact dr.2 (.inr ⟨u,by simp[hu],R⟩)⟩
    ·rcases List.mem_cons.1 hu with rfl|hu
     ·exact⟨r,by simp,li,lp O R⟩
     ·exact⟨j,by simp,Z,by rw[f1];exact dr.2 (.inr ⟨u,by simp[hu],R⟩)⟩
  apart:=fun j lX q lY ld=>by
   have:j=b:=by simpa using q
   have:lX=b:=by simpa using lY
   omega
  keys:=by simp
  nj:=fun j q _=>by
   have:j=b:=by simpa using q
   simp[this]
  nu:=fun lf c' lb lD=>by simp at lb;rw[lb.2]at lD;cases lD
  gd:=fun lZ c' lq=>by cases lq}
 refine⟨lm,bG m b v2,by rw[a2,lS];exact lk,h.dL X (fun M v s l0=>LB f1 (by rw[b7,le]) (fun j q=>cX _ _ fun e=>q (by simp[e])) l0) (fun lf c' lb=>?_) (fun lZ c' lq=>by cases lq)⟩
 simp only[List.mem_cons,Prod.mk.injEq,List.not_mem_nil,or_false]at lb
 obtain⟨rfl,rfl⟩:=lb
 have lr:=X.keeps
 have ls:=X.mut (f:=ao.rD lf [lf,r])
 rw[b7]
 refine⟨0,⟨_,_,le⟩,_,lw++m r::lx,c1++Y.set k.off (m r)++c2,le,?_,?_,?_⟩
 ·rw[List.length_set,<-ll]
  exact GG f2 f3 f4 f5 f6 f9 (List.length_set ..)
 ·refine f15 lr ls (fun j q=>⟨fun⟨i0,U,l3⟩=>absurd (by rw[<-l3,lL i0 U]) q,fun⟨_,U,_⟩=>by cases U⟩) (fun u hu o la=>ln o fun e=>lW u hu (by rw[<-e];exact la)) (by rw[List.length_set,f8]) ?_
  refine⟨L,m r,lO,by rw[ae,List.set_set],ly,lA,by rw[lJ];exact e4,cI lr ls k.u lP,(fun⟨_,U,_⟩=>by cases U),fun _=>⟨rfl,lg,cells,lK,qH lz fun o la=>ln o (lC o la),dy (fun _ _=>cI lr ls k.t) lR⟩⟩
 ·have U:=Ni f14 (x:=m r) fun o la=>⟨lC o la,fun u hu l4=>h.apart lf r Z li lv o (by rw[f1];exact dr.2 (.inr ⟨u,by rcases hu with hu|hu<;>simp[hu],l4⟩)) (lp o la)⟩
  simpa[aY]using U
def BJ(q:Nat)(st:af)(b:Nat)(i:Int)(a d:Nat)(orc:List al):Option (af×List al×List Prop):=
 match look st.ad b,orc with
 |some (.bu e k xs none),v::orc'=>match v.as k.u,Nat.blt d q&&!(Nat.beq b d)with
  |some o,true=>match cM k.u o k.off (.ab k.t)with
   |some O=>some ((st.dL [b,d] [(b,.bu e k xs (some i))] [(d,⟨k.e,k.t,e1 O⟩)] (ao.rD b [b,d])).put a (.row d),orc',[aB xs i=some o])
   |none=>none
  |_,_=>none
 |_,_=>none
theorem an.XC(h:an cx m st T w){a:Nat}{v:Value}{s:ao}(o:T[a]? =some v)(q:aT w (av cx m st.ids) m v s):an cx m (st.put a s) T w:=
 {h with
  cT:=fun i aU hi=>by
   rcases List.mem_cons.1 hi with hi|hi
   ·cases hi;exact⟨v,o,q⟩
   ·exact h.cT i aU (cW.1 hi).1}
theorem zt{α:Type}:∀{l:List α} {i:Nat} {x:α},l[i]? =some x->l.set i x=l
 |_,_,_,h=>by
  obtain⟨q,o⟩:=List.getElem?_eq_some_iff.1 h
  rw[<-o,List.set_getElem_self]
theorem TL(h:an cx m st T w){b a d:Nat}{i:Int}{orc orc':List al}{ob:List Prop}(lc:look st.ab a=some (.sub b i))(R:BJ cx.n st b i a d orc=some (st',orc',ob))(lj:bP ob):∃aI,an cx aI st' T w:=by
 unfold BJ at R
 split at R
 case h_2=>cases R
 rename_i e k xs v0 lT lk
 split at R
 case h_2=>cases R
 rename_i lx _ aM
 split at R
 case h_2=>cases R
 rename_i ll ly
 cases R
 simp only[Bool.and_eq_true,Bool.not_eq_true']at aM
 have lz:=cR aM.1
 have lm:=beq_false aM.2
 obtain⟨vv,t1,lU,lV,t2,t3⟩:=h.cT a _ (bc lc)
 obtain⟨g,cap,cur,us,c1,U,c2,ld,v,le,f1,f2,f3,f4,f5,f6,f7,f8,f9,f10,f11,f12,f13,f14,f15⟩:=h.mr lk (kb lj.1)
 have lA:vv=v:=by
  rw[f1]at t2
  rw[<-(jZ t2).2,f10,<-f11]at t3
  simpa using t3.symm
 subst lA
 have lW:=f13
 obtain⟨L,v1,lB,ae,lC,lD,e4,lE,lX,lF⟩:=f13
 obtain⟨lY,lZ,cells,ln,lo,lG⟩:=lF fun⟨_,h,_⟩=>by cases h
 rw[ly]at ln
 cases ln
 have lH:=bc lk
 have lp:b∈st.ids:=List.mem_append.2 (.inl (List.mem_map.2 ⟨_,lH,rfl⟩))
 obtain⟨v2,la⟩:∃v2,v2=Value.tuple (.slice (some ⟨g,0,none⟩) xs.length cap::(ld++undef::le)).toArray:=⟨_,rfl⟩
 obtain⟨m2,lf⟩:∃m2,m2=bG (bG m d vv) b v2:=⟨_,rfl⟩
 have lg:m2 b=v2:=by rw[lf,b7]
 have md:m2 d=vv:=by rw[lf,cX _ _ (fun e=>lm e.symm),b7]
 have lq:∀j,j∉[b,d]->m2 j=m j:=fun j O=>by rw[lf,cX _ _ (fun e=>O (by simp[e])),cX _ _ (fun e=>O (by simp[e]))]
 rw[f10]at f14 f1
 obtain⟨lr,l0⟩:=wA f14
 have lI:∀o,aY vv=some o->own (m b) o:=fun o q=>by rw[f1];exact dr.2 (.inr ⟨vv,by simp,q⟩)
 have lh:∀o,own (m2 d) o->aY vv=some o:=fun o q=>by rw[md]at q;exact Ck lo q
 have ls:∀o,own (m2 b) o->o=g\/∃u,(u∈ld\/u∈le)/\aY u=some o:=fun o q=>by
  rw[lg,la]at q
  rcases dr.1 q with q|⟨u,hu,q⟩
  ·cases q;exact .inl rfl
  ·rcases List.mem_append.1 hu with hu|hu
   ·exact .inr ⟨u,.inl hu,q⟩
   ·rcases List.mem_cons.1 hu with rfl|hu
    ·cases q
    ·exact .inr ⟨u,.inr hu,q⟩
 have lJ:∀o,own (m2 b) o->own (m b) o:=fun o q=>by
  rw[f1]
  rcases ls o q with rfl|⟨u,hu,q⟩
  ·exact dr.2 (.inl rfl)
  ·exact dr.2 (.inr ⟨u,by rcases hu with hu|hu<;>simp[hu],q⟩)
 have lb:∀j,j∈[(b,bQ.bu e k xs (some i))].map (·.1)\/j∈[(d,(⟨k.e,k.t,e1 ll⟩:cG))].map (·.1)->j=b\/j=d:=fun j O=>by simpa using O
 have X:iy cx m m2 st w w [b,d] [(b,.bu e k xs (some i))] [(d,⟨k.e,k.t,e1 ll⟩)]:={
  same:=⟨rfl,rfl,rfl,Nat.le_refl _,fun _=>Nat.le_refl _⟩
  block:=fun _ _ _=>rfl
  old:=fun j _ O=>lq j O
  new:=fun j O o q=>by
   rcases lb j O with rfl|rfl
   ·exact .inl ⟨j,by simp,lp,lJ o q⟩
   ·exact .inl ⟨b,by simp,lp,lI o (lh o q)⟩
  apart:=fun j lK O lL lt o q lu=>by
   have key:own (m2 b) o->own (m2 d) o->False:=fun aC aA=>by
    rcases ls o aC with rfl|⟨u,hu,bW⟩
    ·exact(lr o (lh o aA)).1 rfl
    ·exact(lr o (lh o aA)).2 u hu bW
   rcases lb j O with rfl|rfl<;>rcases lb lK lL with rfl|rfl
   ·exact lt rfl
   ·exact key q lu
   ·exact key lu q
   ·exact lt rfl
  keys:=by simpa using lm
  nj:=fun j O _=>by rcases lb j O with rfl|rfl<;>simp
  nu:=fun lM c' W lv=>by simp at W;rw[W.2]at lv;cases lv
  gd:=fun lN c' Y=>by simp at Y;rw[Y.1];exact lz}
 have li:=X.mut (f:=ao.rD b [b,d])
 have lO:=h.dL X (fun M v s lc=>LB f1 (by rw[lg,la]) lq lc) (fun lM c' W=>by
   simp only[List.mem_cons,Prod.mk.injEq,List.not_mem_nil,or_false]at W
   obtain⟨rfl,rfl⟩:=W
   rw[lg]
   refine⟨0,⟨_,_,la⟩,_,ld++undef::le,c1++U++c2,la,?_,?_,?_⟩
   ·have lP:cur.toList.take (xs.length*k.u.cells)=c1++U++c2:=by
     generalize cur.toList.drop (xs.length*k.u.cells)=lw at f6
     rw[f6,<-f9]
     have:c1++U++(c2++lw)=(c1++U++c2)++lw:=by simp
     rw[this,List.take_left]
    exact⟨f9,.inr ⟨g,cap,cur,rfl,Nat.zero_le _,f2,f3,f4,f5,lP⟩⟩
   ·have:=f15 (w':=w) (h':=some i) (x':=lx) (c':=U) (v':=undef) (fun _ _ _=>rfl) li (fun j O=>⟨fun⟨_,Z,_⟩=>(by cases Z),fun⟨i0,Z,lQ⟩=>absurd (by rw[<-lQ,Option.some.inj Z]) O⟩) (fun _ _ _ _=>rfl) f8
     ⟨L,v1,lB,ae,lC,lD,e4,cI (fun _ _ _=>rfl) li k.u lE,fun _=>rfl,fun lR=>absurd ⟨i,rfl,rfl⟩ lR⟩
    rw[zt (kb lj.1)]at this
    exact this
   ·have Z:=Ni f14 (x:=undef) fun l3 lS=>by cases lS
    simpa[aY]using Z) (fun lN c' Y=>by
   simp only[List.mem_cons,Prod.mk.injEq,List.not_mem_nil,or_false]at Y
   obtain⟨rfl,rfl⟩:=Y
   rw[md]
   exact⟨cells,lo,dy (fun _ _=>cI (fun _ _ _=>rfl) li k.t) lG⟩)
 exact⟨m2,lO.XC t1 (by show vv=m2 d;rw[md])⟩
end Go.Ev
namespace Go.Ev
open Go Go.RowKit
variable [b8]
variable {cx:bI} {m aI:Nat->Value} {st st':af} {T:Array Value} {w w':World}
variable [ah cx]
def oz(P:Program)(eC:TypeId):Option ee:=
 match ty P eC,P.underlying eC with
 |some (.ab t),some (.slice e)=>match ty P e with
  |some q=>bif t.beq q&&!(Nat.beq t.cells 0)then some ⟨.ab t,0,e,t⟩else none
  |none=>none
 |some u,some (.struct ap)=>match ap.toList.getLast? with
  |some o=>match P.underlying o.type with
   |some (.slice e)=>match ty P e with
    |some t=>bif !(Nat.beq t.cells 0)then some ⟨u,o.offset,e,t⟩else none
    |none=>none
   |_=>none
  |none=>none
 |_,_=>none
def EA(E:Env)(st:af)(aa:Oper)(orc:List al):Option (af×List al×List Prop):=
 match aa.dst,orc with
 |some d,⟨.unit,_⟩::orc'=>match Nat.blt d E.n,aa.op with
  |true,.assign (.const (.slice none 0 0))=>match dY E.P aa.type with
   |some (e,_)=>match oz E.P e with
    |some k=>some ((st.dL [d] [(d,.bu e k [] none)] [] (ao.dK [d])).put d (.osl d),orc',[])
    |none=>none
   |none=>none
  |true,.move (.const (.slice none 0 0))=>match dY E.P aa.type with
   |some (e,_)=>match oz E.P e with
    |some k=>some ((st.dL [d] [(d,.bu e k [] none)] [] (ao.dK [d])).put d (.osl d),orc',[])
    |none=>none
   |none=>none
  |true,.makeSlice t l c=>match dY E.P t,eA (aS st l),eA (aS st c)with
   |some (e,u),some n,some o=>match oz E.P e,oe E.P e,zeroOf E.P e,(E.P.info? e).bind (·.zero)with
    |some k,true,some q,some z=>match u.beq q&&u.beq k.u,z.cells.toList[k.off]? with
     |true,some (.slice none 0 0)=>some ((st.dL [d] [(d,.bu e k (List.replicate n.toNat (b9 k.u)) none)] [] (ao.dK [d])).put d (.osl d),orc',
       [0<=n/\n<=o/\o<=(bC:Int),cm k.u (b9 k.u) k.off ⟨.ab k.t,[]⟩=some (b9 k.u),cM k.u (b9 k.u) k.off (.ab k.t)=some (show(ag.ab k.t).el from[])])
     |_,_=>none
    |_,_,_,_=>none
   |_,_,_=>none
  |_,_=>none
 |_,_=>none
theorem an.IF(h:an cx m st T w){d e:Nat}(ai:d<cx.n){hd0:Value}{k:ee}{xs:List k.u.el}{cells us:List Value}{w':World}(Y:Ext w w')(la:∀g,g∈(hd0::us).filterMap aY->w.heap.size<=g/\g<w'.heap.size)(lb:w'.ownsRow 0 e k.u.cells hd0 xs.length cells)
  (lc:∀M':Nat->Prop,(∀b,b<w.heap.size->M' b->av cx m st.ids b)->fF w' M' k none 0 xs cells us)(ld:((hd0::us).filterMap aY).Nodup):
  an cx (bG m d (.tuple (hd0::us).toArray)) ((st.dL [d] [(d,.bu e k xs none)] [] (ao.dK [d])).put d (.osl d)) (T.setIfInBounds d hd0) w':=by
 obtain⟨v2,q⟩:∃v2,v2=Value.tuple (hd0::us).toArray:=⟨_,rfl⟩
 rw[<-q]
 have X:iy cx m (bG m d v2) st w w' [d] [(d,.bu e k xs none)] []:={
  same:=Y.toSame
  block:=fun U R _=>Y.block U R
  old:=fun j _ o=>cX _ _ fun e=>o (by simp[e])
  new:=fun j o U R=>by
   have:j=d:=by simpa using o
   subst this
   rw[b7,q]at R
   exact .inr (la U (TE.1 R))
  apart:=fun j le o lf li=>by
   have:j=d:=by simpa using o
   have:le=d:=by simpa using lf
   omega
  keys:=by simp
  nj:=fun j o _=>by
   have:j=d:=by simpa using o
   simp[this]
  nu:=fun Z c' O _=>by simp at O;rw[O.1];exact ai
  gd:=fun lg c' W=>by cases W}
 refine(h.dL X (fun M v s lh=>nZ (fun j o=>cX _ _ fun e=>o (by simp[e])) lh) (fun Z c' O=>?_) (fun lg c' W=>by cases W)).put ai ⟨us,by rw[b7,q]⟩
 simp only[List.mem_cons,Prod.mk.injEq,List.not_mem_nil,or_false]at O
 obtain⟨rfl,rfl⟩:=O
 rw[b7]
 exact⟨0,⟨_,_,q⟩,hd0,us,cells,q,lb,lc _ (X.mut (f:=ao.dK [Z])),ld⟩
theorem T7{M:Nat->Prop}{k:ee}{z:Array Value}{x:k.u.el}(o:aJ w M k.u z.toList x)(q:z.toList[k.off]? =some (.slice none 0 0))(R:cm k.u x k.off ⟨.ab k.t,[]⟩=some x)(U:cM k.u x k.off (.ab k.t)=some (show(ag.ab k.t).el from[])):
  ∀(n i:Nat),fF w M k none i (List.replicate n x) (madeCells z (n*k.u.cells)).toList (List.replicate n (.slice none 0 0)):=by
 have O:z.toList.length=k.u.cells:=cf k.u o
 intro n
 induction n with
 |zero=>intro i;exact⟨by simp[madeCells],rfl⟩
 |succ n W=>
  intro i
  refine⟨z.toList,(madeCells z (n*k.u.cells)).toList,.slice none 0 0,List.replicate n (.slice none 0 0),MQ (by simpa using O) n,O,List.replicate_succ,?_,W (i+1)⟩
  exact⟨z.toList,.slice none 0 0,x,(zt q).symm,q,rfl,R,o,(fun⟨_,h,_⟩=>by cases h),fun _=>⟨rfl,[],[],U,World.ownsRow_nil w 0 _ _,rfl⟩⟩
theorem Qt{E:Env}(X:bE E cx)(h:ak cx st T w){aa:Oper}{orc:List al}{st':af}{orc':List al}{ob:List Prop}(o:EA E st aa orc=some (st',orc',ob))(lm:bP ob)
  {K:Act->World->Prop}{Q:Exit->Act->World->Prop}(lb:∀lc w',ak cx st' lc w'->K ⟨lc,ah.D cx⟩ w'):aa.wp cx.P ⟨T,ah.D cx⟩ w K Q:=by
 obtain⟨m,Y⟩:=h
 unfold EA at o
 split at o
 case h_2=>cases o
 rename_i d lH lI ai
 have nil:∀(e:Nat) (k:ee),d<cx.n->(execOp (Act.eval ⟨T,ah.D cx⟩) aa).run cx.P w=.ok (.value (.slice none 0 0)) w->st'=(st.dL [d] [(d,.bu e k [] none)] [] (ao.dK [d])).put d (.osl d)->aa.wp cx.P ⟨T,ah.D cx⟩ w K Q:=by
  intro e k q ln lo
  refine gT ln ?_
  rw[ai]
  refine lb _ _ ⟨_,lo▸Y.IF q (hd0:=.slice none 0 0) (e:=e) (k:=k) (xs:=[]) (us:=[]) (cells:=[]) (Ext.refl w) (fun g U=>by simp[aY]at U) (World.ownsRow_nil w 0 _ _) (fun _ _=>⟨rfl,rfl⟩) List.nodup_nil⟩
 split at o
 ·rename_i q W
  have q:d<cx.n:=by rw[X.n];exact cR q
  split at o
  case h_2=>cases o
  split at o
  case h_2=>cases o
  cases o
  exact nil _ _ q (by simp only[execOp,W];rfl) rfl
 ·rename_i q W
  have q:d<cx.n:=by rw[X.n];exact cR q
  split at o
  case h_2=>cases o
  split at o
  case h_2=>cases o
  cases o
  exact nil _ _ q (by simp only[execOp,W];rfl) rfl
 ·rename_i t l c q W
  have q:d<cx.n:=by rw[X.n];exact cR q
  split at o
  case h_2=>cases o
  rename_i e u n O ld lp lq
  split at o
  case h_2=>cases o
  rename_i k lJ z lK le lf R
  split at o
  case h_2=>cases o
  rename_i aM lr
  cases o
  simp only[Bool.and_eq_true]at aM
  obtain rfl:=ag.eq_of_beq aM.1
  obtain⟨⟨ls,lt,lL⟩,lu,lv,_⟩:=lm
  rw[<-X.P]at ld le lf R
  have lw:=ag.eq_of_beq aM.2
  obtain⟨la,lM,lN⟩:=jz ld
  obtain⟨i,lO,_,hi,lg,lh,lx⟩:=kg lf
  rw[hi]at R
  have R:i.zero=some z:=R
  rw[lh]at R
  cases R
  obtain⟨i2,li,lP⟩:=z7 le
  rw[hi]at li
  cases li
  obtain⟨lj,ly⟩:=fx Y lp
  obtain⟨lk,lz⟩:=fx Y lq
  have lQ:(bC:Int)=2147483648:=rfl
  have lA:0<=O:=by omega
  have lB:(i.bytes:Int)*O<=281474976710656:=by
   have lC:(i.bytes:Int)<=65536:=by omega
   calc (i.bytes:Int)*O<=65536*O:=Int.mul_le_mul_of_nonneg_right lC lA
    _<=281474976710656:=by omega
  have lD:=run_make (P:=cx.P) w t e i z la hi lh lj lk n O ls lt lB (by omega)
  subst lw
  have Z:(List.replicate n.toNat (b9 k.u)).length=n.toNat:=List.length_replicate
  have lE:(madeCells z.cells (O.toNat*i.size)).toList.take ((List.replicate n.toNat (b9 k.u)).length*k.u.cells)=(madeCells z.cells (n.toNat*k.u.cells)).toList:=by
   rw[Z,lg]
   simp only[madeCells,Array.toList_map,Array.toList_range,<-List.map_take]
   rw[List.take_range]
   congr 2
   have:n.toNat*k.u.cells<=O.toNat*k.u.cells:=Nat.mul_le_mul_right _ (by omega)
   omega
  have lF:Ext w (w.alloc (.cells (madeCells z.cells (O.toNat*i.size)) e)):=iU _ _
  have lG:∀(w':World) (M':Nat->Prop),fF w' M' k none 0 (List.replicate n.toNat (b9 k.u)) (madeCells z.cells (n.toNat*k.u.cells)).toList (List.replicate n.toNat (.slice none 0 0)):=fun w' M'=>T7 (lx w' M') lr lu lv _ _
  have ll:((Value.slice (some ⟨w.heap.size,0,none⟩) n.toNat O.toNat)::List.replicate n.toNat (Value.slice none 0 0)).filterMap aY=[w.heap.size]:=by
   rw[List.filterMap_cons]
   show w.heap.size::_=_
   congr 1
   rw[List.filterMap_eq_nil_iff]
   intro u la
   rw[List.eq_of_mem_replicate la]
   rfl
  refine gT (cn (s:=Instr.makeSlice t (.int lj n) (.int lk O)) (by simp only[execOp,W,ly,lz]) lD) ?_
  rw[ai]
  refine lb _ _ ⟨_,Y.IF q lF (us:=List.replicate n.toNat (.slice none 0 0)) (fun g U=>?_) ⟨?_,.inr ⟨w.heap.size,O.toNat,madeCells z.cells (O.toNat*i.size),?_,Nat.zero_le _,heap_alloc_new w _,?_,?_,?_,lE⟩⟩ (fun M' _=>lG _ M') (by rw[ll];simp)⟩
  ·rw[ll]at U
   simp at U
   subst U
   exact⟨Nat.le_refl _,by simp⟩
  ·rw[Z,Array.length_toList,size_madeCells]
  ·rw[Z]
  ·rw[Z];omega
  ·simp only[maxLen];omega
  ·rw[size_madeCells,lg]
 ·cases o
end Go.Ev
namespace Go.Ev
open Go Go.RowKit
variable [b8]
variable {cx:bI} {m aI:Nat->Value} {st st':af} {T:Array Value} {w w':World}
variable [ah cx]
def p1:List ao->Option (List bV)
 |[]=>some []
 |.val t x::l=>match p1 l with
  |some r=>some (.v ⟨t,x⟩::r)
  |none=>none
 |.row b::l=>match p1 l with
  |some r=>some (.r b::r)
  |none=>none
 |.iter b::l=>match p1 l with
  |some r=>some (.r b::r)
  |none=>none
 |_=>none
theorem zJ{M:Nat->Prop}:∀{cs:List Value} {l:List ao} {r:List bV},p1 l=some r->ct w M m cs l->de w M m cs r
 |[],[],r,h,_=>by cases h;trivial
 |[],_::_,_,_,h=>h.elim
 |_::_,[],_,_,h=>h.elim
 |c::cs,s::l,r,h,⟨q,O⟩=>by
  unfold p1 at h
  split at h
  ·rename_i e;cases e
  ·rename_i t x R e
   cases e
   split at h
   ·rename_i U o;cases h;exact⟨q,zJ o O⟩
   ·cases h
  ·rename_i b R e
   cases e
   split at h
   ·rename_i U o;cases h;exact⟨q,zJ o O⟩
   ·cases h
  ·rename_i b R e
   cases e
   split at h
   ·rename_i U o;cases h;exact⟨q,zJ o O⟩
   ·cases h
  ·cases h
def bV.isRow:bV->Bool
 |.r _=>true
 |_=>false
def EQ(P:Program)(st:af)(t:TypeId)(x:Operand)(orc:List al):Option ew:=
 match aS st x,ty P t with
 |some (.ptr b off),some u=>match look st.ad b,u.agg with
  |some (.cells l _),true=>match p1 ((l.drop off).take u.cells),Nat.beq ((l.drop off).take u.cells).length u.cells with
   |some r,true=>bif r.any bV.isRow then some ⟨.eZ r,orc,[]⟩else none
   |_,_=>none
  |_,_=>none
 |_,_=>none
theorem OX(h:an cx m st T w){t:TypeId}{x:Operand}{orc:List al}{q:ew}(o:EQ cx.P st t x orc=some q):
  ∃v,(∀w',Ext w w'->(Instr.loadAt t (Act.eval ⟨T,ah.D cx⟩ x)).run cx.P w'=.ok v w')/\aT w (av cx m st.ids) m v q.aU:=by
 unfold EQ at o
 split at o
 case h_2=>cases o
 rename_i b off u la lb
 split at o
 case h_2=>cases o
 rename_i l e lc U
 split at o
 case h_2=>cases o
 rename_i r ld O
 have o:some (⟨.eZ r,orc,[]⟩:ew)=some q:=by
  cases W:r.any bV.isRow with
  |false=>rw[W]at o;cases o
  |true=>rw[W]at o;exact o
 cases o
 have O:=Nat.eq_of_beq_eq_true O
 obtain⟨g,le,lf⟩:=bf h la
 obtain⟨lg,ae,_,cells,lh,e4⟩:=h.box (bc lc)
 have:lg=g:=by rw[le]at ae;cases ae;rfl
 subst this
 have X:=(jm u.cells (jm off e4).2).1
 have li:=mv X
 obtain⟨v,lj,Y⟩:=jJ (P:=cx.P) (c:=(cells.toList.drop off).take u.cells) (off:=off) lb lh (fun j v R=>by
  have lk:=(List.getElem?_eq_some_iff.1 R).1
  rw[List.getElem?_take_of_lt (by rw[List.length_take]at lk;omega),List.getElem?_drop]at R
  simpa using R) (by rw[li,O]) (fun Z=>by rw[U]at Z;cases Z)
 rw[U,if_pos rfl]at Y
 refine⟨v,fun w' ll=>?_,_,Y,zJ ld X⟩
 rw[lf]
 exact lj w' ll
def qZ(P:Program)(st:af)(aa:Oper)(orc:List al):Option ew:=
 match aa.op with
 |.indexAddr t x i=>match aS st x,eA (aS st i),ty P t with
  |some (.osl b),some n,some (.ab u)=>match look st.ad b with
   |some (.bu _ k xs _)=>bif u.beq k.u then some ⟨.dT b n 0 k.u.cells,orc,[0<=n/\n<(xs.length:Int)]⟩else none
   |_=>none
  |some (.sub b i0),some n,some (.ab u)=>match look st.ad b,orc with
   |some (.bu _ k xs none),a::orc'=>match a.as k.u,u.beq k.t with
    |some o,true=>match cM k.u o k.off (.ab k.t)with
     |some q=>some ⟨.fq b i0 n 0 k.t.cells,orc',[aB xs i0=some o,0<=n/\n<((e1 q).length:Int)]⟩
     |none=>none
    |_,_=>none
   |_,_=>none
  |_,_,_=>none
 |.fieldAddr t x f=>match aS st x,fieldInfo P t f with
  |some (.dT b i off O),some (R,_)=>some ⟨.dT b i (off+R) O,orc,[]⟩
  |some (.fq b i j off O),some (R,_)=>some ⟨.fq b i j (off+R) O,orc,[]⟩
  |_,_=>none
 |.load t x=>match CW P st t x orc with
  |some r=>some r
  |none=>EQ P st t x orc
 |.call c=>match c.callee,c.args.toList,c.argTypes.toList with
  |.builtin .len,[x],[t]=>match aS st x,ty P t with
   |some (.osl b),some (.ab _)=>match look st.ad b with
    |some (.bu _ _ xs _)=>some ⟨.val (.int .i64) (xs.length:Int),orc,[]⟩
    |_=>none
   |some (.sub b i),some (.ab _)=>match look st.ad b,orc with
    |some (.bu _ k xs none),a::orc'=>match a.as k.u with
     |some o=>match cM k.u o k.off (.ab k.t)with
      |some q=>some ⟨.val (.int .i64) ((e1 q).length:Int),orc',[aB xs i=some o]⟩
      |none=>none
     |none=>none
    |_,_=>none
   |_,_=>none
  |_,_,_=>none
 |_=>none
def ry(st:af):List bV->Option (List ao)
 |[]=>some []
 |.v u::l=>match ry st l,u.t.agg with
  |some r,false=>some (.val u.t u.x::r)
  |_,_=>none
 |.r b::l=>match ry st l,look st.rw b with
  |some r,some _=>some (.row b::r)
  |some r,none=>match look st.ad b with
   |some (.mp _ _ _)=>some (.iter b::r)
   |_=>none
  |_,_=>none
 |.a::_=>none
theorem zR(h:an cx m st T w){M:Nat->Prop}:∀{vs:List Value} {l:List bV} {r:List ao},ry st l=some r->de w M m vs l->ct w M m vs r/\(∀v∈vs,v.oneCell'=true)/\r.length=l.length
 |[],[],r,o,_=>by cases o;exact⟨trivial,(fun v X=>by cases X),rfl⟩
 |[],x::_,_,_,h=>by cases x<;>exact h.elim
 |_::_,[],_,_,h=>h.elim
 |v::vs,.v u::l,r,o,⟨O,U⟩=>by
  unfold ry at o
  split at o
  ·rename_i W R Y
   cases o
   obtain⟨aC,aA,bW⟩:=zR h R U
   refine⟨⟨O,aC⟩,fun x q=>?_,by simp[bW]⟩
   rcases List.mem_cons.1 q with rfl|q
   ·exact hZ u.t ((bA Y).1 O) _ (by simp)
   ·exact aA x q
  ·cases o
 |v::vs,.r b::l,r,o,⟨O,U⟩=>by
  unfold ry at o
  split at o
  ·rename_i W c R Z
   cases o
   obtain⟨aC,aA,bW⟩:=zR h R U
   refine⟨⟨O,aC⟩,fun x q=>?_,by simp[bW]⟩
   rcases List.mem_cons.1 q with rfl|q
   ·rw[O];exact row_one h (bc Z)
   ·exact aA x q
  ·rename_i W R _
   split at o
   ·rename_i la
    cases o
    obtain⟨aC,aA,bW⟩:=zR h R U
    refine⟨⟨O,aC⟩,fun x q=>?_,by simp[bW]⟩
    rcases List.mem_cons.1 q with rfl|q
    ·obtain⟨g,ae,_⟩:=h.box (bc la)
     rw[O,show m b=_ from ae]
     rfl
    ·exact aA x q
   ·cases o
  ·cases o
 |v::vs,.a::l,r,o,_=>by cases o
def D3(P:Program)(st:af)(t:TypeId)(x y:Operand)(orc:List al):Option (af×List al×List Prop):=
 match aS st x,ty P t,aS st y with
 |some (.ptr b off),some u,some (.eZ l)=>match look st.ad b,ry st l,Nat.beq l.length u.cells with
  |some (.cells c e),some aU,true=>bif Nat.ble (off+u.cells) c.length then some (st.dd b (.cells (c.take off++aU++c.drop (off+u.cells)) e),orc,[])else none
  |_,_,_=>none
 |_,_,_=>none
theorem Uc(h:an cx m st T w){t:TypeId}{x y:Operand}{orc orc':List al}{st':af}{ob:List Prop}(o:D3 cx.P st t x y orc=some (st',orc',ob)):
  ∃w',(Instr.storeAt t (Act.eval ⟨T,ah.D cx⟩ x) (Act.eval ⟨T,ah.D cx⟩ y)).run cx.P w=.ok () w'/\an cx m st' T w':=by
 unfold D3 at o
 split at o
 case h_2=>cases o
 rename_i b off u l lc ld le
 obtain⟨g,O,lf⟩:=bf h lc
 split at o
 case h_2=>cases o
 rename_i c e aU lg lh R
 cases U:Nat.ble (off+u.cells) c.length with
 |false=>rw[U]at o;cases o
 |true=>
  rw[U]at o
  cases o
  have li:=Nat.le_of_ble_eq_true U
  have R:=Nat.eq_of_beq_eq_true R
  have q:=bc lg
  obtain⟨W,ae,_,cells,la,e4⟩:=h.box q
  have:W=g:=by rw[O]at ae;cases ae;rfl
  subst this
  have lj:b∈st.ids:=List.mem_append.2 (.inl (List.mem_map.2 ⟨_,q,rfl⟩))
  have lk:=mv e4
  obtain⟨vs,ll,lm⟩:=bf h le
  obtain⟨aC,aA,bW⟩:=zR h lh lm
  have ln:vs.length=u.cells:=by rw[mv aC,bW,R]
  have X:(Act.eval ⟨T,ah.D cx⟩ y).cells=vs.toArray:=by rw[ll];rfl
  have lo:off+u.cells<=cells.size:=by rw[<-Array.length_toList,lk];exact li
  have lp:=oa (P:=cx.P) (v:=Act.eval ⟨T,ah.D cx⟩ y) ld la (by rw[X];simpa using ln) lo (by rw[X];exact aA)
  refine⟨_,by rw[lf];exact lp,?_⟩
  have lb:Touch m w b (w.setRow W (cells.toList.take off++(Act.eval ⟨T,ah.D cx⟩ y).cells.toList++cells.toList.drop (off+u.cells)).toArray):=
   ⟨kZ _ _ _,fun k lt lq=>setRow_other _ _ _ _ (fun e=>lq (by rw[O,e];rfl))⟩
  obtain⟨lr,_⟩:=ko q h.keys (.cells (c.take off++aU++c.drop (off+u.cells)) e)
  obtain⟨Y,Z⟩:=an.ia (cx:=cx) lj lb lr
  refine h.dd q lb (g:=W) O ⟨_,setRow_heap _ _ _ _ _ _ la,?_⟩
  simp only[]
  have ls:ct w (av cx m st.ids) m (Act.eval ⟨T,ah.D cx⟩ y).cells.toList aU:=by rw[X];exact aC
  exact mu (mu (oq Y Z (jm off e4).1) (oq Y Z ls)) (oq Y Z (jm (off+u.cells) e4).2)
def Aw(E:Env)(st:af)(aa:Oper)(orc:List al):Option (af×List al×List Prop):=
 match aa.dst with
 |none=>match aa.op with
  |.store t x y=>match CB E.P E.n st t x y orc with
   |some r=>some r
   |none=>D3 E.P st t x y orc
  |_=>none
 |some d=>match Nat.blt d E.n with
  |false=>none
  |true=>match qZ E.P st aa orc with
   |some r=>some (st.put d r.aU,r.orc,r.ob)
   |none=>match aa.op with
    |.call c=>match c.callee,c.args.toList with
     |.builtin .append,[.tmp a,_]=>match look st.ab a with
      |some (.sub b i)=>match BJ E.n st b i a d orc with
       |some (s,o,q)=>match oT E s aa o with
        |some (O,R,U)=>some (O,R,q++U)
        |none=>none
       |none=>none
      |_=>none
     |_,_=>none
    |_=>none
theorem xv:∀{a b:List Prop},bP (a++b)->bP a/\bP b
 |[],_,h=>⟨trivial,h⟩
 |_::_,_,⟨q,o⟩=>⟨⟨q,(xv o).1⟩,(xv o).2⟩
theorem Pm(h:an cx m st T w){t:TypeId}{x y:Operand}{orc orc':List al}{ob:List Prop}(o:CB cx.P cx.n st t x y orc=some (st',orc',ob))(O:bP ob):
  ∃w' aI,(Instr.storeAt t (Act.eval ⟨T,ah.D cx⟩ x) (Act.eval ⟨T,ah.D cx⟩ y)).run cx.P w=.ok () w'/\an cx aI st' T w':=by
 unfold CB at o
 split at o
 ·rename_i b i off ld le lj z U W X
  split at o
  case h_2=>cases o
  rename_i e k xs a lf Y
  split at o
  case h_2=>cases o
  rename_i lg _ aM
  simp only[Bool.and_eq_true,Bool.or_eq_true]at aM
  obtain⟨⟨q,R⟩,la⟩:=aM
  split at o
  case h_2=>cases o
  rename_i lh lt Z lk
  split at o
  case h_2=>cases o
  rename_i lu ll
  cases o
  have q:=Nat.eq_of_beq_eq_true q
  subst q
  obtain rfl:=ag.eq_of_beq R
  obtain⟨w',lb,Z⟩:=Ry h Y U W X (la.elim (fun h=>.inl (Nat.le_of_ble_eq_true h)) fun h=>.inr (cR h)) Z lk ll O.1 O.2.1 O.2.2.1
  exact⟨w',m,lb,Z⟩
 ·rename_i b i j off ld le lj z U W X
  split at o
  case h_2=>cases o
  rename_i e k xs a c lf Y
  split at o
  case h_2=>cases o
  rename_i lg z0 _ _ aM
  simp only[Bool.and_eq_true]at aM
  obtain⟨q,R⟩:=aM
  split at o
  case h_2=>cases o
  rename_i lm lv lc ln
  split at o
  case h_2=>cases o
  rename_i lh lo
  cases o
  have q:=Nat.eq_of_beq_eq_true q
  subst q
  obtain rfl:=ag.eq_of_beq R
  obtain⟨w',lb,Z⟩:=Ru h Y U W X lc ln O.1 O.2.1 O.2.2.1 O.2.2.2.1
  exact⟨w',m,lb,Z⟩
 ·rename_i b i off ld le r U W X
  split at o
  case h_2=>cases o
  rename_i e k xs lw c a lf Y li
  split at o
  case h_2=>cases o
  rename_i lg lm _ aM lc
  simp only[Bool.and_eq_true,Bool.not_eq_true']at aM
  obtain⟨q,R,la,lp,lq⟩:=aM
  split at o
  case h_2=>cases o
  rename_i lh lo
  cases o
  have q:=Nat.eq_of_beq_eq_true q
  subst q
  have R:=Nat.eq_of_beq_eq_true R
  subst R
  obtain rfl:=ag.eq_of_beq la
  have lr:=BU (Nat.eq_of_beq_eq_true lp) lc
  rw[lr]at li
  obtain⟨⟨ls,bd,eJ,_⟩,gn⟩:=xv O
  exact UZ h Y li (beq_false lq) U W X ls bd eJ (fun i0 hi=>by subst hi;exact gn.1)
 ·cases o
theorem Eg(h:an cx m st T w){aa:Oper}{orc:List al}{r:ew}(o:qZ cx.P st aa orc=some r)(ld:bP r.ob):
  ∃v,(∀w',Ext w w'->(execOp (Act.eval ⟨T,ah.D cx⟩) aa).run cx.P w'=.ok (.value v) w')/\aT w (av cx m st.ids) m v r.aU:=by
 have O:=h
 unfold qZ at o
 have fin:∀(v:Value) (aU:ao),(∀w',(execOp (Act.eval ⟨T,ah.D cx⟩) aa).run cx.P w'=.ok (.value v) w')->aT w (av cx m st.ids) m v aU->aU=r.aU->∃v,(∀w',Ext w w'->(execOp (Act.eval ⟨T,ah.D cx⟩) aa).run cx.P w'=.ok (.value v) w')/\aT w (av cx m st.ids) m v r.aU:=
  fun v aU le lB lC=>⟨v,fun w' _=>le w',lC▸lB⟩
 split at o
 ·rename_i t x i U
  split at o
  ·rename_i b n u R hi Y
   split at o
   case h_2=>cases o
   rename_i e k xs lD Z
   cases aM:u.beq k.u with
   |false=>rw[aM]at o;cases o
   |true=>
    rw[aM]at o
    cases o
    obtain rfl:=ag.eq_of_beq aM
    obtain⟨ll,le⟩:=ld.1
    obtain⟨hd0,us,cells,ae,la,lm,e4⟩:=O.bu Z
    have ln:0<xs.length:=by omega
    obtain⟨g,cap,cur,q,_⟩:=vN la ln
    subst q
    obtain⟨lE,lo⟩:=bf O R
    have W:Act.eval ⟨T,ah.D cx⟩ x=.slice (some ⟨g,0,none⟩) xs.length cap:=(jZ (lo.symm.trans ae)).1
    obtain⟨lF,lp⟩:=fx O hi
    obtain⟨_,_,_,lb,d2,X,lf⟩:=dk Y
    refine fin (.pointer (some ⟨g,n.toNat*k.u.cells+0,none⟩)) (.dT b n 0 k.u.cells) (fun w'=>cn (s:=Instr.indexAt t (Act.eval ⟨T,ah.D cx⟩ x) (Act.eval ⟨T,ah.D cx⟩ i)) (by simp only[execOp,U]) ?_) ⟨g,_,cap,us,ae,rfl⟩ rfl
    have lg:(⟨g,0,none⟩:Addr).add (n.toNat*k.u.cells)=⟨g,n.toNat*k.u.cells+0,none⟩:=by rw[gU];simp
    rw[W,lp]
    simp only[Instr.indexAt,asIntOf,Sem.run_bind,Sem.run_pure,Result.andThen_ok,run_underlying X]
    rw[if_pos ⟨ll,le⟩]
    simp only[Sem.run_bind,fa lf,Result.andThen_ok,Sem.run_pure,lg]
  ·rename_i b i0 n u R hi Y
   split at o
   case h_2=>cases o
   rename_i e k xs a lG Z
   split at o
   case h_2=>cases o
   rename_i lH _ aM
   split at o
   case h_2=>cases o
   rename_i lc lq
   cases o
   obtain rfl:=ag.eq_of_beq aM
   obtain⟨ll,le⟩:=ld.2.1
   obtain⟨g,cap,cur,us,c1,c,c2,lI,v,lJ,f1,f2,f3,f4,f5,f6,f7,f8,f9,f10,f11,f12,f13,f14,f15⟩:=O.mr Z (kb ld.1)
   obtain⟨lK,cells,lh,lr,lL,lM⟩:=xD f13
   rw[lq]at lh
   cases lh
   have ln:0<(e1 lc).length:=by omega
   obtain⟨g2,lN,lS,q,_⟩:=vN lr ln
   obtain⟨lk,lw,t2,t3⟩:=bf O R
   have W:Act.eval ⟨T,ah.D cx⟩ x=v:=by
    rw[f1]at t2
    rw[<-(jZ t2).2,f10,<-f11]at t3
    simpa using t3.symm
   obtain⟨lF,lp⟩:=fx O hi
   obtain⟨_,_,_,lb,d2,X,lf⟩:=dk Y
   refine fin (.pointer (some ⟨g2,n.toNat*k.t.cells+0,none⟩)) (.fq b i0 n 0 k.t.cells) (fun w'=>cn (s:=Instr.indexAt t (Act.eval ⟨T,ah.D cx⟩ x) (Act.eval ⟨T,ah.D cx⟩ i)) (by simp only[execOp,U]) ?_) ⟨lk,lw,g2,_,lN,t2,by rw[t3,W,q],rfl⟩ rfl
   have lg:(⟨g2,0,none⟩:Addr).add (n.toNat*k.t.cells)=⟨g2,n.toNat*k.t.cells+0,none⟩:=by rw[gU];simp
   rw[W,q,lp]
   simp only[Instr.indexAt,asIntOf,Sem.run_bind,Sem.run_pure,Result.andThen_ok,run_underlying X]
   rw[if_pos ⟨ll,le⟩]
   simp only[Sem.run_bind,fa lf,Result.andThen_ok,Sem.run_pure,lg]
  ·cases o
 ·rename_i t x f U
  split at o
  ·rename_i b i off li lj lO R ls
   cases o
   obtain⟨g,n,cap,us,ae,la⟩:=bf O R
   refine fin (.pointer (some ⟨g,i.toNat*li+(off+lj),none⟩)) (.dT b i (off+lj) li) (fun w'=>cn (s:=Instr.fieldAt t (Act.eval ⟨T,ah.D cx⟩ x) f) (by simp only[execOp,U]) ?_) ⟨g,n,cap,us,ae,rfl⟩ rfl
   rw[la,nn ls,gU,Nat.add_assoc]
  ·rename_i b i j off li lj lO R ls
   cases o
   obtain⟨lk,us,g,n,cap,ae,la,lm⟩:=bf O R
   refine fin (.pointer (some ⟨g,j.toNat*li+(off+lj),none⟩)) (.fq b i j (off+lj) li) (fun w'=>cn (s:=Instr.fieldAt t (Act.eval ⟨T,ah.D cx⟩ x) f) (by simp only[execOp,U]) ?_) ⟨lk,us,g,n,cap,ae,la,rfl⟩ rfl
   rw[lm,nn ls,gU,Nat.add_assoc]
  ·cases o
 ·rename_i t x U
  split at o
  ·rename_i lT lP
   cases o
   obtain⟨v,lt,q⟩:=NI O lP ld
   exact⟨v,fun w' lu=>cn (by simp only[execOp,U]) (lt w' lu),q⟩
  ·obtain⟨v,lt,q⟩:=OX O o
   exact⟨v,fun w' lu=>cn (by simp only[execOp,U]) (lt w' lu),q⟩
 ·rename_i c U
  split at o
  ·rename_i x t lx ly lz
   obtain⟨lU,args,lA⟩:=c
   simp only at lx ly lz
   subst lx
   have lg:args=#[x]:=by rw[<-Array.toArray_toList (xs:=args),ly]
   have lQ:lA=#[t]:=by rw[<-Array.toArray_toList (xs:=lA),lz]
   subst lg
   subst lQ
   have len:∀(a:Option Addr) (n cap:Nat) (aA:TypeId),Act.eval ⟨T,ah.D cx⟩ x=.slice a n cap->cx.P.underlying t=some (.slice aA)->∀w',(execOp (Act.eval ⟨T,ah.D cx⟩) aa).run cx.P w'=.ok (.value (.int .i64 (n:Int))) w':=by
    intro a n cap aA q lR w'
    simp only[execOp,U,resolve,invoke,builtin,Sem.run_bind,Sem.run_pure,Result.andThen_ok,List.map_toArray,List.map_cons,List.map_nil,q]
    simp[Builtin.len_,run_underlying lR,goInt]
   split at o
   ·rename_i b u R Y
    split at o
    case h_2=>cases o
    rename_i e k xs lD Z
    cases o
    obtain⟨hd0,us,cells,ae,la,lm,e4⟩:=O.bu Z
    obtain⟨lE,lo⟩:=bf O R
    have W:Act.eval ⟨T,ah.D cx⟩ x=hd0:=(jZ (lo.symm.trans ae)).1
    obtain⟨_,_,_,lb,d2,X,lf⟩:=dk Y
    rcases la.2 with ⟨q,lv⟩|⟨g,cap,cur,q,_⟩
    ·refine fin (.int .i64 (xs.length:Int)) (.val (.int .i64) (xs.length:Int)) ?_ (da.2 rfl) rfl
     intro w'
     rw[lv]
     exact len none 0 0 lb (by rw[W,q]) X w'
    ·exact fin (.int .i64 (xs.length:Int)) (.val (.int .i64) (xs.length:Int)) (len _ _ _ lb (by rw[W,q]) X) (da.2 rfl) rfl
   ·rename_i b i u R Y
    split at o
    case h_2=>cases o
    rename_i e k xs a lG Z
    split at o
    case h_2=>cases o
    rename_i lH _
    split at o
    case h_2=>cases o
    rename_i lc lq
    cases o
    obtain⟨g,cap,cur,us,c1,c,c2,lI,v,lJ,f1,f2,f3,f4,f5,f6,f7,f8,f9,f10,f11,f12,f13,f14,f15⟩:=O.mr Z (kb ld.1)
    obtain⟨lK,cells,lh,lr,lL,lM⟩:=xD f13
    rw[lq]at lh
    cases lh
    obtain⟨lk,lw,t2,t3⟩:=bf O R
    have W:Act.eval ⟨T,ah.D cx⟩ x=v:=by
     rw[f1]at t2
     rw[<-(jZ t2).2,f10,<-f11]at t3
     simpa using t3.symm
    obtain⟨_,_,_,lb,d2,X,lf⟩:=dk Y
    rcases lr.2 with ⟨q,lv⟩|⟨g,cap,cur,q,_⟩
    ·refine fin (.int .i64 ((e1 lc).length:Int)) (.val (.int .i64) ((e1 lc).length:Int)) ?_ (da.2 rfl) rfl
     intro w'
     rw[show(e1 lc).length=0 from lv]
     exact len none 0 0 lb (by rw[W,q]) X w'
    ·exact fin (.int .i64 ((e1 lc).length:Int)) (.val (.int .i64) ((e1 lc).length:Int)) (len _ _ _ lb (by rw[W,q]) X) (da.2 rfl) rfl
   ·cases o
  ·cases o
 ·cases o
theorem VX{E:Env}(q:bE E cx)(h:ak cx st T w){aa:Oper}{orc:List al}{st':af}{orc':List al}{ob:List Prop}(o:Aw E st aa orc=some (st',orc',ob))(U:bP ob)
  {K:Act->World->Prop}{Q:Exit->Act->World->Prop}(W:∀Y w',ak cx st' Y w'->K ⟨Y,ah.D cx⟩ w'):aa.wp cx.P ⟨T,ah.D cx⟩ w K Q:=by
 obtain⟨m,R⟩:=h
 unfold Aw at o
 split at o
 ·rename_i ai
  split at o
  case h_2=>cases o
  rename_i t x y Z
  rw[<-q.P,<-q.n]at o
  obtain⟨w',aI,X,lb⟩:∃w' aI,(Instr.storeAt t (Act.eval ⟨T,ah.D cx⟩ x) (Act.eval ⟨T,ah.D cx⟩ y)).run cx.P w=.ok () w'/\an cx aI st' T w':=by
   split at o
   ·rename_i r O
    cases o
    exact Pm R O U
   ·obtain⟨w',aC,aA⟩:=Uc R o
    exact⟨w',m,aC,aA⟩
  unfold Oper.wp
  have O:(execOp (Act.eval ⟨T,ah.D cx⟩) aa).run cx.P w=.ok .skip w':=by
   simp only[execOp,Z,Sem.run_bind,X,Result.andThen_ok,Sem.run_pure]
  rw[O]
  show K (Act.put ⟨T,ah.D cx⟩ aa.dst undef) w'
  rw[ai]
  exact W T w' ⟨aI,lb⟩
 ·rename_i d ai
  split at o
  case h_1=>cases o
  rename_i lc
  have ld:d<cx.n:=by rw[q.n];exact cR lc
  split at o
  ·rename_i r O
   cases o
   rw[<-q.P]at O
   obtain⟨v,X,le⟩:=Eg R O U
   refine gT (X w (Ext.refl w)) ?_
   rw[ai]
   exact W _ _ ⟨m,R.put ld le⟩
  split at o
  ·rename_i c Z
   split at o
   ·rename_i a y lk ll
    split at o
    case h_2=>cases o
    rename_i b i lf
    split at o
    case h_2=>cases o
    rename_i lm ln lo la
    split at o
    case h_2=>cases o
    rename_i lp lq lr lg
    cases o
    obtain⟨lh,li⟩:=xv U
    rw[<-q.n]at la
    obtain⟨aI,lj⟩:=TL R lf la lh
    exact uK q ⟨aI,lj⟩ lg li W
   ·cases o
  ·cases o
end Go.Ev
namespace Go.Ev
open Go Go.RowKit
variable [b8]
variable {cx:bI} {m aI:Nat->Value} {st st':af} {T:Array Value} {w w':World}
variable [ah cx]
theorem Gv{M:Nat->Prop}{e:Nat}{t:ag}{v:Value}{cells:List Value}{xs:List t.el}(h:w.ownsRow 0 e t.cells v xs.length cells)(O:bL (aJ w M t) cells xs)(R:∀g,aY v=some g->¬M g):aJ w M (.ab t) [v] xs:=by
 rcases h.2 with ⟨o,U⟩|⟨g,cap,cur,o,_,Z,W,X,la,lb⟩
 ·have Y:xs=[]:=List.eq_nil_of_length_eq_zero U
  rw[Y,o]
  exact⟨none,0,[],rfl,Nat.le_refl _,by decide,fun _=>rfl,rfl,fun j u q=>by simp at q⟩
 ·exact⟨some ⟨g,0,none⟩,cap,cells,by rw[o],W,X,(fun e=>by cases e),O,fun j u q=>⟨_,rfl,h.cells (g:=g) (by rw[o];rfl) j u q,R g (by rw[o];rfl)⟩⟩
theorem al.XU{t:ag}{a x y:t.el}(h:al.as ⟨t,a⟩ t=some y):al.as ⟨t,x⟩ t=some x:=by
 have q:t.beq t=true:=by
  unfold al.as at h
  split at h
  ·assumption
  ·cases h
 unfold al.as
 split
 ·rfl
 ·rename_i o;rw[q]at o;cases o
theorem RE:∀(t:ag) {x q:t.el} {off:Nat} {e:ag} {a O:List e.el},cm t x off ⟨.ab e,a⟩=some q->cM t x off (.ab e)=some O->cm t q off ⟨.ab e,O⟩=some x:=by
 intro t
 induction t with
 |ab t X=>
  intro x q off e a O o R
  obtain⟨rfl,ae⟩:=eI (t:=.ab t) o
  obtain⟨_,W⟩:=gP (t:=.ab t) R
  cases ae
  cases W
  exact al.XU (t:=.ab t) o
 |int k=>intro x q off e a O o;obtain⟨_,ae⟩:=eI (t:=.int k) o;cases ae
 |bool=>intro x q off e a O o;obtain⟨_,ae⟩:=eI (t:=.bool) o;cases ae
 |str=>intro x q off e a O o;obtain⟨_,ae⟩:=eI (t:=.str) o;cases ae
 |ptr t X=>intro x q off e a O o;obtain⟨_,ae⟩:=eI (t:=.ptr t) o;cases ae
 |fn f t X=>intro x q off e a O o;obtain⟨_,ae⟩:=eI (t:=.fn f t) o;cases ae
 |err=>intro x q off e a O o;obtain⟨_,ae⟩:=eI (t:=.err) o;cases ae
 |ck=>intro x q off e a O o;obtain⟨_,ae⟩:=eI (t:=.ck) o;cases ae
 |cE=>intro x q off e a O o;obtain⟨_,ae⟩:=eI (t:=.cE) o;cases ae
 |cB n t X=>intro x q off e a O o;obtain⟨_,ae⟩:=eI (t:=.cB n t) o;cases ae
 |alt n t r _ _=>intro x q off e a O o;obtain⟨_,ae⟩:=eI (t:=.alt n t r) o;cases ae
 |map p la _ _=>intro x q off e a O o;obtain⟨_,ae⟩:=eI (t:=.map p la) o;cases ae
 |unit=>intro x q off e a O o;obtain⟨_,ae⟩:=eI (t:=.unit) o;cases ae
 |arr n t X=>
  intro x q off e a O o R
  unfold cm at o⊢
  unfold cM at R
  split at o
  ·rename_i y Y U;have:=al.dj U;cases this
  ·split at R
   ·rename_i y Y U;obtain⟨_,W⟩:=gP (t:=.arr n t) (off:=0) (by rw[show Nat.beq 0 0=true from rfl,cond_true];exact U);cases W
   split
   ·rename_i y Y U;have:=al.dj U;cases this
   cases ld:Nat.beq t.cells 0 with
   |true=>rw[ld]at o;cases o
   |false=>
    rw[ld,cond_false]at o R
    rw[cond_false]
    split at o
    ·rename_i z lb
     rw[lb]at R
     split at o
     ·rename_i lc lg
      cases o
      have lh:=(List.getElem?_eq_some_iff.1 lb).1
      have le:(List.set (show List t.el from x) (off/t.cells) lc)[off/t.cells]? =some lc:=by rw[List.getElem?_set_self lh]
      simp only[]at R
      have:=X lg R
      split
      ·rename_i z2 Z
       have W:z2=lc:=by rw[le]at Z;cases Z;rfl
       subst W
       rw[this]
       exact congrArg some ((List.set_set ..).trans (zt lb))
      ·rename_i Z
       rw[le]at Z
       cases Z
     ·cases o
    ·cases o
 |pair p la li lj=>
  intro x q off e a O o R
  unfold cm at o⊢
  unfold cM at R
  split at o
  ·rename_i y Y U;have:=al.dj U;cases this
  ·split at R
   ·rename_i y Y U;obtain⟨_,W⟩:=gP (t:=.pair p la) (off:=0) (by rw[show Nat.beq 0 0=true from rfl,cond_true];exact U);cases W
   split
   ·rename_i y Y U;have:=al.dj U;cases this
   cases lf:Nat.blt off p.cells with
   |true=>
    rw[lf,cond_true]at o R
    rw[cond_true]
    split at o
    ·rename_i y U
     cases o
     rw[li U R]
     rfl
    ·cases o
   |false=>
    rw[lf,cond_false]at o R
    rw[cond_false]
    split at o
    ·rename_i y U
     cases o
     rw[lj U R]
     rfl
    ·cases o
theorem Lz{M M':Nat->Prop}{k:ee}(o:∀b,b<w.heap.size->M' b->M b):∀{xs:List k.u.el} {n:Nat} {cs us:List Value},(∀u,u∈us->∀g,aY u=some g->¬M' g)->fF w M k none n xs cs us->bL (aJ w M' k.u) cs xs
 |[],_,cs,us,_,⟨h,_⟩=>h
 |x::xs,n,cs,us,q,⟨c,d,v,vs,ae,le,R,e4,U⟩=>by
  subst R
  refine⟨c,d,ae,?_,Lz o (fun u W=>q u (List.mem_cons_of_mem _ W)) U⟩
  obtain⟨L,v1,lf,X,lg,lh,Y,Z,li,la⟩:=e4
  obtain⟨rfl,O,cells,lb,cS,eU⟩:=la fun⟨_,h,_⟩=>by cases h
  have lc:aJ w M' (.ab k.t) [v] O:=Gv cS (dy (fun _ _=>cI (fun _ _ _=>rfl) o k.t) eU) (q v List.mem_cons_self)
  obtain⟨c1,c2,c3,ld,a2,a3,a4⟩:=qx (v:=⟨.ab k.t,O⟩) lc k.u (cI (fun _ _ _=>rfl) o k.u Z) (RE k.u Y lb)
  obtain⟨z,rfl⟩:=List.length_eq_one_iff.1 (show c2.length=1 from a3)
  rw[X,ld,<-a2]
  have:(c1++[z]++c3).set c1.length v=c1++[v]++c3:=by simp
  rw[this]
  exact a4
def ao.RU(b:Nat)(k:ee)(xs:List k.u.el):ao->ao
 |.osl c=>bif Nat.beq c b then .val (.ab k.u) xs else .osl c
 |s=>s.dK [b]
def af.nk(st:af)(b:Nat)(k:ee)(xs:List k.u.el):af:=st.dL [b] [] [] (ao.RU b k xs)
theorem an.nk(h:an cx m st T w){b e:Nat}{k:ee}{xs:List k.u.el}(O:look st.ad b=some (.bu e k xs none)):an cx m (st.nk b k xs) T w:=by
 obtain⟨ai,us,cells,ae,Y,Z,e4⟩:=h.bu O
 have R:b∈st.ids:=List.mem_append.2 (.inl (List.mem_map.2 ⟨_,bc O,rfl⟩))
 have X:iy cx m m st w w [b] [] []:=⟨⟨rfl,rfl,rfl,Nat.le_refl _,fun _=>Nat.le_refl _⟩,fun _ _ _=>rfl,fun _ _ _=>rfl,fun i hi=>(by rcases hi with hi|hi<;>cases hi),fun i j hi=>(by rcases hi with hi|hi<;>cases hi),List.nodup_nil,fun i hi=>(by rcases hi with hi|hi<;>cases hi),fun _ _ hi _=>(by cases hi),fun _ _ hi=>(by cases hi)⟩
 have U:∀g,own (m b) g->¬av cx m (st.nk b k xs).ids g:=by
  rintro g o (la|⟨i,hi,lb⟩)
  ·have lc:=h.outer g la
   rcases(h.lt R o).2 with W|W
   ·omega
   ·exact lc.2 W
  ·rcases qI.1 hi with (hi|hi)|⟨hi,ld⟩
   ·cases hi
   ·cases hi
   ·exact h.apart i b hi R (fun e=>ld (by rw[e];exact List.mem_singleton.2 rfl)) g lb o
 refine h.BQ X (fun v s q=>?_) (fun _ _ hi=>(by cases hi)) (fun _ _ hi=>(by cases hi))
 have le:aT w (av cx m (st.nk b k xs).ids) m v (s.dK [b]):=nZ (fun _ _=>rfl) q
 cases s with
 |osl c=>
  show aT _ _ _ _ (bif Nat.beq c b then .val (.ab k.u) xs else .osl c)
  cases lf:Nat.beq c b with
  |false=>exact q
  |true=>
   have e:=Nat.eq_of_beq_eq_true lf
   subst e
   obtain⟨lk,lg⟩:=q
   have lh:=(jZ (lg.symm.trans ae)).1
   subst lh
   refine Gv Y (Lz (fun _ _ li=>X.mut _ ‹_› li) (fun u lj g o=>U g ?_) Z) fun g o=>U g ?_
   ·rw[ae];exact dr.2 (.inr ⟨u,lj,o⟩)
   ·rw[ae];exact dr.2 (.inl o)
 |_=>exact le
def yI:af->List Operand->af
 |st,[]=>st
 |st,x::l=>yI (match aS st x with
  |some (.osl b)=>match look st.ad b with
   |some (.bu _ k xs none)=>st.nk b k xs
   |_=>st
  |_=>st) l
theorem Ms:∀{l:List Operand} {st:af},an cx m st T w->an cx m (yI st l) T w
 |[],_,h=>h
 |x::l,st,h=>by
  refine Ms (l:=l) ?_
  split
  ·split
   ·rename_i o;exact h.nk o
   ·exact h
  ·exact h
def Bw:List (Nat×bQ)->af->af
 |[],st=>st
 |(b,_)::l,st=>Bw l (match look st.ad b with|some (.bu _ k xs none)=>st.nk b k xs|_=>st)
theorem HO:∀{l:List (Nat×bQ)} {st:af},an cx m st T w->an cx m (Bw l st) T w
 |[],_,h=>h
 |(b,c)::l,st,h=>by
  refine HO (l:=l) ?_
  split
  ·rename_i o;exact h.nk o
  ·exact h
def oR(off:Nat)(t:ag):Nat->List bV->Option (List ao)
 |_,[]=>some []
 |n,.v u::l=>match oR off t (n+1) l with
  |some r=>some (.val u.t u.x::r)
  |none=>none
 |n,.r _::l=>match Nat.beq n off,oR off t (n+1) l with
  |true,some r=>some (.val (.ab t) []::r)
  |_,_=>none
 |_,_=>none
theorem Bf{M:Nat->Prop}{off b:Nat}{t:ag}:∀{n:Nat} {cs:List Value} {l:List bV} {r:List ao},oR off t n l=some r->de w M m cs l->
  (n<=off->l[off-n]? =some (.r b)->ct w M m (cs.set (off-n) (.slice none 0 0)) r)/\(off<n->ct w M m cs r)
 |n,[],[],r,h,_=>by cases h;exact⟨fun _ h=>by simp at h,fun _=>trivial⟩
 |n,[],x::_,_,_,h=>by cases x<;>exact h.elim
 |n,_::_,[],_,_,h=>h.elim
 |n,c::cs,.v u::l,r,h,⟨o,q⟩=>by
  unfold oR at h
  split at h
  ·rename_i W O
   cases h
   obtain⟨aC,aA⟩:=Bf (b:=b) O q
   refine⟨fun R U=>?_,fun R=>⟨o,aA (by omega)⟩⟩
   by_cases X:n=off
   ·subst X;simp at U
   ·have e:off-n=(off-(n+1))+1:=by omega
    rw[e]at U⊢
    exact⟨o,aC (by omega) (by simpa using U)⟩
  ·cases h
 |n,c::cs,.r la::l,r,h,⟨o,q⟩=>by
  unfold oR at h
  split at h
  ·rename_i W Y O
   cases h
   have e:=Nat.eq_of_beq_eq_true Y
   subst e
   obtain⟨aC,aA⟩:=Bf (b:=b) O q
   refine⟨fun _ _=>?_,fun R=>absurd R (Nat.lt_irrefl _)⟩
   rw[Nat.sub_self]
   exact⟨(bA (t:=.ab t) rfl).2 ⟨none,0,[],rfl,Nat.le_refl _,by decide,fun _=>rfl,rfl,fun j v Z=>by simp at Z⟩,aA (Nat.lt_succ_self _)⟩
  ·cases h
 |n,_::_,.a::_,_,h,_=>by cases h
theorem Mi{M:Nat->Prop}:∀{cs:List Value} {l:List bV} {i b:Nat},de w M m cs l->l[i]? =some (.r b)->cs[i]? =some (m b)
 |[],[],i,b,_,h=>by simp at h
 |[],x::_,_,_,h,_=>by cases x<;>exact h.elim
 |_::_,[],_,_,h,_=>h.elim
 |c::cs,x::l,0,b,h,hi=>by
  simp at hi
  subst hi
  rw[h.1]
  rfl
 |c::cs,x::l,i+1,b,h,hi=>by
  have o:de w M m cs l:=by cases x with
   |v u=>exact h.2
   |r r=>exact h.2
   |a=>exact h
  have:=Mi (i:=i) o (by simpa using hi)
  simpa using this
end Go.Ev
namespace Go.Ev
open Go Go.RowKit
variable [b8]
variable {cx:bI} {m aI:Nat->Value} {st st':af} {T:Array Value} {w w':World}
variable [ah cx]
def EZ(P:Program)(st:af)(aa:Oper)(d:Nat):Option (af×List Prop):=
 match aa.op with
 |.buildSlice t n ps=>match ps.toList,n with
  |[(0,x)],1=>match aS st x,dY P t with
   |some (.eZ l),some (e,u)=>match oz P e,zeroOf P e with
    |some k,some _=>match l[k.off]?,oR k.off k.t 0 l,u.beq k.u&&Nat.ble u.cells 16777216 with
     |some (.r r),some R,true=>match look st.rw r,pack k.u R with
      |some c,some (q,[])=>match al.as ⟨.ab c.t,c.xs⟩ (.ab k.t),Nat.beq c.e k.e with
       |some O,true=>match cm k.u q k.off ⟨.ab k.t,O⟩with
        |some o=>some ((st.dL [d,r] [(d,.bu e k [o] none)] [] (ao.dK [d,r])).put d (.osl d),[cm k.u o k.off ⟨.ab k.t,[]⟩=some q,cM k.u o k.off (.ab k.t)=some O])
        |none=>none
       |_,_=>none
      |_,_=>none
     |_,_,_=>none
    |_,_=>none
   |_,_=>none
  |_,_=>none
 |_=>none
theorem SX(h:an cx m st T w){aa:Oper}{d:Nat}(ai:d<cx.n){ob:List Prop}(o:EZ cx.P st aa d=some (st',ob))(lv:bP ob):
  ∃v w' aI,(execOp (Act.eval ⟨T,ah.D cx⟩) aa).run cx.P w=.ok (.value v) w'/\an cx aI st' (T.setIfInBounds d v) w':=by
 unfold EZ at o
 split at o
 case h_2=>cases o
 rename_i t n ps lw
 split at o
 case h_2=>cases o
 rename_i x lx
 split at o
 case h_2=>cases o
 rename_i l e u ly lz
 split at o
 case h_2=>cases o
 rename_i k l6 q lA
 split at o
 case h_2=>cases o
 rename_i r l7 lg lB aM
 split at o
 case h_2=>cases o
 rename_i c lC Z lD
 split at o
 case h_2=>cases o
 rename_i lE lF lG
 split at o
 case h_2=>cases o
 rename_i lh l8
 cases o
 simp only[Bool.and_eq_true]at aM
 obtain rfl:=ag.eq_of_beq aM.1
 have l9:=Nat.le_of_ble_eq_true aM.2
 obtain⟨lH,lI,_⟩:=lv
 have lJ:=BU (Nat.eq_of_beq_eq_true lG) lF
 subst lJ
 obtain⟨vs,lK,li⟩:=bf h ly
 have lj:=Mi li lg
 have lk:=(Bf (b:=r) lB li).1 (Nat.zero_le _) lg
 rw[Nat.sub_zero]at lk
 obtain⟨c1,c2,ll,lm,la⟩:=rh k.u lk lD
 have la:c2=[]:=List.eq_nil_of_length_eq_zero (mv la)
 subst la
 rw[List.append_nil]at ll
 subst ll
 have R:vs.length=k.u.cells:=by rw[<-cf k.u lm,List.length_set]
 obtain⟨cells,lL,ab,lM⟩:=h.rows r _ (bc Z)
 have ln:r∈st.ids:=List.mem_append.2 (.inr (List.mem_map.2 ⟨_,bc Z,rfl⟩))
 have lN:=row_one h (bc Z)
 obtain⟨lb,lO,ad⟩:=jz lz
 obtain⟨ae,lP,_,lQ,_,lR,af⟩:=kg lA
 -- the run
 have lS:(execOp (Act.eval ⟨T,ah.D cx⟩) aa).run cx.P w=.ok (.value (.slice (some ⟨w.heap.size,0,none⟩) 1 1)) (w.alloc (.cells vs.toArray e)):=by
  refine cn (s:=Instr.buildSlice t 1 (ps.map fun p=>(p.1,Act.eval ⟨T,ah.D cx⟩ p.2))) (by simp only[execOp,lw]) ?_
  have lT:¬(1*k.u.cells>2^24):=by omega
  have lU:¬(1*k.u.cells=0):=by omega
  have lV:(zeroValue e).run cx.P w=.ok lP w:=by simp[zeroValue,typeInfo,lQ,lR]
  have lW:(ps.map fun p=>(p.1,Act.eval ⟨T,ah.D cx⟩ p.2)).toList=[(0,Value.agg vs.toArray)]:=by rw[Array.toList_map,lx];simp[lK]
  have lX:∀z:Array Value,z.size=k.u.cells->Instr.fill (fun i=>some (i*k.u.cells,k.u.cells)) z [(0,Value.agg vs.toArray)]=some vs.toArray:=by
   intro z lo
   rw[Instr.fill]
   simp only[]
   have lY:(Value.agg vs.toArray).cells=vs.toArray:=rfl
   rw[lY,if_neg (by simp[R,lo]),Instr.fill]
   have:=xI vs [] [] z.toList (by rw[Array.length_toList,lo,R])
   simp at this
   simp[this]
  simp only[Instr.buildSlice,Sem.run_bind,run_underlying lb,Result.andThen_ok,fa lO,if_neg lT,if_neg lU,lV,Sem.run_pure,lW]
  rw[lX _ (by simp)]
  simp only[Sem.run_bind,Sem.run_pure,Result.andThen_ok,newRow,run_newObj_alloc]
 have lZ:(w.alloc (.cells vs.toArray e)).ownsRow 0 e k.u.cells (.slice (some ⟨w.heap.size,0,none⟩) 1 1) [lh].length vs:=
  ⟨by simp[R],.inr ⟨w.heap.size,1,vs.toArray,rfl,Nat.zero_le _,heap_alloc_new w _,Nat.le_refl _,by decide,by simp[R],by simp[<-R]⟩⟩
 obtain⟨v2,W⟩:∃v2,v2=Value.tuple (.slice (some ⟨w.heap.size,0,none⟩) 1 1::[m r]).toArray:=⟨_,rfl⟩
 have lc:Ext w (w.alloc (.cells vs.toArray e)):=iU _ _
 have lp:∀b,aY (m r)=some b->b<w.heap.size:=fun b ld=>(h.lt ln (gQ ld)).1
 have X:iy cx m (bG m d v2) st w (w.alloc (.cells vs.toArray e)) [d,r] [(d,.bu e k [lh] none)] []:={
  same:=lc.toSame
  block:=fun lq q _=>lc.block lq q
  old:=fun j _ O=>cX _ _ fun e=>O (by simp[e])
  new:=fun j O lq q=>by
   have:j=d:=by simpa using O
   subst this
   rw[b7,W]at q
   rcases dr.1 q with q|⟨u,lb,q⟩
   ·cases q;exact .inr ⟨Nat.le_refl _,by simp⟩
   ·have:u=m r:=by simpa using lb
    subst this
    exact .inl ⟨r,by simp,ln,gQ q⟩
  apart:=fun j l0 O l3 aj=>by
   have:j=d:=by simpa using O
   have:l0=d:=by simpa using l3
   omega
  keys:=by simp
  nj:=fun j O _=>by
   have:j=d:=by simpa using O
   simp[this]
  nu:=fun lr c' U Y=>by simp at U;rw[U.2]at Y;cases Y
  gd:=fun l4 c' le=>by cases le}
 refine⟨_,_,bG m d v2,lS,(h.dL X (fun M v s l5=>nZ (fun j O=>cX _ _ fun e=>O (by simp[e])) l5) (fun lr c' U=>?_) (fun l4 c' le=>by cases le)).put ai ⟨[m r],by rw[b7,W]⟩⟩
 simp only[List.mem_cons,Prod.mk.injEq,List.not_mem_nil,or_false]at U
 obtain⟨rfl,rfl⟩:=U
 rw[b7]
 have ls:=X.mut (f:=ao.dK [lr,r])
 have lt:=X.keeps
 refine⟨0,⟨_,_,W⟩,_,[m r],vs,W,lZ,⟨vs,[],m r,[],by simp,R,rfl,?_,rfl,rfl⟩,?_⟩
 ·refine⟨vs.set k.off (.slice none 0 0),m r,lC,?_,?_,lN,lH,cI lt ls k.u lm,(fun⟨_,Y,_⟩=>by cases Y),fun _=>⟨rfl,lE,cells,lI,qH lL fun b ld=>lc.block b (lp b ld),dy (fun _ _=>cI lt ls k.t) lM⟩⟩
  ·rw[List.set_set,zt lj]
  ·rw[List.getElem?_set_self (List.getElem?_eq_some_iff.1 lj).1]
 ·have lu:aY (Value.slice (some ⟨w.heap.size,0,none⟩) 1 1)=some w.heap.size:=rfl
  cases lf:aY (m r)with
  |none=>rw[List.filterMap_cons_some lu,List.filterMap_cons_none lf];exact List.nodup_cons.2 ⟨by simp,List.nodup_nil⟩
  |some b=>
   have:=lp b lf
   rw[List.filterMap_cons_some lu,List.filterMap_cons_some lf]
   exact List.nodup_cons.2 ⟨by simp;omega,List.nodup_cons.2 ⟨by simp,List.nodup_nil⟩⟩
def Fu(k aA:ee):Bool:=aA.u.beq k.u&&(Nat.beq aA.off k.off&&(Nat.beq aA.e k.e&&aA.t.beq k.t))
theorem VF{k aA:ee}(h:Fu k aA=true):aA=k:=by
 obtain⟨u,off,e,t⟩:=k
 obtain⟨U,W,X,t2⟩:=aA
 simp only[Fu,Bool.and_eq_true]at h
 obtain⟨o,q,O,R⟩:=h
 obtain rfl:=ag.eq_of_beq o
 obtain rfl:=ag.eq_of_beq R
 rw[Nat.eq_of_beq_eq_true q,Nat.eq_of_beq_eq_true O]
theorem Hi{n:Nat}:¬iV none n:=fun⟨_,h,_⟩=>by cases h
theorem Hk{M:Nat->Prop}{k:ee}:∀{xs o:List k.u.el} {n q:Nat} {cs O us R:List Value},fF w M k none n xs cs us->fF w M k none q o O R->fF w M k none n (xs++o) (cs++O) (us++R)
 |[],o,n,q,cs,O,us,R,⟨Z,la⟩,U=>by
  subst Z
  subst la
  have key:∀{o:List k.u.el} {n q:Nat} {cs us:List Value},fF w M k none q o cs us->fF w M k none n o cs us:=by
   intro o
   induction o with
   |nil=>intro n q cs us h;exact h
   |cons y o lb=>
    rintro n q cs us ⟨c,d,v,vs,ae,W,X,e4,Y⟩
    exact⟨c,d,v,vs,ae,W,X,AQ (fun _ _ _=>rfl) (fun _ _ h=>h) ⟨fun h=>absurd h Hi,fun h=>absurd h Hi⟩ (fun _ _=>rfl) e4,lb Y⟩
  exact key U
 |x::xs,o,n,q,cs,O,us,R,⟨c,d,v,vs,ae,W,X,e4,Y⟩,U=>by
  subst ae
  subst X
  exact⟨c,d++O,v,vs++R,by simp,W,rfl,e4,Hk Y U⟩
theorem Kv{M:Nat->Prop}{k:ee}:∀{xs:List k.u.el} {n:Nat} {cs us:List Value},fF w M k none n xs cs us->∀v∈cs,v.oneCell'=true
 |[],n,cs,us,⟨h,_⟩,v,o=>by subst h;cases o
 |x::xs,n,cs,us,⟨c,d,u,vs,ae,W,X,e4,q⟩,v,o=>by
  subst ae
  rcases List.mem_append.1 o with o|o
  ·obtain⟨L,v1,Y,O,Z,R,la,U,_⟩:=e4
   rw[O]at o
   rcases List.mem_or_eq_of_mem_set o with o|rfl
   ·exact hZ k.u U v o
   ·exact R
  ·exact Kv q v o
def A3(P:Program)(st:af)(c:Call)(d:Nat):Option (af×List Prop):=
 match c.callee,c.args.toList,c.argTypes.toList with
 |.builtin .append,[.tmp a,y],[t,O]=>match look st.ab a,aS st y with
  |some (.osl b),some (.osl o)=>match look st.ad b,look st.ad o,dY P t,dY P O with
   |some (.bu e k xs none),some (.bu R aA U none),some (W,u),some _=>match Fu k aA&&(Nat.beq e R&&(Nat.beq e W&&(u.beq k.u&&(!(Nat.beq b o)&&oe P e)))),al.as ⟨.ab aA.u,U⟩ (.ab k.u),zeroOf P e with
    |true,some q,some X=>match X.beq k.u with
     |true=>some ((st.dL [b,o] [(b,.bu e k (xs++e1 q) none)] [] (ao.dK [b,o])).put d (.osl b),[xs.length+(e1 q).length<=bC])
     |false=>none
    |_,_,_=>none
   |_,_,_,_=>none
  |_,_=>none
 |_,_,_=>none
theorem O7(h:an cx m st T w){aa:Oper}{c:Call}{d:Nat}(lQ:aa.op=.call c)(ai:d<cx.n){ob:List Prop}(R:A3 cx.P st c d=some (st',ob))(lm:bP ob):
  ∃v w' aI,(execOp (Act.eval ⟨T,ah.D cx⟩) aa).run cx.P w=.ok (.value v) w'/\an cx aI st' (T.setIfInBounds d v) w':=by
 unfold A3 at R
 split at R
 case h_2=>cases R
 rename_i a y t lC lD lE lF
 split at R
 case h_2=>cases R
 rename_i b lb lR lS
 split at R
 case h_2=>cases R
 rename_i e k xs aN aA U aO u lT lG lH lU lV
 split at R
 case h_2=>cases R
 rename_i aP aQ aM lW lX
 split at R
 case h_2=>cases R
 rename_i lY
 cases R
 simp only[Bool.and_eq_true,Bool.not_eq_true']at aM
 obtain⟨lt,lu,lv,lZ,l0,l3⟩:=aM
 have lt:=VF lt
 subst lt
 have eC:=al.dj lW
 cases eC
 have lu:=Nat.eq_of_beq_eq_true lu
 subst lu
 have lv:=Nat.eq_of_beq_eq_true lv
 subst lv
 obtain rfl:=ag.eq_of_beq lZ
 obtain rfl:=ag.eq_of_beq lY
 have lI:=beq_false l0
 have lm:=lm.1
 obtain⟨hu,aR,aS⟩:=jz lU
 obtain⟨aT,aU⟩:=lT
 obtain⟨l4,_,_⟩:=jz lV
 obtain⟨i,z,_,hi,lf,l5,l6⟩:=kg lX
 obtain⟨i2,lJ,l7⟩:=z7 l3
 rw[hi]at lJ
 cases lJ
 obtain⟨le,us,cells,lw,a2,a3,a4⟩:=h.bu lG
 obtain⟨lg,Z,ln,lK,lo,lp,lq⟩:=h.bu lH
 have lc:b∈st.ids:=List.mem_append.2 (.inl (List.mem_map.2 ⟨_,bc lG,rfl⟩))
 have lh:lb∈st.ids:=List.mem_append.2 (.inl (List.mem_map.2 ⟨_,bc lH,rfl⟩))
 have l8:Act.eval ⟨T,ah.D cx⟩ (.tmp a)=le:=by
  obtain⟨v,t1,l9,t2⟩:=h.cT a _ (bc lR)
  rw[Kw t1]
  exact(jZ (t2.symm.trans lw)).1
 have ab:Act.eval ⟨T,ah.D cx⟩ y=lg:=by
  obtain⟨l9,t2⟩:=bf h lS
  exact(jZ (t2.symm.trans lK)).1
 have ad:z.cells.size=i.size:=by rw[lf,<-cf aA.u (l6 w (av cx m st.ids))];simp
 have ae:=(EC lp).2
 have af:xs.length+U.length<=maxLen:=Nat.le_trans lm yo
 have aj:(xs.length+U.length)*i.bytes<=140737488355328:=by
  have O:xs.length+U.length<=2147483648:=lm
  calc (xs.length+U.length)*i.bytes<=2147483648*65536:=Nat.mul_le_mul O l7
   _=140737488355328:=by decide
 have ak:Builtin.lenOf lg=pure U.length:=by
  rcases lo.2 with ⟨la,li⟩|⟨g,cap,cur,la,_⟩
  ·rw[la,li];rfl
  ·rw[la];rfl
 have am:∀w',(∀b,b<w.heap.size->w'.heap[b]? =w.heap[b]?)->(Builtin.firstCells i.size U.length lg).run cx.P w'=.ok ln.toArray w':=by
  intro w' ap
  rw[lf]
  rcases lo.2 with ⟨la,li⟩|⟨g,cap,cur,la,_⟩
  ·have aq:U=[]:=List.eq_nil_of_length_eq_zero li
   subst aq
   have:ln=[]:=lp.1
   subst this
   rw[la];rfl
  ·rw[la]
   exact D5 (lo.cells (g:=g) (by rw[la];rfl)) lo.1 w' ap
 obtain⟨v',w',ar,au,aw,lx,lL⟩:=GN (P:=cx.P) (w:=w) t lC aa.type e i z hu (.inl ⟨_,l4⟩) hi l5 ad lg U.length ln ak am (by rw[lf];exact ae) (Kv lp) le xs.length cells (by rw[lf];exact a2) af aj
 have ax:(execOp (Act.eval ⟨T,ah.D cx⟩) aa).run cx.P w=.ok (.value v') w':=by
  obtain⟨aV,args,lM⟩:=c
  simp only at lD lE lF
  subst lD
  have ay:args=#[.tmp a,y]:=by rw[<-Array.toArray_toList (xs:=args),lE]
  have az:lM=#[t,lC]:=by rw[<-Array.toArray_toList (xs:=lM),lF]
  subst ay
  subst az
  simp only[execOp,lQ,resolve,invoke,builtin,Sem.run_bind,Sem.run_pure,Result.andThen_ok,List.map_toArray,List.map_cons,List.map_nil,l8,ab]
  simp only[ar,Sem.run_bind,Sem.run_pure,Result.andThen_ok]
 have lr:∀u,u∈us->∀g,aY u=some g->own (m b) g:=fun u hu g o=>by rw[lw];exact dr.2 (.inr ⟨u,hu,o⟩)
 have lj:∀u,u∈Z->∀g,aY u=some g->own (m lb) g:=fun u hu g o=>by rw[lK];exact dr.2 (.inr ⟨u,hu,o⟩)
 have ly:∀g,aY le=some g->own (m b) g:=fun g o=>by rw[lw];exact dr.2 (.inl o)
 have aC:∀u,u∈us->∀g,aY u=some g->aY le≠some g:=by
  intro u hu g o q
  rw[List.filterMap_cons_some q]at a4
  exact(List.nodup_cons.1 a4).1 (List.mem_filterMap.2 ⟨u,hu,o⟩)
 have lN:∀u,u∈Z->∀g,aY u=some g->aY le≠some g:=fun u hu g o q=>h.apart b lb lc lh lI g (ly g q) (lj u hu g o)
 have lz:∀u,u∈us\/u∈Z->∀g,aY u=some g->g<w.heap.size/\w'.heap[g]? =w.heap[g]? :=by
  rintro u (hu|hu) g o
  ·exact⟨(h.lt lc (lr u hu g o)).1,lx g (h.lt lc (lr u hu g o)).1 (aC u hu g o)⟩
  ·exact⟨(h.lt lh (lj u hu g o)).1,lx g (h.lt lh (lj u hu g o)).1 (lN u hu g o)⟩
 obtain⟨v2,ls⟩:∃v2,v2=Value.tuple (v'::(us++Z)).toArray:=⟨_,rfl⟩
 have X:iy cx m (bG m b v2) st w w' [b,lb] [(b,.bu e aA (xs++U) none)] []:={
  same:=aw
  block:=fun ld W li=>lx ld W fun q=>li b (by simp) lc (ly ld q)
  old:=fun j _ Y=>cX _ _ fun e=>Y (by simp[e])
  new:=fun j Y ld W=>by
   have:j=b:=by simpa using Y
   subst this
   rw[b7,ls]at W
   rcases dr.1 W with W|⟨u,hu,W⟩
   ·rcases lL ld W with O|O
    ·exact .inl ⟨j,by simp,lc,ly ld O⟩
    ·exact .inr O
   ·rcases List.mem_append.1 hu with hu|hu
    ·exact .inl ⟨j,by simp,lc,lr u hu ld W⟩
    ·exact .inl ⟨lb,by simp,lh,lj u hu ld W⟩
  apart:=fun j aB Y aD aW=>by
   have:j=b:=by simpa using Y
   have:aB=b:=by simpa using aD
   omega
  keys:=by simp
  nj:=fun j Y _=>by
   have:j=b:=by simpa using Y
   simp[this]
  nu:=fun lA c' lk O=>by simp at lk;rw[lk.2]at O;cases O
  gd:=fun aE c' lB=>by cases lB}
 refine⟨_,_,bG m b v2,ax,(h.dL X (fun M v s aF=>nZ (fun j Y=>cX _ _ fun e=>Y (by simp[e])) aF) (fun lA c' lk=>?_) (fun aE c' lB=>by cases lB)).put ai ⟨us++Z,by rw[b7,ls]⟩⟩
 simp only[List.mem_cons,Prod.mk.injEq,List.not_mem_nil,or_false]at lk
 obtain⟨rfl,rfl⟩:=lk
 rw[b7]
 have lO:=X.mut (f:=ao.dK [lA,lb])
 have lP:=X.keeps
 refine⟨0,⟨_,_,ls⟩,v',us++Z,cells++ln,ls,by rw[List.length_append,<-lf];exact au,?_,?_⟩
 ·exact Hk (r8 lP lO (fun _ _=>Iff.rfl) (fun u hu g o=>(lz u (.inl hu) g o).2) a3) (r8 lP lO (fun _ _=>Iff.rfl) (fun u hu g o=>(lz u (.inr hu) g o).2) lp)
 ·have aG:(us.filterMap aY).Nodup:=by
   cases q:aY le with
   |none=>rw[List.filterMap_cons_none q]at a4;exact a4
   |some g=>rw[List.filterMap_cons_some q]at a4;exact(List.nodup_cons.1 a4).2
  have aH:(Z.filterMap aY).Nodup:=by
   cases q:aY lg with
   |none=>rw[List.filterMap_cons_none q]at lq;exact lq
   |some g=>rw[List.filterMap_cons_some q]at lq;exact(List.nodup_cons.1 lq).2
  have n3:((us++Z).filterMap aY).Nodup:=by
   rw[List.filterMap_append,List.nodup_append]
   refine⟨aG,aH,fun g o aX aJ e=>?_⟩
   subst e
   obtain⟨u,hu,O⟩:=List.mem_filterMap.1 o
   obtain⟨aK,aL,ll⟩:=List.mem_filterMap.1 aJ
   exact h.apart lA lb lc lh lI g (lr u hu g O) (lj aK aL g ll)
  cases q:aY v' with
  |none=>rw[List.filterMap_cons_none q];exact n3
  |some g=>
   rw[List.filterMap_cons_some q]
   refine List.nodup_cons.2 ⟨fun o=>?_,n3⟩
   obtain⟨u,hu,O⟩:=List.mem_filterMap.1 o
   have hu:=List.mem_append.1 hu
   rcases lL g q with ll|ll
   ·rcases hu with hu|hu
    ·exact aC u hu g O ll
    ·exact lN u hu g O ll
   ·have:=(lz u hu g O).1
    omega
def AR(E:Env)(st:af)(aa:Oper)(orc:List al):Option (af×List al×List Prop):=
 match aa.dst with
 |some d=>match Nat.blt d E.n with
  |true=>match aa.op with
   |.call c=>match A3 E.P st c d with
    |some (s,ob)=>some (s,orc,ob)
    |none=>none
   |_=>match EZ E.P st aa d with
    |some (s,ob)=>some (s,orc,ob)
    |none=>none
  |false=>none
 |none=>none
theorem XN{E:Env}(W:bE E cx)(h:ak cx st T w){aa:Oper}{orc:List al}{st':af}{orc':List al}{ob:List Prop}(o:AR E st aa orc=some (st',orc',ob))(X:bP ob)
  {K:Act->World->Prop}{Q:Exit->Act->World->Prop}(la:∀Y w',ak cx st' Y w'->K ⟨Y,ah.D cx⟩ w'):aa.wp cx.P ⟨T,ah.D cx⟩ w K Q:=by
 obtain⟨m,Z⟩:=h
 unfold AR at o
 split at o
 case h_2=>cases o
 rename_i d ai
 split at o
 case h_2=>cases o
 rename_i q
 have q:d<cx.n:=by rw[W.n];exact cR q
 rw[<-W.P]at o
 have fin:∀v w' aI,(execOp (Act.eval ⟨T,ah.D cx⟩) aa).run cx.P w=.ok (.value v) w'->an cx aI st' (T.setIfInBounds d v) w'->aa.wp cx.P ⟨T,ah.D cx⟩ w K Q:=by
  intro v w' aI lb lc
  refine gT lb ?_
  rw[ai]
  exact la _ _ ⟨aI,lc⟩
 split at o
 ·rename_i c ld
  split at o
  case h_2=>cases o
  rename_i s le O
  cases o
  obtain⟨v,w',aI,R,U⟩:=O7 Z ld q O X
  exact fin v w' aI R U
 ·split at o
  case h_2=>cases o
  rename_i s le O
  cases o
  obtain⟨v,w',aI,R,U⟩:=SX Z q O X
  exact fin v w' aI R U
def ag.zB:ag->Bool
 |.ck=>true
 |.pair a b=>zB a||zB b
 |.arr _ a=>zB a
 |_=>false
def RX(P:Program)(aa:Oper):Bool:=match aa.op with
 |.build t _=>match ty P t with
  |some u=>u.zB
  |none=>false
 |_=>false
def Ma(E:Env)(st:af)(aa:Oper)(orc:List al):Option (af×List al×List Prop):=match RX E.P aa with
 |true=>tg E st aa orc
 |false=>match aa.op,orc with
  |.build _ _,⟨.unit,()⟩::orc'=>tg E st aa orc'
  |_,_=>none
def mK(E:Env)(o:af)(aa:Oper)(orc:List al):Option (af×List al×List Prop):=
 match EA E o aa orc with
 |some r=>some r
 |none=>match Ma E o aa orc with
 |some r=>some r
 |none=>match Fs E (yI o (ir E aa.op)) aa orc with
  |some r=>some r
  |none=>match Aw E o aa orc with
   |some r=>some r
   |none=>AR E o aa orc
theorem N6{E:Env}(O:bE E cx)(h:ak cx st T w){aa:Oper}{orc:List al}{st':af}{orc':List al}{ob:List Prop}(q:mK E st aa orc=some (st',orc',ob))(R:bP ob)
  {K:Act->World->Prop}{Q:Exit->Act->World->Prop}(U:∀W w',ak cx st' W w'->K ⟨W,ah.D cx⟩ w'):aa.wp cx.P ⟨T,ah.D cx⟩ w K Q:=by
 unfold mK at q
 split at q
 ·rename_i r o
  cases q
  exact Qt O h o R U
 ·split at q
  ·rename_i r o
   cases q
   unfold Ma at o
   split at o
   ·exact Ei O h o R U
   ·split at o
    ·exact Ei O h o R U
    ·cases o
  split at q
  ·rename_i r o
   cases q
   obtain⟨m,X⟩:=h
   exact UT O ⟨m,Ms X⟩ o R U
  ·split at q
   ·rename_i r o
    cases q
    exact VX O h o R U
   ·exact XN O h q R U
end Go.Ev
namespace Go.Ev
open Go Go.RowKit
variable [b8]
variable {cx:bI} {m:Nat->Value} {st st':af} {T:Array Value} {w w':World}
def zg(st:af)(s:ao):af:=match s with
 |.row r=>match look st.rw r with
  |some c=>st.freeze r c
  |none=>st
 |.iter r=>match look st.ad r with
  |some (.mp k v ps)=>st.fK r k v ps
  |_=>st
 |_=>st
def nO(st:af)(b:Nat):af:=match look st.ad b with
 |some (.cells l _)=>l.foldl zg st
 |_=>st
theorem U0(h:an cx m st T w)(s:ao):an cx m (zg st s) T w:=by
 unfold zg
 split
 ·split
  ·rename_i c o;exact h.freeze (bc o)
  ·exact h
 ·split
  ·rename_i k v ps o;exact h.fK (bc o)
  ·exact h
 ·exact h
theorem LK:∀{l:List ao} {st:af},an cx m st T w->an cx m (l.foldl zg st) T w
 |[],_,h=>h
 |s::l,_,h=>LK (l:=l) (U0 h s)
theorem VT(h:an cx m st T w)(b:Nat):an cx m (nO st b) T w:=by
 unfold nO
 split
 ·exact LK h
 ·exact h
theorem HW:∀{bs:List Nat} {st:af},an cx m st T w->an cx m (bs.foldl nO st) T w
 |[],_,h=>h
 |b::bs,_,h=>HW (bs:=bs) (VT h b)
def nm(P:Program)(st:af):List Nat->Option (List al)
 |[]=>some []
 |b::bs=>match look st.ad b with
  |some (.cells l e)=>match ty P e with
   |some u=>match pack u l,nm P st bs with
    |some (x,[]),some vs=>some (⟨.ptr u,x⟩::vs)
    |_,_=>none
   |none=>none
  |_=>none
theorem Mv{P:Program}:∀{bs:List Nat} {l:List al},nm P st bs=some l->∀u∈l,u.t.agg=false
 |[],_,o=>by cases o;simp
 |b::bs,l,o=>by
  unfold nm at o
  split at o
  ·split at o
   ·split at o
    ·rename_i x vs O q
     cases o
     intro u hu
     rcases List.mem_cons.1 hu with rfl|hu
     ·rfl
     ·exact Mv q u hu
    ·cases o
   ·cases o
  ·cases o
theorem GQ{P:Program}(h:an cx m st T w){M:Nat->Prop}(O:∀b,b<w.heap.size->M b->av cx m st.ids b):∀{bs:List Nat} {l:List al},(∀b∈bs,∀g,own (m b) g->¬M g)->nm P st bs=some l->dQ w M (bs.map m) l
 |[],_,_,o=>by cases o;trivial
 |b::bs,l,R,o=>by
  unfold nm at o
  split at o
  ·rename_i c e W
   split at o
   ·rename_i u ld
    split at o
    ·rename_i x vs X q
     cases o
     refine⟨?_,GQ h O (fun b Y=>R b (List.mem_cons_of_mem _ Y)) q⟩
     obtain⟨g,ae,_,cells,Z,e4⟩:=h.box (bc W)
     obtain⟨c1,c2,la,lb,_⟩:=rh u e4 X
     refine(bA (t:=.ptr u) rfl).2 ⟨⟨g,0,none⟩,c1,by rw[ae];rfl,cI (fun _ _ _=>rfl) O u lb,fun j v U=>⟨?_,R b List.mem_cons_self g (by rw[ae];rfl)⟩⟩
     have q:cells.toList[j]? =some v:=by rw[la,List.getElem?_append_left (List.getElem?_eq_some_iff.1 U).1];exact U
     have lc:(⟨g,0,none⟩:Addr).add j=⟨g,0+j,none⟩:=by unfold Addr.add;split<;>simp_all
     rw[lc,pR Z]
     simpa using q
    ·cases o
   ·cases o
  ·cases o
theorem Mg{P:Program}:∀{bs:List Nat} {l:List al},nm P st bs=some l->∀b∈bs,b∈st.ids
 |[],_,_=>fun b q=>absurd q List.not_mem_nil
 |b::bs,l,o=>by
  unfold nm at o
  split at o
  ·rename_i c e O
   split at o
   ·split at o
    ·rename_i x vs U R
     intro i hi
     rcases List.mem_cons.1 hi with rfl|hi
     ·exact List.mem_append.2 (.inl (List.mem_map.2 ⟨_,bc O,rfl⟩))
     ·exact Mg R i hi
    ·cases o
   ·cases o
  ·cases o
def Dk(f:Nat)(bs:List Nat):ao->Bool
 |.clos g cs=>Nat.beq g f&&cs==bs
 |_=>false
def AK(P:Program)(st:af)(d:Nat):Option af:=
 match look st.ab d with
 |some (.clos f bs)=>match nm P (bs.foldl nO st) bs with
  |some l=>some ((bs.foldl nO st).dL bs [] [] fun s=>bif Dk f bs s then .val (.fn f (pairUp l).t) (pairUp l).x else s.dK bs)
  |none=>none
 |_=>none
theorem WW{P:Program}{d:Nat}(h:an cx m st T w)(q:AK P st d=some st'):an cx m st' T w:=by
 unfold AK at q
 split at q
 case h_2=>cases q
 rename_i f bs ai
 split at q
 case h_2=>cases q
 rename_i l U
 cases q
 have O:an cx m (bs.foldl nO st) T w:=HW h
 have X:iy cx m m (bs.foldl nO st) w w bs [] []:={
  same:=(Ext.refl w).toSame,block:=fun _ _ _=>rfl,old:=fun _ _ _=>rfl,new:=fun i hi=>by simp at hi,apart:=fun i j hi=>by simp at hi,keys:=List.nodup_nil,
  nj:=fun i hi=>by simp at hi,nu:=fun _ _ o=>absurd o List.not_mem_nil,gd:=fun _ _ o=>absurd o List.not_mem_nil}
 refine O.BQ X ?_ (fun _ _ o=>absurd o List.not_mem_nil) (fun _ _ o=>absurd o List.not_mem_nil)
 intro v s R
 cases aM:Dk f bs s with
 |false=>exact nZ (fun _ _=>rfl) R
 |true=>
  unfold Dk at aM
  split at aM
  ·rename_i g cs
   rw[Bool.and_eq_true]at aM
   have ae:=Nat.eq_of_beq_eq_true aM.1
   have lb:cs=bs:=eq_of_beq aM.2
   subst ae
   subst lb
   have R:v=.func (.func g) #[] (cs.map m).toArray:=R
   refine(bA (t:=.fn g (pairUp l).t) rfl).2 ⟨cs.map m,by rw[R],sx (Mv U) (GQ O (X.mut) ?_ U)⟩
   intro b o W Y lc
   have Z:b∈(cs.foldl nO st).ids:=Mg U b o
   rcases lc with ld|⟨i,hi,le⟩
   ·have lf:=O.outer W ld
    rcases(O.lt Z Y).2 with la|la
    ·omega
    ·exact lf.2 la
   ·rcases qI.1 hi with hi|⟨hi,lg⟩
    ·simp at hi
    ·exact O.apart i b hi Z (fun e=>lg (e▸o)) W le Y
  ·cases aM
end Go.Ev
namespace Go.Ev
open Go Go.RowKit
variable [b8]
abbrev cZ:=Exit->Act->World->Prop
def W(cx:bI)[ah cx](Q:cZ)(c:Code)(st:af):Prop:=∀T w,ak cx st T w->c.wp cx.P Q ⟨T,ah.D cx⟩ w
def bU(cx:bI)[ah cx](ops:Array Oper)(Q:cZ)(l:List Oper)(st:af):Prop:=∀T w,ak cx st T w->wpList cx.P ops Q l ⟨T,ah.D cx⟩ w
def N(cx:bI)[ah cx](Q:cZ)(e:Exit)(st:af):Prop:=∀T w,ak cx st T w->Q e ⟨T,ah.D cx⟩ w
def eF(ops:Array Oper)(st:af)(aa:Oper):Option Bool:=
 match aa.guard with
 |none=>some true
 |some (j,b)=>match(ops[j]?).bind (·.dst)with
  |some d=>match look st.ab d with
   |some (.val .bool true)=>some b
   |some (.val .bool false)=>some (!b)
   |some .undef=>some false
   |_=>none
  |none=>none
def fI(E:Env)(ops:Array Oper):List Oper->af->List al->Option (af×List al×List Prop)
 |[],st,orc=>some (st,orc,[])
 |aa::l,st,orc=>match eF ops st aa with
  |some true=>match mK E st aa orc with
   |some (o,q,ob)=>match fI E ops l o q with
    |some (O,R,U)=>some (O,R,ob++U)
    |none=>none
   |none=>none
  |some false=>match aa.dst with
   |some d=>match Nat.blt d E.n with
    |true=>fI E ops l (st.put d .undef) orc
    |false=>none
   |none=>fI E ops l st orc
  |none=>none
variable {cx:bI} {st st':af} {T:Array Value} {w:World} {E:Env} {Q:cZ} {ops:Array Oper} {l:List Oper}
variable [ah cx]
theorem tZ:∀{a b:List Prop},bP (a++b)->bP a/\bP b
 |[],_,h=>⟨trivial,h⟩
 |_::_,_,⟨q,o⟩=>⟨⟨q,(tZ o).1⟩,(tZ o).2⟩
theorem iC(h:ak cx st T w){aa:Oper}{b:Bool}(o:eF ops st aa=some b):Region.wanted aa (yielded ops T)=b:=by
 obtain⟨m,X⟩:=h
 unfold eF at o
 unfold Region.wanted
 split at o
 ·rename_i U
  cases o
  rw[U]
 ·rename_i j W U
  rw[U]
  simp only[]
  split at o
  ·rename_i d ai
   have key:∀s,look st.ab d=some s->∃v,T[d]? =some v/\aT w (av cx m st.ids) m v s:=fun s Y=>X.cT d s (bc Y)
   unfold yielded
   rw[ai]
   simp only[Option.bind_some]
   split at o
   ·rename_i q
    obtain⟨v,O,R⟩:=key _ q
    rw[O,dF.1 R]
    cases o
    cases b<;>rfl
   ·rename_i q
    obtain⟨v,O,R⟩:=key _ q
    rw[O,dF.1 R]
    cases o
    cases W<;>rfl
   ·rename_i q
    obtain⟨v,O,R⟩:=key _ q
    have Z:v=undef:=R
    rw[O,Z]
    cases o
    cases W<;>rfl
   ·cases o
  ·cases o
theorem uT(q:bE E cx):∀{l:List Oper} {st:af} {T:Array Value} {w:World} {orc orc':List al} {st':af} {ob:List Prop},ak cx st T w->fI E ops l st orc=some (st',orc',ob)->bP ob->
  (∀R w',ak cx st' R w'->Q .normal ⟨R,ah.D cx⟩ w')->wpList cx.P ops Q l ⟨T,ah.D cx⟩ w
 |[],st,T,w,_,_,_,_,h,o,_,O=>by
  cases o
  exact O T w h
 |aa::l,st,T,w,orc,orc',st',ob,h,o,U,O=>by
  unfold fI at o
  refine wpList_step fun K W=>?_
  split at o
  ·rename_i X
   rw[iC h X]
   simp only[if_true]
   split at o
   ·rename_i lg lh li Y
    split at o
    ·rename_i lj lk ll Z
     cases o
     obtain⟨la,lb⟩:=tZ U
     exact N6 q h Y la fun R w' lc=>W _ _ (uT q lc Z lb O)
    ·cases o
   ·cases o
  ·rename_i X
   rw[iC h X]
   simp only[Bool.false_eq_true,if_false]
   split at o
   ·rename_i d ai
    split at o
    ·rename_i ld
     obtain⟨m,le⟩:=h
     have lf:=le.put (d:=d) (s:=.undef) (v:=undef) (by rw[q.n];exact cR ld) rfl
     refine W _ _ ?_
     rw[ai]
     exact uT q ⟨m,lf⟩ o U O
    ·cases o
   ·rename_i ai
    refine W _ _ ?_
    rw[ai]
    exact uT q h o U O
  ·cases o
theorem yq{P:Program}{Q:cZ}:∀{l1 l2:List Oper} {a:Act} {w:World},wpList P ops (Exit.then (wpList P ops Q l2) Q) l1 a w->wpList P ops Q (l1++l2) a w
 |[],l2,a,w,h=>h
 |aa::l1,l2,a,w,h=>by
  simp only[List.cons_append,wpList]at h⊢
  split
  ·rename_i O
   rw[if_pos O]at h
   rcases h with h|⟨R,U⟩
   ·refine .inl ?_
    have o:∀a w,wpList P ops (Exit.then (wpList P ops Q l2) Q) l1 a w->wpList P ops Q (l1++l2) a w:=fun a w=>yq
    unfold Oper.wp Oper.upon at h⊢
    split at h
    ·exact o _ _ h
    ·exact o _ _ h
    ·exact o _ _ h
    ·refine Calls.mono h ?_
     intro e w' q
     cases e with
     |returned v=>exact o _ _ q
     |panicked c=>exact q
     |outgrown=>exact q
    ·exact Rows.mono h fun v w' q=>o _ _ q
    ·exact h
    ·exact h.elim
   ·exact .inr ⟨R,U⟩
  ·rename_i O
   rw[if_neg O]at h
   exact yq h
/-! The rules. -/
theorem dh(h:N cx Q .normal st):W cx Q .skip st:=fun T w o=>wp_skip (h T w o)
theorem aG{x y:Code}(h:W cx (Exit.then (y.wp cx.P Q) Q) x st):W cx Q (.seq x y) st:=fun T w o=>wp_seq (h T w o)
theorem fX{id:Nat}{c:Code}(h:W cx (Exit.inBlock id Q) c st):W cx Q (.block id c) st:=fun T w o=>wp_block (h T w o)
theorem kR{id:Nat}(h:N cx Q (.exit id) st):W cx Q (.exit id) st:=fun T w o=>wp_exit (h T w o)
theorem eM(h:N cx Q .ret st):W cx Q .ret st:=fun T w o=>wp_ret (h T w o)
theorem db{c:Operand}{x y:Code}{b:Bool}(O:aS st c=some (.val .bool b))(R:b=true->W cx Q x st)(U:b=false->W cx Q y st):W cx Q (.cond c x y) st:=fun T w X=>by
 obtain⟨m,o⟩:=X
 have q:=dF.1 (bf o O)
 cases b with
 |true=>exact wp_cond_true q (R rfl T w ⟨m,o⟩)
 |false=>exact wp_cond_false q (U rfl T w ⟨m,o⟩)
theorem yQ{c:Operand}{x y:Code}(o:aS st c=some (.val .bool true))(q:W cx Q x st):W cx Q (.cond c x y) st:=db o (fun _=>q) (fun h=>by cases h)
theorem yf{c:Operand}{x y:Code}(o:aS st c=some (.val .bool false))(q:W cx Q y st):W cx Q (.cond c x y) st:=db o (fun h=>by cases h) (fun _=>q)
theorem exists_least(p:Nat->Prop):∀n,p n->∃n,p n/\∀m,p m->n<=m:=by
 intro n
 induction n using Nat.strongRecOn with
 |_ n O=>
  intro R
  by_cases h:∃m,m<n/\p m
  ·obtain⟨m,o,U⟩:=h
   exact O m o U
  ·exact⟨n,R,fun m o=>by
    rcases Nat.lt_or_ge m n with q|q
    ·exact absurd ⟨m,q,o⟩ h
    ·exact q⟩
theorem Br{p:Nat->Prop}(h:∃n,p n):∃n,p n/\∀m,p m->n<=m:=let⟨n,o⟩:=h;exists_least p n o
open Classical in
theorem Tx{P:Program}{c:Code}{Q:cZ}(o:Nat->Act->World->Prop)(step:∀k a w,o k a w->c.wp P (Exit.then (fun q w'=>∃k',k'<k/\o k' q w') Q) a w){k:Nat}{a:Act}{w:World}(h:o k a w):
  (Code.loop c).wp P Q a w:=by
 refine wp_loop (fun a w=>∃k,o k a w) (fun a w=>if h:∃k,o k a w then Classical.choose (Br h)else 0) ⟨k,h⟩ ?_
 intro a w R
 have X:=Classical.choose_spec (Br R)
 refine Code.wp_mono ?_ (step _ a w X.1)
 intro e q w' U
 cases e with
 |normal=>
  obtain⟨k',Y,O⟩:=U
  refine⟨⟨k',O⟩,?_⟩
  have W:∃k,o k q w':=⟨k',O⟩
  rw[dif_pos R,dif_pos W]
  exact Nat.lt_of_le_of_lt ((Classical.choose_spec (Br W)).2 k' O) Y
 |_=>exact U
def KM{α:Type}(cx:bI)[ah cx](F:Nat->α->Prop)(S:α->af)(k:Nat):Act->World->Prop:=fun o w'=>∃k' x',k'<k/\F k' x'/\o.defers=ah.D cx/\ak cx (S x') o.tmps w'
theorem kA{α:Type}(F:Nat->α->Prop)(S:α->af){c:Code}(step:∀k x,F k x->W cx (Exit.then (KM cx F S k) Q) c (S x)){k:Nat}{x:α}(h:F k x):W cx Q (.loop c) (S x):=by
 intro T w o
 refine Tx (fun k a w=>∃x,F k x/\a.defers=ah.D cx/\ak cx (S x) a.tmps w) ?_ ⟨x,h,rfl,o⟩
 rintro k ⟨T,d⟩ w ⟨x,O,ai,o⟩
 simp only at ai o
 subst ai
 refine Code.wp_mono ?_ (step k x O T w o)
 intro e Z w' q
 cases e with
 |normal=>obtain⟨k',x',R,U,X,Y⟩:=q;exact⟨k',R,x',U,X,Y⟩
 |_=>exact q
theorem je{α:Type}{F:Nat->α->Prop}{S:α->af}{k k':Nat}(x':α)(o:k'<k)(q:F k' x'):N cx (Exit.then (KM cx F S k) Q) .normal (S x'):=
 fun _ _ O=>⟨k',x',o,q,rfl,O⟩
theorem aF{y:Code}(h:W cx Q y st):N cx (Exit.then (y.wp cx.P Q) Q) .normal st:=h
theorem U1{l:List Oper}(h:bU cx ops Q l st):N cx (Exit.then (wpList cx.P ops Q l) Q) .normal st:=h
theorem gj{K:Act->World->Prop}{id:Nat}(h:N cx Q (.exit id) st):N cx (Exit.then K Q) (.exit id) st:=h
theorem df{K:Act->World->Prop}(h:N cx Q .ret st):N cx (Exit.then K Q) .ret st:=h
theorem jC{id:Nat}(h:N cx Q .normal st):N cx (Exit.inBlock id Q) .normal st:=h
theorem fP{id:Nat}(h:N cx Q .ret st):N cx (Exit.inBlock id Q) .ret st:=h
theorem kJ{id:Nat}(h:N cx Q .normal st):N cx (Exit.inBlock id Q) (.exit id) st:=fun T w o=>by
 show(if id=id then _ else _:Prop)
 rw[if_pos rfl]
 exact h T w o
theorem NV{id o:Nat}(q:Nat.beq o id=false)(h:N cx Q (.exit o) st):N cx (Exit.inBlock id Q) (.exit o) st:=fun T w O=>by
 show(if o=id then _ else _:Prop)
 rw[if_neg (beq_false q)]
 exact h T w O
theorem aP{id:Nat}{l:List Oper}(h:bU cx l.toArray Q l st):W cx Q (.region id l.toArray false) st:=fun T w o=>wp_region_lit (h T w o)
theorem PZ(o:bE E cx){orc:List al}{ob:List Prop}(q:fI E ops l st orc=some (st',[],ob))(O:bP ob)(h:N cx Q .normal st'):bU cx ops Q l st:=
 fun _ _ R=>uT o R q O h
theorem sQ(o:bE E cx)(n:Nat){orc:List al}{ob:List Prop}(q:fI E ops (l.take n) st orc=some (st',[],ob))(O:bP ob)(h:bU cx ops Q (l.drop n) st'):bU cx ops Q l st:=by
 intro T w R
 have:=yq (P:=cx.P) (ops:=ops) (Q:=Q) (l1:=l.take n) (l2:=l.drop n) (uT o R q O h)
 rwa [List.take_append_drop]at this
theorem iE(h:N cx Q .normal st):bU cx ops Q [] st:=h
theorem ak.norm(h:ak cx st T w){o bs au:List Nat}(q:st.norm o bs au=some st'):ak cx st' T w:=let⟨m,O⟩:=h;⟨m,O.norm q⟩
def mH(E:Env)(ops:Array Oper)(l:List Oper)(st:af)(orc:List al)(o bs au:List Nat):Option (af×List al×List Prop):=
 match fI E ops l st orc with
 |some (s,aa,p)=>match s.norm o bs au with
  |some q=>some (q,aa,p)
  |none=>none
 |none=>none
theorem M0{orc orc':List al}{ob:List Prop}{o bs au:List Nat}(h:mH E ops l st orc o bs au=some (st',orc',ob)):∃s,fI E ops l st orc=some (s,orc',ob)/\s.norm o bs au=some st':=by
 unfold mH at h
 split at h
 ·rename_i s aa p q
  split at h
  ·rename_i R O
   cases h
   exact⟨s,q,O⟩
  ·cases h
 ·cases h
theorem N.norm{e:Exit}{o bs au:List Nat}(h:N cx Q e st')(q:st.norm o bs au=some st'):N cx Q e st:=fun T w O=>h T w (O.norm q)
theorem bU.norm{o bs au:List Nat}(h:bU cx ops Q l st')(q:st.norm o bs au=some st'):bU cx ops Q l st:=fun T w O=>h T w (O.norm q)
theorem W.norm{c:Code}{o bs au:List Nat}(h:W cx Q c st')(q:st.norm o bs au=some st'):W cx Q c st:=fun T w O=>h T w (O.norm q)
end Go.Ev
namespace Go.Ev
open Go Go.RowKit
variable [b8]
variable {cx:bI} {m:Nat->Value} {st st':af} {T:Array Value} {w w':World} {P:Program}
variable [ah cx]
theorem Ii{l:List MapEntry}{n:Nat}{e:MapEntry}(o:(l.map (·.born)).Nodup)(h:l[n]? =some e):l.findIdx? (fun x=>(x.born:Int)==(e.born:Int))=some n:=by
 induction l generalizing n with
 |nil=>simp at h
 |cons x l q=>
  rw[List.map_cons,List.nodup_cons]at o
  rw[List.findIdx?_cons]
  cases n with
  |zero=>
   simp at h
   subst h
   simp
  |succ n=>
   simp at h
   have O:((x.born:Int)==(e.born:Int))=false:=by
    rw[beq_eq_false_iff_ne]
    intro R
    exact o.1 (List.mem_map.2 ⟨e,List.mem_of_getElem? h,by omega⟩)
   rw[O,q o.2 h]
   simp
theorem JR{p:MapEntry->Bool}(es:Array MapEntry):es.findIdx? p=es.toList.findIdx? p:=by
 conv=>lhs;rw[show es=es.toList.toArray from by simp]
 rw[List.findIdx?_toArray]
theorem Gs{α:Type}(f:α->α)(a:α):∀l:List α,(l++[a]).modify l.length f=l++[f a]
 |[]=>rfl
 |x::l=>by
  show x::((l++[a]).modify l.length f)=_
  rw[Gs f a l]
  rfl
theorem JB(kv:Value):∀(es:List MapEntry) (n:Nat),(es.modify n fun e=>{e with key:=kv}).map (·.born)=es.map (·.born)
 |[],n=>by cases n<;>rfl
 |e::es,0=>rfl
 |e::es,n+1=>by
  have:=JB kv es n
  simp only[List.modify_succ_cons,List.map_cons,this]
theorem NY{mt U lk:TypeId}{d d':Nat}{u v:ag}{M:Nat->Prop}(ll:P.underlying mt=some (.map U lk))(lm:cN P d U=some u)(ln:ed P d' U=true)(ai:d'<=10000)(lo:u.flat=true)
  {z:Value}(lz:∀w,(zeroValue lk).run P w=.ok z w)
  {kv vv:Value}{key:u.el}{val:v.el}(R:ba w M kv u key)(lp:ba w M vv v val){g:Nat}{es:Array MapEntry}{clock:Nat}{ps:List (u.el×v.el)}
  (ld:w.heap[g]? =some (.map es clock))(W:∀e∈es.toList,e.born<clock)(X:(es.toList.map (·.born)).Nodup)(le:ep (eD w M u) (eD w M v) es.toList ps):
  ∃(Y:Array MapEntry) (lq:Nat) (v0:Value) (s:Int) (lr:World),(Instr.mapEntry mt (.map (some g)) kv).run P w=.ok (.tuple #[v0,.int .i64 s]) lr/\
   (∀o,(Instr.entryStore o (.map (some g)) (.int .i64 s) vv).run P lr=.ok () {w with heap:=w.heap.setIfInBounds g (.map Y lq)})/\
   (∀e∈Y.toList,e.born<lq)/\(Y.toList.map (·.born)).Nodup/\ep (eD w M u) (eD w M v) Y.toList (cl (aV u) ps key val):=by
 have ls:=qM (P:=P) false d U u lm d' ln 10000 ai w w M kv key R
 have Z:=xC lm ln ai R w le
 have lt:=gx ld
 have lu:(getObj g).run P w=.ok (.map es clock) w:=by simp[getObj,Sem.run,ld]
 have lv:∀aa,(setObj g aa).run P w=.ok () {w with heap:=w.heap.setIfInBounds g aa}:=fun aa=>by simp[setObj,Sem.run,ld]
 have store:∀(q:Array MapEntry) (O:Nat) (s:Int) (n:Nat),q.findIdx? (fun e=>(e.born:Int)==s)=some n->∀o,
   (Instr.entryStore o (.map (some g)) (.int .i64 s) vv).run P {w with heap:=w.heap.setIfInBounds g (.map q O)}=.ok () {w with heap:=w.heap.setIfInBounds g (.map (q.modify n fun e=>{e with val:=vv}) O)}:=by
  intro q O s n hi o
  have la:(getObj g).run P {w with heap:=w.heap.setIfInBounds g (.map q O)}=.ok (.map q O) {w with heap:=w.heap.setIfInBounds g (.map q O)}:=by
   simp[getObj,Sem.run,Array.getElem?_setIfInBounds_self_of_lt lt]
  have lA:∀aa,(setObj g aa).run P {w with heap:=w.heap.setIfInBounds g (.map q O)}=.ok () {w with heap:=w.heap.setIfInBounds g aa}:=fun aa=>by
   simp[setObj,Sem.run,Array.getElem?_setIfInBounds_self_of_lt lt,Array.setIfInBounds_setIfInBounds]
  unfold Instr.entryStore
  simp only[Sem.run_bind,Result.andThen_ok,la,asInt,asIntOf,Sem.run_pure,hi,lA]
 rcases xW (kv:=kv) (vv:=vv) (val:=val) (eq:=aV u) (key:=key) R lp es.toList ps 0 le with ⟨ae,lb⟩|⟨n,e,lB,ae,lb,lC,e4,lD⟩
 ·rw[ae]at Z
  have lf:(es.push {key:=kv,val:=z,born:=clock}).findIdx? (fun e=>(e.born:Int)==((clock:Nat):Int))=some es.size:=by
   rw[JR]
   refine Ii (e:={key:=kv,val:=z,born:=clock}) ?_ (by simp)
   rw[Array.toList_push,List.map_append,List.nodup_append]
   refine⟨X,by simp,?_⟩
   intro a lg b lh lE
   simp at lh
   obtain⟨e,he,rfl⟩:=List.mem_map.1 lg
   have:=W e he
   omega
  have li:(es.push {key:=kv,val:=z,born:=clock}).modify es.size (fun e=>{e with val:=vv})=es.push {key:=kv,val:=vv,born:=clock}:=by
   apply Array.ext'
   rw[Array.toList_modify,Array.toList_push,Array.toList_push,<-Array.length_toList,Gs]
  refine⟨es.push {key:=kv,val:=vv,born:=clock},clock+1,z,clock,_,?_,fun o=>by rw[store _ _ _ _ lf o,li],?_,?_,?_⟩
  ·unfold Instr.mapEntry
   simp only[Sem.run_bind,run_underlying ll,Result.andThen_ok,lu,ls,Z,lv,lz,Sem.run_pure]
   rfl
  ·intro e he
   rw[Array.toList_push]at he
   rcases List.mem_append.1 he with he|he
   ·exact Nat.lt_succ_of_lt (W e he)
   ·simp at he;subst he;exact Nat.lt_succ_self _
  ·rw[Array.toList_push,List.map_append,List.nodup_append]
   refine⟨X,by simp,?_⟩
   intro a lg b lh lE
   simp at lh
   obtain⟨e,he,rfl⟩:=List.mem_map.1 lg
   have:=W e he
   omega
  ·rw[Array.toList_push,lb]
   exact xS le ⟨R,lp,trivial⟩
 ·rw[ae,Nat.zero_add]at Z
  have lF:key=lB:=BF u e4
  subst lF
  have lG:e.key=kv:=oh lo lC R
  have lw:es[n]? =some e:=by rw[<-Array.getElem?_toList];exact lb
  have lH:((es[n]?).map (·.key)).getD kv=kv:=by rw[lw];simp[lG]
  have lI:((es[n]?).map (fun x=>(x.born:Int))).getD 0=e.born:=by rw[lw];rfl
  have lJ:∀lj,(Instr.keyThatStays kv kv).run P lj=.ok kv lj:=fun lj=>by
   unfold Instr.keyThatStays
   rw[if_pos (Ci lo R)]
   rfl
  have lx:(es.modify n fun e=>{e with key:=kv}).toList=es.toList.modify n fun e=>{e with key:=kv}:=by simp
  have lc:(es.modify n fun e=>{e with key:=kv,val:=vv}).toList=es.toList.modify n fun e=>{e with key:=kv,val:=vv}:=by simp
  have lK:(es.toList.modify n fun e=>{e with key:=kv}).map (·.born)=es.toList.map (·.born):=by
   exact JB kv es.toList n
  have lf:(es.modify n fun e=>{e with key:=kv}).findIdx? (fun x=>(x.born:Int)==(e.born:Int))=some n:=by
   rw[JR,lx]
   refine Ii (e:={e with key:=kv}) (by rw[lK];exact X) ?_
   rw[List.getElem?_modify_eq,lb]
   rfl
  have li:(es.modify n fun e=>{e with key:=kv}).modify n (fun e=>{e with val:=vv})=es.modify n fun e=>{e with key:=kv,val:=vv}:=by
   apply Array.ext'
   rw[Array.toList_modify,lx,lc,List.modify_modify_eq]
   rfl
  refine⟨es.modify n fun e=>{e with key:=kv,val:=vv},clock,e.val,e.born,_,?_,fun o=>by rw[store _ _ _ _ lf o,li],?_,?_,?_⟩
  ·unfold Instr.mapEntry
   simp only[Sem.run_bind,run_underlying ll,Result.andThen_ok,lu,ls,Z,lH,lJ,lv,Sem.run_pure,lI]
   rfl
  ·intro x ly
   rw[lc]at ly
   have la:x.born∈(es.toList.modify n fun e=>{e with key:=kv,val:=vv}).map (·.born):=List.mem_map.2 ⟨x,ly,rfl⟩
   rw[tC]at la
   obtain⟨y,lL,e⟩:=List.mem_map.1 la
   rw[<-e];exact W y lL
  ·rw[lc,tC];exact X
  ·rw[lc];exact lD
def fi(x:Operand)(d:Nat):Bool:=match x with
 |.tmp t=>!(Nat.beq t d)
 |_=>true
theorem jk{x:Operand}{d:Nat}{v:Value}(h:fi x d=true):Act.eval ⟨T.setIfInBounds d v,ah.D cx⟩ x=Act.eval ⟨T,ah.D cx⟩ x:=by
 cases x with
 |tmp t=>
  have o:t≠d:=by
   intro e
   subst e
   simp[fi]at h
  show(T.setIfInBounds d v).getD t undef=T.getD t undef
  rw[Array.getD_eq_getD_getElem?,Array.getD_eq_getD_getElem?,Array.getElem?_setIfInBounds_ne (fun e=>o e.symm)]
 |_=>rfl
theorem eval_put{d:Nat}{v:Value}(h:d<T.size):Act.eval ⟨T.setIfInBounds d v,ah.D cx⟩ (.tmp d)=v:=by
 show(T.setIfInBounds d v).getD d undef=v
 rw[Array.getD_eq_getD_getElem?,Array.getElem?_setIfInBounds_self_of_lt h]
 rfl
def yy(P:Program)(st:af)(t:TypeId)(x k v:Operand):Option af:=
 match P.underlying t with
 |some (.map _ o)=>match zeroOf P o with
  |some _=>uI P st t x k v
  |none=>none
 |_=>none
theorem MT(h:an cx m st T w){t:TypeId}{x k v:Operand}{st':af}(o:yy cx.P st t x k v=some st'):
  ∃v0 s q w',(Instr.mapEntry t (Act.eval ⟨T,ah.D cx⟩ x) (Act.eval ⟨T,ah.D cx⟩ k)).run cx.P w=.ok (.tuple #[v0,.int .i64 s]) q/\
   (∀le,(Instr.entryStore le (Act.eval ⟨T,ah.D cx⟩ x) (.int .i64 s) (Act.eval ⟨T,ah.D cx⟩ v)).run cx.P q=.ok () w')/\an cx m st' T w':=by
 unfold yy at o
 split at o
 case h_2=>cases o
 rename_i lI lf R
 split at o
 case h_2=>cases o
 rename_i lJ lg
 obtain⟨lK,lh,_,li,_,lj,_⟩:=kg lg
 unfold uI at o
 split at o
 ·rename_i b lL lM lN lO lk U ll lm
  rw[R]at U
  cases U
  split at o
  ·rename_i lP lQ ps W ln lo lp lR
   split at o
   ·rename_i y z lq lr X
    cases o
    simp only[Bool.and_eq_true]at X
    obtain⟨⟨⟨ls,lt⟩,lu⟩,lv⟩:=X
    obtain rfl:=ag.eq_of_beq ls
    obtain rfl:=ag.eq_of_beq lt
    have lw:=al.dj lq
    subst lw
    have lx:=al.dj lr
    subst lx
    have O:=bc lo
    obtain⟨g,ae,_,es,lS,Y,ly,lz,lA⟩:=h.box O
    have ae:m b=.map (some g):=ae
    have lB:Act.eval ⟨T,ah.D cx⟩ x=.map (some g):=by have:Act.eval ⟨T,ah.D cx⟩ x=m b:=bf h lk;rw[this,ae]
    have lC:∀w',(zeroValue lf).run cx.P w'=.ok lh w':=fun w'=>by simp[zeroValue,typeInfo,li,lj]
    obtain⟨Z,la,v0,s,q,lD,lE,lF,cS,eU⟩:=NY (d:=jA) (d':=16) R lp lv (by decide) lu lC (di h ll) (di h lm) Y ly lz lA
    have lb:Touch m w b {w with heap:=w.heap.setIfInBounds g (.map Z la)}:=
     ⟨⟨rfl,rfl,rfl,by simp,fun _=>Nat.le_refl _⟩,fun k _ lG=>by
      show(w.heap.setIfInBounds g _)[k]? =_
      rw[Array.getElem?_setIfInBounds_ne]
      intro e
      exact lG (by rw[ae,e];rfl)⟩
    rw[lB]
    refine⟨v0,s,q,_,lD,lE,h.dd O lb (g:=g) ae ?_⟩
    have lH:b∈st.ids:=List.mem_append.2 (.inl (List.mem_map.2 ⟨_,O,rfl⟩))
    obtain⟨lc,ld⟩:=an.ia (cx:=cx) lH lb (ids:=(st.dd b (.mp W ln (cl (aV W) ps y z))).ids) (ko O h.keys _).1
    refine⟨Z,la,?_,lF,cS,ic (fun _ _ h=>dt lc ld h) (fun _ _ h=>dt lc ld h) eU⟩
    show(w.heap.setIfInBounds g _)[g]? =_
    rw[Array.getElem?_setIfInBounds_self_of_lt (gx Y)]
   ·cases o
  ·cases o
 ·cases o
def wR(E:Env)(st:af):List Oper->Option (af×List Oper)
 |q::bd::eJ::l=>match q.guard,bd.guard,eJ.guard,q.dst,bd.dst,eJ.dst with
  |none,none,none,some d1,some d2,none=>match q.op,bd.op,eJ.op with
   |.mapEntry t (.tmp o) k,.extract (.tmp a) i,.entryStore _ (.tmp O) (.tmp c) v=>
    match Nat.beq a d1&&(Nat.beq i 1&&(Nat.beq c d2&&(Nat.beq o O&&(fi (.tmp o) d1&&(fi (.tmp o) d2&&(fi v d1&&(fi v d2&&(Nat.blt d1 E.n&&Nat.blt d2 E.n))))))))with
    |true=>match yy E.P st t (.tmp o) k v with
     |some R=>some ((R.put d1 .any).put d2 .any,l)
     |none=>none
    |false=>none
   |_,_,_=>none
  |_,_,_,_,_,_=>none
 |_=>none
theorem Og{E:Env}(O:bE E cx){Q:cZ}{ops:Array Oper}{l Z:List Oper}(o:wR E st l=some (st',Z))(h:bU cx ops Q Z st'):bU cx ops Q l st:=by
 unfold wR at o
 split at o
 case h_2=>cases o
 rename_i lg bd eJ l
 split at o
 case h_2=>cases o
 rename_i d1 d2 g1 g2 g3 aC aA bW
 split at o
 case h_2=>cases o
 rename_i t la k a i t2 lA c v ar lh li
 split at o
 case h_2=>cases o
 rename_i lb
 simp only[Bool.and_eq_true]at lb
 obtain⟨R,U,W,X,lj,lk,ll,lm,ln,lo⟩:=lb
 have R:=Nat.eq_of_beq_eq_true R
 have U:=Nat.eq_of_beq_eq_true U
 have W:=Nat.eq_of_beq_eq_true W
 have X:=Nat.eq_of_beq_eq_true X
 subst R
 subst U
 subst W
 subst X
 split at o
 case h_2=>cases o
 rename_i lB lc
 cases o
 intro T w ⟨m,Y⟩
 rw[<-O.P]at lc
 obtain⟨v0,s,q,w',lp,cS,lq⟩:=MT Y lc
 have ld:a<cx.n:=by rw[O.n];exact cR ln
 have le:c<cx.n:=by rw[O.n];exact cR lo
 have lr:a<T.size:=by rw[Y.size];exact ld
 refine wpList_step fun K ls=>?_
 rw[show Region.wanted lg (yielded ops T)=true from by unfold Region.wanted;rw[g1]]
 simp only[if_true]
 refine gT (w':=q) (v:=.tuple #[v0,.int .i64 s]) (cn (by simp only[execOp,ar]) lp) ?_
 refine ls _ _ ?_
 rw[aC]
 refine wpList_step fun lC lt=>?_
 rw[show∀y,Region.wanted bd y=true from fun y=>by unfold Region.wanted;rw[g2]]
 simp only[if_true]
 have lu:Act.eval ⟨T.setIfInBounds a (.tuple #[v0,.int .i64 s]),ah.D cx⟩ (.tmp a)=.tuple #[v0,.int .i64 s]:=eval_put lr
 refine gT (w':=q) (v:=.int .i64 s) (by simp[execOp,lh,lu,Instr.extract]) ?_
 refine lt _ _ ?_
 rw[aA]
 refine wpList_step fun lf lv=>?_
 rw[show∀y,Region.wanted eJ y=true from fun y=>by unfold Region.wanted;rw[g3]]
 simp only[if_true]
 have lw:Act.eval ⟨(T.setIfInBounds a (.tuple #[v0,.int .i64 s])).setIfInBounds c (.int .i64 s),ah.D cx⟩ (.tmp c)=.int .i64 s:=eval_put (by rw[Array.size_setIfInBounds,Y.size];exact le)
 have lx:Act.eval ⟨(T.setIfInBounds a (.tuple #[v0,.int .i64 s])).setIfInBounds c (.int .i64 s),ah.D cx⟩ (.tmp la)=Act.eval ⟨T,ah.D cx⟩ (.tmp la):=(jk lk).trans (jk lj)
 have ly:Act.eval ⟨(T.setIfInBounds a (.tuple #[v0,.int .i64 s])).setIfInBounds c (.int .i64 s),ah.D cx⟩ v=Act.eval ⟨T,ah.D cx⟩ v:=(jk lm).trans (jk ll)
 have lz:(execOp (Act.eval ⟨(T.setIfInBounds a (.tuple #[v0,.int .i64 s])).setIfInBounds c (.int .i64 s),ah.D cx⟩) eJ).run cx.P q=.ok .skip w':=by
  simp only[execOp,li,Sem.run_bind,lw,lx,ly,cS,Result.andThen_ok,Sem.run_pure]
 show eJ.wp cx.P ⟨(T.setIfInBounds a (.tuple #[v0,.int .i64 s])).setIfInBounds c (.int .i64 s),ah.D cx⟩ q lf _
 unfold Oper.wp
 rw[lz]
 show lf (Act.put ⟨(T.setIfInBounds a (.tuple #[v0,.int .i64 s])).setIfInBounds c (.int .i64 s),ah.D cx⟩ eJ.dst undef) w'
 rw[bW]
 exact lv _ _ (h _ _ ⟨m,(lq.put ld (s:=.any) trivial).put le (s:=.any) trivial⟩)
end Go.Ev
namespace Go.Ev
open Go Go.RowKit
variable [b8]
variable {cx:bI} {m:Nat->Value} {st st':af} {T:Array Value} {w w':World} {E:Env} {Q:cZ}
variable [ah cx]
def HL:al->ao
 |⟨.ptr t,x⟩=>.vptr t x
 |⟨t,x⟩=>.val t x
theorem TS{M:Nat->Prop}{m:Nat->Value}{v:Value}{u:al}(h:ba w M v u.t u.x):aT w M m v (HL u):=by
 obtain⟨t,x⟩:=u
 cases t with
 |ptr t=>
  obtain⟨a,cells,e,r⟩:=(bA (t:=.ptr t) rfl).1 h
  simp only[List.cons.injEq,and_true]at e
  exact⟨a,cells,e,r⟩
 |_=>exact h
def oo:Nat->List al->List (Nat×ao)
 |_,[]=>[]
 |k,u::us=>(k,HL u)::oo (k+1) us
theorem HZ{M:Nat->Prop}:∀{vs:List Value} {l:List al},dQ w M vs l->vs.length=l.length
 |[],[],_=>rfl
 |[],_::_,h=>h.elim
 |_::_,[],h=>h.elim
 |_::_,_::_,⟨_,h⟩=>by simp[HZ h]
theorem Jk{M:Nat->Prop}{m:Nat->Value}:∀{vs:List Value} {o:List al} (k:Nat) {T:Array Value},dQ w M vs o->(∀i v,vs[i]? =some v->T[k+i]? =some v)->
  ∀i aU,(i,aU)∈oo k o->∃v,T[i]? =some v/\aT w M m v aU
 |[],[],k,T,_,_,i,aU,hi=>by simp[oo]at hi
 |[],_::_,_,_,h,_,_,_,_=>h.elim
 |_::_,[],_,_,h,_,_,_,_=>h.elim
 |v::vs,a::o,k,T,⟨O,R⟩,q,i,aU,hi=>by
  rcases List.mem_cons.1 hi with hi|hi
  ·cases hi
   exact⟨v,by have:=q 0 v rfl;simpa using this,TS O⟩
  ·exact Jk (k+1) R (fun j u U=>by have:=q (j+1) u (by simpa using U);rw[<-this];congr 1;omega) i aU hi
theorem entry{P:Program}{n:Nat}{M:Nat->Prop}{vs:List Value}{q:List al}(R:∀b,M b->b<w.heap.size)(O:dQ w M vs q)(la:q.length<=n):
  ak ⟨P,n,w,M,fun _=>False,fun _=>undef⟩ ⟨oo 0 q,[],[]⟩ (vs.toArray++Array.replicate (n-vs.toArray.size) undef) w:=by
 have lb:=HZ O
 refine⟨fun _=>undef,?_⟩
 have U:∀b,av ⟨P,n,w,M,fun _=>False,fun _=>undef⟩ (fun _=>undef) (af.ids ⟨oo 0 q,[],[]⟩) b->M b:=by
  rintro b (h|⟨i,hi,_⟩)
  ·exact h
  ·simp[af.ids]at hi
 refine{size:=?_,frame:=Frame.refl _ _,outer:=fun b o=>⟨R b o,fun h=>h⟩,kept:=(fun r c W=>absurd W List.not_mem_nil),cT:=?_,boxes:=fun b c o=>by simp at o,rows:=fun b c o=>by simp at o,apart:=fun i j hi=>by simp[af.ids]at hi,keys:=by simp[af.ids],fixed:=fun b c o=>by simp at o}
 ·show(vs.toArray++Array.replicate (n-vs.toArray.size) undef).size=n
  simp only[Array.size_append,List.size_toArray,Array.size_replicate]
  omega
 ·have X:=Jk (m:=fun _=>undef) (T:=vs.toArray++Array.replicate (n-vs.toArray.size) undef) 0 O (fun i v hi=>by
   rw[Nat.zero_add,Array.getElem?_append_left (by have:=(List.getElem?_eq_some_iff.1 hi).1;simpa using this)]
   simpa using hi)
  intro i aU hi
  obtain⟨v,Y,Z⟩:=X i aU hi
  exact⟨v,Y,fE (fun _ _ _=>rfl) (fun b _ o=>U b o) Z⟩
def CA:List (Nat×cG)->af->af
 |[],st=>st
 |(r,c)::l,st=>CA l (match look st.rw r with|some c'=>st.freeze r c'|none=>st)
def BT:List (Nat×bQ)->af->af
 |[],st=>st
 |(r,_)::l,st=>BT l (match look st.ad r with|some (.mp k v ps)=>st.fK r k v ps|_=>st)
theorem G2:∀{l:List (Nat×bQ)} {st:af},an cx m st T w->an cx m (BT l st) T w
 |[],_,h=>h
 |(r,c)::l,st,h=>by
  refine G2 (l:=l) ?_
  split
  ·rename_i k v ps o;exact h.fK (bc o)
  ·exact h
def pV(st:af):af:=Bw st.ad (BT st.ad (CA st.rw st))
theorem ME:∀{l:List (Nat×cG)} {st:af},an cx m st T w->an cx m (CA l st) T w
 |[],_,h=>h
 |(r,c)::l,st,h=>by
  refine ME (l:=l) ?_
  split
  ·rename_i c' o;exact h.freeze (bc o)
  ·exact h
def qa:ag->List ao->Option (al×List ao)
 |.ck,l=>match l with
  |.val t x::r=>match t.agg with
   |false=>some (⟨t,x⟩,r)
   |true=>none
  |_=>none
 |.unit,l=>some (⟨.unit,()⟩,l)
 |.pair a b,l=>match qa a l with
  |some (o,r)=>match qa b r with
   |some (q,O)=>some (⟨.pair o.t q.t,(o.x,q.x)⟩,O)
   |none=>none
  |none=>none
 |t,l=>match pack t l with
  |some (x,r)=>some (⟨t,x⟩,r)
  |none=>none
theorem Ur{M:Nat->Prop}:∀(t:ag) {cs:List Value} {c r:List ao} {v:al},ct w M m cs c->qa t c=some (v,r)->∃c1 c2,cs=c1++c2/\aJ w M v.t c1 v.x/\v.t.cells=t.cells/\v.t.agg=t.agg/\ct w M m c2 r:=by
 intro t
 have base:∀(t:ag) {cs:List Value} {c r:List ao} {v:al},ct w M m cs c->(match pack t c with
   |some (x,r)=>some ((⟨t,x⟩:al),r)
   |none=>none)=some (v,r)->∃c1 c2,cs=c1++c2/\aJ w M v.t c1 v.x/\v.t.cells=t.cells/\v.t.agg=t.agg/\ct w M m c2 r:=by
  intro t cs c r v o h
  split at h
  ·rename_i x W X
   cases h
   obtain⟨c1,c2,e,q,O⟩:=rh t o X
   exact⟨c1,c2,e,q,rfl,rfl,O⟩
  ·cases h
 induction t with
 |ck=>
  intro cs c r v o h
  unfold qa at h
  split at h
  ·rename_i t x W
   split at h
   ·rename_i R
    cases h
    match cs,o with
    |v0::vs,⟨q,O⟩=>
     have U:=(bA R).1 (show ba w M v0 t x from q)
     exact⟨[v0],vs,rfl,U,(cf t U).symm,R,O⟩
    |[],o=>exact o.elim
   ·cases h
  ·cases h
 |unit=>intro cs c r v o h;cases h;exact⟨[],cs,rfl,rfl,rfl,rfl,o⟩
 |pair a b Y Z=>
  intro cs c r v o h
  unfold qa at h
  split at h
  ·rename_i lb lc q
   split at h
   ·rename_i ld cS O
    cases h
    obtain⟨c1,c2,rfl,aC,aA,_,bW⟩:=Y o q
    obtain⟨d1,d2,rfl,l1,l2,_,la⟩:=Z bW O
    exact⟨c1++d1,d2,by simp,⟨c1,d1,rfl,aC,l1⟩,by simp only[ag.cells,aA,l2],rfl,la⟩
   ·cases h
  ·cases h
 |_=>intro cs c r v o h;exact base _ o h
def iH(P:Program)(st:af):List ResultVar->Option (List al)
 |[]=>some []
 |.tmp t::l=>match look st.ab t,iH P st l with
  |some (.val u x),some vs=>some (⟨u,x⟩::vs)
  |_,_=>none
 |.cell a ty'::l=>match look st.ab a,ty P ty',iH P st l with
  |some (.ptr b off),some u,some vs=>match look st.ad b with
   |some (.cells c _)=>match pack u (c.drop off)with
    |some (x,_)=>some (⟨u,x⟩::vs)
    |none=>match qa u (c.drop off)with
     |some (v,_)=>some (v::vs)
     |none=>none
   |_=>none
  |some (.dW b []),some u,some vs=>match look st.ad b with
   |some (.aY t x _)=>match al.as ⟨t,x⟩ u,Nat.beq u.cells 0 with
    |some y,false=>some (⟨u,y⟩::vs)
    |_,_=>none
   |_=>none
  |_,_,_=>none
def iY(T:Array Value):ResultVar->Sem Value
 |.tmp t=>pure (T.getD t undef)
 |.cell a t=>do loadVar t (<-asAddr (T.getD a undef))
theorem vi(h:an cx m st T w):∀{l:List ResultVar} {au:List al},iH cx.P st l=some au->
  ∃vs,(l.mapM (iY T)).run cx.P w=.ok vs w/\dQ w (av cx m st.ids) vs au
 |[],_,o=>by cases o;exact⟨[],by simp,trivial⟩
 |.tmp t::l,au,o=>by
  simp only[iH]at o
  split at o
  ·rename_i u x R U W
   cases o
   obtain⟨vs,O,X⟩:=vi h W
   obtain⟨v,Y,lq⟩:=h.cT t _ (bc U)
   refine⟨v::vs,?_,lq,X⟩
   have lr:T.getD t undef=v:=by rw[Array.getD_eq_getD_getElem?,Y];rfl
   have ld:(iY T (.tmp t)).run cx.P w=.ok v w:=by show Sem.run cx.P (pure (T.getD t undef)) w=_;rw[lr,Sem.run_pure]
   rw[List.mapM_cons,Sem.run_bind,ld]
   simp only[Result.andThen_ok,Sem.run_bind,O,Sem.run_pure]
  ·cases o
 |.cell a t::l,au,o=>by
  simp only[iH]at o
  have fin:∀(b off:Nat) (u:ag) (R:List al) (c:List ao) (e:Nat),look st.ab a=some (.ptr b off)->ty cx.P t=some u->iH cx.P st l=some R->look st.ad b=some (.cells c e)->∀v':al,
    (∀cs,ct w (av cx m st.ids) m cs (c.drop off)->∃c1 c2,cs=c1++c2/\aJ w (av cx m st.ids) v'.t c1 v'.x/\v'.t.cells=u.cells/\v'.t.agg=u.agg)->
    ∃vs,((ResultVar.cell a t::l).mapM (iY T)).run cx.P w=.ok vs w/\dQ w (av cx m st.ids) vs (v'::R):=by
   intro b off u R c e U Z W la v' ls
   obtain⟨vs,O,X⟩:=vi h W
   obtain⟨v0,Y,g,lg,lh⟩:=h.cT a _ (bc U)
   obtain⟨le,ae,_,cells,li,e4⟩:=h.box (bc la)
   have:le=g:=by rw[lg]at ae;cases ae;rfl
   subst this
   obtain⟨_,ai⟩:=jm (w:=w) (m:=m) off e4
   obtain⟨c1,c2,lt,lj,lu,lp⟩:=ls _ ai
   have lb:u.agg=false->0<u.cells:=by
    intro lc
    have lk:=dk Z
    cases u<;>first|(simp[ag.cells];done)|(simp[ag.agg]at lc)|(obtain⟨_,_,_,lk⟩:=lk;exact lk.elim)
   obtain⟨v,ll,q⟩:=jJ (c:=c1) Z li (fun j v lf=>by
    have:(cells.toList.drop off)[j]? =some v:=by rw[lt,List.getElem?_append_left (List.getElem?_eq_some_iff.1 lf).1];exact lf
    rw[List.getElem?_drop]at this
    simpa using this) ((cf v'.t lj).trans lu) lb
   have lm:ba w (av cx m st.ids) v v'.t v'.x:=by
    cases lc:u.agg with
    |true=>rw[lc,if_pos rfl]at q;exact(eh (lp.trans lc)).2 ⟨c1,q,lj⟩
    |false=>rw[lc]at q;simp at q;subst q;exact(bA (lp.trans lc)).2 lj
   refine⟨v::vs,?_,lm,X⟩
   have ln:T.getD a undef=.pointer (some ⟨le,off,none⟩):=by rw[Array.getD_eq_getD_getElem?,Y,lh];rfl
   have ld:(iY T (.cell a t)).run cx.P w=.ok v w:=by
    show Sem.run cx.P (do loadVar t (<-asAddr (T.getD a undef))) w=_
    rw[Sem.run_bind,ln]
    exact ll w (Ext.refl w)
   rw[List.mapM_cons,Sem.run_bind,ld]
   simp only[Result.andThen_ok,Sem.run_bind,O,Sem.run_pure]
  split at o
  ·rename_i b off u R U Z W
   split at o
   ·rename_i c eC la
    split at o
    ·rename_i x r lo
     cases o
     exact fin b off u R c eC U Z W la ⟨u,x⟩ fun cs ai=>by
      obtain⟨c1,c2,e,O,_⟩:=rh u ai lo
      exact⟨c1,c2,e,O,rfl,rfl⟩
    ·split at o
     ·rename_i v r lo
      cases o
      exact fin b off u R c eC U Z W la v fun cs ai=>by
       obtain⟨c1,c2,e,O,X,Y,_⟩:=Ur u ai lo
       exact⟨c1,c2,e,O,X,Y⟩
     ·cases o
   ·cases o
  ·rename_i b u R U Z W
   split at o
   ·rename_i lz x e la
    split at o
    ·rename_i y lv lw
     cases o
     have lx:=al.dj lv
     cases lx
     obtain⟨vs,O,X⟩:=vi h W
     obtain⟨v0,Y,g,lg,lh⟩:=h.cT a _ (bc U)
     obtain⟨le,ae,_,cells,li,e4⟩:=h.box (bc la)
     have:le=g:=by rw[lg]at ae;cases ae;rfl
     subst this
     have ly:0<u.cells:=Nat.pos_of_ne_zero (beq_false lw)
     obtain⟨v,ll,q⟩:=jJ (off:=0) (c:=cells.toList) Z li (fun j v lf=>by rw[Nat.zero_add,<-Array.getElem?_toList];exact lf) (cf u e4) (fun _=>ly)
     have lm:ba w (av cx m st.ids) v u y:=by
      cases lb:u.agg with
      |true=>rw[lb,if_pos rfl]at q;exact(eh lb).2 ⟨_,q,e4⟩
      |false=>rw[lb]at q;simp only[Bool.false_eq_true,if_false]at q;rw[q]at e4;exact(bA lb).2 e4
     refine⟨v::vs,?_,lm,X⟩
     have ln:T.getD a undef=.pointer (some ⟨le,0,none⟩):=by rw[Array.getD_eq_getD_getElem?,Y,lh];rfl
     have ld:(iY T (.cell a t)).run cx.P w=.ok v w:=by
      show Sem.run cx.P (do loadVar t (<-asAddr (T.getD a undef))) w=_
      rw[Sem.run_bind,ln]
      exact ll w (Ext.refl w)
     rw[List.mapM_cons,Sem.run_bind,ld]
     simp only[Result.andThen_ok,Sem.run_bind,O,Sem.run_pure]
    ·cases o
   ·cases o
  ·cases o
theorem I1{P:Program}{fn:Func}{T:Array Value}{vs:List Value}(h:(fn.results.toList.mapM (iY T)).run P w=.ok vs w):
  (results fn T).run P w=.ok (if h:vs.toArray.size=1 then vs.toArray[0]else .tuple vs.toArray) w:=by
 show Sem.run P (do let vs<-fn.results.mapM (iY T);pure (if h:vs.size=1 then vs[0]else .tuple vs)) w=_
 rw[Array.mapM_eq_mapM_toList,Sem.run_bind]
 have e:(Functor.map List.toArray (fn.results.toList.mapM (iY T))).run P w=.ok vs.toArray w:=by
  rw[map_eq_pure_bind,Sem.run_bind,h]
  rfl
 rw[e]
 rfl
def sh(P:Program)(fn:Func)(M:Nat->Prop)(w0:World)(au:List al):cZ:=
 bodyPost P fn fun e w'=>∃v,e=.returned v/\ol w' M v au/\Ext w0 w'
theorem nw{P:Program}{n:Nat}{M:Nat->Prop}{w0:World}{fn:Func}{au:List al}{e:Exit}{m0:Nat->Value}(O:e=.ret\/e=.normal)(R:iH P (pV st) fn.results.toList=some au):
  N ⟨P,n,w0,M,fun _=>False,m0⟩ (sh P fn M w0 au) e st:=by
 rintro T w ⟨m,o⟩
 have U:=HO (l:=st.ad) (G2 (l:=st.ad) (ME (l:=st.rw) o))
 obtain⟨vs,W,X⟩:=vi U R
 have Y:=I1 W
 have Z:Ext w0 w:={os:=o.frame.os,tape:=o.frame.tape,output:=o.frame.output,size:=o.frame.size,drawn:=o.frame.drawn,block:=fun b q=>o.frame.block b q (fun h=>h)}
 have la:dQ w M vs au:=rJ (fun _ _ _=>rfl) (fun b _ q=>.inl q) X
 have lb:ol w M (if h:vs.toArray.size=1 then vs.toArray[0]else .tuple vs.toArray) au:=by
  match vs,au,la with
  |[],[],_=>trivial
  |[v],[u],⟨h,_⟩=>exact h
  |v1::v2::vs,ld::le::us,h=>
   have lc:¬(v1::v2::vs).toArray.size=1:=by simp
   rw[dif_neg lc]
   exact⟨_,rfl,h⟩
  |[],_::_,h=>exact h.elim
  |_::_,[],h=>exact h.elim
  |[_],_::_::_,⟨_,h⟩=>exact h.elim
  |_::_::_,[_],⟨_,h⟩=>exact h.elim
 rcases O with rfl|rfl<;>exact⟨rfl,_,Y,_,rfl,lb,Z⟩
theorem enters_of{P:Program}{f:FuncId}{fn:Func}{c:Code}(o:P.funcs[f]? =some fn)(q:(fn.name== "runtime.NumGoroutine")=false)(O:fn.body=some c):
  ∀args w,(callFunc f args).run P w=.ok (.enter f args) w:=by
 intro args w
 have R:fn.name≠ "runtime.NumGoroutine" :=by simpa using q
 simp[callFunc,o,R,O,mark]
theorem ER{P:Program}{G:World->Prop}(U:∀w w',Frame w w' (fun _=>False)->G w->G w'){f:FuncId}{fn:Func}{c:Code}{F:jd}(q:P.funcs[f]? =some fn)(X:(fn.name== "runtime.NumGoroutine")=false)(O:fn.body=some c)
  (shape:∀o au,F.rel o au->o.length<=fn.ntmps/\au.length=F.fH/\(F.flat=true->∀u∈au,u.t.flat=true))
  (Y:∀(w0:World) (M:Nat->Prop) (o au:List al),(∀w,Frame w0 w (fun _=>False)->G w)->F.rel o au->W ⟨P,fn.ntmps,w0,M,fun _=>False,fun _=>undef⟩ (sh P fn M w0 au) c ⟨oo 0 o,[],[]⟩):a8 P G f F where
 enters:=enters_of q X O
 shape:=fun o au h=>(shape o au h).2
 calls:=fun w M vs o au Z la R lb=>calls_of_wp q O (Y w M o au (fun w' h=>U w w' h Z) R _ _ (entry la lb (shape o au R).1))
end Go.Ev
namespace Go.Ev
open Go Go.RowKit
variable [b8]
variable {cx:bI} {st st':af} {E:Env} {Q:cZ} {ops:Array Oper} {l:List Oper}
variable [ah cx]
abbrev ay(x:Int):ao:=.val (.int .i64) x
abbrev M7(x:Int):ao:=.val (.int .i32) x
abbrev dV(x:Int):ao:=.val (.int .u32) x
abbrev bR(x:Int):ao:=.val (.int .u8) x
abbrev aO(x:Bool):ao:=.val .bool x
abbrev aN(x:List UInt8):ao:=.val .str x
abbrev k3(x:Int):al:=⟨.int .i64,x⟩
abbrev yX(x:Int):al:=⟨.int .i32,x⟩
abbrev gK(x:Bool):al:=⟨.bool,x⟩
abbrev mI(x:List UInt8):al:=⟨.str,x⟩
def am(x:Int):Int:=IntKind.i64.wrap x
def dm(x:Int):Int:=IntKind.u32.wrap x
def nW(x:Int):Int:=IntKind.u8.wrap x
theorem Nw(S:Bool->af){b:Bool}(o:b=true->bU cx ops Q l (S true))(q:b=false->bU cx ops Q l (S false)):bU cx ops Q l (S b):=by cases b with|true=>exact o rfl|false=>exact q rfl
theorem Tw(o:bE E cx)(n:Nat)(q bs au:List Nat){orc:List al}{ob:List Prop}(O:mH E ops (l.take n) st orc q bs au=some (st',[],ob))(R:bP ob)(h:bU cx ops Q (l.drop n) st'):bU cx ops Q l st:=by
 obtain⟨s,U,W⟩:=M0 O
 exact sQ o n U R (h.norm W)
theorem II(o:bE E cx)(q bs au:List Nat){orc:List al}{ob:List Prop}(O:mH E ops l st orc q bs au=some (st',[],ob))(R:bP ob)(h:N cx Q .normal st'):bU cx ops Q l st:=by
 obtain⟨s,U,W⟩:=M0 O
 exact PZ o U R (h.norm W)
theorem kG{α:Type}(F:α->Prop)(S:α->af){x y:Code}(o:∀a,F a->W cx Q y (S a))(q:(∀a,F a->N cx (Exit.then (y.wp cx.P Q) Q) .normal (S a))->W cx (Exit.then (y.wp cx.P Q) Q) x st):W cx Q (.seq x y) st:=
 aG (q fun a O=>aF (o a O))
theorem iA{α:Type}(F:α->Prop)(S:α->af)(n:Nat)(o:∀a,F a->bU cx ops Q (l.drop n) (S a))(q:(∀a,F a->N cx (Exit.then (wpList cx.P ops Q (l.drop n)) Q) .normal (S a))->bU cx ops (Exit.then (wpList cx.P ops Q (l.drop n)) Q) (l.take n) st):bU cx ops Q l st:=by
 intro T w O
 have:=yq (P:=cx.P) (ops:=ops) (Q:=Q) (l1:=l.take n) (l2:=l.drop n) (q (fun a R=>U1 (o a R)) T w O)
 rwa [List.take_append_drop]at this
def bk(p:Prop)[Decidable p]:Option Unit:=if p then some ()else none
theorem dx{p:Prop}[Decidable p]{x:Unit}(h:bk p=some x):p:=by
 unfold bk at h
 split at h
 ·assumption
 ·cases h
theorem oC{g e:Bool}(h:g=true):(g&&e)=e:=by rw[h,Bool.true_and]
theorem pk{g e:Bool}(h:g=false):(g&&e)=false:=by rw[h,Bool.false_and]
theorem pS{g e:Bool}(h:g=true):(g||e)=true:=by rw[h,Bool.true_or]
theorem pN{g e:Bool}(h:g=false):(g||e)=e:=by rw[h,Bool.false_or]
theorem bind_some{α β:Type}{aa:Option α}{f:α->Option β}{r:β}(h:aa.bind f=some r):∃x,aa=some x/\f x=some r:=Option.bind_eq_some_iff.1 h
theorem dD{α:Type}{b:Bool}{x y:α}{r:α}(o:b=true)(h:(if b then x else y)=r):x=r:=by rw[<-h,if_pos o]
theorem dH{α:Type}{b:Bool}{x y:α}{r:α}(o:b=false)(h:(if b then x else y)=r):y=r:=by rw[<-h,if_neg (by rw[o];decide)]
theorem bE.nil{P:Program}{G:World->Prop}{n:Nat}{cx:bI}(o:cx.P=P)(q:cx.n=n)(O:∀w,Frame cx.w0 w cx.X->G w):bE ⟨P,G,n,[]⟩ cx:=⟨o,q,O,fun _ _ h=>by cases h⟩
theorem bE.cons{P:Program}{G:World->Prop}{n:Nat}{fns:List (Nat×jd)}{cx:bI}{f:Nat}{F:jd}(q:a8 P G f F)(h:bE ⟨P,G,n,fns⟩ cx):bE ⟨P,G,n,(f,F)::fns⟩ cx:=
 ⟨h.P,h.n,h.rm,fun g G o=>by rcases List.mem_cons.1 o with o|o;cases o;exact q;exact h.fns g G o⟩
/-! Slices of maps; maps of one entry at most. -/
def gm{α:Type}(xs:List (Option (Option α)))(i:Int):Option (Option α):=
 match xs[i.toNat]? with
 |some (some y)=>some y
 |_=>none
theorem kV{α:Type}{xs:List (Option (Option α))}{i:Int}{y:Option α}(h:gm xs i=some y):xs[i.toNat]? =some (some y):=by
 unfold gm at h
 split at h
 ·cases h;assumption
 ·cases h
def iB{α:Type}(xs:List (Option (Option α)))(i:Int):Option α:=
 match xs[i.toNat]? with
 |some (some (some y))=>some y
 |_=>none
theorem qi{α:Type}{xs:List (Option (Option α))}{i:Int}{y:α}(h:iB xs i=some y):xs[i.toNat]? =some (some (some y)):=by
 unfold iB at h
 split at h
 ·cases h;assumption
 ·cases h
theorem HH{α:Type}(z:α){n:Int}(h:0<n):List.replicate n.toNat z=List.replicate (List.length (List.replicate n.toNat z)) z/\0<List.length (List.replicate n.toNat z):=by
 rw[List.length_replicate]
 exact⟨rfl,by omega⟩
def mX{α β:Type}(l:List α)(a:Option β)(f:α->Option β):Option β:=
 match l with
 |[]=>a
 |[p]=>f p
 |_=>none
theorem xn{α β:Type}{l:List α}{a:Option β}{f:α->Option β}{y:β}(h:mX l a f=some y):(l=[]/\a=some y)\/∃p,l=[p]/\f p=some y:=by
 unfold mX at h
 split at h
 ·exact .inl ⟨rfl,h⟩
 ·exact .inr ⟨_,rfl,h⟩
 ·cases h
def uA{A o C:Type}(x:A⊕o)(f:A->Option C)(g:o->Option C):Option C:=match x with
 |.inl a=>f a
 |.inr b=>g b
def oX(x:Option Nat)(f:Nat):Bool:=match x with
 |some g=>Nat.beq g f
 |none=>false
end Go.Ev
namespace Go.Ev
open Go
def utf8_DecodeRuneInString(o:Nat)(s:List UInt8):Option (Int×Int):=some (((Lib.decodeGo ⟨s.toArray⟩).1:Int),((Lib.decodeGo ⟨s.toArray⟩).2:Int))
def utf8_ValidString(o:Nat)(s:List UInt8):Option Bool:=some (Lib.validD s)
/-! The builder. -/
def zn(o:Nat)(q:List Int):Option Unit:=some ()
def qN(o:Nat)(l:List Int):Option (List UInt8):=if dB (fl l)=l then some (fl l)else none
end Go.Ev
namespace Go.Ev
open Go Go.RowKit
variable [b8]
variable {cx:bI} {m:Nat->Value} {st st':af} {T:Array Value} {w w':World} {E:Env} {Q:cZ} {ops:Array Oper} {l:List Oper}
variable [ah cx]
theorem If{w w':World}{M M':Nat->Prop}:∀{vs o:List Value} {l:List al},(∀u∈l,u.t.flat=true)->dQ w M vs l->dQ w' M' o l->vs=o
 |[],[],[],_,_,_=>rfl
 |[],_,_::_,_,h,_=>h.elim
 |_::_,_,[],_,h,_=>h.elim
 |_,[],_::_,_,_,h=>h.elim
 |_,_::_,[],_,_,h=>h.elim
 |_::_,_::_,u::_,q,⟨O,R⟩,⟨U,W⟩=>by
  rw[oh (q u List.mem_cons_self) O U,If (fun x X=>q x (List.mem_cons_of_mem _ X)) R W]
def rO:List al->Bool
 |[]=>false
 |l=>l.all fun u=>u.t.flat
theorem SZ{w w':World}{M M':Nat->Prop}{m aI:Nat->Value}{v v':Value}{l:List al}(o:rO l=true)(h:aT w M m v (qX l))(h':aT w' M' aI v' (qX l)):v=v':=by
 match l,o,h,h' with
 |[u],o,h,h'=>exact oh (by simpa[rO]using o) h h'
 |R::U::us,o,⟨vs,e,h⟩,⟨W,q,h'⟩=>
  rw[e,q,If (fun u O=>by simp only[rO,List.all_eq_true]at o;exact o u O) h h']
def jp(E:Env)(st:af)(aa:Oper)(orc:List al):Option ew:=
 match dA E.P st aa.op orc with
 |some r=>some r
 |none=>match qZ E.P st aa orc with
 |some r=>some r
 |none=>match aa.op with
  |.load t x=>tR E.P st t x orc
  |.call c=>match c.callee with
   |.value x=>match sB E st x with
    |some (_,F,_)=>bif F.flat&&rO (orc.take F.fH)then nR E st c orc else none
    |none=>none
   |_=>none
  |_=>none
def gS(E:Env)(ops:Array Oper):List Oper->af->List al->Option (af×List al×List Prop)
 |[],st,orc=>some (st,orc,[])
 |aa::l,st,orc=>match eF ops st aa with
  |some true=>match aa.dst,jp E st aa orc with
   |some d,some r=>match Nat.blt d E.n,gS E ops l (st.put d r.aU) r.orc with
    |true,some (o,q,O)=>some (o,q,r.ob++O)
    |_,_=>none
   |_,_=>none
  |some false=>match aa.dst with
   |some d=>match Nat.blt d E.n with
    |true=>gS E ops l (st.put d .undef) orc
    |false=>none
   |none=>gS E ops l st orc
  |none=>none
theorem Qc{P:Program}{f:FuncId}{args:Array Value}{ak:Ending->World->Prop}(h:Calls P f args w ak):∃e w',ak e w':=by
 obtain⟨e,w',fr,o,_⟩:=h []
 exact⟨e,w',o⟩
theorem Aj(R:bE E cx)(h:an cx m st T w){aa:Oper}{orc:List al}{r:ew}(o:jp E st aa orc=some r)(U:bP r.ob):
  ∃v,(∀w',Ext w w'->aa.quietAt cx.P ⟨T,ah.D cx⟩ (Ext w) w' v)/\aT w (av cx m st.ids) m v r.aU:=by
 unfold jp at o
 split at o
 ·rename_i lh W
  cases o
  rw[<-R.P]at W
  obtain⟨v,ai,q⟩:=EG h W U
  refine⟨v,fun w' O=>?_,q⟩
  unfold Oper.quietAt
  rw[ai w' O]
  exact⟨rfl,rfl⟩
 ·split at o
  ·rename_i lh W
   cases o
   rw[<-R.P]at W
   obtain⟨v,lb,q⟩:=Eg h W U
   refine⟨v,fun w' O=>?_,q⟩
   unfold Oper.quietAt
   rw[lb w' O]
   exact⟨rfl,rfl⟩
  split at o
  ·rename_i t x Z
   rw[<-R.P]at o
   obtain⟨v,lb,q⟩:=Cr h o U
   refine⟨v,fun w' O=>?_,q⟩
   unfold Oper.quietAt
   rw[cn (by simp only[execOp,Z]) (lb w' O)]
   exact⟨rfl,rfl⟩
  ·rename_i c Z
   split at o
   ·rename_i lq li
    split at o
    ·rename_i f F lr lj
     cases X:F.flat&&rO (orc.take F.fH)with
     |false=>rw[X]at o;cases o
     |true=>
      rw[X,cond_true]at o
      simp only[Bool.and_eq_true]at X
      have le:r.aU=qX (orc.take F.fH):=by
       unfold nR at o
       rw[li]at o
       simp only[lj]at o
       split at o
       ·cases lf:Nat.ble F.fH orc.length with
        |false=>rw[lf]at o;cases o
        |true=>rw[lf]at o;cases o;rfl
       ·cases o
      obtain⟨f0,args,ls,lk⟩:=tx R h Z o U
      obtain⟨e,lt,v,_,lu,q⟩:=Qc lk
      refine⟨v,fun w' O=>?_,?_⟩
      ·obtain⟨f1,lv,ll,lm⟩:=tx R (h.ext O) Z o U
       unfold Oper.quietAt
       rw[ll w']
       refine⟨rfl,lm.mono ?_⟩
       rintro lw lx ⟨v',ln,lo,lg⟩
       rw[le]at q lg
       refine⟨?_,O.trans lo⟩
       rw[ln,SZ X.2 lg q]
      ·rw[le]at q⊢
       have Y:∀u∈orc.take F.fH,u.t.flat=true:=by
        have lc:=X.2
        intro u la
        cases ld:orc.take F.fH with
        |nil=>rw[ld]at la;simp at la
        |cons a ly=>rw[ld]at lc la;simp only[rO,List.all_eq_true]at lc;exact lc u la
       match ld:orc.take F.fH,Y,q with
       |[],_,_=>trivial
       |[u],Y,q=>exact DF (Y u List.mem_cons_self) q
       |_::_::_,Y,⟨vs,e,lp⟩=>exact⟨vs,e,BY Y lp⟩
    ·cases o
   ·cases o
  ·cases o
theorem kr(q:bE E cx){Q':Act->Prop}:∀{l:List Oper} {st:af} {T:Array Value} {orc orc':List al} {st':af} {ob:List Prop},ak cx st T w->gS E ops l st orc=some (st',orc',ob)->bP ob->
  (∀Y,ak cx st' Y w->Q' ⟨Y,ah.D cx⟩)->wpQuiet cx.P ops (Ext w) Q' l ⟨T,ah.D cx⟩
 |[],st,T,_,_,_,_,h,o,_,O=>by
  cases o
  exact O T h
 |aa::l,st,T,orc,orc',st',ob,h,o,U,O=>by
  unfold gS at o
  unfold wpQuiet
  split at o
  ·rename_i W
   rw[iC h W]
   simp only[if_true]
   split at o
   ·rename_i d r ai Z
    split at o
    ·rename_i le lf lg X la
     cases o
     obtain⟨lb,lc⟩:=tZ U
     obtain⟨m,R⟩:=h
     obtain⟨v,aM,ld⟩:=Aj q R Z lb
     refine⟨v,aM,?_⟩
     rw[ai]
     exact kr q ⟨m,R.put (by rw[q.n];exact cR X) ld⟩ la lc O
    ·cases o
   ·cases o
  ·rename_i W
   rw[iC h W]
   simp only[Bool.false_eq_true,if_false]
   split at o
   ·rename_i d ai
    split at o
    ·rename_i X
     obtain⟨m,R⟩:=h
     rw[ai]
     exact kr q ⟨m,R.put (d:=d) (s:=.undef) (v:=undef) (by rw[q.n];exact cR X) rfl⟩ o U O
    ·cases o
   ·rename_i ai
    rw[ai]
    exact kr q h o U O
  ·cases o
def kC(cx:bI)[ah cx](ops:Array Oper)(Q:cZ)(l:List Oper)(st:af):Prop:=∀T w,ak cx st T w->wpQuiet cx.P ops (Ext w) (fun a=>∀w',Ext w w'->Q .normal a w') l ⟨T,ah.D cx⟩
theorem uU{E:Env}(o:bE E cx){id:Nat}{l:List Oper}(q:E.P.follows .mixedOrders=true)(O:Region.lexB .any l.toArray=true)(h:kC cx l.toArray Q l st):W cx Q (.region id l.toArray true) st:=fun T w R=>
 wp_region_quiet (C:=Ext w) (o.P▸q) O {os:=rfl,tape:=rfl,output:=rfl,size:=Nat.le_refl _,drawn:=fun _=>Nat.le_succ _,block:=fun _ _=>rfl} (by simpa using h T w R)
theorem ak.ext(h:ak cx st T w)(o:Ext w w'):ak cx st T w':=let⟨m,q⟩:=h;⟨m,q.ext o⟩
theorem jR{P:Program}{C:World->Prop}{Q':Act->Prop}:∀{l1 l2:List Oper} {a:Act},wpQuiet P ops C (wpQuiet P ops C Q' l2) l1 a->wpQuiet P ops C Q' (l1++l2) a
 |[],_,_,h=>h
 |aa::l1,l2,a,h=>by
  simp only[List.cons_append,wpQuiet]at h⊢
  split
  ·rename_i o
   rw[if_pos o]at h
   exact Oper.quiet_mono (fun a=>jR) h
  ·rename_i o
   rw[if_neg o]at h
   exact jR h
def iJ(E:Env)(ops:Array Oper)(l:List Oper)(st:af)(orc:List al)(o bs au:List Nat):Option (af×List al×List Prop):=
 match gS E ops l st orc with
 |some (s,aa,p)=>match s.norm o bs au with
  |some q=>some (q,aa,p)
  |none=>none
 |none=>none
theorem zD{orc orc':List al}{ob:List Prop}{o bs au:List Nat}(h:iJ E ops l st orc o bs au=some (st',orc',ob)):∃s,gS E ops l st orc=some (s,orc',ob)/\s.norm o bs au=some st':=by
 unfold iJ at h
 split at h
 ·rename_i s aa p q
  split at h
  ·rename_i R O
   cases h
   exact⟨s,q,O⟩
  ·cases h
 ·cases h
theorem Xg(o:bE E cx)(q bs au:List Nat){orc:List al}{ob:List Prop}(O:iJ E ops l st orc q bs au=some (st',[],ob))(R:bP ob)(h:N cx Q .normal st'):kC cx ops Q l st:=by
 obtain⟨s,U,W⟩:=zD O
 intro T w X
 exact kr o X U R fun Y Z w' la=>h Y w' ((Z.norm W).ext la)
theorem SF(o:bE E cx)(n:Nat)(q bs au:List Nat){orc:List al}{ob:List Prop}(O:iJ E ops (l.take n) st orc q bs au=some (st',[],ob))(R:bP ob)(h:kC cx ops Q (l.drop n) st'):kC cx ops Q l st:=by
 obtain⟨s,U,W⟩:=zD O
 intro T w X
 have:=jR (P:=cx.P) (ops:=ops) (l1:=l.take n) (l2:=l.drop n) (kr o X U R fun Y Z=>h Y w (Z.norm W))
 rwa [List.take_append_drop]at this
def mq(cx:bI)[ah cx](K:World->Act->Prop)(st:af):Prop:=∀T w,ak cx st T w->K w ⟨T,ah.D cx⟩
def fO(cx:bI)[ah cx](ops:Array Oper)(K:World->Act->Prop)(l:List Oper)(st:af):Prop:=∀T w,ak cx st T w->wpQuiet cx.P ops (Ext w) (K w) l ⟨T,ah.D cx⟩
theorem yv{α:Type}(F:α->Prop)(S:α->af)(n:Nat)(q:∀a,F a->kC cx ops Q (l.drop n) (S a))
  (O:∀K,(∀a,F a->mq cx K (S a))->fO cx ops K (l.take n) st):kC cx ops Q l st:=by
 intro T w o
 have:=jR (P:=cx.P) (ops:=ops) (l1:=l.take n) (l2:=l.drop n)
  (O (fun w=>wpQuiet cx.P ops (Ext w) (fun a=>∀w',Ext w w'->Q .normal a w') (l.drop n)) (fun a R T w o=>q a R T w o) T w o)
 rwa [List.take_append_drop]at this
theorem QO{K:World->Act->Prop}(S:Bool->af){b:Bool}(o:b=true->fO cx ops K l (S true))(q:b=false->fO cx ops K l (S false)):fO cx ops K l (S b):=by cases b with|true=>exact o rfl|false=>exact q rfl
theorem WK{K:World->Act->Prop}(o:bE E cx)(q bs au:List Nat){orc:List al}{ob:List Prop}(O:iJ E ops l st orc q bs au=some (st',[],ob))(R:bP ob)(h:mq cx K st'):fO cx ops K l st:=by
 obtain⟨s,U,W⟩:=zD O
 intro T w X
 exact kr o X U R fun Y Z=>h Y w (Z.norm W)
theorem Rk{K:World->Act->Prop}(o:bE E cx)(n:Nat)(q bs au:List Nat){orc:List al}{ob:List Prop}(O:iJ E ops (l.take n) st orc q bs au=some (st',[],ob))(R:bP ob)(h:fO cx ops K (l.drop n) st'):fO cx ops K l st:=by
 obtain⟨s,U,W⟩:=zD O
 intro T w X
 have:=jR (P:=cx.P) (ops:=ops) (l1:=l.take n) (l2:=l.drop n) (kr o X U R fun Y Z=>h Y w (Z.norm W))
 rwa [List.take_append_drop]at this
end Go.Ev
namespace Go.Ev
open Go Go.Proofs Go.Shelf
set_option maxRecDepth 100000
def aq:World->Prop:=fun w=>Lib.Utf8Tabs 0 1 w/\(0<w.heap.size/\1<w.heap.size)
theorem Ir{w:World}{p:Addr}{v:Value}(h:w.cell? p=some v):p.block<w.heap.size:=by
 refine Nat.lt_of_not_le fun o=>?_
 have:w.heap[p.block]? =none:=Array.getElem?_eq_none o
 simp[World.cell?,this]at h
theorem Pb{w:World}(h:Lib.Utf8Tabs 0 1 w):aq w:=
 ⟨h,Ir (h.1 0 (by decide)),Ir (h.2 0 (by decide)).1⟩
theorem bl:∀w w',Frame w w' (fun _=>False)->aq w->aq w':=by
 rintro w w' o ⟨⟨R,U⟩,q,O⟩
 have aC:∀c,w'.cell? ⟨0,c,none⟩=w.cell? ⟨0,c,none⟩:=fun c=>World.cell?_of_block (w:=w) (o.block _ q id)
 have aA:∀c,w'.cell? ⟨1,c,none⟩=w.cell? ⟨1,c,none⟩:=fun c=>World.cell?_of_block (w:=w) (o.block _ O id)
 refine⟨⟨fun c W=>by rw[aC];exact R c W,fun i hi=>by rw[aA,aA];exact U i hi⟩,Nat.lt_of_lt_of_le q o.size,Nat.lt_of_lt_of_le O o.size⟩
def Da(k:Nat):jd:=⟨true,2,[],fun|[⟨.str,s⟩],[⟨.int .i32,r⟩,⟨.int .i64,n⟩]=>utf8_DecodeRuneInString k s=some (r,n)|_,_=>False⟩
theorem Ub(k:Nat):a8 Tryz.prog aq 158 (Da k) where
 enters:=enters_of Tryz.func158 (by kernel_rfl) rfl
 shape:=fun xs au h=>by
  unfold Da at h
  simp only at h
  split at h
  ·exact⟨rfl,fun _ u q=>by simp at q;(rcases q with rfl|rfl)<;>rfl⟩
  ·exact h.elim
 calls:=fun w M vs xs au O W h o=>by
  unfold Da at h
  simp only at h
  split at h
  case h_2=>exact h.elim
  rename_i s r n
  match vs,o with
  |[v],⟨o,_⟩=>
   have R:v=.string ⟨s.toArray⟩:=by
    have:=(show aJ w M .str [v] s from o).1
    simpa using this
   subst R
   refine(Any.utf8_DecodeRuneInString SC ⟨s.toArray⟩ w O.1).mono ?_
   rintro e w' ⟨rfl,U⟩
   cases h
   exact⟨_,rfl,⟨[_,_],rfl,rfl,rfl,trivial⟩,Ext.tj U fun h=>h.elim⟩
theorem UM:U8Extra Tryz.prog K6:=⟨by kernel_rfl,by kernel_rfl,by kernel_rfl,by kernel_rfl,by kernel_rfl,by kernel_rfl,by kernel_rfl⟩
theorem NS{w:World}(o:Lib.VarReads Tryz.prog w "unicode/utf8.first" Lib.firstData)(q:Lib.VarReads Tryz.prog w "unicode/utf8.acceptRanges" Lib.acceptData):aq w:=
 Pb (utf8Tabs_of_reads Vc UM o q)
end Go.Ev
