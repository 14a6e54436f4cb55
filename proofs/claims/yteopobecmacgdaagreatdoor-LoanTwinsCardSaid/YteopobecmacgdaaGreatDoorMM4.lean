/- Owned slices whose elements hold owned slices: what is read and written at an element. -/
import Derived.Test.YteopobecmacgdaaGreatDoorMM3
import Derived.Lib.Repeat
import Derived.Shelf.Unicode.DecodeAny
import Derived.Lib.ValidU
import Derived.Test.YteopobecmacgdaaGreatDoorMM1
import Derived.Lib.LaidU8
set_option linter.unusedSectionVars false
set_option linter.unusedVariables false
set_option linter.unusedSimpArgs false
namespace Go.Ev
open Go Go.RowKit
variable [cm]
variable {cx:bJ} {m aA:Nat->Value} {st st':af} {T:Array Value} {w w':World}
variable [aj cx]
def gd{α:Type}(l:List α)(off:Nat)(o:List α):List α:=l.take off++o++l.drop (off+o.length)
theorem FM{α:Type}{l o:List α}{off:Nat}(h:off+o.length<=l.length):(gd l off o).length=l.length:=by
 unfold gd
 simp only[List.length_append,List.length_take,List.length_drop]
 omega
theorem tE{α:Type}{l q:List α}{off p:Nat}(h:off+q.length<=l.length)(o:p<off\/off+q.length<=p):(gd l off q)[p]? =l[p]? :=by
 unfold gd
 rcases o with o|o
 ·rw[List.append_assoc,List.getElem?_append_left (by rw[List.length_take];omega),List.getElem?_take,if_pos o]
 ·rw[List.getElem?_append_right (by simp only[List.length_append,List.length_take];omega),List.getElem?_drop]
  congr 1
  simp only[List.length_append,List.length_take]
  omega
theorem abR{α:Type}(a b c o:List α)(h:o.length=b.length):gd (a++b++c) a.length o=a++o++c:=by
 unfold gd
 rw[List.append_assoc a b c,List.take_left,h,<-List.append_assoc,<-List.length_append,List.drop_left]
theorem ab9{α:Type}{l o:List α}{off k:Nat}{a:α}(h:off+o.length<=l.length)(R:k<off\/off+o.length<=k):gd (l.set k a) off o=(gd l off o).set k a:=by
 refine List.ext_getElem? fun p=>?_
 rcases Nat.lt_or_ge p off with q|q
 ·rw[tE (by simpa using h) (.inl q),List.getElem?_set,List.getElem?_set,tE h (.inl q),FM h]
 ·rcases Nat.lt_or_ge p (off+o.length)with O|O
  ·rw[List.getElem?_set_ne (by omega)]
   unfold gd
   rw[List.getElem?_append_left (by simp only[List.length_append,List.length_take,List.length_set];omega),List.getElem?_append_right (by simp only[List.length_take,List.length_set];omega),
    List.getElem?_append_left (by simp only[List.length_append,List.length_take];omega),List.getElem?_append_right (by simp only[List.length_take];omega)]
   simp only[List.length_take,List.length_set]
  ·rw[tE (by simpa using h) (.inr O),List.getElem?_set,List.getElem?_set,tE h (.inr O),FM h]
theorem ao.mg(h:ao cx m st T w){b e i:Nat}{k:eF}{xs:List k.u.el}{O:Option Int}{x:k.u.el}(lb:look st.ae b=some (.bw e k xs O))(R:xs[i]? =some x):
  ∃g cap cur us c1 c c2 o v q,m b=.tuple (.slice (some ⟨g,0,none⟩) xs.length cap::us).toArray/\w.heap[g]? =some (.cells cur e (0,0))/\xs.length<=cap/\cap<=maxLen/\cur.size=cap*k.u.cells/\
   cur.toList=c1++c++(c2++cur.toList.drop (xs.length*k.u.cells))/\c1.length=i*k.u.cells/\c.length=k.u.cells/\(c1++c++c2).length=xs.length*k.u.cells/\us=o++v::q/\o.length=i/\us.length=xs.length/\
   mn w (au cx m st.ids) k (iO O i) c v x/\(g::us.filterMap aY).Nodup/\
   ∀{w':World} {M':Nat->Prop} {h':Option Int} {x':k.u.el} {c':List Value} {v':Value},(∀b,b<w.heap.size->¬au cx m st.ids b->w'.heap[b]? =w.heap[b]?)->(∀b,b<w.heap.size->M' b->au cx m st.ids b)->(∀j,j≠i->(iO O j↔iO h' j))->
    (∀u,u∈o\/u∈q->∀b,aY u=some b->w'.heap[b]? =w.heap[b]?)->c'.length=k.u.cells->mn w' M' k (iO h' i) c' v' x'->fW w' M' k h' 0 (xs.set i x') (c1++c'++c2) (o++v'::q):=by
 obtain⟨ai,us,cells,lc,U,W,ld⟩:=h.bw lb
 have lk:i<xs.length:=(List.getElem?_eq_some_iff.1 R).1
 obtain⟨g,cap,cur,le,lf,lg,lh,li,lj⟩:=uO U (by omega)
 obtain⟨c1,c,c2,o,v,q,Y,a2,a3,a4,a5,Z,la⟩:=Oc W R
 rw[Nat.zero_add]at Z la
 subst le
 refine⟨g,cap,cur,us,c1,c,c2,o,v,q,lc,lf,lg,lh,li,?_,a2,a3,by rw[<-Y];exact U.1,a4,a5,(zQ W).1,Z,by simpa[aY]using ld,la⟩
 conv=>lhs;rw[<-List.take_append_drop (xs.length*k.u.cells) cur.toList]
 rw[lj,Y]
 simp
theorem Jf{e o n:Nat}{g cap:Nat}{cur:Array Value}{c1 c c' c2 rest:List Value}(R:w.heap[g]? =some (.cells cur e (0,0)))(U:n<=cap)(W:cap<=maxLen)(Y:cur.size=cap*o)(Z:cur.toList=c1++c++(c2++rest))(la:(c1++c++c2).length=n*o)(q:c'.length=c.length):
  (w.setRow g (c1++c'++(c2++rest)).toArray).ownsRow 0 e o (.slice (some ⟨g,0,none⟩) n cap) n (c1++c'++c2):=by
 have O:(c1++c'++c2).length=n*o:=by rw[<-la];simp only[List.length_append,q]
 refine⟨O,.inr ⟨g,cap,_,rfl,Nat.zero_le _,setRow_heap _ _ _ _ _ _ R,U,W,?_,?_⟩⟩
 ·rw[List.size_toArray,<-Y,<-Array.length_toList,Z];simp only[List.length_append,q]
 ·have:c1++c'++(c2++rest)=(c1++c'++c2)++rest:=by simp
  rw[List.toList_toArray,this,<-O,List.take_left]
theorem zA{q O:List Value}{v:Value}{g:Nat}(h:(g::(q++v::O).filterMap aY).Nodup):(∀b,aY v=some b->b≠g/\∀u,u∈q\/u∈O->aY u≠some b)/\∀u,u∈q\/u∈O->aY u≠some g:=by
 obtain⟨R,o⟩:=List.nodup_cons.1 h
 refine⟨fun b U=>⟨fun e=>R (List.mem_filterMap.2 ⟨v,by simp,by rw[<-e];exact U⟩),fun u hu e=>?_⟩,fun u hu e=>R (List.mem_filterMap.2 ⟨u,by rcases hu with hu|hu<;>simp[hu],e⟩)⟩
 rw[List.filterMap_append,List.filterMap_cons,U]at o
 simp only at o
 rw[List.nodup_append]at o
 rcases hu with hu|hu
 ·exact o.2.2 b (List.mem_filterMap.2 ⟨u,hu,e⟩) b List.mem_cons_self rfl
 ·exact(List.nodup_cons.1 o.2.1).1 (List.mem_filterMap.2 ⟨u,hu,e⟩)
abbrev fp{t:ah}(x:(ah.ab t).el):List t.el:=x
theorem Ib{q O:List Value}{v x:Value}{g:Nat}(h:(g::(q++v::O).filterMap aY).Nodup)(ld:∀b,aY x=some b->b≠g/\∀u,u∈q\/u∈O->aY u≠some b):(g::(q++x::O).filterMap aY).Nodup:=by
 obtain⟨le,lf⟩:=List.nodup_cons.1 h
 have la:((q++O).filterMap aY).Sublist ((q++v::O).filterMap aY):=List.Sublist.filterMap _ (List.Sublist.append (List.Sublist.refl q) (List.sublist_cons_self v O))
 have U:g∉(q++O).filterMap aY:=fun o=>le (la.subset o)
 have R:=lf.sublist la
 rw[List.filterMap_append]at U R
 rw[List.filterMap_append,List.filterMap_cons]
 cases lg:aY x with
 |none=>exact List.nodup_cons.2 ⟨U,R⟩
 |some b=>
  obtain⟨lh,lb⟩:=ld b lg
  rw[List.nodup_append]at R
  refine List.nodup_cons.2 ⟨fun o=>?_,?_⟩
  ·rcases List.mem_append.1 o with o|o
   ·exact U (List.mem_append.2 (.inl o))
   ·rcases List.mem_cons.1 o with o|o
    ·exact lh o.symm
    ·exact U (List.mem_append.2 (.inr o))
  ·rw[List.nodup_append]
   refine⟨R.1,List.nodup_cons.2 ⟨fun o=>?_,R.2.1⟩,fun a lc li W=>?_⟩
   ·obtain⟨u,Y,Z⟩:=List.mem_filterMap.1 o
    exact lb u (.inr Y) Z
   ·rcases List.mem_cons.1 W with rfl|W
    ·rintro rfl
     obtain⟨u,Y,Z⟩:=List.mem_filterMap.1 lc
     exact lb u (.inl Y) Z
    ·exact R.2.2 a lc li W
def DR(P:Program)(st:af)(t:TypeId)(x:Operand)(orc:List ak):Option dS:=
 match aW st x,ty P t with
 |some (.en b i off q),some o=>match look st.ae b,orc with
  |some (.bw _ k xs none),a::orc'=>match a.as k.u,Nat.beq q k.u.cells with
   |some x,true=>match Nat.beq off k.off&&o.beq (.ab k.t)with
    |true=>some ⟨.sub b i,orc',[ar xs i=some x]⟩
    |false=>match cE k.u x k.off ⟨.ab k.t,[]⟩,Nat.ble (off+o.cells) k.off||Nat.blt k.off off,Nat.beq o.cells 0 with
     |some O,true,false=>match dd k.u O off o with
      |some y=>some ⟨.val o y,orc',[ar xs i=some x]⟩
      |none=>none
     |_,_,_=>none
   |_,_=>none
  |_,_=>none
 |some (.fA b i j off q),some o=>match look st.ae b,orc with
  |some (.bw _ k xs none),a::c::orc'=>match a.as k.u,c.as k.t,Nat.beq q k.t.cells with
   |some x,some z,true=>match dd k.u x k.off (.ab k.t),dd k.t z off o,Nat.beq o.cells 0 with
    |some R,some y,false=>some ⟨.val o y,orc',[ar xs i=some x,ar (fp R) j=some z]⟩
    |_,_,_=>none
   |_,_,_=>none
  |_,_=>none
 |_,_=>none
theorem jV{α:Type}{xs:List α}{i:Int}{x:α}(h:ar xs i=some x):xs[i.toNat]? =some x:=(jG h).2.2
theorem vO{M:Nat->Prop}{k:eF}{cs:List Value}{v:Value}{x:k.u.el}{n:Nat}(h:mn w M k (iO none n) cs v x):∃(o:List k.t.el) (cells:List Value),dd k.u x k.off (.ab k.t)=some o/\w.ownsRow 0 k.e k.t.cells v o.length cells/\bT (aL w M k.t) cells o/\cs[k.off]? =some v:=by
 obtain⟨L,v1,Z,q,O,_,_,_,_,R⟩:=h
 obtain⟨rfl,o,cells,U,W,Y⟩:=R fun⟨_,h,_⟩=>by cases h
 refine⟨o,cells,U,W,Y,?_⟩
 rw[q,List.getElem?_set_self (List.getElem?_eq_some_iff.1 O).1]
theorem Se(h:ao cx m st T w){t:TypeId}{x:Operand}{orc:List ak}{li:dS}(o:DR cx.P st t x orc=some li)(ld:bW li.ob):
  ∃v,(∀w',Ext w w'->(Instr.loadAt t (Act.eval ⟨T,aj.D cx⟩ x)).run cx.P w'=.ok v w')/\aX w (au cx m st.ids) m v li.aU:=by
 unfold DR at o
 split at o
 ·rename_i b i off Y lj lk le
  obtain⟨g2,lr,ls,lN,W,a2⟩:=bj h lk
  split at o
  case h_2=>cases o
  rename_i e k xs a orc' lf
  split at o
  case h_2=>cases o
  rename_i lF _ R
  have R:=Nat.eq_of_beq_eq_true R
  have lt:∀g,g2=g->Instr.loadAt t (Act.eval ⟨T,aj.D cx⟩ x)=loadVar t ⟨g,i.toNat*Y+off,none⟩:=by rintro g rfl;rw[a2];rfl
  have key:∀{g cap us},m b=.tuple (.slice (some ⟨g,0,none⟩) xs.length cap::us).toArray->g2=g:=by
   intro g cap us lg
   rw[lg]at W
   simp only[Value.tuple.injEq,Array.mk.injEq,List.cons.injEq,Value.slice.injEq,Option.some.injEq,Addr.mk.injEq]at W
   exact W.1.1.1.symm
  split at o
  ·rename_i aJ
   cases o
   simp only[Bool.and_eq_true]at aJ
   have lu:=Nat.eq_of_beq_eq_true aJ.1
   obtain rfl:=ah.eq_of_beq aJ.2
   obtain⟨g,cap,cur,us,c1,c,c2,lv,v,lw,f1,f2,f3,f4,f5,f6,f7,f8,f9,f10,f11,f12,f13,f14,f15⟩:=h.mg lf (jV ld.1)
   obtain⟨lG,cells,ll,lx,ly,lm⟩:=vO f13
   obtain⟨v',Z,q⟩:=jY (P:=cx.P) (c:=[v]) (off:=i.toNat*Y+off) le f2 (fun j u O=>by
    have la:j=0:=by have:=(List.getElem?_eq_some_iff.1 O).1;simpa using this
    subst la
    simp at O
    subst O
    rw[<-Array.getElem?_toList,f6,Nat.add_zero,R,lu,<-f7,List.append_assoc,List.getElem?_append_right (by omega),Nat.add_sub_cancel_left,List.getElem?_append_left (by rw[<-lu];have:=(List.getElem?_eq_some_iff.1 lm).1;omega)]
    exact lm) rfl (fun _=>Nat.zero_lt_one)
   simp[ah.agg]at q
   subst q
   exact⟨v,fun lb lc=>by rw[lt g (key f1)];exact Z lb lc,_,us,f1,by rw[f10,<-f11];simp⟩
  ·split at o
   case h_2=>cases o
   rename_i lO lH lz ln
   split at o
   case h_2=>cases o
   rename_i y lo
   cases o
   obtain⟨g,cap,cur,us,c1,c,c2,lv,v,lw,f1,f2,f3,f4,f5,f6,f7,f8,f9,f10,f11,f12,f13,f14,f15⟩:=h.mg lf (jV ld.1)
   obtain⟨L,v1,lP,lg,lQ,_,lA,lI,_,_⟩:=f13
   rw[lH]at lA
   cases lA
   obtain⟨d1,d2,d3,lB,cy,dY⟩:=pA k.u lI lo
   have lJ:=cu lj dY
   obtain⟨v',Z,q⟩:=jY (P:=cx.P) (c:=d2) (off:=i.toNat*Y+off) le f2 (fun j u O=>by
    have la:=(List.getElem?_eq_some_iff.1 O).1
    have lR:L.length=k.u.cells:=by rw[<-f8,lg,List.length_set]
    have lS:L.length=d1.length+d2.length+d3.length:=by rw[lB];simp[Nat.add_assoc]
    rw[<-Array.getElem?_toList,f6,R,Nat.add_assoc,<-f7,List.append_assoc,List.getElem?_append_right (by omega),Nat.add_sub_cancel_left,List.getElem?_append_left (by omega),lg,List.getElem?_set_ne,lB,<-cy,List.append_assoc,List.getElem?_append_right (by omega),Nat.add_sub_cancel_left,List.getElem?_append_left la]
    ·exact O
    ·simp only[Bool.or_eq_true]at lz
     rcases lz with ai|ai
     ·have:=Nat.le_of_ble_eq_true ai;omega
     ·have:=dg ai;omega) lJ (fun _=>Nat.pos_of_ne_zero (by simpa using beq_false ln))
   refine⟨v',fun lb lc=>by rw[lt g (key f1)];exact Z lb lc,?_⟩
   show bf _ _ _ _ _
   unfold bf
   split at q
   ·rename_i U;rw[if_pos U];exact⟨d2,q,dY⟩
   ·rename_i U;rw[if_neg U,<-q];exact dY
 ·rename_i b i j off Y lj lk le
  obtain⟨lT,lU,g2,lr,ls,a0,W,a2⟩:=bj h lk
  split at o
  case h_2=>cases o
  rename_i e k xs a lV orc' lf
  split at o
  case h_2=>cases o
  rename_i lF z _ _ R
  have R:=Nat.eq_of_beq_eq_true R
  split at o
  case h_2=>cases o
  rename_i lG y lK lo ln
  cases o
  obtain⟨g,cap,cur,us,c1,c,c2,lv,v,lw,f1,f2,f3,f4,f5,f6,f7,f8,f9,f10,f11,f12,f13,f14,f15⟩:=h.mg lf (jV ld.1)
  obtain⟨lW,cells,ll,lx,ly,lm⟩:=vO f13
  rw[lK]at ll
  cases ll
  have lL:v=.slice (some ⟨g2,0,none⟩) lr ls:=by
   rw[f1]at a0
   simp only[Value.tuple.injEq,Array.mk.injEq,List.cons.injEq]at a0
   rw[<-a0.2,f10,<-f11]at W
   simpa using W
  have lC:=jV ld.2.1
  obtain⟨d1,d2,d3,rfl,cy,dY⟩:=mY ly lC
  obtain⟨lp,lh,lD,rfl,lM,lq⟩:=pA k.t dY lo
  obtain⟨lX,lY,lZ,t1,t2,t3,t4,t5,t6⟩:=uO lx (Nat.lt_of_le_of_lt (Nat.zero_le _) (List.getElem?_eq_some_iff.1 lC).1)
  rw[lL]at t1
  cases t1
  obtain⟨v',Z,q⟩:=jY (P:=cx.P) (c:=lh) (off:=j.toNat*Y+off) le t2 (fun lE u O=>by
   have la:=(List.getElem?_eq_some_iff.1 O).1
   have:(d1++(lp++lh++lD)++d3)[d1.length+lp.length+lE]? =some u:=by rw[Nx d1 lp lh lD d3 lE la];exact O
   rw[<-t6,List.getElem?_take]at this
   split at this
   ·rw[<-Array.getElem?_toList,R,<-cy,<-lM];exact this
   ·cases this) (cu lj lq) (fun _=>Nat.pos_of_ne_zero (by simpa using beq_false ln))
  refine⟨v',fun lb lc=>by rw[a2];exact Z lb lc,?_⟩
  show bf _ _ _ _ _
  unfold bf
  split at q
  ·rename_i U;rw[if_pos U];exact⟨lh,q,lq⟩
  ·rename_i U;rw[if_neg U,<-q];exact lq
 ·cases o
end Go.Ev
namespace Go.Ev
open Go Go.RowKit
variable [cm]
variable {cx:bJ} {m aA:Nat->Value} {st st':af} {T:Array Value} {w w':World}
variable [aj cx]
def ap.rf(b:Nat)(o:List Nat):ap->ap
 |.osl c=>bif Nat.beq c b then .osl c else ap.ed o (.osl c)
 |.en c i aa s=>bif Nat.beq c b then .en c i aa s else ap.ed o (.en c i aa s)
 |s=>s.ed o
theorem Ox{M:Nat->Prop}{D:List Nat}{b:Nat}{r:Value}{us q:List Value}(R:m b=.tuple (r::us).toArray)(U:aA b=.tuple (r::q).toArray)(Y:∀i,i∉D->aA i=m i){v:Value}{s:ap}(h:aX w M m v s):aX w M aA v (s.rf b D):=by
 have O:∀s:ap,aX w M m v s->aX w M aA v (s.ed D):=fun s Z=>oa Y Z
 cases s with
 |osl c=>
  show aX _ _ _ _ (bif Nat.beq c b then .osl c else ap.ed D (.osl c))
  cases e:Nat.beq c b with
  |false=>exact O _ h
  |true=>
   have e:=Nat.eq_of_beq_eq_true e
   subst e
   obtain⟨la,o⟩:=h
   refine⟨q,?_⟩
   rw[U]
   rw[R]at o
   simp only[Value.tuple.injEq,Array.mk.injEq,List.cons.injEq]at o
   rw[o.1]
 |en c i aa W=>
  show aX _ _ _ _ (bif Nat.beq c b then .en c i aa W else ap.ed D (.en c i aa W))
  cases e:Nat.beq c b with
  |false=>exact O _ h
  |true=>
   have e:=Nat.eq_of_beq_eq_true e
   subst e
   obtain⟨g,n,cap,la,o,lb⟩:=h
   refine⟨g,n,cap,q,?_,lb⟩
   rw[U]
   rw[R]at o
   simp only[Value.tuple.injEq,Array.mk.injEq,List.cons.injEq]at o
   rw[o.1]
 |_=>exact O _ h
def Aa(P:Program)(lb:Nat)(st:af)(t:TypeId)(x y:Operand)(orc:List ak):Option (af×List ak×List Prop):=
 match aW st x,ty P t,aW st y with
 |some (.en b i off W),some O,some (.val R z)=>match look st.ae b,orc with
  |some (.bw e k xs none),a::orc'=>match a.as k.u,Nat.beq W k.u.cells&&R.beq O&&(Nat.ble (off+O.cells) k.off||Nat.blt k.off off)with
   |some o,true=>match cE k.u o off ⟨R,z⟩,cE k.u o k.off ⟨.ab k.t,[]⟩with
    |some q,some Z=>match cE k.u Z off ⟨R,z⟩with
     |some la=>some (st.dr b (.bw e k (xs.set i.toNat q) none),orc',[ar xs i=some o,cE k.u q k.off ⟨.ab k.t,[]⟩=some la,dd k.u q k.off (.ab k.t)=dd k.u o k.off (.ab k.t)])
     |none=>none
    |_,_=>none
   |_,_=>none
  |_,_=>none
 |some (.fA b i j off W),some O,some (.val R z)=>match look st.ae b,orc with
  |some (.bw e k xs none),a::c::orc'=>match a.as k.u,c.as k.t,Nat.beq W k.t.cells&&R.beq O with
   |some o,some z0,true=>match dd k.u o k.off (.ab k.t),cE k.t z0 off ⟨R,z⟩with
    |some U,some Y=>match cE k.u o k.off ⟨.ab k.t,(fp U).set j.toNat Y⟩with
     |some q=>some (st.dr b (.bw e k (xs.set i.toNat q) none),orc',[ar xs i=some o,ar (fp U) j=some z0,cE k.u q k.off ⟨.ab k.t,[]⟩=cE k.u o k.off ⟨.ab k.t,[]⟩,dd k.u q k.off (.ab k.t)=some ((fp U).set j.toNat Y)])
     |none=>none
    |_,_=>none
   |_,_,_=>none
  |_,_=>none
 |some (.en b i off W),some O,some (.row r)=>match look st.ae b,look st.rw r,orc with
  |some (.bw e k xs h),some c,a::orc'=>match a.as k.u,Nat.beq W k.u.cells&&(Nat.beq off k.off&&(O.beq (.ab k.t)&&(Nat.beq c.e k.e&&!(Nat.beq b r)))),ak.as ⟨.ab c.t,c.xs⟩ (.ab k.t)with
   |some o,true,some U=>match cE k.u o k.off ⟨.ab k.t,U⟩with
    |some q=>some (st.dZ [b,r] [(b,.bw e k (xs.set i.toNat q) none)] [] (ap.rf b [b,r]),orc',[ar xs i=some o,cE k.u q k.off ⟨.ab k.t,[]⟩=cE k.u o k.off ⟨.ab k.t,[]⟩,dd k.u q k.off (.ab k.t)=some U]++(match h with
     |none=>[]
     |some i0=>[i0=i]))
    |none=>none
   |_,_,_=>none
  |_,_,_=>none
 |_,_,_=>none
theorem jU{r o:Value}{us q:List Value}(h:Value.tuple (r::us).toArray=.tuple (o::q).toArray):r=o/\us=q:=by
 simpa using h
theorem Gr{g o n q cap O:Nat}(h:Value.slice (some ⟨g,0,none⟩) n cap=.slice (some ⟨o,0,none⟩) q O):g=o:=by
 simp only[Value.slice.injEq,Option.some.injEq,Addr.mk.injEq]at h
 exact h.1.1
theorem Mc{b g n cap:Nat}{us:List Value}(h:m b=.tuple (.slice (some ⟨g,0,none⟩) n cap::us).toArray):own (m b) g:=by rw[h];exact dA.2 (.inl rfl)
theorem XU(h:ao cx m st T w){b e:Nat}{i:Int}{k:eF}{xs:List k.u.el}{off:Nat}{t:TypeId}{o:ah}{z:o.el}{x y:Operand}{R O le W:k.u.el}(lf:look st.ae b=some (.bw e k xs none))(lr:aW st x=some (.en b i off k.u.cells))(ls:ty cx.P t=some o)(lt:aW st y=some (.val o z))
  (lY:off+o.cells<=k.off\/k.off<off)(lZ:cE k.u R off ⟨o,z⟩=some O)(lu:cE k.u R k.off ⟨.ab k.t,[]⟩=some le)(lv:cE k.u le off ⟨o,z⟩=some W)(lw:ar xs i=some R)(lx:cE k.u O k.off ⟨.ab k.t,[]⟩=some W)(ly:dd k.u O k.off (.ab k.t)=dd k.u R k.off (.ab k.t)):
  ∃w',(Instr.storeAt t (Act.eval ⟨T,aj.D cx⟩ x) (Act.eval ⟨T,aj.D cx⟩ y)).run cx.P w=.ok () w'/\ao cx m (st.dr b (.bw e k (xs.set i.toNat O) none)) T w':=by
 obtain⟨g2,l0,l3,l4,lz,a2⟩:=bj h lr
 obtain⟨g,cap,cur,us,c1,c,c2,l5,v,l6,f1,f2,f3,f4,f5,f6,f7,f8,f9,f10,f11,f12,f13,f14,f15⟩:=h.mg lf (jV lw)
 have lA:g2=g:=Gr (jU (lz.symm.trans f1)).1
 subst lA
 obtain⟨L,v1,l7,lg,lh,lB,li,lC,lD,lE⟩:=f13
 rw[lu]at li
 cases li
 have lF:bf w (au cx m st.ids) (Act.eval ⟨T,aj.D cx⟩ y) o z:=bj h lt
 have U:=jP lF
 have Y:=cu o U
 have lG:(Act.eval ⟨T,aj.D cx⟩ y).cells.size=o.cells:=by rw[<-Y];simp
 obtain⟨d1,d2,d3,lj,cy,dY,gQ⟩:=rC (v:=⟨o,z⟩) U k.u lC lv
 generalize lk:(Act.eval ⟨T,aj.D cx⟩ y).cells.toList=q at*
 have ll:L.length=k.u.cells:=by rw[<-f8,lg,List.length_set]
 have l8:L.length=d1.length+d2.length+d3.length:=by rw[lj];simp[Nat.add_assoc]
 have lH:gd L off q=d1++q++d3:=by rw[lj,<-cy,abR _ _ _ _ dY.symm]
 have Z:off+q.length<=L.length:=by omega
 have l9:k.off<L.length:=(List.getElem?_eq_some_iff.1 lh).1
 have lm:k.off<off\/off+q.length<=k.off:=by rw[Y];omega
 have lI:gd c off q=(gd L off q).set k.off v1:=by rw[lg,ab9 Z lm]
 have ln:(gd c off q).length=c.length:=FM (by rw[f8,<-ll];exact Z)
 have lJ:i.toNat*k.u.cells+off+o.cells<=cur.size:=by
  rw[<-Array.length_toList,f6];simp only[List.length_append];omega
 have lo:=nU (P:=cx.P) ls f2 lG lJ (hU o (by rw[<-lk]at U;exact U))
 have lK:cur.toList.take (i.toNat*k.u.cells+off)++(Act.eval ⟨T,aj.D cx⟩ y).cells.toList++cur.toList.drop (i.toNat*k.u.cells+off+o.cells)=c1++gd c off q++(c2++cur.toList.drop (xs.length*k.u.cells)):=by
  generalize cur.toList.drop (xs.length*k.u.cells)=rest at f6⊢
  rw[f6,lk,<-f7]
  have lL:c1++c++(c2++rest)=c1++(c++(c2++rest)):=by simp
  have lM:off+o.cells<=c.length:=by rw[f8,<-ll];omega
  rw[lL,List.take_append,List.take_of_length_le (by omega),Nat.add_sub_cancel_left,List.take_append_of_le_length (by omega),Nat.add_assoc,List.drop_append,List.drop_eq_nil_of_le (by omega),Nat.add_sub_cancel_left,List.drop_append_of_le_length lM]
  unfold gd
  rw[Y]
  simp
 rw[lK]at lo
 refine⟨_,by rw[a2];exact lo,?_⟩
 have la:=be lf
 have lN:b∈st.ids:=List.mem_append.2 (.inl (List.mem_map.2 ⟨_,la,rfl⟩))
 have lp:Touch m w b (w.setRow g2 (c1++gd c off q++(c2++cur.toList.drop (xs.length*k.u.cells))).toArray):=
  ⟨kC _ _ _,fun aa ab lO=>setRow_other _ _ _ _ (fun e=>lO (by rw[e];exact Mc f1))⟩
 obtain⟨lb,lc⟩:=ao.ia (cx:=cx) lN lp (ids:=(st.dr b (.bw e k (xs.set i.toNat O) none)).ids) (k7 la h.keys _).1
 rw[f10]at f14
 obtain⟨lP,lQ⟩:=zA f14
 refine h.dr la lp (g:=g2) ⟨_,_,f1⟩ ⟨_,us,c1++gd c off q++c2,f1,?_,?_,?_⟩
 ·rw[List.length_set]
  exact Jf f2 f3 f4 f5 f6 f9 ln
 ·rw[f10]
  refine f15 lb lc (fun _ _=>Iff.rfl) (fun u lR lq ld=>setRow_other _ _ _ _ (fun e=>lQ u lR (by rw[<-e];exact ld))) (by rw[ln,f8]) ?_
  refine⟨gd L off q,v1,W,lI,by rw[tE Z lm];exact lh,lB,lx,?_,lD,fun lS=>?_⟩
  ·rw[lH];exact cS lb lc k.u gQ
  ·obtain⟨lT,lU,cells,lV,lW,lX⟩:=lE lS
   exact⟨lT,lU,cells,by rw[ly];exact lV,qj lW fun lq ld=>setRow_other _ _ _ _ (lP lq ld).1,dD (fun _ _=>cS lb lc k.t) lX⟩
 ·rw[f10];simpa[aY]using f14
theorem YK(h:ao cx m st T w){b e:Nat}{i j:Int}{k:eF}{xs:List k.u.el}{off:Nat}{t:TypeId}{O:ah}{z:O.el}{x y:Operand}{lc Z:k.u.el}{R:List k.t.el}{z0 ld:k.t.el}(lp:look st.ae b=some (.bw e k xs none))(lB:aW st x=some (.fA b i j off k.t.cells))(lC:ty cx.P t=some O)(lD:aW st y=some (.val O z))
  (lE:dd k.u lc k.off (.ab k.t)=some R)(lF:cE k.t z0 off ⟨O,z⟩=some ld)(lG:ar xs i=some lc)(lH:ar R j=some z0)(lI:cE k.u Z k.off ⟨.ab k.t,[]⟩=cE k.u lc k.off ⟨.ab k.t,[]⟩)(lJ:dd k.u Z k.off (.ab k.t)=some (R.set j.toNat ld)):
  ∃w',(Instr.storeAt t (Act.eval ⟨T,aj.D cx⟩ x) (Act.eval ⟨T,aj.D cx⟩ y)).run cx.P w=.ok () w'/\ao cx m (st.dr b (.bw e k (xs.set i.toNat Z) none)) T w':=by
 obtain⟨ak,al,g2,lK,lL,a0,lq,a2⟩:=bj h lB
 obtain⟨g,cap,cur,us,c1,c,c2,am,v,an,f1,f2,f3,f4,f5,f6,f7,f8,f9,f10,f11,f12,f13,f14,f15⟩:=h.mg lp (jV lG)
 obtain⟨L,v1,lM,lN,lO,lP,lQ,lR,lS,lT⟩:=f13
 obtain⟨lU,ap,cells,lr,ls,lV⟩:=lT fun⟨_,h,_⟩=>by cases h
 rw[lE]at lr
 cases lr
 have la:v=.slice (some ⟨g2,0,none⟩) lK lL:=by
  rw[f1]at a0
  rw[<-(jU a0).2,f10,<-f11]at lq
  simpa using lq
 obtain⟨_,_,lt⟩:=jG lH
 have lW:bf w (au cx m st.ids) (Act.eval ⟨T,aj.D cx⟩ y) O z:=bj h lD
 have le:=jP lW
 have lf:=cu O le
 have lX:(Act.eval ⟨T,aj.D cx⟩ y).cells.size=O.cells:=by rw[<-lf];simp
 obtain⟨lY,lZ,W,t1,t2,t3,t4,t5,t6⟩:=uO ls (Nat.lt_of_le_of_lt (Nat.zero_le _) (List.getElem?_eq_some_iff.1 lt).1)
 have l0:g2=lY:=by rw[la]at t1;exact Gr t1
 subst l0
 obtain⟨d1,d2,d3,rfl,cy,dY,l3⟩:=tv lV lt
 obtain⟨o,U,q,rfl,l4,lg,l5⟩:=rC (v:=⟨O,z⟩) le k.t dY lF
 obtain⟨rest,lb⟩:∃rest,W.toList=(d1++(o++U++q)++d3)++rest:=⟨W.toList.drop (R.length*k.t.cells),by rw[<-t6,List.take_append_drop]⟩
 have lu:(d1++(o++U++q)++d3).length=R.length*k.t.cells:=ls.1
 have lh:j.toNat*k.t.cells+off=(d1++o).length:=by rw[List.length_append,cy,l4]
 have l6:W.toList.length=(d1++o).length+U.length+(q++d3++rest).length:=by rw[lb];simp only[List.length_append];omega
 have l7:j.toNat*k.t.cells+off+O.cells<=W.size:=by
  rw[<-Array.length_toList,l6,lh,<-lf,lg]
  omega
 have lv:=nU (P:=cx.P) lC t2 lX l7 (hU O le)
 have l8:W.toList.take (j.toNat*k.t.cells+off)=d1++o:=by
  rw[lb,lh]
  have:d1++(o++U++q)++d3++rest=(d1++o)++(U++q++d3++rest):=by simp
  rw[this,List.take_left]
 have l9:W.toList.drop (j.toNat*k.t.cells+off+O.cells)=q++d3++rest:=by
  rw[lb,lh,<-lf,<-lg,<-List.length_append]
  have:d1++(o++U++q)++d3++rest=(d1++o++U)++(q++d3++rest):=by simp
  rw[this,List.drop_left]
 rw[l8,l9]at lv
 refine⟨_,by rw[a2];exact lv,?_⟩
 have li:=be lp
 have aa:b∈st.ids:=List.mem_append.2 (.inl (List.mem_map.2 ⟨_,li,rfl⟩))
 have ab:own (m b) g2:=by rw[f1,f10];exact dA.2 (.inr ⟨v,by simp,by rw[la];rfl⟩)
 generalize lj:w.setRow g2 (d1++o++(Act.eval ⟨T,aj.D cx⟩ y).cells.toList++(q++d3++rest)).toArray=lw
 have lk:∀Y,Y≠g2->lw.heap[Y]? =w.heap[Y]? :=fun Y ll=>by rw[<-lj];exact setRow_other _ _ _ _ ll
 have lx:Touch m w b lw:=⟨by rw[<-lj];exact kC _ _ _,fun Y aq ll=>lk Y (fun e=>ll (by rw[e];exact ab))⟩
 obtain⟨lm,ln⟩:=ao.ia (cx:=cx) aa lx (ids:=(st.dr b (.bw e k (xs.set i.toNat Z) none)).ids) (k7 li h.keys _).1
 rw[f10]at f14
 obtain⟨ly,av⟩:=zA f14
 have ad:g≠g2:=fun e=>(ly g2 (by rw[la];rfl)).1 e.symm
 refine h.dr li lx (g:=g) ⟨_,_,f1⟩ ⟨_,us,c1++c++c2,f1,?_,?_,?_⟩
 ·rw[List.length_set]
  have ae:cur.toList.take (xs.length*k.u.cells)=c1++c++c2:=by
   generalize cur.toList.drop (xs.length*k.u.cells)=lz at f6
   rw[f6,<-f9]
   have:c1++c++(c2++lz)=(c1++c++c2)++lz:=by simp
   rw[this,List.take_left]
  exact⟨f9,.inr ⟨g,cap,cur,rfl,Nat.zero_le _,by rw[lk g ad];exact f2,f3,f4,f5,ae⟩⟩
 ·rw[f10]
  refine f15 lm ln (fun _ _=>Iff.rfl) (fun u af ag ai=>lk ag (fun e=>(ly g2 (by rw[la];rfl)).2 u af (by rw[<-e];exact ai))) f8 ?_
  refine⟨L,v1,lM,lN,lO,lP,by rw[lI];exact lQ,cS lm ln k.u lR,lS,fun _=>⟨lU,R.set j.toNat ld,_,lJ,?_,dD (fun _ _=>cS lm ln k.t) (l3 _ _ l5)⟩⟩
  have lA:d1++o++(Act.eval ⟨T,aj.D cx⟩ y).cells.toList++(q++d3++rest)=(d1++(o++(Act.eval ⟨T,aj.D cx⟩ y).cells.toList++q)++d3)++rest:=by simp
  have lo:(d1++(o++(Act.eval ⟨T,aj.D cx⟩ y).cells.toList++q)++d3).length=R.length*k.t.cells:=by
   rw[<-lu];simp only[List.length_append,lg]
  refine⟨by rw[List.length_set];exact lo,.inr ⟨g2,lZ,_,by rw[List.length_set,t1],Nat.zero_le _,by rw[<-lj];exact setRow_heap _ _ _ _ _ _ t2,by rw[List.length_set];exact t3,t4,?_,?_⟩⟩
  ·rw[List.size_toArray,lA,List.length_append,lo,<-t5,<-Array.length_toList,lb,List.length_append,lu]
  ·rw[List.length_set,lA,<-lo,List.take_left]
 ·rw[f10];simpa[aY]using f14
end Go.Ev
namespace Go.Ev
open Go Go.RowKit
variable [cm]
variable {cx:bJ} {m aA:Nat->Value} {st st':af} {T:Array Value} {w w':World}
variable [aj cx]
theorem Du{c:cV}{e:Nat}{u:ah}{q:List u.el}(O:c.e=e)(o:ak.as ⟨.ab c.t,c.xs⟩ (.ab u)=some q):c=⟨e,u,q⟩:=by
 obtain⟨U,qc,R⟩:=c
 have o:ak.as ⟨.ab qc,R⟩ (.ab u)=some q:=o
 have o:=ak.dx o
 cases o
 subst O
 rfl
theorem Yb(h:ao cx m st T w){b e r:Nat}{i:Int}{k:eF}{xs:List k.u.el}{lt:Option Int}{t:TypeId}{x y:Operand}{lu lc:k.u.el}{lg:List k.t.el}(W:look st.ae b=some (.bw e k xs lt))(lF:look st.rw r=some ⟨k.e,k.t,lg⟩)(lv:b≠r)
  (lG:aW st x=some (.en b i k.off k.u.cells))(lH:ty cx.P t=some (.ab k.t))(lI:aW st y=some (.row r))
  (lJ:ar xs i=some lu)(lK:cE k.u lc k.off ⟨.ab k.t,[]⟩=cE k.u lu k.off ⟨.ab k.t,[]⟩)(lL:dd k.u lc k.off (.ab k.t)=some lg)(lM:∀i0,lt=some i0->i0=i):
  ∃w' aA,(Instr.storeAt t (Act.eval ⟨T,aj.D cx⟩ x) (Act.eval ⟨T,aj.D cx⟩ y)).run cx.P w=.ok () w'/\ao cx aA (st.dZ [b,r] [(b,.bw e k (xs.set i.toNat lc) none)] [] (ap.rf b [b,r])) T w':=by
 obtain⟨g2,l8,l9,aa,lN,a2⟩:=bj h lG
 obtain⟨g,cap,cur,us,c1,Y,c2,lw,v,lx,f1,f2,f3,f4,f5,f6,f7,f8,f9,f10,f11,f12,f13,f14,f15⟩:=h.mg W (jV lJ)
 have lO:g2=g:=Gr (jU (lN.symm.trans f1)).1
 subst lO
 obtain⟨L,v1,lP,ly,lz,ab,lQ,lR,ad,ae⟩:=f13
 have lh:=be lF
 have lS:=be W
 have Z:b∈st.ids:=List.mem_append.2 (.inl (List.mem_map.2 ⟨_,lS,rfl⟩))
 have li:r∈st.ids:=List.mem_append.2 (.inr (List.mem_map.2 ⟨_,lh,rfl⟩))
 obtain⟨cells,lA,af,lT⟩:=h.rows r _ lh
 have lU:Act.eval ⟨T,aj.D cx⟩ y=m r:=bj h lI
 have lB:(m r).oneCell'=true:=row_one h lh
 have lj:(m r).cells=#[m r]:=by
  rcases lA.2 with ⟨lC,_⟩|⟨_,_,_,lC,_⟩<;>rw[lC]<;>rfl
 have ag:k.off<L.length:=(List.getElem?_eq_some_iff.1 lz).1
 have ai:L.length=k.u.cells:=by rw[<-f8,ly,List.length_set]
 have lV:i.toNat*k.u.cells+k.off+(ah.ab k.t).cells<=cur.size:=by
  rw[<-Array.length_toList,f6];simp only[List.length_append,ah.cells];omega
 have lk:=nU (P:=cx.P) (v:=m r) lH f2 (by rw[lj];rfl) lV (fun u hu=>by rw[lj]at hu;simp at hu;rw[hu];exact lB)
 have lW:cur.toList.take (i.toNat*k.u.cells+k.off)++(m r).cells.toList++cur.toList.drop (i.toNat*k.u.cells+k.off+(ah.ab k.t).cells)=c1++Y.set k.off (m r)++(c2++cur.toList.drop (xs.length*k.u.cells)):=by
  generalize cur.toList.drop (xs.length*k.u.cells)=rest at f6⊢
  rw[f6,<-f7,lj]
  have lX:c1++Y++(c2++rest)=c1++(Y++(c2++rest)):=by simp
  have lY:k.off+1<=Y.length:=by omega
  rw[lX,List.take_append,List.take_of_length_le (by omega),Nat.add_sub_cancel_left,List.take_append_of_le_length (by omega),Nat.add_assoc,List.drop_append,List.drop_eq_nil_of_le (by omega),Nat.add_sub_cancel_left]
  show _=_
  simp only[ah.cells]
  rw[List.drop_append_of_le_length lY,List.set_eq_take_append_cons_drop,if_pos (by omega)]
  simp
 rw[lW]at lk
 generalize ll:w.setRow g2 (c1++Y.set k.off (m r)++(c2++cur.toList.drop (xs.length*k.u.cells))).toArray=lm at lk
 have ln:∀O,O≠g2->lm.heap[O]? =w.heap[O]? :=fun O ld=>by rw[<-ll];exact setRow_other _ _ _ _ ld
 have lo:own (m b) g2:=Mc f1
 obtain⟨v2,le⟩:∃v2,v2=Value.tuple (.slice (some ⟨g2,0,none⟩) xs.length cap::(lw++m r::lx)).toArray:=⟨_,rfl⟩
 rw[f10]at f14 f1
 obtain⟨ak,lZ⟩:=zA f14
 have lp:∀o,aY (m r)=some o->own (m r) o:=fun o W=>gP W
 have lD:∀o,aY (m r)=some o->o≠g2:=fun o W e=>h.apart b r Z li lv g2 lo (by rw[<-e];exact lp o W)
 have X:iH cx m (bH m b v2) st w lm [b,r] [(b,.bw e k (xs.set i.toNat lc) none)] []:={
  same:=by rw[<-ll];exact kC _ _ _
  block:=fun O _ ld=>ln O fun e=>ld b (by simp) Z (by rw[e];exact lo)
  old:=fun j _ q=>dk _ _ fun e=>q (by simp[e])
  new:=fun j q O R=>by
   have:j=b:=by simpa using q
   subst this
   rw[ct,le]at R
   refine .inl ?_
   rcases dA.1 R with R|⟨u,hu,R⟩
   ·cases R;exact⟨j,by simp,Z,lo⟩
   ·rcases List.mem_append.1 hu with hu|hu
    ·exact⟨j,by simp,Z,by rw[f1];exact dA.2 (.inr ⟨u,by simp[hu],R⟩)⟩
    ·rcases List.mem_cons.1 hu with rfl|hu
     ·exact⟨r,by simp,li,lp O R⟩
     ·exact⟨j,by simp,Z,by rw[f1];exact dA.2 (.inr ⟨u,by simp[hu],R⟩)⟩
  apart:=fun j l0 q l3 ld=>by
   have:j=b:=by simpa using q
   have:l0=b:=by simpa using l3
   omega
  keys:=by simp
  n9:=fun j q _=>by
   have:j=b:=by simpa using q
   simp[this]
  nO:=fun lf c' lb lE=>by simp at lb;rw[lb.2]at lE;cases lE
  fJ:=fun l4 c' lq=>by cases lq}
 refine⟨lm,bH m b v2,by rw[a2,lU];exact lk,h.dZ X (fun M v s l5=>Ox f1 (by rw[ct,le]) (fun j q=>dk _ _ fun e=>q (by simp[e])) l5) (fun lf c' lb=>?_) (fun l4 c' lq=>by cases lq)⟩
 simp only[List.mem_cons,Prod.mk.injEq,List.not_mem_nil,or_false]at lb
 obtain⟨rfl,rfl⟩:=lb
 have lr:=X.keeps
 have ls:=X.mut (f:=ap.rf lf [lf,r])
 rw[ct]
 refine⟨0,⟨_,_,le⟩,_,lw++m r::lx,c1++Y.set k.off (m r)++c2,le,?_,?_,?_⟩
 ·rw[List.length_set,<-ll]
  exact Jf f2 f3 f4 f5 f6 f9 (List.length_set ..)
 ·refine f15 lr ls (fun j q=>⟨fun⟨i0,U,l6⟩=>absurd (by rw[<-l6,lM i0 U]) q,fun⟨_,U,_⟩=>by cases U⟩) (fun u hu o la=>ln o fun e=>lZ u hu (by rw[<-e];exact la)) (by rw[List.length_set,f8]) ?_
  refine⟨L,m r,lP,by rw[ly,List.set_set],lz,lB,by rw[lK];exact lQ,cS lr ls k.u lR,(fun⟨_,U,_⟩=>by cases U),fun _=>⟨rfl,lg,cells,lL,qj lA fun o la=>ln o (lD o la),dD (fun _ _=>cS lr ls k.t) lT⟩⟩
 ·have U:=Ib f14 (x:=m r) fun o la=>⟨lD o la,fun u hu l7=>h.apart lf r Z li lv o (by rw[f1];exact dA.2 (.inr ⟨u,by rcases hu with hu|hu<;>simp[hu],l7⟩)) (lp o la)⟩
  simpa[aY]using U
def DO(q:Nat)(st:af)(b:Nat)(i:Int)(a d:Nat)(orc:List ak):Option (af×List ak×List Prop):=
 match look st.ae b,orc with
 |some (.bw e k xs none),v::orc'=>match v.as k.u,Nat.blt d q&&!(Nat.beq b d)with
  |some o,true=>match dd k.u o k.off (.ab k.t)with
   |some O=>some ((st.dZ [b,d] [(b,.bw e k xs (some i))] [(d,⟨k.e,k.t,fp O⟩)] (ap.rf b [b,d])).put a (.row d),orc',[ar xs i=some o])
   |none=>none
  |_,_=>none
 |_,_=>none
theorem ao.T5(h:ao cx m st T w){a:Nat}{v:Value}{s:ap}(q:T[a]? =some v)(O:aX w (au cx m st.ids) m v s):ao cx m (st.put a s) T w:=
 {h with
  de:=fun i aU o=>by
   rcases List.mem_cons.1 o with o|o
   ·cases o;exact⟨v,q,O⟩
   ·exact h.de i aU (dl.1 o).1}
theorem vM{α:Type}:∀{l:List α} {i:Nat} {x:α},l[i]? =some x->l.set i x=l
 |_,_,_,h=>by
  obtain⟨q,o⟩:=List.getElem?_eq_some_iff.1 h
  rw[<-o,List.set_getElem_self]
theorem Rv(h:ao cx m st T w){b a d:Nat}{i:Int}{orc orc':List ak}{ob:List Prop}(lc:look st.ab a=some (.sub b i))(R:DO cx.n st b i a d orc=some (st',orc',ob))(lj:bW ob):∃aA,ao cx aA st' T w:=by
 unfold DO at R
 split at R
 case h_2=>cases R
 rename_i e k xs v0 lY lk
 split at R
 case h_2=>cases R
 rename_i ly _ aJ
 split at R
 case h_2=>cases R
 rename_i ll lz
 cases R
 simp only[Bool.and_eq_true,Bool.not_eq_true']at aJ
 have lA:=dg aJ.1
 have lm:=beq_false aJ.2
 obtain⟨vv,t1,lZ,l0,t2,t3⟩:=h.de a _ (be lc)
 obtain⟨g,cap,cur,us,c1,U,c2,ld,v,le,f1,f2,f3,f4,f5,f6,f7,f8,f9,f10,f11,f12,f13,f14,f15⟩:=h.mg lk (jV lj.1)
 have lB:vv=v:=by
  rw[f1]at t2
  rw[<-(jU t2).2,f10,<-f11]at t3
  simpa using t3.symm
 subst lB
 have l3:=f13
 obtain⟨L,v1,lC,lD,lE,lF,lG,lH,l4,lI⟩:=f13
 obtain⟨l5,l6,cells,ln,lo,lJ⟩:=lI fun⟨_,h,_⟩=>by cases h
 rw[lz]at ln
 cases ln
 have lK:=be lk
 have lp:b∈st.ids:=List.mem_append.2 (.inl (List.mem_map.2 ⟨_,lK,rfl⟩))
 obtain⟨v2,la⟩:∃v2,v2=Value.tuple (.slice (some ⟨g,0,none⟩) xs.length cap::(ld++undef::le)).toArray:=⟨_,rfl⟩
 obtain⟨m2,lf⟩:∃m2,m2=bH (bH m d vv) b v2:=⟨_,rfl⟩
 have lg:m2 b=v2:=by rw[lf,ct]
 have md:m2 d=vv:=by rw[lf,dk _ _ (fun e=>lm e.symm),ct]
 have lq:∀j,j∉[b,d]->m2 j=m j:=fun j O=>by rw[lf,dk _ _ (fun e=>O (by simp[e])),dk _ _ (fun e=>O (by simp[e]))]
 rw[f10]at f14 f1
 obtain⟨lr,l7⟩:=zA f14
 have lL:∀o,aY vv=some o->own (m b) o:=fun o q=>by rw[f1];exact dA.2 (.inr ⟨vv,by simp,q⟩)
 have lh:∀o,own (m2 d) o->aY vv=some o:=fun o q=>by rw[md]at q;exact Da lo q
 have ls:∀o,own (m2 b) o->o=g\/∃u,(u∈ld\/u∈le)/\aY u=some o:=fun o q=>by
  rw[lg,la]at q
  rcases dA.1 q with q|⟨u,hu,q⟩
  ·cases q;exact .inl rfl
  ·rcases List.mem_append.1 hu with hu|hu
   ·exact .inr ⟨u,.inl hu,q⟩
   ·rcases List.mem_cons.1 hu with rfl|hu
    ·cases q
    ·exact .inr ⟨u,.inr hu,q⟩
 have lM:∀o,own (m2 b) o->own (m b) o:=fun o q=>by
  rw[f1]
  rcases ls o q with rfl|⟨u,hu,q⟩
  ·exact dA.2 (.inl rfl)
  ·exact dA.2 (.inr ⟨u,by rcases hu with hu|hu<;>simp[hu],q⟩)
 have lb:∀j,j∈[(b,b7.bw e k xs (some i))].map (·.1)\/j∈[(d,(⟨k.e,k.t,fp ll⟩:cV))].map (·.1)->j=b\/j=d:=fun j O=>by simpa using O
 have X:iH cx m m2 st w w [b,d] [(b,.bw e k xs (some i))] [(d,⟨k.e,k.t,fp ll⟩)]:={
  same:=⟨rfl,rfl,rfl,Nat.le_refl _,fun _=>Nat.le_refl _⟩
  block:=fun _ _ _=>rfl
  old:=fun j _ O=>lq j O
  new:=fun j O o q=>by
   rcases lb j O with rfl|rfl
   ·exact .inl ⟨j,by simp,lp,lM o q⟩
   ·exact .inl ⟨b,by simp,lp,lL o (lh o q)⟩
  apart:=fun j lN O lO lt o q lu=>by
   have key:own (m2 b) o->own (m2 d) o->False:=fun lP lv=>by
    rcases ls o lP with rfl|⟨u,hu,lQ⟩
    ·exact(lr o (lh o lv)).1 rfl
    ·exact(lr o (lh o lv)).2 u hu lQ
   rcases lb j O with rfl|rfl<;>rcases lb lN lO with rfl|rfl
   ·exact lt rfl
   ·exact key q lu
   ·exact key lu q
   ·exact lt rfl
  keys:=by simpa using lm
  n9:=fun j O _=>by rcases lb j O with rfl|rfl<;>simp
  nO:=fun lR c' W lw=>by simp at W;rw[W.2]at lw;cases lw
  fJ:=fun lS c' Y=>by simp at Y;rw[Y.1];exact lA}
 have li:=X.mut (f:=ap.rf b [b,d])
 have lT:=h.dZ X (fun M v s lc=>Ox f1 (by rw[lg,la]) lq lc) (fun lR c' W=>by
   simp only[List.mem_cons,Prod.mk.injEq,List.not_mem_nil,or_false]at W
   obtain⟨rfl,rfl⟩:=W
   rw[lg]
   refine⟨0,⟨_,_,la⟩,_,ld++undef::le,c1++U++c2,la,?_,?_,?_⟩
   ·have lU:cur.toList.take (xs.length*k.u.cells)=c1++U++c2:=by
     generalize cur.toList.drop (xs.length*k.u.cells)=lx at f6
     rw[f6,<-f9]
     have:c1++U++(c2++lx)=(c1++U++c2)++lx:=by simp
     rw[this,List.take_left]
    exact⟨f9,.inr ⟨g,cap,cur,rfl,Nat.zero_le _,f2,f3,f4,f5,lU⟩⟩
   ·have:=f15 (w':=w) (h':=some i) (x':=ly) (c':=U) (v':=undef) (fun _ _ _=>rfl) li (fun j O=>⟨fun⟨_,Z,_⟩=>(by cases Z),fun⟨i0,Z,lV⟩=>absurd (by rw[<-lV,Option.some.inj Z]) O⟩) (fun _ _ _ _=>rfl) f8
     ⟨L,v1,lC,lD,lE,lF,lG,cS (fun _ _ _=>rfl) li k.u lH,fun _=>rfl,fun lW=>absurd ⟨i,rfl,rfl⟩ lW⟩
    rw[vM (jV lj.1)]at this
    exact this
   ·have Z:=Ib f14 (x:=undef) fun l8 lX=>by cases lX
    simpa[aY]using Z) (fun lS c' Y=>by
   simp only[List.mem_cons,Prod.mk.injEq,List.not_mem_nil,or_false]at Y
   obtain⟨rfl,rfl⟩:=Y
   rw[md]
   exact⟨cells,lo,dD (fun _ _=>cS (fun _ _ _=>rfl) li k.t) lJ⟩)
 exact⟨m2,lT.T5 t1 (by show vv=m2 d;rw[md])⟩
end Go.Ev
namespace Go.Ev
open Go Go.RowKit
variable [cm]
variable {cx:bJ} {m aA:Nat->Value} {st st':af} {T:Array Value} {w w':World}
variable [aj cx]
def pz(P:Program)(o:TypeId):Option eF:=
 match ty P o,P.underlying o with
 |some (.ab t),some (.slice e)=>match ty P e with
  |some O=>bif t.beq O&&!(Nat.beq t.cells 0)then some ⟨.ab t,0,e,t⟩else none
  |none=>none
 |some u,some (.struct an)=>match an.toList.getLast? with
  |some q=>match P.underlying q.type with
   |some (.slice e)=>match ty P e with
    |some t=>bif !(Nat.beq t.cells 0)then some ⟨u,q.offset,e,t⟩else none
    |none=>none
   |_=>none
  |none=>none
 |_,_=>none
def BA(E:Env)(st:af)(aa:Oper)(orc:List ak):Option (af×List ak×List Prop):=
 match aa.dst,orc with
 |some d,⟨.unit,_⟩::orc'=>match Nat.blt d E.n,aa.op with
  |true,.assign (.const (.slice none 0 0))=>match ew E.P aa.type with
   |some (e,_)=>match pz E.P e with
    |some k=>some ((st.dZ [d] [(d,.bw e k [] none)] [] (ap.ed [d])).put d (.osl d),orc',[])
    |none=>none
   |none=>none
  |true,.move (.const (.slice none 0 0))=>match ew E.P aa.type with
   |some (e,_)=>match pz E.P e with
    |some k=>some ((st.dZ [d] [(d,.bw e k [] none)] [] (ap.ed [d])).put d (.osl d),orc',[])
    |none=>none
   |none=>none
  |true,.makeSlice t l c=>match ew E.P t,eL (aW st l),eL (aW st c)with
   |some (e,u),some n,some o=>match pz E.P e,om E.P e,zeroOf E.P e,(E.P.info? e).bind (·.zero)with
    |some k,true,some q,some z=>match u.beq q&&u.beq k.u,z.cells.toList[k.off]? with
     |true,some (.slice none 0 0)=>some ((st.dZ [d] [(d,.bw e k (List.replicate n.toNat (cl k.u)) none)] [] (ap.ed [d])).put d (.osl d),orc',
       [0<=n/\n<=o/\o<=(bF:Int),cE k.u (cl k.u) k.off ⟨.ab k.t,[]⟩=some (cl k.u),dd k.u (cl k.u) k.off (.ab k.t)=some (show(ah.ab k.t).el from[])])
     |_,_=>none
    |_,_,_,_=>none
   |_,_,_=>none
  |_,_=>none
 |_,_=>none
theorem ao.MK(h:ao cx m st T w){d e:Nat}(ai:d<cx.n){hd0:Value}{k:eF}{xs:List k.u.el}{cells us:List Value}{w':World}(Y:Ext w w')(la:∀g,g∈(hd0::us).filterMap aY->w.heap.size<=g/\g<w'.heap.size)(lb:w'.ownsRow 0 e k.u.cells hd0 xs.length cells)
  (lc:∀M':Nat->Prop,(∀b,b<w.heap.size->M' b->au cx m st.ids b)->fW w' M' k none 0 xs cells us)(ld:((hd0::us).filterMap aY).Nodup):
  ao cx (bH m d (.tuple (hd0::us).toArray)) ((st.dZ [d] [(d,.bw e k xs none)] [] (ap.ed [d])).put d (.osl d)) (T.setIfInBounds d hd0) w':=by
 obtain⟨v2,q⟩:∃v2,v2=Value.tuple (hd0::us).toArray:=⟨_,rfl⟩
 rw[<-q]
 have X:iH cx m (bH m d v2) st w w' [d] [(d,.bw e k xs none)] []:={
  same:=Y.toSame
  block:=fun U R _=>Y.block U R
  old:=fun j _ o=>dk _ _ fun e=>o (by simp[e])
  new:=fun j o U R=>by
   have:j=d:=by simpa using o
   subst this
   rw[ct,q]at R
   exact .inr (la U (R7.1 R))
  apart:=fun j le o lf li=>by
   have:j=d:=by simpa using o
   have:le=d:=by simpa using lf
   omega
  keys:=by simp
  n9:=fun j o _=>by
   have:j=d:=by simpa using o
   simp[this]
  nO:=fun Z c' O _=>by simp at O;rw[O.1];exact ai
  fJ:=fun lg c' W=>by cases W}
 refine(h.dZ X (fun M v s lh=>oa (fun j o=>dk _ _ fun e=>o (by simp[e])) lh) (fun Z c' O=>?_) (fun lg c' W=>by cases W)).put ai ⟨us,by rw[ct,q]⟩
 simp only[List.mem_cons,Prod.mk.injEq,List.not_mem_nil,or_false]at O
 obtain⟨rfl,rfl⟩:=O
 rw[ct]
 exact⟨0,⟨_,_,q⟩,hd0,us,cells,q,lb,lc _ (X.mut (f:=ap.ed [Z])),ld⟩
theorem Rx{M:Nat->Prop}{k:eF}{z:Array Value}{x:k.u.el}(o:aL w M k.u z.toList x)(q:z.toList[k.off]? =some (.slice none 0 0))(R:cE k.u x k.off ⟨.ab k.t,[]⟩=some x)(U:dd k.u x k.off (.ab k.t)=some (show(ah.ab k.t).el from[])):
  ∀(n i:Nat),fW w M k none i (List.replicate n x) (madeCells z (n*k.u.cells)).toList (List.replicate n (.slice none 0 0)):=by
 have O:z.toList.length=k.u.cells:=cu k.u o
 intro n
 induction n with
 |zero=>intro i;exact⟨by simp[madeCells],rfl⟩
 |succ n W=>
  intro i
  refine⟨z.toList,(madeCells z (n*k.u.cells)).toList,.slice none 0 0,List.replicate n (.slice none 0 0),HZ (by simpa using O) n,O,List.replicate_succ,?_,W (i+1)⟩
  exact⟨z.toList,.slice none 0 0,x,(vM q).symm,q,rfl,R,o,(fun⟨_,h,_⟩=>by cases h),fun _=>⟨rfl,[],[],U,World.ownsRow_nil w 0 _ _,rfl⟩⟩
theorem T3{E:Env}(Y:bE E cx)(h:al cx st T w){aa:Oper}{orc:List ak}{st':af}{orc':List ak}{ob:List Prop}(o:BA E st aa orc=some (st',orc',ob))(lo:bW ob)
  {K:Act->World->Prop}{Q:Exit->Act->World->Prop}(ld:∀le w',al cx st' le w'->K ⟨le,aj.D cx⟩ w'):aa.wp cx.P ⟨T,aj.D cx⟩ w K Q:=by
 obtain⟨m,Z⟩:=h
 unfold BA at o
 split at o
 case h_2=>cases o
 rename_i d lJ lK ai
 have nil:∀(e:Nat) (k:eF),d<cx.n->(execOp (Act.eval ⟨T,aj.D cx⟩) aa).run cx.P w=.ok (.value (.slice none 0 0)) w->st'=(st.dZ [d] [(d,.bw e k [] none)] [] (ap.ed [d])).put d (.osl d)->aa.wp cx.P ⟨T,aj.D cx⟩ w K Q:=by
  intro e k q lp lq
  refine gY lp ?_
  rw[ai]
  refine ld _ _ ⟨_,lq▸Z.MK q (hd0:=.slice none 0 0) (e:=e) (k:=k) (xs:=[]) (us:=[]) (cells:=[]) (Ext.refl w) (fun g U=>by simp[aY]at U) (World.ownsRow_nil w 0 _ _) (fun _ _=>⟨rfl,rfl⟩) List.nodup_nil⟩
 split at o
 ·rename_i q W
  have q:d<cx.n:=by rw[Y.n];exact dg q
  split at o
  case h_2=>cases o
  split at o
  case h_2=>cases o
  cases o
  exact nil _ _ q (by simp only[execOp,W];rfl) rfl
 ·rename_i q W
  have q:d<cx.n:=by rw[Y.n];exact dg q
  split at o
  case h_2=>cases o
  split at o
  case h_2=>cases o
  cases o
  exact nil _ _ q (by simp only[execOp,W];rfl) rfl
 ·rename_i t l c q W
  have q:d<cx.n:=by rw[Y.n];exact dg q
  split at o
  case h_2=>cases o
  rename_i e u n O lf lr ls
  split at o
  case h_2=>cases o
  rename_i k lL z lM lg lh R
  split at o
  case h_2=>cases o
  rename_i aJ lt
  cases o
  simp only[Bool.and_eq_true]at aJ
  obtain rfl:=ah.eq_of_beq aJ.1
  obtain⟨⟨lu,lv,lN⟩,lw,lx,_⟩:=lo
  rw[<-Y.P]at lf lg lh R
  have ly:=ah.eq_of_beq aJ.2
  obtain⟨lb,lO,lP⟩:=jr lf
  obtain⟨i,lQ,_,lc,li,lj,lz⟩:=kq lh
  rw[lc]at R
  have R:i.zero=some z:=R
  rw[lj]at R
  cases R
  obtain⟨i2,lk,lR⟩:=yF lg
  rw[lc]at lk
  cases lk
  obtain⟨ll,lA⟩:=fF Z lr
  obtain⟨lm,lB⟩:=fF Z ls
  have lS:(bF:Int)=2147483648:=rfl
  have lC:0<=O:=by omega
  have lD:(i.bytes:Int)*O<=281474976710656:=by
   have lE:(i.bytes:Int)<=65536:=by omega
   calc (i.bytes:Int)*O<=65536*O:=Int.mul_le_mul_of_nonneg_right lE lC
    _<=281474976710656:=by omega
  have lF:=run_make (P:=cx.P) w t e i z lb lc lj ll lm n O lu lv lD (by omega)
  subst ly
  have la:(List.replicate n.toNat (cl k.u)).length=n.toNat:=List.length_replicate
  have lG:(madeCells z.cells (O.toNat*i.size)).toList.take ((List.replicate n.toNat (cl k.u)).length*k.u.cells)=(madeCells z.cells (n.toNat*k.u.cells)).toList:=by
   rw[la,li]
   simp only[madeCells,Array.toList_map,Array.toList_range,<-List.map_take]
   rw[List.take_range]
   congr 2
   have:n.toNat*k.u.cells<=O.toNat*k.u.cells:=Nat.mul_le_mul_right _ (by omega)
   omega
  have lH:Ext w (w.alloc (.cells (madeCells z.cells (O.toNat*i.size)) e)):=iK _ _
  have lI:∀(w':World) (M':Nat->Prop),fW w' M' k none 0 (List.replicate n.toNat (cl k.u)) (madeCells z.cells (n.toNat*k.u.cells)).toList (List.replicate n.toNat (.slice none 0 0)):=fun w' M'=>Rx (lz w' M') lt lw lx _ _
  have ln:((Value.slice (some ⟨w.heap.size,0,none⟩) n.toNat O.toNat)::List.replicate n.toNat (Value.slice none 0 0)).filterMap aY=[w.heap.size]:=by
   rw[List.filterMap_cons]
   show w.heap.size::_=_
   congr 1
   rw[List.filterMap_eq_nil_iff]
   intro u lb
   rw[List.eq_of_mem_replicate lb]
   rfl
  refine gY (cF (s:=Instr.makeSlice t (.int ll n) (.int lm O)) (by simp only[execOp,W,lA,lB]) lF) ?_
  rw[ai]
  refine ld _ _ ⟨_,Z.MK q lH (us:=List.replicate n.toNat (.slice none 0 0)) (fun g U=>?_) ⟨?_,.inr ⟨w.heap.size,O.toNat,madeCells z.cells (O.toNat*i.size),?_,Nat.zero_le _,heap_alloc_new w _,?_,?_,?_,lG⟩⟩ (fun M' _=>lI _ M') (by rw[ln];simp)⟩
  ·rw[ln]at U
   simp at U
   subst U
   exact⟨Nat.le_refl _,by simp⟩
  ·rw[la,Array.length_toList,size_madeCells]
  ·rw[la]
  ·rw[la];omega
  ·simp only[maxLen];omega
  ·rw[size_madeCells,li]
 ·cases o
end Go.Ev
namespace Go.Ev
open Go Go.RowKit
variable [cm]
variable {cx:bJ} {m aA:Nat->Value} {st st':af} {T:Array Value} {w w':World}
variable [aj cx]
def r2:List ap->Option (List b9)
 |[]=>some []
 |.val t x::l=>match r2 l with
  |some r=>some (.v ⟨t,x⟩::r)
  |none=>none
 |.row b::l=>match r2 l with
  |some r=>some (.r b::r)
  |none=>none
 |_=>none
theorem zV{M:Nat->Prop}:∀{cs:List Value} {l:List ap} {r:List b9},r2 l=some r->cJ w M m cs l->dq w M m cs r
 |[],[],r,h,_=>by cases h;trivial
 |[],_::_,_,_,h=>h.elim
 |_::_,[],_,_,h=>h.elim
 |c::cs,s::l,r,h,⟨q,O⟩=>by
  unfold r2 at h
  split at h
  ·rename_i e;cases e
  ·rename_i t x R e
   cases e
   split at h
   ·rename_i U o;cases h;exact⟨q,zV o O⟩
   ·cases h
  ·rename_i b R e
   cases e
   split at h
   ·rename_i U o;cases h;exact⟨q,zV o O⟩
   ·cases h
  ·cases h
def b9.isRow:b9->Bool
 |.r _=>true
 |_=>false
def Ho(P:Program)(st:af)(t:TypeId)(x:Operand)(orc:List ak):Option dS:=
 match aW st x,ty P t with
 |some (.ptr b off),some u=>match look st.ae b,u.agg with
  |some (.cells l _),true=>match r2 ((l.drop off).take u.cells),Nat.beq ((l.drop off).take u.cells).length u.cells with
   |some r,true=>bif r.any b9.isRow then some ⟨.fe r,orc,[]⟩else none
   |_,_=>none
  |_,_=>none
 |_,_=>none
theorem Y8(h:ao cx m st T w){t:TypeId}{x:Operand}{orc:List ak}{q:dS}(o:Ho cx.P st t x orc=some q):
  ∃v,(∀w',Ext w w'->(Instr.loadAt t (Act.eval ⟨T,aj.D cx⟩ x)).run cx.P w'=.ok v w')/\aX w (au cx m st.ids) m v q.aU:=by
 unfold Ho at o
 split at o
 case h_2=>cases o
 rename_i b off u lc ld
 split at o
 case h_2=>cases o
 rename_i l e le U
 split at o
 case h_2=>cases o
 rename_i r lf O
 have o:some (⟨.fe r,orc,[]⟩:dS)=some q:=by
  cases W:r.any b9.isRow with
  |false=>rw[W]at o;cases o
  |true=>rw[W]at o;exact o
 cases o
 have O:=Nat.eq_of_beq_eq_true O
 obtain⟨g,lg,lh⟩:=bj h lc
 obtain⟨li,Y,_,cells,lj,lk⟩:=h.box (be le)
 have:li=g:=by rw[lg]at Y;cases Y;rfl
 subst this
 have Z:=(jm u.cells (jm off lk).2).1
 have ll:=nh Z
 obtain⟨v,lm,la⟩:=jY (P:=cx.P) (c:=(cells.toList.drop off).take u.cells) (off:=off) ld lj (fun j v R=>by
  have ln:=(List.getElem?_eq_some_iff.1 R).1
  rw[List.getElem?_take_of_lt (by rw[List.length_take]at ln;omega),List.getElem?_drop]at R
  simpa using R) (by rw[ll,O]) (fun lb=>by rw[U]at lb;cases lb)
 rw[U,if_pos rfl]at la
 refine⟨v,fun w' lo=>?_,_,la,zV lf Z⟩
 rw[lh]
 exact lm w' lo
def qI(P:Program)(st:af)(aa:Oper)(orc:List ak):Option dS:=
 match aa.op with
 |.indexAddr t x i=>match aW st x,eL (aW st i),ty P t with
  |some (.osl b),some n,some (.ab u)=>match look st.ae b with
   |some (.bw _ k xs _)=>bif u.beq k.u then some ⟨.en b n 0 k.u.cells,orc,[0<=n/\n<(xs.length:Int)]⟩else none
   |_=>none
  |some (.sub b i0),some n,some (.ab u)=>match look st.ae b,orc with
   |some (.bw _ k xs none),a::orc'=>match a.as k.u,u.beq k.t with
    |some o,true=>match dd k.u o k.off (.ab k.t)with
     |some q=>some ⟨.fA b i0 n 0 k.t.cells,orc',[ar xs i0=some o,0<=n/\n<((fp q).length:Int)]⟩
     |none=>none
    |_,_=>none
   |_,_=>none
  |_,_,_=>none
 |.fieldAddr t x f=>match aW st x,fieldInfo P t f with
  |some (.en b i off O),some (R,_)=>some ⟨.en b i (off+R) O,orc,[]⟩
  |some (.fA b i j off O),some (R,_)=>some ⟨.fA b i j (off+R) O,orc,[]⟩
  |_,_=>none
 |.load t x=>match DR P st t x orc with
  |some r=>some r
  |none=>Ho P st t x orc
 |.call c=>match c.callee,c.args.toList,c.argTypes.toList with
  |.builtin .len,[x],[t]=>match aW st x,ty P t with
   |some (.osl b),some (.ab _)=>match look st.ae b with
    |some (.bw _ _ xs _)=>some ⟨.val (.int .i64) (xs.length:Int),orc,[]⟩
    |_=>none
   |some (.sub b i),some (.ab _)=>match look st.ae b,orc with
    |some (.bw _ k xs none),a::orc'=>match a.as k.u with
     |some o=>match dd k.u o k.off (.ab k.t)with
      |some q=>some ⟨.val (.int .i64) ((fp q).length:Int),orc',[ar xs i=some o]⟩
      |none=>none
     |none=>none
    |_,_=>none
   |_,_=>none
  |_,_,_=>none
 |_=>none
def qd(st:af):List b9->Option (List ap)
 |[]=>some []
 |.v u::l=>match qd st l,u.t.agg with
  |some r,false=>some (.val u.t u.x::r)
  |_,_=>none
 |.r b::l=>match qd st l,look st.rw b with
  |some r,some _=>some (.row b::r)
  |_,_=>none
 |.a::_=>none
theorem GA(h:ao cx m st T w){M:Nat->Prop}:∀{vs:List Value} {l:List b9} {r:List ap},qd st l=some r->dq w M m vs l->cJ w M m vs r/\(∀v∈vs,v.oneCell'=true)/\r.length=l.length
 |[],[],r,o,_=>by cases o;exact⟨trivial,(fun v la=>by cases la),rfl⟩
 |[],x::_,_,_,h=>by cases x<;>exact h.elim
 |_::_,[],_,_,h=>h.elim
 |v::vs,.v u::l,r,o,⟨O,R⟩=>by
  unfold qd at o
  split at o
  ·rename_i lb U lc
   cases o
   obtain⟨W,Y,Z⟩:=GA h U R
   refine⟨⟨O,W⟩,fun x q=>?_,by simp[Z]⟩
   rcases List.mem_cons.1 q with rfl|q
   ·exact hU u.t ((bC lc).1 O) _ (by simp)
   ·exact Y x q
  ·cases o
 |v::vs,.r b::l,r,o,⟨O,R⟩=>by
  unfold qd at o
  split at o
  ·rename_i lb c U ld
   cases o
   obtain⟨W,Y,Z⟩:=GA h U R
   refine⟨⟨O,W⟩,fun x q=>?_,by simp[Z]⟩
   rcases List.mem_cons.1 q with rfl|q
   ·rw[O];exact row_one h (be ld)
   ·exact Y x q
  ·cases o
 |v::vs,.a::l,r,o,_=>by cases o
def A5(P:Program)(st:af)(t:TypeId)(x y:Operand)(orc:List ak):Option (af×List ak×List Prop):=
 match aW st x,ty P t,aW st y with
 |some (.ptr b off),some u,some (.fe l)=>match look st.ae b,qd st l,Nat.beq l.length u.cells with
  |some (.cells c e),some aU,true=>bif Nat.ble (off+u.cells) c.length then some (st.dr b (.cells (c.take off++aU++c.drop (off+u.cells)) e),orc,[])else none
  |_,_,_=>none
 |_,_,_=>none
theorem XN(h:ao cx m st T w){t:TypeId}{x y:Operand}{orc orc':List ak}{st':af}{ob:List Prop}(o:A5 cx.P st t x y orc=some (st',orc',ob)):
  ∃w',(Instr.storeAt t (Act.eval ⟨T,aj.D cx⟩ x) (Act.eval ⟨T,aj.D cx⟩ y)).run cx.P w=.ok () w'/\ao cx m st' T w':=by
 unfold A5 at o
 split at o
 case h_2=>cases o
 rename_i b off u l lg lh li
 obtain⟨g,O,lj⟩:=bj h lg
 split at o
 case h_2=>cases o
 rename_i c e aU lk ll R
 cases U:Nat.ble (off+u.cells) c.length with
 |false=>rw[U]at o;cases o
 |true=>
  rw[U]at o
  cases o
  have lm:=Nat.le_of_ble_eq_true U
  have R:=Nat.eq_of_beq_eq_true R
  have q:=be lk
  obtain⟨W,lc,_,cells,ld,Y⟩:=h.box q
  have:W=g:=by rw[O]at lc;cases lc;rfl
  subst this
  have ln:b∈st.ids:=List.mem_append.2 (.inl (List.mem_map.2 ⟨_,q,rfl⟩))
  have lo:=nh Y
  obtain⟨vs,lp,lq⟩:=bj h li
  obtain⟨le,lr,ls⟩:=GA h ll lq
  have lt:vs.length=u.cells:=by rw[nh le,ls,R]
  have Z:(Act.eval ⟨T,aj.D cx⟩ y).cells=vs.toArray:=by rw[lp];rfl
  have lu:off+u.cells<=cells.size:=by rw[<-Array.length_toList,lo];exact lm
  have lv:=nU (P:=cx.P) (v:=Act.eval ⟨T,aj.D cx⟩ y) lh ld (by rw[Z];simpa using lt) lu (by rw[Z];exact lr)
  refine⟨_,by rw[lj];exact lv,?_⟩
  have lf:Touch m w b (w.setRow W (cells.toList.take off++(Act.eval ⟨T,aj.D cx⟩ y).cells.toList++cells.toList.drop (off+u.cells)).toArray):=
   ⟨kC _ _ _,fun k lz lw=>setRow_other _ _ _ _ (fun e=>lw (by rw[O,e];rfl))⟩
  obtain⟨lx,_⟩:=k7 q h.keys (.cells (c.take off++aU++c.drop (off+u.cells)) e)
  obtain⟨la,lb⟩:=ao.ia (cx:=cx) ln lf lx
  refine h.dr q lf (g:=W) O ⟨_,setRow_heap _ _ _ _ _ _ ld,?_⟩
  simp only[]
  have ly:cJ w (au cx m st.ids) m (Act.eval ⟨T,aj.D cx⟩ y).cells.toList aU:=by rw[Z];exact le
  exact mE (mE (pi la lb (jm off Y).1) (pi la lb ly)) (pi la lb (jm (off+u.cells) Y).2)
def Bi(E:Env)(st:af)(aa:Oper)(orc:List ak):Option (af×List ak×List Prop):=
 match aa.dst with
 |none=>match aa.op with
  |.store t x y=>match Aa E.P E.n st t x y orc with
   |some r=>some r
   |none=>A5 E.P st t x y orc
  |_=>none
 |some d=>match Nat.blt d E.n with
  |false=>none
  |true=>match qI E.P st aa orc with
   |some r=>some (st.put d r.aU,r.orc,r.ob)
   |none=>match aa.op with
    |.call c=>match c.callee,c.args.toList with
     |.builtin .append,[.tmp a,_]=>match look st.ab a with
      |some (.sub b i)=>match DO E.n st b i a d orc with
       |some (s,o,q)=>match oT E s aa o with
        |some (O,R,U)=>some (O,R,q++U)
        |none=>none
       |none=>none
      |_=>none
     |_,_=>none
    |_=>none
theorem zB:∀{a b:List Prop},bW (a++b)->bW a/\bW b
 |[],_,h=>⟨trivial,h⟩
 |_::_,_,⟨q,o⟩=>⟨⟨q,(zB o).1⟩,(zB o).2⟩
theorem RO(h:ao cx m st T w){t:TypeId}{x y:Operand}{orc orc':List ak}{ob:List Prop}(o:Aa cx.P cx.n st t x y orc=some (st',orc',ob))(O:bW ob):
  ∃w' aA,(Instr.storeAt t (Act.eval ⟨T,aj.D cx⟩ x) (Act.eval ⟨T,aj.D cx⟩ y)).run cx.P w=.ok () w'/\ao cx aA st' T w':=by
 unfold Aa at o
 split at o
 ·rename_i b i off le lf lk z U W Y
  split at o
  case h_2=>cases o
  rename_i e k xs a lg Z
  split at o
  case h_2=>cases o
  rename_i lh _ aJ
  simp only[Bool.and_eq_true,Bool.or_eq_true]at aJ
  obtain⟨⟨q,R⟩,lb⟩:=aJ
  split at o
  case h_2=>cases o
  rename_i li lv la ll
  split at o
  case h_2=>cases o
  rename_i lw lm
  cases o
  have q:=Nat.eq_of_beq_eq_true q
  subst q
  obtain rfl:=ah.eq_of_beq R
  obtain⟨w',lc,la⟩:=XU h Z U W Y (lb.elim (fun h=>.inl (Nat.le_of_ble_eq_true h)) fun h=>.inr (dg h)) la ll lm O.1 O.2.1 O.2.2.1
  exact⟨w',m,lc,la⟩
 ·rename_i b i j off le lf lk z U W Y
  split at o
  case h_2=>cases o
  rename_i e k xs a c lg Z
  split at o
  case h_2=>cases o
  rename_i lh z0 _ _ aJ
  simp only[Bool.and_eq_true]at aJ
  obtain⟨q,R⟩:=aJ
  split at o
  case h_2=>cases o
  rename_i ln lx ld lo
  split at o
  case h_2=>cases o
  rename_i li lp
  cases o
  have q:=Nat.eq_of_beq_eq_true q
  subst q
  obtain rfl:=ah.eq_of_beq R
  obtain⟨w',lc,la⟩:=YK h Z U W Y ld lo O.1 O.2.1 O.2.2.1 O.2.2.2.1
  exact⟨w',m,lc,la⟩
 ·rename_i b i off le lf r U W Y
  split at o
  case h_2=>cases o
  rename_i e k xs ly c a lg Z lj
  split at o
  case h_2=>cases o
  rename_i lh ln _ aJ ld
  simp only[Bool.and_eq_true,Bool.not_eq_true']at aJ
  obtain⟨q,R,lb,lq,lr⟩:=aJ
  split at o
  case h_2=>cases o
  rename_i li lp
  cases o
  have q:=Nat.eq_of_beq_eq_true q
  subst q
  have R:=Nat.eq_of_beq_eq_true R
  subst R
  obtain rfl:=ah.eq_of_beq lb
  have ls:=Du (Nat.eq_of_beq_eq_true lq) ld
  rw[ls]at lj
  obtain⟨⟨lt,ba,eN,_⟩,gq⟩:=zB O
  exact Yb h Z lj (beq_false lr) U W Y lt ba eN (fun i0 lu=>by subst lu;exact gq.1)
 ·cases o
theorem FH(h:ao cx m st T w){aa:Oper}{orc:List ak}{r:dS}(o:qI cx.P st aa orc=some r)(lf:bW r.ob):
  ∃v,(∀w',Ext w w'->(execOp (Act.eval ⟨T,aj.D cx⟩) aa).run cx.P w'=.ok (.value v) w')/\aX w (au cx m st.ids) m v r.aU:=by
 have O:=h
 unfold qI at o
 have fin:∀(v:Value) (aU:ap),(∀w',(execOp (Act.eval ⟨T,aj.D cx⟩) aa).run cx.P w'=.ok (.value v) w')->aX w (au cx m st.ids) m v aU->aU=r.aU->∃v,(∀w',Ext w w'->(execOp (Act.eval ⟨T,aj.D cx⟩) aa).run cx.P w'=.ok (.value v) w')/\aX w (au cx m st.ids) m v r.aU:=
  fun v aU lg lF lG=>⟨v,fun w' _=>lg w',lG▸lF⟩
 split at o
 ·rename_i t x i U
  split at o
  ·rename_i b n u R ln la
   split at o
   case h_2=>cases o
   rename_i e k xs lH lb
   cases aJ:u.beq k.u with
   |false=>rw[aJ]at o;cases o
   |true=>
    rw[aJ]at o
    cases o
    obtain rfl:=ah.eq_of_beq aJ
    obtain⟨lo,lg⟩:=lf.1
    obtain⟨hd0,us,cells,Z,lc,lp,lI⟩:=O.bw lb
    have lq:0<xs.length:=by omega
    obtain⟨g,cap,cur,q,_⟩:=uO lc lq
    subst q
    obtain⟨lJ,lr⟩:=bj O R
    have W:Act.eval ⟨T,aj.D cx⟩ x=.slice (some ⟨g,0,none⟩) xs.length cap:=(jU (lr.symm.trans Z)).1
    obtain⟨lK,ls⟩:=fF O ln
    obtain⟨_,_,_,ld,d2,Y,lh⟩:=dw la
    refine fin (.pointer (some ⟨g,n.toNat*k.u.cells+0,none⟩)) (.en b n 0 k.u.cells) (fun w'=>cF (s:=Instr.indexAt t (Act.eval ⟨T,aj.D cx⟩ x) (Act.eval ⟨T,aj.D cx⟩ i)) (by simp only[execOp,U]) ?_) ⟨g,_,cap,us,Z,rfl⟩ rfl
    have li:(⟨g,0,none⟩:Addr).add (n.toNat*k.u.cells)=⟨g,n.toNat*k.u.cells+0,none⟩:=by rw[gS];simp
    rw[W,ls]
    simp only[Instr.indexAt,asIntOf,Sem.run_bind,Sem.run_pure,Result.andThen_ok,run_underlying Y]
    rw[if_pos ⟨lo,lg⟩]
    simp only[Sem.run_bind,fi lh,Result.andThen_ok,Sem.run_pure,li]
  ·rename_i b i0 n u R ln la
   split at o
   case h_2=>cases o
   rename_i e k xs a lL lb
   split at o
   case h_2=>cases o
   rename_i lM _ aJ
   split at o
   case h_2=>cases o
   rename_i le lt
   cases o
   obtain rfl:=ah.eq_of_beq aJ
   obtain⟨lo,lg⟩:=lf.2.1
   obtain⟨g,cap,cur,us,c1,c,c2,lN,v,lO,f1,f2,f3,f4,f5,f6,f7,f8,f9,f10,f11,f12,f13,f14,f15⟩:=O.mg lb (jV lf.1)
   obtain⟨lP,cells,lj,lu,lQ,lR⟩:=vO f13
   rw[lt]at lj
   cases lj
   have lq:0<(fp le).length:=by omega
   obtain⟨g2,lS,lX,q,_⟩:=uO lu lq
   obtain⟨lm,lz,t2,t3⟩:=bj O R
   have W:Act.eval ⟨T,aj.D cx⟩ x=v:=by
    rw[f1]at t2
    rw[<-(jU t2).2,f10,<-f11]at t3
    simpa using t3.symm
   obtain⟨lK,ls⟩:=fF O ln
   obtain⟨_,_,_,ld,d2,Y,lh⟩:=dw la
   refine fin (.pointer (some ⟨g2,n.toNat*k.t.cells+0,none⟩)) (.fA b i0 n 0 k.t.cells) (fun w'=>cF (s:=Instr.indexAt t (Act.eval ⟨T,aj.D cx⟩ x) (Act.eval ⟨T,aj.D cx⟩ i)) (by simp only[execOp,U]) ?_) ⟨lm,lz,g2,_,lS,t2,by rw[t3,W,q],rfl⟩ rfl
   have li:(⟨g2,0,none⟩:Addr).add (n.toNat*k.t.cells)=⟨g2,n.toNat*k.t.cells+0,none⟩:=by rw[gS];simp
   rw[W,q,ls]
   simp only[Instr.indexAt,asIntOf,Sem.run_bind,Sem.run_pure,Result.andThen_ok,run_underlying Y]
   rw[if_pos ⟨lo,lg⟩]
   simp only[Sem.run_bind,fi lh,Result.andThen_ok,Sem.run_pure,li]
  ·cases o
 ·rename_i t x f U
  split at o
  ·rename_i b i off lk ll lT R lv
   cases o
   obtain⟨g,n,cap,us,Z,lc⟩:=bj O R
   refine fin (.pointer (some ⟨g,i.toNat*lk+(off+ll),none⟩)) (.en b i (off+ll) lk) (fun w'=>cF (s:=Instr.fieldAt t (Act.eval ⟨T,aj.D cx⟩ x) f) (by simp only[execOp,U]) ?_) ⟨g,n,cap,us,Z,rfl⟩ rfl
   rw[lc,ni lv,gS,Nat.add_assoc]
  ·rename_i b i j off lk ll lT R lv
   cases o
   obtain⟨lm,us,g,n,cap,Z,lc,lp⟩:=bj O R
   refine fin (.pointer (some ⟨g,j.toNat*lk+(off+ll),none⟩)) (.fA b i j (off+ll) lk) (fun w'=>cF (s:=Instr.fieldAt t (Act.eval ⟨T,aj.D cx⟩ x) f) (by simp only[execOp,U]) ?_) ⟨lm,us,g,n,cap,Z,lc,rfl⟩ rfl
   rw[lp,ni lv,gS,Nat.add_assoc]
  ·cases o
 ·rename_i t x U
  split at o
  ·rename_i lY lU
   cases o
   obtain⟨v,lw,q⟩:=Se O lU lf
   exact⟨v,fun w' lx=>cF (by simp only[execOp,U]) (lw w' lx),q⟩
  ·obtain⟨v,lw,q⟩:=Y8 O o
   exact⟨v,fun w' lx=>cF (by simp only[execOp,U]) (lw w' lx),q⟩
 ·rename_i c U
  split at o
  ·rename_i x t lA lB lC
   obtain⟨lZ,args,lD⟩:=c
   simp only at lA lB lC
   subst lA
   have li:args=#[x]:=by rw[<-Array.toArray_toList (xs:=args),lB]
   have lV:lD=#[t]:=by rw[<-Array.toArray_toList (xs:=lD),lC]
   subst li
   subst lV
   have len:∀(a:Option Addr) (n cap:Nat) (lE:TypeId),Act.eval ⟨T,aj.D cx⟩ x=.slice a n cap->cx.P.underlying t=some (.slice lE)->∀w',(execOp (Act.eval ⟨T,aj.D cx⟩) aa).run cx.P w'=.ok (.value (.int .i64 (n:Int))) w':=by
    intro a n cap lE q lW w'
    simp only[execOp,U,resolve,invoke,builtin,Sem.run_bind,Sem.run_pure,Result.andThen_ok,List.map_toArray,List.map_cons,List.map_nil,q]
    simp[Builtin.len_,run_underlying lW,goInt]
   split at o
   ·rename_i b u R la
    split at o
    case h_2=>cases o
    rename_i e k xs lH lb
    cases o
    obtain⟨hd0,us,cells,Z,lc,lp,lI⟩:=O.bw lb
    obtain⟨lJ,lr⟩:=bj O R
    have W:Act.eval ⟨T,aj.D cx⟩ x=hd0:=(jU (lr.symm.trans Z)).1
    obtain⟨_,_,_,ld,d2,Y,lh⟩:=dw la
    rcases lc.2 with ⟨q,ly⟩|⟨g,cap,cur,q,_⟩
    ·refine fin (.int .i64 (xs.length:Int)) (.val (.int .i64) (xs.length:Int)) ?_ (dp.2 rfl) rfl
     intro w'
     rw[ly]
     exact len none 0 0 ld (by rw[W,q]) Y w'
    ·exact fin (.int .i64 (xs.length:Int)) (.val (.int .i64) (xs.length:Int)) (len _ _ _ ld (by rw[W,q]) Y) (dp.2 rfl) rfl
   ·rename_i b i u R la
    split at o
    case h_2=>cases o
    rename_i e k xs a lL lb
    split at o
    case h_2=>cases o
    rename_i lM _
    split at o
    case h_2=>cases o
    rename_i le lt
    cases o
    obtain⟨g,cap,cur,us,c1,c,c2,lN,v,lO,f1,f2,f3,f4,f5,f6,f7,f8,f9,f10,f11,f12,f13,f14,f15⟩:=O.mg lb (jV lf.1)
    obtain⟨lP,cells,lj,lu,lQ,lR⟩:=vO f13
    rw[lt]at lj
    cases lj
    obtain⟨lm,lz,t2,t3⟩:=bj O R
    have W:Act.eval ⟨T,aj.D cx⟩ x=v:=by
     rw[f1]at t2
     rw[<-(jU t2).2,f10,<-f11]at t3
     simpa using t3.symm
    obtain⟨_,_,_,ld,d2,Y,lh⟩:=dw la
    rcases lu.2 with ⟨q,ly⟩|⟨g,cap,cur,q,_⟩
    ·refine fin (.int .i64 ((fp le).length:Int)) (.val (.int .i64) ((fp le).length:Int)) ?_ (dp.2 rfl) rfl
     intro w'
     rw[show(fp le).length=0 from ly]
     exact len none 0 0 ld (by rw[W,q]) Y w'
    ·exact fin (.int .i64 ((fp le).length:Int)) (.val (.int .i64) ((fp le).length:Int)) (len _ _ _ ld (by rw[W,q]) Y) (dp.2 rfl) rfl
   ·cases o
  ·cases o
 ·cases o
theorem TA{E:Env}(q:bE E cx)(h:al cx st T w){aa:Oper}{orc:List ak}{st':af}{orc':List ak}{ob:List Prop}(o:Bi E st aa orc=some (st',orc',ob))(U:bW ob)
  {K:Act->World->Prop}{Q:Exit->Act->World->Prop}(W:∀Z w',al cx st' Z w'->K ⟨Z,aj.D cx⟩ w'):aa.wp cx.P ⟨T,aj.D cx⟩ w K Q:=by
 obtain⟨m,R⟩:=h
 unfold Bi at o
 split at o
 ·rename_i ai
  split at o
  case h_2=>cases o
  rename_i t x y la
  rw[<-q.P,<-q.n]at o
  obtain⟨w',aA,Y,lc⟩:∃w' aA,(Instr.storeAt t (Act.eval ⟨T,aj.D cx⟩ x) (Act.eval ⟨T,aj.D cx⟩ y)).run cx.P w=.ok () w'/\ao cx aA st' T w':=by
   split at o
   ·rename_i r O
    cases o
    exact RO R O U
   ·obtain⟨w',ld,le⟩:=XN R o
    exact⟨w',m,ld,le⟩
  unfold Oper.wp
  have O:(execOp (Act.eval ⟨T,aj.D cx⟩) aa).run cx.P w=.ok .skip w':=by
   simp only[execOp,la,Sem.run_bind,Y,Result.andThen_ok,Sem.run_pure]
  rw[O]
  show K (Act.put ⟨T,aj.D cx⟩ aa.dst undef) w'
  rw[ai]
  exact W T w' ⟨aA,lc⟩
 ·rename_i d ai
  split at o
  case h_1=>cases o
  rename_i lf
  have lg:d<cx.n:=by rw[q.n];exact dg lf
  split at o
  ·rename_i r O
   cases o
   rw[<-q.P]at O
   obtain⟨v,Y,lh⟩:=FH R O U
   refine gY (Y w (Ext.refl w)) ?_
   rw[ai]
   exact W _ _ ⟨m,R.put lg lh⟩
  split at o
  ·rename_i c la
   split at o
   ·rename_i a y ln lo
    split at o
    case h_2=>cases o
    rename_i b i li
    split at o
    case h_2=>cases o
    rename_i lp lq lr lb
    split at o
    case h_2=>cases o
    rename_i ls lt lu lj
    cases o
    obtain⟨lk,ll⟩:=zB U
    rw[<-q.n]at lb
    obtain⟨aA,lm⟩:=Rv R li lb lk
    exact s7 q ⟨aA,lm⟩ lj ll W
   ·cases o
  ·cases o
end Go.Ev
namespace Go.Ev
open Go Go.RowKit
variable [cm]
variable {cx:bJ} {m aA:Nat->Value} {st st':af} {T:Array Value} {w w':World}
variable [aj cx]
theorem Jr{M:Nat->Prop}{e:Nat}{t:ah}{v:Value}{cells:List Value}{xs:List t.el}(h:w.ownsRow 0 e t.cells v xs.length cells)(O:bT (aL w M t) cells xs)(R:∀g,aY v=some g->¬M g):aL w M (.ab t) [v] xs:=by
 rcases h.2 with ⟨o,U⟩|⟨g,cap,cur,o,_,la,W,Y,lb,lc⟩
 ·have Z:xs=[]:=List.eq_nil_of_length_eq_zero U
  rw[Z,o]
  exact⟨none,0,[],rfl,Nat.le_refl _,by decide,fun _=>rfl,rfl,fun j u q=>by simp at q⟩
 ·exact⟨some ⟨g,0,none⟩,cap,cells,by rw[o],W,Y,(fun e=>by cases e),O,fun j u q=>⟨_,rfl,h.cells (g:=g) (by rw[o];rfl) j u q,R g (by rw[o];rfl)⟩⟩
theorem ak.QM{t:ah}{a x y:t.el}(h:ak.as ⟨t,a⟩ t=some y):ak.as ⟨t,x⟩ t=some x:=by
 have q:t.beq t=true:=by
  unfold ak.as at h
  split at h
  ·assumption
  ·cases h
 unfold ak.as
 split
 ·rfl
 ·rename_i o;rw[q]at o;cases o
theorem Q5:∀(t:ah) {x O:t.el} {off:Nat} {e:ah} {a R:List e.el},cE t x off ⟨.ab e,a⟩=some O->dd t x off (.ab e)=some R->cE t O off ⟨.ab e,R⟩=some x:=by
 intro t
 induction t with
 |ab t Z=>
  intro x O off e a R o U
  obtain⟨rfl,q⟩:=eU (t:=.ab t) o
  obtain⟨_,Y⟩:=gV (t:=.ab t) U
  cases q
  cases Y
  exact ak.QM (t:=.ab t) o
 |int k=>intro x O off e a R o;obtain⟨_,q⟩:=eU (t:=.int k) o;cases q
 |bool=>intro x O off e a R o;obtain⟨_,q⟩:=eU (t:=.bool) o;cases q
 |str=>intro x O off e a R o;obtain⟨_,q⟩:=eU (t:=.str) o;cases q
 |ptr t Z=>intro x O off e a R o;obtain⟨_,q⟩:=eU (t:=.ptr t) o;cases q
 |fn f t Z=>intro x O off e a R o;obtain⟨_,q⟩:=eU (t:=.fn f t) o;cases q
 |err=>intro x O off e a R o;obtain⟨_,q⟩:=eU (t:=.err) o;cases q
 |cO=>intro x O off e a R o;obtain⟨_,q⟩:=eU (t:=.cO) o;cases q
 |dj=>intro x O off e a R o;obtain⟨_,q⟩:=eU (t:=.dj) o;cases q
 |cP n t Z=>intro x O off e a R o;obtain⟨_,q⟩:=eU (t:=.cP n t) o;cases q
 |alt n t r _ _=>intro x O off e a R o;obtain⟨_,q⟩:=eU (t:=.alt n t r) o;cases q
 |map p lc _ _=>intro x O off e a R o;obtain⟨_,q⟩:=eU (t:=.map p lc) o;cases q
 |unit=>intro x O off e a R o;obtain⟨_,q⟩:=eU (t:=.unit) o;cases q
 |arr n t Z=>
  intro x O off e a R o U
  unfold cE at o⊢
  unfold dd at U
  split at o
  ·rename_i y la W;have:=ak.dx W;cases this
  ·split at U
   ·rename_i y la W;obtain⟨_,Y⟩:=gV (t:=.arr n t) (off:=0) (by rw[show Nat.beq 0 0=true from rfl,cond_true];exact W);cases Y
   split
   ·rename_i y la W;have:=ak.dx W;cases this
   cases lf:Nat.beq t.cells 0 with
   |true=>rw[lf]at o;cases o
   |false=>
    rw[lf,cond_false]at o U
    rw[cond_false]
    split at o
    ·rename_i z ld
     rw[ld]at U
     split at o
     ·rename_i le li
      cases o
      have lj:=(List.getElem?_eq_some_iff.1 ld).1
      have lg:(List.set (show List t.el from x) (off/t.cells) le)[off/t.cells]? =some le:=by rw[List.getElem?_set_self lj]
      simp only[]at U
      have:=Z li U
      split
      ·rename_i z2 lb
       have Y:z2=le:=by rw[lg]at lb;cases lb;rfl
       subst Y
       rw[this]
       exact congrArg some ((List.set_set ..).trans (vM ld))
      ·rename_i lb
       rw[lg]at lb
       cases lb
     ·cases o
    ·cases o
 |pair p lc lk ll=>
  intro x O off e a R o U
  unfold cE at o⊢
  unfold dd at U
  split at o
  ·rename_i y la W;have:=ak.dx W;cases this
  ·split at U
   ·rename_i y la W;obtain⟨_,Y⟩:=gV (t:=.pair p lc) (off:=0) (by rw[show Nat.beq 0 0=true from rfl,cond_true];exact W);cases Y
   split
   ·rename_i y la W;have:=ak.dx W;cases this
   cases lh:Nat.blt off p.cells with
   |true=>
    rw[lh,cond_true]at o U
    rw[cond_true]
    split at o
    ·rename_i y W
     cases o
     rw[lk W U]
     rfl
    ·cases o
   |false=>
    rw[lh,cond_false]at o U
    rw[cond_false]
    split at o
    ·rename_i y W
     cases o
     rw[ll W U]
     rfl
    ·cases o
theorem KL{M M':Nat->Prop}{k:eF}(o:∀b,b<w.heap.size->M' b->M b):∀{xs:List k.u.el} {n:Nat} {cs us:List Value},(∀u,u∈us->∀g,aY u=some g->¬M' g)->fW w M k none n xs cs us->bT (aL w M' k.u) cs xs
 |[],_,cs,us,_,⟨h,_⟩=>h
 |x::xs,n,cs,us,q,⟨c,d,v,vs,R,lh,U,W,Y⟩=>by
  subst U
  refine⟨c,d,R,?_,KL o (fun u Z=>q u (List.mem_cons_of_mem _ Z)) Y⟩
  obtain⟨L,v1,li,la,lj,lk,lb,lc,ll,ld⟩:=W
  obtain⟨rfl,O,cells,le,cy,dY⟩:=ld fun⟨_,h,_⟩=>by cases h
  have lf:aL w M' (.ab k.t) [v] O:=Jr cy (dD (fun _ _=>cS (fun _ _ _=>rfl) o k.t) dY) (q v List.mem_cons_self)
  obtain⟨c1,c2,c3,lg,a2,a3,a4⟩:=rC (v:=⟨.ab k.t,O⟩) lf k.u (cS (fun _ _ _=>rfl) o k.u lc) (Q5 k.u lb le)
  obtain⟨z,rfl⟩:=List.length_eq_one_iff.1 (show c2.length=1 from a3)
  rw[la,lg,<-a2]
  have:(c1++[z]++c3).set c1.length v=c1++[v]++c3:=by simp
  rw[this]
  exact a4
def ap.UC(b:Nat)(k:eF)(xs:List k.u.el):ap->ap
 |.osl c=>bif Nat.beq c b then .val (.ab k.u) xs else .osl c
 |s=>s.ed [b]
def af.nM(st:af)(b:Nat)(k:eF)(xs:List k.u.el):af:=st.dZ [b] [] [] (ap.UC b k xs)
theorem ao.nM(h:ao cx m st T w){b e:Nat}{k:eF}{xs:List k.u.el}(U:look st.ae b=some (.bw e k xs none)):ao cx m (st.nM b k xs) T w:=by
 obtain⟨ai,us,cells,O,la,lb,lm⟩:=h.bw U
 have W:b∈st.ids:=List.mem_append.2 (.inl (List.mem_map.2 ⟨_,be U,rfl⟩))
 have X:iH cx m m st w w [b] [] []:=⟨⟨rfl,rfl,rfl,Nat.le_refl _,fun _=>Nat.le_refl _⟩,fun _ _ _=>rfl,fun _ _ _=>rfl,fun i o=>(by rcases o with o|o<;>cases o),fun i j o=>(by rcases o with o|o<;>cases o),List.nodup_nil,fun i o=>(by rcases o with o|o<;>cases o),fun _ _ o _=>(by cases o),fun _ _ o=>(by cases o)⟩
 have Y:∀g,own (m b) g->¬au cx m (st.nM b k xs).ids g:=by
  rintro g q (lc|⟨i,o,ld⟩)
  ·have le:=h.outer g lc
   rcases(h.lt W q).2 with Z|Z
   ·omega
   ·exact le.2 Z
  ·rcases qn.1 o with (o|o)|⟨o,lf⟩
   ·cases o
   ·cases o
   ·exact h.apart i b o W (fun e=>lf (by rw[e];exact List.mem_singleton.2 rfl)) g ld q
 refine h.EJ X (fun v s R=>?_) (fun _ _ o=>(by cases o)) (fun _ _ o=>(by cases o))
 have lg:aX w (au cx m (st.nM b k xs).ids) m v (s.ed [b]):=oa (fun _ _=>rfl) R
 cases s with
 |osl c=>
  show aX _ _ _ _ (bif Nat.beq c b then .val (.ab k.u) xs else .osl c)
  cases lh:Nat.beq c b with
  |false=>exact R
  |true=>
   have e:=Nat.eq_of_beq_eq_true lh
   subst e
   obtain⟨ln,li⟩:=R
   have lj:=(jU (li.symm.trans O)).1
   subst lj
   refine Jr la (KL (fun _ _ lk=>X.mut _ ‹_› lk) (fun u ll g q=>Y g ?_) lb) fun g q=>Y g ?_
   ·rw[O];exact dA.2 (.inr ⟨u,ll,q⟩)
   ·rw[O];exact dA.2 (.inl q)
 |_=>exact lg
def zg:af->List Operand->af
 |st,[]=>st
 |st,x::l=>zg (match aW st x with
  |some (.osl b)=>match look st.ae b with
   |some (.bw _ k xs none)=>st.nM b k xs
   |_=>st
  |_=>st) l
theorem Mp:∀{l:List Operand} {st:af},ao cx m st T w->ao cx m (zg st l) T w
 |[],_,h=>h
 |x::l,st,h=>by
  refine Mp (l:=l) ?_
  split
  ·split
   ·rename_i o;exact h.nM o
   ·exact h
  ·exact h
def DN:List (Nat×b7)->af->af
 |[],st=>st
 |(b,_)::l,st=>DN l (match look st.ae b with|some (.bw _ k xs none)=>st.nM b k xs|_=>st)
theorem Dm:∀{l:List (Nat×b7)} {st:af},ao cx m st T w->ao cx m (DN l st) T w
 |[],_,h=>h
 |(b,c)::l,st,h=>by
  refine Dm (l:=l) ?_
  split
  ·rename_i o;exact h.nM o
  ·exact h
def oB(off:Nat)(t:ah):Nat->List b9->Option (List ap)
 |_,[]=>some []
 |n,.v u::l=>match oB off t (n+1) l with
  |some r=>some (.val u.t u.x::r)
  |none=>none
 |n,.r _::l=>match Nat.beq n off,oB off t (n+1) l with
  |true,some r=>some (.val (.ab t) []::r)
  |_,_=>none
 |_,_=>none
theorem BI{M:Nat->Prop}{off b:Nat}{t:ah}:∀{n:Nat} {cs:List Value} {l:List b9} {r:List ap},oB off t n l=some r->dq w M m cs l->
  (n<=off->l[off-n]? =some (.r b)->cJ w M m (cs.set (off-n) (.slice none 0 0)) r)/\(off<n->cJ w M m cs r)
 |n,[],[],r,h,_=>by cases h;exact⟨fun _ h=>by simp at h,fun _=>trivial⟩
 |n,[],x::_,_,_,h=>by cases x<;>exact h.elim
 |n,_::_,[],_,_,h=>h.elim
 |n,c::cs,.v u::l,r,h,⟨o,q⟩=>by
  unfold oB at h
  split at h
  ·rename_i Z O
   cases h
   obtain⟨Y,R⟩:=BI (b:=b) O q
   refine⟨fun U W=>?_,fun U=>⟨o,R (by omega)⟩⟩
   by_cases la:n=off
   ·subst la;simp at W
   ·have e:off-n=(off-(n+1))+1:=by omega
    rw[e]at W⊢
    exact⟨o,Y (by omega) (by simpa using W)⟩
  ·cases h
 |n,c::cs,.r ld::l,r,h,⟨o,q⟩=>by
  unfold oB at h
  split at h
  ·rename_i Z lb O
   cases h
   have e:=Nat.eq_of_beq_eq_true lb
   subst e
   obtain⟨Y,R⟩:=BI (b:=b) O q
   refine⟨fun _ _=>?_,fun U=>absurd U (Nat.lt_irrefl _)⟩
   rw[Nat.sub_self]
   exact⟨(bC (t:=.ab t) rfl).2 ⟨none,0,[],rfl,Nat.le_refl _,by decide,fun _=>rfl,rfl,fun j v lc=>by simp at lc⟩,R (Nat.lt_succ_self _)⟩
  ·cases h
 |n,_::_,.a::_,_,h,_=>by cases h
theorem IJ{M:Nat->Prop}:∀{cs:List Value} {l:List b9} {i b:Nat},dq w M m cs l->l[i]? =some (.r b)->cs[i]? =some (m b)
 |[],[],i,b,_,h=>by simp at h
 |[],x::_,_,_,h,_=>by cases x<;>exact h.elim
 |_::_,[],_,_,h,_=>h.elim
 |c::cs,x::l,0,b,h,o=>by
  simp at o
  subst o
  rw[h.1]
  rfl
 |c::cs,x::l,i+1,b,h,o=>by
  have q:dq w M m cs l:=by cases x with
   |v u=>exact h.2
   |r r=>exact h.2
   |a=>exact h
  have:=IJ (i:=i) q (by simpa using o)
  simpa using this
end Go.Ev
namespace Go.Ev
open Go Go.RowKit
variable [cm]
variable {cx:bJ} {m aA:Nat->Value} {st st':af} {T:Array Value} {w w':World}
variable [aj cx]
def GB(P:Program)(st:af)(aa:Oper)(d:Nat):Option (af×List Prop):=
 match aa.op with
 |.buildSlice t n ps=>match ps.toList,n with
  |[(0,x)],1=>match aW st x,ew P t with
   |some (.fe l),some (e,u)=>match pz P e,zeroOf P e with
    |some k,some _=>match l[k.off]?,oB k.off k.t 0 l,u.beq k.u&&Nat.ble u.cells 16777216 with
     |some (.r r),some R,true=>match look st.rw r,pack k.u R with
      |some c,some (q,[])=>match ak.as ⟨.ab c.t,c.xs⟩ (.ab k.t),Nat.beq c.e k.e with
       |some O,true=>match cE k.u q k.off ⟨.ab k.t,O⟩with
        |some o=>some ((st.dZ [d,r] [(d,.bw e k [o] none)] [] (ap.ed [d,r])).put d (.osl d),[cE k.u o k.off ⟨.ab k.t,[]⟩=some q,dd k.u o k.off (.ab k.t)=some O])
        |none=>none
       |_,_=>none
      |_,_=>none
     |_,_,_=>none
    |_,_=>none
   |_,_=>none
  |_,_=>none
 |_=>none
theorem abh(h:ao cx m st T w){aa:Oper}{d:Nat}(ai:d<cx.n){ob:List Prop}(o:GB cx.P st aa d=some (st',ob))(lv:bW ob):
  ∃v w' aA,(execOp (Act.eval ⟨T,aj.D cx⟩) aa).run cx.P w=.ok (.value v) w'/\ao cx aA st' (T.setIfInBounds d v) w':=by
 unfold GB at o
 split at o
 case h_2=>cases o
 rename_i t n ps lw
 split at o
 case h_2=>cases o
 rename_i x lx
 split at o
 case h_2=>cases o
 rename_i l e u ly lz
 split at o
 case h_2=>cases o
 rename_i k l6 q lA
 split at o
 case h_2=>cases o
 rename_i r l7 lg lB aJ
 split at o
 case h_2=>cases o
 rename_i c lC Z lD
 split at o
 case h_2=>cases o
 rename_i lE lF lG
 split at o
 case h_2=>cases o
 rename_i lh l8
 cases o
 simp only[Bool.and_eq_true]at aJ
 obtain rfl:=ah.eq_of_beq aJ.1
 have l9:=Nat.le_of_ble_eq_true aJ.2
 obtain⟨lH,lI,_⟩:=lv
 have lJ:=Du (Nat.eq_of_beq_eq_true lG) lF
 subst lJ
 obtain⟨vs,lK,li⟩:=bj h ly
 have lj:=IJ li lg
 have lk:=(BI (b:=r) lB li).1 (Nat.zero_le _) lg
 rw[Nat.sub_zero]at lk
 obtain⟨c1,c2,ll,lm,la⟩:=qZ k.u lk lD
 have la:c2=[]:=List.eq_nil_of_length_eq_zero (nh la)
 subst la
 rw[List.append_nil]at ll
 subst ll
 have R:vs.length=k.u.cells:=by rw[<-cu k.u lm,List.length_set]
 obtain⟨cells,lL,ab,lM⟩:=h.rows r _ (be Z)
 have ln:r∈st.ids:=List.mem_append.2 (.inr (List.mem_map.2 ⟨_,be Z,rfl⟩))
 have lN:=row_one h (be Z)
 obtain⟨lb,lO,ad⟩:=jr lz
 obtain⟨ae,lP,_,lQ,_,lR,af⟩:=kq lA
 -- the run
 have lS:(execOp (Act.eval ⟨T,aj.D cx⟩) aa).run cx.P w=.ok (.value (.slice (some ⟨w.heap.size,0,none⟩) 1 1)) (w.alloc (.cells vs.toArray e)):=by
  refine cF (s:=Instr.buildSlice t 1 (ps.map fun p=>(p.1,Act.eval ⟨T,aj.D cx⟩ p.2))) (by simp only[execOp,lw]) ?_
  have lT:¬(1*k.u.cells>2^24):=by omega
  have lU:¬(1*k.u.cells=0):=by omega
  have lV:(zeroValue e).run cx.P w=.ok lP w:=by simp[zeroValue,typeInfo,lQ,lR]
  have lW:(ps.map fun p=>(p.1,Act.eval ⟨T,aj.D cx⟩ p.2)).toList=[(0,Value.agg vs.toArray)]:=by rw[Array.toList_map,lx];simp[lK]
  have lX:∀z:Array Value,z.size=k.u.cells->Instr.fill (fun i=>some (i*k.u.cells,k.u.cells)) z [(0,Value.agg vs.toArray)]=some vs.toArray:=by
   intro z lo
   rw[Instr.fill]
   simp only[]
   have lY:(Value.agg vs.toArray).cells=vs.toArray:=rfl
   rw[lY,if_neg (by simp[R,lo]),Instr.fill]
   have:=wr vs [] [] z.toList (by rw[Array.length_toList,lo,R])
   simp at this
   simp[this]
  simp only[Instr.buildSlice,Sem.run_bind,run_underlying lb,Result.andThen_ok,fi lO,if_neg lT,if_neg lU,lV,Sem.run_pure,lW]
  rw[lX _ (by simp)]
  simp only[Sem.run_bind,Sem.run_pure,Result.andThen_ok,newRow,run_newObj_alloc]
 have lZ:(w.alloc (.cells vs.toArray e)).ownsRow 0 e k.u.cells (.slice (some ⟨w.heap.size,0,none⟩) 1 1) [lh].length vs:=
  ⟨by simp[R],.inr ⟨w.heap.size,1,vs.toArray,rfl,Nat.zero_le _,heap_alloc_new w _,Nat.le_refl _,by decide,by simp[R],by simp[<-R]⟩⟩
 obtain⟨v2,W⟩:∃v2,v2=Value.tuple (.slice (some ⟨w.heap.size,0,none⟩) 1 1::[m r]).toArray:=⟨_,rfl⟩
 have lc:Ext w (w.alloc (.cells vs.toArray e)):=iK _ _
 have lp:∀b,aY (m r)=some b->b<w.heap.size:=fun b ld=>(h.lt ln (gP ld)).1
 have X:iH cx m (bH m d v2) st w (w.alloc (.cells vs.toArray e)) [d,r] [(d,.bw e k [lh] none)] []:={
  same:=lc.toSame
  block:=fun lq q _=>lc.block lq q
  old:=fun j _ O=>dk _ _ fun e=>O (by simp[e])
  new:=fun j O lq q=>by
   have:j=d:=by simpa using O
   subst this
   rw[ct,W]at q
   rcases dA.1 q with q|⟨u,lb,q⟩
   ·cases q;exact .inr ⟨Nat.le_refl _,by simp⟩
   ·have:u=m r:=by simpa using lb
    subst this
    exact .inl ⟨r,by simp,ln,gP q⟩
  apart:=fun j l0 O l3 ag=>by
   have:j=d:=by simpa using O
   have:l0=d:=by simpa using l3
   omega
  keys:=by simp
  n9:=fun j O _=>by
   have:j=d:=by simpa using O
   simp[this]
  nO:=fun lr c' U Y=>by simp at U;rw[U.2]at Y;cases Y
  fJ:=fun l4 c' le=>by cases le}
 refine⟨_,_,bH m d v2,lS,(h.dZ X (fun M v s l5=>oa (fun j O=>dk _ _ fun e=>O (by simp[e])) l5) (fun lr c' U=>?_) (fun l4 c' le=>by cases le)).put ai ⟨[m r],by rw[ct,W]⟩⟩
 simp only[List.mem_cons,Prod.mk.injEq,List.not_mem_nil,or_false]at U
 obtain⟨rfl,rfl⟩:=U
 rw[ct]
 have ls:=X.mut (f:=ap.ed [lr,r])
 have lt:=X.keeps
 refine⟨0,⟨_,_,W⟩,_,[m r],vs,W,lZ,⟨vs,[],m r,[],by simp,R,rfl,?_,rfl,rfl⟩,?_⟩
 ·refine⟨vs.set k.off (.slice none 0 0),m r,lC,?_,?_,lN,lH,cS lt ls k.u lm,(fun⟨_,Y,_⟩=>by cases Y),fun _=>⟨rfl,lE,cells,lI,qj lL fun b ld=>lc.block b (lp b ld),dD (fun _ _=>cS lt ls k.t) lM⟩⟩
  ·rw[List.set_set,vM lj]
  ·rw[List.getElem?_set_self (List.getElem?_eq_some_iff.1 lj).1]
 ·have lu:aY (Value.slice (some ⟨w.heap.size,0,none⟩) 1 1)=some w.heap.size:=rfl
  cases lf:aY (m r)with
  |none=>rw[List.filterMap_cons_some lu,List.filterMap_cons_none lf];exact List.nodup_cons.2 ⟨by simp,List.nodup_nil⟩
  |some b=>
   have:=lp b lf
   rw[List.filterMap_cons_some lu,List.filterMap_cons_some lf]
   exact List.nodup_cons.2 ⟨by simp;omega,List.nodup_cons.2 ⟨by simp,List.nodup_nil⟩⟩
def EH(k o:eF):Bool:=o.u.beq k.u&&(Nat.beq o.off k.off&&(Nat.beq o.e k.e&&o.t.beq k.t))
theorem PW{k o:eF}(h:EH k o=true):o=k:=by
 obtain⟨u,off,e,t⟩:=k
 obtain⟨W,Y,Z,t2⟩:=o
 simp only[EH,Bool.and_eq_true]at h
 obtain⟨q,O,R,U⟩:=h
 obtain rfl:=ah.eq_of_beq q
 obtain rfl:=ah.eq_of_beq U
 rw[Nat.eq_of_beq_eq_true O,Nat.eq_of_beq_eq_true R]
theorem Iw{n:Nat}:¬iO none n:=fun⟨_,h,_⟩=>by cases h
theorem Ms{M:Nat->Prop}{k:eF}:∀{xs o:List k.u.el} {n q:Nat} {cs O us R:List Value},fW w M k none n xs cs us->fW w M k none q o O R->fW w M k none n (xs++o) (cs++O) (us++R)
 |[],o,n,q,cs,O,us,R,⟨lc,ld⟩,U=>by
  subst lc
  subst ld
  have key:∀{o:List k.u.el} {n q:Nat} {cs us:List Value},fW w M k none q o cs us->fW w M k none n o cs us:=by
   intro o
   induction o with
   |nil=>intro n q cs us h;exact h
   |cons y o le=>
    rintro n q cs us ⟨c,d,v,vs,W,Y,Z,la,lb⟩
    exact⟨c,d,v,vs,W,Y,Z,Dk (fun _ _ _=>rfl) (fun _ _ h=>h) ⟨fun h=>absurd h Iw,fun h=>absurd h Iw⟩ (fun _ _=>rfl) la,le lb⟩
  exact key U
 |x::xs,o,n,q,cs,O,us,R,⟨c,d,v,vs,W,Y,Z,la,lb⟩,U=>by
  subst W
  subst Z
  exact⟨c,d++O,v,vs++R,by simp,Y,rfl,la,Ms lb U⟩
theorem KQ{M:Nat->Prop}{k:eF}:∀{xs:List k.u.el} {n:Nat} {cs us:List Value},fW w M k none n xs cs us->∀v∈cs,v.oneCell'=true
 |[],n,cs,us,⟨h,_⟩,v,o=>by subst h;cases o
 |x::xs,n,cs,us,⟨c,d,u,vs,q,Z,la,O,R⟩,v,o=>by
  subst q
  rcases List.mem_append.1 o with o|o
  ·obtain⟨L,v1,lb,U,lc,W,ld,Y,_⟩:=O
   rw[U]at o
   rcases List.mem_or_eq_of_mem_set o with o|rfl
   ·exact hU k.u Y v o
   ·exact W
  ·exact KQ R v o
def FF(P:Program)(st:af)(c:Call)(d:Nat):Option (af×List Prop):=
 match c.callee,c.args.toList,c.argTypes.toList with
 |.builtin .append,[.tmp a,y],[t,R]=>match look st.ab a,aW st y with
  |some (.osl b),some (.osl o)=>match look st.ae b,look st.ae o,ew P t,ew P R with
   |some (.bw e k xs none),some (.bw U q W none),some (Y,u),some _=>match EH k q&&(Nat.beq e U&&(Nat.beq e Y&&(u.beq k.u&&(!(Nat.beq b o)&&om P e)))),ak.as ⟨.ab q.u,W⟩ (.ab k.u),zeroOf P e with
    |true,some O,some Z=>match Z.beq k.u with
     |true=>some ((st.dZ [b,o] [(b,.bw e k (xs++fp O) none)] [] (ap.ed [b,o])).put d (.osl b),[xs.length+(fp O).length<=bF])
     |false=>none
    |_,_,_=>none
   |_,_,_,_=>none
  |_,_=>none
 |_,_,_=>none
theorem RQ(h:ao cx m st T w){aa:Oper}{c:Call}{d:Nat}(lT:aa.op=.call c)(ai:d<cx.n){ob:List Prop}(R:FF cx.P st c d=some (st',ob))(lm:bW ob):
  ∃v w' aA,(execOp (Act.eval ⟨T,aj.D cx⟩) aa).run cx.P w=.ok (.value v) w'/\ao cx aA st' (T.setIfInBounds d v) w':=by
 unfold FF at R
 split at R
 case h_2=>cases R
 rename_i a y t lC lD lE lF
 split at R
 case h_2=>cases R
 rename_i b lb lU lV
 split at R
 case h_2=>cases R
 rename_i e k xs aP lG U aQ u lW lH lI lX lY
 split at R
 case h_2=>cases R
 rename_i aR aS aJ lZ l0
 split at R
 case h_2=>cases R
 rename_i l3
 cases R
 simp only[Bool.and_eq_true,Bool.not_eq_true']at aJ
 obtain⟨lt,lu,lv,l4,l5,l6⟩:=aJ
 have lt:=PW lt
 subst lt
 have l7:=ak.dx lZ
 cases l7
 have lu:=Nat.eq_of_beq_eq_true lu
 subst lu
 have lv:=Nat.eq_of_beq_eq_true lv
 subst lv
 obtain rfl:=ah.eq_of_beq l4
 obtain rfl:=ah.eq_of_beq l3
 have lJ:=beq_false l5
 have lm:=lm.1
 obtain⟨hu,aT,aU⟩:=jr lX
 obtain⟨aV,aW⟩:=lW
 obtain⟨l8,_,_⟩:=jr lY
 obtain⟨i,z,_,lK,lf,l9,ab⟩:=kq l0
 obtain⟨i2,lL,ad⟩:=yF l6
 rw[lK]at lL
 cases lL
 obtain⟨le,us,cells,lw,a2,a3,a4⟩:=h.bw lH
 obtain⟨lg,Z,ln,lM,lo,lp,lq⟩:=h.bw lI
 have lc:b∈st.ids:=List.mem_append.2 (.inl (List.mem_map.2 ⟨_,be lH,rfl⟩))
 have lh:lb∈st.ids:=List.mem_append.2 (.inl (List.mem_map.2 ⟨_,be lI,rfl⟩))
 have ae:Act.eval ⟨T,aj.D cx⟩ (.tmp a)=le:=by
  obtain⟨v,t1,af,t2⟩:=h.de a _ (be lU)
  rw[Ie t1]
  exact(jU (t2.symm.trans lw)).1
 have ag:Act.eval ⟨T,aj.D cx⟩ y=lg:=by
  obtain⟨af,t2⟩:=bj h lV
  exact(jU (t2.symm.trans lM)).1
 have al:z.cells.size=i.size:=by rw[lf,<-cu lG.u (ab w (au cx m st.ids))];simp
 have am:=(zQ lp).2
 have an:xs.length+U.length<=maxLen:=Nat.le_trans lm y9
 have aq:(xs.length+U.length)*i.bytes<=140737488355328:=by
  have O:xs.length+U.length<=2147483648:=lm
  calc (xs.length+U.length)*i.bytes<=2147483648*65536:=Nat.mul_le_mul O ad
   _=140737488355328:=by decide
 have ar:Builtin.lenOf lg=pure U.length:=by
  rcases lo.2 with ⟨la,li⟩|⟨g,cap,cur,la,_⟩
  ·rw[la,li];rfl
  ·rw[la];rfl
 have av:∀w',(∀b,b<w.heap.size->w'.heap[b]? =w.heap[b]?)->(Builtin.firstCells i.size U.length lg).run cx.P w'=.ok ln.toArray w':=by
  intro w' aw
  rw[lf]
  rcases lo.2 with ⟨la,li⟩|⟨g,cap,cur,la,_⟩
  ·have ax:U=[]:=List.eq_nil_of_length_eq_zero li
   subst ax
   have:ln=[]:=lp.1
   subst this
   rw[la];rfl
  ·rw[la]
   exact Bb (lo.cells (g:=g) (by rw[la];rfl)) lo.1 w' aw
 obtain⟨v',w',ay,az,aB,lx,lN⟩:=JI (P:=cx.P) (w:=w) t lC aa.type e i z hu (.inl ⟨_,l8⟩) lK l9 al lg U.length ln ar av (by rw[lf];exact am) (KQ lp) le xs.length cells (by rw[lf];exact a2) an aq
 have aC:(execOp (Act.eval ⟨T,aj.D cx⟩) aa).run cx.P w=.ok (.value v') w':=by
  obtain⟨aX,args,lO⟩:=c
  simp only at lD lE lF
  subst lD
  have aD:args=#[.tmp a,y]:=by rw[<-Array.toArray_toList (xs:=args),lE]
  have aE:lO=#[t,lC]:=by rw[<-Array.toArray_toList (xs:=lO),lF]
  subst aD
  subst aE
  simp only[execOp,lT,resolve,invoke,builtin,Sem.run_bind,Sem.run_pure,Result.andThen_ok,List.map_toArray,List.map_cons,List.map_nil,ae,ag]
  simp only[ay,Sem.run_bind,Sem.run_pure,Result.andThen_ok]
 have lr:∀u,u∈us->∀g,aY u=some g->own (m b) g:=fun u hu g o=>by rw[lw];exact dA.2 (.inr ⟨u,hu,o⟩)
 have lj:∀u,u∈Z->∀g,aY u=some g->own (m lb) g:=fun u hu g o=>by rw[lM];exact dA.2 (.inr ⟨u,hu,o⟩)
 have ly:∀g,aY le=some g->own (m b) g:=fun g o=>by rw[lw];exact dA.2 (.inl o)
 have lP:∀u,u∈us->∀g,aY u=some g->aY le≠some g:=by
  intro u hu g o q
  rw[List.filterMap_cons_some q]at a4
  exact(List.nodup_cons.1 a4).1 (List.mem_filterMap.2 ⟨u,hu,o⟩)
 have lQ:∀u,u∈Z->∀g,aY u=some g->aY le≠some g:=fun u hu g o q=>h.apart b lb lc lh lJ g (ly g q) (lj u hu g o)
 have lz:∀u,u∈us\/u∈Z->∀g,aY u=some g->g<w.heap.size/\w'.heap[g]? =w.heap[g]? :=by
  rintro u (hu|hu) g o
  ·exact⟨(h.lt lc (lr u hu g o)).1,lx g (h.lt lc (lr u hu g o)).1 (lP u hu g o)⟩
  ·exact⟨(h.lt lh (lj u hu g o)).1,lx g (h.lt lh (lj u hu g o)).1 (lQ u hu g o)⟩
 obtain⟨v2,ls⟩:∃v2,v2=Value.tuple (v'::(us++Z)).toArray:=⟨_,rfl⟩
 have X:iH cx m (bH m b v2) st w w' [b,lb] [(b,.bw e lG (xs++U) none)] []:={
  same:=aB
  block:=fun ld W li=>lx ld W fun q=>li b (by simp) lc (ly ld q)
  old:=fun j _ Y=>dk _ _ fun e=>Y (by simp[e])
  new:=fun j Y ld W=>by
   have:j=b:=by simpa using Y
   subst this
   rw[ct,ls]at W
   rcases dA.1 W with W|⟨u,hu,W⟩
   ·rcases lN ld W with O|O
    ·exact .inl ⟨j,by simp,lc,ly ld O⟩
    ·exact .inr O
   ·rcases List.mem_append.1 hu with hu|hu
    ·exact .inl ⟨j,by simp,lc,lr u hu ld W⟩
    ·exact .inl ⟨lb,by simp,lh,lj u hu ld W⟩
  apart:=fun j aF Y aG aZ=>by
   have:j=b:=by simpa using Y
   have:aF=b:=by simpa using aG
   omega
  keys:=by simp
  n9:=fun j Y _=>by
   have:j=b:=by simpa using Y
   simp[this]
  nO:=fun lA c' lk O=>by simp at lk;rw[lk.2]at O;cases O
  fJ:=fun aH c' lB=>by cases lB}
 refine⟨_,_,bH m b v2,aC,(h.dZ X (fun M v s aI=>oa (fun j Y=>dk _ _ fun e=>Y (by simp[e])) aI) (fun lA c' lk=>?_) (fun aH c' lB=>by cases lB)).put ai ⟨us++Z,by rw[ct,ls]⟩⟩
 simp only[List.mem_cons,Prod.mk.injEq,List.not_mem_nil,or_false]at lk
 obtain⟨rfl,rfl⟩:=lk
 rw[ct]
 have lR:=X.mut (f:=ap.ed [lA,lb])
 have lS:=X.keeps
 refine⟨0,⟨_,_,ls⟩,v',us++Z,cells++ln,ls,by rw[List.length_append,<-lf];exact az,?_,?_⟩
 ·exact Ms (rP lS lR (fun _ _=>Iff.rfl) (fun u hu g o=>(lz u (.inl hu) g o).2) a3) (rP lS lR (fun _ _=>Iff.rfl) (fun u hu g o=>(lz u (.inr hu) g o).2) lp)
 ·have aK:(us.filterMap aY).Nodup:=by
   cases q:aY le with
   |none=>rw[List.filterMap_cons_none q]at a4;exact a4
   |some g=>rw[List.filterMap_cons_some q]at a4;exact(List.nodup_cons.1 a4).2
  have aL:(Z.filterMap aY).Nodup:=by
   cases q:aY lg with
   |none=>rw[List.filterMap_cons_none q]at lq;exact lq
   |some g=>rw[List.filterMap_cons_some q]at lq;exact(List.nodup_cons.1 lq).2
  have n3:((us++Z).filterMap aY).Nodup:=by
   rw[List.filterMap_append,List.nodup_append]
   refine⟨aK,aL,fun g o a0 aM e=>?_⟩
   subst e
   obtain⟨u,hu,O⟩:=List.mem_filterMap.1 o
   obtain⟨aN,aO,ll⟩:=List.mem_filterMap.1 aM
   exact h.apart lA lb lc lh lJ g (lr u hu g O) (lj aN aO g ll)
  cases q:aY v' with
  |none=>rw[List.filterMap_cons_none q];exact n3
  |some g=>
   rw[List.filterMap_cons_some q]
   refine List.nodup_cons.2 ⟨fun o=>?_,n3⟩
   obtain⟨u,hu,O⟩:=List.mem_filterMap.1 o
   have hu:=List.mem_append.1 hu
   rcases lN g q with ll|ll
   ·rcases hu with hu|hu
    ·exact lP u hu g O ll
    ·exact lQ u hu g O ll
   ·have:=(lz u hu g O).1
    omega
def Hv(E:Env)(st:af)(aa:Oper)(orc:List ak):Option (af×List ak×List Prop):=
 match aa.dst with
 |some d=>match Nat.blt d E.n with
  |true=>match aa.op with
   |.call c=>match FF E.P st c d with
    |some (s,ob)=>some (s,orc,ob)
    |none=>none
   |_=>match GB E.P st aa d with
    |some (s,ob)=>some (s,orc,ob)
    |none=>none
  |false=>none
 |none=>none
theorem Uc{E:Env}(W:bE E cx)(h:al cx st T w){aa:Oper}{orc:List ak}{st':af}{orc':List ak}{ob:List Prop}(o:Hv E st aa orc=some (st',orc',ob))(Y:bW ob)
  {K:Act->World->Prop}{Q:Exit->Act->World->Prop}(lb:∀Z w',al cx st' Z w'->K ⟨Z,aj.D cx⟩ w'):aa.wp cx.P ⟨T,aj.D cx⟩ w K Q:=by
 obtain⟨m,la⟩:=h
 unfold Hv at o
 split at o
 case h_2=>cases o
 rename_i d ai
 split at o
 case h_2=>cases o
 rename_i q
 have q:d<cx.n:=by rw[W.n];exact dg q
 rw[<-W.P]at o
 have fin:∀v w' aA,(execOp (Act.eval ⟨T,aj.D cx⟩) aa).run cx.P w=.ok (.value v) w'->ao cx aA st' (T.setIfInBounds d v) w'->aa.wp cx.P ⟨T,aj.D cx⟩ w K Q:=by
  intro v w' aA lc ld
  refine gY lc ?_
  rw[ai]
  exact lb _ _ ⟨aA,ld⟩
 split at o
 ·rename_i c le
  split at o
  case h_2=>cases o
  rename_i s lf O
  cases o
  obtain⟨v,w',aA,R,U⟩:=RQ la le q O Y
  exact fin v w' aA R U
 ·split at o
  case h_2=>cases o
  rename_i s lf O
  cases o
  obtain⟨v,w',aA,R,U⟩:=abh la q O Y
  exact fin v w' aA R U
def ah.zh:ah->Bool
 |.cO=>true
 |.pair a b=>zh a||zh b
 |.arr _ a=>zh a
 |_=>false
def Lo(P:Program)(aa:Oper):Bool:=match aa.op with
 |.build t _=>match ty P t with
  |some u=>u.zh
  |none=>false
 |_=>false
def NP(E:Env)(st:af)(aa:Oper)(orc:List ak):Option (af×List ak×List Prop):=bif Lo E.P aa then xD E st aa orc else none
def nb(E:Env)(o:af)(aa:Oper)(orc:List ak):Option (af×List ak×List Prop):=
 match BA E o aa orc with
 |some r=>some r
 |none=>match NP E o aa orc with
 |some r=>some r
 |none=>match Bp E (zg o (iy E aa.op)) aa orc with
  |some r=>some r
  |none=>match Bi E o aa orc with
   |some r=>some r
   |none=>Hv E o aa orc
theorem WQ{E:Env}(O:bE E cx)(h:al cx st T w){aa:Oper}{orc:List ak}{st':af}{orc':List ak}{ob:List Prop}(q:nb E st aa orc=some (st',orc',ob))(R:bW ob)
  {K:Act->World->Prop}{Q:Exit->Act->World->Prop}(U:∀W w',al cx st' W w'->K ⟨W,aj.D cx⟩ w'):aa.wp cx.P ⟨T,aj.D cx⟩ w K Q:=by
 unfold nb at q
 split at q
 ·rename_i r o
  cases q
  exact T3 O h o R U
 ·split at q
  ·rename_i r o
   cases q
   unfold NP at o
   cases Y:Lo E.P aa with
   |false=>rw[Y]at o;cases o
   |true=>rw[Y]at o;exact My O h o R U
  split at q
  ·rename_i r o
   cases q
   obtain⟨m,Z⟩:=h
   exact Z4 O ⟨m,Mp Z⟩ o R U
  ·split at q
   ·rename_i r o
    cases q
    exact TA O h o R U
   ·exact Uc O h q R U
end Go.Ev
namespace Go.Ev
open Go Go.RowKit
variable [cm]
variable {cx:bJ} {m:Nat->Value} {st st':af} {T:Array Value} {w w':World}
def vL(st:af)(s:ap):af:=match s with
 |.row r=>match look st.rw r with
  |some c=>st.freeze r c
  |none=>st
 |.iter r=>match look st.ae r with
  |some (.mp k v ps)=>st.fP r k v ps
  |_=>st
 |_=>st
def nr(st:af)(b:Nat):af:=match look st.ae b with
 |some (.cells l _)=>l.foldl vL st
 |_=>st
theorem VJ(h:ao cx m st T w)(s:ap):ao cx m (vL st s) T w:=by
 unfold vL
 split
 ·split
  ·rename_i c o;exact h.freeze (be o)
  ·exact h
 ·split
  ·rename_i k v ps o;exact h.fP (be o)
  ·exact h
 ·exact h
theorem JN:∀{l:List ap} {st:af},ao cx m st T w->ao cx m (l.foldl vL st) T w
 |[],_,h=>h
 |s::l,_,h=>JN (l:=l) (VJ h s)
theorem Wi(h:ao cx m st T w)(b:Nat):ao cx m (nr st b) T w:=by
 unfold nr
 split
 ·exact JN h
 ·exact h
theorem JC:∀{bs:List Nat} {st:af},ao cx m st T w->ao cx m (bs.foldl nr st) T w
 |[],_,h=>h
 |b::bs,_,h=>JC (bs:=bs) (Wi h b)
def nP(P:Program)(st:af):List Nat->Option (List ak)
 |[]=>some []
 |b::bs=>match look st.ae b with
  |some (.cells l e)=>match ty P e with
   |some u=>match pack u l,nP P st bs with
    |some (x,[]),some vs=>some (⟨.ptr u,x⟩::vs)
    |_,_=>none
   |none=>none
  |_=>none
theorem Km{P:Program}:∀{bs:List Nat} {l:List ak},nP P st bs=some l->∀u∈l,u.t.agg=false
 |[],_,o=>by cases o;simp
 |b::bs,l,o=>by
  unfold nP at o
  split at o
  ·split at o
   ·split at o
    ·rename_i x vs O q
     cases o
     intro u hu
     rcases List.mem_cons.1 hu with rfl|hu
     ·rfl
     ·exact Km q u hu
    ·cases o
   ·cases o
  ·cases o
theorem Nw{P:Program}(h:ao cx m st T w){M:Nat->Prop}(O:∀b,b<w.heap.size->M b->au cx m st.ids b):∀{bs:List Nat} {l:List ak},(∀b∈bs,∀g,own (m b) g->¬M g)->nP P st bs=some l->eg w M (bs.map m) l
 |[],_,_,o=>by cases o;trivial
 |b::bs,l,R,o=>by
  unfold nP at o
  split at o
  ·rename_i c e Y
   split at o
   ·rename_i u lg
    split at o
    ·rename_i x vs Z q
     cases o
     refine⟨?_,Nw h O (fun b la=>R b (List.mem_cons_of_mem _ la)) q⟩
     obtain⟨g,U,_,cells,lb,lc⟩:=h.box (be Y)
     obtain⟨c1,c2,ld,le,_⟩:=qZ u lc Z
     refine(bC (t:=.ptr u) rfl).2 ⟨⟨g,0,none⟩,c1,by rw[U];rfl,cS (fun _ _ _=>rfl) O u le,fun j v W=>⟨?_,R b List.mem_cons_self g (by rw[U];rfl)⟩⟩
     have q:cells.toList[j]? =some v:=by rw[ld,List.getElem?_append_left (List.getElem?_eq_some_iff.1 W).1];exact W
     have lf:(⟨g,0,none⟩:Addr).add j=⟨g,0+j,none⟩:=by unfold Addr.add;split<;>simp_all
     rw[lf,oL lb]
     simpa using q
    ·cases o
   ·cases o
  ·cases o
theorem L7{P:Program}:∀{bs:List Nat} {l:List ak},nP P st bs=some l->∀b∈bs,b∈st.ids
 |[],_,_=>fun b O=>absurd O List.not_mem_nil
 |b::bs,l,o=>by
  unfold nP at o
  split at o
  ·rename_i c e R
   split at o
   ·split at o
    ·rename_i x vs W U
     intro i q
     rcases List.mem_cons.1 q with rfl|q
     ·exact List.mem_append.2 (.inl (List.mem_map.2 ⟨_,be R,rfl⟩))
     ·exact L7 U i q
    ·cases o
   ·cases o
  ·cases o
def GH(f:Nat)(bs:List Nat):ap->Bool
 |.clos g cs=>Nat.beq g f&&cs==bs
 |_=>false
def Gb(P:Program)(st:af)(d:Nat):Option af:=
 match look st.ab d with
 |some (.clos f bs)=>match nP P (bs.foldl nr st) bs with
  |some l=>some ((bs.foldl nr st).dZ bs [] [] fun s=>bif GH f bs s then .val (.fn f (pairUp l).t) (pairUp l).x else s.ed bs)
  |none=>none
 |_=>none
theorem Zd{P:Program}{d:Nat}(h:ao cx m st T w)(O:Gb P st d=some st'):ao cx m st' T w:=by
 unfold Gb at O
 split at O
 case h_2=>cases O
 rename_i f bs ai
 split at O
 case h_2=>cases O
 rename_i l W
 cases O
 have R:ao cx m (bs.foldl nr st) T w:=JC h
 have X:iH cx m m (bs.foldl nr st) w w bs [] []:={
  same:=(Ext.refl w).toSame,block:=fun _ _ _=>rfl,old:=fun _ _ _=>rfl,new:=fun i o=>by simp at o,apart:=fun i j o=>by simp at o,keys:=List.nodup_nil,
  n9:=fun i o=>by simp at o,nO:=fun _ _ q=>absurd q List.not_mem_nil,fJ:=fun _ _ q=>absurd q List.not_mem_nil}
 refine R.EJ X ?_ (fun _ _ q=>absurd q List.not_mem_nil) (fun _ _ q=>absurd q List.not_mem_nil)
 intro v s U
 cases aJ:GH f bs s with
 |false=>exact oa (fun _ _=>rfl) U
 |true=>
  unfold GH at aJ
  split at aJ
  ·rename_i g cs
   rw[Bool.and_eq_true]at aJ
   have lc:=Nat.eq_of_beq_eq_true aJ.1
   have ld:cs=bs:=eq_of_beq aJ.2
   subst lc
   subst ld
   have U:v=.func (.func g) #[] (cs.map m).toArray:=U
   refine(bC (t:=.fn g (pairUp l).t) rfl).2 ⟨cs.map m,by rw[U],tH (Km W) (Nw R (X.mut) ?_ W)⟩
   intro b q Y Z le
   have la:b∈(cs.foldl nr st).ids:=L7 W b q
   rcases le with lf|⟨i,o,lg⟩
   ·have lh:=R.outer Y lf
    rcases(R.lt la Z).2 with lb|lb
    ·omega
    ·exact lh.2 lb
   ·rcases qn.1 o with o|⟨o,li⟩
    ·simp at o
    ·exact R.apart i b o la (fun e=>li (e▸q)) Y lg Z
  ·cases aJ
end Go.Ev
namespace Go.Ev
open Go Go.RowKit
variable [cm]
abbrev di:=Exit->Act->World->Prop
def W(cx:bJ)[aj cx](Q:di)(c:Code)(st:af):Prop:=∀T w,al cx st T w->c.wp cx.P Q ⟨T,aj.D cx⟩ w
def bU(cx:bJ)[aj cx](ops:Array Oper)(Q:di)(l:List Oper)(st:af):Prop:=∀T w,al cx st T w->wpList cx.P ops Q l ⟨T,aj.D cx⟩ w
def N(cx:bJ)[aj cx](Q:di)(e:Exit)(st:af):Prop:=∀T w,al cx st T w->Q e ⟨T,aj.D cx⟩ w
def eT(ops:Array Oper)(st:af)(aa:Oper):Option Bool:=
 match aa.guard with
 |none=>some true
 |some (j,b)=>match(ops[j]?).bind (·.dst)with
  |some d=>match look st.ab d with
   |some (.val .bool true)=>some b
   |some (.val .bool false)=>some (!b)
   |some .undef=>some false
   |_=>none
  |none=>none
def fU(E:Env)(ops:Array Oper):List Oper->af->List ak->Option (af×List ak×List Prop)
 |[],st,orc=>some (st,orc,[])
 |aa::l,st,orc=>match eT ops st aa with
  |some true=>match nb E st aa orc with
   |some (o,q,ob)=>match fU E ops l o q with
    |some (O,R,U)=>some (O,R,ob++U)
    |none=>none
   |none=>none
  |some false=>match aa.dst with
   |some d=>match Nat.blt d E.n with
    |true=>fU E ops l (st.put d .undef) orc
    |false=>none
   |none=>fU E ops l st orc
  |none=>none
variable {cx:bJ} {st st':af} {T:Array Value} {w:World} {E:Env} {Q:di} {ops:Array Oper} {l:List Oper}
variable [aj cx]
theorem pq:∀{a b:List Prop},bW (a++b)->bW a/\bW b
 |[],_,h=>⟨trivial,h⟩
 |_::_,_,⟨q,o⟩=>⟨⟨q,(pq o).1⟩,(pq o).2⟩
theorem ja(h:al cx st T w){aa:Oper}{b:Bool}(o:eT ops st aa=some b):Region.wanted aa (yielded ops T)=b:=by
 obtain⟨m,Y⟩:=h
 unfold eT at o
 unfold Region.wanted
 split at o
 ·rename_i U
  cases o
  rw[U]
 ·rename_i j W U
  rw[U]
  simp only[]
  split at o
  ·rename_i d ai
   have key:∀s,look st.ab d=some s->∃v,T[d]? =some v/\aX w (au cx m st.ids) m v s:=fun s Z=>Y.de d s (be Z)
   unfold yielded
   rw[ai]
   simp only[Option.bind_some]
   split at o
   ·rename_i q
    obtain⟨v,O,R⟩:=key _ q
    rw[O,dU.1 R]
    cases o
    cases b<;>rfl
   ·rename_i q
    obtain⟨v,O,R⟩:=key _ q
    rw[O,dU.1 R]
    cases o
    cases W<;>rfl
   ·rename_i q
    obtain⟨v,O,R⟩:=key _ q
    have la:v=undef:=R
    rw[O,la]
    cases o
    cases W<;>rfl
   ·cases o
  ·cases o
theorem rT(q:bE E cx):∀{l:List Oper} {st:af} {T:Array Value} {w:World} {orc orc':List ak} {st':af} {ob:List Prop},al cx st T w->fU E ops l st orc=some (st',orc',ob)->bW ob->
  (∀R w',al cx st' R w'->Q .normal ⟨R,aj.D cx⟩ w')->wpList cx.P ops Q l ⟨T,aj.D cx⟩ w
 |[],st,T,w,_,_,_,_,h,o,_,O=>by
  cases o
  exact O T w h
 |aa::l,st,T,w,orc,orc',st',ob,h,o,U,O=>by
  unfold fU at o
  refine wpList_step fun K W=>?_
  split at o
  ·rename_i Y
   rw[ja h Y]
   simp only[if_true]
   split at o
   ·rename_i lh li lj Z
    split at o
    ·rename_i lk ll lm la
     cases o
     obtain⟨lb,lc⟩:=pq U
     exact WQ q h Z lb fun R w' ld=>W _ _ (rT q ld la lc O)
    ·cases o
   ·cases o
  ·rename_i Y
   rw[ja h Y]
   simp only[Bool.false_eq_true,if_false]
   split at o
   ·rename_i d ai
    split at o
    ·rename_i le
     obtain⟨m,lf⟩:=h
     have lg:=lf.put (d:=d) (s:=.undef) (v:=undef) (by rw[q.n];exact dg le) rfl
     refine W _ _ ?_
     rw[ai]
     exact rT q ⟨m,lg⟩ o U O
    ·cases o
   ·rename_i ai
    refine W _ _ ?_
    rw[ai]
    exact rT q h o U O
  ·cases o
theorem tQ{P:Program}{Q:di}:∀{l1 l2:List Oper} {a:Act} {w:World},wpList P ops (Exit.then (wpList P ops Q l2) Q) l1 a w->wpList P ops Q (l1++l2) a w
 |[],l2,a,w,h=>h
 |aa::l1,l2,a,w,h=>by
  simp only[List.cons_append,wpList]at h⊢
  split
  ·rename_i O
   rw[if_pos O]at h
   rcases h with h|⟨R,U⟩
   ·refine .inl ?_
    have o:∀a w,wpList P ops (Exit.then (wpList P ops Q l2) Q) l1 a w->wpList P ops Q (l1++l2) a w:=fun a w=>tQ
    unfold Oper.wp Oper.upon at h⊢
    split at h
    ·exact o _ _ h
    ·exact o _ _ h
    ·exact o _ _ h
    ·refine Calls.mono h ?_
     intro e w' q
     cases e with
     |returned v=>exact o _ _ q
     |panicked c=>exact q
     |outgrown=>exact q
    ·exact Rows.mono h fun v w' q=>o _ _ q
    ·exact h
    ·exact h.elim
   ·exact .inr ⟨R,U⟩
  ·rename_i O
   rw[if_neg O]at h
   exact tQ h
/-! The rules. -/
theorem dV(h:N cx Q .normal st):W cx Q .skip st:=fun T w o=>wp_skip (h T w o)
theorem aM{x y:Code}(h:W cx (Exit.then (y.wp cx.P Q) Q) x st):W cx Q (.seq x y) st:=fun T w o=>wp_seq (h T w o)
theorem gt{id:Nat}{c:Code}(h:W cx (Exit.inBlock id Q) c st):W cx Q (.block id c) st:=fun T w o=>wp_block (h T w o)
theorem mC{id:Nat}(h:N cx Q (.exit id) st):W cx Q (.exit id) st:=fun T w o=>wp_exit (h T w o)
theorem ft(h:N cx Q .ret st):W cx Q .ret st:=fun T w o=>wp_ret (h T w o)
theorem dI{c:Operand}{x y:Code}{b:Bool}(O:aW st c=some (.val .bool b))(R:b=true->W cx Q x st)(U:b=false->W cx Q y st):W cx Q (.cond c x y) st:=fun T w Y=>by
 obtain⟨m,o⟩:=Y
 have q:=dU.1 (bj o O)
 cases b with
 |true=>exact wp_cond_true q (R rfl T w ⟨m,o⟩)
 |false=>exact wp_cond_false q (U rfl T w ⟨m,o⟩)
theorem vz{c:Operand}{x y:Code}(o:aW st c=some (.val .bool true))(q:W cx Q x st):W cx Q (.cond c x y) st:=dI o (fun _=>q) (fun h=>by cases h)
theorem vQ{c:Operand}{x y:Code}(o:aW st c=some (.val .bool false))(q:W cx Q y st):W cx Q (.cond c x y) st:=dI o (fun h=>by cases h) (fun _=>q)
theorem exists_least(p:Nat->Prop):∀n,p n->∃n,p n/\∀m,p m->n<=m:=by
 intro n
 induction n using Nat.strongRecOn with
 |_ n O=>
  intro R
  by_cases h:∃m,m<n/\p m
  ·obtain⟨m,o,U⟩:=h
   exact O m o U
  ·exact⟨n,R,fun m o=>by
    rcases Nat.lt_or_ge m n with q|q
    ·exact absurd ⟨m,q,o⟩ h
    ·exact q⟩
theorem Ac{p:Nat->Prop}(h:∃n,p n):∃n,p n/\∀m,p m->n<=m:=let⟨n,o⟩:=h;exists_least p n o
open Classical in
theorem abi{P:Program}{c:Code}{Q:di}(o:Nat->Act->World->Prop)(step:∀k a w,o k a w->c.wp P (Exit.then (fun q w'=>∃k',k'<k/\o k' q w') Q) a w){k:Nat}{a:Act}{w:World}(h:o k a w):
  (Code.loop c).wp P Q a w:=by
 refine wp_loop (fun a w=>∃k,o k a w) (fun a w=>if h:∃k,o k a w then Classical.choose (Ac h)else 0) ⟨k,h⟩ ?_
 intro a w R
 have Y:=Classical.choose_spec (Ac R)
 refine Code.wp_mono ?_ (step _ a w Y.1)
 intro e q w' U
 cases e with
 |normal=>
  obtain⟨k',Z,O⟩:=U
  refine⟨⟨k',O⟩,?_⟩
  have W:∃k,o k q w':=⟨k',O⟩
  rw[dif_pos R,dif_pos W]
  exact Nat.lt_of_le_of_lt ((Classical.choose_spec (Ac W)).2 k' O) Z
 |_=>exact U
def JP{α:Type}(cx:bJ)[aj cx](F:Nat->α->Prop)(S:α->af)(k:Nat):Act->World->Prop:=fun o w'=>∃k' x',k'<k/\F k' x'/\o.defers=aj.D cx/\al cx (S x') o.tmps w'
theorem nd{α:Type}(F:Nat->α->Prop)(S:α->af){c:Code}(step:∀k x,F k x->W cx (Exit.then (JP cx F S k) Q) c (S x)){k:Nat}{x:α}(h:F k x):W cx Q (.loop c) (S x):=by
 intro T w o
 refine abi (fun k a w=>∃x,F k x/\a.defers=aj.D cx/\al cx (S x) a.tmps w) ?_ ⟨x,h,rfl,o⟩
 rintro k ⟨T,d⟩ w ⟨x,O,ai,o⟩
 simp only at ai o
 subst ai
 refine Code.wp_mono ?_ (step k x O T w o)
 intro e la w' q
 cases e with
 |normal=>obtain⟨k',x',R,U,Y,Z⟩:=q;exact⟨k',R,x',U,Y,Z⟩
 |_=>exact q
theorem ka{α:Type}{F:Nat->α->Prop}{S:α->af}{k k':Nat}(x':α)(o:k'<k)(q:F k' x'):N cx (Exit.then (JP cx F S k) Q) .normal (S x'):=
 fun _ _ O=>⟨k',x',o,q,rfl,O⟩
theorem aN{y:Code}(h:W cx Q y st):N cx (Exit.then (y.wp cx.P Q) Q) .normal st:=h
theorem WE{l:List Oper}(h:bU cx ops Q l st):N cx (Exit.then (wpList cx.P ops Q l) Q) .normal st:=h
theorem gO{K:Act->World->Prop}{id:Nat}(h:N cx Q (.exit id) st):N cx (Exit.then K Q) (.exit id) st:=h
theorem dX{K:Act->World->Prop}(h:N cx Q .ret st):N cx (Exit.then K Q) .ret st:=h
theorem jS{id:Nat}(h:N cx Q .normal st):N cx (Exit.inBlock id Q) .normal st:=h
theorem gK{id:Nat}(h:N cx Q .ret st):N cx (Exit.inBlock id Q) .ret st:=h
theorem mF{id:Nat}(h:N cx Q .normal st):N cx (Exit.inBlock id Q) (.exit id) st:=fun T w o=>by
 show(if id=id then _ else _:Prop)
 rw[if_pos rfl]
 exact h T w o
theorem aa9{id o:Nat}(q:Nat.beq o id=false)(h:N cx Q (.exit o) st):N cx (Exit.inBlock id Q) (.exit o) st:=fun T w O=>by
 show(if o=id then _ else _:Prop)
 rw[if_neg (beq_false q)]
 exact h T w O
theorem aZ{id:Nat}{l:List Oper}(h:bU cx l.toArray Q l st):W cx Q (.region id l.toArray false) st:=fun T w o=>wp_region_lit (h T w o)
theorem Qg(o:bE E cx){orc:List ak}{ob:List Prop}(q:fU E ops l st orc=some (st',[],ob))(O:bW ob)(h:N cx Q .normal st'):bU cx ops Q l st:=
 fun _ _ R=>rT o R q O h
theorem uy(o:bE E cx)(n:Nat){orc:List ak}{ob:List Prop}(q:fU E ops (l.take n) st orc=some (st',[],ob))(O:bW ob)(h:bU cx ops Q (l.drop n) st'):bU cx ops Q l st:=by
 intro T w R
 have:=tQ (P:=cx.P) (ops:=ops) (Q:=Q) (l1:=l.take n) (l2:=l.drop n) (rT o R q O h)
 rwa [List.take_append_drop]at this
theorem kN(h:N cx Q .normal st):bU cx ops Q [] st:=h
theorem al.norm(h:al cx st T w){o bs aq:List Nat}(q:st.norm o bs aq=some st'):al cx st' T w:=let⟨m,O⟩:=h;⟨m,O.norm q⟩
def mA(E:Env)(ops:Array Oper)(l:List Oper)(st:af)(orc:List ak)(o bs aq:List Nat):Option (af×List ak×List Prop):=
 match fU E ops l st orc with
 |some (s,aa,p)=>match s.norm o bs aq with
  |some q=>some (q,aa,p)
  |none=>none
 |none=>none
theorem IP{orc orc':List ak}{ob:List Prop}{o bs aq:List Nat}(h:mA E ops l st orc o bs aq=some (st',orc',ob)):∃s,fU E ops l st orc=some (s,orc',ob)/\s.norm o bs aq=some st':=by
 unfold mA at h
 split at h
 ·rename_i s aa p q
  split at h
  ·rename_i R O
   cases h
   exact⟨s,q,O⟩
  ·cases h
 ·cases h
theorem N.norm{e:Exit}{o bs aq:List Nat}(h:N cx Q e st')(q:st.norm o bs aq=some st'):N cx Q e st:=fun T w O=>h T w (O.norm q)
theorem bU.norm{o bs aq:List Nat}(h:bU cx ops Q l st')(q:st.norm o bs aq=some st'):bU cx ops Q l st:=fun T w O=>h T w (O.norm q)
theorem W.norm{c:Code}{o bs aq:List Nat}(h:W cx Q c st')(q:st.norm o bs aq=some st'):W cx Q c st:=fun T w O=>h T w (O.norm q)
end Go.Ev
namespace Go.Ev
open Go Go.RowKit
variable [cm]
variable {cx:bJ} {m:Nat->Value} {st st':af} {T:Array Value} {w w':World} {P:Program}
variable [aj cx]
theorem Ln{l:List MapEntry}{n:Nat}{e:MapEntry}(o:(l.map (·.born)).Nodup)(h:l[n]? =some e):l.findIdx? (fun x=>(x.born:Int)==(e.born:Int))=some n:=by
 induction l generalizing n with
 |nil=>simp at h
 |cons x l q=>
  rw[List.map_cons,List.nodup_cons]at o
  rw[List.findIdx?_cons]
  cases n with
  |zero=>
   simp at h
   subst h
   simp
  |succ n=>
   simp at h
   have O:((x.born:Int)==(e.born:Int))=false:=by
    rw[beq_eq_false_iff_ne]
    intro R
    exact o.1 (List.mem_map.2 ⟨e,List.mem_of_getElem? h,by omega⟩)
   rw[O,q o.2 h]
   simp
theorem Mf{p:MapEntry->Bool}(es:Array MapEntry):es.findIdx? p=es.toList.findIdx? p:=by
 conv=>lhs;rw[show es=es.toList.toArray from by simp]
 rw[List.findIdx?_toArray]
theorem LQ{α:Type}(f:α->α)(a:α):∀l:List α,(l++[a]).modify l.length f=l++[f a]
 |[]=>rfl
 |x::l=>by
  show x::((l++[a]).modify l.length f)=_
  rw[LQ f a l]
  rfl
theorem I3(kv:Value):∀(es:List MapEntry) (n:Nat),(es.modify n fun e=>{e with key:=kv}).map (·.born)=es.map (·.born)
 |[],n=>by cases n<;>rfl
 |e::es,0=>rfl
 |e::es,n+1=>by
  have:=I3 kv es n
  simp only[List.modify_succ_cons,List.map_cons,this]
theorem SH{mt U lm:TypeId}{d d':Nat}{u v:ah}{M:Nat->Prop}(ln:P.underlying mt=some (.map U lm))(lo:dc P d U=some u)(lp:eD P d' U=true)(ai:d'<=10000)(lq:u.flat=true)
  {z:Value}(lB:∀w,(zeroValue lm).run P w=.ok z w)
  {kv vv:Value}{key:u.el}{val:v.el}(R:bf w M kv u key)(lr:bf w M vv v val){g:Nat}{es:Array MapEntry}{clock:Nat}{ps:List (u.el×v.el)}
  (le:w.heap[g]? =some (.map es clock))(W:∀e∈es.toList,e.born<clock)(Y:(es.toList.map (·.born)).Nodup)(lf:eC (eI w M u) (eI w M v) es.toList ps):
  ∃(Z:Array MapEntry) (ls:Nat) (v0:Value) (s:Int) (lt:World),(Instr.mapEntry mt (.map (some g)) kv).run P w=.ok (.tuple #[v0,.int .i64 s]) lt/\
   (∀o,(Instr.entryStore o (.map (some g)) (.int .i64 s) vv).run P lt=.ok () {w with heap:=w.heap.setIfInBounds g (.map Z ls)})/\
   (∀e∈Z.toList,e.born<ls)/\(Z.toList.map (·.born)).Nodup/\eC (eI w M u) (eI w M v) Z.toList (cn (aR u) ps key val):=by
 have lu:=ql (P:=P) false d U u lo d' lp 10000 ai w w M kv key R
 have la:=vn lo lp ai R w lf
 have lv:=gB le
 have lw:(getObj g).run P w=.ok (.map es clock) w:=by simp[getObj,Sem.run,le]
 have lx:∀aa,(setObj g aa).run P w=.ok () {w with heap:=w.heap.setIfInBounds g aa}:=fun aa=>by simp[setObj,Sem.run,le]
 have store:∀(q:Array MapEntry) (O:Nat) (s:Int) (n:Nat),q.findIdx? (fun e=>(e.born:Int)==s)=some n->∀o,
   (Instr.entryStore o (.map (some g)) (.int .i64 s) vv).run P {w with heap:=w.heap.setIfInBounds g (.map q O)}=.ok () {w with heap:=w.heap.setIfInBounds g (.map (q.modify n fun e=>{e with val:=vv}) O)}:=by
  intro q O s n lC o
  have lb:(getObj g).run P {w with heap:=w.heap.setIfInBounds g (.map q O)}=.ok (.map q O) {w with heap:=w.heap.setIfInBounds g (.map q O)}:=by
   simp[getObj,Sem.run,Array.getElem?_setIfInBounds_self_of_lt lv]
  have lD:∀aa,(setObj g aa).run P {w with heap:=w.heap.setIfInBounds g (.map q O)}=.ok () {w with heap:=w.heap.setIfInBounds g aa}:=fun aa=>by
   simp[setObj,Sem.run,Array.getElem?_setIfInBounds_self_of_lt lv,Array.setIfInBounds_setIfInBounds]
  unfold Instr.entryStore
  simp only[Sem.run_bind,Result.andThen_ok,lb,asInt,asIntOf,Sem.run_pure,lC,lD]
 rcases vE (kv:=kv) (vv:=vv) (val:=val) (eq:=aR u) (key:=key) R lr es.toList ps 0 lf with ⟨lg,lc⟩|⟨n,e,lE,lg,lc,lF,lG,lH⟩
 ·rw[lg]at la
  have lh:(es.push {key:=kv,val:=z,born:=clock}).findIdx? (fun e=>(e.born:Int)==((clock:Nat):Int))=some es.size:=by
   rw[Mf]
   refine Ln (e:={key:=kv,val:=z,born:=clock}) ?_ (by simp)
   rw[Array.toList_push,List.map_append,List.nodup_append]
   refine⟨Y,by simp,?_⟩
   intro a li b lj lI
   simp at lj
   obtain⟨e,he,rfl⟩:=List.mem_map.1 li
   have:=W e he
   omega
  have lk:(es.push {key:=kv,val:=z,born:=clock}).modify es.size (fun e=>{e with val:=vv})=es.push {key:=kv,val:=vv,born:=clock}:=by
   apply Array.ext'
   rw[Array.toList_modify,Array.toList_push,Array.toList_push,<-Array.length_toList,LQ]
  refine⟨es.push {key:=kv,val:=vv,born:=clock},clock+1,z,clock,_,?_,fun o=>by rw[store _ _ _ _ lh o,lk],?_,?_,?_⟩
  ·unfold Instr.mapEntry
   simp only[Sem.run_bind,run_underlying ln,Result.andThen_ok,lw,lu,la,lx,lB,Sem.run_pure]
   rfl
  ·intro e he
   rw[Array.toList_push]at he
   rcases List.mem_append.1 he with he|he
   ·exact Nat.lt_succ_of_lt (W e he)
   ·simp at he;subst he;exact Nat.lt_succ_self _
  ·rw[Array.toList_push,List.map_append,List.nodup_append]
   refine⟨Y,by simp,?_⟩
   intro a li b lj lI
   simp at lj
   obtain⟨e,he,rfl⟩:=List.mem_map.1 li
   have:=W e he
   omega
  ·rw[Array.toList_push,lc]
   exact yw lf ⟨R,lr,trivial⟩
 ·rw[lg,Nat.zero_add]at la
  have lJ:key=lE:=HH u lG
  subst lJ
  have lK:e.key=kv:=nv lq lF R
  have ly:es[n]? =some e:=by rw[<-Array.getElem?_toList];exact lc
  have lL:((es[n]?).map (·.key)).getD kv=kv:=by rw[ly];simp[lK]
  have lM:((es[n]?).map (fun x=>(x.born:Int))).getD 0=e.born:=by rw[ly];rfl
  have lN:∀ll,(Instr.keyThatStays kv kv).run P ll=.ok kv ll:=fun ll=>by
   unfold Instr.keyThatStays
   rw[if_pos (Fq lq R)]
   rfl
  have lz:(es.modify n fun e=>{e with key:=kv}).toList=es.toList.modify n fun e=>{e with key:=kv}:=by simp
  have ld:(es.modify n fun e=>{e with key:=kv,val:=vv}).toList=es.toList.modify n fun e=>{e with key:=kv,val:=vv}:=by simp
  have lO:(es.toList.modify n fun e=>{e with key:=kv}).map (·.born)=es.toList.map (·.born):=by
   exact I3 kv es.toList n
  have lh:(es.modify n fun e=>{e with key:=kv}).findIdx? (fun x=>(x.born:Int)==(e.born:Int))=some n:=by
   rw[Mf,lz]
   refine Ln (e:={e with key:=kv}) (by rw[lO];exact Y) ?_
   rw[List.getElem?_modify_eq,lc]
   rfl
  have lk:(es.modify n fun e=>{e with key:=kv}).modify n (fun e=>{e with val:=vv})=es.modify n fun e=>{e with key:=kv,val:=vv}:=by
   apply Array.ext'
   rw[Array.toList_modify,lz,ld,List.modify_modify_eq]
   rfl
  refine⟨es.modify n fun e=>{e with key:=kv,val:=vv},clock,e.val,e.born,_,?_,fun o=>by rw[store _ _ _ _ lh o,lk],?_,?_,?_⟩
  ·unfold Instr.mapEntry
   simp only[Sem.run_bind,run_underlying ln,Result.andThen_ok,lw,lu,la,lL,lN,lx,Sem.run_pure,lM]
   rfl
  ·intro x lA
   rw[ld]at lA
   have lb:x.born∈(es.toList.modify n fun e=>{e with key:=kv,val:=vv}).map (·.born):=List.mem_map.2 ⟨x,lA,rfl⟩
   rw[s9]at lb
   obtain⟨y,lP,e⟩:=List.mem_map.1 lb
   rw[<-e];exact W y lP
  ·rw[ld,s9];exact Y
  ·rw[ld];exact lH
def fD(x:Operand)(d:Nat):Bool:=match x with
 |.tmp t=>!(Nat.beq t d)
 |_=>true
theorem jH{x:Operand}{d:Nat}{v:Value}(h:fD x d=true):Act.eval ⟨T.setIfInBounds d v,aj.D cx⟩ x=Act.eval ⟨T,aj.D cx⟩ x:=by
 cases x with
 |tmp t=>
  have o:t≠d:=by
   intro e
   subst e
   simp[fD]at h
  show(T.setIfInBounds d v).getD t undef=T.getD t undef
  rw[Array.getD_eq_getD_getElem?,Array.getD_eq_getD_getElem?,Array.getElem?_setIfInBounds_ne (fun e=>o e.symm)]
 |_=>rfl
theorem eval_put{d:Nat}{v:Value}(h:d<T.size):Act.eval ⟨T.setIfInBounds d v,aj.D cx⟩ (.tmp d)=v:=by
 show(T.setIfInBounds d v).getD d undef=v
 rw[Array.getD_eq_getD_getElem?,Array.getElem?_setIfInBounds_self_of_lt h]
 rfl
def wT(P:Program)(st:af)(t:TypeId)(x k v:Operand):Option af:=
 match P.underlying t with
 |some (.map _ o)=>match zeroOf P o with
  |some _=>tU P st t x k v
  |none=>none
 |_=>none
theorem Ja(h:ao cx m st T w){t:TypeId}{x k v:Operand}{st':af}(o:wT cx.P st t x k v=some st'):
  ∃v0 s O w',(Instr.mapEntry t (Act.eval ⟨T,aj.D cx⟩ x) (Act.eval ⟨T,aj.D cx⟩ k)).run cx.P w=.ok (.tuple #[v0,.int .i64 s]) O/\
   (∀lg,(Instr.entryStore lg (Act.eval ⟨T,aj.D cx⟩ x) (.int .i64 s) (Act.eval ⟨T,aj.D cx⟩ v)).run cx.P O=.ok () w')/\ao cx m st' T w':=by
 unfold wT at o
 split at o
 case h_2=>cases o
 rename_i lK lh U
 split at o
 case h_2=>cases o
 rename_i lL li
 obtain⟨lM,lj,_,lk,_,ll,_⟩:=kq li
 unfold tU at o
 split at o
 ·rename_i b lN lO lP lQ lm W ln lo
  rw[U]at W
  cases W
  split at o
  ·rename_i lR lS ps Y lp lq lr lT
   split at o
   ·rename_i y z ls lt Z
    cases o
    simp only[Bool.and_eq_true]at Z
    obtain⟨⟨⟨lu,lv⟩,lw⟩,lx⟩:=Z
    obtain rfl:=ah.eq_of_beq lu
    obtain rfl:=ah.eq_of_beq lv
    have ly:=ak.dx ls
    subst ly
    have lz:=ak.dx lt
    subst lz
    have R:=be lq
    obtain⟨g,q,_,es,lU,la,lA,lB,lC⟩:=h.box R
    have q:m b=.map (some g):=q
    have lD:Act.eval ⟨T,aj.D cx⟩ x=.map (some g):=by have:Act.eval ⟨T,aj.D cx⟩ x=m b:=bj h lm;rw[this,q]
    have lE:∀w',(zeroValue lh).run cx.P w'=.ok lj w':=fun w'=>by simp[zeroValue,typeInfo,lk,ll]
    obtain⟨lb,lc,v0,s,O,lF,lG,lH,cy,dY⟩:=SH (d:=jn) (d':=16) U lr lx (by decide) lw lE (dt h ln) (dt h lo) la lA lB lC
    have ld:Touch m w b {w with heap:=w.heap.setIfInBounds g (.map lb lc)}:=
     ⟨⟨rfl,rfl,rfl,by simp,fun _=>Nat.le_refl _⟩,fun k _ lI=>by
      show(w.heap.setIfInBounds g _)[k]? =_
      rw[Array.getElem?_setIfInBounds_ne]
      intro e
      exact lI (by rw[q,e];rfl)⟩
    rw[lD]
    refine⟨v0,s,O,_,lF,lG,h.dr R ld (g:=g) q ?_⟩
    have lJ:b∈st.ids:=List.mem_append.2 (.inl (List.mem_map.2 ⟨_,R,rfl⟩))
    obtain⟨le,lf⟩:=ao.ia (cx:=cx) lJ ld (ids:=(st.dr b (.mp Y lp (cn (aR Y) ps y z))).ids) (k7 R h.keys _).1
    refine⟨lb,lc,?_,lH,cy,io (fun _ _ h=>dC le lf h) (fun _ _ h=>dC le lf h) dY⟩
    show(w.heap.setIfInBounds g _)[g]? =_
    rw[Array.getElem?_setIfInBounds_self_of_lt (gB la)]
   ·cases o
  ·cases o
 ·cases o
def zq(E:Env)(st:af):List Oper->Option (af×List Oper)
 |q::ba::eN::l=>match q.guard,ba.guard,eN.guard,q.dst,ba.dst,eN.dst with
  |none,none,none,some d1,some d2,none=>match q.op,ba.op,eN.op with
   |.mapEntry t (.tmp o) k,.extract (.tmp a) i,.entryStore _ (.tmp O) (.tmp c) v=>
    match Nat.beq a d1&&(Nat.beq i 1&&(Nat.beq c d2&&(Nat.beq o O&&(fD (.tmp o) d1&&(fD (.tmp o) d2&&(fD v d1&&(fD v d2&&(Nat.blt d1 E.n&&Nat.blt d2 E.n))))))))with
    |true=>match wT E.P st t (.tmp o) k v with
     |some R=>some ((R.put d1 .any).put d2 .any,l)
     |none=>none
    |false=>none
   |_,_,_=>none
  |_,_,_,_,_,_=>none
 |_=>none
theorem Z5{E:Env}(O:bE E cx){Q:di}{ops:Array Oper}{l la:List Oper}(o:zq E st l=some (st',la))(h:bU cx ops Q la st'):bU cx ops Q l st:=by
 unfold zq at o
 split at o
 case h_2=>cases o
 rename_i lh ba eN l
 split at o
 case h_2=>cases o
 rename_i d1 d2 g1 g2 g3 li lj lk
 split at o
 case h_2=>cases o
 rename_i t lb k a i t2 lF c v ll lm ln
 split at o
 case h_2=>cases o
 rename_i lc
 simp only[Bool.and_eq_true]at lc
 obtain⟨R,U,W,Y,lo,lp,lq,lr,ls,lt⟩:=lc
 have R:=Nat.eq_of_beq_eq_true R
 have U:=Nat.eq_of_beq_eq_true U
 have W:=Nat.eq_of_beq_eq_true W
 have Y:=Nat.eq_of_beq_eq_true Y
 subst R
 subst U
 subst W
 subst Y
 split at o
 case h_2=>cases o
 rename_i lG ld
 cases o
 intro T w ⟨m,Z⟩
 rw[<-O.P]at ld
 obtain⟨v0,s,q,w',lu,cy,lv⟩:=Ja Z ld
 have le:a<cx.n:=by rw[O.n];exact dg ls
 have lf:c<cx.n:=by rw[O.n];exact dg lt
 have lw:a<T.size:=by rw[Z.size];exact le
 refine wpList_step fun K lx=>?_
 rw[show Region.wanted lh (yielded ops T)=true from by unfold Region.wanted;rw[g1]]
 simp only[if_true]
 refine gY (w':=q) (v:=.tuple #[v0,.int .i64 s]) (cF (by simp only[execOp,ll]) lu) ?_
 refine lx _ _ ?_
 rw[li]
 refine wpList_step fun lH ly=>?_
 rw[show∀y,Region.wanted ba y=true from fun y=>by unfold Region.wanted;rw[g2]]
 simp only[if_true]
 have lz:Act.eval ⟨T.setIfInBounds a (.tuple #[v0,.int .i64 s]),aj.D cx⟩ (.tmp a)=.tuple #[v0,.int .i64 s]:=eval_put lw
 refine gY (w':=q) (v:=.int .i64 s) (by simp[execOp,lm,lz,Instr.extract]) ?_
 refine ly _ _ ?_
 rw[lj]
 refine wpList_step fun lg lA=>?_
 rw[show∀y,Region.wanted eN y=true from fun y=>by unfold Region.wanted;rw[g3]]
 simp only[if_true]
 have lB:Act.eval ⟨(T.setIfInBounds a (.tuple #[v0,.int .i64 s])).setIfInBounds c (.int .i64 s),aj.D cx⟩ (.tmp c)=.int .i64 s:=eval_put (by rw[Array.size_setIfInBounds,Z.size];exact lf)
 have lC:Act.eval ⟨(T.setIfInBounds a (.tuple #[v0,.int .i64 s])).setIfInBounds c (.int .i64 s),aj.D cx⟩ (.tmp lb)=Act.eval ⟨T,aj.D cx⟩ (.tmp lb):=(jH lp).trans (jH lo)
 have lD:Act.eval ⟨(T.setIfInBounds a (.tuple #[v0,.int .i64 s])).setIfInBounds c (.int .i64 s),aj.D cx⟩ v=Act.eval ⟨T,aj.D cx⟩ v:=(jH lr).trans (jH lq)
 have lE:(execOp (Act.eval ⟨(T.setIfInBounds a (.tuple #[v0,.int .i64 s])).setIfInBounds c (.int .i64 s),aj.D cx⟩) eN).run cx.P q=.ok .skip w':=by
  simp only[execOp,ln,Sem.run_bind,lB,lC,lD,cy,Result.andThen_ok,Sem.run_pure]
 show eN.wp cx.P ⟨(T.setIfInBounds a (.tuple #[v0,.int .i64 s])).setIfInBounds c (.int .i64 s),aj.D cx⟩ q lg _
 unfold Oper.wp
 rw[lE]
 show lg (Act.put ⟨(T.setIfInBounds a (.tuple #[v0,.int .i64 s])).setIfInBounds c (.int .i64 s),aj.D cx⟩ eN.dst undef) w'
 rw[lk]
 exact lA _ _ (h _ _ ⟨m,(lv.put le (s:=.any) trivial).put lf (s:=.any) trivial⟩)
end Go.Ev
namespace Go.Ev
open Go Go.RowKit
variable [cm]
variable {cx:bJ} {m:Nat->Value} {st st':af} {T:Array Value} {w w':World} {E:Env} {Q:di}
variable [aj cx]
def KX:ak->ap
 |⟨.ptr t,x⟩=>.vptr t x
 |⟨t,x⟩=>.val t x
theorem Tg{M:Nat->Prop}{m:Nat->Value}{v:Value}{u:ak}(h:bf w M v u.t u.x):aX w M m v (KX u):=by
 obtain⟨t,x⟩:=u
 cases t with
 |ptr t=>
  obtain⟨a,cells,e,r⟩:=(bC (t:=.ptr t) rfl).1 h
  simp only[List.cons.injEq,and_true]at e
  exact⟨a,cells,e,r⟩
 |_=>exact h
def mG:Nat->List ak->List (Nat×ap)
 |_,[]=>[]
 |k,u::us=>(k,KX u)::mG (k+1) us
theorem Mt{M:Nat->Prop}:∀{vs:List Value} {l:List ak},eg w M vs l->vs.length=l.length
 |[],[],_=>rfl
 |[],_::_,h=>h.elim
 |_::_,[],h=>h.elim
 |_::_,_::_,⟨_,h⟩=>by simp[Mt h]
theorem Oy{M:Nat->Prop}{m:Nat->Value}:∀{vs:List Value} {q:List ak} (k:Nat) {T:Array Value},eg w M vs q->(∀i v,vs[i]? =some v->T[k+i]? =some v)->
  ∀i aU,(i,aU)∈mG k q->∃v,T[i]? =some v/\aX w M m v aU
 |[],[],k,T,_,_,i,aU,o=>by simp[mG]at o
 |[],_::_,_,_,h,_,_,_,_=>h.elim
 |_::_,[],_,_,h,_,_,_,_=>h.elim
 |v::vs,a::q,k,T,⟨R,U⟩,O,i,aU,o=>by
  rcases List.mem_cons.1 o with o|o
  ·cases o
   exact⟨v,by have:=O 0 v rfl;simpa using this,Tg R⟩
  ·exact Oy (k+1) U (fun j u W=>by have:=O (j+1) u (by simpa using W);rw[<-this];congr 1;omega) i aU o
theorem entry{P:Program}{n:Nat}{M:Nat->Prop}{vs:List Value}{O:List ak}(U:∀b,M b->b<w.heap.size)(R:eg w M vs O)(lc:O.length<=n):
  al ⟨P,n,w,M,fun _=>False,fun _=>undef⟩ ⟨mG 0 O,[],[]⟩ (vs.toArray++Array.replicate (n-vs.toArray.size) undef) w:=by
 have ld:=Mt R
 refine⟨fun _=>undef,?_⟩
 have W:∀b,au ⟨P,n,w,M,fun _=>False,fun _=>undef⟩ (fun _=>undef) (af.ids ⟨mG 0 O,[],[]⟩) b->M b:=by
  rintro b (h|⟨i,q,_⟩)
  ·exact h
  ·simp[af.ids]at q
 refine{size:=?_,frame:=Frame.refl _ _,outer:=fun b o=>⟨U b o,fun h=>h⟩,kept:=(fun r c Y=>absurd Y List.not_mem_nil),de:=?_,boxes:=fun b c o=>by simp at o,rows:=fun b c o=>by simp at o,apart:=fun i j q=>by simp[af.ids]at q,keys:=by simp[af.ids],fixed:=fun b c o=>by simp at o}
 ·show(vs.toArray++Array.replicate (n-vs.toArray.size) undef).size=n
  simp only[Array.size_append,List.size_toArray,Array.size_replicate]
  omega
 ·have Z:=Oy (m:=fun _=>undef) (T:=vs.toArray++Array.replicate (n-vs.toArray.size) undef) 0 R (fun i v q=>by
   rw[Nat.zero_add,Array.getElem?_append_left (by have:=(List.getElem?_eq_some_iff.1 q).1;simpa using this)]
   simpa using q)
  intro i aU q
  obtain⟨v,la,lb⟩:=Z i aU q
  exact⟨v,la,fG (fun _ _ _=>rfl) (fun b _ o=>W b o) lb⟩
def F1:List (Nat×cV)->af->af
 |[],st=>st
 |(r,c)::l,st=>F1 l (match look st.rw r with|some c'=>st.freeze r c'|none=>st)
def EZ:List (Nat×b7)->af->af
 |[],st=>st
 |(r,_)::l,st=>EZ l (match look st.ae r with|some (.mp k v ps)=>st.fP r k v ps|_=>st)
theorem Fk:∀{l:List (Nat×b7)} {st:af},ao cx m st T w->ao cx m (EZ l st) T w
 |[],_,h=>h
 |(r,c)::l,st,h=>by
  refine Fk (l:=l) ?_
  split
  ·rename_i k v ps o;exact h.fP (be o)
  ·exact h
def kI(st:af):af:=DN st.ae (EZ st.ae (F1 st.rw st))
theorem DW:∀{l:List (Nat×cV)} {st:af},ao cx m st T w->ao cx m (F1 l st) T w
 |[],_,h=>h
 |(r,c)::l,st,h=>by
  refine DW (l:=l) ?_
  split
  ·rename_i c' o;exact h.freeze (be o)
  ·exact h
def qk:ah->List ap->Option (ak×List ap)
 |.cO,l=>match l with
  |.val t x::r=>match t.agg with
   |false=>some (⟨t,x⟩,r)
   |true=>none
  |_=>none
 |.unit,l=>some (⟨.unit,()⟩,l)
 |.pair a b,l=>match qk a l with
  |some (o,r)=>match qk b r with
   |some (q,O)=>some (⟨.pair o.t q.t,(o.x,q.x)⟩,O)
   |none=>none
  |none=>none
 |t,l=>match pack t l with
  |some (x,r)=>some (⟨t,x⟩,r)
  |none=>none
theorem YW{M:Nat->Prop}:∀(t:ah) {cs:List Value} {c r:List ap} {v:ak},cJ w M m cs c->qk t c=some (v,r)->∃c1 c2,cs=c1++c2/\aL w M v.t c1 v.x/\v.t.cells=t.cells/\v.t.agg=t.agg/\cJ w M m c2 r:=by
 intro t
 have W:∀(t:ah) {cs:List Value} {c r:List ap} {v:ak},cJ w M m cs c->(match pack t c with
   |some (x,r)=>some ((⟨t,x⟩:ak),r)
   |none=>none)=some (v,r)->∃c1 c2,cs=c1++c2/\aL w M v.t c1 v.x/\v.t.cells=t.cells/\v.t.agg=t.agg/\cJ w M m c2 r:=by
  intro t cs c r v o h
  split at h
  ·rename_i x Y Z
   cases h
   obtain⟨c1,c2,e,q,O⟩:=qZ t o Z
   exact⟨c1,c2,e,q,rfl,rfl,O⟩
  ·cases h
 induction t with
 |cO=>
  intro cs c r v o h
  unfold qk at h
  split at h
  ·rename_i t x Y
   split at h
   ·rename_i R
    cases h
    match cs,o with
    |v0::vs,⟨q,O⟩=>
     have U:=(bC R).1 (show bf w M v0 t x from q)
     exact⟨[v0],vs,rfl,U,(cu t U).symm,R,O⟩
    |[],o=>exact o.elim
   ·cases h
  ·cases h
 |unit=>intro cs c r v o h;cases h;exact⟨[],cs,rfl,rfl,rfl,rfl,o⟩
 |pair a b la lb=>
  intro cs c r v o h
  unfold qk at h
  split at h
  ·rename_i lg lh q
   split at h
   ·rename_i li cy O
    cases h
    obtain⟨c1,c2,rfl,lc,ld,_,le⟩:=la o q
    obtain⟨d1,d2,rfl,l1,l2,_,lf⟩:=lb le O
    exact⟨c1++d1,d2,by simp,⟨c1,d1,rfl,lc,l1⟩,by simp only[ah.cells,ld,l2],rfl,lf⟩
   ·cases h
  ·cases h
 |_=>intro cs c r v o h;exact W _ o h
def iD(P:Program)(st:af):List ResultVar->Option (List ak)
 |[]=>some []
 |.tmp t::l=>match look st.ab t,iD P st l with
  |some (.val u x),some vs=>some (⟨u,x⟩::vs)
  |_,_=>none
 |.cell a ty'::l=>match look st.ab a,ty P ty',iD P st l with
  |some (.ptr b off),some u,some vs=>match look st.ae b with
   |some (.cells c _)=>match pack u (c.drop off)with
    |some (x,_)=>some (⟨u,x⟩::vs)
    |none=>match qk u (c.drop off)with
     |some (v,_)=>some (v::vs)
     |none=>none
   |_=>none
  |some (.dP b []),some u,some vs=>match look st.ae b with
   |some (.aY t x _)=>match ak.as ⟨t,x⟩ u,Nat.beq u.cells 0 with
    |some y,false=>some (⟨u,y⟩::vs)
    |_,_=>none
   |_=>none
  |_,_,_=>none
def iZ(T:Array Value):ResultVar->Sem Value
 |.tmp t=>pure (T.getD t undef)
 |.cell a t=>do loadVar t (<-asAddr (T.getD a undef))
theorem tA(h:ao cx m st T w):∀{l:List ResultVar} {aq:List ak},iD cx.P st l=some aq->
  ∃vs,(l.mapM (iZ T)).run cx.P w=.ok vs w/\eg w (au cx m st.ids) vs aq
 |[],_,o=>by cases o;exact⟨[],by simp,trivial⟩
 |.tmp t::l,aq,o=>by
  simp only[iD]at o
  split at o
  ·rename_i u x R U W
   cases o
   obtain⟨vs,O,Y⟩:=tA h W
   obtain⟨v,Z,lu⟩:=h.de t _ (be U)
   refine⟨v::vs,?_,lu,Y⟩
   have lv:T.getD t undef=v:=by rw[Array.getD_eq_getD_getElem?,Z];rfl
   have lf:(iZ T (.tmp t)).run cx.P w=.ok v w:=by show Sem.run cx.P (pure (T.getD t undef)) w=_;rw[lv,Sem.run_pure]
   rw[List.mapM_cons,Sem.run_bind,lf]
   simp only[Result.andThen_ok,Sem.run_bind,O,Sem.run_pure]
  ·cases o
 |.cell a t::l,aq,o=>by
  simp only[iD]at o
  have fin:∀(b off:Nat) (u:ah) (R:List ak) (c:List ap) (e:Nat),look st.ab a=some (.ptr b off)->ty cx.P t=some u->iD cx.P st l=some R->look st.ae b=some (.cells c e)->∀v':ak,
    (∀cs,cJ w (au cx m st.ids) m cs (c.drop off)->∃c1 c2,cs=c1++c2/\aL w (au cx m st.ids) v'.t c1 v'.x/\v'.t.cells=u.cells/\v'.t.agg=u.agg)->
    ∃vs,((ResultVar.cell a t::l).mapM (iZ T)).run cx.P w=.ok vs w/\eg w (au cx m st.ids) vs (v'::R):=by
   intro b off u R c e U la W lb v' lw
   obtain⟨vs,O,Y⟩:=tA h W
   obtain⟨v0,Z,g,lj,lk⟩:=h.de a _ (be U)
   obtain⟨lg,lh,_,cells,ll,lc⟩:=h.box (be lb)
   have:lg=g:=by rw[lj]at lh;cases lh;rfl
   subst this
   obtain⟨_,ai⟩:=jm (w:=w) (m:=m) off lc
   obtain⟨c1,c2,lx,lm,ly,ls⟩:=lw _ ai
   have ld:u.agg=false->0<u.cells:=by
    intro le
    have ln:=dw la
    cases u<;>first|(simp[ah.cells];done)|(simp[ah.agg]at le)|(obtain⟨_,_,_,ln⟩:=ln;exact ln.elim)
   obtain⟨v,lo,q⟩:=jY (c:=c1) la ll (fun j v li=>by
    have:(cells.toList.drop off)[j]? =some v:=by rw[lx,List.getElem?_append_left (List.getElem?_eq_some_iff.1 li).1];exact li
    rw[List.getElem?_drop]at this
    simpa using this) ((cu v'.t lm).trans ly) ld
   have lp:bf w (au cx m st.ids) v v'.t v'.x:=by
    cases le:u.agg with
    |true=>rw[le,if_pos rfl]at q;exact(eG (ls.trans le)).2 ⟨c1,q,lm⟩
    |false=>rw[le]at q;simp at q;subst q;exact(bC (ls.trans le)).2 lm
   refine⟨v::vs,?_,lp,Y⟩
   have lq:T.getD a undef=.pointer (some ⟨lg,off,none⟩):=by rw[Array.getD_eq_getD_getElem?,Z,lk];rfl
   have lf:(iZ T (.cell a t)).run cx.P w=.ok v w:=by
    show Sem.run cx.P (do loadVar t (<-asAddr (T.getD a undef))) w=_
    rw[Sem.run_bind,lq]
    exact lo w (Ext.refl w)
   rw[List.mapM_cons,Sem.run_bind,lf]
   simp only[Result.andThen_ok,Sem.run_bind,O,Sem.run_pure]
  split at o
  ·rename_i b off u R U la W
   split at o
   ·rename_i c lt lb
    split at o
    ·rename_i x r lr
     cases o
     exact fin b off u R c lt U la W lb ⟨u,x⟩ fun cs ai=>by
      obtain⟨c1,c2,e,O,_⟩:=qZ u ai lr
      exact⟨c1,c2,e,O,rfl,rfl⟩
    ·split at o
     ·rename_i v r lr
      cases o
      exact fin b off u R c lt U la W lb v fun cs ai=>by
       obtain⟨c1,c2,e,O,Y,Z,_⟩:=YW u ai lr
       exact⟨c1,c2,e,O,Y,Z⟩
     ·cases o
   ·cases o
  ·rename_i b u R U la W
   split at o
   ·rename_i lD x e lb
    split at o
    ·rename_i y lz lA
     cases o
     have lB:=ak.dx lz
     cases lB
     obtain⟨vs,O,Y⟩:=tA h W
     obtain⟨v0,Z,g,lj,lk⟩:=h.de a _ (be U)
     obtain⟨lg,lh,_,cells,ll,lc⟩:=h.box (be lb)
     have:lg=g:=by rw[lj]at lh;cases lh;rfl
     subst this
     have lC:0<u.cells:=Nat.pos_of_ne_zero (beq_false lA)
     obtain⟨v,lo,q⟩:=jY (off:=0) (c:=cells.toList) la ll (fun j v li=>by rw[Nat.zero_add,<-Array.getElem?_toList];exact li) (cu u lc) (fun _=>lC)
     have lp:bf w (au cx m st.ids) v u y:=by
      cases ld:u.agg with
      |true=>rw[ld,if_pos rfl]at q;exact(eG ld).2 ⟨_,q,lc⟩
      |false=>rw[ld]at q;simp only[Bool.false_eq_true,if_false]at q;rw[q]at lc;exact(bC ld).2 lc
     refine⟨v::vs,?_,lp,Y⟩
     have lq:T.getD a undef=.pointer (some ⟨lg,0,none⟩):=by rw[Array.getD_eq_getD_getElem?,Z,lk];rfl
     have lf:(iZ T (.cell a t)).run cx.P w=.ok v w:=by
      show Sem.run cx.P (do loadVar t (<-asAddr (T.getD a undef))) w=_
      rw[Sem.run_bind,lq]
      exact lo w (Ext.refl w)
     rw[List.mapM_cons,Sem.run_bind,lf]
     simp only[Result.andThen_ok,Sem.run_bind,O,Sem.run_pure]
    ·cases o
   ·cases o
  ·cases o
theorem H1{P:Program}{fn:Func}{T:Array Value}{vs:List Value}(h:(fn.results.toList.mapM (iZ T)).run P w=.ok vs w):
  (results fn T).run P w=.ok (if h:vs.toArray.size=1 then vs.toArray[0]else .tuple vs.toArray) w:=by
 show Sem.run P (do let vs<-fn.results.mapM (iZ T);pure (if h:vs.size=1 then vs[0]else .tuple vs)) w=_
 rw[Array.mapM_eq_mapM_toList,Sem.run_bind]
 have e:(Functor.map List.toArray (fn.results.toList.mapM (iZ T))).run P w=.ok vs.toArray w:=by
  rw[map_eq_pure_bind,Sem.run_bind,h]
  rfl
 rw[e]
 rfl
def tM(P:Program)(fn:Func)(M:Nat->Prop)(w0:World)(aq:List ak):di:=
 bodyPost P fn fun e w'=>∃v,e=.returned v/\kQ w' M v aq/\Ext w0 w'
theorem xP{P:Program}{n:Nat}{M:Nat->Prop}{w0:World}{fn:Func}{aq:List ak}{e:Exit}{m0:Nat->Value}(O:e=.ret\/e=.normal)(R:iD P (kI st) fn.results.toList=some aq):
  N ⟨P,n,w0,M,fun _=>False,m0⟩ (tM P fn M w0 aq) e st:=by
 rintro T w ⟨m,o⟩
 have U:=Dm (l:=st.ae) (Fk (l:=st.ae) (DW (l:=st.rw) o))
 obtain⟨vs,W,Y⟩:=tA U R
 have Z:=H1 W
 have la:Ext w0 w:={os:=o.frame.os,tape:=o.frame.tape,output:=o.frame.output,size:=o.frame.size,drawn:=o.frame.drawn,block:=fun b q=>o.frame.block b q (fun h=>h)}
 have lb:eg w M vs aq:=qP (fun _ _ _=>rfl) (fun b _ q=>.inl q) Y
 have lc:kQ w M (if h:vs.toArray.size=1 then vs.toArray[0]else .tuple vs.toArray) aq:=by
  match vs,aq,lb with
  |[],[],_=>trivial
  |[v],[u],⟨h,_⟩=>exact h
  |v1::v2::vs,le::lf::us,h=>
   have ld:¬(v1::v2::vs).toArray.size=1:=by simp
   rw[dif_neg ld]
   exact⟨_,rfl,h⟩
  |[],_::_,h=>exact h.elim
  |_::_,[],h=>exact h.elim
  |[_],_::_::_,⟨_,h⟩=>exact h.elim
  |_::_::_,[_],⟨_,h⟩=>exact h.elim
 rcases O with rfl|rfl<;>exact⟨rfl,_,Z,_,rfl,lc,la⟩
theorem enters_of{P:Program}{f:FuncId}{fn:Func}{c:Code}(o:P.funcs[f]? =some fn)(q:(fn.name== "runtime.NumGoroutine")=false)(O:fn.body=some c):
  ∀args w,(callFunc f args).run P w=.ok (.enter f args) w:=by
 intro args w
 have R:fn.name≠ "runtime.NumGoroutine" :=by simpa using q
 simp[callFunc,o,R,O,mark]
theorem By{P:Program}{G:World->Prop}(U:∀w w',Frame w w' (fun _=>False)->G w->G w'){f:FuncId}{fn:Func}{c:Code}{F:jk}(q:P.funcs[f]? =some fn)(Y:(fn.name== "runtime.NumGoroutine")=false)(O:fn.body=some c)
  (shape:∀o aq,F.rel o aq->o.length<=fn.ntmps/\aq.length=F.fQ/\(F.flat=true->∀u∈aq,u.t.flat=true))
  (Z:∀(w0:World) (M:Nat->Prop) (o aq:List ak),(∀w,Frame w0 w (fun _=>False)->G w)->F.rel o aq->W ⟨P,fn.ntmps,w0,M,fun _=>False,fun _=>undef⟩ (tM P fn M w0 aq) c ⟨mG 0 o,[],[]⟩):aV P G f F where
 enters:=enters_of q Y O
 shape:=fun o aq h=>(shape o aq h).2
 calls:=fun w M vs o aq la lb R lc=>calls_of_wp q O (Z w M o aq (fun w' h=>U w w' h la) R _ _ (entry lb lc (shape o aq R).1))
end Go.Ev
namespace Go.Ev
open Go Go.RowKit
variable [cm]
variable {cx:bJ} {st st':af} {E:Env} {Q:di} {ops:Array Oper} {l:List Oper}
variable [aj cx]
abbrev ay(x:Int):ap:=.val (.int .i64) x
abbrev kM(x:Int):ap:=.val (.int .i32) x
abbrev fR(x:Int):ap:=.val (.int .u32) x
abbrev bZ(x:Int):ap:=.val (.int .u8) x
abbrev a8(x:Bool):ap:=.val .bool x
abbrev bo(x:List UInt8):ap:=.val .str x
abbrev mW(x:Int):ak:=⟨.int .i64,x⟩
abbrev yy(x:Int):ak:=⟨.int .i32,x⟩
abbrev im(x:Bool):ak:=⟨.bool,x⟩
abbrev yP(x:List UInt8):ak:=⟨.str,x⟩
def Am{α β o:Type}(v:Sum α β)(f:α->Option o)(g:β->Option o):Option o:=match v with
 |.inl x=>f x
 |.inr y=>g y
theorem Y0{α β o:Type}{x:α}{f:α->Option o}{g:β->Option o}{r:o}(h:Am (.inl x) f g=some r):f x=some r:=h
theorem Ue{α β o:Type}{y:β}{f:α->Option o}{g:β->Option o}{r:o}(h:Am (.inr y) f g=some r):g y=some r:=h
def ag(x:Int):Int:=IntKind.i64.wrap x
def eY(x:Int):Int:=IntKind.u64.wrap x
def cH(x:Int):Int:=IntKind.u32.wrap x
def iv(x:Int):Int:=IntKind.u8.wrap x
theorem SO(S:Bool->af){b:Bool}(o:b=true->bU cx ops Q l (S true))(q:b=false->bU cx ops Q l (S false)):bU cx ops Q l (S b):=by cases b with|true=>exact o rfl|false=>exact q rfl
theorem Yh(o:bE E cx)(n:Nat)(q bs aq:List Nat){orc:List ak}{ob:List Prop}(O:mA E ops (l.take n) st orc q bs aq=some (st',[],ob))(R:bW ob)(h:bU cx ops Q (l.drop n) st'):bU cx ops Q l st:=by
 obtain⟨s,U,W⟩:=IP O
 exact uy o n U R (h.norm W)
theorem H8(o:bE E cx)(q bs aq:List Nat){orc:List ak}{ob:List Prop}(O:mA E ops l st orc q bs aq=some (st',[],ob))(R:bW ob)(h:N cx Q .normal st'):bU cx ops Q l st:=by
 obtain⟨s,U,W⟩:=IP O
 exact Qg o U R (h.norm W)
theorem my{α:Type}(F:α->Prop)(S:α->af){x y:Code}(o:∀a,F a->W cx Q y (S a))(q:(∀a,F a->N cx (Exit.then (y.wp cx.P Q) Q) .normal (S a))->W cx (Exit.then (y.wp cx.P Q) Q) x st):W cx Q (.seq x y) st:=
 aM (q fun a O=>aN (o a O))
theorem Ed{α:Type}(F:α->Prop)(S:α->af)(n:Nat)(o:∀a,F a->bU cx ops Q (l.drop n) (S a))(q:(∀a,F a->N cx (Exit.then (wpList cx.P ops Q (l.drop n)) Q) .normal (S a))->bU cx ops (Exit.then (wpList cx.P ops Q (l.drop n)) Q) (l.take n) st):bU cx ops Q l st:=by
 intro T w O
 have:=tQ (P:=cx.P) (ops:=ops) (Q:=Q) (l1:=l.take n) (l2:=l.drop n) (q (fun a R=>WE (o a R)) T w O)
 rwa [List.take_append_drop]at this
def aP(p:Prop)[Decidable p]:Option Unit:=if p then some ()else none
theorem dH{p:Prop}[Decidable p]{x:Unit}(h:aP p=some x):p:=by
 unfold aP at h
 split at h
 ·assumption
 ·cases h
theorem Ph{g e:Bool}(h:g=true):(g||e)=true:=by rw[h,Bool.true_or]
theorem MR{g e:Bool}(h:g=false):(g||e)=e:=by rw[h,Bool.false_or]
theorem bind_some{α β:Type}{aa:Option α}{f:α->Option β}{r:β}(h:aa.bind f=some r):∃x,aa=some x/\f x=some r:=Option.bind_eq_some_iff.1 h
theorem eO{α:Type}{b:Bool}{x y:α}{r:α}(o:b=true)(h:(if b then x else y)=r):x=r:=by rw[<-h,if_pos o]
theorem eV{α:Type}{b:Bool}{x y:α}{r:α}(o:b=false)(h:(if b then x else y)=r):y=r:=by rw[<-h,if_neg (by rw[o];decide)]
theorem bE.nil{P:Program}{G:World->Prop}{n:Nat}{cx:bJ}(o:cx.P=P)(q:cx.n=n)(O:∀w,Frame cx.w0 w cx.X->G w):bE ⟨P,G,n,[]⟩ cx:=⟨o,q,O,fun _ _ h=>by cases h⟩
theorem bE.cons{P:Program}{G:World->Prop}{n:Nat}{fns:List (Nat×jk)}{cx:bJ}{f:Nat}{F:jk}(q:aV P G f F)(h:bE ⟨P,G,n,fns⟩ cx):bE ⟨P,G,n,(f,F)::fns⟩ cx:=
 ⟨h.P,h.n,h.rA,fun g G o=>by rcases List.mem_cons.1 o with o|o;cases o;exact q;exact h.fns g G o⟩
/-! Slices of maps; maps of one entry at most. -/
def gg{α:Type}(xs:List (Option (Option α)))(i:Int):Option (Option α):=
 match xs[i.toNat]? with
 |some (some y)=>some y
 |_=>none
theorem kx{α:Type}{xs:List (Option (Option α))}{i:Int}{y:Option α}(h:gg xs i=some y):xs[i.toNat]? =some (some y):=by
 unfold gg at h
 split at h
 ·cases h;assumption
 ·cases h
def iq{α:Type}(xs:List (Option (Option α)))(i:Int):Option α:=
 match xs[i.toNat]? with
 |some (some (some y))=>some y
 |_=>none
theorem ru{α:Type}{xs:List (Option (Option α))}{i:Int}{y:α}(h:iq xs i=some y):xs[i.toNat]? =some (some (some y)):=by
 unfold iq at h
 split at h
 ·cases h;assumption
 ·cases h
theorem Io{α:Type}(z:α){n:Int}(h:0<n):List.replicate n.toNat z=List.replicate (List.length (List.replicate n.toNat z)) z/\0<List.length (List.replicate n.toNat z):=by
 rw[List.length_replicate]
 exact⟨rfl,by omega⟩
def np{α β:Type}(l:List α)(a:Option β)(f:α->Option β):Option β:=
 match l with
 |[]=>a
 |[p]=>f p
 |_=>none
theorem wG{α β:Type}{l:List α}{a:Option β}{f:α->Option β}{y:β}(h:np l a f=some y):(l=[]/\a=some y)\/∃p,l=[p]/\f p=some y:=by
 unfold np at h
 split at h
 ·exact .inl ⟨rfl,h⟩
 ·exact .inr ⟨_,rfl,h⟩
 ·cases h
def Ss{A o C:Type}(x:A⊕o)(f:A->Option C)(g:o->Option C):Option C:=match x with
 |.inl a=>f a
 |.inr b=>g b
def abC(x:Option Nat)(f:Nat):Bool:=match x with
 |some g=>Nat.beq g f
 |none=>false
end Go.Ev
namespace Go.Ev
open Go
def utf8_DecodeRuneInString(o:Nat)(s:List UInt8):Option (Int×Int):=some (((Lib.decodeGo ⟨s.toArray⟩).1:Int),((Lib.decodeGo ⟨s.toArray⟩).2:Int))
def utf8_ValidString(o:Nat)(s:List UInt8):Option Bool:=some (Lib.validD s)
/-! The builder. -/
def yG(o:Nat)(q:List Int):Option Unit:=some ()
def rs(o:Nat)(l:List Int):Option (List UInt8):=if dM (fx l)=l then some (fx l)else none
end Go.Ev
namespace Go.Ev
open Go Go.RowKit
variable [cm]
variable {cx:bJ} {m:Nat->Value} {st st':af} {T:Array Value} {w w':World} {E:Env} {Q:di} {ops:Array Oper} {l:List Oper}
variable [aj cx]
theorem Jy{w w':World}{M M':Nat->Prop}:∀{vs o:List Value} {l:List ak},(∀u∈l,u.t.flat=true)->eg w M vs l->eg w' M' o l->vs=o
 |[],[],[],_,_,_=>rfl
 |[],_,_::_,_,h,_=>h.elim
 |_::_,_,[],_,h,_=>h.elim
 |_,[],_::_,_,_,h=>h.elim
 |_,_::_,[],_,_,h=>h.elim
 |_::_,_::_,u::_,q,⟨O,R⟩,⟨U,W⟩=>by
  rw[nv (q u List.mem_cons_self) O U,Jy (fun x Y=>q x (List.mem_cons_of_mem _ Y)) R W]
def qq:List ak->Bool
 |[]=>false
 |l=>l.all fun u=>u.t.flat
theorem XH{w w':World}{M M':Nat->Prop}{m aA:Nat->Value}{v v':Value}{l:List ak}(o:qq l=true)(h:aX w M m v (rF l))(h':aX w' M' aA v' (rF l)):v=v':=by
 match l,o,h,h' with
 |[u],o,h,h'=>exact nv (by simpa[qq]using o) h h'
 |R::U::us,o,⟨vs,e,h⟩,⟨W,q,h'⟩=>
  rw[e,q,Jy (fun u O=>by simp only[qq,List.all_eq_true]at o;exact o u O) h h']
def ga(E:Env)(st:af)(aa:Oper)(orc:List ak):Option dS:=
 match dN E.P st aa.op orc with
 |some r=>some r
 |none=>match qI E.P st aa orc with
 |some r=>some r
 |none=>match aa.op with
  |.load t x=>uK E.P st t x orc
  |.call c=>match c.callee with
   |.value x=>match tN E st x with
    |some (_,F,_)=>bif F.flat&&qq (orc.take F.fQ)then nz E st c orc else none
    |none=>none
   |_=>none
  |_=>none
def gH(E:Env)(ops:Array Oper):List Oper->af->List ak->Option (af×List ak×List Prop)
 |[],st,orc=>some (st,orc,[])
 |aa::l,st,orc=>match eT ops st aa with
  |some true=>match aa.dst,ga E st aa orc with
   |some d,some r=>match Nat.blt d E.n,gH E ops l (st.put d r.aU) r.orc with
    |true,some (o,q,O)=>some (o,q,r.ob++O)
    |_,_=>none
   |_,_=>none
  |some false=>match aa.dst with
   |some d=>match Nat.blt d E.n with
    |true=>gH E ops l (st.put d .undef) orc
    |false=>none
   |none=>gH E ops l st orc
  |none=>none
theorem abS{P:Program}{f:FuncId}{args:Array Value}{al:Ending->World->Prop}(h:Calls P f args w al):∃e w',al e w':=by
 obtain⟨e,w',bB,o,_⟩:=h []
 exact⟨e,w',o⟩
theorem AM(R:bE E cx)(h:ao cx m st T w){aa:Oper}{orc:List ak}{r:dS}(o:ga E st aa orc=some r)(U:bW r.ob):
  ∃v,(∀w',Ext w w'->aa.quietAt cx.P ⟨T,aj.D cx⟩ (Ext w) w' v)/\aX w (au cx m st.ids) m v r.aU:=by
 unfold ga at o
 split at o
 ·rename_i li W
  cases o
  rw[<-R.P]at W
  obtain⟨v,ai,q⟩:=Ga h W U
  refine⟨v,fun w' O=>?_,q⟩
  unfold Oper.quietAt
  rw[ai w' O]
  exact⟨rfl,rfl⟩
 ·split at o
  ·rename_i li W
   cases o
   rw[<-R.P]at W
   obtain⟨v,lc,q⟩:=FH h W U
   refine⟨v,fun w' O=>?_,q⟩
   unfold Oper.quietAt
   rw[lc w' O]
   exact⟨rfl,rfl⟩
  split at o
  ·rename_i t x la
   rw[<-R.P]at o
   obtain⟨v,lc,q⟩:=EN h o U
   refine⟨v,fun w' O=>?_,q⟩
   unfold Oper.quietAt
   rw[cF (by simp only[execOp,la]) (lc w' O)]
   exact⟨rfl,rfl⟩
  ·rename_i c la
   split at o
   ·rename_i lr lj
    split at o
    ·rename_i f F ls lk
     cases Y:F.flat&&qq (orc.take F.fQ)with
     |false=>rw[Y]at o;cases o
     |true=>
      rw[Y,cond_true]at o
      simp only[Bool.and_eq_true]at Y
      have lf:r.aU=rF (orc.take F.fQ):=by
       unfold nz at o
       rw[lj]at o
       simp only[lk]at o
       split at o
       ·cases lg:Nat.ble F.fQ orc.length with
        |false=>rw[lg]at o;cases o
        |true=>rw[lg]at o;cases o;rfl
       ·cases o
      obtain⟨f0,args,lt,ll⟩:=rM R h la o U
      obtain⟨e,lu,v,_,lv,q⟩:=abS ll
      refine⟨v,fun w' O=>?_,?_⟩
      ·obtain⟨f1,lw,lm,ln⟩:=rM R (h.ext O) la o U
       unfold Oper.quietAt
       rw[lm w']
       refine⟨rfl,ln.mono ?_⟩
       rintro lx ly ⟨v',lo,lp,lh⟩
       rw[lf]at q lh
       refine⟨?_,O.trans lp⟩
       rw[lo,XH Y.2 lh q]
      ·rw[lf]at q⊢
       have Z:∀u∈orc.take F.fQ,u.t.flat=true:=by
        have ld:=Y.2
        intro u lb
        cases le:orc.take F.fQ with
        |nil=>rw[le]at lb;simp at lb
        |cons a lz=>rw[le]at ld lb;simp only[qq,List.all_eq_true]at ld;exact ld u lb
       match le:orc.take F.fQ,Z,q with
       |[],_,_=>trivial
       |[u],Z,q=>exact BJ (Z u List.mem_cons_self) q
       |_::_::_,Z,⟨vs,e,lq⟩=>exact⟨vs,e,BO Z lq⟩
    ·cases o
   ·cases o
  ·cases o
theorem nk(q:bE E cx){Q':Act->Prop}:∀{l:List Oper} {st:af} {T:Array Value} {orc orc':List ak} {st':af} {ob:List Prop},al cx st T w->gH E ops l st orc=some (st',orc',ob)->bW ob->
  (∀Z,al cx st' Z w->Q' ⟨Z,aj.D cx⟩)->wpQuiet cx.P ops (Ext w) Q' l ⟨T,aj.D cx⟩
 |[],st,T,_,_,_,_,h,o,_,O=>by
  cases o
  exact O T h
 |aa::l,st,T,orc,orc',st',ob,h,o,U,O=>by
  unfold gH at o
  unfold wpQuiet
  split at o
  ·rename_i W
   rw[ja h W]
   simp only[if_true]
   split at o
   ·rename_i d r ai la
    split at o
    ·rename_i lf lg lh Y lb
     cases o
     obtain⟨lc,ld⟩:=pq U
     obtain⟨m,R⟩:=h
     obtain⟨v,aJ,le⟩:=AM q R la lc
     refine⟨v,aJ,?_⟩
     rw[ai]
     exact nk q ⟨m,R.put (by rw[q.n];exact dg Y) le⟩ lb ld O
    ·cases o
   ·cases o
  ·rename_i W
   rw[ja h W]
   simp only[Bool.false_eq_true,if_false]
   split at o
   ·rename_i d ai
    split at o
    ·rename_i Y
     obtain⟨m,R⟩:=h
     rw[ai]
     exact nk q ⟨m,R.put (d:=d) (s:=.undef) (v:=undef) (by rw[q.n];exact dg Y) rfl⟩ o U O
    ·cases o
   ·rename_i ai
    rw[ai]
    exact nk q h o U O
  ·cases o
def F2(cx:bJ)[aj cx](ops:Array Oper)(Q:di)(l:List Oper)(st:af):Prop:=∀T w,al cx st T w->wpQuiet cx.P ops (Ext w) (fun a=>∀w',Ext w w'->Q .normal a w') l ⟨T,aj.D cx⟩
theorem GX{E:Env}(o:bE E cx){id:Nat}{l:List Oper}(q:E.P.follows .mixedOrders=true)(O:Region.lexB .any l.toArray=true)(h:F2 cx l.toArray Q l st):W cx Q (.region id l.toArray true) st:=fun T w R=>
 wp_region_quiet (C:=Ext w) (o.P▸q) O {os:=rfl,tape:=rfl,output:=rfl,size:=Nat.le_refl _,drawn:=fun _=>Nat.le_succ _,block:=fun _ _=>rfl} (by simpa using h T w R)
theorem al.ext(h:al cx st T w)(o:Ext w w'):al cx st T w':=let⟨m,q⟩:=h;⟨m,q.ext o⟩
theorem oe{P:Program}{C:World->Prop}{Q':Act->Prop}:∀{l1 l2:List Oper} {a:Act},wpQuiet P ops C (wpQuiet P ops C Q' l2) l1 a->wpQuiet P ops C Q' (l1++l2) a
 |[],_,_,h=>h
 |aa::l1,l2,a,h=>by
  simp only[List.cons_append,wpQuiet]at h⊢
  split
  ·rename_i o
   rw[if_pos o]at h
   exact Oper.quiet_mono (fun a=>oe) h
  ·rename_i o
   rw[if_neg o]at h
   exact oe h
def sH(E:Env)(ops:Array Oper)(l:List Oper)(st:af)(orc:List ak)(o bs aq:List Nat):Option (af×List ak×List Prop):=
 match gH E ops l st orc with
 |some (s,aa,p)=>match s.norm o bs aq with
  |some q=>some (q,aa,p)
  |none=>none
 |none=>none
theorem Ry{orc orc':List ak}{ob:List Prop}{o bs aq:List Nat}(h:sH E ops l st orc o bs aq=some (st',orc',ob)):∃s,gH E ops l st orc=some (s,orc',ob)/\s.norm o bs aq=some st':=by
 unfold sH at h
 split at h
 ·rename_i s aa p q
  split at h
  ·rename_i R O
   cases h
   exact⟨s,q,O⟩
  ·cases h
 ·cases h
theorem ZR(o:bE E cx)(q bs aq:List Nat){orc:List ak}{ob:List Prop}(O:sH E ops l st orc q bs aq=some (st',[],ob))(R:bW ob)(h:N cx Q .normal st'):F2 cx ops Q l st:=by
 obtain⟨s,U,W⟩:=Ry O
 intro T w Y
 exact nk o Y U R fun Z la w' lb=>h Z w' ((la.norm W).ext lb)
def qh(cx:bJ)[aj cx](K:World->Act->Prop)(st:af):Prop:=∀T w,al cx st T w->K w ⟨T,aj.D cx⟩
def o2(cx:bJ)[aj cx](ops:Array Oper)(K:World->Act->Prop)(l:List Oper)(st:af):Prop:=∀T w,al cx st T w->wpQuiet cx.P ops (Ext w) (K w) l ⟨T,aj.D cx⟩
end Go.Ev
namespace Go.Ev
open Go Go.Proofs Go.Shelf
set_option maxRecDepth 100000
def am:World->Prop:=fun w=>Lib.Utf8Tabs 0 1 w/\(0<w.heap.size/\1<w.heap.size)
theorem NI{w:World}{p:Addr}{v:Value}(h:w.cell? p=some v):p.block<w.heap.size:=by
 refine Nat.lt_of_not_le fun o=>?_
 have:w.heap[p.block]? =none:=Array.getElem?_eq_none o
 simp[World.cell?,this]at h
theorem Qp{w:World}(h:Lib.Utf8Tabs 0 1 w):am w:=
 ⟨h,NI (h.1 0 (by decide)),NI (h.2 0 (by decide)).1⟩
theorem bk:∀w w',Frame w w' (fun _=>False)->am w->am w':=by
 rintro w w' o ⟨⟨U,W⟩,q,O⟩
 have Y:∀c,w'.cell? ⟨0,c,none⟩=w.cell? ⟨0,c,none⟩:=fun c=>World.cell?_of_block (w:=w) (o.block _ q id)
 have R:∀c,w'.cell? ⟨1,c,none⟩=w.cell? ⟨1,c,none⟩:=fun c=>World.cell?_of_block (w:=w) (o.block _ O id)
 refine⟨⟨fun c Z=>by rw[Y];exact U c Z,fun i la=>by rw[R,R];exact W i la⟩,Nat.lt_of_lt_of_le q o.size,Nat.lt_of_lt_of_le O o.size⟩
def FV(k:Nat):jk:=⟨true,2,[],fun|[⟨.str,s⟩],[⟨.int .i32,r⟩,⟨.int .i64,n⟩]=>utf8_DecodeRuneInString k s=some (r,n)|_,_=>False⟩
theorem aab(k:Nat):aV Tryz.prog am 158 (FV k) where
 enters:=enters_of Tryz.func158 (by kernel_rfl) rfl
 shape:=fun xs aq h=>by
  unfold FV at h
  simp only at h
  split at h
  ·exact⟨rfl,fun _ u q=>by simp at q;(rcases q with rfl|rfl)<;>rfl⟩
  ·exact h.elim
 calls:=fun w M vs xs aq O W h o=>by
  unfold FV at h
  simp only at h
  split at h
  case h_2=>exact h.elim
  rename_i s r n
  match vs,o with
  |[v],⟨o,_⟩=>
   have R:v=.string ⟨s.toArray⟩:=by
    have:=(show aL w M .str [v] s from o).1
    simpa using this
   subst R
   refine(Any.utf8_DecodeRuneInString Xu ⟨s.toArray⟩ w O.1).mono ?_
   rintro e w' ⟨rfl,U⟩
   cases h
   exact⟨_,rfl,⟨[_,_],rfl,rfl,rfl,trivial⟩,Ext.yp U fun h=>h.elim⟩
theorem XP:U8Extra Tryz.prog Nz:=⟨by kernel_rfl,by kernel_rfl,by kernel_rfl,by kernel_rfl,by kernel_rfl,by kernel_rfl,by kernel_rfl⟩
theorem Xs{w:World}(o:Lib.VarReads Tryz.prog w "unicode/utf8.first" Lib.firstData)(q:Lib.VarReads Tryz.prog w "unicode/utf8.acceptRanges" Lib.acceptData):am w:=
 Qp (utf8Tabs_of_reads Yg XP o q)
end Go.Ev
