/- Owned slices whose elements hold owned slices: what is read and written at an element. -/
import Derived.Test.YteopobecmacgdaaGreatDoorMM3
import Derived.Lib.Repeat
import Derived.Shelf.Unicode.DecodeAny
import Derived.Test.YteopobecmacgdaaGreatDoorMM1
import Derived.Lib.LaidU8
set_option linter.unusedSectionVars false
set_option linter.unusedVariables false
set_option linter.unusedSimpArgs false
namespace Go.Ev
open Go Go.RowKit
variable [bV]
variable {cx:bx} {m aA:Nat->Value} {st st':af} {T:Array Value} {w w':World}
variable [ah cx]
def fm{α:Type}(l:List α)(off:Nat)(o:List α):List α:=l.take off++o++l.drop (off+o.length)
theorem Be{α:Type}{l o:List α}{off:Nat}(h:off+o.length<=l.length):(fm l off o).length=l.length:=by
 unfold fm
 simp only[List.length_append,List.length_take,List.length_drop]
 omega
theorem o6{α:Type}{l q:List α}{off p:Nat}(h:off+q.length<=l.length)(o:p<off\/off+q.length<=p):(fm l off q)[p]? =l[p]? :=by
 unfold fm
 rcases o with o|o
 ·rw[List.append_assoc,List.getElem?_append_left (by rw[List.length_take];omega),List.getElem?_take,if_pos o]
 ·rw[List.getElem?_append_right (by simp only[List.length_append,List.length_take];omega),List.getElem?_drop]
  congr 1
  simp only[List.length_append,List.length_take]
  omega
theorem Qx{α:Type}(a b c o:List α)(h:o.length=b.length):fm (a++b++c) a.length o=a++o++c:=by
 unfold fm
 rw[List.append_assoc a b c,List.take_left,h,<-List.append_assoc,<-List.length_append,List.drop_left]
theorem Uj{α:Type}{l o:List α}{off k:Nat}{a:α}(h:off+o.length<=l.length)(O:k<off\/off+o.length<=k):fm (l.set k a) off o=(fm l off o).set k a:=by
 refine List.ext_getElem? fun p=>?_
 rcases Nat.lt_or_ge p off with q|q
 ·rw[o6 (by simpa using h) (.inl q),List.getElem?_set,List.getElem?_set,o6 h (.inl q),Be h]
 ·rcases Nat.lt_or_ge p (off+o.length)with L|L
  ·rw[List.getElem?_set_ne (by omega)]
   unfold fm
   rw[List.getElem?_append_left (by simp only[List.length_append,List.length_take,List.length_set];omega),List.getElem?_append_right (by simp only[List.length_take,List.length_set];omega),
    List.getElem?_append_left (by simp only[List.length_append,List.length_take];omega),List.getElem?_append_right (by simp only[List.length_take];omega)]
   simp only[List.length_take,List.length_set]
  ·rw[o6 (by simpa using h) (.inr L),List.getElem?_set,List.getElem?_set,o6 h (.inr L),Be h]
theorem an.jz(h:an cx m st T w){b e i:Nat}{k:dH}{xs:List k.u.el}{O:Option Int}{x:k.u.el}(la:look st.ad b=some (.bn e k xs O))(R:xs[i]? =some x):
  ∃g cap cur us o c c2 q v L,m b=.tuple (.slice (some ⟨g,0,none⟩) xs.length cap::us).toArray/\w.heap[g]? =some (.cells cur e (0,0))/\xs.length<=cap/\cap<=maxLen/\cur.size=cap*k.u.cells/\
   cur.toList=o++c++(c2++cur.toList.drop (xs.length*k.u.cells))/\o.length=i*k.u.cells/\c.length=k.u.cells/\(o++c++c2).length=xs.length*k.u.cells/\us=q++v::L/\q.length=i/\us.length=xs.length/\
   jn w (ar cx m st.ids) k (gA O i) c v x/\(g::us.filterMap aP).Nodup/\
   ∀{w':World} {M':Nat->Prop} {h':Option Int} {x':k.u.el} {c':List Value} {v':Value},(∀b,b<w.heap.size->¬ar cx m st.ids b->w'.heap[b]? =w.heap[b]?)->(∀b,b<w.heap.size->M' b->ar cx m st.ids b)->(∀j,j≠i->(gA O j↔gA h' j))->
    (∀u,u∈q\/u∈L->∀b,aP u=some b->w'.heap[b]? =w.heap[b]?)->c'.length=k.u.cells->jn w' M' k (gA h' i) c' v' x'->eU w' M' k h' 0 (xs.set i x') (o++c'++c2) (q++v'::L):=by
 obtain⟨aj,us,cells,lb,U,V,lc⟩:=h.bn la
 have lj:i<xs.length:=(List.getElem?_eq_some_iff.1 R).1
 obtain⟨g,cap,cur,ld,le,lf,lg,lh,li⟩:=n9 U (by omega)
 obtain⟨o,c,c2,q,v,L,W,a2,a3,a4,a5,Y,Z⟩:=Fs V R
 rw[Nat.zero_add]at Y Z
 subst ld
 refine⟨g,cap,cur,us,o,c,c2,q,v,L,lb,le,lf,lg,lh,?_,a2,a3,by rw[<-W];exact U.1,a4,a5,(BE V).1,Y,by simpa[aP]using lc,Z⟩
 conv=>lhs;rw[<-List.take_append_drop (xs.length*k.u.cells) cur.toList]
 rw[li,W]
 simp
theorem E7{e q n:Nat}{g cap:Nat}{cur:Array Value}{o c c' c2 rest:List Value}(R:w.heap[g]? =some (.cells cur e (0,0)))(U:n<=cap)(V:cap<=maxLen)(W:cur.size=cap*q)(Y:cur.toList=o++c++(c2++rest))(Z:(o++c++c2).length=n*q)(L:c'.length=c.length):
  (w.setRow g (o++c'++(c2++rest)).toArray).ownsRow 0 e q (.slice (some ⟨g,0,none⟩) n cap) n (o++c'++c2):=by
 have O:(o++c'++c2).length=n*q:=by rw[<-Z];simp only[List.length_append,L]
 refine⟨O,.inr ⟨g,cap,_,rfl,Nat.zero_le _,setRow_heap _ _ _ _ _ _ R,U,V,?_,?_⟩⟩
 ·rw[List.size_toArray,<-W,<-Array.length_toList,Y];simp only[List.length_append,L]
 ·have:o++c'++(c2++rest)=(o++c'++c2)++rest:=by simp
  rw[List.toList_toArray,this,<-O,List.take_left]
theorem s7{q L:List Value}{v:Value}{g:Nat}(h:(g::(q++v::L).filterMap aP).Nodup):(∀b,aP v=some b->b≠g/\∀u,u∈q\/u∈L->aP u≠some b)/\∀u,u∈q\/u∈L->aP u≠some g:=by
 obtain⟨O,o⟩:=List.nodup_cons.1 h
 refine⟨fun b R=>⟨fun e=>O (List.mem_filterMap.2 ⟨v,by simp,by rw[<-e];exact R⟩),fun u hu e=>?_⟩,fun u hu e=>O (List.mem_filterMap.2 ⟨u,by rcases hu with hu|hu<;>simp[hu],e⟩)⟩
 rw[List.filterMap_append,List.filterMap_cons,R]at o
 simp only at o
 rw[List.nodup_append]at o
 rcases hu with hu|hu
 ·exact o.2.2 b (List.mem_filterMap.2 ⟨u,hu,e⟩) b List.mem_cons_self rfl
 ·exact(List.nodup_cons.1 o.2.1).1 (List.mem_filterMap.2 ⟨u,hu,e⟩)
abbrev eA{t:ag}(x:(ag.ab t).el):List t.el:=x
theorem DJ{q L:List Value}{v x:Value}{g:Nat}(h:(g::(q++v::L).filterMap aP).Nodup)(lb:∀b,aP x=some b->b≠g/\∀u,u∈q\/u∈L->aP u≠some b):(g::(q++x::L).filterMap aP).Nodup:=by
 obtain⟨lc,ld⟩:=List.nodup_cons.1 h
 have Y:((q++L).filterMap aP).Sublist ((q++v::L).filterMap aP):=List.Sublist.filterMap _ (List.Sublist.append (List.Sublist.refl q) (List.sublist_cons_self v L))
 have R:g∉(q++L).filterMap aP:=fun o=>lc (Y.subset o)
 have O:=ld.sublist Y
 rw[List.filterMap_append]at R O
 rw[List.filterMap_append,List.filterMap_cons]
 cases le:aP x with
 |none=>exact List.nodup_cons.2 ⟨R,O⟩
 |some b=>
  obtain⟨lf,Z⟩:=lb b le
  rw[List.nodup_append]at O
  refine List.nodup_cons.2 ⟨fun o=>?_,?_⟩
  ·rcases List.mem_append.1 o with o|o
   ·exact R (List.mem_append.2 (.inl o))
   ·rcases List.mem_cons.1 o with o|o
    ·exact lf o.symm
    ·exact R (List.mem_append.2 (.inr o))
  ·rw[List.nodup_append]
   refine⟨O.1,List.nodup_cons.2 ⟨fun o=>?_,O.2.1⟩,fun a la lg U=>?_⟩
   ·obtain⟨u,V,W⟩:=List.mem_filterMap.1 o
    exact Z u (.inr V) W
   ·rcases List.mem_cons.1 U with rfl|U
    ·rintro rfl
     obtain⟨u,V,W⟩:=List.mem_filterMap.1 la
     exact Z u (.inl V) W
    ·exact O.2.2 a la lg U
def yx(P:Program)(st:af)(t:TypeId)(x:Operand)(orc:List ak):Option di:=
 match aO st x,ty P t with
 |some (.dy b i off q),some o=>match look st.ad b,orc with
  |some (.bn _ k xs none),a::orc'=>match a.as k.u,Nat.beq q k.u.cells with
   |some x,true=>match Nat.beq off k.off&&o.beq (.ab k.t)with
    |true=>some ⟨.sub b i,orc',[aq xs i=some x]⟩
    |false=>match cb k.u x k.off ⟨.ab k.t,[]⟩,Nat.ble (off+o.cells) k.off||Nat.blt k.off off,Nat.beq o.cells 0 with
     |some L,true,false=>match ct k.u L off o with
      |some y=>some ⟨.val o y,orc',[aq xs i=some x]⟩
      |none=>none
     |_,_,_=>none
   |_,_=>none
  |_,_=>none
 |some (.eH b i j off q),some o=>match look st.ad b,orc with
  |some (.bn _ k xs none),a::c::orc'=>match a.as k.u,c.as k.t,Nat.beq q k.t.cells with
   |some x,some z,true=>match ct k.u x k.off (.ab k.t),ct k.t z off o,Nat.beq o.cells 0 with
    |some O,some y,false=>some ⟨.val o y,orc',[aq xs i=some x,aq (eA O) j=some z]⟩
    |_,_,_=>none
   |_,_,_=>none
  |_,_=>none
 |_,_=>none
theorem iM{α:Type}{xs:List α}{i:Int}{x:α}(h:aq xs i=some x):xs[i.toNat]? =some x:=(gS h).2.2
theorem r3{M:Nat->Prop}{k:dH}{cs:List Value}{v:Value}{x:k.u.el}{n:Nat}(h:jn w M k (gA none n) cs v x):∃(o:List k.t.el) (cells:List Value),ct k.u x k.off (.ab k.t)=some o/\w.ownsRow 0 k.e k.t.cells v o.length cells/\bL (aK w M k.t) cells o/\cs[k.off]? =some v:=by
 obtain⟨W,v1,Y,q,L,_,_,_,_,O⟩:=h
 obtain⟨rfl,o,cells,R,U,V⟩:=O fun⟨_,h,_⟩=>by cases h
 refine⟨o,cells,R,U,V,?_⟩
 rw[q,List.getElem?_set_self (List.getElem?_eq_some_iff.1 L).1]
theorem Kt(h:an cx m st T w){t:TypeId}{x:Operand}{orc:List ak}{lg:di}(o:yx cx.P st t x orc=some lg)(lb:bJ lg.ob):
  ∃v,(∀w',Ext w w'->(Instr.loadAt t (Act.eval ⟨T,ah.D cx⟩ x)).run cx.P w'=.ok v w')/\aN w (ar cx m st.ids) m v lg.aM:=by
 unfold yx at o
 split at o
 ·rename_i b i off V lh li lc
  obtain⟨g2,lp,lq,lN,U,a2⟩:=a8 h li
  split at o
  case h_2=>cases o
  rename_i e k xs a orc' ld
  split at o
  case h_2=>cases o
  rename_i lF _ O
  have O:=Nat.eq_of_beq_eq_true O
  have lr:∀g,g2=g->Instr.loadAt t (Act.eval ⟨T,ah.D cx⟩ x)=loadVar t ⟨g,i.toNat*V+off,none⟩:=by rintro g rfl;rw[a2];rfl
  have key:∀{g cap us},m b=.tuple (.slice (some ⟨g,0,none⟩) xs.length cap::us).toArray->g2=g:=by
   intro g cap us le
   rw[le]at U
   simp only[Value.tuple.injEq,Array.mk.injEq,List.cons.injEq,Value.slice.injEq,Option.some.injEq,Addr.mk.injEq]at U
   exact U.1.1.1.symm
  split at o
  ·rename_i aY
   cases o
   simp only[Bool.and_eq_true]at aY
   have ls:=Nat.eq_of_beq_eq_true aY.1
   obtain rfl:=ag.eq_of_beq aY.2
   obtain⟨g,cap,cur,us,lt,c,c2,lu,v,lv,f1,f2,f3,f4,f5,f6,f7,f8,f9,f10,f11,f12,f13,f14,f15⟩:=h.jz ld (iM lb.1)
   obtain⟨lG,cells,lj,lw,lx,lk⟩:=r3 f13
   obtain⟨v',W,q⟩:=io (P:=cx.P) (c:=[v]) (off:=i.toNat*V+off) lc f2 (fun j u L=>by
    have Y:j=0:=by have:=(List.getElem?_eq_some_iff.1 L).1;simpa using this
    subst Y
    simp at L
    subst L
    rw[<-Array.getElem?_toList,f6,Nat.add_zero,O,ls,<-f7,List.append_assoc,List.getElem?_append_right (by omega),Nat.add_sub_cancel_left,List.getElem?_append_left (by rw[<-ls];have:=(List.getElem?_eq_some_iff.1 lk).1;omega)]
    exact lk) rfl (fun _=>Nat.zero_lt_one)
   simp[ag.agg]at q
   subst q
   exact⟨v,fun Z la=>by rw[lr g (key f1)];exact W Z la,_,us,f1,by rw[f10,<-f11];simp⟩
  ·split at o
   case h_2=>cases o
   rename_i lO lH ly ll
   split at o
   case h_2=>cases o
   rename_i y lm
   cases o
   obtain⟨g,cap,cur,us,lt,c,c2,lu,v,lv,f1,f2,f3,f4,f5,f6,f7,f8,f9,f10,f11,f12,f13,f14,f15⟩:=h.jz ld (iM lb.1)
   obtain⟨lz,v1,lP,le,lQ,_,lA,lI,_,_⟩:=f13
   rw[lH]at lA
   cases lA
   obtain⟨d1,d2,d3,lB,ch,dw⟩:=ml k.u lI lm
   have lJ:=b6 lh dw
   obtain⟨v',W,q⟩:=io (P:=cx.P) (c:=d2) (off:=i.toNat*V+off) lc f2 (fun j u L=>by
    have Y:=(List.getElem?_eq_some_iff.1 L).1
    have lR:lz.length=k.u.cells:=by rw[<-f8,le,List.length_set]
    have lS:lz.length=d1.length+d2.length+d3.length:=by rw[lB];simp[Nat.add_assoc]
    rw[<-Array.getElem?_toList,f6,O,Nat.add_assoc,<-f7,List.append_assoc,List.getElem?_append_right (by omega),Nat.add_sub_cancel_left,List.getElem?_append_left (by omega),le,List.getElem?_set_ne,lB,<-ch,List.append_assoc,List.getElem?_append_right (by omega),Nat.add_sub_cancel_left,List.getElem?_append_left Y]
    ·exact L
    ·simp only[Bool.or_eq_true]at ly
     rcases ly with aj|aj
     ·have:=Nat.le_of_ble_eq_true aj;omega
     ·have:=cw aj;omega) lJ (fun _=>Nat.pos_of_ne_zero (by simpa using beq_false ll))
   refine⟨v',fun Z la=>by rw[lr g (key f1)];exact W Z la,?_⟩
   show bc _ _ _ _ _
   unfold bc
   split at q
   ·rename_i R;rw[if_pos R];exact⟨d2,q,dw⟩
   ·rename_i R;rw[if_neg R,<-q];exact dw
 ·rename_i b i j off V lh li lc
  obtain⟨lT,lU,g2,lp,lq,a0,U,a2⟩:=a8 h li
  split at o
  case h_2=>cases o
  rename_i e k xs a lV orc' ld
  split at o
  case h_2=>cases o
  rename_i lF z _ _ O
  have O:=Nat.eq_of_beq_eq_true O
  split at o
  case h_2=>cases o
  rename_i lG y lK lm ll
  cases o
  obtain⟨g,cap,cur,us,lt,c,c2,lu,v,lv,f1,f2,f3,f4,f5,f6,f7,f8,f9,f10,f11,f12,f13,f14,f15⟩:=h.jz ld (iM lb.1)
  obtain⟨lW,cells,lj,lw,lx,lk⟩:=r3 f13
  rw[lK]at lj
  cases lj
  have lL:v=.slice (some ⟨g2,0,none⟩) lp lq:=by
   rw[f1]at a0
   simp only[Value.tuple.injEq,Array.mk.injEq,List.cons.injEq]at a0
   rw[<-a0.2,f10,<-f11]at U
   simpa using U
  have lC:=iM lb.2.1
  obtain⟨d1,d2,d3,rfl,ch,dw⟩:=jC lx lC
  obtain⟨ln,lf,lD,rfl,lM,lo⟩:=ml k.t dw lm
  obtain⟨lX,lY,lZ,t1,t2,t3,t4,t5,t6⟩:=n9 lw (Nat.lt_of_le_of_lt (Nat.zero_le _) (List.getElem?_eq_some_iff.1 lC).1)
  rw[lL]at t1
  cases t1
  obtain⟨v',W,q⟩:=io (P:=cx.P) (c:=lf) (off:=j.toNat*V+off) lc t2 (fun lE u L=>by
   have Y:=(List.getElem?_eq_some_iff.1 L).1
   have:(d1++(ln++lf++lD)++d3)[d1.length+ln.length+lE]? =some u:=by rw[EJ d1 ln lf lD d3 lE Y];exact L
   rw[<-t6,List.getElem?_take]at this
   split at this
   ·rw[<-Array.getElem?_toList,O,<-ch,<-lM];exact this
   ·cases this) (b6 lh lo) (fun _=>Nat.pos_of_ne_zero (by simpa using beq_false ll))
  refine⟨v',fun Z la=>by rw[a2];exact W Z la,?_⟩
  show bc _ _ _ _ _
  unfold bc
  split at q
  ·rename_i R;rw[if_pos R];exact⟨lf,q,lo⟩
  ·rename_i R;rw[if_neg R,<-q];exact lo
 ·cases o
end Go.Ev
namespace Go.Ev
open Go Go.RowKit
variable [bV]
variable {cx:bx} {m aA:Nat->Value} {st st':af} {T:Array Value} {w w':World}
variable [ah cx]
def ao.nL(b:Nat)(o:List Nat):ao->ao
 |.osl c=>bif Nat.beq c b then .osl c else ao.dx o (.osl c)
 |.dy c i aa s=>bif Nat.beq c b then .dy c i aa s else ao.dx o (.dy c i aa s)
 |s=>s.dx o
theorem He{M:Nat->Prop}{D:List Nat}{b:Nat}{r:Value}{us q:List Value}(O:m b=.tuple (r::us).toArray)(R:aA b=.tuple (r::q).toArray)(V:∀i,i∉D->aA i=m i){v:Value}{s:ao}(h:aN w M m v s):aN w M aA v (s.nL b D):=by
 have L:∀s:ao,aN w M m v s->aN w M aA v (s.dx D):=fun s W=>kB V W
 cases s with
 |osl c=>
  show aN _ _ _ _ (bif Nat.beq c b then .osl c else ao.dx D (.osl c))
  cases e:Nat.beq c b with
  |false=>exact L _ h
  |true=>
   have e:=Nat.eq_of_beq_eq_true e
   subst e
   obtain⟨Y,o⟩:=h
   refine⟨q,?_⟩
   rw[R]
   rw[O]at o
   simp only[Value.tuple.injEq,Array.mk.injEq,List.cons.injEq]at o
   rw[o.1]
 |dy c i aa U=>
  show aN _ _ _ _ (bif Nat.beq c b then .dy c i aa U else ao.dx D (.dy c i aa U))
  cases e:Nat.beq c b with
  |false=>exact L _ h
  |true=>
   have e:=Nat.eq_of_beq_eq_true e
   subst e
   obtain⟨g,n,cap,Y,o,Z⟩:=h
   refine⟨g,n,cap,q,?_,Z⟩
   rw[R]
   rw[O]at o
   simp only[Value.tuple.injEq,Array.mk.injEq,List.cons.injEq]at o
   rw[o.1]
 |_=>exact L _ h
def zQ(P:Program)(Z:Nat)(st:af)(t:TypeId)(x y:Operand)(orc:List ak):Option (af×List ak×List Prop):=
 match aO st x,ty P t,aO st y with
 |some (.dy b i off U),some L,some (.val O z)=>match look st.ad b,orc with
  |some (.bn e k xs none),a::orc'=>match a.as k.u,Nat.beq U k.u.cells&&O.beq L&&(Nat.ble (off+L.cells) k.off||Nat.blt k.off off)with
   |some o,true=>match cb k.u o off ⟨O,z⟩,cb k.u o k.off ⟨.ab k.t,[]⟩with
    |some q,some W=>match cb k.u W off ⟨O,z⟩with
     |some Y=>some (st.cL b (.bn e k (xs.set i.toNat q) none),orc',[aq xs i=some o,cb k.u q k.off ⟨.ab k.t,[]⟩=some Y,ct k.u q k.off (.ab k.t)=ct k.u o k.off (.ab k.t)])
     |none=>none
    |_,_=>none
   |_,_=>none
  |_,_=>none
 |some (.eH b i j off U),some L,some (.val O z)=>match look st.ad b,orc with
  |some (.bn e k xs none),a::c::orc'=>match a.as k.u,c.as k.t,Nat.beq U k.t.cells&&O.beq L with
   |some o,some z0,true=>match ct k.u o k.off (.ab k.t),cb k.t z0 off ⟨O,z⟩with
    |some R,some V=>match cb k.u o k.off ⟨.ab k.t,(eA R).set j.toNat V⟩with
     |some q=>some (st.cL b (.bn e k (xs.set i.toNat q) none),orc',[aq xs i=some o,aq (eA R) j=some z0,cb k.u q k.off ⟨.ab k.t,[]⟩=cb k.u o k.off ⟨.ab k.t,[]⟩,ct k.u q k.off (.ab k.t)=some ((eA R).set j.toNat V)])
     |none=>none
    |_,_=>none
   |_,_,_=>none
  |_,_=>none
 |some (.dy b i off U),some L,some (.row r)=>match look st.ad b,look st.rw r,orc with
  |some (.bn e k xs h),some c,a::orc'=>match a.as k.u,Nat.beq U k.u.cells&&(Nat.beq off k.off&&(L.beq (.ab k.t)&&(Nat.beq c.e k.e&&!(Nat.beq b r)))),ak.as ⟨.ab c.t,c.xs⟩ (.ab k.t)with
   |some o,true,some R=>match cb k.u o k.off ⟨.ab k.t,R⟩with
    |some q=>some (st.dv [b,r] [(b,.bn e k (xs.set i.toNat q) none)] [] (ao.nL b [b,r]),orc',[aq xs i=some o,cb k.u q k.off ⟨.ab k.t,[]⟩=cb k.u o k.off ⟨.ab k.t,[]⟩,ct k.u q k.off (.ab k.t)=some R]++(match h with
     |none=>[]
     |some i0=>[i0=i]))
    |none=>none
   |_,_,_=>none
  |_,_,_=>none
 |_,_,_=>none
theorem iA{r o:Value}{us q:List Value}(h:Value.tuple (r::us).toArray=.tuple (o::q).toArray):r=o/\us=q:=by
 simpa using h
theorem tN{g o n q cap L:Nat}(h:Value.slice (some ⟨g,0,none⟩) n cap=.slice (some ⟨o,0,none⟩) q L):g=o:=by
 simp only[Value.slice.injEq,Option.some.injEq,Addr.mk.injEq]at h
 exact h.1.1
theorem Hu{b g n cap:Nat}{us:List Value}(h:m b=.tuple (.slice (some ⟨g,0,none⟩) n cap::us).toArray):own (m b) g:=by rw[h];exact cR.2 (.inl rfl)
theorem JL(h:an cx m st T w){b e:Nat}{i:Int}{k:dH}{xs:List k.u.el}{off:Nat}{t:TypeId}{o:ag}{z:o.el}{x y:Operand}{U O le W:k.u.el}(lf:look st.ad b=some (.bn e k xs none))(lr:aO st x=some (.dy b i off k.u.cells))(ls:ty cx.P t=some o)(lt:aO st y=some (.val o z))
  (lY:off+o.cells<=k.off\/k.off<off)(lZ:cb k.u U off ⟨o,z⟩=some O)(lu:cb k.u U k.off ⟨.ab k.t,[]⟩=some le)(lv:cb k.u le off ⟨o,z⟩=some W)(lw:aq xs i=some U)(lx:cb k.u O k.off ⟨.ab k.t,[]⟩=some W)(ly:ct k.u O k.off (.ab k.t)=ct k.u U k.off (.ab k.t)):
  ∃w',(Instr.storeAt t (Act.eval ⟨T,ah.D cx⟩ x) (Act.eval ⟨T,ah.D cx⟩ y)).run cx.P w=.ok () w'/\an cx m (st.cL b (.bn e k (xs.set i.toNat O) none)) T w':=by
 obtain⟨g2,l0,l3,l4,lz,a2⟩:=a8 h lr
 obtain⟨g,cap,cur,us,R,c,c2,l5,v,l6,f1,f2,f3,f4,f5,f6,f7,f8,f9,f10,f11,f12,f13,f14,f15⟩:=h.jz lf (iM lw)
 have lA:g2=g:=tN (iA (lz.symm.trans f1)).1
 subst lA
 obtain⟨L,v1,l7,lg,lh,lB,li,lC,lD,lE⟩:=f13
 rw[lu]at li
 cases li
 have lF:bc w (ar cx m st.ids) (Act.eval ⟨T,ah.D cx⟩ y) o z:=a8 h lt
 have V:=iI lF
 have Y:=b6 o V
 have lG:(Act.eval ⟨T,ah.D cx⟩ y).cells.size=o.cells:=by rw[<-Y];simp
 obtain⟨d1,d2,d3,lj,ch,dw,fM⟩:=mU (v:=⟨o,z⟩) V k.u lC lv
 generalize lk:(Act.eval ⟨T,ah.D cx⟩ y).cells.toList=q at*
 have ll:L.length=k.u.cells:=by rw[<-f8,lg,List.length_set]
 have l8:L.length=d1.length+d2.length+d3.length:=by rw[lj];simp[Nat.add_assoc]
 have lH:fm L off q=d1++q++d3:=by rw[lj,<-ch,Qx _ _ _ _ dw.symm]
 have Z:off+q.length<=L.length:=by omega
 have l9:k.off<L.length:=(List.getElem?_eq_some_iff.1 lh).1
 have lm:k.off<off\/off+q.length<=k.off:=by rw[Y];omega
 have lI:fm c off q=(fm L off q).set k.off v1:=by rw[lg,Uj Z lm]
 have ln:(fm c off q).length=c.length:=Be (by rw[f8,<-ll];exact Z)
 have lJ:i.toNat*k.u.cells+off+o.cells<=cur.size:=by
  rw[<-Array.length_toList,f6];simp only[List.length_append];omega
 have lo:=kg (P:=cx.P) ls f2 lG lJ (gh o (by rw[<-lk]at V;exact V))
 have lK:cur.toList.take (i.toNat*k.u.cells+off)++(Act.eval ⟨T,ah.D cx⟩ y).cells.toList++cur.toList.drop (i.toNat*k.u.cells+off+o.cells)=R++fm c off q++(c2++cur.toList.drop (xs.length*k.u.cells)):=by
  generalize cur.toList.drop (xs.length*k.u.cells)=rest at f6⊢
  rw[f6,lk,<-f7]
  have lL:R++c++(c2++rest)=R++(c++(c2++rest)):=by simp
  have lM:off+o.cells<=c.length:=by rw[f8,<-ll];omega
  rw[lL,List.take_append,List.take_of_length_le (by omega),Nat.add_sub_cancel_left,List.take_append_of_le_length (by omega),Nat.add_assoc,List.drop_append,List.drop_eq_nil_of_le (by omega),Nat.add_sub_cancel_left,List.drop_append_of_le_length lM]
  unfold fm
  rw[Y]
  simp
 rw[lK]at lo
 refine⟨_,by rw[a2];exact lo,?_⟩
 have la:=aW lf
 have lN:b∈st.ids:=List.mem_append.2 (.inl (List.mem_map.2 ⟨_,la,rfl⟩))
 have lp:Touch m w b (w.setRow g2 (R++fm c off q++(c2++cur.toList.drop (xs.length*k.u.cells))).toArray):=
  ⟨iP _ _ _,fun aa ab lO=>setRow_other _ _ _ _ (fun e=>lO (by rw[e];exact Hu f1))⟩
 obtain⟨lb,lc⟩:=an.fU (cx:=cx) lN lp (ids:=(st.cL b (.bn e k (xs.set i.toNat O) none)).ids) (iZ la h.keys _).1
 rw[f10]at f14
 obtain⟨lP,lQ⟩:=s7 f14
 refine h.cL la lp (g:=g2) ⟨_,_,f1⟩ ⟨_,us,R++fm c off q++c2,f1,?_,?_,?_⟩
 ·rw[List.length_set]
  exact E7 f2 f3 f4 f5 f6 f9 ln
 ·rw[f10]
  refine f15 lb lc (fun _ _=>Iff.rfl) (fun u lR lq ld=>setRow_other _ _ _ _ (fun e=>lQ u lR (by rw[<-e];exact ld))) (by rw[ln,f8]) ?_
  refine⟨fm L off q,v1,W,lI,by rw[o6 Z lm];exact lh,lB,lx,?_,lD,fun lS=>?_⟩
  ·rw[lH];exact cq lb lc k.u fM
  ·obtain⟨lT,lU,cells,lV,lW,lX⟩:=lE lS
   exact⟨lT,lU,cells,by rw[ly];exact lV,nP lW fun lq ld=>setRow_other _ _ _ _ (lP lq ld).1,cP (fun _ _=>cq lb lc k.t) lX⟩
 ·rw[f10];simpa[aP]using f14
theorem QE(h:an cx m st T w){b e:Nat}{i j:Int}{k:dH}{xs:List k.u.el}{off:Nat}{t:TypeId}{L:ag}{z:L.el}{x y:Operand}{lb W:k.u.el}{O:List k.t.el}{z0 lc:k.t.el}(lo:look st.ad b=some (.bn e k xs none))(lA:aO st x=some (.eH b i j off k.t.cells))(lB:ty cx.P t=some L)(lC:aO st y=some (.val L z))
  (lD:ct k.u lb k.off (.ab k.t)=some O)(lE:cb k.t z0 off ⟨L,z⟩=some lc)(lF:aq xs i=some lb)(lG:aq O j=some z0)(lH:cb k.u W k.off ⟨.ab k.t,[]⟩=cb k.u lb k.off ⟨.ab k.t,[]⟩)(lI:ct k.u W k.off (.ab k.t)=some (O.set j.toNat lc)):
  ∃w',(Instr.storeAt t (Act.eval ⟨T,ah.D cx⟩ x) (Act.eval ⟨T,ah.D cx⟩ y)).run cx.P w=.ok () w'/\an cx m (st.cL b (.bn e k (xs.set i.toNat W) none)) T w':=by
 obtain⟨ak,al,g2,lJ,lK,a0,lp,a2⟩:=a8 h lA
 obtain⟨g,cap,cur,us,Y,c,c2,am,v,ao,f1,f2,f3,f4,f5,f6,f7,f8,f9,f10,f11,f12,f13,f14,f15⟩:=h.jz lo (iM lF)
 obtain⟨lL,v1,lM,lN,lO,lP,lQ,lR,lS,lT⟩:=f13
 obtain⟨lU,ap,cells,lq,lr,lV⟩:=lT fun⟨_,h,_⟩=>by cases h
 rw[lD]at lq
 cases lq
 have Z:v=.slice (some ⟨g2,0,none⟩) lJ lK:=by
  rw[f1]at a0
  rw[<-(iA a0).2,f10,<-f11]at lp
  simpa using lp
 obtain⟨_,_,ls⟩:=gS lG
 have lW:bc w (ar cx m st.ids) (Act.eval ⟨T,ah.D cx⟩ y) L z:=a8 h lC
 have ld:=iI lW
 have le:=b6 L ld
 have lX:(Act.eval ⟨T,ah.D cx⟩ y).cells.size=L.cells:=by rw[<-le];simp
 obtain⟨lY,lZ,U,t1,t2,t3,t4,t5,t6⟩:=n9 lr (Nat.lt_of_le_of_lt (Nat.zero_le _) (List.getElem?_eq_some_iff.1 ls).1)
 have l0:g2=lY:=by rw[Z]at t1;exact tN t1
 subst l0
 obtain⟨d1,d2,d3,rfl,ch,dw,l3⟩:=oT lV ls
 obtain⟨o,R,q,rfl,l4,lf,l5⟩:=mU (v:=⟨L,z⟩) ld k.t dw lE
 obtain⟨rest,la⟩:∃rest,U.toList=(d1++(o++R++q)++d3)++rest:=⟨U.toList.drop (O.length*k.t.cells),by rw[<-t6,List.take_append_drop]⟩
 have lt:(d1++(o++R++q)++d3).length=O.length*k.t.cells:=lr.1
 have lg:j.toNat*k.t.cells+off=(d1++o).length:=by rw[List.length_append,ch,l4]
 have l6:U.toList.length=(d1++o).length+R.length+(q++d3++rest).length:=by rw[la];simp only[List.length_append];omega
 have l7:j.toNat*k.t.cells+off+L.cells<=U.size:=by
  rw[<-Array.length_toList,l6,lg,<-le,lf]
  omega
 have lu:=kg (P:=cx.P) lB t2 lX l7 (gh L ld)
 have l8:U.toList.take (j.toNat*k.t.cells+off)=d1++o:=by
  rw[la,lg]
  have:d1++(o++R++q)++d3++rest=(d1++o)++(R++q++d3++rest):=by simp
  rw[this,List.take_left]
 have l9:U.toList.drop (j.toNat*k.t.cells+off+L.cells)=q++d3++rest:=by
  rw[la,lg,<-le,<-lf,<-List.length_append]
  have:d1++(o++R++q)++d3++rest=(d1++o++R)++(q++d3++rest):=by simp
  rw[this,List.drop_left]
 rw[l8,l9]at lu
 refine⟨_,by rw[a2];exact lu,?_⟩
 have lh:=aW lo
 have aa:b∈st.ids:=List.mem_append.2 (.inl (List.mem_map.2 ⟨_,lh,rfl⟩))
 have ab:own (m b) g2:=by rw[f1,f10];exact cR.2 (.inr ⟨v,by simp,by rw[Z];rfl⟩)
 generalize li:w.setRow g2 (d1++o++(Act.eval ⟨T,ah.D cx⟩ y).cells.toList++(q++d3++rest)).toArray=lv
 have lj:∀V,V≠g2->lv.heap[V]? =w.heap[V]? :=fun V lk=>by rw[<-li];exact setRow_other _ _ _ _ lk
 have lw:Touch m w b lv:=⟨by rw[<-li];exact iP _ _ _,fun V au lk=>lj V (fun e=>lk (by rw[e];exact ab))⟩
 obtain⟨ll,lm⟩:=an.fU (cx:=cx) aa lw (ids:=(st.cL b (.bn e k (xs.set i.toNat W) none)).ids) (iZ lh h.keys _).1
 rw[f10]at f14
 obtain⟨lx,av⟩:=s7 f14
 have ad:g≠g2:=fun e=>(lx g2 (by rw[Z];rfl)).1 e.symm
 refine h.cL lh lw (g:=g) ⟨_,_,f1⟩ ⟨_,us,Y++c++c2,f1,?_,?_,?_⟩
 ·rw[List.length_set]
  have ae:cur.toList.take (xs.length*k.u.cells)=Y++c++c2:=by
   generalize cur.toList.drop (xs.length*k.u.cells)=ly at f6
   rw[f6,<-f9]
   have:Y++c++(c2++ly)=(Y++c++c2)++ly:=by simp
   rw[this,List.take_left]
  exact⟨f9,.inr ⟨g,cap,cur,rfl,Nat.zero_le _,by rw[lj g ad];exact f2,f3,f4,f5,ae⟩⟩
 ·rw[f10]
  refine f15 ll lm (fun _ _=>Iff.rfl) (fun u af ai aj=>lj ai (fun e=>(lx g2 (by rw[Z];rfl)).2 u af (by rw[<-e];exact aj))) f8 ?_
  refine⟨lL,v1,lM,lN,lO,lP,by rw[lH];exact lQ,cq ll lm k.u lR,lS,fun _=>⟨lU,O.set j.toNat lc,_,lI,?_,cP (fun _ _=>cq ll lm k.t) (l3 _ _ l5)⟩⟩
  have lz:d1++o++(Act.eval ⟨T,ah.D cx⟩ y).cells.toList++(q++d3++rest)=(d1++(o++(Act.eval ⟨T,ah.D cx⟩ y).cells.toList++q)++d3)++rest:=by simp
  have ln:(d1++(o++(Act.eval ⟨T,ah.D cx⟩ y).cells.toList++q)++d3).length=O.length*k.t.cells:=by
   rw[<-lt];simp only[List.length_append,lf]
  refine⟨by rw[List.length_set];exact ln,.inr ⟨g2,lZ,_,by rw[List.length_set,t1],Nat.zero_le _,by rw[<-li];exact setRow_heap _ _ _ _ _ _ t2,by rw[List.length_set];exact t3,t4,?_,?_⟩⟩
  ·rw[List.size_toArray,lz,List.length_append,ln,<-t5,<-Array.length_toList,la,List.length_append,lt]
  ·rw[List.length_set,lz,<-ln,List.take_left]
 ·rw[f10];simpa[aP]using f14
end Go.Ev
namespace Go.Ev
open Go Go.RowKit
variable [bV]
variable {cx:bx} {m aA:Nat->Value} {st st':af} {T:Array Value} {w w':World}
variable [ah cx]
theorem BN{c:cp}{e:Nat}{u:ag}{q:List u.el}(L:c.e=e)(o:ak.as ⟨.ab c.t,c.xs⟩ (.ab u)=some q):c=⟨e,u,q⟩:=by
 obtain⟨R,nj,O⟩:=c
 have o:ak.as ⟨.ab nj,O⟩ (.ab u)=some q:=o
 have o:=ak.cO o
 cases o
 subst L
 rfl
theorem LU(h:an cx m st T w){b e r:Nat}{i:Int}{k:dH}{xs:List k.u.el}{lt:Option Int}{t:TypeId}{x y:Operand}{lu lb:k.u.el}{lf:List k.t.el}(U:look st.ad b=some (.bn e k xs lt))(lF:look st.rw r=some ⟨k.e,k.t,lf⟩)(lv:b≠r)
  (lG:aO st x=some (.dy b i k.off k.u.cells))(lH:ty cx.P t=some (.ab k.t))(lI:aO st y=some (.row r))
  (lJ:aq xs i=some lu)(lK:cb k.u lb k.off ⟨.ab k.t,[]⟩=cb k.u lu k.off ⟨.ab k.t,[]⟩)(lL:ct k.u lb k.off (.ab k.t)=some lf)(lM:∀i0,lt=some i0->i0=i):
  ∃w' aA,(Instr.storeAt t (Act.eval ⟨T,ah.D cx⟩ x) (Act.eval ⟨T,ah.D cx⟩ y)).run cx.P w=.ok () w'/\an cx aA (st.dv [b,r] [(b,.bn e k (xs.set i.toNat lb) none)] [] (ao.nL b [b,r])) T w':=by
 obtain⟨g2,l8,l9,aa,lN,a2⟩:=a8 h lG
 obtain⟨g,cap,cur,us,Z,V,c2,lw,v,lx,f1,f2,f3,f4,f5,f6,f7,f8,f9,f10,f11,f12,f13,f14,f15⟩:=h.jz U (iM lJ)
 have lO:g2=g:=tN (iA (lN.symm.trans f1)).1
 subst lO
 obtain⟨lg,v1,lP,ly,lz,ab,lQ,lR,ad,ae⟩:=f13
 have lh:=aW lF
 have lS:=aW U
 have W:b∈st.ids:=List.mem_append.2 (.inl (List.mem_map.2 ⟨_,lS,rfl⟩))
 have li:r∈st.ids:=List.mem_append.2 (.inr (List.mem_map.2 ⟨_,lh,rfl⟩))
 obtain⟨cells,lA,af,lT⟩:=h.rows r _ lh
 have lU:Act.eval ⟨T,ah.D cx⟩ y=m r:=a8 h lI
 have lB:(m r).oneCell'=true:=row_one h lh
 have lj:(m r).cells=#[m r]:=by
  rcases lA.2 with ⟨lC,_⟩|⟨_,_,_,lC,_⟩<;>rw[lC]<;>rfl
 have ai:k.off<lg.length:=(List.getElem?_eq_some_iff.1 lz).1
 have aj:lg.length=k.u.cells:=by rw[<-f8,ly,List.length_set]
 have lV:i.toNat*k.u.cells+k.off+(ag.ab k.t).cells<=cur.size:=by
  rw[<-Array.length_toList,f6];simp only[List.length_append,ag.cells];omega
 have lk:=kg (P:=cx.P) (v:=m r) lH f2 (by rw[lj];rfl) lV (fun u hu=>by rw[lj]at hu;simp at hu;rw[hu];exact lB)
 have lW:cur.toList.take (i.toNat*k.u.cells+k.off)++(m r).cells.toList++cur.toList.drop (i.toNat*k.u.cells+k.off+(ag.ab k.t).cells)=Z++V.set k.off (m r)++(c2++cur.toList.drop (xs.length*k.u.cells)):=by
  generalize cur.toList.drop (xs.length*k.u.cells)=rest at f6⊢
  rw[f6,<-f7,lj]
  have lX:Z++V++(c2++rest)=Z++(V++(c2++rest)):=by simp
  have lY:k.off+1<=V.length:=by omega
  rw[lX,List.take_append,List.take_of_length_le (by omega),Nat.add_sub_cancel_left,List.take_append_of_le_length (by omega),Nat.add_assoc,List.drop_append,List.drop_eq_nil_of_le (by omega),Nat.add_sub_cancel_left]
  show _=_
  simp only[ag.cells]
  rw[List.drop_append_of_le_length lY,List.set_eq_take_append_cons_drop,if_pos (by omega)]
  simp
 rw[lW]at lk
 generalize ll:w.setRow g2 (Z++V.set k.off (m r)++(c2++cur.toList.drop (xs.length*k.u.cells))).toArray=lm at lk
 have ln:∀L,L≠g2->lm.heap[L]? =w.heap[L]? :=fun L lc=>by rw[<-ll];exact setRow_other _ _ _ _ lc
 have lo:own (m b) g2:=Hu f1
 obtain⟨v2,ld⟩:∃v2,v2=Value.tuple (.slice (some ⟨g2,0,none⟩) xs.length cap::(lw++m r::lx)).toArray:=⟨_,rfl⟩
 rw[f10]at f14 f1
 obtain⟨ak,lZ⟩:=s7 f14
 have lp:∀o,aP (m r)=some o->own (m r) o:=fun o U=>fO U
 have lD:∀o,aP (m r)=some o->o≠g2:=fun o U e=>h.apart b r W li lv g2 lo (by rw[<-e];exact lp o U)
 have X:gt cx m (bt m b v2) st w lm [b,r] [(b,.bn e k (xs.set i.toNat lb) none)] []:={
  same:=by rw[<-ll];exact iP _ _ _
  block:=fun L _ lc=>ln L fun e=>lc b (by simp) W (by rw[e];exact lo)
  old:=fun j _ q=>cF _ _ fun e=>q (by simp[e])
  new:=fun j q L O=>by
   have:j=b:=by simpa using q
   subst this
   rw[b7,ld]at O
   refine .inl ?_
   rcases cR.1 O with O|⟨u,hu,O⟩
   ·cases O;exact⟨j,by simp,W,lo⟩
   ·rcases List.mem_append.1 hu with hu|hu
    ·exact⟨j,by simp,W,by rw[f1];exact cR.2 (.inr ⟨u,by simp[hu],O⟩)⟩
    ·rcases List.mem_cons.1 hu with rfl|hu
     ·exact⟨r,by simp,li,lp L O⟩
     ·exact⟨j,by simp,W,by rw[f1];exact cR.2 (.inr ⟨u,by simp[hu],O⟩)⟩
  apart:=fun j l0 q l3 lc=>by
   have:j=b:=by simpa using q
   have:l0=b:=by simpa using l3
   omega
  keys:=by simp
  kz:=fun j q _=>by
   have:j=b:=by simpa using q
   simp[this]
  j8:=fun le c' la lE=>by simp at la;rw[la.2]at lE;cases lE
  eO:=fun l4 c' lq=>by cases lq}
 refine⟨lm,bt m b v2,by rw[a2,lU];exact lk,h.dv X (fun M v s l5=>He f1 (by rw[b7,ld]) (fun j q=>cF _ _ fun e=>q (by simp[e])) l5) (fun le c' la=>?_) (fun l4 c' lq=>by cases lq)⟩
 simp only[List.mem_cons,Prod.mk.injEq,List.not_mem_nil,or_false]at la
 obtain⟨rfl,rfl⟩:=la
 have lr:=X.keeps
 have ls:=X.mut (f:=ao.nL le [le,r])
 rw[b7]
 refine⟨0,⟨_,_,ld⟩,_,lw++m r::lx,Z++V.set k.off (m r)++c2,ld,?_,?_,?_⟩
 ·rw[List.length_set,<-ll]
  exact E7 f2 f3 f4 f5 f6 f9 (List.length_set ..)
 ·refine f15 lr ls (fun j q=>⟨fun⟨i0,R,l6⟩=>absurd (by rw[<-l6,lM i0 R]) q,fun⟨_,R,_⟩=>by cases R⟩) (fun u hu o Y=>ln o fun e=>lZ u hu (by rw[<-e];exact Y)) (by rw[List.length_set,f8]) ?_
  refine⟨lg,m r,lP,by rw[ly,List.set_set],lz,lB,by rw[lK];exact lQ,cq lr ls k.u lR,(fun⟨_,R,_⟩=>by cases R),fun _=>⟨rfl,lf,cells,lL,nP lA fun o Y=>ln o (lD o Y),cP (fun _ _=>cq lr ls k.t) lT⟩⟩
 ·have R:=DJ f14 (x:=m r) fun o Y=>⟨lD o Y,fun u hu l7=>h.apart le r W li lv o (by rw[f1];exact cR.2 (.inr ⟨u,by rcases hu with hu|hu<;>simp[hu],l7⟩)) (lp o Y)⟩
  simpa[aP]using R
def uq(q:Nat)(st:af)(b:Nat)(i:Int)(a d:Nat)(orc:List ak):Option (af×List ak×List Prop):=
 match look st.ad b,orc with
 |some (.bn e k xs none),v::orc'=>match v.as k.u,Nat.blt d q&&!(Nat.beq b d)with
  |some o,true=>match ct k.u o k.off (.ab k.t)with
   |some L=>some ((st.dv [b,d] [(b,.bn e k xs (some i))] [(d,⟨k.e,k.t,eA L⟩)] (ao.nL b [b,d])).put a (.row d),orc',[aq xs i=some o])
   |none=>none
  |_,_=>none
 |_,_=>none
theorem an.NK(h:an cx m st T w){a:Nat}{v:Value}{s:ao}(q:T[a]? =some v)(L:aN w (ar cx m st.ids) m v s):an cx m (st.put a s) T w:=
 {h with
  cv:=fun i aM o=>by
   rcases List.mem_cons.1 o with o|o
   ·cases o;exact⟨v,q,L⟩
   ·exact h.cv i aM (cE.1 o).1}
theorem rl{α:Type}:∀{l:List α} {i:Nat} {x:α},l[i]? =some x->l.set i x=l
 |_,_,_,h=>by
  obtain⟨q,o⟩:=List.getElem?_eq_some_iff.1 h
  rw[<-o,List.set_getElem_self]
theorem J8(h:an cx m st T w){b a d:Nat}{i:Int}{orc orc':List ak}{ob:List Prop}(lb:look st.ab a=some (.sub b i))(O:uq cx.n st b i a d orc=some (st',orc',ob))(li:bJ ob):∃aA,an cx aA st' T w:=by
 unfold uq at O
 split at O
 case h_2=>cases O
 rename_i e k xs v0 lY lj
 split at O
 case h_2=>cases O
 rename_i lx _ aY
 split at O
 case h_2=>cases O
 rename_i lk ly
 cases O
 simp only[Bool.and_eq_true,Bool.not_eq_true']at aY
 have lz:=cw aY.1
 have ll:=beq_false aY.2
 obtain⟨vv,t1,lZ,l0,t2,t3⟩:=h.cv a _ (aW lb)
 obtain⟨g,cap,cur,us,Y,R,c2,lc,v,ld,f1,f2,f3,f4,f5,f6,f7,f8,f9,f10,f11,f12,f13,f14,f15⟩:=h.jz lj (iM li.1)
 have lA:vv=v:=by
  rw[f1]at t2
  rw[<-(iA t2).2,f10,<-f11]at t3
  simpa using t3.symm
 subst lA
 have l3:=f13
 obtain⟨lB,v1,lC,lD,lE,lF,lG,lH,l4,lI⟩:=f13
 obtain⟨l5,l6,cells,lm,ln,lJ⟩:=lI fun⟨_,h,_⟩=>by cases h
 rw[ly]at lm
 cases lm
 have lK:=aW lj
 have lo:b∈st.ids:=List.mem_append.2 (.inl (List.mem_map.2 ⟨_,lK,rfl⟩))
 obtain⟨v2,Z⟩:∃v2,v2=Value.tuple (.slice (some ⟨g,0,none⟩) xs.length cap::(lc++undef::ld)).toArray:=⟨_,rfl⟩
 obtain⟨m2,le⟩:∃m2,m2=bt (bt m d vv) b v2:=⟨_,rfl⟩
 have lf:m2 b=v2:=by rw[le,b7]
 have md:m2 d=vv:=by rw[le,cF _ _ (fun e=>ll e.symm),b7]
 have lp:∀j,j∉[b,d]->m2 j=m j:=fun j L=>by rw[le,cF _ _ (fun e=>L (by simp[e])),cF _ _ (fun e=>L (by simp[e]))]
 rw[f10]at f14 f1
 obtain⟨lq,l7⟩:=s7 f14
 have lL:∀o,aP vv=some o->own (m b) o:=fun o q=>by rw[f1];exact cR.2 (.inr ⟨vv,by simp,q⟩)
 have lg:∀o,own (m2 d) o->aP vv=some o:=fun o q=>by rw[md]at q;exact C0 ln q
 have lr:∀o,own (m2 b) o->o=g\/∃u,(u∈lc\/u∈ld)/\aP u=some o:=fun o q=>by
  rw[lf,Z]at q
  rcases cR.1 q with q|⟨u,hu,q⟩
  ·cases q;exact .inl rfl
  ·rcases List.mem_append.1 hu with hu|hu
   ·exact .inr ⟨u,.inl hu,q⟩
   ·rcases List.mem_cons.1 hu with rfl|hu
    ·cases q
    ·exact .inr ⟨u,.inr hu,q⟩
 have lM:∀o,own (m2 b) o->own (m b) o:=fun o q=>by
  rw[f1]
  rcases lr o q with rfl|⟨u,hu,q⟩
  ·exact cR.2 (.inl rfl)
  ·exact cR.2 (.inr ⟨u,by rcases hu with hu|hu<;>simp[hu],q⟩)
 have la:∀j,j∈[(b,bM.bn e k xs (some i))].map (·.1)\/j∈[(d,(⟨k.e,k.t,eA lk⟩:cp))].map (·.1)->j=b\/j=d:=fun j L=>by simpa using L
 have X:gt cx m m2 st w w [b,d] [(b,.bn e k xs (some i))] [(d,⟨k.e,k.t,eA lk⟩)]:={
  same:=⟨rfl,rfl,rfl,Nat.le_refl _,fun _=>Nat.le_refl _⟩
  block:=fun _ _ _=>rfl
  old:=fun j _ L=>lp j L
  new:=fun j L o q=>by
   rcases la j L with rfl|rfl
   ·exact .inl ⟨j,by simp,lo,lM o q⟩
   ·exact .inl ⟨b,by simp,lo,lL o (lg o q)⟩
  apart:=fun j lN L lO ls o q lt=>by
   have key:own (m2 b) o->own (m2 d) o->False:=fun lP lu=>by
    rcases lr o lP with rfl|⟨u,hu,lQ⟩
    ·exact(lq o (lg o lu)).1 rfl
    ·exact(lq o (lg o lu)).2 u hu lQ
   rcases la j L with rfl|rfl<;>rcases la lN lO with rfl|rfl
   ·exact ls rfl
   ·exact key q lt
   ·exact key lt q
   ·exact ls rfl
  keys:=by simpa using ll
  kz:=fun j L _=>by rcases la j L with rfl|rfl<;>simp
  j8:=fun lR c' U lv=>by simp at U;rw[U.2]at lv;cases lv
  eO:=fun lS c' V=>by simp at V;rw[V.1];exact lz}
 have lh:=X.mut (f:=ao.nL b [b,d])
 have lT:=h.dv X (fun M v s lb=>He f1 (by rw[lf,Z]) lp lb) (fun lR c' U=>by
   simp only[List.mem_cons,Prod.mk.injEq,List.not_mem_nil,or_false]at U
   obtain⟨rfl,rfl⟩:=U
   rw[lf]
   refine⟨0,⟨_,_,Z⟩,_,lc++undef::ld,Y++R++c2,Z,?_,?_,?_⟩
   ·have lU:cur.toList.take (xs.length*k.u.cells)=Y++R++c2:=by
     generalize cur.toList.drop (xs.length*k.u.cells)=lw at f6
     rw[f6,<-f9]
     have:Y++R++(c2++lw)=(Y++R++c2)++lw:=by simp
     rw[this,List.take_left]
    exact⟨f9,.inr ⟨g,cap,cur,rfl,Nat.zero_le _,f2,f3,f4,f5,lU⟩⟩
   ·have:=f15 (w':=w) (h':=some i) (x':=lx) (c':=R) (v':=undef) (fun _ _ _=>rfl) lh (fun j L=>⟨fun⟨_,W,_⟩=>(by cases W),fun⟨i0,W,lV⟩=>absurd (by rw[<-lV,Option.some.inj W]) L⟩) (fun _ _ _ _=>rfl) f8
     ⟨lB,v1,lC,lD,lE,lF,lG,cq (fun _ _ _=>rfl) lh k.u lH,fun _=>rfl,fun lW=>absurd ⟨i,rfl,rfl⟩ lW⟩
    rw[rl (iM li.1)]at this
    exact this
   ·have W:=DJ f14 (x:=undef) fun l8 lX=>by cases lX
    simpa[aP]using W) (fun lS c' V=>by
   simp only[List.mem_cons,Prod.mk.injEq,List.not_mem_nil,or_false]at V
   obtain⟨rfl,rfl⟩:=V
   rw[md]
   exact⟨cells,ln,cP (fun _ _=>cq (fun _ _ _=>rfl) lh k.t) lJ⟩)
 exact⟨m2,lT.NK t1 (by show vv=m2 d;rw[md])⟩
end Go.Ev
namespace Go.Ev
open Go Go.RowKit
variable [bV]
variable {cx:bx} {m aA:Nat->Value} {st st':af} {T:Array Value} {w w':World}
variable [ah cx]
def mi(P:Program)(o:TypeId):Option dH:=
 match ty P o,P.underlying o with
 |some (.ab t),some (.slice e)=>match ty P e with
  |some L=>bif t.beq L&&!(Nat.beq t.cells 0)then some ⟨.ab t,0,e,t⟩else none
  |none=>none
 |some u,some (.struct O)=>match O.toList.getLast? with
  |some q=>match P.underlying q.type with
   |some (.slice e)=>match ty P e with
    |some t=>bif !(Nat.beq t.cells 0)then some ⟨u,q.offset,e,t⟩else none
    |none=>none
   |_=>none
  |none=>none
 |_,_=>none
def wl(E:Env)(st:af)(aa:Oper)(orc:List ak):Option (af×List ak×List Prop):=
 match aa.dst,orc with
 |some d,⟨.unit,_⟩::orc'=>match Nat.blt d E.n,aa.op with
  |true,.assign (.const (.slice none 0 0))=>match dE E.P aa.type with
   |some (e,_)=>match mi E.P e with
    |some k=>some ((st.dv [d] [(d,.bn e k [] none)] [] (ao.dx [d])).put d (.osl d),orc',[])
    |none=>none
   |none=>none
  |true,.move (.const (.slice none 0 0))=>match dE E.P aa.type with
   |some (e,_)=>match mi E.P e with
    |some k=>some ((st.dv [d] [(d,.bn e k [] none)] [] (ao.dx [d])).put d (.osl d),orc',[])
    |none=>none
   |none=>none
  |true,.makeSlice t l c=>match dE E.P t,dL (aO st l),dL (aO st c)with
   |some (e,u),some n,some o=>match mi E.P e,kE E.P e,zeroOf E.P e,(E.P.info? e).bind (·.zero)with
    |some k,true,some q,some z=>match u.beq q&&u.beq k.u,z.cells.toList[k.off]? with
     |true,some (.slice none 0 0)=>some ((st.dv [d] [(d,.bn e k (List.replicate n.toNat (bX k.u)) none)] [] (ao.dx [d])).put d (.osl d),orc',
       [0<=n/\n<=o/\o<=(bq:Int),cb k.u (bX k.u) k.off ⟨.ab k.t,[]⟩=some (bX k.u),ct k.u (bX k.u) k.off (.ab k.t)=some (show(ag.ab k.t).el from[])])
     |_,_=>none
    |_,_,_,_=>none
   |_,_,_=>none
  |_,_=>none
 |_,_=>none
theorem an.FB(h:an cx m st T w){d e:Nat}(aj:d<cx.n){hd0:Value}{k:dH}{xs:List k.u.el}{cells us:List Value}{w':World}(V:Ext w w')(Y:∀g,g∈(hd0::us).filterMap aP->w.heap.size<=g/\g<w'.heap.size)(Z:w'.ownsRow 0 e k.u.cells hd0 xs.length cells)
  (la:∀M':Nat->Prop,(∀b,b<w.heap.size->M' b->ar cx m st.ids b)->eU w' M' k none 0 xs cells us)(lb:((hd0::us).filterMap aP).Nodup):
  an cx (bt m d (.tuple (hd0::us).toArray)) ((st.dv [d] [(d,.bn e k xs none)] [] (ao.dx [d])).put d (.osl d)) (T.setIfInBounds d hd0) w':=by
 obtain⟨v2,q⟩:∃v2,v2=Value.tuple (hd0::us).toArray:=⟨_,rfl⟩
 rw[<-q]
 have X:gt cx m (bt m d v2) st w w' [d] [(d,.bn e k xs none)] []:={
  same:=V.toSame
  block:=fun R O _=>V.block R O
  old:=fun j _ o=>cF _ _ fun e=>o (by simp[e])
  new:=fun j o R O=>by
   have:j=d:=by simpa using o
   subst this
   rw[b7,q]at O
   exact .inr (Y R (Rg.1 O))
  apart:=fun j lc o ld lg=>by
   have:j=d:=by simpa using o
   have:lc=d:=by simpa using ld
   omega
  keys:=by simp
  kz:=fun j o _=>by
   have:j=d:=by simpa using o
   simp[this]
  j8:=fun W c' L _=>by simp at L;rw[L.1];exact aj
  eO:=fun le c' U=>by cases U}
 refine(h.dv X (fun M v s lf=>kB (fun j o=>cF _ _ fun e=>o (by simp[e])) lf) (fun W c' L=>?_) (fun le c' U=>by cases U)).put aj ⟨us,by rw[b7,q]⟩
 simp only[List.mem_cons,Prod.mk.injEq,List.not_mem_nil,or_false]at L
 obtain⟨rfl,rfl⟩:=L
 rw[b7]
 exact⟨0,⟨_,_,q⟩,hd0,us,cells,q,Z,la _ (X.mut (f:=ao.dx [W])),lb⟩
theorem PJ{M:Nat->Prop}{k:dH}{z:Array Value}{x:k.u.el}(o:aK w M k.u z.toList x)(q:z.toList[k.off]? =some (.slice none 0 0))(O:cb k.u x k.off ⟨.ab k.t,[]⟩=some x)(R:ct k.u x k.off (.ab k.t)=some (show(ag.ab k.t).el from[])):
  ∀(n i:Nat),eU w M k none i (List.replicate n x) (madeCells z (n*k.u.cells)).toList (List.replicate n (.slice none 0 0)):=by
 have L:z.toList.length=k.u.cells:=b6 k.u o
 intro n
 induction n with
 |zero=>intro i;exact⟨by simp[madeCells],rfl⟩
 |succ n U=>
  intro i
  refine⟨z.toList,(madeCells z (n*k.u.cells)).toList,.slice none 0 0,List.replicate n (.slice none 0 0),D6 (by simpa using L) n,L,List.replicate_succ,?_,U (i+1)⟩
  exact⟨z.toList,.slice none 0 0,x,(rl q).symm,q,rfl,O,o,(fun⟨_,h,_⟩=>by cases h),fun _=>⟨rfl,[],[],R,World.ownsRow_nil w 0 _ _,rfl⟩⟩
theorem O4{E:Env}(V:br E cx)(h:al cx st T w){aa:Oper}{orc:List ak}{st':af}{orc':List ak}{ob:List Prop}(o:wl E st aa orc=some (st',orc',ob))(lm:bJ ob)
  {K:Act->World->Prop}{Q:Exit->Act->World->Prop}(lb:∀lc w',al cx st' lc w'->K ⟨lc,ah.D cx⟩ w'):aa.wp cx.P ⟨T,ah.D cx⟩ w K Q:=by
 obtain⟨m,W⟩:=h
 unfold wl at o
 split at o
 case h_2=>cases o
 rename_i d lH lI aj
 have nil:∀(e:Nat) (k:dH),d<cx.n->(execOp (Act.eval ⟨T,ah.D cx⟩) aa).run cx.P w=.ok (.value (.slice none 0 0)) w->st'=(st.dv [d] [(d,.bn e k [] none)] [] (ao.dx [d])).put d (.osl d)->aa.wp cx.P ⟨T,ah.D cx⟩ w K Q:=by
  intro e k q ln lo
  refine fQ ln ?_
  rw[aj]
  refine lb _ _ ⟨_,lo▸W.FB q (hd0:=.slice none 0 0) (e:=e) (k:=k) (xs:=[]) (us:=[]) (cells:=[]) (Ext.refl w) (fun g R=>by simp[aP]at R) (World.ownsRow_nil w 0 _ _) (fun _ _=>⟨rfl,rfl⟩) List.nodup_nil⟩
 split at o
 ·rename_i q U
  have q:d<cx.n:=by rw[V.n];exact cw q
  split at o
  case h_2=>cases o
  split at o
  case h_2=>cases o
  cases o
  exact nil _ _ q (by simp only[execOp,U];rfl) rfl
 ·rename_i q U
  have q:d<cx.n:=by rw[V.n];exact cw q
  split at o
  case h_2=>cases o
  split at o
  case h_2=>cases o
  cases o
  exact nil _ _ q (by simp only[execOp,U];rfl) rfl
 ·rename_i t l c q U
  have q:d<cx.n:=by rw[V.n];exact cw q
  split at o
  case h_2=>cases o
  rename_i e u n L ld lp lq
  split at o
  case h_2=>cases o
  rename_i k lJ z lK le lf O
  split at o
  case h_2=>cases o
  rename_i aY lr
  cases o
  simp only[Bool.and_eq_true]at aY
  obtain rfl:=ag.eq_of_beq aY.1
  obtain⟨⟨ls,lt,lL⟩,lu,lv,_⟩:=lm
  rw[<-V.P]at ld le lf O
  have lw:=ag.eq_of_beq aY.2
  obtain⟨Z,lM,lN⟩:=il ld
  obtain⟨i,lO,_,la,lg,lh,lx⟩:=iO lf
  rw[la]at O
  have O:i.zero=some z:=O
  rw[lh]at O
  cases O
  obtain⟨i2,li,lP⟩:=sJ le
  rw[la]at li
  cases li
  obtain⟨lj,ly⟩:=eR W lp
  obtain⟨lk,lz⟩:=eR W lq
  have lQ:(bq:Int)=2147483648:=rfl
  have lA:0<=L:=by omega
  have lB:(i.bytes:Int)*L<=281474976710656:=by
   have lC:(i.bytes:Int)<=65536:=by omega
   calc (i.bytes:Int)*L<=65536*L:=Int.mul_le_mul_of_nonneg_right lC lA
    _<=281474976710656:=by omega
  have lD:=run_make (P:=cx.P) w t e i z Z la lh lj lk n L ls lt lB (by omega)
  subst lw
  have Y:(List.replicate n.toNat (bX k.u)).length=n.toNat:=List.length_replicate
  have lE:(madeCells z.cells (L.toNat*i.size)).toList.take ((List.replicate n.toNat (bX k.u)).length*k.u.cells)=(madeCells z.cells (n.toNat*k.u.cells)).toList:=by
   rw[Y,lg]
   simp only[madeCells,Array.toList_map,Array.toList_range,<-List.map_take]
   rw[List.take_range]
   congr 2
   have:n.toNat*k.u.cells<=L.toNat*k.u.cells:=Nat.mul_le_mul_right _ (by omega)
   omega
  have lF:Ext w (w.alloc (.cells (madeCells z.cells (L.toNat*i.size)) e)):=gL _ _
  have lG:∀(w':World) (M':Nat->Prop),eU w' M' k none 0 (List.replicate n.toNat (bX k.u)) (madeCells z.cells (n.toNat*k.u.cells)).toList (List.replicate n.toNat (.slice none 0 0)):=fun w' M'=>PJ (lx w' M') lr lu lv _ _
  have ll:((Value.slice (some ⟨w.heap.size,0,none⟩) n.toNat L.toNat)::List.replicate n.toNat (Value.slice none 0 0)).filterMap aP=[w.heap.size]:=by
   rw[List.filterMap_cons]
   show w.heap.size::_=_
   congr 1
   rw[List.filterMap_eq_nil_iff]
   intro u Z
   rw[List.eq_of_mem_replicate Z]
   rfl
  refine fQ (ca (s:=Instr.makeSlice t (.int lj n) (.int lk L)) (by simp only[execOp,U,ly,lz]) lD) ?_
  rw[aj]
  refine lb _ _ ⟨_,W.FB q lF (us:=List.replicate n.toNat (.slice none 0 0)) (fun g R=>?_) ⟨?_,.inr ⟨w.heap.size,L.toNat,madeCells z.cells (L.toNat*i.size),?_,Nat.zero_le _,heap_alloc_new w _,?_,?_,?_,lE⟩⟩ (fun M' _=>lG _ M') (by rw[ll];simp)⟩
  ·rw[ll]at R
   simp at R
   subst R
   exact⟨Nat.le_refl _,by simp⟩
  ·rw[Y,Array.length_toList,size_madeCells]
  ·rw[Y]
  ·rw[Y];omega
  ·simp only[maxLen];omega
  ·rw[size_madeCells,lg]
 ·cases o
end Go.Ev
namespace Go.Ev
open Go Go.RowKit
variable [bV]
variable {cx:bx} {m aA:Nat->Value} {st st':af} {T:Array Value} {w w':World}
variable [ah cx]
def oX:List ao->Option (List bQ)
 |[]=>some []
 |.val t x::l=>match oX l with
  |some r=>some (.v ⟨t,x⟩::r)
  |none=>none
 |.row b::l=>match oX l with
  |some r=>some (.r b::r)
  |none=>none
 |_=>none
theorem Af{M:Nat->Prop}:∀{cs:List Value} {l:List ao} {r:List bQ},oX l=some r->cg w M m cs l->cM w M m cs r
 |[],[],r,h,_=>by cases h;trivial
 |[],_::_,_,_,h=>h.elim
 |_::_,[],_,_,h=>h.elim
 |c::cs,s::l,r,h,⟨q,L⟩=>by
  unfold oX at h
  split at h
  ·rename_i e;cases e
  ·rename_i t x O e
   cases e
   split at h
   ·rename_i R o;cases h;exact⟨q,Af o L⟩
   ·cases h
  ·rename_i b O e
   cases e
   split at h
   ·rename_i R o;cases h;exact⟨q,Af o L⟩
   ·cases h
  ·cases h
def bQ.isRow:bQ->Bool
 |.r _=>true
 |_=>false
def zD(P:Program)(st:af)(t:TypeId)(x:Operand)(orc:List ak):Option di:=
 match aO st x,ty P t with
 |some (.ptr b off),some u=>match look st.ad b,u.agg with
  |some (.cells l _),true=>match oX ((l.drop off).take u.cells),Nat.beq ((l.drop off).take u.cells).length u.cells with
   |some r,true=>bif r.any bQ.isRow then some ⟨.ep r,orc,[]⟩else none
   |_,_=>none
  |_,_=>none
 |_,_=>none
theorem IS(h:an cx m st T w){t:TypeId}{x:Operand}{orc:List ak}{q:di}(o:zD cx.P st t x orc=some q):
  ∃v,(∀w',Ext w w'->(Instr.loadAt t (Act.eval ⟨T,ah.D cx⟩ x)).run cx.P w'=.ok v w')/\aN w (ar cx m st.ids) m v q.aM:=by
 unfold zD at o
 split at o
 case h_2=>cases o
 rename_i b off u la lb
 split at o
 case h_2=>cases o
 rename_i l e lc R
 split at o
 case h_2=>cases o
 rename_i r ld L
 have o:some (⟨.ep r,orc,[]⟩:di)=some q:=by
  cases U:r.any bQ.isRow with
  |false=>rw[U]at o;cases o
  |true=>rw[U]at o;exact o
 cases o
 have L:=Nat.eq_of_beq_eq_true L
 obtain⟨g,le,lf⟩:=a8 h la
 obtain⟨lg,V,_,cells,lh,li⟩:=h.box (aW lc)
 have:lg=g:=by rw[le]at V;cases V;rfl
 subst this
 have W:=(ij u.cells (ij off li).2).1
 have lj:=jW W
 obtain⟨v,lk,Y⟩:=io (P:=cx.P) (c:=(cells.toList.drop off).take u.cells) (off:=off) lb lh (fun j v O=>by
  have ll:=(List.getElem?_eq_some_iff.1 O).1
  rw[List.getElem?_take_of_lt (by rw[List.length_take]at ll;omega),List.getElem?_drop]at O
  simpa using O) (by rw[lj,L]) (fun Z=>by rw[R]at Z;cases Z)
 rw[R,if_pos rfl]at Y
 refine⟨v,fun w' lm=>?_,_,Y,Af ld W⟩
 rw[lf]
 exact lk w' lm
def nF(P:Program)(st:af)(aa:Oper)(orc:List ak):Option di:=
 match aa.op with
 |.indexAddr t x i=>match aO st x,dL (aO st i),ty P t with
  |some (.osl b),some n,some (.ab u)=>match look st.ad b with
   |some (.bn _ k xs _)=>bif u.beq k.u then some ⟨.dy b n 0 k.u.cells,orc,[0<=n/\n<(xs.length:Int)]⟩else none
   |_=>none
  |some (.sub b i0),some n,some (.ab u)=>match look st.ad b,orc with
   |some (.bn _ k xs none),a::orc'=>match a.as k.u,u.beq k.t with
    |some o,true=>match ct k.u o k.off (.ab k.t)with
     |some q=>some ⟨.eH b i0 n 0 k.t.cells,orc',[aq xs i0=some o,0<=n/\n<((eA q).length:Int)]⟩
     |none=>none
    |_,_=>none
   |_,_=>none
  |_,_,_=>none
 |.fieldAddr t x f=>match aO st x,fieldInfo P t f with
  |some (.dy b i off L),some (O,_)=>some ⟨.dy b i (off+O) L,orc,[]⟩
  |some (.eH b i j off L),some (O,_)=>some ⟨.eH b i j (off+O) L,orc,[]⟩
  |_,_=>none
 |.load t x=>match yx P st t x orc with
  |some r=>some r
  |none=>zD P st t x orc
 |.call c=>match c.callee,c.args.toList,c.argTypes.toList with
  |.builtin .len,[x],[t]=>match aO st x,ty P t with
   |some (.osl b),some (.ab _)=>match look st.ad b with
    |some (.bn _ _ xs _)=>some ⟨.val (.int .i64) (xs.length:Int),orc,[]⟩
    |_=>none
   |some (.sub b i),some (.ab _)=>match look st.ad b,orc with
    |some (.bn _ k xs none),a::orc'=>match a.as k.u with
     |some o=>match ct k.u o k.off (.ab k.t)with
      |some q=>some ⟨.val (.int .i64) ((eA q).length:Int),orc',[aq xs i=some o]⟩
      |none=>none
     |none=>none
    |_,_=>none
   |_,_=>none
  |_,_,_=>none
 |_=>none
def nm(st:af):List bQ->Option (List ao)
 |[]=>some []
 |.v u::l=>match nm st l,u.t.agg with
  |some r,false=>some (.val u.t u.x::r)
  |_,_=>none
 |.r b::l=>match nm st l,look st.rw b with
  |some r,some _=>some (.row b::r)
  |_,_=>none
 |.a::_=>none
theorem tI(h:an cx m st T w){M:Nat->Prop}:∀{vs:List Value} {l:List bQ} {r:List ao},nm st l=some r->cM w M m vs l->cg w M m vs r/\(∀v∈vs,v.oneCell'=true)/\r.length=l.length
 |[],[],r,o,_=>by cases o;exact⟨trivial,(fun v Y=>by cases Y),rfl⟩
 |[],x::_,_,_,h=>by cases x<;>exact h.elim
 |_::_,[],_,_,h=>h.elim
 |v::vs,.v u::l,r,o,⟨L,O⟩=>by
  unfold nm at o
  split at o
  ·rename_i Z R la
   cases o
   obtain⟨U,V,W⟩:=tI h R O
   refine⟨⟨L,U⟩,fun x q=>?_,by simp[W]⟩
   rcases List.mem_cons.1 q with rfl|q
   ·exact gh u.t ((bA la).1 L) _ (by simp)
   ·exact V x q
  ·cases o
 |v::vs,.r b::l,r,o,⟨L,O⟩=>by
  unfold nm at o
  split at o
  ·rename_i Z c R lb
   cases o
   obtain⟨U,V,W⟩:=tI h R O
   refine⟨⟨L,U⟩,fun x q=>?_,by simp[W]⟩
   rcases List.mem_cons.1 q with rfl|q
   ·rw[L];exact row_one h (aW lb)
   ·exact V x q
  ·cases o
 |v::vs,.a::l,r,o,_=>by cases o
def zX(P:Program)(st:af)(t:TypeId)(x y:Operand)(orc:List ak):Option (af×List ak×List Prop):=
 match aO st x,ty P t,aO st y with
 |some (.ptr b off),some u,some (.ep l)=>match look st.ad b,nm st l,Nat.beq l.length u.cells with
  |some (.cells c e),some aM,true=>bif Nat.ble (off+u.cells) c.length then some (st.cL b (.cells (c.take off++aM++c.drop (off+u.cells)) e),orc,[])else none
  |_,_,_=>none
 |_,_,_=>none
theorem Nv(h:an cx m st T w){t:TypeId}{x y:Operand}{orc orc':List ak}{st':af}{ob:List Prop}(o:zX cx.P st t x y orc=some (st',orc',ob)):
  ∃w',(Instr.storeAt t (Act.eval ⟨T,ah.D cx⟩ x) (Act.eval ⟨T,ah.D cx⟩ y)).run cx.P w=.ok () w'/\an cx m st' T w':=by
 unfold zX at o
 split at o
 case h_2=>cases o
 rename_i b off u l le lf lg
 obtain⟨g,L,lh⟩:=a8 h le
 split at o
 case h_2=>cases o
 rename_i c e aM li lj O
 cases R:Nat.ble (off+u.cells) c.length with
 |false=>rw[R]at o;cases o
 |true=>
  rw[R]at o
  cases o
  have lk:=Nat.le_of_ble_eq_true R
  have O:=Nat.eq_of_beq_eq_true O
  have q:=aW li
  obtain⟨U,la,_,cells,lb,V⟩:=h.box q
  have:U=g:=by rw[L]at la;cases la;rfl
  subst this
  have ll:b∈st.ids:=List.mem_append.2 (.inl (List.mem_map.2 ⟨_,q,rfl⟩))
  have lm:=jW V
  obtain⟨vs,ln,lo⟩:=a8 h lg
  obtain⟨lc,lp,lq⟩:=tI h lj lo
  have lr:vs.length=u.cells:=by rw[jW lc,lq,O]
  have W:(Act.eval ⟨T,ah.D cx⟩ y).cells=vs.toArray:=by rw[ln];rfl
  have ls:off+u.cells<=cells.size:=by rw[<-Array.length_toList,lm];exact lk
  have lt:=kg (P:=cx.P) (v:=Act.eval ⟨T,ah.D cx⟩ y) lf lb (by rw[W];simpa using lr) ls (by rw[W];exact lp)
  refine⟨_,by rw[lh];exact lt,?_⟩
  have ld:Touch m w b (w.setRow U (cells.toList.take off++(Act.eval ⟨T,ah.D cx⟩ y).cells.toList++cells.toList.drop (off+u.cells)).toArray):=
   ⟨iP _ _ _,fun k lx lu=>setRow_other _ _ _ _ (fun e=>lu (by rw[L,e];rfl))⟩
  obtain⟨lv,_⟩:=iZ q h.keys (.cells (c.take off++aM++c.drop (off+u.cells)) e)
  obtain⟨Y,Z⟩:=an.fU (cx:=cx) ll ld lv
  refine h.cL q ld (g:=U) L ⟨_,setRow_heap _ _ _ _ _ _ lb,?_⟩
  simp only[]
  have lw:cg w (ar cx m st.ids) m (Act.eval ⟨T,ah.D cx⟩ y).cells.toList aM:=by rw[W];exact lc
  exact jI (jI (kU Y Z (ij off V).1) (kU Y Z lw)) (kU Y Z (ij (off+u.cells) V).2)
def CG(E:Env)(st:af)(aa:Oper)(orc:List ak):Option (af×List ak×List Prop):=
 match aa.dst with
 |none=>match aa.op with
  |.store t x y=>match zQ E.P E.n st t x y orc with
   |some r=>some r
   |none=>zX E.P st t x y orc
  |_=>none
 |some d=>match Nat.blt d E.n with
  |false=>none
  |true=>match nF E.P st aa orc with
   |some r=>some (st.put d r.aM,r.orc,r.ob)
   |none=>match aa.op with
    |.call c=>match c.callee,c.args.toList with
     |.builtin .append,[.tmp a,_]=>match look st.ab a with
      |some (.sub b i)=>match uq E.n st b i a d orc with
       |some (s,o,q)=>match kT E s aa o with
        |some (L,O,R)=>some (L,O,q++R)
        |none=>none
       |none=>none
      |_=>none
     |_,_=>none
    |_=>none
theorem rL:∀{a b:List Prop},bJ (a++b)->bJ a/\bJ b
 |[],_,h=>⟨trivial,h⟩
 |_::_,_,⟨q,o⟩=>⟨⟨q,(rL o).1⟩,(rL o).2⟩
theorem Tu(h:an cx m st T w){t:TypeId}{x y:Operand}{orc orc':List ak}{ob:List Prop}(o:zQ cx.P cx.n st t x y orc=some (st',orc',ob))(L:bJ ob):
  ∃w' aA,(Instr.storeAt t (Act.eval ⟨T,ah.D cx⟩ x) (Act.eval ⟨T,ah.D cx⟩ y)).run cx.P w=.ok () w'/\an cx aA st' T w':=by
 unfold zQ at o
 split at o
 ·rename_i b i off lc ld li z R U V
  split at o
  case h_2=>cases o
  rename_i e k xs a le W
  split at o
  case h_2=>cases o
  rename_i lf _ aY
  simp only[Bool.and_eq_true,Bool.or_eq_true]at aY
  obtain⟨⟨q,O⟩,Z⟩:=aY
  split at o
  case h_2=>cases o
  rename_i lg lt Y lj
  split at o
  case h_2=>cases o
  rename_i lu lk
  cases o
  have q:=Nat.eq_of_beq_eq_true q
  subst q
  obtain rfl:=ag.eq_of_beq O
  obtain⟨w',la,Y⟩:=JL h W R U V (Z.elim (fun h=>.inl (Nat.le_of_ble_eq_true h)) fun h=>.inr (cw h)) Y lj lk L.1 L.2.1 L.2.2.1
  exact⟨w',m,la,Y⟩
 ·rename_i b i j off lc ld li z R U V
  split at o
  case h_2=>cases o
  rename_i e k xs a c le W
  split at o
  case h_2=>cases o
  rename_i lf z0 _ _ aY
  simp only[Bool.and_eq_true]at aY
  obtain⟨q,O⟩:=aY
  split at o
  case h_2=>cases o
  rename_i ll lv lb lm
  split at o
  case h_2=>cases o
  rename_i lg ln
  cases o
  have q:=Nat.eq_of_beq_eq_true q
  subst q
  obtain rfl:=ag.eq_of_beq O
  obtain⟨w',la,Y⟩:=QE h W R U V lb lm L.1 L.2.1 L.2.2.1 L.2.2.2.1
  exact⟨w',m,la,Y⟩
 ·rename_i b i off lc ld r R U V
  split at o
  case h_2=>cases o
  rename_i e k xs lw c a le W lh
  split at o
  case h_2=>cases o
  rename_i lf ll _ aY lb
  simp only[Bool.and_eq_true,Bool.not_eq_true']at aY
  obtain⟨q,O,Z,lo,lp⟩:=aY
  split at o
  case h_2=>cases o
  rename_i lg ln
  cases o
  have q:=Nat.eq_of_beq_eq_true q
  subst q
  have O:=Nat.eq_of_beq_eq_true O
  subst O
  obtain rfl:=ag.eq_of_beq Z
  have lq:=BN (Nat.eq_of_beq_eq_true lo) lb
  rw[lq]at lh
  obtain⟨⟨lr,aX,dM,_⟩,ft⟩:=rL L
  exact LU h W lh (beq_false lp) R U V lr aX dM (fun i0 ls=>by subst ls;exact ft.1)
 ·cases o
theorem BA(h:an cx m st T w){aa:Oper}{orc:List ak}{r:di}(o:nF cx.P st aa orc=some r)(ld:bJ r.ob):
  ∃v,(∀w',Ext w w'->(execOp (Act.eval ⟨T,ah.D cx⟩) aa).run cx.P w'=.ok (.value v) w')/\aN w (ar cx m st.ids) m v r.aM:=by
 have L:=h
 unfold nF at o
 have fin:∀(v:Value) (aM:ao),(∀w',(execOp (Act.eval ⟨T,ah.D cx⟩) aa).run cx.P w'=.ok (.value v) w')->aN w (ar cx m st.ids) m v aM->aM=r.aM->∃v,(∀w',Ext w w'->(execOp (Act.eval ⟨T,ah.D cx⟩) aa).run cx.P w'=.ok (.value v) w')/\aN w (ar cx m st.ids) m v r.aM:=
  fun v aM le lE lF=>⟨v,fun w' _=>le w',lF▸lE⟩
 split at o
 ·rename_i t x i R
  split at o
  ·rename_i b n u O lm Y
   split at o
   case h_2=>cases o
   rename_i e k xs lG Z
   cases aY:u.beq k.u with
   |false=>rw[aY]at o;cases o
   |true=>
    rw[aY]at o
    cases o
    obtain rfl:=ag.eq_of_beq aY
    obtain⟨ln,le⟩:=ld.1
    obtain⟨hd0,us,cells,W,la,lo,lH⟩:=L.bn Z
    have lp:0<xs.length:=by omega
    obtain⟨g,cap,cur,q,_⟩:=n9 la lp
    subst q
    obtain⟨lI,lq⟩:=a8 L O
    have U:Act.eval ⟨T,ah.D cx⟩ x=.slice (some ⟨g,0,none⟩) xs.length cap:=(iA (lq.symm.trans W)).1
    obtain⟨lJ,lr⟩:=eR L lm
    obtain⟨_,_,_,lb,d2,V,lf⟩:=cQ Y
    refine fin (.pointer (some ⟨g,n.toNat*k.u.cells+0,none⟩)) (.dy b n 0 k.u.cells) (fun w'=>ca (s:=Instr.indexAt t (Act.eval ⟨T,ah.D cx⟩ x) (Act.eval ⟨T,ah.D cx⟩ i)) (by simp only[execOp,R]) ?_) ⟨g,_,cap,us,W,rfl⟩ rfl
    have lg:(⟨g,0,none⟩:Addr).add (n.toNat*k.u.cells)=⟨g,n.toNat*k.u.cells+0,none⟩:=by rw[fR];simp
    rw[U,lr]
    simp only[Instr.indexAt,asIntOf,Sem.run_bind,Sem.run_pure,Result.andThen_ok,run_underlying V]
    rw[if_pos ⟨ln,le⟩]
    simp only[Sem.run_bind,eB lf,Result.andThen_ok,Sem.run_pure,lg]
  ·rename_i b i0 n u O lm Y
   split at o
   case h_2=>cases o
   rename_i e k xs a lK Z
   split at o
   case h_2=>cases o
   rename_i lL _ aY
   split at o
   case h_2=>cases o
   rename_i lc ls
   cases o
   obtain rfl:=ag.eq_of_beq aY
   obtain⟨ln,le⟩:=ld.2.1
   obtain⟨g,cap,cur,us,lM,c,c2,lN,v,lO,f1,f2,f3,f4,f5,f6,f7,f8,f9,f10,f11,f12,f13,f14,f15⟩:=L.jz Z (iM ld.1)
   obtain⟨lP,cells,lh,lt,lQ,lR⟩:=r3 f13
   rw[ls]at lh
   cases lh
   have lp:0<(eA lc).length:=by omega
   obtain⟨g2,lS,lX,q,_⟩:=n9 lt lp
   obtain⟨lk,ly,t2,t3⟩:=a8 L O
   have U:Act.eval ⟨T,ah.D cx⟩ x=v:=by
    rw[f1]at t2
    rw[<-(iA t2).2,f10,<-f11]at t3
    simpa using t3.symm
   obtain⟨lJ,lr⟩:=eR L lm
   obtain⟨_,_,_,lb,d2,V,lf⟩:=cQ Y
   refine fin (.pointer (some ⟨g2,n.toNat*k.t.cells+0,none⟩)) (.eH b i0 n 0 k.t.cells) (fun w'=>ca (s:=Instr.indexAt t (Act.eval ⟨T,ah.D cx⟩ x) (Act.eval ⟨T,ah.D cx⟩ i)) (by simp only[execOp,R]) ?_) ⟨lk,ly,g2,_,lS,t2,by rw[t3,U,q],rfl⟩ rfl
   have lg:(⟨g2,0,none⟩:Addr).add (n.toNat*k.t.cells)=⟨g2,n.toNat*k.t.cells+0,none⟩:=by rw[fR];simp
   rw[U,q,lr]
   simp only[Instr.indexAt,asIntOf,Sem.run_bind,Sem.run_pure,Result.andThen_ok,run_underlying V]
   rw[if_pos ⟨ln,le⟩]
   simp only[Sem.run_bind,eB lf,Result.andThen_ok,Sem.run_pure,lg]
  ·cases o
 ·rename_i t x f R
  split at o
  ·rename_i b i off li lj lT O lu
   cases o
   obtain⟨g,n,cap,us,W,la⟩:=a8 L O
   refine fin (.pointer (some ⟨g,i.toNat*li+(off+lj),none⟩)) (.dy b i (off+lj) li) (fun w'=>ca (s:=Instr.fieldAt t (Act.eval ⟨T,ah.D cx⟩ x) f) (by simp only[execOp,R]) ?_) ⟨g,n,cap,us,W,rfl⟩ rfl
   rw[la,kO lu,fR,Nat.add_assoc]
  ·rename_i b i j off li lj lT O lu
   cases o
   obtain⟨lk,us,g,n,cap,W,la,lo⟩:=a8 L O
   refine fin (.pointer (some ⟨g,j.toNat*li+(off+lj),none⟩)) (.eH b i j (off+lj) li) (fun w'=>ca (s:=Instr.fieldAt t (Act.eval ⟨T,ah.D cx⟩ x) f) (by simp only[execOp,R]) ?_) ⟨lk,us,g,n,cap,W,la,rfl⟩ rfl
   rw[lo,kO lu,fR,Nat.add_assoc]
  ·cases o
 ·rename_i t x R
  split at o
  ·rename_i lY lU
   cases o
   obtain⟨v,lv,q⟩:=Kt L lU ld
   exact⟨v,fun w' lw=>ca (by simp only[execOp,R]) (lv w' lw),q⟩
  ·obtain⟨v,lv,q⟩:=IS L o
   exact⟨v,fun w' lw=>ca (by simp only[execOp,R]) (lv w' lw),q⟩
 ·rename_i c R
  split at o
  ·rename_i x t lz lA lB
   obtain⟨lZ,args,lC⟩:=c
   simp only at lz lA lB
   subst lz
   have lg:args=#[x]:=by rw[<-Array.toArray_toList (xs:=args),lA]
   have lV:lC=#[t]:=by rw[<-Array.toArray_toList (xs:=lC),lB]
   subst lg
   subst lV
   have ll:∀(a:Option Addr) (n cap:Nat) (lD:TypeId),Act.eval ⟨T,ah.D cx⟩ x=.slice a n cap->cx.P.underlying t=some (.slice lD)->∀w',(execOp (Act.eval ⟨T,ah.D cx⟩) aa).run cx.P w'=.ok (.value (.int .i64 (n:Int))) w':=by
    intro a n cap lD q lW w'
    simp only[execOp,R,resolve,invoke,builtin,Sem.run_bind,Sem.run_pure,Result.andThen_ok,List.map_toArray,List.map_cons,List.map_nil,q]
    simp[Builtin.len_,run_underlying lW,goInt]
   split at o
   ·rename_i b u O Y
    split at o
    case h_2=>cases o
    rename_i e k xs lG Z
    cases o
    obtain⟨hd0,us,cells,W,la,lo,lH⟩:=L.bn Z
    obtain⟨lI,lq⟩:=a8 L O
    have U:Act.eval ⟨T,ah.D cx⟩ x=hd0:=(iA (lq.symm.trans W)).1
    obtain⟨_,_,_,lb,d2,V,lf⟩:=cQ Y
    rcases la.2 with ⟨q,lx⟩|⟨g,cap,cur,q,_⟩
    ·refine fin (.int .i64 (xs.length:Int)) (.val (.int .i64) (xs.length:Int)) ?_ (cJ.2 rfl) rfl
     intro w'
     rw[lx]
     exact ll none 0 0 lb (by rw[U,q]) V w'
    ·exact fin (.int .i64 (xs.length:Int)) (.val (.int .i64) (xs.length:Int)) (ll _ _ _ lb (by rw[U,q]) V) (cJ.2 rfl) rfl
   ·rename_i b i u O Y
    split at o
    case h_2=>cases o
    rename_i e k xs a lK Z
    split at o
    case h_2=>cases o
    rename_i lL _
    split at o
    case h_2=>cases o
    rename_i lc ls
    cases o
    obtain⟨g,cap,cur,us,lM,c,c2,lN,v,lO,f1,f2,f3,f4,f5,f6,f7,f8,f9,f10,f11,f12,f13,f14,f15⟩:=L.jz Z (iM ld.1)
    obtain⟨lP,cells,lh,lt,lQ,lR⟩:=r3 f13
    rw[ls]at lh
    cases lh
    obtain⟨lk,ly,t2,t3⟩:=a8 L O
    have U:Act.eval ⟨T,ah.D cx⟩ x=v:=by
     rw[f1]at t2
     rw[<-(iA t2).2,f10,<-f11]at t3
     simpa using t3.symm
    obtain⟨_,_,_,lb,d2,V,lf⟩:=cQ Y
    rcases lt.2 with ⟨q,lx⟩|⟨g,cap,cur,q,_⟩
    ·refine fin (.int .i64 ((eA lc).length:Int)) (.val (.int .i64) ((eA lc).length:Int)) ?_ (cJ.2 rfl) rfl
     intro w'
     rw[show(eA lc).length=0 from lx]
     exact ll none 0 0 lb (by rw[U,q]) V w'
    ·exact fin (.int .i64 ((eA lc).length:Int)) (.val (.int .i64) ((eA lc).length:Int)) (ll _ _ _ lb (by rw[U,q]) V) (cJ.2 rfl) rfl
   ·cases o
  ·cases o
 ·cases o
theorem IK{E:Env}(q:br E cx)(h:al cx st T w){aa:Oper}{orc:List ak}{st':af}{orc':List ak}{ob:List Prop}(o:CG E st aa orc=some (st',orc',ob))(R:bJ ob)
  {K:Act->World->Prop}{Q:Exit->Act->World->Prop}(U:∀W w',al cx st' W w'->K ⟨W,ah.D cx⟩ w'):aa.wp cx.P ⟨T,ah.D cx⟩ w K Q:=by
 obtain⟨m,O⟩:=h
 unfold CG at o
 split at o
 ·rename_i aj
  split at o
  case h_2=>cases o
  rename_i t x y Y
  rw[<-q.P,<-q.n]at o
  obtain⟨w',aA,V,la⟩:∃w' aA,(Instr.storeAt t (Act.eval ⟨T,ah.D cx⟩ x) (Act.eval ⟨T,ah.D cx⟩ y)).run cx.P w=.ok () w'/\an cx aA st' T w':=by
   split at o
   ·rename_i r L
    cases o
    exact Tu O L R
   ·obtain⟨w',lb,lc⟩:=Nv O o
    exact⟨w',m,lb,lc⟩
  unfold Oper.wp
  have L:(execOp (Act.eval ⟨T,ah.D cx⟩) aa).run cx.P w=.ok .skip w':=by
   simp only[execOp,Y,Sem.run_bind,V,Result.andThen_ok,Sem.run_pure]
  rw[L]
  show K (Act.put ⟨T,ah.D cx⟩ aa.dst undef) w'
  rw[aj]
  exact U T w' ⟨aA,la⟩
 ·rename_i d aj
  split at o
  case h_1=>cases o
  rename_i ld
  have le:d<cx.n:=by rw[q.n];exact cw ld
  split at o
  ·rename_i r L
   cases o
   rw[<-q.P]at L
   obtain⟨v,V,lf⟩:=BA O L R
   refine fQ (V w (Ext.refl w)) ?_
   rw[aj]
   exact U _ _ ⟨m,O.put le lf⟩
  split at o
  ·rename_i c Y
   split at o
   ·rename_i a y ll lm
    split at o
    case h_2=>cases o
    rename_i b i lg
    split at o
    case h_2=>cases o
    rename_i ln lo lp Z
    split at o
    case h_2=>cases o
    rename_i lq lr ls lh
    cases o
    obtain⟨li,lj⟩:=rL R
    rw[<-q.n]at Z
    obtain⟨aA,lk⟩:=J8 O lg Z li
    exact oH q ⟨aA,lk⟩ lh lj U
   ·cases o
  ·cases o
end Go.Ev
namespace Go.Ev
open Go Go.RowKit
variable [bV]
variable {cx:bx} {m aA:Nat->Value} {st st':af} {T:Array Value} {w w':World}
variable [ah cx]
theorem Hi{M:Nat->Prop}{e:Nat}{t:ag}{v:Value}{cells:List Value}{xs:List t.el}(h:w.ownsRow 0 e t.cells v xs.length cells)(L:bL (aK w M t) cells xs)(O:∀g,aP v=some g->¬M g):aK w M (.ab t) [v] xs:=by
 rcases h.2 with ⟨o,R⟩|⟨g,cap,cur,o,_,Y,U,V,Z,la⟩
 ·have W:xs=[]:=List.eq_nil_of_length_eq_zero R
  rw[W,o]
  exact⟨none,0,[],rfl,Nat.le_refl _,by decide,fun _=>rfl,rfl,fun j u q=>by simp at q⟩
 ·exact⟨some ⟨g,0,none⟩,cap,cells,by rw[o],U,V,(fun e=>by cases e),L,fun j u q=>⟨_,rfl,h.cells (g:=g) (by rw[o];rfl) j u q,O g (by rw[o];rfl)⟩⟩
theorem ak.MY{t:ag}{a x y:t.el}(h:ak.as ⟨t,a⟩ t=some y):ak.as ⟨t,x⟩ t=some x:=by
 have q:t.beq t=true:=by
  unfold ak.as at h
  split at h
  ·assumption
  ·cases h
 unfold ak.as
 split
 ·rfl
 ·rename_i o;rw[q]at o;cases o
theorem RS:∀(t:ag) {x L:t.el} {off:Nat} {e:ag} {a O:List e.el},cb t x off ⟨.ab e,a⟩=some L->ct t x off (.ab e)=some O->cb t L off ⟨.ab e,O⟩=some x:=by
 intro t
 induction t with
 |ab t W=>
  intro x L off e a O o R
  obtain⟨rfl,q⟩:=eD (t:=.ab t) o
  obtain⟨_,V⟩:=gc (t:=.ab t) R
  cases q
  cases V
  exact ak.MY (t:=.ab t) o
 |int k=>intro x L off e a O o;obtain⟨_,q⟩:=eD (t:=.int k) o;cases q
 |bool=>intro x L off e a O o;obtain⟨_,q⟩:=eD (t:=.bool) o;cases q
 |str=>intro x L off e a O o;obtain⟨_,q⟩:=eD (t:=.str) o;cases q
 |ptr t W=>intro x L off e a O o;obtain⟨_,q⟩:=eD (t:=.ptr t) o;cases q
 |fn f t W=>intro x L off e a O o;obtain⟨_,q⟩:=eD (t:=.fn f t) o;cases q
 |err=>intro x L off e a O o;obtain⟨_,q⟩:=eD (t:=.err) o;cases q
 |ck=>intro x L off e a O o;obtain⟨_,q⟩:=eD (t:=.ck) o;cases q
 |cy n t W=>intro x L off e a O o;obtain⟨_,q⟩:=eD (t:=.cy n t) o;cases q
 |alt n t r _ _=>intro x L off e a O o;obtain⟨_,q⟩:=eD (t:=.alt n t r) o;cases q
 |map p la _ _=>intro x L off e a O o;obtain⟨_,q⟩:=eD (t:=.map p la) o;cases q
 |unit=>intro x L off e a O o;obtain⟨_,q⟩:=eD (t:=.unit) o;cases q
 |arr n t W=>
  intro x L off e a O o R
  unfold cb at o⊢
  unfold ct at R
  split at o
  ·rename_i y Y U;have:=ak.cO U;cases this
  ·split at R
   ·rename_i y Y U;obtain⟨_,V⟩:=gc (t:=.arr n t) (off:=0) (by rw[show Nat.beq 0 0=true from rfl,cond_true];exact U);cases V
   split
   ·rename_i y Y U;have:=ak.cO U;cases this
   cases ld:Nat.beq t.cells 0 with
   |true=>rw[ld]at o;cases o
   |false=>
    rw[ld,cond_false]at o R
    rw[cond_false]
    split at o
    ·rename_i z lb
     rw[lb]at R
     split at o
     ·rename_i lc lg
      cases o
      have lh:=(List.getElem?_eq_some_iff.1 lb).1
      have le:(List.set (show List t.el from x) (off/t.cells) lc)[off/t.cells]? =some lc:=by rw[List.getElem?_set_self lh]
      simp only[]at R
      have:=W lg R
      split
      ·rename_i z2 Z
       have V:z2=lc:=by rw[le]at Z;cases Z;rfl
       subst V
       rw[this]
       exact congrArg some ((List.set_set ..).trans (rl lb))
      ·rename_i Z
       rw[le]at Z
       cases Z
     ·cases o
    ·cases o
 |pair p la li lj=>
  intro x L off e a O o R
  unfold cb at o⊢
  unfold ct at R
  split at o
  ·rename_i y Y U;have:=ak.cO U;cases this
  ·split at R
   ·rename_i y Y U;obtain⟨_,V⟩:=gc (t:=.pair p la) (off:=0) (by rw[show Nat.beq 0 0=true from rfl,cond_true];exact U);cases V
   split
   ·rename_i y Y U;have:=ak.cO U;cases this
   cases lf:Nat.blt off p.cells with
   |true=>
    rw[lf,cond_true]at o R
    rw[cond_true]
    split at o
    ·rename_i y U
     cases o
     rw[li U R]
     rfl
    ·cases o
   |false=>
    rw[lf,cond_false]at o R
    rw[cond_false]
    split at o
    ·rename_i y U
     cases o
     rw[lj U R]
     rfl
    ·cases o
theorem Ee{M M':Nat->Prop}{k:dH}(o:∀b,b<w.heap.size->M' b->M b):∀{xs:List k.u.el} {n:Nat} {cs us:List Value},(∀u,u∈us->∀g,aP u=some g->¬M' g)->eU w M k none n xs cs us->bL (aK w M' k.u) cs xs
 |[],_,cs,us,_,⟨h,_⟩=>h
 |x::xs,n,cs,us,L,⟨c,d,v,vs,R,lg,U,V,W⟩=>by
  subst U
  refine⟨c,d,R,?_,Ee o (fun u Y=>L u (List.mem_cons_of_mem _ Y)) W⟩
  obtain⟨lh,v1,li,Z,lj,lk,la,lb,ll,lc⟩:=V
  obtain⟨rfl,O,cells,ld,ch,dw⟩:=lc fun⟨_,h,_⟩=>by cases h
  have le:aK w M' (.ab k.t) [v] O:=Hi ch (cP (fun _ _=>cq (fun _ _ _=>rfl) o k.t) dw) (L v List.mem_cons_self)
  obtain⟨q,c2,c3,lf,a2,a3,a4⟩:=mU (v:=⟨.ab k.t,O⟩) le k.u (cq (fun _ _ _=>rfl) o k.u lb) (RS k.u la ld)
  obtain⟨z,rfl⟩:=List.length_eq_one_iff.1 (show c2.length=1 from a3)
  rw[Z,lf,<-a2]
  have:(q++[z]++c3).set q.length v=q++[v]++c3:=by simp
  rw[this]
  exact a4
def ao.KZ(b:Nat)(k:dH)(xs:List k.u.el):ao->ao
 |.osl c=>bif Nat.beq c b then .val (.ab k.u) xs else .osl c
 |s=>s.dx [b]
def af.kI(st:af)(b:Nat)(k:dH)(xs:List k.u.el):af:=st.dv [b] [] [] (ao.KZ b k xs)
theorem an.kI(h:an cx m st T w){b e:Nat}{k:dH}{xs:List k.u.el}(R:look st.ad b=some (.bn e k xs none)):an cx m (st.kI b k xs) T w:=by
 obtain⟨aj,us,cells,L,Y,Z,lk⟩:=h.bn R
 have U:b∈st.ids:=List.mem_append.2 (.inl (List.mem_map.2 ⟨_,aW R,rfl⟩))
 have X:gt cx m m st w w [b] [] []:=⟨⟨rfl,rfl,rfl,Nat.le_refl _,fun _=>Nat.le_refl _⟩,fun _ _ _=>rfl,fun _ _ _=>rfl,fun i o=>(by rcases o with o|o<;>cases o),fun i j o=>(by rcases o with o|o<;>cases o),List.nodup_nil,fun i o=>(by rcases o with o|o<;>cases o),fun _ _ o _=>(by cases o),fun _ _ o=>(by cases o)⟩
 have V:∀g,own (m b) g->¬ar cx m (st.kI b k xs).ids g:=by
  rintro g q (la|⟨i,o,lb⟩)
  ·have lc:=h.outer g la
   rcases(h.lt U q).2 with W|W
   ·omega
   ·exact lc.2 W
  ·rcases np.1 o with (o|o)|⟨o,ld⟩
   ·cases o
   ·cases o
   ·exact h.apart i b o U (fun e=>ld (by rw[e];exact List.mem_singleton.2 rfl)) g lb q
 refine h.wz X (fun v s O=>?_) (fun _ _ o=>(by cases o)) (fun _ _ o=>(by cases o))
 have le:aN w (ar cx m (st.kI b k xs).ids) m v (s.dx [b]):=kB (fun _ _=>rfl) O
 cases s with
 |osl c=>
  show aN _ _ _ _ (bif Nat.beq c b then .val (.ab k.u) xs else .osl c)
  cases lf:Nat.beq c b with
  |false=>exact O
  |true=>
   have e:=Nat.eq_of_beq_eq_true lf
   subst e
   obtain⟨ll,lg⟩:=O
   have lh:=(iA (lg.symm.trans L)).1
   subst lh
   refine Hi Y (Ee (fun _ _ li=>X.mut _ ‹_› li) (fun u lj g q=>V g ?_) Z) fun g q=>V g ?_
   ·rw[L];exact cR.2 (.inr ⟨u,lj,q⟩)
   ·rw[L];exact cR.2 (.inl q)
 |_=>exact le
def qA:af->List Operand->af
 |st,[]=>st
 |st,x::l=>qA (match aO st x with
  |some (.osl b)=>match look st.ad b with
   |some (.bn _ k xs none)=>st.kI b k xs
   |_=>st
  |_=>st) l
theorem FO:∀{l:List Operand} {st:af},an cx m st T w->an cx m (qA st l) T w
 |[],_,h=>h
 |x::l,st,h=>by
  refine FO (l:=l) ?_
  split
  ·split
   ·rename_i o;exact h.kI o
   ·exact h
  ·exact h
def xn:List (Nat×bM)->af->af
 |[],st=>st
 |(b,_)::l,st=>xn l (match look st.ad b with|some (.bn _ k xs none)=>st.kI b k xs|_=>st)
theorem Bo:∀{l:List (Nat×bM)} {st:af},an cx m st T w->an cx m (xn l st) T w
 |[],_,h=>h
 |(b,c)::l,st,h=>by
  refine Bo (l:=l) ?_
  split
  ·rename_i o;exact h.kI o
  ·exact h
def kZ(off:Nat)(t:ag):Nat->List bQ->Option (List ao)
 |_,[]=>some []
 |n,.v u::l=>match kZ off t (n+1) l with
  |some r=>some (.val u.t u.x::r)
  |none=>none
 |n,.r _::l=>match Nat.beq n off,kZ off t (n+1) l with
  |true,some r=>some (.val (.ab t) []::r)
  |_,_=>none
 |_,_=>none
theorem vC{M:Nat->Prop}{off b:Nat}{t:ag}:∀{n:Nat} {cs:List Value} {l:List bQ} {r:List ao},kZ off t n l=some r->cM w M m cs l->
  (n<=off->l[off-n]? =some (.r b)->cg w M m (cs.set (off-n) (.slice none 0 0)) r)/\(off<n->cg w M m cs r)
 |n,[],[],r,h,_=>by cases h;exact⟨fun _ h=>by simp at h,fun _=>trivial⟩
 |n,[],x::_,_,_,h=>by cases x<;>exact h.elim
 |n,_::_,[],_,_,h=>h.elim
 |n,c::cs,.v u::l,r,h,⟨o,q⟩=>by
  unfold kZ at h
  split at h
  ·rename_i W L
   cases h
   obtain⟨V,O⟩:=vC (b:=b) L q
   refine⟨fun R U=>?_,fun R=>⟨o,O (by omega)⟩⟩
   by_cases Y:n=off
   ·subst Y;simp at U
   ·have e:off-n=(off-(n+1))+1:=by omega
    rw[e]at U⊢
    exact⟨o,V (by omega) (by simpa using U)⟩
  ·cases h
 |n,c::cs,.r lb::l,r,h,⟨o,q⟩=>by
  unfold kZ at h
  split at h
  ·rename_i W Z L
   cases h
   have e:=Nat.eq_of_beq_eq_true Z
   subst e
   obtain⟨V,O⟩:=vC (b:=b) L q
   refine⟨fun _ _=>?_,fun R=>absurd R (Nat.lt_irrefl _)⟩
   rw[Nat.sub_self]
   exact⟨(bA (t:=.ab t) rfl).2 ⟨none,0,[],rfl,Nat.le_refl _,by decide,fun _=>rfl,rfl,fun j v la=>by simp at la⟩,O (Nat.lt_succ_self _)⟩
  ·cases h
 |n,_::_,.a::_,_,h,_=>by cases h
theorem D7{M:Nat->Prop}:∀{cs:List Value} {l:List bQ} {i b:Nat},cM w M m cs l->l[i]? =some (.r b)->cs[i]? =some (m b)
 |[],[],i,b,_,h=>by simp at h
 |[],x::_,_,_,h,_=>by cases x<;>exact h.elim
 |_::_,[],_,_,h,_=>h.elim
 |c::cs,x::l,0,b,h,o=>by
  simp at o
  subst o
  rw[h.1]
  rfl
 |c::cs,x::l,i+1,b,h,o=>by
  have q:cM w M m cs l:=by cases x with
   |v u=>exact h.2
   |r r=>exact h.2
   |a=>exact h
  have:=D7 (i:=i) q (by simpa using o)
  simpa using this
end Go.Ev
namespace Go.Ev
open Go Go.RowKit
variable [bV]
variable {cx:bx} {m aA:Nat->Value} {st st':af} {T:Array Value} {w w':World}
variable [ah cx]
def yq(P:Program)(st:af)(aa:Oper)(d:Nat):Option (af×List Prop):=
 match aa.op with
 |.buildSlice t n ps=>match ps.toList,n with
  |[(0,x)],1=>match aO st x,dE P t with
   |some (.ep l),some (e,u)=>match mi P e,zeroOf P e with
    |some k,some _=>match l[k.off]?,kZ k.off k.t 0 l,u.beq k.u&&Nat.ble u.cells 16777216 with
     |some (.r r),some O,true=>match look st.rw r,pack k.u O with
      |some c,some (q,[])=>match ak.as ⟨.ab c.t,c.xs⟩ (.ab k.t),Nat.beq c.e k.e with
       |some L,true=>match cb k.u q k.off ⟨.ab k.t,L⟩with
        |some o=>some ((st.dv [d,r] [(d,.bn e k [o] none)] [] (ao.dx [d,r])).put d (.osl d),[cb k.u o k.off ⟨.ab k.t,[]⟩=some q,ct k.u o k.off (.ab k.t)=some L])
        |none=>none
       |_,_=>none
      |_,_=>none
     |_,_,_=>none
    |_,_=>none
   |_,_=>none
  |_,_=>none
 |_=>none
theorem Om(h:an cx m st T w){aa:Oper}{d:Nat}(aj:d<cx.n){ob:List Prop}(o:yq cx.P st aa d=some (st',ob))(lt:bJ ob):
  ∃v w' aA,(execOp (Act.eval ⟨T,ah.D cx⟩) aa).run cx.P w=.ok (.value v) w'/\an cx aA st' (T.setIfInBounds d v) w':=by
 unfold yq at o
 split at o
 case h_2=>cases o
 rename_i t n ps lu
 split at o
 case h_2=>cases o
 rename_i x lv
 split at o
 case h_2=>cases o
 rename_i l e u lw lx
 split at o
 case h_2=>cases o
 rename_i k l4 q ly
 split at o
 case h_2=>cases o
 rename_i r l5 le lz aY
 split at o
 case h_2=>cases o
 rename_i c lA W lB
 split at o
 case h_2=>cases o
 rename_i lC lD lE
 split at o
 case h_2=>cases o
 rename_i lf l6
 cases o
 simp only[Bool.and_eq_true]at aY
 obtain rfl:=ag.eq_of_beq aY.1
 have l7:=Nat.le_of_ble_eq_true aY.2
 obtain⟨lF,lG,_⟩:=lt
 have lH:=BN (Nat.eq_of_beq_eq_true lE) lD
 subst lH
 obtain⟨vs,lI,lg⟩:=a8 h lw
 have lh:=D7 lg le
 have li:=(vC (b:=r) lz lg).1 (Nat.zero_le _) le
 rw[Nat.sub_zero]at li
 obtain⟨l8,c2,lj,lk,Y⟩:=nD k.u li lB
 have Y:c2=[]:=List.eq_nil_of_length_eq_zero (jW Y)
 subst Y
 rw[List.append_nil]at lj
 subst lj
 have O:vs.length=k.u.cells:=by rw[<-b6 k.u lk,List.length_set]
 obtain⟨cells,lJ,l9,lK⟩:=h.rows r _ (aW W)
 have ll:r∈st.ids:=List.mem_append.2 (.inr (List.mem_map.2 ⟨_,aW W,rfl⟩))
 have lL:=row_one h (aW W)
 obtain⟨Z,lM,ab⟩:=il lx
 obtain⟨ad,lN,_,lO,_,lP,ae⟩:=iO ly
 -- the run
 have lQ:(execOp (Act.eval ⟨T,ah.D cx⟩) aa).run cx.P w=.ok (.value (.slice (some ⟨w.heap.size,0,none⟩) 1 1)) (w.alloc (.cells vs.toArray e)):=by
  refine ca (s:=Instr.buildSlice t 1 (ps.map fun p=>(p.1,Act.eval ⟨T,ah.D cx⟩ p.2))) (by simp only[execOp,lu]) ?_
  have lR:¬(1*k.u.cells>2^24):=by omega
  have lS:¬(1*k.u.cells=0):=by omega
  have lT:(zeroValue e).run cx.P w=.ok lN w:=by simp[zeroValue,typeInfo,lO,lP]
  have lU:(ps.map fun p=>(p.1,Act.eval ⟨T,ah.D cx⟩ p.2)).toList=[(0,Value.agg vs.toArray)]:=by rw[Array.toList_map,lv];simp[lI]
  have lV:∀z:Array Value,z.size=k.u.cells->Instr.fill (fun i=>some (i*k.u.cells,k.u.cells)) z [(0,Value.agg vs.toArray)]=some vs.toArray:=by
   intro z lm
   rw[Instr.fill]
   simp only[]
   have lW:(Value.agg vs.toArray).cells=vs.toArray:=rfl
   rw[lW,if_neg (by simp[O,lm]),Instr.fill]
   have:=rY vs [] [] z.toList (by rw[Array.length_toList,lm,O])
   simp at this
   simp[this]
  simp only[Instr.buildSlice,Sem.run_bind,run_underlying Z,Result.andThen_ok,eB lM,if_neg lR,if_neg lS,lT,Sem.run_pure,lU]
  rw[lV _ (by simp)]
  simp only[Sem.run_bind,Sem.run_pure,Result.andThen_ok,newRow,run_newObj_alloc]
 have lX:(w.alloc (.cells vs.toArray e)).ownsRow 0 e k.u.cells (.slice (some ⟨w.heap.size,0,none⟩) 1 1) [lf].length vs:=
  ⟨by simp[O],.inr ⟨w.heap.size,1,vs.toArray,rfl,Nat.zero_le _,heap_alloc_new w _,Nat.le_refl _,by decide,by simp[O],by simp[<-O]⟩⟩
 obtain⟨v2,U⟩:∃v2,v2=Value.tuple (.slice (some ⟨w.heap.size,0,none⟩) 1 1::[m r]).toArray:=⟨_,rfl⟩
 have la:Ext w (w.alloc (.cells vs.toArray e)):=gL _ _
 have ln:∀b,aP (m r)=some b->b<w.heap.size:=fun b lb=>(h.lt ll (fO lb)).1
 have X:gt cx m (bt m d v2) st w (w.alloc (.cells vs.toArray e)) [d,r] [(d,.bn e k [lf] none)] []:={
  same:=la.toSame
  block:=fun lo q _=>la.block lo q
  old:=fun j _ L=>cF _ _ fun e=>L (by simp[e])
  new:=fun j L lo q=>by
   have:j=d:=by simpa using L
   subst this
   rw[b7,U]at q
   rcases cR.1 q with q|⟨u,Z,q⟩
   ·cases q;exact .inr ⟨Nat.le_refl _,by simp⟩
   ·have:u=m r:=by simpa using Z
    subst this
    exact .inl ⟨r,by simp,ll,fO q⟩
  apart:=fun j lY L lZ af=>by
   have:j=d:=by simpa using L
   have:lY=d:=by simpa using lZ
   omega
  keys:=by simp
  kz:=fun j L _=>by
   have:j=d:=by simpa using L
   simp[this]
  j8:=fun lp c' R V=>by simp at R;rw[R.2]at V;cases V
  eO:=fun l0 c' lc=>by cases lc}
 refine⟨_,_,bt m d v2,lQ,(h.dv X (fun M v s l3=>kB (fun j L=>cF _ _ fun e=>L (by simp[e])) l3) (fun lp c' R=>?_) (fun l0 c' lc=>by cases lc)).put aj ⟨[m r],by rw[b7,U]⟩⟩
 simp only[List.mem_cons,Prod.mk.injEq,List.not_mem_nil,or_false]at R
 obtain⟨rfl,rfl⟩:=R
 rw[b7]
 have lq:=X.mut (f:=ao.dx [lp,r])
 have lr:=X.keeps
 refine⟨0,⟨_,_,U⟩,_,[m r],vs,U,lX,⟨vs,[],m r,[],by simp,O,rfl,?_,rfl,rfl⟩,?_⟩
 ·refine⟨vs.set k.off (.slice none 0 0),m r,lA,?_,?_,lL,lF,cq lr lq k.u lk,(fun⟨_,V,_⟩=>by cases V),fun _=>⟨rfl,lC,cells,lG,nP lJ fun b lb=>la.block b (ln b lb),cP (fun _ _=>cq lr lq k.t) lK⟩⟩
  ·rw[List.set_set,rl lh]
  ·rw[List.getElem?_set_self (List.getElem?_eq_some_iff.1 lh).1]
 ·have ls:aP (Value.slice (some ⟨w.heap.size,0,none⟩) 1 1)=some w.heap.size:=rfl
  cases ld:aP (m r)with
  |none=>rw[List.filterMap_cons_some ls,List.filterMap_cons_none ld];exact List.nodup_cons.2 ⟨by simp,List.nodup_nil⟩
  |some b=>
   have:=ln b ld
   rw[List.filterMap_cons_some ls,List.filterMap_cons_some ld]
   exact List.nodup_cons.2 ⟨by simp;omega,List.nodup_cons.2 ⟨by simp,List.nodup_nil⟩⟩
def zN(k o:dH):Bool:=o.u.beq k.u&&(Nat.beq o.off k.off&&(Nat.beq o.e k.e&&o.t.beq k.t))
theorem JP{k o:dH}(h:zN k o=true):o=k:=by
 obtain⟨u,off,e,t⟩:=k
 obtain⟨U,V,W,t2⟩:=o
 simp only[zN,Bool.and_eq_true]at h
 obtain⟨q,L,O,R⟩:=h
 obtain rfl:=ag.eq_of_beq q
 obtain rfl:=ag.eq_of_beq R
 rw[Nat.eq_of_beq_eq_true L,Nat.eq_of_beq_eq_true O]
theorem Hg{n:Nat}:¬gA none n:=fun⟨_,h,_⟩=>by cases h
theorem GS{M:Nat->Prop}{k:dH}:∀{xs o:List k.u.el} {n q:Nat} {cs L us O:List Value},eU w M k none n xs cs us->eU w M k none q o L O->eU w M k none n (xs++o) (cs++L) (us++O)
 |[],o,n,q,cs,L,us,O,⟨la,lb⟩,R=>by
  subst la
  subst lb
  have key:∀{o:List k.u.el} {n q:Nat} {cs us:List Value},eU w M k none q o cs us->eU w M k none n o cs us:=by
   intro o
   induction o with
   |nil=>intro n q cs us h;exact h
   |cons y o lc=>
    rintro n q cs us ⟨c,d,v,vs,U,V,W,Y,Z⟩
    exact⟨c,d,v,vs,U,V,W,tK (fun _ _ _=>rfl) (fun _ _ h=>h) ⟨fun h=>absurd h Hg,fun h=>absurd h Hg⟩ (fun _ _=>rfl) Y,lc Z⟩
  exact key R
 |x::xs,o,n,q,cs,L,us,O,⟨c,d,v,vs,U,V,W,Y,Z⟩,R=>by
  subst U
  subst W
  exact⟨c,d++L,v,vs++O,by simp,V,rfl,Y,GS Z R⟩
theorem D9{M:Nat->Prop}{k:dH}:∀{xs:List k.u.el} {n:Nat} {cs us:List Value},eU w M k none n xs cs us->∀v∈cs,v.oneCell'=true
 |[],n,cs,us,⟨h,_⟩,v,o=>by subst h;cases o
 |x::xs,n,cs,us,⟨c,d,u,vs,q,W,Y,L,O⟩,v,o=>by
  subst q
  rcases List.mem_append.1 o with o|o
  ·obtain⟨Z,v1,la,R,lb,U,lc,V,_⟩:=L
   rw[R]at o
   rcases List.mem_or_eq_of_mem_set o with o|rfl
   ·exact gh k.u V v o
   ·exact U
  ·exact D9 O v o
def xY(P:Program)(st:af)(c:Call)(d:Nat):Option (af×List Prop):=
 match c.callee,c.args.toList,c.argTypes.toList with
 |.builtin .append,[.tmp a,y],[t,O]=>match look st.ab a,aO st y with
  |some (.osl b),some (.osl o)=>match look st.ad b,look st.ad o,dE P t,dE P O with
   |some (.bn e k xs none),some (.bn R q U none),some (V,u),some _=>match zN k q&&(Nat.beq e R&&(Nat.beq e V&&(u.beq k.u&&(!(Nat.beq b o)&&kE P e)))),ak.as ⟨.ab q.u,U⟩ (.ab k.u),zeroOf P e with
    |true,some L,some W=>match W.beq k.u with
     |true=>some ((st.dv [b,o] [(b,.bn e k (xs++eA L) none)] [] (ao.dx [b,o])).put d (.osl b),[xs.length+(eA L).length<=bq])
     |false=>none
    |_,_,_=>none
   |_,_,_,_=>none
  |_,_=>none
 |_,_,_=>none
theorem RK(h:an cx m st T w){aa:Oper}{c:Call}{d:Nat}(lR:aa.op=.call c)(aj:d<cx.n){ob:List Prop}(O:xY cx.P st c d=some (st',ob))(lk:bJ ob):
  ∃v w' aA,(execOp (Act.eval ⟨T,ah.D cx⟩) aa).run cx.P w=.ok (.value v) w'/\an cx aA st' (T.setIfInBounds d v) w':=by
 unfold xY at O
 split at O
 case h_2=>cases O
 rename_i a y t lA lB lC lD
 split at O
 case h_2=>cases O
 rename_i b Z lS lT
 split at O
 case h_2=>cases O
 rename_i e k xs aM lE R aN u lU lF lG lV lW
 split at O
 case h_2=>cases O
 rename_i aO aQ aY lX lY
 split at O
 case h_2=>cases O
 rename_i lZ
 cases O
 simp only[Bool.and_eq_true,Bool.not_eq_true']at aY
 obtain⟨lr,ls,lt,l0,l3,l4⟩:=aY
 have lr:=JP lr
 subst lr
 have l5:=ak.cO lX
 cases l5
 have ls:=Nat.eq_of_beq_eq_true ls
 subst ls
 have lt:=Nat.eq_of_beq_eq_true lt
 subst lt
 obtain rfl:=ag.eq_of_beq l0
 obtain rfl:=ag.eq_of_beq lZ
 have lH:=beq_false l3
 have lk:=lk.1
 obtain⟨hu,aR,aS⟩:=il lV
 obtain⟨aT,aU⟩:=lU
 obtain⟨l6,_,_⟩:=il lW
 obtain⟨i,z,_,lI,ld,l7,l8⟩:=iO lY
 obtain⟨i2,lJ,l9⟩:=sJ l4
 rw[lI]at lJ
 cases lJ
 obtain⟨lc,us,cells,lu,a2,a3,a4⟩:=h.bn lF
 obtain⟨le,W,ll,lK,lm,ln,lo⟩:=h.bn lG
 have la:b∈st.ids:=List.mem_append.2 (.inl (List.mem_map.2 ⟨_,aW lF,rfl⟩))
 have lf:Z∈st.ids:=List.mem_append.2 (.inl (List.mem_map.2 ⟨_,aW lG,rfl⟩))
 have ab:Act.eval ⟨T,ah.D cx⟩ (.tmp a)=lc:=by
  obtain⟨v,t1,ad,t2⟩:=h.cv a _ (aW lS)
  rw[EZ t1]
  exact(iA (t2.symm.trans lu)).1
 have ae:Act.eval ⟨T,ah.D cx⟩ y=le:=by
  obtain⟨ad,t2⟩:=a8 h lT
  exact(iA (t2.symm.trans lK)).1
 have af:z.cells.size=i.size:=by rw[ld,<-b6 lE.u (l8 w (ar cx m st.ids))];simp
 have ai:=(BE ln).2
 have al:xs.length+R.length<=maxLen:=Nat.le_trans lk oC
 have am:(xs.length+R.length)*i.bytes<=140737488355328:=by
  have L:xs.length+R.length<=2147483648:=lk
  calc (xs.length+R.length)*i.bytes<=2147483648*65536:=Nat.mul_le_mul L l9
   _=140737488355328:=by decide
 have ap:Builtin.lenOf le=pure R.length:=by
  rcases lm.2 with ⟨Y,lg⟩|⟨g,cap,cur,Y,_⟩
  ·rw[Y,lg];rfl
  ·rw[Y];rfl
 have aq:∀w',(∀b,b<w.heap.size->w'.heap[b]? =w.heap[b]?)->(Builtin.firstCells i.size R.length le).run cx.P w'=.ok ll.toArray w':=by
  intro w' au
  rw[ld]
  rcases lm.2 with ⟨Y,lg⟩|⟨g,cap,cur,Y,_⟩
  ·have av:R=[]:=List.eq_nil_of_length_eq_zero lg
   subst av
   have:ll=[]:=ln.1
   subst this
   rw[Y];rfl
  ·rw[Y]
   exact vE (lm.cells (g:=g) (by rw[Y];rfl)) lm.1 w' au
 obtain⟨v',w',aw,ax,ay,lv,lL⟩:=Gc (P:=cx.P) (w:=w) t lA aa.type e i z hu (.inl ⟨_,l6⟩) lI l7 af le R.length ll ap aq (by rw[ld];exact ai) (D9 ln) lc xs.length cells (by rw[ld];exact a2) al am
 have az:(execOp (Act.eval ⟨T,ah.D cx⟩) aa).run cx.P w=.ok (.value v') w':=by
  obtain⟨aV,args,lM⟩:=c
  simp only at lB lC lD
  subst lB
  have aB:args=#[.tmp a,y]:=by rw[<-Array.toArray_toList (xs:=args),lC]
  have aC:lM=#[t,lA]:=by rw[<-Array.toArray_toList (xs:=lM),lD]
  subst aB
  subst aC
  simp only[execOp,lR,resolve,invoke,builtin,Sem.run_bind,Sem.run_pure,Result.andThen_ok,List.map_toArray,List.map_cons,List.map_nil,ab,ae]
  simp only[aw,Sem.run_bind,Sem.run_pure,Result.andThen_ok]
 have lp:∀u,u∈us->∀g,aP u=some g->own (m b) g:=fun u hu g o=>by rw[lu];exact cR.2 (.inr ⟨u,hu,o⟩)
 have lh:∀u,u∈W->∀g,aP u=some g->own (m Z) g:=fun u hu g o=>by rw[lK];exact cR.2 (.inr ⟨u,hu,o⟩)
 have lw:∀g,aP lc=some g->own (m b) g:=fun g o=>by rw[lu];exact cR.2 (.inl o)
 have lN:∀u,u∈us->∀g,aP u=some g->aP lc≠some g:=by
  intro u hu g o q
  rw[List.filterMap_cons_some q]at a4
  exact(List.nodup_cons.1 a4).1 (List.mem_filterMap.2 ⟨u,hu,o⟩)
 have lO:∀u,u∈W->∀g,aP u=some g->aP lc≠some g:=fun u hu g o q=>h.apart b Z la lf lH g (lw g q) (lh u hu g o)
 have lx:∀u,u∈us\/u∈W->∀g,aP u=some g->g<w.heap.size/\w'.heap[g]? =w.heap[g]? :=by
  rintro u (hu|hu) g o
  ·exact⟨(h.lt la (lp u hu g o)).1,lv g (h.lt la (lp u hu g o)).1 (lN u hu g o)⟩
  ·exact⟨(h.lt lf (lh u hu g o)).1,lv g (h.lt lf (lh u hu g o)).1 (lO u hu g o)⟩
 obtain⟨v2,lq⟩:∃v2,v2=Value.tuple (v'::(us++W)).toArray:=⟨_,rfl⟩
 have X:gt cx m (bt m b v2) st w w' [b,Z] [(b,.bn e lE (xs++R) none)] []:={
  same:=ay
  block:=fun lb U lg=>lv lb U fun q=>lg b (by simp) la (lw lb q)
  old:=fun j _ V=>cF _ _ fun e=>V (by simp[e])
  new:=fun j V lb U=>by
   have:j=b:=by simpa using V
   subst this
   rw[b7,lq]at U
   rcases cR.1 U with U|⟨u,hu,U⟩
   ·rcases lL lb U with L|L
    ·exact .inl ⟨j,by simp,la,lw lb L⟩
    ·exact .inr L
   ·rcases List.mem_append.1 hu with hu|hu
    ·exact .inl ⟨j,by simp,la,lp u hu lb U⟩
    ·exact .inl ⟨Z,by simp,lf,lh u hu lb U⟩
  apart:=fun j aD V aE aX=>by
   have:j=b:=by simpa using V
   have:aD=b:=by simpa using aE
   omega
  keys:=by simp
  kz:=fun j V _=>by
   have:j=b:=by simpa using V
   simp[this]
  j8:=fun ly c' li L=>by simp at li;rw[li.2]at L;cases L
  eO:=fun aF c' lz=>by cases lz}
 refine⟨_,_,bt m b v2,az,(h.dv X (fun M v s aG=>kB (fun j V=>cF _ _ fun e=>V (by simp[e])) aG) (fun ly c' li=>?_) (fun aF c' lz=>by cases lz)).put aj ⟨us++W,by rw[b7,lq]⟩⟩
 simp only[List.mem_cons,Prod.mk.injEq,List.not_mem_nil,or_false]at li
 obtain⟨rfl,rfl⟩:=li
 rw[b7]
 have lP:=X.mut (f:=ao.dx [ly,Z])
 have lQ:=X.keeps
 refine⟨0,⟨_,_,lq⟩,v',us++W,cells++ll,lq,by rw[List.length_append,<-ld];exact ax,?_,?_⟩
 ·exact GS (oN lQ lP (fun _ _=>Iff.rfl) (fun u hu g o=>(lx u (.inl hu) g o).2) a3) (oN lQ lP (fun _ _=>Iff.rfl) (fun u hu g o=>(lx u (.inr hu) g o).2) ln)
 ·have aH:(us.filterMap aP).Nodup:=by
   cases q:aP lc with
   |none=>rw[List.filterMap_cons_none q]at a4;exact a4
   |some g=>rw[List.filterMap_cons_some q]at a4;exact(List.nodup_cons.1 a4).2
  have aI:(W.filterMap aP).Nodup:=by
   cases q:aP le with
   |none=>rw[List.filterMap_cons_none q]at lo;exact lo
   |some g=>rw[List.filterMap_cons_some q]at lo;exact(List.nodup_cons.1 lo).2
  have n3:((us++W).filterMap aP).Nodup:=by
   rw[List.filterMap_append,List.nodup_append]
   refine⟨aH,aI,fun g o aZ aJ e=>?_⟩
   subst e
   obtain⟨u,hu,L⟩:=List.mem_filterMap.1 o
   obtain⟨aK,aL,lj⟩:=List.mem_filterMap.1 aJ
   exact h.apart ly Z la lf lH g (lp u hu g L) (lh aK aL g lj)
  cases q:aP v' with
  |none=>rw[List.filterMap_cons_none q];exact n3
  |some g=>
   rw[List.filterMap_cons_some q]
   refine List.nodup_cons.2 ⟨fun o=>?_,n3⟩
   obtain⟨u,hu,L⟩:=List.mem_filterMap.1 o
   have hu:=List.mem_append.1 hu
   rcases lL g q with lj|lj
   ·rcases hu with hu|hu
    ·exact lN u hu g L lj
    ·exact lO u hu g L lj
   ·have:=(lx u hu g L).1
    omega
def ym(E:Env)(st:af)(aa:Oper)(orc:List ak):Option (af×List ak×List Prop):=
 match aa.dst with
 |some d=>match Nat.blt d E.n with
  |true=>match aa.op with
   |.call c=>match xY E.P st c d with
    |some (s,ob)=>some (s,orc,ob)
    |none=>none
   |_=>match yq E.P st aa d with
    |some (s,ob)=>some (s,orc,ob)
    |none=>none
  |false=>none
 |none=>none
theorem Q0{E:Env}(U:br E cx)(h:al cx st T w){aa:Oper}{orc:List ak}{st':af}{orc':List ak}{ob:List Prop}(o:ym E st aa orc=some (st',orc',ob))(V:bJ ob)
  {K:Act->World->Prop}{Q:Exit->Act->World->Prop}(Z:∀W w',al cx st' W w'->K ⟨W,ah.D cx⟩ w'):aa.wp cx.P ⟨T,ah.D cx⟩ w K Q:=by
 obtain⟨m,Y⟩:=h
 unfold ym at o
 split at o
 case h_2=>cases o
 rename_i d aj
 split at o
 case h_2=>cases o
 rename_i q
 have q:d<cx.n:=by rw[U.n];exact cw q
 rw[<-U.P]at o
 have fin:∀v w' aA,(execOp (Act.eval ⟨T,ah.D cx⟩) aa).run cx.P w=.ok (.value v) w'->an cx aA st' (T.setIfInBounds d v) w'->aa.wp cx.P ⟨T,ah.D cx⟩ w K Q:=by
  intro v w' aA la lb
  refine fQ la ?_
  rw[aj]
  exact Z _ _ ⟨aA,lb⟩
 split at o
 ·rename_i c lc
  split at o
  case h_2=>cases o
  rename_i s ld L
  cases o
  obtain⟨v,w',aA,O,R⟩:=RK Y lc q L V
  exact fin v w' aA O R
 ·split at o
  case h_2=>cases o
  rename_i s ld L
  cases o
  obtain⟨v,w',aA,O,R⟩:=Om Y q L V
  exact fin v w' aA O R
def ag.rb:ag->Bool
 |.ck=>true
 |.pair a b=>rb a||rb b
 |.arr _ a=>rb a
 |_=>false
def GK(P:Program)(aa:Oper):Bool:=match aa.op with
 |.build t _=>match ty P t with
  |some u=>u.rb
  |none=>false
 |_=>false
def Gg(E:Env)(st:af)(aa:Oper)(orc:List ak):Option (af×List ak×List Prop):=bif GK E.P aa then rS E st aa orc else none
def jL(E:Env)(o:af)(aa:Oper)(orc:List ak):Option (af×List ak×List Prop):=
 match wl E o aa orc with
 |some r=>some r
 |none=>match Gg E o aa orc with
 |some r=>some r
 |none=>match yJ E (qA o (gr E aa.op)) aa orc with
  |some r=>some r
  |none=>match CG E o aa orc with
   |some r=>some r
   |none=>ym E o aa orc
theorem To{E:Env}(L:br E cx)(h:al cx st T w){aa:Oper}{orc:List ak}{st':af}{orc':List ak}{ob:List Prop}(q:jL E st aa orc=some (st',orc',ob))(O:bJ ob)
  {K:Act->World->Prop}{Q:Exit->Act->World->Prop}(R:∀U w',al cx st' U w'->K ⟨U,ah.D cx⟩ w'):aa.wp cx.P ⟨T,ah.D cx⟩ w K Q:=by
 unfold jL at q
 split at q
 ·rename_i r o
  cases q
  exact O4 L h o O R
 ·split at q
  ·rename_i r o
   cases q
   unfold Gg at o
   cases V:GK E.P aa with
   |false=>rw[V]at o;cases o
   |true=>rw[V]at o;exact Dh L h o O R
  split at q
  ·rename_i r o
   cases q
   obtain⟨m,W⟩:=h
   exact LV L ⟨m,FO W⟩ o O R
  ·split at q
   ·rename_i r o
    cases q
    exact IK L h o O R
   ·exact Q0 L h q O R
end Go.Ev
namespace Go.Ev
open Go Go.RowKit
variable [bV]
variable {cx:bx} {m:Nat->Value} {st st':af} {T:Array Value} {w w':World}
def ti(st:af)(s:ao):af:=match s with
 |.row r=>match look st.rw r with
  |some c=>st.freeze r c
  |none=>st
 |.iter r=>match look st.ad r with
  |some (.mp k v ps)=>st.eT r k v ps
  |_=>st
 |_=>st
def kK(st:af)(b:Nat):af:=match look st.ad b with
 |some (.cells l _)=>l.foldl ti st
 |_=>st
theorem Sh(h:an cx m st T w)(s:ao):an cx m (ti st s) T w:=by
 unfold ti
 split
 ·split
  ·rename_i c o;exact h.freeze (aW o)
  ·exact h
 ·split
  ·rename_i k v ps o;exact h.eT (aW o)
  ·exact h
 ·exact h
theorem HM:∀{l:List ao} {st:af},an cx m st T w->an cx m (l.foldl ti st) T w
 |[],_,h=>h
 |s::l,_,h=>HM (l:=l) (Sh h s)
theorem Sc(h:an cx m st T w)(b:Nat):an cx m (kK st b) T w:=by
 unfold kK
 split
 ·exact HM h
 ·exact h
theorem Gd:∀{bs:List Nat} {st:af},an cx m st T w->an cx m (bs.foldl kK st) T w
 |[],_,h=>h
 |b::bs,_,h=>Gd (bs:=bs) (Sc h b)
def kJ(P:Program)(st:af):List Nat->Option (List ak)
 |[]=>some []
 |b::bs=>match look st.ad b with
  |some (.cells l e)=>match ty P e with
   |some u=>match pack u l,kJ P st bs with
    |some (x,[]),some vs=>some (⟨.ptr u,x⟩::vs)
    |_,_=>none
   |none=>none
  |_=>none
theorem HO{P:Program}:∀{bs:List Nat} {l:List ak},kJ P st bs=some l->∀u∈l,u.t.agg=false
 |[],_,o=>by cases o;simp
 |b::bs,l,o=>by
  unfold kJ at o
  split at o
  ·split at o
   ·split at o
    ·rename_i x vs L q
     cases o
     intro u hu
     rcases List.mem_cons.1 hu with rfl|hu
     ·rfl
     ·exact HO q u hu
    ·cases o
   ·cases o
  ·cases o
theorem G8{P:Program}(h:an cx m st T w){M:Nat->Prop}(L:∀b,b<w.heap.size->M b->ar cx m st.ids b):∀{bs:List Nat} {l:List ak},(∀b∈bs,∀g,own (m b) g->¬M g)->kJ P st bs=some l->dB w M (bs.map m) l
 |[],_,_,o=>by cases o;trivial
 |b::bs,l,O,o=>by
  unfold kJ at o
  split at o
  ·rename_i c e V
   split at o
   ·rename_i u lf
    split at o
    ·rename_i x vs W q
     cases o
     refine⟨?_,G8 h L (fun b Y=>O b (List.mem_cons_of_mem _ Y)) q⟩
     obtain⟨g,R,_,cells,Z,la⟩:=h.box (aW V)
     obtain⟨lb,c2,lc,ld,_⟩:=nD u la W
     refine(bA (t:=.ptr u) rfl).2 ⟨⟨g,0,none⟩,lb,by rw[R];rfl,cq (fun _ _ _=>rfl) L u ld,fun j v U=>⟨?_,O b List.mem_cons_self g (by rw[R];rfl)⟩⟩
     have q:cells.toList[j]? =some v:=by rw[lc,List.getElem?_append_left (List.getElem?_eq_some_iff.1 U).1];exact U
     have le:(⟨g,0,none⟩:Addr).add j=⟨g,0+j,none⟩:=by unfold Addr.add;split<;>simp_all
     rw[le,mz Z]
     simpa using q
    ·cases o
   ·cases o
  ·cases o
theorem C6{P:Program}:∀{bs:List Nat} {l:List ak},kJ P st bs=some l->∀b∈bs,b∈st.ids
 |[],_,_=>fun b L=>absurd L List.not_mem_nil
 |b::bs,l,o=>by
  unfold kJ at o
  split at o
  ·rename_i c e O
   split at o
   ·split at o
    ·rename_i x vs U R
     intro i q
     rcases List.mem_cons.1 q with rfl|q
     ·exact List.mem_append.2 (.inl (List.mem_map.2 ⟨_,aW O,rfl⟩))
     ·exact C6 R i q
    ·cases o
   ·cases o
  ·cases o
def Ap(f:Nat)(bs:List Nat):ao->Bool
 |.clos g o=>Nat.beq g f&&o==bs
 |_=>false
def uw(P:Program)(st:af)(d:Nat):Option af:=
 match look st.ab d with
 |some (.clos f bs)=>match kJ P (bs.foldl kK st) bs with
  |some l=>some ((bs.foldl kK st).dv bs [] [] fun s=>bif Ap f bs s then .val (.fn f (pairUp l).t) (pairUp l).x else s.dx bs)
  |none=>none
 |_=>none
theorem Ui{P:Program}{d:Nat}(h:an cx m st T w)(L:uw P st d=some st'):an cx m st' T w:=by
 unfold uw at L
 split at L
 case h_2=>cases L
 rename_i f bs aj
 split at L
 case h_2=>cases L
 rename_i l V
 cases L
 have O:an cx m (bs.foldl kK st) T w:=Gd h
 have X:gt cx m m (bs.foldl kK st) w w bs [] []:={
  same:=(Ext.refl w).toSame,block:=fun _ _ _=>rfl,old:=fun _ _ _=>rfl,new:=fun i o=>by simp at o,apart:=fun i j o=>by simp at o,keys:=List.nodup_nil,
  kz:=fun i o=>by simp at o,j8:=fun _ _ q=>absurd q List.not_mem_nil,eO:=fun _ _ q=>absurd q List.not_mem_nil}
 refine O.wz X ?_ (fun _ _ q=>absurd q List.not_mem_nil) (fun _ _ q=>absurd q List.not_mem_nil)
 intro v s R
 cases aY:Ap f bs s with
 |false=>exact kB (fun _ _=>rfl) R
 |true=>
  unfold Ap at aY
  split at aY
  ·rename_i g U
   rw[Bool.and_eq_true]at aY
   have lb:=Nat.eq_of_beq_eq_true aY.1
   have lc:U=bs:=eq_of_beq aY.2
   subst lb
   subst lc
   have R:v=.func (.func g) #[] (U.map m).toArray:=R
   refine(bA (t:=.fn g (pairUp l).t) rfl).2 ⟨U.map m,by rw[R],pf (HO V) (G8 O (X.mut) ?_ V)⟩
   intro b q W Y ld
   have Z:b∈(U.foldl kK st).ids:=C6 V b q
   rcases ld with le|⟨i,o,lf⟩
   ·have lg:=O.outer W le
    rcases(O.lt Z Y).2 with la|la
    ·omega
    ·exact lg.2 la
   ·rcases np.1 o with o|⟨o,lh⟩
    ·simp at o
    ·exact O.apart i b o Z (fun e=>lh (e▸q)) W lf Y
  ·cases aY
end Go.Ev
namespace Go.Ev
open Go Go.RowKit
variable [bV]
abbrev cB:=Exit->Act->World->Prop
def W(cx:bx)[ah cx](Q:cB)(c:Code)(st:af):Prop:=∀T w,al cx st T w->c.wp cx.P Q ⟨T,ah.D cx⟩ w
def bH(cx:bx)[ah cx](ops:Array Oper)(Q:cB)(l:List Oper)(st:af):Prop:=∀T w,al cx st T w->wpList cx.P ops Q l ⟨T,ah.D cx⟩ w
def N(cx:bx)[ah cx](Q:cB)(e:Exit)(st:af):Prop:=∀T w,al cx st T w->Q e ⟨T,ah.D cx⟩ w
def dR(ops:Array Oper)(st:af)(aa:Oper):Option Bool:=
 match aa.guard with
 |none=>some true
 |some (j,b)=>match(ops[j]?).bind (·.dst)with
  |some d=>match look st.ab d with
   |some (.val .bool true)=>some b
   |some (.val .bool false)=>some (!b)
   |some .undef=>some false
   |_=>none
  |none=>none
def eX(E:Env)(ops:Array Oper):List Oper->af->List ak->Option (af×List ak×List Prop)
 |[],st,orc=>some (st,orc,[])
 |aa::l,st,orc=>match dR ops st aa with
  |some true=>match jL E st aa orc with
   |some (o,q,ob)=>match eX E ops l o q with
    |some (L,O,R)=>some (L,O,ob++R)
    |none=>none
   |none=>none
  |some false=>match aa.dst with
   |some d=>match Nat.blt d E.n with
    |true=>eX E ops l (st.put d .undef) orc
    |false=>none
   |none=>eX E ops l st orc
  |none=>none
variable {cx:bx} {st st':af} {T:Array Value} {w:World} {E:Env} {Q:cB} {ops:Array Oper} {l:List Oper}
variable [ah cx]
theorem mu:∀{a b:List Prop},bJ (a++b)->bJ a/\bJ b
 |[],_,h=>⟨trivial,h⟩
 |_::_,_,⟨q,o⟩=>⟨⟨q,(mu o).1⟩,(mu o).2⟩
theorem gD(h:al cx st T w){aa:Oper}{b:Bool}(o:dR ops st aa=some b):Region.wanted aa (yielded ops T)=b:=by
 obtain⟨m,V⟩:=h
 unfold dR at o
 unfold Region.wanted
 split at o
 ·rename_i R
  cases o
  rw[R]
 ·rename_i j U R
  rw[R]
  simp only[]
  split at o
  ·rename_i d aj
   have key:∀s,look st.ab d=some s->∃v,T[d]? =some v/\aN w (ar cx m st.ids) m v s:=fun s W=>V.cv d s (aW W)
   unfold yielded
   rw[aj]
   simp only[Option.bind_some]
   split at o
   ·rename_i q
    obtain⟨v,L,O⟩:=key _ q
    rw[L,dj.1 O]
    cases o
    cases b<;>rfl
   ·rename_i q
    obtain⟨v,L,O⟩:=key _ q
    rw[L,dj.1 O]
    cases o
    cases U<;>rfl
   ·rename_i q
    obtain⟨v,L,O⟩:=key _ q
    have Y:v=undef:=O
    rw[L,Y]
    cases o
    cases U<;>rfl
   ·cases o
  ·cases o
theorem pi(q:br E cx):∀{l:List Oper} {st:af} {T:Array Value} {w:World} {orc orc':List ak} {st':af} {ob:List Prop},al cx st T w->eX E ops l st orc=some (st',orc',ob)->bJ ob->
  (∀O w',al cx st' O w'->Q .normal ⟨O,ah.D cx⟩ w')->wpList cx.P ops Q l ⟨T,ah.D cx⟩ w
 |[],st,T,w,_,_,_,_,h,o,_,L=>by
  cases o
  exact L T w h
 |aa::l,st,T,w,orc,orc',st',ob,h,o,R,L=>by
  unfold eX at o
  refine wpList_step fun K U=>?_
  split at o
  ·rename_i V
   rw[gD h V]
   simp only[if_true]
   split at o
   ·rename_i lf lg lh W
    split at o
    ·rename_i li lj lk Y
     cases o
     obtain⟨Z,la⟩:=mu R
     exact To q h W Z fun O w' lb=>U _ _ (pi q lb Y la L)
    ·cases o
   ·cases o
  ·rename_i V
   rw[gD h V]
   simp only[Bool.false_eq_true,if_false]
   split at o
   ·rename_i d aj
    split at o
    ·rename_i lc
     obtain⟨m,ld⟩:=h
     have le:=ld.put (d:=d) (s:=.undef) (v:=undef) (by rw[q.n];exact cw lc) rfl
     refine U _ _ ?_
     rw[aj]
     exact pi q ⟨m,le⟩ o R L
    ·cases o
   ·rename_i aj
    refine U _ _ ?_
    rw[aj]
    exact pi q h o R L
  ·cases o
theorem p7{P:Program}{Q:cB}:∀{l1 l2:List Oper} {a:Act} {w:World},wpList P ops (Exit.then (wpList P ops Q l2) Q) l1 a w->wpList P ops Q (l1++l2) a w
 |[],l2,a,w,h=>h
 |aa::l1,l2,a,w,h=>by
  simp only[List.cons_append,wpList]at h⊢
  split
  ·rename_i L
   rw[if_pos L]at h
   rcases h with h|⟨O,R⟩
   ·refine .inl ?_
    have o:∀a w,wpList P ops (Exit.then (wpList P ops Q l2) Q) l1 a w->wpList P ops Q (l1++l2) a w:=fun a w=>p7
    unfold Oper.wp Oper.upon at h⊢
    split at h
    ·exact o _ _ h
    ·exact o _ _ h
    ·exact o _ _ h
    ·refine Calls.mono h ?_
     intro e w' q
     cases e with
     |returned v=>exact o _ _ q
     |panicked c=>exact q
     |outgrown=>exact q
    ·exact Rows.mono h fun v w' q=>o _ _ q
    ·exact h
    ·exact h.elim
   ·exact .inr ⟨O,R⟩
  ·rename_i L
   rw[if_neg L]at h
   exact p7 h
/-! The rules. -/
theorem dn(h:N cx Q .normal st):W cx Q .skip st:=fun T w o=>wp_skip (h T w o)
theorem aG{x y:Code}(h:W cx (Exit.then (y.wp cx.P Q) Q) x st):W cx Q (.seq x y) st:=fun T w o=>wp_seq (h T w o)
theorem fy{id:Nat}{c:Code}(h:W cx (Exit.inBlock id Q) c st):W cx Q (.block id c) st:=fun T w o=>wp_block (h T w o)
theorem jS{id:Nat}(h:N cx Q (.exit id) st):W cx Q (.exit id) st:=fun T w o=>wp_exit (h T w o)
theorem eF(h:N cx Q .ret st):W cx Q .ret st:=fun T w o=>wp_ret (h T w o)
theorem dg{c:Operand}{x y:Code}{b:Bool}(L:aO st c=some (.val .bool b))(O:b=true->W cx Q x st)(R:b=false->W cx Q y st):W cx Q (.cond c x y) st:=fun T w U=>by
 obtain⟨m,o⟩:=U
 have q:=dj.1 (a8 o L)
 cases b with
 |true=>exact wp_cond_true q (O rfl T w ⟨m,o⟩)
 |false=>exact wp_cond_false q (R rfl T w ⟨m,o⟩)
theorem rI{c:Operand}{x y:Code}(o:aO st c=some (.val .bool true))(q:W cx Q x st):W cx Q (.cond c x y) st:=dg o (fun _=>q) (fun h=>by cases h)
theorem su{c:Operand}{x y:Code}(o:aO st c=some (.val .bool false))(q:W cx Q y st):W cx Q (.cond c x y) st:=dg o (fun h=>by cases h) (fun _=>q)
theorem exists_least(p:Nat->Prop):∀n,p n->∃n,p n/\∀m,p m->n<=m:=by
 intro n
 induction n using Nat.strongRecOn with
 |_ n L=>
  intro O
  by_cases h:∃m,m<n/\p m
  ·obtain⟨m,o,R⟩:=h
   exact L m o R
  ·exact⟨n,O,fun m o=>by
    rcases Nat.lt_or_ge m n with q|q
    ·exact absurd ⟨m,q,o⟩ h
    ·exact q⟩
theorem CR{p:Nat->Prop}(h:∃n,p n):∃n,p n/\∀m,p m->n<=m:=let⟨n,o⟩:=h;exists_least p n o
open Classical in
theorem RO{P:Program}{c:Code}{Q:cB}(o:Nat->Act->World->Prop)(step:∀k a w,o k a w->c.wp P (Exit.then (fun q w'=>∃k',k'<k/\o k' q w') Q) a w){k:Nat}{a:Act}{w:World}(h:o k a w):
  (Code.loop c).wp P Q a w:=by
 refine wp_loop (fun a w=>∃k,o k a w) (fun a w=>if h:∃k,o k a w then Classical.choose (CR h)else 0) ⟨k,h⟩ ?_
 intro a w O
 have V:=Classical.choose_spec (CR O)
 refine Code.wp_mono ?_ (step _ a w V.1)
 intro e q w' R
 cases e with
 |normal=>
  obtain⟨k',W,L⟩:=R
  refine⟨⟨k',L⟩,?_⟩
  have U:∃k,o k q w':=⟨k',L⟩
  rw[dif_pos O,dif_pos U]
  exact Nat.lt_of_le_of_lt ((Classical.choose_spec (CR U)).2 k' L) W
 |_=>exact R
def Dn{α:Type}(cx:bx)[ah cx](F:Nat->α->Prop)(S:α->af)(k:Nat):Act->World->Prop:=fun o w'=>∃k' x',k'<k/\F k' x'/\o.defers=ah.D cx/\al cx (S x') o.tmps w'
theorem js{α:Type}(F:Nat->α->Prop)(S:α->af){c:Code}(step:∀k x,F k x->W cx (Exit.then (Dn cx F S k) Q) c (S x)){k:Nat}{x:α}(h:F k x):W cx Q (.loop c) (S x):=by
 intro T w o
 refine RO (fun k a w=>∃x,F k x/\a.defers=ah.D cx/\al cx (S x) a.tmps w) ?_ ⟨x,h,rfl,o⟩
 rintro k ⟨T,d⟩ w ⟨x,L,aj,o⟩
 simp only at aj o
 subst aj
 refine Code.wp_mono ?_ (step k x L T w o)
 intro e Y w' q
 cases e with
 |normal=>obtain⟨k',x',O,R,U,V⟩:=q;exact⟨k',O,x',R,U,V⟩
 |_=>exact q
theorem iy{α:Type}{F:Nat->α->Prop}{S:α->af}{k k':Nat}(x':α)(o:k'<k)(q:F k' x'):N cx (Exit.then (Dn cx F S k) Q) .normal (S x'):=
 fun _ _ L=>⟨k',x',o,q,rfl,L⟩
theorem aH{y:Code}(h:W cx Q y st):N cx (Exit.then (y.wp cx.P Q) Q) .normal st:=h
theorem LM{l:List Oper}(h:bH cx ops Q l st):N cx (Exit.then (wpList cx.P ops Q l) Q) .normal st:=h
theorem fL{K:Act->World->Prop}{id:Nat}(h:N cx Q (.exit id) st):N cx (Exit.then K Q) (.exit id) st:=h
theorem dr{K:Act->World->Prop}(h:N cx Q .ret st):N cx (Exit.then K Q) .ret st:=h
theorem iH{id:Nat}(h:N cx Q .normal st):N cx (Exit.inBlock id Q) .normal st:=h
theorem fD{id:Nat}(h:N cx Q .ret st):N cx (Exit.inBlock id Q) .ret st:=h
theorem jK{id:Nat}(h:N cx Q .normal st):N cx (Exit.inBlock id Q) (.exit id) st:=fun T w o=>by
 show(if id=id then _ else _:Prop)
 rw[if_pos rfl]
 exact h T w o
theorem Se{id o:Nat}(q:Nat.beq o id=false)(h:N cx Q (.exit o) st):N cx (Exit.inBlock id Q) (.exit o) st:=fun T w L=>by
 show(if o=id then _ else _:Prop)
 rw[if_neg (beq_false q)]
 exact h T w L
theorem aT{id:Nat}{l:List Oper}(h:bH cx l.toArray Q l st):W cx Q (.region id l.toArray false) st:=fun T w o=>wp_region_lit (h T w o)
theorem Nf(o:br E cx){orc:List ak}{ob:List Prop}(q:eX E ops l st orc=some (st',[],ob))(L:bJ ob)(h:N cx Q .normal st'):bH cx ops Q l st:=
 fun _ _ O=>pi o O q L h
theorem oZ(o:br E cx)(n:Nat){orc:List ak}{ob:List Prop}(q:eX E ops (l.take n) st orc=some (st',[],ob))(L:bJ ob)(h:bH cx ops Q (l.drop n) st'):bH cx ops Q l st:=by
 intro T w O
 have:=p7 (P:=cx.P) (ops:=ops) (Q:=Q) (l1:=l.take n) (l2:=l.drop n) (pi o O q L h)
 rwa [List.take_append_drop]at this
theorem jh(h:N cx Q .normal st):bH cx ops Q [] st:=h
theorem al.norm(h:al cx st T w){o bs ap:List Nat}(q:st.norm o bs ap=some st'):al cx st' T w:=let⟨m,L⟩:=h;⟨m,L.norm q⟩
def jF(E:Env)(ops:Array Oper)(l:List Oper)(st:af)(orc:List ak)(o bs ap:List Nat):Option (af×List ak×List Prop):=
 match eX E ops l st orc with
 |some (s,aa,p)=>match s.norm o bs ap with
  |some q=>some (q,aa,p)
  |none=>none
 |none=>none
theorem FV{orc orc':List ak}{ob:List Prop}{o bs ap:List Nat}(h:jF E ops l st orc o bs ap=some (st',orc',ob)):∃s,eX E ops l st orc=some (s,orc',ob)/\s.norm o bs ap=some st':=by
 unfold jF at h
 split at h
 ·rename_i s aa p q
  split at h
  ·rename_i O L
   cases h
   exact⟨s,q,L⟩
  ·cases h
 ·cases h
theorem N.norm{e:Exit}{o bs ap:List Nat}(h:N cx Q e st')(q:st.norm o bs ap=some st'):N cx Q e st:=fun T w L=>h T w (L.norm q)
theorem bH.norm{o bs ap:List Nat}(h:bH cx ops Q l st')(q:st.norm o bs ap=some st'):bH cx ops Q l st:=fun T w L=>h T w (L.norm q)
theorem W.norm{c:Code}{o bs ap:List Nat}(h:W cx Q c st')(q:st.norm o bs ap=some st'):W cx Q c st:=fun T w L=>h T w (L.norm q)
end Go.Ev
namespace Go.Ev
open Go Go.RowKit
variable [bV]
variable {cx:bx} {m:Nat->Value} {st st':af} {T:Array Value} {w w':World} {P:Program}
variable [ah cx]
theorem Iw{l:List MapEntry}{n:Nat}{e:MapEntry}(o:(l.map (·.born)).Nodup)(h:l[n]? =some e):l.findIdx? (fun x=>(x.born:Int)==(e.born:Int))=some n:=by
 induction l generalizing n with
 |nil=>simp at h
 |cons x l q=>
  rw[List.map_cons,List.nodup_cons]at o
  rw[List.findIdx?_cons]
  cases n with
  |zero=>
   simp at h
   subst h
   simp
  |succ n=>
   simp at h
   have L:((x.born:Int)==(e.born:Int))=false:=by
    rw[beq_eq_false_iff_ne]
    intro O
    exact o.1 (List.mem_map.2 ⟨e,List.mem_of_getElem? h,by omega⟩)
   rw[L,q o.2 h]
   simp
theorem Gv{p:MapEntry->Bool}(es:Array MapEntry):es.findIdx? p=es.toList.findIdx? p:=by
 conv=>lhs;rw[show es=es.toList.toArray from by simp]
 rw[List.findIdx?_toArray]
theorem H2{α:Type}(f:α->α)(a:α):∀l:List α,(l++[a]).modify l.length f=l++[f a]
 |[]=>rfl
 |x::l=>by
  show x::((l++[a]).modify l.length f)=_
  rw[H2 f a l]
  rfl
theorem GU(kv:Value):∀(es:List MapEntry) (n:Nat),(es.modify n fun e=>{e with key:=kv}).map (·.born)=es.map (·.born)
 |[],n=>by cases n<;>rfl
 |e::es,0=>rfl
 |e::es,n+1=>by
  have:=GU kv es n
  simp only[List.modify_succ_cons,List.map_cons,this]
theorem LP{mt R lk:TypeId}{d d':Nat}{u v:ag}{M:Nat->Prop}(ll:P.underlying mt=some (.map R lk))(lm:cH P d R=some u)(ln:dJ P d' R=true)(aj:d'<=10000)(lo:u.flat=true)
  {z:Value}(lz:∀w,(zeroValue lk).run P w=.ok z w)
  {kv vv:Value}{key:u.el}{val:v.el}(O:bc w M kv u key)(lp:bc w M vv v val){g:Nat}{es:Array MapEntry}{clock:Nat}{ps:List (u.el×v.el)}
  (lc:w.heap[g]? =some (.map es clock))(U:∀e∈es.toList,e.born<clock)(V:(es.toList.map (·.born)).Nodup)(ld:dG (dI w M u) (dI w M v) es.toList ps):
  ∃(W:Array MapEntry) (lq:Nat) (v0:Value) (s:Int) (lr:World),(Instr.mapEntry mt (.map (some g)) kv).run P w=.ok (.tuple #[v0,.int .i64 s]) lr/\
   (∀o,(Instr.entryStore o (.map (some g)) (.int .i64 s) vv).run P lr=.ok () {w with heap:=w.heap.setIfInBounds g (.map W lq)})/\
   (∀e∈W.toList,e.born<lq)/\(W.toList.map (·.born)).Nodup/\dG (dI w M u) (dI w M v) W.toList (cU (aV u) ps key val):=by
 have ls:=nv (P:=P) false d R u lm d' ln 10000 aj w w M kv key O
 have Y:=sI lm ln aj O w ld
 have lt:=fG lc
 have lu:(getObj g).run P w=.ok (.map es clock) w:=by simp[getObj,Sem.run,lc]
 have lv:∀aa,(setObj g aa).run P w=.ok () {w with heap:=w.heap.setIfInBounds g aa}:=fun aa=>by simp[setObj,Sem.run,lc]
 have store:∀(q:Array MapEntry) (L:Nat) (s:Int) (n:Nat),q.findIdx? (fun e=>(e.born:Int)==s)=some n->∀o,
   (Instr.entryStore o (.map (some g)) (.int .i64 s) vv).run P {w with heap:=w.heap.setIfInBounds g (.map q L)}=.ok () {w with heap:=w.heap.setIfInBounds g (.map (q.modify n fun e=>{e with val:=vv}) L)}:=by
  intro q L s n lA o
  have Z:(getObj g).run P {w with heap:=w.heap.setIfInBounds g (.map q L)}=.ok (.map q L) {w with heap:=w.heap.setIfInBounds g (.map q L)}:=by
   simp[getObj,Sem.run,Array.getElem?_setIfInBounds_self_of_lt lt]
  have lB:∀aa,(setObj g aa).run P {w with heap:=w.heap.setIfInBounds g (.map q L)}=.ok () {w with heap:=w.heap.setIfInBounds g aa}:=fun aa=>by
   simp[setObj,Sem.run,Array.getElem?_setIfInBounds_self_of_lt lt,Array.setIfInBounds_setIfInBounds]
  unfold Instr.entryStore
  simp only[Sem.run_bind,Result.andThen_ok,Z,asInt,asIntOf,Sem.run_pure,lA,lB]
 rcases sk (kv:=kv) (vv:=vv) (val:=val) (eq:=aV u) (key:=key) O lp es.toList ps 0 ld with ⟨le,la⟩|⟨n,e,lC,le,la,lD,lE,lF⟩
 ·rw[le]at Y
  have lf:(es.push {key:=kv,val:=z,born:=clock}).findIdx? (fun e=>(e.born:Int)==((clock:Nat):Int))=some es.size:=by
   rw[Gv]
   refine Iw (e:={key:=kv,val:=z,born:=clock}) ?_ (by simp)
   rw[Array.toList_push,List.map_append,List.nodup_append]
   refine⟨V,by simp,?_⟩
   intro a lg b lh lG
   simp at lh
   obtain⟨e,he,rfl⟩:=List.mem_map.1 lg
   have:=U e he
   omega
  have li:(es.push {key:=kv,val:=z,born:=clock}).modify es.size (fun e=>{e with val:=vv})=es.push {key:=kv,val:=vv,born:=clock}:=by
   apply Array.ext'
   rw[Array.toList_modify,Array.toList_push,Array.toList_push,<-Array.length_toList,H2]
  refine⟨es.push {key:=kv,val:=vv,born:=clock},clock+1,z,clock,_,?_,fun o=>by rw[store _ _ _ _ lf o,li],?_,?_,?_⟩
  ·unfold Instr.mapEntry
   simp only[Sem.run_bind,run_underlying ll,Result.andThen_ok,lu,ls,Y,lv,lz,Sem.run_pure]
   rfl
  ·intro e he
   rw[Array.toList_push]at he
   rcases List.mem_append.1 he with he|he
   ·exact Nat.lt_succ_of_lt (U e he)
   ·simp at he;subst he;exact Nat.lt_succ_self _
  ·rw[Array.toList_push,List.map_append,List.nodup_append]
   refine⟨V,by simp,?_⟩
   intro a lg b lh lG
   simp at lh
   obtain⟨e,he,rfl⟩:=List.mem_map.1 lg
   have:=U e he
   omega
  ·rw[Array.toList_push,la]
   exact sQ ld ⟨O,lp,trivial⟩
 ·rw[le,Nat.zero_add]at Y
  have lH:key=lC:=xW u lE
  subst lH
  have lI:e.key=kv:=kp lo lD O
  have lw:es[n]? =some e:=by rw[<-Array.getElem?_toList];exact la
  have lJ:((es[n]?).map (·.key)).getD kv=kv:=by rw[lw];simp[lI]
  have lK:((es[n]?).map (fun x=>(x.born:Int))).getD 0=e.born:=by rw[lw];rfl
  have lL:∀lj,(Instr.keyThatStays kv kv).run P lj=.ok kv lj:=fun lj=>by
   unfold Instr.keyThatStays
   rw[if_pos (Co lo O)]
   rfl
  have lx:(es.modify n fun e=>{e with key:=kv}).toList=es.toList.modify n fun e=>{e with key:=kv}:=by simp
  have lb:(es.modify n fun e=>{e with key:=kv,val:=vv}).toList=es.toList.modify n fun e=>{e with key:=kv,val:=vv}:=by simp
  have lM:(es.toList.modify n fun e=>{e with key:=kv}).map (·.born)=es.toList.map (·.born):=by
   exact GU kv es.toList n
  have lf:(es.modify n fun e=>{e with key:=kv}).findIdx? (fun x=>(x.born:Int)==(e.born:Int))=some n:=by
   rw[Gv,lx]
   refine Iw (e:={e with key:=kv}) (by rw[lM];exact V) ?_
   rw[List.getElem?_modify_eq,la]
   rfl
  have li:(es.modify n fun e=>{e with key:=kv}).modify n (fun e=>{e with val:=vv})=es.modify n fun e=>{e with key:=kv,val:=vv}:=by
   apply Array.ext'
   rw[Array.toList_modify,lx,lb,List.modify_modify_eq]
   rfl
  refine⟨es.modify n fun e=>{e with key:=kv,val:=vv},clock,e.val,e.born,_,?_,fun o=>by rw[store _ _ _ _ lf o,li],?_,?_,?_⟩
  ·unfold Instr.mapEntry
   simp only[Sem.run_bind,run_underlying ll,Result.andThen_ok,lu,ls,Y,lJ,lL,lv,Sem.run_pure,lK]
   rfl
  ·intro x ly
   rw[lb]at ly
   have Z:x.born∈(es.toList.modify n fun e=>{e with key:=kv,val:=vv}).map (·.born):=List.mem_map.2 ⟨x,ly,rfl⟩
   rw[pE]at Z
   obtain⟨y,lN,e⟩:=List.mem_map.1 Z
   rw[<-e];exact U y lN
  ·rw[lb,pE];exact V
  ·rw[lb];exact lF
def eG(x:Operand)(d:Nat):Bool:=match x with
 |.tmp t=>!(Nat.beq t d)
 |_=>true
theorem gR{x:Operand}{d:Nat}{v:Value}(h:eG x d=true):Act.eval ⟨T.setIfInBounds d v,ah.D cx⟩ x=Act.eval ⟨T,ah.D cx⟩ x:=by
 cases x with
 |tmp t=>
  have o:t≠d:=by
   intro e
   subst e
   simp[eG]at h
  show(T.setIfInBounds d v).getD t undef=T.getD t undef
  rw[Array.getD_eq_getD_getElem?,Array.getD_eq_getD_getElem?,Array.getElem?_setIfInBounds_ne (fun e=>o e.symm)]
 |_=>rfl
theorem eval_put{d:Nat}{v:Value}(h:d<T.size):Act.eval ⟨T.setIfInBounds d v,ah.D cx⟩ (.tmp d)=v:=by
 show(T.setIfInBounds d v).getD d undef=v
 rw[Array.getD_eq_getD_getElem?,Array.getElem?_setIfInBounds_self_of_lt h]
 rfl
def qy(P:Program)(st:af)(t:TypeId)(x k v:Operand):Option af:=
 match P.underlying t with
 |some (.map _ o)=>match zeroOf P o with
  |some _=>pV P st t x k v
  |none=>none
 |_=>none
theorem Fw(h:an cx m st T w){t:TypeId}{x k v:Operand}{st':af}(o:qy cx.P st t x k v=some st'):
  ∃v0 s L w',(Instr.mapEntry t (Act.eval ⟨T,ah.D cx⟩ x) (Act.eval ⟨T,ah.D cx⟩ k)).run cx.P w=.ok (.tuple #[v0,.int .i64 s]) L/\
   (∀le,(Instr.entryStore le (Act.eval ⟨T,ah.D cx⟩ x) (.int .i64 s) (Act.eval ⟨T,ah.D cx⟩ v)).run cx.P L=.ok () w')/\an cx m st' T w':=by
 unfold qy at o
 split at o
 case h_2=>cases o
 rename_i lI lf R
 split at o
 case h_2=>cases o
 rename_i lJ lg
 obtain⟨lK,lh,_,li,_,lj,_⟩:=iO lg
 unfold pV at o
 split at o
 ·rename_i b lL lM lN lO lk U ll lm
  rw[R]at U
  cases U
  split at o
  ·rename_i lP lQ ps V ln lo lp lR
   split at o
   ·rename_i y z lq lr W
    cases o
    simp only[Bool.and_eq_true]at W
    obtain⟨⟨⟨ls,lt⟩,lu⟩,lv⟩:=W
    obtain rfl:=ag.eq_of_beq ls
    obtain rfl:=ag.eq_of_beq lt
    have lw:=ak.cO lq
    subst lw
    have lx:=ak.cO lr
    subst lx
    have O:=aW lo
    obtain⟨g,q,_,es,lS,Y,ly,lz,lA⟩:=h.box O
    have q:m b=.map (some g):=q
    have lB:Act.eval ⟨T,ah.D cx⟩ x=.map (some g):=by have:Act.eval ⟨T,ah.D cx⟩ x=m b:=a8 h lk;rw[this,q]
    have lC:∀w',(zeroValue lf).run cx.P w'=.ok lh w':=fun w'=>by simp[zeroValue,typeInfo,li,lj]
    obtain⟨Z,la,v0,s,L,lD,lE,lF,ch,dw⟩:=LP (d:=iu) (d':=16) R lp lv (by decide) lu lC (cK h ll) (cK h lm) Y ly lz lA
    have lb:Touch m w b {w with heap:=w.heap.setIfInBounds g (.map Z la)}:=
     ⟨⟨rfl,rfl,rfl,by simp,fun _=>Nat.le_refl _⟩,fun k _ lG=>by
      show(w.heap.setIfInBounds g _)[k]? =_
      rw[Array.getElem?_setIfInBounds_ne]
      intro e
      exact lG (by rw[q,e];rfl)⟩
    rw[lB]
    refine⟨v0,s,L,_,lD,lE,h.cL O lb (g:=g) q ?_⟩
    have lH:b∈st.ids:=List.mem_append.2 (.inl (List.mem_map.2 ⟨_,O,rfl⟩))
    obtain⟨lc,ld⟩:=an.fU (cx:=cx) lH lb (ids:=(st.cL b (.mp V ln (cU (aV V) ps y z))).ids) (iZ O h.keys _).1
    refine⟨Z,la,?_,lF,ch,ge (fun _ _ h=>cT lc ld h) (fun _ _ h=>cT lc ld h) dw⟩
    show(w.heap.setIfInBounds g _)[g]? =_
    rw[Array.getElem?_setIfInBounds_self_of_lt (fG Y)]
   ·cases o
  ·cases o
 ·cases o
def qM(E:Env)(st:af):List Oper->Option (af×List Oper)
 |q::aX::dM::l=>match q.guard,aX.guard,dM.guard,q.dst,aX.dst,dM.dst with
  |none,none,none,some d1,some d2,none=>match q.op,aX.op,dM.op with
   |.mapEntry t (.tmp o) k,.extract (.tmp a) i,.entryStore _ (.tmp L) (.tmp c) v=>
    match Nat.beq a d1&&(Nat.beq i 1&&(Nat.beq c d2&&(Nat.beq o L&&(eG (.tmp o) d1&&(eG (.tmp o) d2&&(eG v d1&&(eG v d2&&(Nat.blt d1 E.n&&Nat.blt d2 E.n))))))))with
    |true=>match qy E.P st t (.tmp o) k v with
     |some O=>some ((O.put d1 .any).put d2 .any,l)
     |none=>none
    |false=>none
   |_,_,_=>none
  |_,_,_,_,_,_=>none
 |_=>none
theorem Lf{E:Env}(L:br E cx){Q:cB}{ops:Array Oper}{l Y:List Oper}(o:qM E st l=some (st',Y))(h:bH cx ops Q Y st'):bH cx ops Q l st:=by
 unfold qM at o
 split at o
 case h_2=>cases o
 rename_i lf aX dM l
 split at o
 case h_2=>cases o
 rename_i d1 d2 g1 g2 g3 lg lh li
 split at o
 case h_2=>cases o
 rename_i t Z k a i t2 lD c v lj lk ll
 split at o
 case h_2=>cases o
 rename_i la
 simp only[Bool.and_eq_true]at la
 obtain⟨O,R,U,V,lm,ln,lo,lp,lq,lr⟩:=la
 have O:=Nat.eq_of_beq_eq_true O
 have R:=Nat.eq_of_beq_eq_true R
 have U:=Nat.eq_of_beq_eq_true U
 have V:=Nat.eq_of_beq_eq_true V
 subst O
 subst R
 subst U
 subst V
 split at o
 case h_2=>cases o
 rename_i lE lb
 cases o
 intro T w ⟨m,W⟩
 rw[<-L.P]at lb
 obtain⟨v0,s,q,w',ls,ch,lt⟩:=Fw W lb
 have lc:a<cx.n:=by rw[L.n];exact cw lq
 have ld:c<cx.n:=by rw[L.n];exact cw lr
 have lu:a<T.size:=by rw[W.size];exact lc
 refine wpList_step fun K lv=>?_
 rw[show Region.wanted lf (yielded ops T)=true from by unfold Region.wanted;rw[g1]]
 simp only[if_true]
 refine fQ (w':=q) (v:=.tuple #[v0,.int .i64 s]) (ca (by simp only[execOp,lj]) ls) ?_
 refine lv _ _ ?_
 rw[lg]
 refine wpList_step fun lF lw=>?_
 rw[show∀y,Region.wanted aX y=true from fun y=>by unfold Region.wanted;rw[g2]]
 simp only[if_true]
 have lx:Act.eval ⟨T.setIfInBounds a (.tuple #[v0,.int .i64 s]),ah.D cx⟩ (.tmp a)=.tuple #[v0,.int .i64 s]:=eval_put lu
 refine fQ (w':=q) (v:=.int .i64 s) (by simp[execOp,lk,lx,Instr.extract]) ?_
 refine lw _ _ ?_
 rw[lh]
 refine wpList_step fun le ly=>?_
 rw[show∀y,Region.wanted dM y=true from fun y=>by unfold Region.wanted;rw[g3]]
 simp only[if_true]
 have lz:Act.eval ⟨(T.setIfInBounds a (.tuple #[v0,.int .i64 s])).setIfInBounds c (.int .i64 s),ah.D cx⟩ (.tmp c)=.int .i64 s:=eval_put (by rw[Array.size_setIfInBounds,W.size];exact ld)
 have lA:Act.eval ⟨(T.setIfInBounds a (.tuple #[v0,.int .i64 s])).setIfInBounds c (.int .i64 s),ah.D cx⟩ (.tmp Z)=Act.eval ⟨T,ah.D cx⟩ (.tmp Z):=(gR ln).trans (gR lm)
 have lB:Act.eval ⟨(T.setIfInBounds a (.tuple #[v0,.int .i64 s])).setIfInBounds c (.int .i64 s),ah.D cx⟩ v=Act.eval ⟨T,ah.D cx⟩ v:=(gR lp).trans (gR lo)
 have lC:(execOp (Act.eval ⟨(T.setIfInBounds a (.tuple #[v0,.int .i64 s])).setIfInBounds c (.int .i64 s),ah.D cx⟩) dM).run cx.P q=.ok .skip w':=by
  simp only[execOp,ll,Sem.run_bind,lz,lA,lB,ch,Result.andThen_ok,Sem.run_pure]
 show dM.wp cx.P ⟨(T.setIfInBounds a (.tuple #[v0,.int .i64 s])).setIfInBounds c (.int .i64 s),ah.D cx⟩ q le _
 unfold Oper.wp
 rw[lC]
 show le (Act.put ⟨(T.setIfInBounds a (.tuple #[v0,.int .i64 s])).setIfInBounds c (.int .i64 s),ah.D cx⟩ dM.dst undef) w'
 rw[li]
 exact ly _ _ (h _ _ ⟨m,(lt.put lc (s:=.any) trivial).put ld (s:=.any) trivial⟩)
end Go.Ev
namespace Go.Ev
open Go Go.RowKit
variable [bV]
variable {cx:bx} {m:Nat->Value} {st st':af} {T:Array Value} {w w':World} {E:Env} {Q:cB}
variable [ah cx]
def EU:ak->ao
 |⟨.ptr t,x⟩=>.vptr t x
 |⟨t,x⟩=>.val t x
theorem MU{M:Nat->Prop}{m:Nat->Value}{v:Value}{u:ak}(h:bc w M v u.t u.x):aN w M m v (EU u):=by
 obtain⟨t,x⟩:=u
 cases t with
 |ptr t=>
  obtain⟨a,cells,e,r⟩:=(bA (t:=.ptr t) rfl).1 h
  simp only[List.cons.injEq,and_true]at e
  exact⟨a,cells,e,r⟩
 |_=>exact h
def jM:Nat->List ak->List (Nat×ao)
 |_,[]=>[]
 |k,u::us=>(k,EU u)::jM (k+1) us
theorem DE{M:Nat->Prop}:∀{vs:List Value} {l:List ak},dB w M vs l->vs.length=l.length
 |[],[],_=>rfl
 |[],_::_,h=>h.elim
 |_::_,[],h=>h.elim
 |_::_,_::_,⟨_,h⟩=>by simp[DE h]
theorem EK{M:Nat->Prop}{m:Nat->Value}:∀{vs:List Value} {q:List ak} (k:Nat) {T:Array Value},dB w M vs q->(∀i v,vs[i]? =some v->T[k+i]? =some v)->
  ∀i aM,(i,aM)∈jM k q->∃v,T[i]? =some v/\aN w M m v aM
 |[],[],k,T,_,_,i,aM,o=>by simp[jM]at o
 |[],_::_,_,_,h,_,_,_,_=>h.elim
 |_::_,[],_,_,h,_,_,_,_=>h.elim
 |v::vs,a::q,k,T,⟨O,R⟩,L,i,aM,o=>by
  rcases List.mem_cons.1 o with o|o
  ·cases o
   exact⟨v,by have:=L 0 v rfl;simpa using this,MU O⟩
  ·exact EK (k+1) R (fun j u U=>by have:=L (j+1) u (by simpa using U);rw[<-this];congr 1;omega) i aM o
theorem entry{P:Program}{n:Nat}{M:Nat->Prop}{vs:List Value}{L:List ak}(R:∀b,M b->b<w.heap.size)(O:dB w M vs L)(la:L.length<=n):
  al ⟨P,n,w,M,fun _=>False,fun _=>undef⟩ ⟨jM 0 L,[],[]⟩ (vs.toArray++Array.replicate (n-vs.toArray.size) undef) w:=by
 have lb:=DE O
 refine⟨fun _=>undef,?_⟩
 have U:∀b,ar ⟨P,n,w,M,fun _=>False,fun _=>undef⟩ (fun _=>undef) (af.ids ⟨jM 0 L,[],[]⟩) b->M b:=by
  rintro b (h|⟨i,q,_⟩)
  ·exact h
  ·simp[af.ids]at q
 refine{size:=?_,frame:=Frame.refl _ _,outer:=fun b o=>⟨R b o,fun h=>h⟩,kept:=(fun r c V=>absurd V List.not_mem_nil),cv:=?_,boxes:=fun b c o=>by simp at o,rows:=fun b c o=>by simp at o,apart:=fun i j q=>by simp[af.ids]at q,keys:=by simp[af.ids],fixed:=fun b c o=>by simp at o}
 ·show(vs.toArray++Array.replicate (n-vs.toArray.size) undef).size=n
  simp only[Array.size_append,List.size_toArray,Array.size_replicate]
  omega
 ·have W:=EK (m:=fun _=>undef) (T:=vs.toArray++Array.replicate (n-vs.toArray.size) undef) 0 O (fun i v q=>by
   rw[Nat.zero_add,Array.getElem?_append_left (by have:=(List.getElem?_eq_some_iff.1 q).1;simpa using this)]
   simpa using q)
  intro i aM q
  obtain⟨v,Y,Z⟩:=W i aM q
  exact⟨v,Y,eN (fun _ _ _=>rfl) (fun b _ o=>U b o) Z⟩
def zc:List (Nat×cp)->af->af
 |[],st=>st
 |(r,c)::l,st=>zc l (match look st.rw r with|some c'=>st.freeze r c'|none=>st)
def xV:List (Nat×bM)->af->af
 |[],st=>st
 |(r,_)::l,st=>xV l (match look st.ad r with|some (.mp k v ps)=>st.eT r k v ps|_=>st)
theorem Ai:∀{l:List (Nat×bM)} {st:af},an cx m st T w->an cx m (xV l st) T w
 |[],_,h=>h
 |(r,c)::l,st,h=>by
  refine Ai (l:=l) ?_
  split
  ·rename_i k v ps o;exact h.eT (aW o)
  ·exact h
def iR(st:af):af:=xn st.ad (xV st.ad (zc st.rw st))
theorem Ao:∀{l:List (Nat×cp)} {st:af},an cx m st T w->an cx m (zc l st) T w
 |[],_,h=>h
 |(r,c)::l,st,h=>by
  refine Ao (l:=l) ?_
  split
  ·rename_i c' o;exact h.freeze (aW o)
  ·exact h
def nd:ag->List ao->Option (ak×List ao)
 |.ck,l=>match l with
  |.val t x::r=>match t.agg with
   |false=>some (⟨t,x⟩,r)
   |true=>none
  |_=>none
 |.unit,l=>some (⟨.unit,()⟩,l)
 |.pair a b,l=>match nd a l with
  |some (o,r)=>match nd b r with
   |some (q,L)=>some (⟨.pair o.t q.t,(o.x,q.x)⟩,L)
   |none=>none
  |none=>none
 |t,l=>match pack t l with
  |some (x,r)=>some (⟨t,x⟩,r)
  |none=>none
theorem OJ{M:Nat->Prop}:∀(t:ag) {cs:List Value} {c r:List ao} {v:ak},cg w M m cs c->nd t c=some (v,r)->∃q c2,cs=q++c2/\aK w M v.t q v.x/\v.t.cells=t.cells/\v.t.agg=t.agg/\cg w M m c2 r:=by
 intro t
 have V:∀(t:ag) {cs:List Value} {c r:List ao} {v:ak},cg w M m cs c->(match pack t c with
   |some (x,r)=>some ((⟨t,x⟩:ak),r)
   |none=>none)=some (v,r)->∃q c2,cs=q++c2/\aK w M v.t q v.x/\v.t.cells=t.cells/\v.t.agg=t.agg/\cg w M m c2 r:=by
  intro t cs c r v o h
  split at h
  ·rename_i x W Y
   cases h
   obtain⟨q,c2,e,L,O⟩:=nD t o Y
   exact⟨q,c2,e,L,rfl,rfl,O⟩
  ·cases h
 induction t with
 |ck=>
  intro cs c r v o h
  unfold nd at h
  split at h
  ·rename_i t x W
   split at h
   ·rename_i R
    cases h
    match cs,o with
    |v0::vs,⟨L,O⟩=>
     have U:=(bA R).1 (show bc w M v0 t x from L)
     exact⟨[v0],vs,rfl,U,(b6 t U).symm,R,O⟩
    |[],o=>exact o.elim
   ·cases h
  ·cases h
 |unit=>intro cs c r v o h;cases h;exact⟨[],cs,rfl,rfl,rfl,rfl,o⟩
 |pair a b Z la=>
  intro cs c r v o h
  unfold nd at h
  split at h
  ·rename_i lf lg L
   split at h
   ·rename_i lh ch O
    cases h
    obtain⟨q,c2,rfl,lb,lc,_,ld⟩:=Z o L
    obtain⟨d1,d2,rfl,l1,l2,_,le⟩:=la ld O
    exact⟨q++d1,d2,by simp,⟨q,d1,rfl,lb,l1⟩,by simp only[ag.cells,lc,l2],rfl,le⟩
   ·cases h
  ·cases h
 |_=>intro cs c r v o h;exact V _ o h
def gn(P:Program)(st:af):List ResultVar->Option (List ak)
 |[]=>some []
 |.tmp t::l=>match look st.ab t,gn P st l with
  |some (.val u x),some vs=>some (⟨u,x⟩::vs)
  |_,_=>none
 |.cell a ty'::l=>match look st.ab a,ty P ty',gn P st l with
  |some (.ptr b off),some u,some vs=>match look st.ad b with
   |some (.cells c _)=>match pack u (c.drop off)with
    |some (x,_)=>some (⟨u,x⟩::vs)
    |none=>match nd u (c.drop off)with
     |some (v,_)=>some (v::vs)
     |none=>none
   |_=>none
  |some (.dm b []),some u,some vs=>match look st.ad b with
   |some (.aP t x _)=>match ak.as ⟨t,x⟩ u,Nat.beq u.cells 0 with
    |some y,false=>some (⟨u,y⟩::vs)
    |_,_=>none
   |_=>none
  |_,_,_=>none
def gx(T:Array Value):ResultVar->Sem Value
 |.tmp t=>pure (T.getD t undef)
 |.cell a t=>do loadVar t (<-asAddr (T.getD a undef))
theorem oh(h:an cx m st T w):∀{l:List ResultVar} {ap:List ak},gn cx.P st l=some ap->
  ∃vs,(l.mapM (gx T)).run cx.P w=.ok vs w/\dB w (ar cx m st.ids) vs ap
 |[],_,o=>by cases o;exact⟨[],by simp,trivial⟩
 |.tmp t::l,ap,o=>by
  simp only[gn]at o
  split at o
  ·rename_i u x R U V
   cases o
   obtain⟨vs,L,W⟩:=oh h V
   obtain⟨v,Y,lu⟩:=h.cv t _ (aW U)
   refine⟨v::vs,?_,lu,W⟩
   have lv:T.getD t undef=v:=by rw[Array.getD_eq_getD_getElem?,Y];rfl
   have le:(gx T (.tmp t)).run cx.P w=.ok v w:=by show Sem.run cx.P (pure (T.getD t undef)) w=_;rw[lv,Sem.run_pure]
   rw[List.mapM_cons,Sem.run_bind,le]
   simp only[Result.andThen_ok,Sem.run_bind,L,Sem.run_pure]
  ·cases o
 |.cell a t::l,ap,o=>by
  simp only[gn]at o
  have fin:∀(b off:Nat) (u:ag) (R:List ak) (c:List ao) (e:Nat),look st.ab a=some (.ptr b off)->ty cx.P t=some u->gn cx.P st l=some R->look st.ad b=some (.cells c e)->∀v':ak,
    (∀lh,cg w (ar cx m st.ids) m lh (c.drop off)->∃O c2,lh=O++c2/\aK w (ar cx m st.ids) v'.t O v'.x/\v'.t.cells=u.cells/\v'.t.agg=u.agg)->
    ∃vs,((ResultVar.cell a t::l).mapM (gx T)).run cx.P w=.ok vs w/\dB w (ar cx m st.ids) vs (v'::R):=by
   intro b off u R c e U Z V la v' lw
   obtain⟨vs,L,W⟩:=oh h V
   obtain⟨v0,Y,g,lj,lk⟩:=h.cv a _ (aW U)
   obtain⟨lf,lg,_,cells,ll,lb⟩:=h.box (aW la)
   have:lf=g:=by rw[lj]at lg;cases lg;rfl
   subst this
   obtain⟨_,aj⟩:=ij (w:=w) (m:=m) off lb
   obtain⟨O,c2,lx,lm,ly,ls⟩:=lw _ aj
   have lc:u.agg=false->0<u.cells:=by
    intro ld
    have ln:=cQ Z
    cases u<;>first|(simp[ag.cells];done)|(simp[ag.agg]at ld)|(obtain⟨_,_,_,ln⟩:=ln;exact ln.elim)
   obtain⟨v,lo,q⟩:=io (c:=O) Z ll (fun j v li=>by
    have:(cells.toList.drop off)[j]? =some v:=by rw[lx,List.getElem?_append_left (List.getElem?_eq_some_iff.1 li).1];exact li
    rw[List.getElem?_drop]at this
    simpa using this) ((b6 v'.t lm).trans ly) lc
   have lp:bc w (ar cx m st.ids) v v'.t v'.x:=by
    cases ld:u.agg with
    |true=>rw[ld,if_pos rfl]at q;exact(dK (ls.trans ld)).2 ⟨O,q,lm⟩
    |false=>rw[ld]at q;simp at q;subst q;exact(bA (ls.trans ld)).2 lm
   refine⟨v::vs,?_,lp,W⟩
   have lq:T.getD a undef=.pointer (some ⟨lf,off,none⟩):=by rw[Array.getD_eq_getD_getElem?,Y,lk];rfl
   have le:(gx T (.cell a t)).run cx.P w=.ok v w:=by
    show Sem.run cx.P (do loadVar t (<-asAddr (T.getD a undef))) w=_
    rw[Sem.run_bind,lq]
    exact lo w (Ext.refl w)
   rw[List.mapM_cons,Sem.run_bind,le]
   simp only[Result.andThen_ok,Sem.run_bind,L,Sem.run_pure]
  split at o
  ·rename_i b off u R U Z V
   split at o
   ·rename_i c lt la
    split at o
    ·rename_i x r lr
     cases o
     exact fin b off u R c lt U Z V la ⟨u,x⟩ fun lh aj=>by
      obtain⟨O,c2,e,L,_⟩:=nD u aj lr
      exact⟨O,c2,e,L,rfl,rfl⟩
    ·split at o
     ·rename_i v r lr
      cases o
      exact fin b off u R c lt U Z V la v fun lh aj=>by
       obtain⟨O,c2,e,L,W,Y,_⟩:=OJ u aj lr
       exact⟨O,c2,e,L,W,Y⟩
     ·cases o
   ·cases o
  ·rename_i b u R U Z V
   split at o
   ·rename_i lD x e la
    split at o
    ·rename_i y lz lA
     cases o
     have lB:=ak.cO lz
     cases lB
     obtain⟨vs,L,W⟩:=oh h V
     obtain⟨v0,Y,g,lj,lk⟩:=h.cv a _ (aW U)
     obtain⟨lf,lg,_,cells,ll,lb⟩:=h.box (aW la)
     have:lf=g:=by rw[lj]at lg;cases lg;rfl
     subst this
     have lC:0<u.cells:=Nat.pos_of_ne_zero (beq_false lA)
     obtain⟨v,lo,q⟩:=io (off:=0) (c:=cells.toList) Z ll (fun j v li=>by rw[Nat.zero_add,<-Array.getElem?_toList];exact li) (b6 u lb) (fun _=>lC)
     have lp:bc w (ar cx m st.ids) v u y:=by
      cases lc:u.agg with
      |true=>rw[lc,if_pos rfl]at q;exact(dK lc).2 ⟨_,q,lb⟩
      |false=>rw[lc]at q;simp only[Bool.false_eq_true,if_false]at q;rw[q]at lb;exact(bA lc).2 lb
     refine⟨v::vs,?_,lp,W⟩
     have lq:T.getD a undef=.pointer (some ⟨lf,0,none⟩):=by rw[Array.getD_eq_getD_getElem?,Y,lk];rfl
     have le:(gx T (.cell a t)).run cx.P w=.ok v w:=by
      show Sem.run cx.P (do loadVar t (<-asAddr (T.getD a undef))) w=_
      rw[Sem.run_bind,lq]
      exact lo w (Ext.refl w)
     rw[List.mapM_cons,Sem.run_bind,le]
     simp only[Result.andThen_ok,Sem.run_bind,L,Sem.run_pure]
    ·cases o
   ·cases o
  ·cases o
theorem EC{P:Program}{fn:Func}{T:Array Value}{vs:List Value}(h:(fn.results.toList.mapM (gx T)).run P w=.ok vs w):
  (results fn T).run P w=.ok (if h:vs.toArray.size=1 then vs.toArray[0]else .tuple vs.toArray) w:=by
 show Sem.run P (do let vs<-fn.results.mapM (gx T);pure (if h:vs.size=1 then vs[0]else .tuple vs)) w=_
 rw[Array.mapM_eq_mapM_toList,Sem.run_bind]
 have e:(Functor.map List.toArray (fn.results.toList.mapM (gx T))).run P w=.ok vs.toArray w:=by
  rw[map_eq_pure_bind,Sem.run_bind,h]
  rfl
 rw[e]
 rfl
def oG(P:Program)(fn:Func)(M:Nat->Prop)(w0:World)(ap:List ak):cB:=
 bodyPost P fn fun e w'=>∃v,e=.returned v/\iT w' M v ap/\Ext w0 w'
theorem ro{P:Program}{n:Nat}{M:Nat->Prop}{w0:World}{fn:Func}{ap:List ak}{e:Exit}{m0:Nat->Value}(L:e=.ret\/e=.normal)(O:gn P (iR st) fn.results.toList=some ap):
  N ⟨P,n,w0,M,fun _=>False,m0⟩ (oG P fn M w0 ap) e st:=by
 rintro T w ⟨m,o⟩
 have R:=Bo (l:=st.ad) (Ai (l:=st.ad) (Ao (l:=st.rw) o))
 obtain⟨vs,U,V⟩:=oh R O
 have W:=EC U
 have Y:Ext w0 w:={os:=o.frame.os,tape:=o.frame.tape,output:=o.frame.output,size:=o.frame.size,drawn:=o.frame.drawn,block:=fun b q=>o.frame.block b q (fun h=>h)}
 have Z:dB w M vs ap:=oK (fun _ _ _=>rfl) (fun b _ q=>.inl q) V
 have la:iT w M (if h:vs.toArray.size=1 then vs.toArray[0]else .tuple vs.toArray) ap:=by
  match vs,ap,Z with
  |[],[],_=>trivial
  |[v],[u],⟨h,_⟩=>exact h
  |v1::v2::vs,lc::ld::us,h=>
   have lb:¬(v1::v2::vs).toArray.size=1:=by simp
   rw[dif_neg lb]
   exact⟨_,rfl,h⟩
  |[],_::_,h=>exact h.elim
  |_::_,[],h=>exact h.elim
  |[_],_::_::_,⟨_,h⟩=>exact h.elim
  |_::_::_,[_],⟨_,h⟩=>exact h.elim
 rcases L with rfl|rfl<;>exact⟨rfl,_,W,_,rfl,la,Y⟩
theorem enters_of{P:Program}{f:FuncId}{fn:Func}{c:Code}(o:P.funcs[f]? =some fn)(q:(fn.name== "runtime.NumGoroutine")=false)(L:fn.body=some c):
  ∀args w,(callFunc f args).run P w=.ok (.enter f args) w:=by
 intro args w
 have O:fn.name≠ "runtime.NumGoroutine" :=by simpa using q
 simp[callFunc,o,O,L,mark]
theorem wj{P:Program}{G:World->Prop}(R:∀w w',Frame w w' (fun _=>False)->G w->G w'){f:FuncId}{fn:Func}{c:Code}{F:ip}(q:P.funcs[f]? =some fn)(U:(fn.name== "runtime.NumGoroutine")=false)(L:fn.body=some c)
  (shape:∀o ap,F.rel o ap->o.length<=fn.ntmps/\ap.length=F.gf/\(F.flat=true->∀u∈ap,u.t.flat=true))
  (V:∀(w0:World) (M:Nat->Prop) (o ap:List ak),(∀w,Frame w0 w (fun _=>False)->G w)->F.rel o ap->W ⟨P,fn.ntmps,w0,M,fun _=>False,fun _=>undef⟩ (oG P fn M w0 ap) c ⟨jM 0 o,[],[]⟩):aR P G f F where
 enters:=enters_of q U L
 shape:=fun o ap h=>(shape o ap h).2
 calls:=fun w M vs o ap Y Z O la=>calls_of_wp q L (V w M o ap (fun w' h=>R w w' h Y) O _ _ (entry Z la (shape o ap O).1))
end Go.Ev
namespace Go.Ev
open Go Go.RowKit
variable [bV]
variable {cx:bx} {st st':af} {E:Env} {Q:cB} {ops:Array Oper} {l:List Oper}
variable [ah cx]
abbrev ax(x:Int):ao:=.val (.int .i64) x
abbrev jc(x:Int):ao:=.val (.int .i32) x
abbrev eY(x:Int):ao:=.val (.int .u32) x
abbrev bN(x:Int):ao:=.val (.int .u8) x
abbrev aU(x:Bool):ao:=.val .bool x
abbrev bg(x:List UInt8):ao:=.val .str x
abbrev jD(x:Int):ak:=⟨.int .i64,x⟩
abbrev to(x:Int):ak:=⟨.int .i32,x⟩
abbrev fT(x:Bool):ak:=⟨.bool,x⟩
abbrev sm(x:List UInt8):ak:=⟨.str,x⟩
def B5{α q o:Type}(v:Sum α q)(f:α->Option o)(g:q->Option o):Option o:=match v with
 |.inl x=>f x
 |.inr y=>g y
theorem IU{α q o:Type}{x:α}{f:α->Option o}{g:q->Option o}{r:o}(h:B5 (.inl x) f g=some r):f x=some r:=h
theorem PP{α q o:Type}{y:q}{f:α->Option o}{g:q->Option o}{r:o}(h:B5 (.inr y) f g=some r):g y=some r:=h
def ai(x:Int):Int:=IntKind.i64.wrap x
def dY(x:Int):Int:=IntKind.u64.wrap x
def dt(x:Int):Int:=IntKind.u32.wrap x
def qF(x:Int):Int:=IntKind.u8.wrap x
theorem LR(S:Bool->af){b:Bool}(o:b=true->bH cx ops Q l (S true))(q:b=false->bH cx ops Q l (S false)):bH cx ops Q l (S b):=by cases b with|true=>exact o rfl|false=>exact q rfl
theorem Ms(o:br E cx)(n:Nat)(q bs ap:List Nat){orc:List ak}{ob:List Prop}(L:jF E ops (l.take n) st orc q bs ap=some (st',[],ob))(O:bJ ob)(h:bH cx ops Q (l.drop n) st'):bH cx ops Q l st:=by
 obtain⟨s,R,U⟩:=FV L
 exact oZ o n R O (h.norm U)
theorem Ie(o:br E cx)(q bs ap:List Nat){orc:List ak}{ob:List Prop}(L:jF E ops l st orc q bs ap=some (st',[],ob))(O:bJ ob)(h:N cx Q .normal st'):bH cx ops Q l st:=by
 obtain⟨s,R,U⟩:=FV L
 exact Nf o R O (h.norm U)
theorem jH{α:Type}(F:α->Prop)(S:α->af){x y:Code}(o:∀a,F a->W cx Q y (S a))(q:(∀a,F a->N cx (Exit.then (y.wp cx.P Q) Q) .normal (S a))->W cx (Exit.then (y.wp cx.P Q) Q) x st):W cx Q (.seq x y) st:=
 aG (q fun a L=>aH (o a L))
theorem yW{α:Type}(F:α->Prop)(S:α->af)(n:Nat)(o:∀a,F a->bH cx ops Q (l.drop n) (S a))(q:(∀a,F a->N cx (Exit.then (wpList cx.P ops Q (l.drop n)) Q) .normal (S a))->bH cx ops (Exit.then (wpList cx.P ops Q (l.drop n)) Q) (l.take n) st):bH cx ops Q l st:=by
 intro T w L
 have:=p7 (P:=cx.P) (ops:=ops) (Q:=Q) (l1:=l.take n) (l2:=l.drop n) (q (fun a O=>LM (o a O)) T w L)
 rwa [List.take_append_drop]at this
def aL(p:Prop)[Decidable p]:Option Unit:=if p then some ()else none
theorem cV{p:Prop}[Decidable p]{x:Unit}(h:aL p=some x):p:=by
 unfold aL at h
 split at h
 ·assumption
 ·cases h
theorem FG{g e:Bool}(h:g=true):(g||e)=true:=by rw[h,Bool.true_or]
theorem Ho{g e:Bool}(h:g=false):(g||e)=e:=by rw[h,Bool.false_or]
theorem bind_some{α o:Type}{aa:Option α}{f:α->Option o}{r:o}(h:aa.bind f=some r):∃x,aa=some x/\f x=some r:=Option.bind_eq_some_iff.1 h
theorem dS{α:Type}{b:Bool}{x y:α}{r:α}(o:b=true)(h:(if b then x else y)=r):x=r:=by rw[<-h,if_pos o]
theorem dP{α:Type}{b:Bool}{x y:α}{r:α}(o:b=false)(h:(if b then x else y)=r):y=r:=by rw[<-h,if_neg (by rw[o];decide)]
theorem br.nil{P:Program}{G:World->Prop}{n:Nat}{cx:bx}(o:cx.P=P)(q:cx.n=n)(L:∀w,Frame cx.w0 w cx.X->G w):br ⟨P,G,n,[]⟩ cx:=⟨o,q,L,fun _ _ h=>by cases h⟩
theorem br.cons{P:Program}{G:World->Prop}{n:Nat}{fns:List (Nat×ip)}{cx:bx}{f:Nat}{F:ip}(q:aR P G f F)(h:br ⟨P,G,n,fns⟩ cx):br ⟨P,G,n,(f,F)::fns⟩ cx:=
 ⟨h.P,h.n,h.oO,fun g G o=>by rcases List.mem_cons.1 o with o|o;cases o;exact q;exact h.fns g G o⟩
/-! Slices of maps; maps of one entry at most. -/
def hZ{α:Type}(xs:List (Option (Option α)))(i:Int):Option (Option α):=
 match xs[i.toNat]? with
 |some (some y)=>some y
 |_=>none
theorem jk{α:Type}{xs:List (Option (Option α))}{i:Int}{y:Option α}(h:hZ xs i=some y):xs[i.toNat]? =some (some y):=by
 unfold hZ at h
 split at h
 ·cases h;assumption
 ·cases h
def kP{α:Type}(xs:List (Option (Option α)))(i:Int):Option α:=
 match xs[i.toNat]? with
 |some (some (some y))=>some y
 |_=>none
theorem nu{α:Type}{xs:List (Option (Option α))}{i:Int}{y:α}(h:kP xs i=some y):xs[i.toNat]? =some (some (some y)):=by
 unfold kP at h
 split at h
 ·cases h;assumption
 ·cases h
theorem Fh{α:Type}(z:α){n:Int}(h:0<n):List.replicate n.toNat z=List.replicate (List.length (List.replicate n.toNat z)) z/\0<List.length (List.replicate n.toNat z):=by
 rw[List.length_replicate]
 exact⟨rfl,by omega⟩
def nt{α o:Type}(l:List α)(a:Option o)(f:α->Option o):Option o:=
 match l with
 |[]=>a
 |[p]=>f p
 |_=>none
theorem qZ{α o:Type}{l:List α}{a:Option o}{f:α->Option o}{y:o}(h:nt l a f=some y):(l=[]/\a=some y)\/∃p,l=[p]/\f p=some y:=by
 unfold nt at h
 split at h
 ·exact .inl ⟨rfl,h⟩
 ·exact .inr ⟨_,rfl,h⟩
 ·cases h
end Go.Ev
namespace Go.Ev
open Go
def utf8_DecodeRuneInString(o:Nat)(s:List UInt8):Option (Int×Int):=some (((Lib.decodeGo ⟨s.toArray⟩).1:Int),((Lib.decodeGo ⟨s.toArray⟩).2:Int))
/-! The builder. -/
def CO(o:Nat)(q:List Int):Option Unit:=some ()
def pP(o:Nat)(l:List Int):Option (List UInt8):=if ee (eQ l)=l then some (eQ l)else none
end Go.Ev
namespace Go.Ev
open Go Go.RowKit
variable [bV]
variable {cx:bx} {m:Nat->Value} {st st':af} {T:Array Value} {w w':World} {E:Env} {Q:cB} {ops:Array Oper} {l:List Oper}
variable [ah cx]
theorem Dq{w w':World}{M M':Nat->Prop}:∀{vs o:List Value} {l:List ak},(∀u∈l,u.t.flat=true)->dB w M vs l->dB w' M' o l->vs=o
 |[],[],[],_,_,_=>rfl
 |[],_,_::_,_,h,_=>h.elim
 |_::_,_,[],_,h,_=>h.elim
 |_,[],_::_,_,_,h=>h.elim
 |_,_::_,[],_,_,h=>h.elim
 |_::_,_::_,u::_,q,⟨L,O⟩,⟨R,U⟩=>by
  rw[kp (q u List.mem_cons_self) L R,Dq (fun x V=>q x (List.mem_cons_of_mem _ V)) O U]
def nO:List ak->Bool
 |[]=>false
 |l=>l.all fun u=>u.t.flat
theorem JT{w w':World}{M M':Nat->Prop}{m aA:Nat->Value}{v v':Value}{l:List ak}(o:nO l=true)(h:aN w M m v (pF l))(h':aN w' M' aA v' (pF l)):v=v':=by
 match l,o,h,h' with
 |[u],o,h,h'=>exact kp (by simpa[nO]using o) h h'
 |O::R::us,o,⟨vs,e,h⟩,⟨U,q,h'⟩=>
  rw[e,q,Dq (fun u L=>by simp only[nO,List.all_eq_true]at o;exact o u L) h h']
def fc(E:Env)(st:af)(aa:Oper)(orc:List ak):Option di:=
 match db E.P st aa.op orc with
 |some r=>some r
 |none=>match nF E.P st aa orc with
 |some r=>some r
 |none=>match aa.op with
  |.load t x=>pW E.P st t x orc
  |.call c=>match c.callee with
   |.value x=>match pA E st x with
    |some (_,F,_)=>bif F.flat&&nO (orc.take F.gf)then kh E st c orc else none
    |none=>none
   |_=>none
  |_=>none
def fz(E:Env)(ops:Array Oper):List Oper->af->List ak->Option (af×List ak×List Prop)
 |[],st,orc=>some (st,orc,[])
 |aa::l,st,orc=>match dR ops st aa with
  |some true=>match aa.dst,fc E st aa orc with
   |some d,some r=>match Nat.blt d E.n,fz E ops l (st.put d r.aM) r.orc with
    |true,some (o,q,L)=>some (o,q,r.ob++L)
    |_,_=>none
   |_,_=>none
  |some false=>match aa.dst with
   |some d=>match Nat.blt d E.n with
    |true=>fz E ops l (st.put d .undef) orc
    |false=>none
   |none=>fz E ops l st orc
  |none=>none
theorem Qn{P:Program}{f:FuncId}{args:Array Value}{al:Ending->World->Prop}(h:Calls P f args w al):∃e w',al e w':=by
 obtain⟨e,w',iG,o,_⟩:=h []
 exact⟨e,w',o⟩
theorem tJ(O:br E cx)(h:an cx m st T w){aa:Oper}{orc:List ak}{r:di}(o:fc E st aa orc=some r)(R:bJ r.ob):
  ∃v,(∀w',Ext w w'->aa.quietAt cx.P ⟨T,ah.D cx⟩ (Ext w) w' v)/\aN w (ar cx m st.ids) m v r.aM:=by
 unfold fc at o
 split at o
 ·rename_i lg U
  cases o
  rw[<-O.P]at U
  obtain⟨v,aj,q⟩:=yE h U R
  refine⟨v,fun w' L=>?_,q⟩
  unfold Oper.quietAt
  rw[aj w' L]
  exact⟨rfl,rfl⟩
 ·split at o
  ·rename_i lg U
   cases o
   rw[<-O.P]at U
   obtain⟨v,la,q⟩:=BA h U R
   refine⟨v,fun w' L=>?_,q⟩
   unfold Oper.quietAt
   rw[la w' L]
   exact⟨rfl,rfl⟩
  split at o
  ·rename_i t x Y
   rw[<-O.P]at o
   obtain⟨v,la,q⟩:=vR h o R
   refine⟨v,fun w' L=>?_,q⟩
   unfold Oper.quietAt
   rw[ca (by simp only[execOp,Y]) (la w' L)]
   exact⟨rfl,rfl⟩
  ·rename_i c Y
   split at o
   ·rename_i lp lh
    split at o
    ·rename_i f F lq li
     cases V:F.flat&&nO (orc.take F.gf)with
     |false=>rw[V]at o;cases o
     |true=>
      rw[V,cond_true]at o
      simp only[Bool.and_eq_true]at V
      have ld:r.aM=pF (orc.take F.gf):=by
       unfold kh at o
       rw[lh]at o
       simp only[li]at o
       split at o
       ·cases le:Nat.ble F.gf orc.length with
        |false=>rw[le]at o;cases o
        |true=>rw[le]at o;cases o;rfl
       ·cases o
      obtain⟨f0,args,lr,lj⟩:=o2 O h Y o R
      obtain⟨e,ls,v,_,lt,q⟩:=Qn lj
      refine⟨v,fun w' L=>?_,?_⟩
      ·obtain⟨f1,lu,lk,ll⟩:=o2 O (h.ext L) Y o R
       unfold Oper.quietAt
       rw[lk w']
       refine⟨rfl,ll.mono ?_⟩
       rintro lv lw ⟨v',lm,ln,lf⟩
       rw[ld]at q lf
       refine⟨?_,L.trans ln⟩
       rw[lm,JT V.2 lf q]
      ·rw[ld]at q⊢
       have W:∀u∈orc.take F.gf,u.t.flat=true:=by
        have lb:=V.2
        intro u Z
        cases lc:orc.take F.gf with
        |nil=>rw[lc]at Z;simp at Z
        |cons a lx=>rw[lc]at lb Z;simp only[nO,List.all_eq_true]at lb;exact lb u Z
       match lc:orc.take F.gf,W,q with
       |[],_,_=>trivial
       |[u],W,q=>exact ug (W u List.mem_cons_self) q
       |_::_::_,W,⟨vs,e,lo⟩=>exact⟨vs,e,vq W lo⟩
    ·cases o
   ·cases o
  ·cases o
theorem kj(q:br E cx){Q':Act->Prop}:∀{l:List Oper} {st:af} {T:Array Value} {orc orc':List ak} {st':af} {ob:List Prop},al cx st T w->fz E ops l st orc=some (st',orc',ob)->bJ ob->
  (∀W,al cx st' W w->Q' ⟨W,ah.D cx⟩)->wpQuiet cx.P ops (Ext w) Q' l ⟨T,ah.D cx⟩
 |[],st,T,_,_,_,_,h,o,_,L=>by
  cases o
  exact L T h
 |aa::l,st,T,orc,orc',st',ob,h,o,R,L=>by
  unfold fz at o
  unfold wpQuiet
  split at o
  ·rename_i U
   rw[gD h U]
   simp only[if_true]
   split at o
   ·rename_i d r aj Y
    split at o
    ·rename_i ld le lf V Z
     cases o
     obtain⟨la,lb⟩:=mu R
     obtain⟨m,O⟩:=h
     obtain⟨v,aY,lc⟩:=tJ q O Y la
     refine⟨v,aY,?_⟩
     rw[aj]
     exact kj q ⟨m,O.put (by rw[q.n];exact cw V) lc⟩ Z lb L
    ·cases o
   ·cases o
  ·rename_i U
   rw[gD h U]
   simp only[Bool.false_eq_true,if_false]
   split at o
   ·rename_i d aj
    split at o
    ·rename_i V
     obtain⟨m,O⟩:=h
     rw[aj]
     exact kj q ⟨m,O.put (d:=d) (s:=.undef) (v:=undef) (by rw[q.n];exact cw V) rfl⟩ o R L
    ·cases o
   ·rename_i aj
    rw[aj]
    exact kj q h o R L
  ·cases o
def CM(cx:bx)[ah cx](ops:Array Oper)(Q:cB)(l:List Oper)(st:af):Prop:=∀T w,al cx st T w->wpQuiet cx.P ops (Ext w) (fun a=>∀w',Ext w w'->Q .normal a w') l ⟨T,ah.D cx⟩
theorem zI{E:Env}(o:br E cx){id:Nat}{l:List Oper}(q:E.P.follows .mixedOrders=true)(L:Region.lexB .any l.toArray=true)(h:CM cx l.toArray Q l st):W cx Q (.region id l.toArray true) st:=fun T w O=>
 wp_region_quiet (C:=Ext w) (o.P▸q) L {os:=rfl,tape:=rfl,output:=rfl,size:=Nat.le_refl _,drawn:=fun _=>Nat.le_succ _,block:=fun _ _=>rfl} (by simpa using h T w O)
theorem al.ext(h:al cx st T w)(o:Ext w w'):al cx st T w':=let⟨m,q⟩:=h;⟨m,q.ext o⟩
theorem kN{P:Program}{C:World->Prop}{Q':Act->Prop}:∀{l1 l2:List Oper} {a:Act},wpQuiet P ops C (wpQuiet P ops C Q' l2) l1 a->wpQuiet P ops C Q' (l1++l2) a
 |[],_,_,h=>h
 |aa::l1,l2,a,h=>by
  simp only[List.cons_append,wpQuiet]at h⊢
  split
  ·rename_i o
   rw[if_pos o]at h
   exact Oper.quiet_mono (fun a=>kN) h
  ·rename_i o
   rw[if_neg o]at h
   exact kN h
def pl(E:Env)(ops:Array Oper)(l:List Oper)(st:af)(orc:List ak)(o bs ap:List Nat):Option (af×List ak×List Prop):=
 match fz E ops l st orc with
 |some (s,aa,p)=>match s.norm o bs ap with
  |some q=>some (q,aa,p)
  |none=>none
 |none=>none
theorem Qd{orc orc':List ak}{ob:List Prop}{o bs ap:List Nat}(h:pl E ops l st orc o bs ap=some (st',orc',ob)):∃s,fz E ops l st orc=some (s,orc',ob)/\s.norm o bs ap=some st':=by
 unfold pl at h
 split at h
 ·rename_i s aa p q
  split at h
  ·rename_i O L
   cases h
   exact⟨s,q,L⟩
  ·cases h
 ·cases h
theorem PU(o:br E cx)(q bs ap:List Nat){orc:List ak}{ob:List Prop}(L:pl E ops l st orc q bs ap=some (st',[],ob))(O:bJ ob)(h:N cx Q .normal st'):CM cx ops Q l st:=by
 obtain⟨s,R,U⟩:=Qd L
 intro T w V
 exact kj o V R O fun W Y w' Z=>h W w' ((Y.norm U).ext Z)
def nA(cx:bx)[ah cx](K:World->Act->Prop)(st:af):Prop:=∀T w,al cx st T w->K w ⟨T,ah.D cx⟩
def mq(cx:bx)[ah cx](ops:Array Oper)(K:World->Act->Prop)(l:List Oper)(st:af):Prop:=∀T w,al cx st T w->wpQuiet cx.P ops (Ext w) (K w) l ⟨T,ah.D cx⟩
end Go.Ev
namespace Go.Ev
open Go Go.Proofs Go.Shelf
set_option maxRecDepth 100000
def am:World->Prop:=fun w=>Lib.Utf8Tabs 0 1 w/\(0<w.heap.size/\1<w.heap.size)
theorem Gm{w:World}{p:Addr}{v:Value}(h:w.cell? p=some v):p.block<w.heap.size:=by
 refine Nat.lt_of_not_le fun o=>?_
 have:w.heap[p.block]? =none:=Array.getElem?_eq_none o
 simp[World.cell?,this]at h
theorem L3{w:World}(h:Lib.Utf8Tabs 0 1 w):am w:=
 ⟨h,Gm (h.1 0 (by decide)),Gm (h.2 0 (by decide)).1⟩
theorem bd:∀w w',Frame w w' (fun _=>False)->am w->am w':=by
 rintro w w' o ⟨⟨R,U⟩,q,L⟩
 have V:∀c,w'.cell? ⟨0,c,none⟩=w.cell? ⟨0,c,none⟩:=fun c=>World.cell?_of_block (w:=w) (o.block _ q id)
 have O:∀c,w'.cell? ⟨1,c,none⟩=w.cell? ⟨1,c,none⟩:=fun c=>World.cell?_of_block (w:=w) (o.block _ L id)
 refine⟨⟨fun c W=>by rw[V];exact R c W,fun i Y=>by rw[O,O];exact U i Y⟩,Nat.lt_of_lt_of_le q o.size,Nat.lt_of_lt_of_le L o.size⟩
def AG(k:Nat):ip:=⟨true,2,[],fun|[⟨.str,s⟩],[⟨.int .i32,r⟩,⟨.int .i64,n⟩]=>utf8_DecodeRuneInString k s=some (r,n)|_,_=>False⟩
theorem Ly(k:Nat):aR Tryz.prog am 158 (AG k) where
 enters:=enters_of Tryz.func158 (by kernel_rfl) rfl
 shape:=fun xs ap h=>by
  unfold AG at h
  simp only at h
  split at h
  ·exact⟨rfl,fun _ u q=>by simp at q;(rcases q with rfl|rfl)<;>rfl⟩
  ·exact h.elim
 calls:=fun w M vs xs ap L U h o=>by
  unfold AG at h
  simp only at h
  split at h
  case h_2=>exact h.elim
  rename_i s r n
  match vs,o with
  |[v],⟨o,_⟩=>
   have O:v=.string ⟨s.toArray⟩:=by
    have:=(show aK w M .str [v] s from o).1
    simpa using this
   subst O
   refine(Any.utf8_DecodeRuneInString Pb ⟨s.toArray⟩ w L.1).mono ?_
   rintro e w' ⟨rfl,R⟩
   cases h
   exact⟨_,rfl,⟨[_,_],rfl,rfl,rfl,trivial⟩,Ext.Av R fun h=>h.elim⟩
theorem TH:U8Extra Tryz.prog GD:=⟨by kernel_rfl,by kernel_rfl,by kernel_rfl,by kernel_rfl,by kernel_rfl,by kernel_rfl,by kernel_rfl⟩
theorem PH{w:World}(o:Lib.VarReads Tryz.prog w "unicode/utf8.first" Lib.firstData)(q:Lib.VarReads Tryz.prog w "unicode/utf8.acceptRanges" Lib.acceptData):am w:=
 L3 (utf8Tabs_of_reads QS TH o q)
end Go.Ev
