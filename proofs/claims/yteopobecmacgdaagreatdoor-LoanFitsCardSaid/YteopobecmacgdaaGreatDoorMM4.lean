/- Owned slices whose elements hold owned slices: what is read and written at an element. -/
import Derived.Test.YteopobecmacgdaaGreatDoorMM3
import Derived.Lib.Repeat
import Derived.Shelf.Unicode.DecodeAny
import Derived.Test.YteopobecmacgdaaGreatDoorMM1
import Derived.Lib.LaidU8
set_option linter.unusedSectionVars false
set_option linter.unusedVariables false
set_option linter.unusedSimpArgs false
namespace Go.Ev
open Go Go.RowKit
variable [b8]
variable {cx:bB} {m ay:Nat->Value} {st st':af} {T:Array Value} {w w':World}
variable [ai cx]
def fH{α:Type}(l:List α)(off:Nat)(o:List α):List α:=l.take off++o++l.drop (off+o.length)
theorem zT{α:Type}{l o:List α}{off:Nat}(h:off+o.length<=l.length):(fH l off o).length=l.length:=by
 unfold fH
 simp only[List.length_append,List.length_take,List.length_drop]
 omega
theorem rt{α:Type}{l q:List α}{off p:Nat}(h:off+q.length<=l.length)(o:p<off\/off+q.length<=p):(fH l off q)[p]? =l[p]? :=by
 unfold fH
 rcases o with o|o
 ·rw[List.append_assoc,List.getElem?_append_left (by rw[List.length_take];omega),List.getElem?_take,if_pos o]
 ·rw[List.getElem?_append_right (by simp only[List.length_append,List.length_take];omega),List.getElem?_drop]
  congr 1
  simp only[List.length_append,List.length_take]
  omega
theorem T9{α:Type}(a b c o:List α)(h:o.length=b.length):fH (a++b++c) a.length o=a++o++c:=by
 unfold fH
 rw[List.append_assoc a b c,List.take_left,h,<-List.append_assoc,<-List.length_append,List.drop_left]
theorem WA{α:Type}{l o:List α}{off k:Nat}{a:α}(h:off+o.length<=l.length)(O:k<off\/off+o.length<=k):fH (l.set k a) off o=(fH l off o).set k a:=by
 refine List.ext_getElem? fun p=>?_
 rcases Nat.lt_or_ge p off with q|q
 ·rw[rt (by simpa using h) (.inl q),List.getElem?_set,List.getElem?_set,rt h (.inl q),zT h]
 ·rcases Nat.lt_or_ge p (off+o.length)with L|L
  ·rw[List.getElem?_set_ne (by omega)]
   unfold fH
   rw[List.getElem?_append_left (by simp only[List.length_append,List.length_take,List.length_set];omega),List.getElem?_append_right (by simp only[List.length_take,List.length_set];omega),
    List.getElem?_append_left (by simp only[List.length_append,List.length_take];omega),List.getElem?_append_right (by simp only[List.length_take];omega)]
   simp only[List.length_take,List.length_set]
  ·rw[rt (by simpa using h) (.inr L),List.getElem?_set,List.getElem?_set,rt h (.inr L),zT h]
theorem an.kp(h:an cx m st T w){b e i:Nat}{k:dR}{xs:List k.u.el}{O:Option Int}{x:k.u.el}(lb:look st.ad b=some (.bp e k xs O))(R:xs[i]? =some x):
  ∃g cap cur us o c c2 q v L,m b=.tuple (.slice (some ⟨g,0,none⟩) xs.length cap::us).toArray/\w.heap[g]? =some (.cells cur e (0,0))/\xs.length<=cap/\cap<=maxLen/\cur.size=cap*k.u.cells/\
   cur.toList=o++c++(c2++cur.toList.drop (xs.length*k.u.cells))/\o.length=i*k.u.cells/\c.length=k.u.cells/\(o++c++c2).length=xs.length*k.u.cells/\us=q++v::L/\q.length=i/\us.length=xs.length/\
   j3 w (ar cx m st.ids) k (gX O i) c v x/\(g::us.filterMap aT).Nodup/\
   ∀{w':World} {M':Nat->Prop} {h':Option Int} {x':k.u.el} {c':List Value} {v':Value},(∀b,b<w.heap.size->¬ar cx m st.ids b->w'.heap[b]? =w.heap[b]?)->(∀b,b<w.heap.size->M' b->ar cx m st.ids b)->(∀j,j≠i->(gX O j↔gX h' j))->
    (∀u,u∈q\/u∈L->∀b,aT u=some b->w'.heap[b]? =w.heap[b]?)->c'.length=k.u.cells->j3 w' M' k (gX h' i) c' v' x'->fl w' M' k h' 0 (xs.set i x') (o++c'++c2) (q++v'::L):=by
 obtain⟨ah,us,cells,lc,U,W,ld⟩:=h.bp lb
 have lk:i<xs.length:=(List.getElem?_eq_some_iff.1 R).1
 obtain⟨g,cap,cur,le,lf,lg,lh,li,lj⟩:=ql U (by omega)
 obtain⟨o,c,c2,q,v,L,Y,a2,a3,a4,a5,Z,la⟩:=Ks W R
 rw[Nat.zero_add]at Z la
 subst le
 refine⟨g,cap,cur,us,o,c,c2,q,v,L,lc,lf,lg,lh,li,?_,a2,a3,by rw[<-Y];exact U.1,a4,a5,(BJ W).1,Z,by simpa[aT]using ld,la⟩
 conv=>lhs;rw[<-List.take_append_drop (xs.length*k.u.cells) cur.toList]
 rw[lj,Y]
 simp
theorem Jj{e q n:Nat}{g cap:Nat}{cur:Array Value}{o c c' c2 rest:List Value}(R:w.heap[g]? =some (.cells cur e (0,0)))(U:n<=cap)(W:cap<=maxLen)(Y:cur.size=cap*q)(Z:cur.toList=o++c++(c2++rest))(la:(o++c++c2).length=n*q)(L:c'.length=c.length):
  (w.setRow g (o++c'++(c2++rest)).toArray).ownsRow 0 e q (.slice (some ⟨g,0,none⟩) n cap) n (o++c'++c2):=by
 have O:(o++c'++c2).length=n*q:=by rw[<-la];simp only[List.length_append,L]
 refine⟨O,.inr ⟨g,cap,_,rfl,Nat.zero_le _,setRow_heap _ _ _ _ _ _ R,U,W,?_,?_⟩⟩
 ·rw[List.size_toArray,<-Y,<-Array.length_toList,Z];simp only[List.length_append,L]
 ·have:o++c'++(c2++rest)=(o++c'++c2)++rest:=by simp
  rw[List.toList_toArray,this,<-O,List.take_left]
theorem uN{q L:List Value}{v:Value}{g:Nat}(h:(g::(q++v::L).filterMap aT).Nodup):(∀b,aT v=some b->b≠g/\∀u,u∈q\/u∈L->aT u≠some b)/\∀u,u∈q\/u∈L->aT u≠some g:=by
 obtain⟨O,o⟩:=List.nodup_cons.1 h
 refine⟨fun b R=>⟨fun e=>O (List.mem_filterMap.2 ⟨v,by simp,by rw[<-e];exact R⟩),fun u hu e=>?_⟩,fun u hu e=>O (List.mem_filterMap.2 ⟨u,by rcases hu with hu|hu<;>simp[hu],e⟩)⟩
 rw[List.filterMap_append,List.filterMap_cons,R]at o
 simp only at o
 rw[List.nodup_append]at o
 rcases hu with hu|hu
 ·exact o.2.2 b (List.mem_filterMap.2 ⟨u,hu,e⟩) b List.mem_cons_self rfl
 ·exact(List.nodup_cons.1 o.2.1).1 (List.mem_filterMap.2 ⟨u,hu,e⟩)
abbrev eR{t:ag}(x:(ag.ab t).el):List t.el:=x
theorem JX{q L:List Value}{v x:Value}{g:Nat}(h:(g::(q++v::L).filterMap aT).Nodup)(lc:∀b,aT x=some b->b≠g/\∀u,u∈q\/u∈L->aT u≠some b):(g::(q++x::L).filterMap aT).Nodup:=by
 obtain⟨ld,le⟩:=List.nodup_cons.1 h
 have Z:((q++L).filterMap aT).Sublist ((q++v::L).filterMap aT):=List.Sublist.filterMap _ (List.Sublist.append (List.Sublist.refl q) (List.sublist_cons_self v L))
 have R:g∉(q++L).filterMap aT:=fun o=>ld (Z.subset o)
 have O:=le.sublist Z
 rw[List.filterMap_append]at R O
 rw[List.filterMap_append,List.filterMap_cons]
 cases lf:aT x with
 |none=>exact List.nodup_cons.2 ⟨R,O⟩
 |some b=>
  obtain⟨lg,la⟩:=lc b lf
  rw[List.nodup_append]at O
  refine List.nodup_cons.2 ⟨fun o=>?_,?_⟩
  ·rcases List.mem_append.1 o with o|o
   ·exact R (List.mem_append.2 (.inl o))
   ·rcases List.mem_cons.1 o with o|o
    ·exact lg o.symm
    ·exact R (List.mem_append.2 (.inr o))
  ·rw[List.nodup_append]
   refine⟨O.1,List.nodup_cons.2 ⟨fun o=>?_,O.2.1⟩,fun a lb lh U=>?_⟩
   ·obtain⟨u,W,Y⟩:=List.mem_filterMap.1 o
    exact la u (.inr W) Y
   ·rcases List.mem_cons.1 U with rfl|U
    ·rintro rfl
     obtain⟨u,W,Y⟩:=List.mem_filterMap.1 lb
     exact la u (.inl W) Y
    ·exact O.2.2 a lb lh U
def zg(P:Program)(st:af)(t:TypeId)(x:Operand)(orc:List ak):Option dw:=
 match aR st x,ty P t with
 |some (.dM b i off q),some o=>match look st.ad b,orc with
  |some (.bp _ k xs none),a::orc'=>match a.as k.u,Nat.beq q k.u.cells with
   |some x,true=>match Nat.beq off k.off&&o.beq (.ab k.t)with
    |true=>some ⟨.sub b i,orc',[aq xs i=some x]⟩
    |false=>match cp k.u x k.off ⟨.ab k.t,[]⟩,Nat.ble (off+o.cells) k.off||Nat.blt k.off off,Nat.beq o.cells 0 with
     |some L,true,false=>match cI k.u L off o with
      |some y=>some ⟨.val o y,orc',[aq xs i=some x]⟩
      |none=>none
     |_,_,_=>none
   |_,_=>none
  |_,_=>none
 |some (.eV b i j off q),some o=>match look st.ad b,orc with
  |some (.bp _ k xs none),a::c::orc'=>match a.as k.u,c.as k.t,Nat.beq q k.t.cells with
   |some x,some z,true=>match cI k.u x k.off (.ab k.t),cI k.t z off o,Nat.beq o.cells 0 with
    |some O,some y,false=>some ⟨.val o y,orc',[aq xs i=some x,aq (eR O) j=some z]⟩
    |_,_,_=>none
   |_,_,_=>none
  |_,_=>none
 |_,_=>none
theorem iW{α:Type}{xs:List α}{i:Int}{x:α}(h:aq xs i=some x):xs[i.toNat]? =some x:=(iC h).2.2
theorem sQ{M:Nat->Prop}{k:dR}{cs:List Value}{v:Value}{x:k.u.el}{n:Nat}(h:j3 w M k (gX none n) cs v x):∃(o:List k.t.el) (cells:List Value),cI k.u x k.off (.ab k.t)=some o/\w.ownsRow 0 k.e k.t.cells v o.length cells/\bM (aH w M k.t) cells o/\cs[k.off]? =some v:=by
 obtain⟨Y,v1,Z,q,L,_,_,_,_,O⟩:=h
 obtain⟨rfl,o,cells,R,U,W⟩:=O fun⟨_,h,_⟩=>by cases h
 refine⟨o,cells,R,U,W,?_⟩
 rw[q,List.getElem?_set_self (List.getElem?_eq_some_iff.1 L).1]
theorem Uw(h:an cx m st T w){t:TypeId}{x:Operand}{orc:List ak}{lh:dw}(o:zg cx.P st t x orc=some lh)(lc:bO lh.ob):
  ∃v,(∀w',Ext w w'->(Instr.loadAt t (Act.eval ⟨T,ai.D cx⟩ x)).run cx.P w'=.ok v w')/\aS w (ar cx m st.ids) m v lh.aO:=by
 unfold zg at o
 split at o
 ·rename_i b i off W li lj ld
  obtain⟨g2,lq,lr,lO,U,a2⟩:=be h lj
  split at o
  case h_2=>cases o
  rename_i e k xs a orc' le
  split at o
  case h_2=>cases o
  rename_i lG _ O
  have O:=Nat.eq_of_beq_eq_true O
  have ls:∀g,g2=g->Instr.loadAt t (Act.eval ⟨T,ai.D cx⟩ x)=loadVar t ⟨g,i.toNat*W+off,none⟩:=by rintro g rfl;rw[a2];rfl
  have key:∀{g cap us},m b=.tuple (.slice (some ⟨g,0,none⟩) xs.length cap::us).toArray->g2=g:=by
   intro g cap us lf
   rw[lf]at U
   simp only[Value.tuple.injEq,Array.mk.injEq,List.cons.injEq,Value.slice.injEq,Option.some.injEq,Addr.mk.injEq]at U
   exact U.1.1.1.symm
  split at o
  ·rename_i aK
   cases o
   simp only[Bool.and_eq_true]at aK
   have lt:=Nat.eq_of_beq_eq_true aK.1
   obtain rfl:=ag.eq_of_beq aK.2
   obtain⟨g,cap,cur,us,lu,c,c2,lv,v,lw,f1,f2,f3,f4,f5,f6,f7,f8,f9,f10,f11,f12,f13,f14,f15⟩:=h.kp le (iW lc.1)
   obtain⟨lH,cells,lk,lx,ly,ll⟩:=sQ f13
   obtain⟨v',Y,q⟩:=jm (P:=cx.P) (c:=[v]) (off:=i.toNat*W+off) ld f2 (fun j u L=>by
    have Z:j=0:=by have:=(List.getElem?_eq_some_iff.1 L).1;simpa using this
    subst Z
    simp at L
    subst L
    rw[<-Array.getElem?_toList,f6,Nat.add_zero,O,lt,<-f7,List.append_assoc,List.getElem?_append_right (by omega),Nat.add_sub_cancel_left,List.getElem?_append_left (by rw[<-lt];have:=(List.getElem?_eq_some_iff.1 ll).1;omega)]
    exact ll) rfl (fun _=>Nat.zero_lt_one)
   simp[ag.agg]at q
   subst q
   exact⟨v,fun la lb=>by rw[ls g (key f1)];exact Y la lb,_,us,f1,by rw[f10,<-f11];simp⟩
  ·split at o
   case h_2=>cases o
   rename_i lP lI lz lm
   split at o
   case h_2=>cases o
   rename_i y ln
   cases o
   obtain⟨g,cap,cur,us,lu,c,c2,lv,v,lw,f1,f2,f3,f4,f5,f6,f7,f8,f9,f10,f11,f12,f13,f14,f15⟩:=h.kp le (iW lc.1)
   obtain⟨lA,v1,lQ,lf,lR,_,lB,lJ,_,_⟩:=f13
   rw[lI]at lB
   cases lB
   obtain⟨d1,d2,d3,lC,bW,dJ⟩:=nD k.u lJ ln
   have lK:=cf li dJ
   obtain⟨v',Y,q⟩:=jm (P:=cx.P) (c:=d2) (off:=i.toNat*W+off) ld f2 (fun j u L=>by
    have Z:=(List.getElem?_eq_some_iff.1 L).1
    have lS:lA.length=k.u.cells:=by rw[<-f8,lf,List.length_set]
    have lT:lA.length=d1.length+d2.length+d3.length:=by rw[lC];simp[Nat.add_assoc]
    rw[<-Array.getElem?_toList,f6,O,Nat.add_assoc,<-f7,List.append_assoc,List.getElem?_append_right (by omega),Nat.add_sub_cancel_left,List.getElem?_append_left (by omega),lf,List.getElem?_set_ne,lC,<-bW,List.append_assoc,List.getElem?_append_right (by omega),Nat.add_sub_cancel_left,List.getElem?_append_left Z]
    ·exact L
    ·simp only[Bool.or_eq_true]at lz
     rcases lz with ah|ah
     ·have:=Nat.le_of_ble_eq_true ah;omega
     ·have:=cK ah;omega) lK (fun _=>Nat.pos_of_ne_zero (by simpa using beq_false lm))
   refine⟨v',fun la lb=>by rw[ls g (key f1)];exact Y la lb,?_⟩
   show ba _ _ _ _ _
   unfold ba
   split at q
   ·rename_i R;rw[if_pos R];exact⟨d2,q,dJ⟩
   ·rename_i R;rw[if_neg R,<-q];exact dJ
 ·rename_i b i j off W li lj ld
  obtain⟨lU,lV,g2,lq,lr,a0,U,a2⟩:=be h lj
  split at o
  case h_2=>cases o
  rename_i e k xs a lW orc' le
  split at o
  case h_2=>cases o
  rename_i lG z _ _ O
  have O:=Nat.eq_of_beq_eq_true O
  split at o
  case h_2=>cases o
  rename_i lH y lL ln lm
  cases o
  obtain⟨g,cap,cur,us,lu,c,c2,lv,v,lw,f1,f2,f3,f4,f5,f6,f7,f8,f9,f10,f11,f12,f13,f14,f15⟩:=h.kp le (iW lc.1)
  obtain⟨lX,cells,lk,lx,ly,ll⟩:=sQ f13
  rw[lL]at lk
  cases lk
  have lM:v=.slice (some ⟨g2,0,none⟩) lq lr:=by
   rw[f1]at a0
   simp only[Value.tuple.injEq,Array.mk.injEq,List.cons.injEq]at a0
   rw[<-a0.2,f10,<-f11]at U
   simpa using U
  have lD:=iW lc.2.1
  obtain⟨d1,d2,d3,rfl,bW,dJ⟩:=kq ly lD
  obtain⟨lo,lg,lE,rfl,lN,lp⟩:=nD k.t dJ ln
  obtain⟨lY,lZ,l0,t1,t2,t3,t4,t5,t6⟩:=ql lx (Nat.lt_of_le_of_lt (Nat.zero_le _) (List.getElem?_eq_some_iff.1 lD).1)
  rw[lM]at t1
  cases t1
  obtain⟨v',Y,q⟩:=jm (P:=cx.P) (c:=lg) (off:=j.toNat*W+off) ld t2 (fun lF u L=>by
   have Z:=(List.getElem?_eq_some_iff.1 L).1
   have:(d1++(lo++lg++lE)++d3)[d1.length+lo.length+lF]? =some u:=by rw[KL d1 lo lg lE d3 lF Z];exact L
   rw[<-t6,List.getElem?_take]at this
   split at this
   ·rw[<-Array.getElem?_toList,O,<-bW,<-lN];exact this
   ·cases this) (cf li lp) (fun _=>Nat.pos_of_ne_zero (by simpa using beq_false lm))
  refine⟨v',fun la lb=>by rw[a2];exact Y la lb,?_⟩
  show ba _ _ _ _ _
  unfold ba
  split at q
  ·rename_i R;rw[if_pos R];exact⟨lg,q,lp⟩
  ·rename_i R;rw[if_neg R,<-q];exact lp
 ·cases o
end Go.Ev
namespace Go.Ev
open Go Go.RowKit
variable [b8]
variable {cx:bB} {m ay:Nat->Value} {st st':af} {T:Array Value} {w w':World}
variable [ai cx]
def ao.oS(b:Nat)(o:List Nat):ao->ao
 |.osl c=>bif Nat.beq c b then .osl c else ao.dI o (.osl c)
 |.dM c i aa s=>bif Nat.beq c b then .dM c i aa s else ao.dI o (.dM c i aa s)
 |s=>s.dI o
theorem HT{M:Nat->Prop}{D:List Nat}{b:Nat}{r:Value}{us q:List Value}(O:m b=.tuple (r::us).toArray)(R:ay b=.tuple (r::q).toArray)(W:∀i,i∉D->ay i=m i){v:Value}{s:ao}(h:aS w M m v s):aS w M ay v (s.oS b D):=by
 have L:∀s:ao,aS w M m v s->aS w M ay v (s.dI D):=fun s Y=>mL W Y
 cases s with
 |osl c=>
  show aS _ _ _ _ (bif Nat.beq c b then .osl c else ao.dI D (.osl c))
  cases e:Nat.beq c b with
  |false=>exact L _ h
  |true=>
   have e:=Nat.eq_of_beq_eq_true e
   subst e
   obtain⟨Z,o⟩:=h
   refine⟨q,?_⟩
   rw[R]
   rw[O]at o
   simp only[Value.tuple.injEq,Array.mk.injEq,List.cons.injEq]at o
   rw[o.1]
 |dM c i aa U=>
  show aS _ _ _ _ (bif Nat.beq c b then .dM c i aa U else ao.dI D (.dM c i aa U))
  cases e:Nat.beq c b with
  |false=>exact L _ h
  |true=>
   have e:=Nat.eq_of_beq_eq_true e
   subst e
   obtain⟨g,n,cap,Z,o,la⟩:=h
   refine⟨g,n,cap,q,?_,la⟩
   rw[R]
   rw[O]at o
   simp only[Value.tuple.injEq,Array.mk.injEq,List.cons.injEq]at o
   rw[o.1]
 |_=>exact L _ h
def xM(P:Program)(la:Nat)(st:af)(t:TypeId)(x y:Operand)(orc:List ak):Option (af×List ak×List Prop):=
 match aR st x,ty P t,aR st y with
 |some (.dM b i off U),some L,some (.val O z)=>match look st.ad b,orc with
  |some (.bp e k xs none),a::orc'=>match a.as k.u,Nat.beq U k.u.cells&&O.beq L&&(Nat.ble (off+L.cells) k.off||Nat.blt k.off off)with
   |some o,true=>match cp k.u o off ⟨O,z⟩,cp k.u o k.off ⟨.ab k.t,[]⟩with
    |some q,some Y=>match cp k.u Y off ⟨O,z⟩with
     |some Z=>some (st.cY b (.bp e k (xs.set i.toNat q) none),orc',[aq xs i=some o,cp k.u q k.off ⟨.ab k.t,[]⟩=some Z,cI k.u q k.off (.ab k.t)=cI k.u o k.off (.ab k.t)])
     |none=>none
    |_,_=>none
   |_,_=>none
  |_,_=>none
 |some (.eV b i j off U),some L,some (.val O z)=>match look st.ad b,orc with
  |some (.bp e k xs none),a::c::orc'=>match a.as k.u,c.as k.t,Nat.beq U k.t.cells&&O.beq L with
   |some o,some z0,true=>match cI k.u o k.off (.ab k.t),cp k.t z0 off ⟨O,z⟩with
    |some R,some W=>match cp k.u o k.off ⟨.ab k.t,(eR R).set j.toNat W⟩with
     |some q=>some (st.cY b (.bp e k (xs.set i.toNat q) none),orc',[aq xs i=some o,aq (eR R) j=some z0,cp k.u q k.off ⟨.ab k.t,[]⟩=cp k.u o k.off ⟨.ab k.t,[]⟩,cI k.u q k.off (.ab k.t)=some ((eR R).set j.toNat W)])
     |none=>none
    |_,_=>none
   |_,_,_=>none
  |_,_=>none
 |some (.dM b i off U),some L,some (.row r)=>match look st.ad b,look st.rw r,orc with
  |some (.bp e k xs h),some c,a::orc'=>match a.as k.u,Nat.beq U k.u.cells&&(Nat.beq off k.off&&(L.beq (.ab k.t)&&(Nat.beq c.e k.e&&!(Nat.beq b r)))),ak.as ⟨.ab c.t,c.xs⟩ (.ab k.t)with
   |some o,true,some R=>match cp k.u o k.off ⟨.ab k.t,R⟩with
    |some q=>some (st.dH [b,r] [(b,.bp e k (xs.set i.toNat q) none)] [] (ao.oS b [b,r]),orc',[aq xs i=some o,cp k.u q k.off ⟨.ab k.t,[]⟩=cp k.u o k.off ⟨.ab k.t,[]⟩,cI k.u q k.off (.ab k.t)=some R]++(match h with
     |none=>[]
     |some i0=>[i0=i]))
    |none=>none
   |_,_,_=>none
  |_,_,_=>none
 |_,_,_=>none
theorem jk{r o:Value}{us q:List Value}(h:Value.tuple (r::us).toArray=.tuple (o::q).toArray):r=o/\us=q:=by
 simpa using h
theorem CR{g o n q cap L:Nat}(h:Value.slice (some ⟨g,0,none⟩) n cap=.slice (some ⟨o,0,none⟩) q L):g=o:=by
 simp only[Value.slice.injEq,Option.some.injEq,Addr.mk.injEq]at h
 exact h.1.1
theorem Fr{b g n cap:Nat}{us:List Value}(h:m b=.tuple (.slice (some ⟨g,0,none⟩) n cap::us).toArray):own (m b) g:=by rw[h];exact dg.2 (.inl rfl)
theorem Mb(h:an cx m st T w){b e:Nat}{i:Int}{k:dR}{xs:List k.u.el}{off:Nat}{t:TypeId}{o:ag}{z:o.el}{x y:Operand}{U O lf Y:k.u.el}(lg:look st.ad b=some (.bp e k xs none))(ls:aR st x=some (.dM b i off k.u.cells))(lt:ty cx.P t=some o)(lu:aR st y=some (.val o z))
  (lZ:off+o.cells<=k.off\/k.off<off)(l0:cp k.u U off ⟨o,z⟩=some O)(lv:cp k.u U k.off ⟨.ab k.t,[]⟩=some lf)(lw:cp k.u lf off ⟨o,z⟩=some Y)(lx:aq xs i=some U)(ly:cp k.u O k.off ⟨.ab k.t,[]⟩=some Y)(lz:cI k.u O k.off (.ab k.t)=cI k.u U k.off (.ab k.t)):
  ∃w',(Instr.storeAt t (Act.eval ⟨T,ai.D cx⟩ x) (Act.eval ⟨T,ai.D cx⟩ y)).run cx.P w=.ok () w'/\an cx m (st.cY b (.bp e k (xs.set i.toNat O) none)) T w':=by
 obtain⟨g2,l3,l4,l5,lA,a2⟩:=be h ls
 obtain⟨g,cap,cur,us,R,c,c2,l6,v,l7,f1,f2,f3,f4,f5,f6,f7,f8,f9,f10,f11,f12,f13,f14,f15⟩:=h.kp lg (iW lx)
 have lB:g2=g:=CR (jk (lA.symm.trans f1)).1
 subst lB
 obtain⟨L,v1,l8,lh,li,lC,lj,lD,lE,lF⟩:=f13
 rw[lv]at lj
 cases lj
 have lG:ba w (ar cx m st.ids) (Act.eval ⟨T,ai.D cx⟩ y) o z:=be h lu
 have W:=jd lG
 have Z:=cf o W
 have lH:(Act.eval ⟨T,ai.D cx⟩ y).cells.size=o.cells:=by rw[<-Z];simp
 obtain⟨d1,d2,d3,lk,bW,dJ,gn⟩:=pb (v:=⟨o,z⟩) W k.u lD lw
 generalize ll:(Act.eval ⟨T,ai.D cx⟩ y).cells.toList=q at*
 have lm:L.length=k.u.cells:=by rw[<-f8,lh,List.length_set]
 have l9:L.length=d1.length+d2.length+d3.length:=by rw[lk];simp[Nat.add_assoc]
 have lI:fH L off q=d1++q++d3:=by rw[lk,<-bW,T9 _ _ _ _ dJ.symm]
 have la:off+q.length<=L.length:=by omega
 have aa:k.off<L.length:=(List.getElem?_eq_some_iff.1 li).1
 have ln:k.off<off\/off+q.length<=k.off:=by rw[Z];omega
 have lJ:fH c off q=(fH L off q).set k.off v1:=by rw[lh,WA la ln]
 have lo:(fH c off q).length=c.length:=zT (by rw[f8,<-lm];exact la)
 have lK:i.toNat*k.u.cells+off+o.cells<=cur.size:=by
  rw[<-Array.length_toList,f6];simp only[List.length_append];omega
 have lp:=mf (P:=cx.P) lt f2 lH lK (gy o (by rw[<-ll]at W;exact W))
 have lL:cur.toList.take (i.toNat*k.u.cells+off)++(Act.eval ⟨T,ai.D cx⟩ y).cells.toList++cur.toList.drop (i.toNat*k.u.cells+off+o.cells)=R++fH c off q++(c2++cur.toList.drop (xs.length*k.u.cells)):=by
  generalize cur.toList.drop (xs.length*k.u.cells)=rest at f6⊢
  rw[f6,ll,<-f7]
  have lM:R++c++(c2++rest)=R++(c++(c2++rest)):=by simp
  have lN:off+o.cells<=c.length:=by rw[f8,<-lm];omega
  rw[lM,List.take_append,List.take_of_length_le (by omega),Nat.add_sub_cancel_left,List.take_append_of_le_length (by omega),Nat.add_assoc,List.drop_append,List.drop_eq_nil_of_le (by omega),Nat.add_sub_cancel_left,List.drop_append_of_le_length lN]
  unfold fH
  rw[Z]
  simp
 rw[lL]at lp
 refine⟨_,by rw[a2];exact lp,?_⟩
 have lb:=a8 lg
 have lO:b∈st.ids:=List.mem_append.2 (.inl (List.mem_map.2 ⟨_,lb,rfl⟩))
 have lq:Touch m w b (w.setRow g2 (R++fH c off q++(c2++cur.toList.drop (xs.length*k.u.cells))).toArray):=
  ⟨jP _ _ _,fun ab ad lP=>setRow_other _ _ _ _ (fun e=>lP (by rw[e];exact Fr f1))⟩
 obtain⟨lc,ld⟩:=an.gw (cx:=cx) lO lq (ids:=(st.cY b (.bp e k (xs.set i.toNat O) none)).ids) (jC lb h.keys _).1
 rw[f10]at f14
 obtain⟨lQ,lR⟩:=uN f14
 refine h.cY lb lq (g:=g2) ⟨_,_,f1⟩ ⟨_,us,R++fH c off q++c2,f1,?_,?_,?_⟩
 ·rw[List.length_set]
  exact Jj f2 f3 f4 f5 f6 f9 lo
 ·rw[f10]
  refine f15 lc ld (fun _ _=>Iff.rfl) (fun u lS lr le=>setRow_other _ _ _ _ (fun e=>lR u lS (by rw[<-e];exact le))) (by rw[lo,f8]) ?_
  refine⟨fH L off q,v1,Y,lJ,by rw[rt la ln];exact li,lC,ly,?_,lE,fun lT=>?_⟩
  ·rw[lI];exact cC lc ld k.u gn
  ·obtain⟨lU,lV,cells,lW,lX,lY⟩:=lF lT
   exact⟨lU,lV,cells,by rw[lz];exact lW,oZ lX fun lr le=>setRow_other _ _ _ _ (lQ lr le).1,di (fun _ _=>cC lc ld k.t) lY⟩
 ·rw[f10];simpa[aT]using f14
theorem P4(h:an cx m st T w){b e:Nat}{i j:Int}{k:dR}{xs:List k.u.el}{off:Nat}{t:TypeId}{L:ag}{z:L.el}{x y:Operand}{lc Y:k.u.el}{O:List k.t.el}{z0 ld:k.t.el}(lp:look st.ad b=some (.bp e k xs none))(lB:aR st x=some (.eV b i j off k.t.cells))(lC:ty cx.P t=some L)(lD:aR st y=some (.val L z))
  (lE:cI k.u lc k.off (.ab k.t)=some O)(lF:cp k.t z0 off ⟨L,z⟩=some ld)(lG:aq xs i=some lc)(lH:aq O j=some z0)(lI:cp k.u Y k.off ⟨.ab k.t,[]⟩=cp k.u lc k.off ⟨.ab k.t,[]⟩)(lJ:cI k.u Y k.off (.ab k.t)=some (O.set j.toNat ld)):
  ∃w',(Instr.storeAt t (Act.eval ⟨T,ai.D cx⟩ x) (Act.eval ⟨T,ai.D cx⟩ y)).run cx.P w=.ok () w'/\an cx m (st.cY b (.bp e k (xs.set i.toNat Y) none)) T w':=by
 obtain⟨al,am,g2,lK,lL,a0,lq,a2⟩:=be h lB
 obtain⟨g,cap,cur,us,Z,c,c2,ao,v,ap,f1,f2,f3,f4,f5,f6,f7,f8,f9,f10,f11,f12,f13,f14,f15⟩:=h.kp lp (iW lG)
 obtain⟨lM,v1,lN,lO,lP,lQ,lR,lS,lT,lU⟩:=f13
 obtain⟨lV,au,cells,lr,ls,lW⟩:=lU fun⟨_,h,_⟩=>by cases h
 rw[lE]at lr
 cases lr
 have la:v=.slice (some ⟨g2,0,none⟩) lK lL:=by
  rw[f1]at a0
  rw[<-(jk a0).2,f10,<-f11]at lq
  simpa using lq
 obtain⟨_,_,lt⟩:=iC lH
 have lX:ba w (ar cx m st.ids) (Act.eval ⟨T,ai.D cx⟩ y) L z:=be h lD
 have le:=jd lX
 have lf:=cf L le
 have lY:(Act.eval ⟨T,ai.D cx⟩ y).cells.size=L.cells:=by rw[<-lf];simp
 obtain⟨lZ,l0,U,t1,t2,t3,t4,t5,t6⟩:=ql ls (Nat.lt_of_le_of_lt (Nat.zero_le _) (List.getElem?_eq_some_iff.1 lt).1)
 have l3:g2=lZ:=by rw[la]at t1;exact CR t1
 subst l3
 obtain⟨d1,d2,d3,rfl,bW,dJ,l4⟩:=pg lW lt
 obtain⟨o,R,q,rfl,l5,lg,l6⟩:=pb (v:=⟨L,z⟩) le k.t dJ lF
 obtain⟨rest,lb⟩:∃rest,U.toList=(d1++(o++R++q)++d3)++rest:=⟨U.toList.drop (O.length*k.t.cells),by rw[<-t6,List.take_append_drop]⟩
 have lu:(d1++(o++R++q)++d3).length=O.length*k.t.cells:=ls.1
 have lh:j.toNat*k.t.cells+off=(d1++o).length:=by rw[List.length_append,bW,l5]
 have l7:U.toList.length=(d1++o).length+R.length+(q++d3++rest).length:=by rw[lb];simp only[List.length_append];omega
 have l8:j.toNat*k.t.cells+off+L.cells<=U.size:=by
  rw[<-Array.length_toList,l7,lh,<-lf,lg]
  omega
 have lv:=mf (P:=cx.P) lC t2 lY l8 (gy L le)
 have l9:U.toList.take (j.toNat*k.t.cells+off)=d1++o:=by
  rw[lb,lh]
  have:d1++(o++R++q)++d3++rest=(d1++o)++(R++q++d3++rest):=by simp
  rw[this,List.take_left]
 have aa:U.toList.drop (j.toNat*k.t.cells+off+L.cells)=q++d3++rest:=by
  rw[lb,lh,<-lf,<-lg,<-List.length_append]
  have:d1++(o++R++q)++d3++rest=(d1++o++R)++(q++d3++rest):=by simp
  rw[this,List.drop_left]
 rw[l9,aa]at lv
 refine⟨_,by rw[a2];exact lv,?_⟩
 have li:=a8 lp
 have ab:b∈st.ids:=List.mem_append.2 (.inl (List.mem_map.2 ⟨_,li,rfl⟩))
 have ad:own (m b) g2:=by rw[f1,f10];exact dg.2 (.inr ⟨v,by simp,by rw[la];rfl⟩)
 generalize lj:w.setRow g2 (d1++o++(Act.eval ⟨T,ai.D cx⟩ y).cells.toList++(q++d3++rest)).toArray=lw
 have lk:∀W,W≠g2->lw.heap[W]? =w.heap[W]? :=fun W ll=>by rw[<-lj];exact setRow_other _ _ _ _ ll
 have lx:Touch m w b lw:=⟨by rw[<-lj];exact jP _ _ _,fun W av ll=>lk W (fun e=>ll (by rw[e];exact ad))⟩
 obtain⟨lm,ln⟩:=an.gw (cx:=cx) ab lx (ids:=(st.cY b (.bp e k (xs.set i.toNat Y) none)).ids) (jC li h.keys _).1
 rw[f10]at f14
 obtain⟨ly,aw⟩:=uN f14
 have ae:g≠g2:=fun e=>(ly g2 (by rw[la];rfl)).1 e.symm
 refine h.cY li lx (g:=g) ⟨_,_,f1⟩ ⟨_,us,Z++c++c2,f1,?_,?_,?_⟩
 ·rw[List.length_set]
  have af:cur.toList.take (xs.length*k.u.cells)=Z++c++c2:=by
   generalize cur.toList.drop (xs.length*k.u.cells)=lz at f6
   rw[f6,<-f9]
   have:Z++c++(c2++lz)=(Z++c++c2)++lz:=by simp
   rw[this,List.take_left]
  exact⟨f9,.inr ⟨g,cap,cur,rfl,Nat.zero_le _,by rw[lk g ae];exact f2,f3,f4,f5,af⟩⟩
 ·rw[f10]
  refine f15 lm ln (fun _ _=>Iff.rfl) (fun u ah aj ak=>lk aj (fun e=>(ly g2 (by rw[la];rfl)).2 u ah (by rw[<-e];exact ak))) f8 ?_
  refine⟨lM,v1,lN,lO,lP,lQ,by rw[lI];exact lR,cC lm ln k.u lS,lT,fun _=>⟨lV,O.set j.toNat ld,_,lJ,?_,di (fun _ _=>cC lm ln k.t) (l4 _ _ l6)⟩⟩
  have lA:d1++o++(Act.eval ⟨T,ai.D cx⟩ y).cells.toList++(q++d3++rest)=(d1++(o++(Act.eval ⟨T,ai.D cx⟩ y).cells.toList++q)++d3)++rest:=by simp
  have lo:(d1++(o++(Act.eval ⟨T,ai.D cx⟩ y).cells.toList++q)++d3).length=O.length*k.t.cells:=by
   rw[<-lu];simp only[List.length_append,lg]
  refine⟨by rw[List.length_set];exact lo,.inr ⟨g2,l0,_,by rw[List.length_set,t1],Nat.zero_le _,by rw[<-lj];exact setRow_heap _ _ _ _ _ _ t2,by rw[List.length_set];exact t3,t4,?_,?_⟩⟩
  ·rw[List.size_toArray,lA,List.length_append,lo,<-t5,<-Array.length_toList,lb,List.length_append,lu]
  ·rw[List.length_set,lA,<-lo,List.take_left]
 ·rw[f10];simpa[aT]using f14
end Go.Ev
namespace Go.Ev
open Go Go.RowKit
variable [b8]
variable {cx:bB} {m ay:Nat->Value} {st st':af} {T:Array Value} {w w':World}
variable [ai cx]
theorem Ax{c:cE}{e:Nat}{u:ag}{q:List u.el}(L:c.e=e)(o:ak.as ⟨.ab c.t,c.xs⟩ (.ab u)=some q):c=⟨e,u,q⟩:=by
 obtain⟨R,pa,O⟩:=c
 have o:ak.as ⟨.ab pa,O⟩ (.ab u)=some q:=o
 have o:=ak.dd o
 cases o
 subst L
 rfl
theorem PW(h:an cx m st T w){b e r:Nat}{i:Int}{k:dR}{xs:List k.u.el}{lu:Option Int}{t:TypeId}{x y:Operand}{lv lc:k.u.el}{lg:List k.t.el}(U:look st.ad b=some (.bp e k xs lu))(lG:look st.rw r=some ⟨k.e,k.t,lg⟩)(lw:b≠r)
  (lH:aR st x=some (.dM b i k.off k.u.cells))(lI:ty cx.P t=some (.ab k.t))(lJ:aR st y=some (.row r))
  (lK:aq xs i=some lv)(lL:cp k.u lc k.off ⟨.ab k.t,[]⟩=cp k.u lv k.off ⟨.ab k.t,[]⟩)(lM:cI k.u lc k.off (.ab k.t)=some lg)(lN:∀i0,lu=some i0->i0=i):
  ∃w' ay,(Instr.storeAt t (Act.eval ⟨T,ai.D cx⟩ x) (Act.eval ⟨T,ai.D cx⟩ y)).run cx.P w=.ok () w'/\an cx ay (st.dH [b,r] [(b,.bp e k (xs.set i.toNat lc) none)] [] (ao.oS b [b,r])) T w':=by
 obtain⟨g2,l9,aa,ab,lO,a2⟩:=be h lH
 obtain⟨g,cap,cur,us,la,W,c2,lx,v,ly,f1,f2,f3,f4,f5,f6,f7,f8,f9,f10,f11,f12,f13,f14,f15⟩:=h.kp U (iW lK)
 have lP:g2=g:=CR (jk (lO.symm.trans f1)).1
 subst lP
 obtain⟨lh,v1,lQ,lz,lA,ad,lR,lS,ae,af⟩:=f13
 have li:=a8 lG
 have lT:=a8 U
 have Y:b∈st.ids:=List.mem_append.2 (.inl (List.mem_map.2 ⟨_,lT,rfl⟩))
 have lj:r∈st.ids:=List.mem_append.2 (.inr (List.mem_map.2 ⟨_,li,rfl⟩))
 obtain⟨cells,lB,ah,lU⟩:=h.rows r _ li
 have lV:Act.eval ⟨T,ai.D cx⟩ y=m r:=be h lJ
 have lC:(m r).oneCell'=true:=row_one h li
 have lk:(m r).cells=#[m r]:=by
  rcases lB.2 with ⟨lD,_⟩|⟨_,_,_,lD,_⟩<;>rw[lD]<;>rfl
 have aj:k.off<lh.length:=(List.getElem?_eq_some_iff.1 lA).1
 have ak:lh.length=k.u.cells:=by rw[<-f8,lz,List.length_set]
 have lW:i.toNat*k.u.cells+k.off+(ag.ab k.t).cells<=cur.size:=by
  rw[<-Array.length_toList,f6];simp only[List.length_append,ag.cells];omega
 have ll:=mf (P:=cx.P) (v:=m r) lI f2 (by rw[lk];rfl) lW (fun u hu=>by rw[lk]at hu;simp at hu;rw[hu];exact lC)
 have lX:cur.toList.take (i.toNat*k.u.cells+k.off)++(m r).cells.toList++cur.toList.drop (i.toNat*k.u.cells+k.off+(ag.ab k.t).cells)=la++W.set k.off (m r)++(c2++cur.toList.drop (xs.length*k.u.cells)):=by
  generalize cur.toList.drop (xs.length*k.u.cells)=rest at f6⊢
  rw[f6,<-f7,lk]
  have lY:la++W++(c2++rest)=la++(W++(c2++rest)):=by simp
  have lZ:k.off+1<=W.length:=by omega
  rw[lY,List.take_append,List.take_of_length_le (by omega),Nat.add_sub_cancel_left,List.take_append_of_le_length (by omega),Nat.add_assoc,List.drop_append,List.drop_eq_nil_of_le (by omega),Nat.add_sub_cancel_left]
  show _=_
  simp only[ag.cells]
  rw[List.drop_append_of_le_length lZ,List.set_eq_take_append_cons_drop,if_pos (by omega)]
  simp
 rw[lX]at ll
 generalize lm:w.setRow g2 (la++W.set k.off (m r)++(c2++cur.toList.drop (xs.length*k.u.cells))).toArray=ln at ll
 have lo:∀L,L≠g2->ln.heap[L]? =w.heap[L]? :=fun L ld=>by rw[<-lm];exact setRow_other _ _ _ _ ld
 have lp:own (m b) g2:=Fr f1
 obtain⟨v2,le⟩:∃v2,v2=Value.tuple (.slice (some ⟨g2,0,none⟩) xs.length cap::(lx++m r::ly)).toArray:=⟨_,rfl⟩
 rw[f10]at f14 f1
 obtain⟨al,l0⟩:=uN f14
 have lq:∀o,aT (m r)=some o->own (m r) o:=fun o U=>gi U
 have lE:∀o,aT (m r)=some o->o≠g2:=fun o U e=>h.apart b r Y lj lw g2 lp (by rw[<-e];exact lq o U)
 have X:gS cx m (bx m b v2) st w ln [b,r] [(b,.bp e k (xs.set i.toNat lc) none)] []:={
  same:=by rw[<-lm];exact jP _ _ _
  block:=fun L _ ld=>lo L fun e=>ld b (by simp) Y (by rw[e];exact lp)
  old:=fun j _ q=>cR _ _ fun e=>q (by simp[e])
  new:=fun j q L O=>by
   have:j=b:=by simpa using q
   subst this
   rw[cd,le]at O
   refine .inl ?_
   rcases dg.1 O with O|⟨u,hu,O⟩
   ·cases O;exact⟨j,by simp,Y,lp⟩
   ·rcases List.mem_append.1 hu with hu|hu
    ·exact⟨j,by simp,Y,by rw[f1];exact dg.2 (.inr ⟨u,by simp[hu],O⟩)⟩
    ·rcases List.mem_cons.1 hu with rfl|hu
     ·exact⟨r,by simp,lj,lq L O⟩
     ·exact⟨j,by simp,Y,by rw[f1];exact dg.2 (.inr ⟨u,by simp[hu],O⟩)⟩
  apart:=fun j l3 q l4 ld=>by
   have:j=b:=by simpa using q
   have:l3=b:=by simpa using l4
   omega
  keys:=by simp
  mu:=fun j q _=>by
   have:j=b:=by simpa using q
   simp[this]
  mh:=fun lf c' lb lF=>by simp at lb;rw[lb.2]at lF;cases lF
  fb:=fun l5 c' lr=>by cases lr}
 refine⟨ln,bx m b v2,by rw[a2,lV];exact ll,h.dH X (fun M v s l6=>HT f1 (by rw[cd,le]) (fun j q=>cR _ _ fun e=>q (by simp[e])) l6) (fun lf c' lb=>?_) (fun l5 c' lr=>by cases lr)⟩
 simp only[List.mem_cons,Prod.mk.injEq,List.not_mem_nil,or_false]at lb
 obtain⟨rfl,rfl⟩:=lb
 have ls:=X.keeps
 have lt:=X.mut (f:=ao.oS lf [lf,r])
 rw[cd]
 refine⟨0,⟨_,_,le⟩,_,lx++m r::ly,la++W.set k.off (m r)++c2,le,?_,?_,?_⟩
 ·rw[List.length_set,<-lm]
  exact Jj f2 f3 f4 f5 f6 f9 (List.length_set ..)
 ·refine f15 ls lt (fun j q=>⟨fun⟨i0,R,l7⟩=>absurd (by rw[<-l7,lN i0 R]) q,fun⟨_,R,_⟩=>by cases R⟩) (fun u hu o Z=>lo o fun e=>l0 u hu (by rw[<-e];exact Z)) (by rw[List.length_set,f8]) ?_
  refine⟨lh,m r,lQ,by rw[lz,List.set_set],lA,lC,by rw[lL];exact lR,cC ls lt k.u lS,(fun⟨_,R,_⟩=>by cases R),fun _=>⟨rfl,lg,cells,lM,oZ lB fun o Z=>lo o (lE o Z),di (fun _ _=>cC ls lt k.t) lU⟩⟩
 ·have R:=JX f14 (x:=m r) fun o Z=>⟨lE o Z,fun u hu l8=>h.apart lf r Y lj lw o (by rw[f1];exact dg.2 (.inr ⟨u,by rcases hu with hu|hu<;>simp[hu],l8⟩)) (lq o Z)⟩
  simpa[aT]using R
def wQ(q:Nat)(st:af)(b:Nat)(i:Int)(a d:Nat)(orc:List ak):Option (af×List ak×List Prop):=
 match look st.ad b,orc with
 |some (.bp e k xs none),v::orc'=>match v.as k.u,Nat.blt d q&&!(Nat.beq b d)with
  |some o,true=>match cI k.u o k.off (.ab k.t)with
   |some L=>some ((st.dH [b,d] [(b,.bp e k xs (some i))] [(d,⟨k.e,k.t,eR L⟩)] (ao.oS b [b,d])).put a (.row d),orc',[aq xs i=some o])
   |none=>none
  |_,_=>none
 |_,_=>none
theorem an.Ma(h:an cx m st T w){a:Nat}{v:Value}{s:ao}(q:T[a]? =some v)(L:aS w (ar cx m st.ids) m v s):an cx m (st.put a s) T w:=
 {h with
  cJ:=fun i aO o=>by
   rcases List.mem_cons.1 o with o|o
   ·cases o;exact⟨v,q,L⟩
   ·exact h.cJ i aO (cT.1 o).1}
theorem tH{α:Type}:∀{l:List α} {i:Nat} {x:α},l[i]? =some x->l.set i x=l
 |_,_,_,h=>by
  obtain⟨q,o⟩:=List.getElem?_eq_some_iff.1 h
  rw[<-o,List.set_getElem_self]
theorem R8(h:an cx m st T w){b a d:Nat}{i:Int}{orc orc':List ak}{ob:List Prop}(lc:look st.ab a=some (.sub b i))(O:wQ cx.n st b i a d orc=some (st',orc',ob))(lj:bO ob):∃ay,an cx ay st' T w:=by
 unfold wQ at O
 split at O
 case h_2=>cases O
 rename_i e k xs v0 lZ lk
 split at O
 case h_2=>cases O
 rename_i ly _ aK
 split at O
 case h_2=>cases O
 rename_i ll lz
 cases O
 simp only[Bool.and_eq_true,Bool.not_eq_true']at aK
 have lA:=cK aK.1
 have lm:=beq_false aK.2
 obtain⟨vv,t1,l0,l3,t2,t3⟩:=h.cJ a _ (a8 lc)
 obtain⟨g,cap,cur,us,Z,R,c2,ld,v,le,f1,f2,f3,f4,f5,f6,f7,f8,f9,f10,f11,f12,f13,f14,f15⟩:=h.kp lk (iW lj.1)
 have lB:vv=v:=by
  rw[f1]at t2
  rw[<-(jk t2).2,f10,<-f11]at t3
  simpa using t3.symm
 subst lB
 have l4:=f13
 obtain⟨lC,v1,lD,lE,lF,lG,lH,lI,l5,lJ⟩:=f13
 obtain⟨l6,l7,cells,ln,lo,lK⟩:=lJ fun⟨_,h,_⟩=>by cases h
 rw[lz]at ln
 cases ln
 have lL:=a8 lk
 have lp:b∈st.ids:=List.mem_append.2 (.inl (List.mem_map.2 ⟨_,lL,rfl⟩))
 obtain⟨v2,la⟩:∃v2,v2=Value.tuple (.slice (some ⟨g,0,none⟩) xs.length cap::(ld++undef::le)).toArray:=⟨_,rfl⟩
 obtain⟨m2,lf⟩:∃m2,m2=bx (bx m d vv) b v2:=⟨_,rfl⟩
 have lg:m2 b=v2:=by rw[lf,cd]
 have md:m2 d=vv:=by rw[lf,cR _ _ (fun e=>lm e.symm),cd]
 have lq:∀j,j∉[b,d]->m2 j=m j:=fun j L=>by rw[lf,cR _ _ (fun e=>L (by simp[e])),cR _ _ (fun e=>L (by simp[e]))]
 rw[f10]at f14 f1
 obtain⟨lr,l8⟩:=uN f14
 have lM:∀o,aT vv=some o->own (m b) o:=fun o q=>by rw[f1];exact dg.2 (.inr ⟨vv,by simp,q⟩)
 have lh:∀o,own (m2 d) o->aT vv=some o:=fun o q=>by rw[md]at q;exact Bi lo q
 have ls:∀o,own (m2 b) o->o=g\/∃u,(u∈ld\/u∈le)/\aT u=some o:=fun o q=>by
  rw[lg,la]at q
  rcases dg.1 q with q|⟨u,hu,q⟩
  ·cases q;exact .inl rfl
  ·rcases List.mem_append.1 hu with hu|hu
   ·exact .inr ⟨u,.inl hu,q⟩
   ·rcases List.mem_cons.1 hu with rfl|hu
    ·cases q
    ·exact .inr ⟨u,.inr hu,q⟩
 have lN:∀o,own (m2 b) o->own (m b) o:=fun o q=>by
  rw[f1]
  rcases ls o q with rfl|⟨u,hu,q⟩
  ·exact dg.2 (.inl rfl)
  ·exact dg.2 (.inr ⟨u,by rcases hu with hu|hu<;>simp[hu],q⟩)
 have lb:∀j,j∈[(b,bT.bp e k xs (some i))].map (·.1)\/j∈[(d,(⟨k.e,k.t,eR ll⟩:cE))].map (·.1)->j=b\/j=d:=fun j L=>by simpa using L
 have X:gS cx m m2 st w w [b,d] [(b,.bp e k xs (some i))] [(d,⟨k.e,k.t,eR ll⟩)]:={
  same:=⟨rfl,rfl,rfl,Nat.le_refl _,fun _=>Nat.le_refl _⟩
  block:=fun _ _ _=>rfl
  old:=fun j _ L=>lq j L
  new:=fun j L o q=>by
   rcases lb j L with rfl|rfl
   ·exact .inl ⟨j,by simp,lp,lN o q⟩
   ·exact .inl ⟨b,by simp,lp,lM o (lh o q)⟩
  apart:=fun j lO L lP lt o q lu=>by
   have key:own (m2 b) o->own (m2 d) o->False:=fun lQ lv=>by
    rcases ls o lQ with rfl|⟨u,hu,lR⟩
    ·exact(lr o (lh o lv)).1 rfl
    ·exact(lr o (lh o lv)).2 u hu lR
   rcases lb j L with rfl|rfl<;>rcases lb lO lP with rfl|rfl
   ·exact lt rfl
   ·exact key q lu
   ·exact key lu q
   ·exact lt rfl
  keys:=by simpa using lm
  mu:=fun j L _=>by rcases lb j L with rfl|rfl<;>simp
  mh:=fun lS c' U lw=>by simp at U;rw[U.2]at lw;cases lw
  fb:=fun lT c' W=>by simp at W;rw[W.1];exact lA}
 have li:=X.mut (f:=ao.oS b [b,d])
 have lU:=h.dH X (fun M v s lc=>HT f1 (by rw[lg,la]) lq lc) (fun lS c' U=>by
   simp only[List.mem_cons,Prod.mk.injEq,List.not_mem_nil,or_false]at U
   obtain⟨rfl,rfl⟩:=U
   rw[lg]
   refine⟨0,⟨_,_,la⟩,_,ld++undef::le,Z++R++c2,la,?_,?_,?_⟩
   ·have lV:cur.toList.take (xs.length*k.u.cells)=Z++R++c2:=by
     generalize cur.toList.drop (xs.length*k.u.cells)=lx at f6
     rw[f6,<-f9]
     have:Z++R++(c2++lx)=(Z++R++c2)++lx:=by simp
     rw[this,List.take_left]
    exact⟨f9,.inr ⟨g,cap,cur,rfl,Nat.zero_le _,f2,f3,f4,f5,lV⟩⟩
   ·have:=f15 (w':=w) (h':=some i) (x':=ly) (c':=R) (v':=undef) (fun _ _ _=>rfl) li (fun j L=>⟨fun⟨_,Y,_⟩=>(by cases Y),fun⟨i0,Y,lW⟩=>absurd (by rw[<-lW,Option.some.inj Y]) L⟩) (fun _ _ _ _=>rfl) f8
     ⟨lC,v1,lD,lE,lF,lG,lH,cC (fun _ _ _=>rfl) li k.u lI,fun _=>rfl,fun lX=>absurd ⟨i,rfl,rfl⟩ lX⟩
    rw[tH (iW lj.1)]at this
    exact this
   ·have Y:=JX f14 (x:=undef) fun l9 lY=>by cases lY
    simpa[aT]using Y) (fun lT c' W=>by
   simp only[List.mem_cons,Prod.mk.injEq,List.not_mem_nil,or_false]at W
   obtain⟨rfl,rfl⟩:=W
   rw[md]
   exact⟨cells,lo,di (fun _ _=>cC (fun _ _ _=>rfl) li k.t) lK⟩)
 exact⟨m2,lU.Ma t1 (by show vv=m2 d;rw[md])⟩
end Go.Ev
namespace Go.Ev
open Go Go.RowKit
variable [b8]
variable {cx:bB} {m ay:Nat->Value} {st st':af} {T:Array Value} {w w':World}
variable [ai cx]
def nz(P:Program)(o:TypeId):Option dR:=
 match ty P o,P.underlying o with
 |some (.ab t),some (.slice e)=>match ty P e with
  |some L=>bif t.beq L&&!(Nat.beq t.cells 0)then some ⟨.ab t,0,e,t⟩else none
  |none=>none
 |some u,some (.struct O)=>match O.toList.getLast? with
  |some q=>match P.underlying q.type with
   |some (.slice e)=>match ty P e with
    |some t=>bif !(Nat.beq t.cells 0)then some ⟨u,q.offset,e,t⟩else none
    |none=>none
   |_=>none
  |none=>none
 |_,_=>none
def xX(E:Env)(st:af)(aa:Oper)(orc:List ak):Option (af×List ak×List Prop):=
 match aa.dst,orc with
 |some d,⟨.unit,_⟩::orc'=>match Nat.blt d E.n,aa.op with
  |true,.assign (.const (.slice none 0 0))=>match dO E.P aa.type with
   |some (e,_)=>match nz E.P e with
    |some k=>some ((st.dH [d] [(d,.bp e k [] none)] [] (ao.dI [d])).put d (.osl d),orc',[])
    |none=>none
   |none=>none
  |true,.move (.const (.slice none 0 0))=>match dO E.P aa.type with
   |some (e,_)=>match nz E.P e with
    |some k=>some ((st.dH [d] [(d,.bp e k [] none)] [] (ao.dI [d])).put d (.osl d),orc',[])
    |none=>none
   |none=>none
  |true,.makeSlice t l c=>match dO E.P t,dV (aR st l),dV (aR st c)with
   |some (e,u),some n,some o=>match nz E.P e,mw E.P e,zeroOf E.P e,(E.P.info? e).bind (·.zero)with
    |some k,true,some q,some z=>match u.beq q&&u.beq k.u,z.cells.toList[k.off]? with
     |true,some (.slice none 0 0)=>some ((st.dH [d] [(d,.bp e k (List.replicate n.toNat (ca k.u)) none)] [] (ao.dI [d])).put d (.osl d),orc',
       [0<=n/\n<=o/\o<=(br:Int),cp k.u (ca k.u) k.off ⟨.ab k.t,[]⟩=some (ca k.u),cI k.u (ca k.u) k.off (.ab k.t)=some (show(ag.ab k.t).el from[])])
     |_,_=>none
    |_,_,_,_=>none
   |_,_,_=>none
  |_,_=>none
 |_,_=>none
theorem an.Iv(h:an cx m st T w){d e:Nat}(ah:d<cx.n){hd0:Value}{k:dR}{xs:List k.u.el}{cells us:List Value}{w':World}(W:Ext w w')(Z:∀g,g∈(hd0::us).filterMap aT->w.heap.size<=g/\g<w'.heap.size)(la:w'.ownsRow 0 e k.u.cells hd0 xs.length cells)
  (lb:∀M':Nat->Prop,(∀b,b<w.heap.size->M' b->ar cx m st.ids b)->fl w' M' k none 0 xs cells us)(lc:((hd0::us).filterMap aT).Nodup):
  an cx (bx m d (.tuple (hd0::us).toArray)) ((st.dH [d] [(d,.bp e k xs none)] [] (ao.dI [d])).put d (.osl d)) (T.setIfInBounds d hd0) w':=by
 obtain⟨v2,q⟩:∃v2,v2=Value.tuple (hd0::us).toArray:=⟨_,rfl⟩
 rw[<-q]
 have X:gS cx m (bx m d v2) st w w' [d] [(d,.bp e k xs none)] []:={
  same:=W.toSame
  block:=fun R O _=>W.block R O
  old:=fun j _ o=>cR _ _ fun e=>o (by simp[e])
  new:=fun j o R O=>by
   have:j=d:=by simpa using o
   subst this
   rw[cd,q]at O
   exact .inr (Z R (PU.1 O))
  apart:=fun j ld o le lh=>by
   have:j=d:=by simpa using o
   have:ld=d:=by simpa using le
   omega
  keys:=by simp
  mu:=fun j o _=>by
   have:j=d:=by simpa using o
   simp[this]
  mh:=fun Y c' L _=>by simp at L;rw[L.1];exact ah
  fb:=fun lf c' U=>by cases U}
 refine(h.dH X (fun M v s lg=>mL (fun j o=>cR _ _ fun e=>o (by simp[e])) lg) (fun Y c' L=>?_) (fun lf c' U=>by cases U)).put ah ⟨us,by rw[cd,q]⟩
 simp only[List.mem_cons,Prod.mk.injEq,List.not_mem_nil,or_false]at L
 obtain⟨rfl,rfl⟩:=L
 rw[cd]
 exact⟨0,⟨_,_,q⟩,hd0,us,cells,q,la,lb _ (X.mut (f:=ao.dI [Y])),lc⟩
theorem TV{M:Nat->Prop}{k:dR}{z:Array Value}{x:k.u.el}(o:aH w M k.u z.toList x)(q:z.toList[k.off]? =some (.slice none 0 0))(O:cp k.u x k.off ⟨.ab k.t,[]⟩=some x)(R:cI k.u x k.off (.ab k.t)=some (show(ag.ab k.t).el from[])):
  ∀(n i:Nat),fl w M k none i (List.replicate n x) (madeCells z (n*k.u.cells)).toList (List.replicate n (.slice none 0 0)):=by
 have L:z.toList.length=k.u.cells:=cf k.u o
 intro n
 induction n with
 |zero=>intro i;exact⟨by simp[madeCells],rfl⟩
 |succ n U=>
  intro i
  refine⟨z.toList,(madeCells z (n*k.u.cells)).toList,.slice none 0 0,List.replicate n (.slice none 0 0),HX (by simpa using L) n,L,List.replicate_succ,?_,U (i+1)⟩
  exact⟨z.toList,.slice none 0 0,x,(tH q).symm,q,rfl,O,o,(fun⟨_,h,_⟩=>by cases h),fun _=>⟨rfl,[],[],R,World.ownsRow_nil w 0 _ _,rfl⟩⟩
theorem NI{E:Env}(W:bv E cx)(h:al cx st T w){aa:Oper}{orc:List ak}{st':af}{orc':List ak}{ob:List Prop}(o:xX E st aa orc=some (st',orc',ob))(ln:bO ob)
  {K:Act->World->Prop}{Q:Exit->Act->World->Prop}(lc:∀ld w',al cx st' ld w'->K ⟨ld,ai.D cx⟩ w'):aa.wp cx.P ⟨T,ai.D cx⟩ w K Q:=by
 obtain⟨m,Y⟩:=h
 unfold xX at o
 split at o
 case h_2=>cases o
 rename_i d lI lJ ah
 have nil:∀(e:Nat) (k:dR),d<cx.n->(execOp (Act.eval ⟨T,ai.D cx⟩) aa).run cx.P w=.ok (.value (.slice none 0 0)) w->st'=(st.dH [d] [(d,.bp e k [] none)] [] (ao.dI [d])).put d (.osl d)->aa.wp cx.P ⟨T,ai.D cx⟩ w K Q:=by
  intro e k q lo lp
  refine gg lo ?_
  rw[ah]
  refine lc _ _ ⟨_,lp▸Y.Iv q (hd0:=.slice none 0 0) (e:=e) (k:=k) (xs:=[]) (us:=[]) (cells:=[]) (Ext.refl w) (fun g R=>by simp[aT]at R) (World.ownsRow_nil w 0 _ _) (fun _ _=>⟨rfl,rfl⟩) List.nodup_nil⟩
 split at o
 ·rename_i q U
  have q:d<cx.n:=by rw[W.n];exact cK q
  split at o
  case h_2=>cases o
  split at o
  case h_2=>cases o
  cases o
  exact nil _ _ q (by simp only[execOp,U];rfl) rfl
 ·rename_i q U
  have q:d<cx.n:=by rw[W.n];exact cK q
  split at o
  case h_2=>cases o
  split at o
  case h_2=>cases o
  cases o
  exact nil _ _ q (by simp only[execOp,U];rfl) rfl
 ·rename_i t l c q U
  have q:d<cx.n:=by rw[W.n];exact cK q
  split at o
  case h_2=>cases o
  rename_i e u n L le lq lr
  split at o
  case h_2=>cases o
  rename_i k lK z lL lf lg O
  split at o
  case h_2=>cases o
  rename_i aK ls
  cases o
  simp only[Bool.and_eq_true]at aK
  obtain rfl:=ag.eq_of_beq aK.1
  obtain⟨⟨lt,lu,lM⟩,lv,lw,_⟩:=ln
  rw[<-W.P]at le lf lg O
  have lx:=ag.eq_of_beq aK.2
  obtain⟨la,lN,lO⟩:=iM le
  obtain⟨i,lP,_,lb,lh,li,ly⟩:=iV lg
  rw[lb]at O
  have O:i.zero=some z:=O
  rw[li]at O
  cases O
  obtain⟨i2,lj,lQ⟩:=uY lf
  rw[lb]at lj
  cases lj
  obtain⟨lk,lz⟩:=fe Y lq
  obtain⟨ll,lA⟩:=fe Y lr
  have lR:(br:Int)=2147483648:=rfl
  have lB:0<=L:=by omega
  have lC:(i.bytes:Int)*L<=281474976710656:=by
   have lD:(i.bytes:Int)<=65536:=by omega
   calc (i.bytes:Int)*L<=65536*L:=Int.mul_le_mul_of_nonneg_right lD lB
    _<=281474976710656:=by omega
  have lE:=run_make (P:=cx.P) w t e i z la lb li lk ll n L lt lu lC (by omega)
  subst lx
  have Z:(List.replicate n.toNat (ca k.u)).length=n.toNat:=List.length_replicate
  have lF:(madeCells z.cells (L.toNat*i.size)).toList.take ((List.replicate n.toNat (ca k.u)).length*k.u.cells)=(madeCells z.cells (n.toNat*k.u.cells)).toList:=by
   rw[Z,lh]
   simp only[madeCells,Array.toList_map,Array.toList_range,<-List.map_take]
   rw[List.take_range]
   congr 2
   have:n.toNat*k.u.cells<=L.toNat*k.u.cells:=Nat.mul_le_mul_right _ (by omega)
   omega
  have lG:Ext w (w.alloc (.cells (madeCells z.cells (L.toNat*i.size)) e)):=hY _ _
  have lH:∀(w':World) (M':Nat->Prop),fl w' M' k none 0 (List.replicate n.toNat (ca k.u)) (madeCells z.cells (n.toNat*k.u.cells)).toList (List.replicate n.toNat (.slice none 0 0)):=fun w' M'=>TV (ly w' M') ls lv lw _ _
  have lm:((Value.slice (some ⟨w.heap.size,0,none⟩) n.toNat L.toNat)::List.replicate n.toNat (Value.slice none 0 0)).filterMap aT=[w.heap.size]:=by
   rw[List.filterMap_cons]
   show w.heap.size::_=_
   congr 1
   rw[List.filterMap_eq_nil_iff]
   intro u la
   rw[List.eq_of_mem_replicate la]
   rfl
  refine gg (cn (s:=Instr.makeSlice t (.int lk n) (.int ll L)) (by simp only[execOp,U,lz,lA]) lE) ?_
  rw[ah]
  refine lc _ _ ⟨_,Y.Iv q lG (us:=List.replicate n.toNat (.slice none 0 0)) (fun g R=>?_) ⟨?_,.inr ⟨w.heap.size,L.toNat,madeCells z.cells (L.toNat*i.size),?_,Nat.zero_le _,heap_alloc_new w _,?_,?_,?_,lF⟩⟩ (fun M' _=>lH _ M') (by rw[lm];simp)⟩
  ·rw[lm]at R
   simp at R
   subst R
   exact⟨Nat.le_refl _,by simp⟩
  ·rw[Z,Array.length_toList,size_madeCells]
  ·rw[Z]
  ·rw[Z];omega
  ·simp only[maxLen];omega
  ·rw[size_madeCells,lh]
 ·cases o
end Go.Ev
namespace Go.Ev
open Go Go.RowKit
variable [b8]
variable {cx:bB} {m ay:Nat->Value} {st st':af} {T:Array Value} {w w':World}
variable [ai cx]
def qG:List ao->Option (List bV)
 |[]=>some []
 |.val t x::l=>match qG l with
  |some r=>some (.v ⟨t,x⟩::r)
  |none=>none
 |.row b::l=>match qG l with
  |some r=>some (.r b::r)
  |none=>none
 |_=>none
theorem Ew{M:Nat->Prop}:∀{cs:List Value} {l:List ao} {r:List bV},qG l=some r->ct w M m cs l->cX w M m cs r
 |[],[],r,h,_=>by cases h;trivial
 |[],_::_,_,_,h=>h.elim
 |_::_,[],_,_,h=>h.elim
 |c::cs,s::l,r,h,⟨q,L⟩=>by
  unfold qG at h
  split at h
  ·rename_i e;cases e
  ·rename_i t x O e
   cases e
   split at h
   ·rename_i R o;cases h;exact⟨q,Ew o L⟩
   ·cases h
  ·rename_i b O e
   cases e
   split at h
   ·rename_i R o;cases h;exact⟨q,Ew o L⟩
   ·cases h
  ·cases h
def bV.isRow:bV->Bool
 |.r _=>true
 |_=>false
def DA(P:Program)(st:af)(t:TypeId)(x:Operand)(orc:List ak):Option dw:=
 match aR st x,ty P t with
 |some (.ptr b off),some u=>match look st.ad b,u.agg with
  |some (.cells l _),true=>match qG ((l.drop off).take u.cells),Nat.beq ((l.drop off).take u.cells).length u.cells with
   |some r,true=>bif r.any bV.isRow then some ⟨.eO r,orc,[]⟩else none
   |_,_=>none
  |_,_=>none
 |_,_=>none
theorem Mf(h:an cx m st T w){t:TypeId}{x:Operand}{orc:List ak}{q:dw}(o:DA cx.P st t x orc=some q):
  ∃v,(∀w',Ext w w'->(Instr.loadAt t (Act.eval ⟨T,ai.D cx⟩ x)).run cx.P w'=.ok v w')/\aS w (ar cx m st.ids) m v q.aO:=by
 unfold DA at o
 split at o
 case h_2=>cases o
 rename_i b off u lb lc
 split at o
 case h_2=>cases o
 rename_i l e ld R
 split at o
 case h_2=>cases o
 rename_i r le L
 have o:some (⟨.eO r,orc,[]⟩:dw)=some q:=by
  cases U:r.any bV.isRow with
  |false=>rw[U]at o;cases o
  |true=>rw[U]at o;exact o
 cases o
 have L:=Nat.eq_of_beq_eq_true L
 obtain⟨g,lf,lg⟩:=be h lb
 obtain⟨lh,W,_,cells,li,lj⟩:=h.box (a8 ld)
 have:lh=g:=by rw[lf]at W;cases W;rfl
 subst this
 have Y:=(iw u.cells (iw off lj).2).1
 have lk:=kz Y
 obtain⟨v,ll,Z⟩:=jm (P:=cx.P) (c:=(cells.toList.drop off).take u.cells) (off:=off) lc li (fun j v O=>by
  have lm:=(List.getElem?_eq_some_iff.1 O).1
  rw[List.getElem?_take_of_lt (by rw[List.length_take]at lm;omega),List.getElem?_drop]at O
  simpa using O) (by rw[lk,L]) (fun la=>by rw[R]at la;cases la)
 rw[R,if_pos rfl]at Z
 refine⟨v,fun w' ln=>?_,_,Z,Ew le Y⟩
 rw[lg]
 exact ll w' ln
def o2(P:Program)(st:af)(aa:Oper)(orc:List ak):Option dw:=
 match aa.op with
 |.indexAddr t x i=>match aR st x,dV (aR st i),ty P t with
  |some (.osl b),some n,some (.ab u)=>match look st.ad b with
   |some (.bp _ k xs _)=>bif u.beq k.u then some ⟨.dM b n 0 k.u.cells,orc,[0<=n/\n<(xs.length:Int)]⟩else none
   |_=>none
  |some (.sub b i0),some n,some (.ab u)=>match look st.ad b,orc with
   |some (.bp _ k xs none),a::orc'=>match a.as k.u,u.beq k.t with
    |some o,true=>match cI k.u o k.off (.ab k.t)with
     |some q=>some ⟨.eV b i0 n 0 k.t.cells,orc',[aq xs i0=some o,0<=n/\n<((eR q).length:Int)]⟩
     |none=>none
    |_,_=>none
   |_,_=>none
  |_,_,_=>none
 |.fieldAddr t x f=>match aR st x,fieldInfo P t f with
  |some (.dM b i off L),some (O,_)=>some ⟨.dM b i (off+O) L,orc,[]⟩
  |some (.eV b i j off L),some (O,_)=>some ⟨.eV b i j (off+O) L,orc,[]⟩
  |_,_=>none
 |.load t x=>match zg P st t x orc with
  |some r=>some r
  |none=>DA P st t x orc
 |.call c=>match c.callee,c.args.toList,c.argTypes.toList with
  |.builtin .len,[x],[t]=>match aR st x,ty P t with
   |some (.osl b),some (.ab _)=>match look st.ad b with
    |some (.bp _ _ xs _)=>some ⟨.val (.int .i64) (xs.length:Int),orc,[]⟩
    |_=>none
   |some (.sub b i),some (.ab _)=>match look st.ad b,orc with
    |some (.bp _ k xs none),a::orc'=>match a.as k.u with
     |some o=>match cI k.u o k.off (.ab k.t)with
      |some q=>some ⟨.val (.int .i64) ((eR q).length:Int),orc',[aq xs i=some o]⟩
      |none=>none
     |none=>none
    |_,_=>none
   |_,_=>none
  |_,_,_=>none
 |_=>none
def nO(st:af):List bV->Option (List ao)
 |[]=>some []
 |.v u::l=>match nO st l,u.t.agg with
  |some r,false=>some (.val u.t u.x::r)
  |_,_=>none
 |.r b::l=>match nO st l,look st.rw b with
  |some r,some _=>some (.row b::r)
  |_,_=>none
 |.a::_=>none
theorem AW(h:an cx m st T w){M:Nat->Prop}:∀{vs:List Value} {l:List bV} {r:List ao},nO st l=some r->cX w M m vs l->ct w M m vs r/\(∀v∈vs,v.oneCell'=true)/\r.length=l.length
 |[],[],r,o,_=>by cases o;exact⟨trivial,(fun v Z=>by cases Z),rfl⟩
 |[],x::_,_,_,h=>by cases x<;>exact h.elim
 |_::_,[],_,_,h=>h.elim
 |v::vs,.v u::l,r,o,⟨L,O⟩=>by
  unfold nO at o
  split at o
  ·rename_i la R lb
   cases o
   obtain⟨U,W,Y⟩:=AW h R O
   refine⟨⟨L,U⟩,fun x q=>?_,by simp[Y]⟩
   rcases List.mem_cons.1 q with rfl|q
   ·exact gy u.t ((bD lb).1 L) _ (by simp)
   ·exact W x q
  ·cases o
 |v::vs,.r b::l,r,o,⟨L,O⟩=>by
  unfold nO at o
  split at o
  ·rename_i la c R lc
   cases o
   obtain⟨U,W,Y⟩:=AW h R O
   refine⟨⟨L,U⟩,fun x q=>?_,by simp[Y]⟩
   rcases List.mem_cons.1 q with rfl|q
   ·rw[L];exact row_one h (a8 lc)
   ·exact W x q
  ·cases o
 |v::vs,.a::l,r,o,_=>by cases o
def zG(P:Program)(st:af)(t:TypeId)(x y:Operand)(orc:List ak):Option (af×List ak×List Prop):=
 match aR st x,ty P t,aR st y with
 |some (.ptr b off),some u,some (.eO l)=>match look st.ad b,nO st l,Nat.beq l.length u.cells with
  |some (.cells c e),some aO,true=>bif Nat.ble (off+u.cells) c.length then some (st.cY b (.cells (c.take off++aO++c.drop (off+u.cells)) e),orc,[])else none
  |_,_,_=>none
 |_,_,_=>none
theorem Wm(h:an cx m st T w){t:TypeId}{x y:Operand}{orc orc':List ak}{st':af}{ob:List Prop}(o:zG cx.P st t x y orc=some (st',orc',ob)):
  ∃w',(Instr.storeAt t (Act.eval ⟨T,ai.D cx⟩ x) (Act.eval ⟨T,ai.D cx⟩ y)).run cx.P w=.ok () w'/\an cx m st' T w':=by
 unfold zG at o
 split at o
 case h_2=>cases o
 rename_i b off u l lf lg lh
 obtain⟨g,L,li⟩:=be h lf
 split at o
 case h_2=>cases o
 rename_i c e aO lj lk O
 cases R:Nat.ble (off+u.cells) c.length with
 |false=>rw[R]at o;cases o
 |true=>
  rw[R]at o
  cases o
  have ll:=Nat.le_of_ble_eq_true R
  have O:=Nat.eq_of_beq_eq_true O
  have q:=a8 lj
  obtain⟨U,lb,_,cells,lc,W⟩:=h.box q
  have:U=g:=by rw[L]at lb;cases lb;rfl
  subst this
  have lm:b∈st.ids:=List.mem_append.2 (.inl (List.mem_map.2 ⟨_,q,rfl⟩))
  have ln:=kz W
  obtain⟨vs,lo,lp⟩:=be h lh
  obtain⟨ld,lq,lr⟩:=AW h lk lp
  have ls:vs.length=u.cells:=by rw[kz ld,lr,O]
  have Y:(Act.eval ⟨T,ai.D cx⟩ y).cells=vs.toArray:=by rw[lo];rfl
  have lt:off+u.cells<=cells.size:=by rw[<-Array.length_toList,ln];exact ll
  have lu:=mf (P:=cx.P) (v:=Act.eval ⟨T,ai.D cx⟩ y) lg lc (by rw[Y];simpa using ls) lt (by rw[Y];exact lq)
  refine⟨_,by rw[li];exact lu,?_⟩
  have le:Touch m w b (w.setRow U (cells.toList.take off++(Act.eval ⟨T,ai.D cx⟩ y).cells.toList++cells.toList.drop (off+u.cells)).toArray):=
   ⟨jP _ _ _,fun k ly lv=>setRow_other _ _ _ _ (fun e=>lv (by rw[L,e];rfl))⟩
  obtain⟨lw,_⟩:=jC q h.keys (.cells (c.take off++aO++c.drop (off+u.cells)) e)
  obtain⟨Z,la⟩:=an.gw (cx:=cx) lm le lw
  refine h.cY q le (g:=U) L ⟨_,setRow_heap _ _ _ _ _ _ lc,?_⟩
  simp only[]
  have lx:ct w (ar cx m st.ids) m (Act.eval ⟨T,ai.D cx⟩ y).cells.toList aO:=by rw[Y];exact ld
  exact jX (jX (nI Z la (iw off W).1) (nI Z la lx)) (nI Z la (iw (off+u.cells) W).2)
def xG(E:Env)(st:af)(aa:Oper)(orc:List ak):Option (af×List ak×List Prop):=
 match aa.dst with
 |none=>match aa.op with
  |.store t x y=>match xM E.P E.n st t x y orc with
   |some r=>some r
   |none=>zG E.P st t x y orc
  |_=>none
 |some d=>match Nat.blt d E.n with
  |false=>none
  |true=>match o2 E.P st aa orc with
   |some r=>some (st.put d r.aO,r.orc,r.ob)
   |none=>match aa.op with
    |.call c=>match c.callee,c.args.toList with
     |.builtin .append,[.tmp a,_]=>match look st.ab a with
      |some (.sub b i)=>match wQ E.n st b i a d orc with
       |some (s,o,q)=>match nt E s aa o with
        |some (L,O,R)=>some (L,O,q++R)
        |none=>none
       |none=>none
      |_=>none
     |_,_=>none
    |_=>none
theorem uj:∀{a b:List Prop},bO (a++b)->bO a/\bO b
 |[],_,h=>⟨trivial,h⟩
 |_::_,_,⟨q,o⟩=>⟨⟨q,(uj o).1⟩,(uj o).2⟩
theorem Wf(h:an cx m st T w){t:TypeId}{x y:Operand}{orc orc':List ak}{ob:List Prop}(o:xM cx.P cx.n st t x y orc=some (st',orc',ob))(L:bO ob):
  ∃w' ay,(Instr.storeAt t (Act.eval ⟨T,ai.D cx⟩ x) (Act.eval ⟨T,ai.D cx⟩ y)).run cx.P w=.ok () w'/\an cx ay st' T w':=by
 unfold xM at o
 split at o
 ·rename_i b i off ld le lj z R U W
  split at o
  case h_2=>cases o
  rename_i e k xs a lf Y
  split at o
  case h_2=>cases o
  rename_i lg _ aK
  simp only[Bool.and_eq_true,Bool.or_eq_true]at aK
  obtain⟨⟨q,O⟩,la⟩:=aK
  split at o
  case h_2=>cases o
  rename_i lh lu Z lk
  split at o
  case h_2=>cases o
  rename_i lv ll
  cases o
  have q:=Nat.eq_of_beq_eq_true q
  subst q
  obtain rfl:=ag.eq_of_beq O
  obtain⟨w',lb,Z⟩:=Mb h Y R U W (la.elim (fun h=>.inl (Nat.le_of_ble_eq_true h)) fun h=>.inr (cK h)) Z lk ll L.1 L.2.1 L.2.2.1
  exact⟨w',m,lb,Z⟩
 ·rename_i b i j off ld le lj z R U W
  split at o
  case h_2=>cases o
  rename_i e k xs a c lf Y
  split at o
  case h_2=>cases o
  rename_i lg z0 _ _ aK
  simp only[Bool.and_eq_true]at aK
  obtain⟨q,O⟩:=aK
  split at o
  case h_2=>cases o
  rename_i lm lw lc ln
  split at o
  case h_2=>cases o
  rename_i lh lo
  cases o
  have q:=Nat.eq_of_beq_eq_true q
  subst q
  obtain rfl:=ag.eq_of_beq O
  obtain⟨w',lb,Z⟩:=P4 h Y R U W lc ln L.1 L.2.1 L.2.2.1 L.2.2.2.1
  exact⟨w',m,lb,Z⟩
 ·rename_i b i off ld le r R U W
  split at o
  case h_2=>cases o
  rename_i e k xs lx c a lf Y li
  split at o
  case h_2=>cases o
  rename_i lg lm _ aK lc
  simp only[Bool.and_eq_true,Bool.not_eq_true']at aK
  obtain⟨q,O,la,lp,lq⟩:=aK
  split at o
  case h_2=>cases o
  rename_i lh lo
  cases o
  have q:=Nat.eq_of_beq_eq_true q
  subst q
  have O:=Nat.eq_of_beq_eq_true O
  subst O
  obtain rfl:=ag.eq_of_beq la
  have lr:=Ax (Nat.eq_of_beq_eq_true lp) lc
  rw[lr]at li
  obtain⟨⟨ls,aZ,en,_⟩,fJ⟩:=uj L
  exact PW h Y li (beq_false lq) R U W ls aZ en (fun i0 lt=>by subst lt;exact fJ.1)
 ·cases o
theorem CJ(h:an cx m st T w){aa:Oper}{orc:List ak}{r:dw}(o:o2 cx.P st aa orc=some r)(le:bO r.ob):
  ∃v,(∀w',Ext w w'->(execOp (Act.eval ⟨T,ai.D cx⟩) aa).run cx.P w'=.ok (.value v) w')/\aS w (ar cx m st.ids) m v r.aO:=by
 have L:=h
 unfold o2 at o
 have fin:∀(v:Value) (aO:ao),(∀w',(execOp (Act.eval ⟨T,ai.D cx⟩) aa).run cx.P w'=.ok (.value v) w')->aS w (ar cx m st.ids) m v aO->aO=r.aO->∃v,(∀w',Ext w w'->(execOp (Act.eval ⟨T,ai.D cx⟩) aa).run cx.P w'=.ok (.value v) w')/\aS w (ar cx m st.ids) m v r.aO:=
  fun v aO lf lF lG=>⟨v,fun w' _=>lf w',lG▸lF⟩
 split at o
 ·rename_i t x i R
  split at o
  ·rename_i b n u O ln Z
   split at o
   case h_2=>cases o
   rename_i e k xs lH la
   cases aK:u.beq k.u with
   |false=>rw[aK]at o;cases o
   |true=>
    rw[aK]at o
    cases o
    obtain rfl:=ag.eq_of_beq aK
    obtain⟨lo,lf⟩:=le.1
    obtain⟨hd0,us,cells,Y,lb,lp,lI⟩:=L.bp la
    have lq:0<xs.length:=by omega
    obtain⟨g,cap,cur,q,_⟩:=ql lb lq
    subst q
    obtain⟨lJ,lr⟩:=be L O
    have U:Act.eval ⟨T,ai.D cx⟩ x=.slice (some ⟨g,0,none⟩) xs.length cap:=(jk (lr.symm.trans Y)).1
    obtain⟨lK,ls⟩:=fe L ln
    obtain⟨_,_,_,lc,d2,W,lg⟩:=da Z
    refine fin (.pointer (some ⟨g,n.toNat*k.u.cells+0,none⟩)) (.dM b n 0 k.u.cells) (fun w'=>cn (s:=Instr.indexAt t (Act.eval ⟨T,ai.D cx⟩ x) (Act.eval ⟨T,ai.D cx⟩ i)) (by simp only[execOp,R]) ?_) ⟨g,_,cap,us,Y,rfl⟩ rfl
    have lh:(⟨g,0,none⟩:Addr).add (n.toNat*k.u.cells)=⟨g,n.toNat*k.u.cells+0,none⟩:=by rw[gl];simp
    rw[U,ls]
    simp only[Instr.indexAt,asIntOf,Sem.run_bind,Sem.run_pure,Result.andThen_ok,run_underlying W]
    rw[if_pos ⟨lo,lf⟩]
    simp only[Sem.run_bind,eK lg,Result.andThen_ok,Sem.run_pure,lh]
  ·rename_i b i0 n u O ln Z
   split at o
   case h_2=>cases o
   rename_i e k xs a lL la
   split at o
   case h_2=>cases o
   rename_i lM _ aK
   split at o
   case h_2=>cases o
   rename_i ld lt
   cases o
   obtain rfl:=ag.eq_of_beq aK
   obtain⟨lo,lf⟩:=le.2.1
   obtain⟨g,cap,cur,us,lN,c,c2,lO,v,lP,f1,f2,f3,f4,f5,f6,f7,f8,f9,f10,f11,f12,f13,f14,f15⟩:=L.kp la (iW le.1)
   obtain⟨lQ,cells,li,lu,lR,lS⟩:=sQ f13
   rw[lt]at li
   cases li
   have lq:0<(eR ld).length:=by omega
   obtain⟨g2,lT,lY,q,_⟩:=ql lu lq
   obtain⟨ll,lz,t2,t3⟩:=be L O
   have U:Act.eval ⟨T,ai.D cx⟩ x=v:=by
    rw[f1]at t2
    rw[<-(jk t2).2,f10,<-f11]at t3
    simpa using t3.symm
   obtain⟨lK,ls⟩:=fe L ln
   obtain⟨_,_,_,lc,d2,W,lg⟩:=da Z
   refine fin (.pointer (some ⟨g2,n.toNat*k.t.cells+0,none⟩)) (.eV b i0 n 0 k.t.cells) (fun w'=>cn (s:=Instr.indexAt t (Act.eval ⟨T,ai.D cx⟩ x) (Act.eval ⟨T,ai.D cx⟩ i)) (by simp only[execOp,R]) ?_) ⟨ll,lz,g2,_,lT,t2,by rw[t3,U,q],rfl⟩ rfl
   have lh:(⟨g2,0,none⟩:Addr).add (n.toNat*k.t.cells)=⟨g2,n.toNat*k.t.cells+0,none⟩:=by rw[gl];simp
   rw[U,q,ls]
   simp only[Instr.indexAt,asIntOf,Sem.run_bind,Sem.run_pure,Result.andThen_ok,run_underlying W]
   rw[if_pos ⟨lo,lf⟩]
   simp only[Sem.run_bind,eK lg,Result.andThen_ok,Sem.run_pure,lh]
  ·cases o
 ·rename_i t x f R
  split at o
  ·rename_i b i off lj lk lU O lv
   cases o
   obtain⟨g,n,cap,us,Y,lb⟩:=be L O
   refine fin (.pointer (some ⟨g,i.toNat*lj+(off+lk),none⟩)) (.dM b i (off+lk) lj) (fun w'=>cn (s:=Instr.fieldAt t (Act.eval ⟨T,ai.D cx⟩ x) f) (by simp only[execOp,R]) ?_) ⟨g,n,cap,us,Y,rfl⟩ rfl
   rw[lb,k7 lv,gl,Nat.add_assoc]
  ·rename_i b i j off lj lk lU O lv
   cases o
   obtain⟨ll,us,g,n,cap,Y,lb,lp⟩:=be L O
   refine fin (.pointer (some ⟨g,j.toNat*lj+(off+lk),none⟩)) (.eV b i j (off+lk) lj) (fun w'=>cn (s:=Instr.fieldAt t (Act.eval ⟨T,ai.D cx⟩ x) f) (by simp only[execOp,R]) ?_) ⟨ll,us,g,n,cap,Y,lb,rfl⟩ rfl
   rw[lp,k7 lv,gl,Nat.add_assoc]
  ·cases o
 ·rename_i t x R
  split at o
  ·rename_i lZ lV
   cases o
   obtain⟨v,lw,q⟩:=Uw L lV le
   exact⟨v,fun w' lx=>cn (by simp only[execOp,R]) (lw w' lx),q⟩
  ·obtain⟨v,lw,q⟩:=Mf L o
   exact⟨v,fun w' lx=>cn (by simp only[execOp,R]) (lw w' lx),q⟩
 ·rename_i c R
  split at o
  ·rename_i x t lA lB lC
   obtain⟨l0,args,lD⟩:=c
   simp only at lA lB lC
   subst lA
   have lh:args=#[x]:=by rw[<-Array.toArray_toList (xs:=args),lB]
   have lW:lD=#[t]:=by rw[<-Array.toArray_toList (xs:=lD),lC]
   subst lh
   subst lW
   have lm:∀(a:Option Addr) (n cap:Nat) (lE:TypeId),Act.eval ⟨T,ai.D cx⟩ x=.slice a n cap->cx.P.underlying t=some (.slice lE)->∀w',(execOp (Act.eval ⟨T,ai.D cx⟩) aa).run cx.P w'=.ok (.value (.int .i64 (n:Int))) w':=by
    intro a n cap lE q lX w'
    simp only[execOp,R,resolve,invoke,builtin,Sem.run_bind,Sem.run_pure,Result.andThen_ok,List.map_toArray,List.map_cons,List.map_nil,q]
    simp[Builtin.len_,run_underlying lX,goInt]
   split at o
   ·rename_i b u O Z
    split at o
    case h_2=>cases o
    rename_i e k xs lH la
    cases o
    obtain⟨hd0,us,cells,Y,lb,lp,lI⟩:=L.bp la
    obtain⟨lJ,lr⟩:=be L O
    have U:Act.eval ⟨T,ai.D cx⟩ x=hd0:=(jk (lr.symm.trans Y)).1
    obtain⟨_,_,_,lc,d2,W,lg⟩:=da Z
    rcases lb.2 with ⟨q,ly⟩|⟨g,cap,cur,q,_⟩
    ·refine fin (.int .i64 (xs.length:Int)) (.val (.int .i64) (xs.length:Int)) ?_ (cV.2 rfl) rfl
     intro w'
     rw[ly]
     exact lm none 0 0 lc (by rw[U,q]) W w'
    ·exact fin (.int .i64 (xs.length:Int)) (.val (.int .i64) (xs.length:Int)) (lm _ _ _ lc (by rw[U,q]) W) (cV.2 rfl) rfl
   ·rename_i b i u O Z
    split at o
    case h_2=>cases o
    rename_i e k xs a lL la
    split at o
    case h_2=>cases o
    rename_i lM _
    split at o
    case h_2=>cases o
    rename_i ld lt
    cases o
    obtain⟨g,cap,cur,us,lN,c,c2,lO,v,lP,f1,f2,f3,f4,f5,f6,f7,f8,f9,f10,f11,f12,f13,f14,f15⟩:=L.kp la (iW le.1)
    obtain⟨lQ,cells,li,lu,lR,lS⟩:=sQ f13
    rw[lt]at li
    cases li
    obtain⟨ll,lz,t2,t3⟩:=be L O
    have U:Act.eval ⟨T,ai.D cx⟩ x=v:=by
     rw[f1]at t2
     rw[<-(jk t2).2,f10,<-f11]at t3
     simpa using t3.symm
    obtain⟨_,_,_,lc,d2,W,lg⟩:=da Z
    rcases lu.2 with ⟨q,ly⟩|⟨g,cap,cur,q,_⟩
    ·refine fin (.int .i64 ((eR ld).length:Int)) (.val (.int .i64) ((eR ld).length:Int)) ?_ (cV.2 rfl) rfl
     intro w'
     rw[show(eR ld).length=0 from ly]
     exact lm none 0 0 lc (by rw[U,q]) W w'
    ·exact fin (.int .i64 ((eR ld).length:Int)) (.val (.int .i64) ((eR ld).length:Int)) (lm _ _ _ lc (by rw[U,q]) W) (cV.2 rfl) rfl
   ·cases o
  ·cases o
 ·cases o
theorem Q5{E:Env}(q:bv E cx)(h:al cx st T w){aa:Oper}{orc:List ak}{st':af}{orc':List ak}{ob:List Prop}(o:xG E st aa orc=some (st',orc',ob))(R:bO ob)
  {K:Act->World->Prop}{Q:Exit->Act->World->Prop}(U:∀Y w',al cx st' Y w'->K ⟨Y,ai.D cx⟩ w'):aa.wp cx.P ⟨T,ai.D cx⟩ w K Q:=by
 obtain⟨m,O⟩:=h
 unfold xG at o
 split at o
 ·rename_i ah
  split at o
  case h_2=>cases o
  rename_i t x y Z
  rw[<-q.P,<-q.n]at o
  obtain⟨w',ay,W,lb⟩:∃w' ay,(Instr.storeAt t (Act.eval ⟨T,ai.D cx⟩ x) (Act.eval ⟨T,ai.D cx⟩ y)).run cx.P w=.ok () w'/\an cx ay st' T w':=by
   split at o
   ·rename_i r L
    cases o
    exact Wf O L R
   ·obtain⟨w',lc,ld⟩:=Wm O o
    exact⟨w',m,lc,ld⟩
  unfold Oper.wp
  have L:(execOp (Act.eval ⟨T,ai.D cx⟩) aa).run cx.P w=.ok .skip w':=by
   simp only[execOp,Z,Sem.run_bind,W,Result.andThen_ok,Sem.run_pure]
  rw[L]
  show K (Act.put ⟨T,ai.D cx⟩ aa.dst undef) w'
  rw[ah]
  exact U T w' ⟨ay,lb⟩
 ·rename_i d ah
  split at o
  case h_1=>cases o
  rename_i le
  have lf:d<cx.n:=by rw[q.n];exact cK le
  split at o
  ·rename_i r L
   cases o
   rw[<-q.P]at L
   obtain⟨v,W,lg⟩:=CJ O L R
   refine gg (W w (Ext.refl w)) ?_
   rw[ah]
   exact U _ _ ⟨m,O.put lf lg⟩
  split at o
  ·rename_i c Z
   split at o
   ·rename_i a y lm ln
    split at o
    case h_2=>cases o
    rename_i b i lh
    split at o
    case h_2=>cases o
    rename_i lo lp lq la
    split at o
    case h_2=>cases o
    rename_i lr ls lt li
    cases o
    obtain⟨lj,lk⟩:=uj R
    rw[<-q.n]at la
    obtain⟨ay,ll⟩:=R8 O lh la lj
    exact ra q ⟨ay,ll⟩ li lk U
   ·cases o
  ·cases o
end Go.Ev
namespace Go.Ev
open Go Go.RowKit
variable [b8]
variable {cx:bB} {m ay:Nat->Value} {st st':af} {T:Array Value} {w w':World}
variable [ai cx]
theorem Hu{M:Nat->Prop}{e:Nat}{t:ag}{v:Value}{cells:List Value}{xs:List t.el}(h:w.ownsRow 0 e t.cells v xs.length cells)(L:bM (aH w M t) cells xs)(O:∀g,aT v=some g->¬M g):aH w M (.ab t) [v] xs:=by
 rcases h.2 with ⟨o,R⟩|⟨g,cap,cur,o,_,Z,U,W,la,lb⟩
 ·have Y:xs=[]:=List.eq_nil_of_length_eq_zero R
  rw[Y,o]
  exact⟨none,0,[],rfl,Nat.le_refl _,by decide,fun _=>rfl,rfl,fun j u q=>by simp at q⟩
 ·exact⟨some ⟨g,0,none⟩,cap,cells,by rw[o],U,W,(fun e=>by cases e),L,fun j u q=>⟨_,rfl,h.cells (g:=g) (by rw[o];rfl) j u q,O g (by rw[o];rfl)⟩⟩
theorem ak.VK{t:ag}{a x y:t.el}(h:ak.as ⟨t,a⟩ t=some y):ak.as ⟨t,x⟩ t=some x:=by
 have q:t.beq t=true:=by
  unfold ak.as at h
  split at h
  ·assumption
  ·cases h
 unfold ak.as
 split
 ·rfl
 ·rename_i o;rw[q]at o;cases o
theorem N0:∀(t:ag) {x L:t.el} {off:Nat} {e:ag} {a O:List e.el},cp t x off ⟨.ab e,a⟩=some L->cI t x off (.ab e)=some O->cp t L off ⟨.ab e,O⟩=some x:=by
 intro t
 induction t with
 |ab t Y=>
  intro x L off e a O o R
  obtain⟨rfl,q⟩:=eL (t:=.ab t) o
  obtain⟨_,W⟩:=gI (t:=.ab t) R
  cases q
  cases W
  exact ak.VK (t:=.ab t) o
 |int k=>intro x L off e a O o;obtain⟨_,q⟩:=eL (t:=.int k) o;cases q
 |bool=>intro x L off e a O o;obtain⟨_,q⟩:=eL (t:=.bool) o;cases q
 |str=>intro x L off e a O o;obtain⟨_,q⟩:=eL (t:=.str) o;cases q
 |ptr t Y=>intro x L off e a O o;obtain⟨_,q⟩:=eL (t:=.ptr t) o;cases q
 |fn f t Y=>intro x L off e a O o;obtain⟨_,q⟩:=eL (t:=.fn f t) o;cases q
 |err=>intro x L off e a O o;obtain⟨_,q⟩:=eL (t:=.err) o;cases q
 |cy=>intro x L off e a O o;obtain⟨_,q⟩:=eL (t:=.cy) o;cases q
 |cL n t Y=>intro x L off e a O o;obtain⟨_,q⟩:=eL (t:=.cL n t) o;cases q
 |alt n t r _ _=>intro x L off e a O o;obtain⟨_,q⟩:=eL (t:=.alt n t r) o;cases q
 |map p lb _ _=>intro x L off e a O o;obtain⟨_,q⟩:=eL (t:=.map p lb) o;cases q
 |unit=>intro x L off e a O o;obtain⟨_,q⟩:=eL (t:=.unit) o;cases q
 |arr n t Y=>
  intro x L off e a O o R
  unfold cp at o⊢
  unfold cI at R
  split at o
  ·rename_i y Z U;have:=ak.dd U;cases this
  ·split at R
   ·rename_i y Z U;obtain⟨_,W⟩:=gI (t:=.arr n t) (off:=0) (by rw[show Nat.beq 0 0=true from rfl,cond_true];exact U);cases W
   split
   ·rename_i y Z U;have:=ak.dd U;cases this
   cases le:Nat.beq t.cells 0 with
   |true=>rw[le]at o;cases o
   |false=>
    rw[le,cond_false]at o R
    rw[cond_false]
    split at o
    ·rename_i z lc
     rw[lc]at R
     split at o
     ·rename_i ld lh
      cases o
      have li:=(List.getElem?_eq_some_iff.1 lc).1
      have lf:(List.set (show List t.el from x) (off/t.cells) ld)[off/t.cells]? =some ld:=by rw[List.getElem?_set_self li]
      simp only[]at R
      have:=Y lh R
      split
      ·rename_i z2 la
       have W:z2=ld:=by rw[lf]at la;cases la;rfl
       subst W
       rw[this]
       exact congrArg some ((List.set_set ..).trans (tH lc))
      ·rename_i la
       rw[lf]at la
       cases la
     ·cases o
    ·cases o
 |pair p lb lj lk=>
  intro x L off e a O o R
  unfold cp at o⊢
  unfold cI at R
  split at o
  ·rename_i y Z U;have:=ak.dd U;cases this
  ·split at R
   ·rename_i y Z U;obtain⟨_,W⟩:=gI (t:=.pair p lb) (off:=0) (by rw[show Nat.beq 0 0=true from rfl,cond_true];exact U);cases W
   split
   ·rename_i y Z U;have:=ak.dd U;cases this
   cases lg:Nat.blt off p.cells with
   |true=>
    rw[lg,cond_true]at o R
    rw[cond_true]
    split at o
    ·rename_i y U
     cases o
     rw[lj U R]
     rfl
    ·cases o
   |false=>
    rw[lg,cond_false]at o R
    rw[cond_false]
    split at o
    ·rename_i y U
     cases o
     rw[lk U R]
     rfl
    ·cases o
theorem FG{M M':Nat->Prop}{k:dR}(o:∀b,b<w.heap.size->M' b->M b):∀{xs:List k.u.el} {n:Nat} {cs us:List Value},(∀u,u∈us->∀g,aT u=some g->¬M' g)->fl w M k none n xs cs us->bM (aH w M' k.u) cs xs
 |[],_,cs,us,_,⟨h,_⟩=>h
 |x::xs,n,cs,us,L,⟨c,d,v,vs,R,lh,U,W,Y⟩=>by
  subst U
  refine⟨c,d,R,?_,FG o (fun u Z=>L u (List.mem_cons_of_mem _ Z)) Y⟩
  obtain⟨li,v1,lj,la,lk,ll,lb,lc,lm,ld⟩:=W
  obtain⟨rfl,O,cells,le,bW,dJ⟩:=ld fun⟨_,h,_⟩=>by cases h
  have lf:aH w M' (.ab k.t) [v] O:=Hu bW (di (fun _ _=>cC (fun _ _ _=>rfl) o k.t) dJ) (L v List.mem_cons_self)
  obtain⟨q,c2,c3,lg,a2,a3,a4⟩:=pb (v:=⟨.ab k.t,O⟩) lf k.u (cC (fun _ _ _=>rfl) o k.u lc) (N0 k.u lb le)
  obtain⟨z,rfl⟩:=List.length_eq_one_iff.1 (show c2.length=1 from a3)
  rw[la,lg,<-a2]
  have:(q++[z]++c3).set q.length v=q++[v]++c3:=by simp
  rw[this]
  exact a4
def ao.QN(b:Nat)(k:dR)(xs:List k.u.el):ao->ao
 |.osl c=>bif Nat.beq c b then .val (.ab k.u) xs else .osl c
 |s=>s.dI [b]
def af.mA(st:af)(b:Nat)(k:dR)(xs:List k.u.el):af:=st.dH [b] [] [] (ao.QN b k xs)
theorem an.mA(h:an cx m st T w){b e:Nat}{k:dR}{xs:List k.u.el}(R:look st.ad b=some (.bp e k xs none)):an cx m (st.mA b k xs) T w:=by
 obtain⟨ah,us,cells,L,Z,la,ll⟩:=h.bp R
 have U:b∈st.ids:=List.mem_append.2 (.inl (List.mem_map.2 ⟨_,a8 R,rfl⟩))
 have X:gS cx m m st w w [b] [] []:=⟨⟨rfl,rfl,rfl,Nat.le_refl _,fun _=>Nat.le_refl _⟩,fun _ _ _=>rfl,fun _ _ _=>rfl,fun i o=>(by rcases o with o|o<;>cases o),fun i j o=>(by rcases o with o|o<;>cases o),List.nodup_nil,fun i o=>(by rcases o with o|o<;>cases o),fun _ _ o _=>(by cases o),fun _ _ o=>(by cases o)⟩
 have W:∀g,own (m b) g->¬ar cx m (st.mA b k xs).ids g:=by
  rintro g q (lb|⟨i,o,lc⟩)
  ·have ld:=h.outer g lb
   rcases(h.lt U q).2 with Y|Y
   ·omega
   ·exact ld.2 Y
  ·rcases ow.1 o with (o|o)|⟨o,le⟩
   ·cases o
   ·cases o
   ·exact h.apart i b o U (fun e=>le (by rw[e];exact List.mem_singleton.2 rfl)) g lc q
 refine h.Cy X (fun v s O=>?_) (fun _ _ o=>(by cases o)) (fun _ _ o=>(by cases o))
 have lf:aS w (ar cx m (st.mA b k xs).ids) m v (s.dI [b]):=mL (fun _ _=>rfl) O
 cases s with
 |osl c=>
  show aS _ _ _ _ (bif Nat.beq c b then .val (.ab k.u) xs else .osl c)
  cases lg:Nat.beq c b with
  |false=>exact O
  |true=>
   have e:=Nat.eq_of_beq_eq_true lg
   subst e
   obtain⟨lm,lh⟩:=O
   have li:=(jk (lh.symm.trans L)).1
   subst li
   refine Hu Z (FG (fun _ _ lj=>X.mut _ ‹_› lj) (fun u lk g q=>W g ?_) la) fun g q=>W g ?_
   ·rw[L];exact dg.2 (.inr ⟨u,lk,q⟩)
   ·rw[L];exact dg.2 (.inl q)
 |_=>exact lf
def uA:af->List Operand->af
 |st,[]=>st
 |st,x::l=>uA (match aR st x with
  |some (.osl b)=>match look st.ad b with
   |some (.bp _ k xs none)=>st.mA b k xs
   |_=>st
  |_=>st) l
theorem Gc:∀{l:List Operand} {st:af},an cx m st T w->an cx m (uA st l) T w
 |[],_,h=>h
 |x::l,st,h=>by
  refine Gc (l:=l) ?_
  split
  ·split
   ·rename_i o;exact h.mA o
   ·exact h
  ·exact h
def D4:List (Nat×bT)->af->af
 |[],st=>st
 |(b,_)::l,st=>D4 l (match look st.ad b with|some (.bp _ k xs none)=>st.mA b k xs|_=>st)
theorem yR:∀{l:List (Nat×bT)} {st:af},an cx m st T w->an cx m (D4 l st) T w
 |[],_,h=>h
 |(b,c)::l,st,h=>by
  refine yR (l:=l) ?_
  split
  ·rename_i o;exact h.mA o
  ·exact h
def nq(off:Nat)(t:ag):Nat->List bV->Option (List ao)
 |_,[]=>some []
 |n,.v u::l=>match nq off t (n+1) l with
  |some r=>some (.val u.t u.x::r)
  |none=>none
 |n,.r _::l=>match Nat.beq n off,nq off t (n+1) l with
  |true,some r=>some (.val (.ab t) []::r)
  |_,_=>none
 |_,_=>none
theorem Ae{M:Nat->Prop}{off b:Nat}{t:ag}:∀{n:Nat} {cs:List Value} {l:List bV} {r:List ao},nq off t n l=some r->cX w M m cs l->
  (n<=off->l[off-n]? =some (.r b)->ct w M m (cs.set (off-n) (.slice none 0 0)) r)/\(off<n->ct w M m cs r)
 |n,[],[],r,h,_=>by cases h;exact⟨fun _ h=>by simp at h,fun _=>trivial⟩
 |n,[],x::_,_,_,h=>by cases x<;>exact h.elim
 |n,_::_,[],_,_,h=>h.elim
 |n,c::cs,.v u::l,r,h,⟨o,q⟩=>by
  unfold nq at h
  split at h
  ·rename_i Y L
   cases h
   obtain⟨W,O⟩:=Ae (b:=b) L q
   refine⟨fun R U=>?_,fun R=>⟨o,O (by omega)⟩⟩
   by_cases Z:n=off
   ·subst Z;simp at U
   ·have e:off-n=(off-(n+1))+1:=by omega
    rw[e]at U⊢
    exact⟨o,W (by omega) (by simpa using U)⟩
  ·cases h
 |n,c::cs,.r lc::l,r,h,⟨o,q⟩=>by
  unfold nq at h
  split at h
  ·rename_i Y la L
   cases h
   have e:=Nat.eq_of_beq_eq_true la
   subst e
   obtain⟨W,O⟩:=Ae (b:=b) L q
   refine⟨fun _ _=>?_,fun R=>absurd R (Nat.lt_irrefl _)⟩
   rw[Nat.sub_self]
   exact⟨(bD (t:=.ab t) rfl).2 ⟨none,0,[],rfl,Nat.le_refl _,by decide,fun _=>rfl,rfl,fun j v lb=>by simp at lb⟩,O (Nat.lt_succ_self _)⟩
  ·cases h
 |n,_::_,.a::_,_,h,_=>by cases h
theorem IX{M:Nat->Prop}:∀{cs:List Value} {l:List bV} {i b:Nat},cX w M m cs l->l[i]? =some (.r b)->cs[i]? =some (m b)
 |[],[],i,b,_,h=>by simp at h
 |[],x::_,_,_,h,_=>by cases x<;>exact h.elim
 |_::_,[],_,_,h,_=>h.elim
 |c::cs,x::l,0,b,h,o=>by
  simp at o
  subst o
  rw[h.1]
  rfl
 |c::cs,x::l,i+1,b,h,o=>by
  have q:cX w M m cs l:=by cases x with
   |v u=>exact h.2
   |r r=>exact h.2
   |a=>exact h
  have:=IX (i:=i) q (by simpa using o)
  simpa using this
end Go.Ev
namespace Go.Ev
open Go Go.RowKit
variable [b8]
variable {cx:bB} {m ay:Nat->Value} {st st':af} {T:Array Value} {w w':World}
variable [ai cx]
def D8(P:Program)(st:af)(aa:Oper)(d:Nat):Option (af×List Prop):=
 match aa.op with
 |.buildSlice t n ps=>match ps.toList,n with
  |[(0,x)],1=>match aR st x,dO P t with
   |some (.eO l),some (e,u)=>match nz P e,zeroOf P e with
    |some k,some _=>match l[k.off]?,nq k.off k.t 0 l,u.beq k.u&&Nat.ble u.cells 16777216 with
     |some (.r r),some O,true=>match look st.rw r,pack k.u O with
      |some c,some (q,[])=>match ak.as ⟨.ab c.t,c.xs⟩ (.ab k.t),Nat.beq c.e k.e with
       |some L,true=>match cp k.u q k.off ⟨.ab k.t,L⟩with
        |some o=>some ((st.dH [d,r] [(d,.bp e k [o] none)] [] (ao.dI [d,r])).put d (.osl d),[cp k.u o k.off ⟨.ab k.t,[]⟩=some q,cI k.u o k.off (.ab k.t)=some L])
        |none=>none
       |_,_=>none
      |_,_=>none
     |_,_,_=>none
    |_,_=>none
   |_,_=>none
  |_,_=>none
 |_=>none
theorem SE(h:an cx m st T w){aa:Oper}{d:Nat}(ah:d<cx.n){ob:List Prop}(o:D8 cx.P st aa d=some (st',ob))(lu:bO ob):
  ∃v w' ay,(execOp (Act.eval ⟨T,ai.D cx⟩) aa).run cx.P w=.ok (.value v) w'/\an cx ay st' (T.setIfInBounds d v) w':=by
 unfold D8 at o
 split at o
 case h_2=>cases o
 rename_i t n ps lv
 split at o
 case h_2=>cases o
 rename_i x lw
 split at o
 case h_2=>cases o
 rename_i l e u lx ly
 split at o
 case h_2=>cases o
 rename_i k l5 q lz
 split at o
 case h_2=>cases o
 rename_i r l6 lf lA aK
 split at o
 case h_2=>cases o
 rename_i c lB Y lC
 split at o
 case h_2=>cases o
 rename_i lD lE lF
 split at o
 case h_2=>cases o
 rename_i lg l7
 cases o
 simp only[Bool.and_eq_true]at aK
 obtain rfl:=ag.eq_of_beq aK.1
 have l8:=Nat.le_of_ble_eq_true aK.2
 obtain⟨lG,lH,_⟩:=lu
 have lI:=Ax (Nat.eq_of_beq_eq_true lF) lE
 subst lI
 obtain⟨vs,lJ,lh⟩:=be h lx
 have li:=IX lh lf
 have lj:=(Ae (b:=r) lA lh).1 (Nat.zero_le _) lf
 rw[Nat.sub_zero]at lj
 obtain⟨l9,c2,lk,ll,Z⟩:=oP k.u lj lC
 have Z:c2=[]:=List.eq_nil_of_length_eq_zero (kz Z)
 subst Z
 rw[List.append_nil]at lk
 subst lk
 have O:vs.length=k.u.cells:=by rw[<-cf k.u ll,List.length_set]
 obtain⟨cells,lK,ab,lL⟩:=h.rows r _ (a8 Y)
 have lm:r∈st.ids:=List.mem_append.2 (.inr (List.mem_map.2 ⟨_,a8 Y,rfl⟩))
 have lM:=row_one h (a8 Y)
 obtain⟨la,lN,ad⟩:=iM ly
 obtain⟨ae,lO,_,lP,_,lQ,af⟩:=iV lz
 -- the run
 have lR:(execOp (Act.eval ⟨T,ai.D cx⟩) aa).run cx.P w=.ok (.value (.slice (some ⟨w.heap.size,0,none⟩) 1 1)) (w.alloc (.cells vs.toArray e)):=by
  refine cn (s:=Instr.buildSlice t 1 (ps.map fun p=>(p.1,Act.eval ⟨T,ai.D cx⟩ p.2))) (by simp only[execOp,lv]) ?_
  have lS:¬(1*k.u.cells>2^24):=by omega
  have lT:¬(1*k.u.cells=0):=by omega
  have lU:(zeroValue e).run cx.P w=.ok lO w:=by simp[zeroValue,typeInfo,lP,lQ]
  have lV:(ps.map fun p=>(p.1,Act.eval ⟨T,ai.D cx⟩ p.2)).toList=[(0,Value.agg vs.toArray)]:=by rw[Array.toList_map,lw];simp[lJ]
  have lW:∀z:Array Value,z.size=k.u.cells->Instr.fill (fun i=>some (i*k.u.cells,k.u.cells)) z [(0,Value.agg vs.toArray)]=some vs.toArray:=by
   intro z ln
   rw[Instr.fill]
   simp only[]
   have lX:(Value.agg vs.toArray).cells=vs.toArray:=rfl
   rw[lX,if_neg (by simp[O,ln]),Instr.fill]
   have:=uX vs [] [] z.toList (by rw[Array.length_toList,ln,O])
   simp at this
   simp[this]
  simp only[Instr.buildSlice,Sem.run_bind,run_underlying la,Result.andThen_ok,eK lN,if_neg lS,if_neg lT,lU,Sem.run_pure,lV]
  rw[lW _ (by simp)]
  simp only[Sem.run_bind,Sem.run_pure,Result.andThen_ok,newRow,run_newObj_alloc]
 have lY:(w.alloc (.cells vs.toArray e)).ownsRow 0 e k.u.cells (.slice (some ⟨w.heap.size,0,none⟩) 1 1) [lg].length vs:=
  ⟨by simp[O],.inr ⟨w.heap.size,1,vs.toArray,rfl,Nat.zero_le _,heap_alloc_new w _,Nat.le_refl _,by decide,by simp[O],by simp[<-O]⟩⟩
 obtain⟨v2,U⟩:∃v2,v2=Value.tuple (.slice (some ⟨w.heap.size,0,none⟩) 1 1::[m r]).toArray:=⟨_,rfl⟩
 have lb:Ext w (w.alloc (.cells vs.toArray e)):=hY _ _
 have lo:∀b,aT (m r)=some b->b<w.heap.size:=fun b lc=>(h.lt lm (gi lc)).1
 have X:gS cx m (bx m d v2) st w (w.alloc (.cells vs.toArray e)) [d,r] [(d,.bp e k [lg] none)] []:={
  same:=lb.toSame
  block:=fun lp q _=>lb.block lp q
  old:=fun j _ L=>cR _ _ fun e=>L (by simp[e])
  new:=fun j L lp q=>by
   have:j=d:=by simpa using L
   subst this
   rw[cd,U]at q
   rcases dg.1 q with q|⟨u,la,q⟩
   ·cases q;exact .inr ⟨Nat.le_refl _,by simp⟩
   ·have:u=m r:=by simpa using la
    subst this
    exact .inl ⟨r,by simp,lm,gi q⟩
  apart:=fun j lZ L l0 aj=>by
   have:j=d:=by simpa using L
   have:lZ=d:=by simpa using l0
   omega
  keys:=by simp
  mu:=fun j L _=>by
   have:j=d:=by simpa using L
   simp[this]
  mh:=fun lq c' R W=>by simp at R;rw[R.2]at W;cases W
  fb:=fun l3 c' ld=>by cases ld}
 refine⟨_,_,bx m d v2,lR,(h.dH X (fun M v s l4=>mL (fun j L=>cR _ _ fun e=>L (by simp[e])) l4) (fun lq c' R=>?_) (fun l3 c' ld=>by cases ld)).put ah ⟨[m r],by rw[cd,U]⟩⟩
 simp only[List.mem_cons,Prod.mk.injEq,List.not_mem_nil,or_false]at R
 obtain⟨rfl,rfl⟩:=R
 rw[cd]
 have lr:=X.mut (f:=ao.dI [lq,r])
 have ls:=X.keeps
 refine⟨0,⟨_,_,U⟩,_,[m r],vs,U,lY,⟨vs,[],m r,[],by simp,O,rfl,?_,rfl,rfl⟩,?_⟩
 ·refine⟨vs.set k.off (.slice none 0 0),m r,lB,?_,?_,lM,lG,cC ls lr k.u ll,(fun⟨_,W,_⟩=>by cases W),fun _=>⟨rfl,lD,cells,lH,oZ lK fun b lc=>lb.block b (lo b lc),di (fun _ _=>cC ls lr k.t) lL⟩⟩
  ·rw[List.set_set,tH li]
  ·rw[List.getElem?_set_self (List.getElem?_eq_some_iff.1 li).1]
 ·have lt:aT (Value.slice (some ⟨w.heap.size,0,none⟩) 1 1)=some w.heap.size:=rfl
  cases le:aT (m r)with
  |none=>rw[List.filterMap_cons_some lt,List.filterMap_cons_none le];exact List.nodup_cons.2 ⟨by simp,List.nodup_nil⟩
  |some b=>
   have:=lo b le
   rw[List.filterMap_cons_some lt,List.filterMap_cons_some le]
   exact List.nodup_cons.2 ⟨by simp;omega,List.nodup_cons.2 ⟨by simp,List.nodup_nil⟩⟩
def zk(k o:dR):Bool:=o.u.beq k.u&&(Nat.beq o.off k.off&&(Nat.beq o.e k.e&&o.t.beq k.t))
theorem UN{k o:dR}(h:zk k o=true):o=k:=by
 obtain⟨u,off,e,t⟩:=k
 obtain⟨U,W,Y,t2⟩:=o
 simp only[zk,Bool.and_eq_true]at h
 obtain⟨q,L,O,R⟩:=h
 obtain rfl:=ag.eq_of_beq q
 obtain rfl:=ag.eq_of_beq R
 rw[Nat.eq_of_beq_eq_true L,Nat.eq_of_beq_eq_true O]
theorem Gh{n:Nat}:¬gX none n:=fun⟨_,h,_⟩=>by cases h
theorem GZ{M:Nat->Prop}{k:dR}:∀{xs o:List k.u.el} {n q:Nat} {cs L us O:List Value},fl w M k none n xs cs us->fl w M k none q o L O->fl w M k none n (xs++o) (cs++L) (us++O)
 |[],o,n,q,cs,L,us,O,⟨lb,lc⟩,R=>by
  subst lb
  subst lc
  have key:∀{o:List k.u.el} {n q:Nat} {cs us:List Value},fl w M k none q o cs us->fl w M k none n o cs us:=by
   intro o
   induction o with
   |nil=>intro n q cs us h;exact h
   |cons y o ld=>
    rintro n q cs us ⟨c,d,v,vs,U,W,Y,Z,la⟩
    exact⟨c,d,v,vs,U,W,Y,vZ (fun _ _ _=>rfl) (fun _ _ h=>h) ⟨fun h=>absurd h Gh,fun h=>absurd h Gh⟩ (fun _ _=>rfl) Z,ld la⟩
  exact key R
 |x::xs,o,n,q,cs,L,us,O,⟨c,d,v,vs,U,W,Y,Z,la⟩,R=>by
  subst U
  subst Y
  exact⟨c,d++L,v,vs++O,by simp,W,rfl,Z,GZ la R⟩
theorem I1{M:Nat->Prop}{k:dR}:∀{xs:List k.u.el} {n:Nat} {cs us:List Value},fl w M k none n xs cs us->∀v∈cs,v.oneCell'=true
 |[],n,cs,us,⟨h,_⟩,v,o=>by subst h;cases o
 |x::xs,n,cs,us,⟨c,d,u,vs,q,Y,Z,L,O⟩,v,o=>by
  subst q
  rcases List.mem_append.1 o with o|o
  ·obtain⟨la,v1,lb,R,lc,U,ld,W,_⟩:=L
   rw[R]at o
   rcases List.mem_or_eq_of_mem_set o with o|rfl
   ·exact gy k.u W v o
   ·exact U
  ·exact I1 O v o
def yQ(P:Program)(st:af)(c:Call)(d:Nat):Option (af×List Prop):=
 match c.callee,c.args.toList,c.argTypes.toList with
 |.builtin .append,[.tmp a,y],[t,O]=>match look st.ab a,aR st y with
  |some (.osl b),some (.osl o)=>match look st.ad b,look st.ad o,dO P t,dO P O with
   |some (.bp e k xs none),some (.bp R q U none),some (W,u),some _=>match zk k q&&(Nat.beq e R&&(Nat.beq e W&&(u.beq k.u&&(!(Nat.beq b o)&&mw P e)))),ak.as ⟨.ab q.u,U⟩ (.ab k.u),zeroOf P e with
    |true,some L,some Y=>match Y.beq k.u with
     |true=>some ((st.dH [b,o] [(b,.bp e k (xs++eR L) none)] [] (ao.dI [b,o])).put d (.osl b),[xs.length+(eR L).length<=br])
     |false=>none
    |_,_,_=>none
   |_,_,_,_=>none
  |_,_=>none
 |_,_,_=>none
theorem Q9(h:an cx m st T w){aa:Oper}{c:Call}{d:Nat}(lS:aa.op=.call c)(ah:d<cx.n){ob:List Prop}(O:yQ cx.P st c d=some (st',ob))(ll:bO ob):
  ∃v w' ay,(execOp (Act.eval ⟨T,ai.D cx⟩) aa).run cx.P w=.ok (.value v) w'/\an cx ay st' (T.setIfInBounds d v) w':=by
 unfold yQ at O
 split at O
 case h_2=>cases O
 rename_i a y t lB lC lD lE
 split at O
 case h_2=>cases O
 rename_i b la lT lU
 split at O
 case h_2=>cases O
 rename_i e k xs aO lF R aP u lV lG lH lW lX
 split at O
 case h_2=>cases O
 rename_i aQ aR aK lY lZ
 split at O
 case h_2=>cases O
 rename_i l0
 cases O
 simp only[Bool.and_eq_true,Bool.not_eq_true']at aK
 obtain⟨ls,lt,lu,l3,l4,l5⟩:=aK
 have ls:=UN ls
 subst ls
 have l6:=ak.dd lY
 cases l6
 have lt:=Nat.eq_of_beq_eq_true lt
 subst lt
 have lu:=Nat.eq_of_beq_eq_true lu
 subst lu
 obtain rfl:=ag.eq_of_beq l3
 obtain rfl:=ag.eq_of_beq l0
 have lI:=beq_false l4
 have ll:=ll.1
 obtain⟨hu,aS,aU⟩:=iM lW
 obtain⟨aV,aW⟩:=lV
 obtain⟨l7,_,_⟩:=iM lX
 obtain⟨i,z,_,lJ,le,l8,l9⟩:=iV lZ
 obtain⟨i2,lK,ab⟩:=uY l5
 rw[lJ]at lK
 cases lK
 obtain⟨ld,us,cells,lv,a2,a3,a4⟩:=h.bp lG
 obtain⟨lf,Y,lm,lL,ln,lo,lp⟩:=h.bp lH
 have lb:b∈st.ids:=List.mem_append.2 (.inl (List.mem_map.2 ⟨_,a8 lG,rfl⟩))
 have lg:la∈st.ids:=List.mem_append.2 (.inl (List.mem_map.2 ⟨_,a8 lH,rfl⟩))
 have ad:Act.eval ⟨T,ai.D cx⟩ (.tmp a)=ld:=by
  obtain⟨v,t1,ae,t2⟩:=h.cJ a _ (a8 lT)
  rw[Jl t1]
  exact(jk (t2.symm.trans lv)).1
 have af:Act.eval ⟨T,ai.D cx⟩ y=lf:=by
  obtain⟨ae,t2⟩:=be h lU
  exact(jk (t2.symm.trans lL)).1
 have aj:z.cells.size=i.size:=by rw[le,<-cf lF.u (l9 w (ar cx m st.ids))];simp
 have al:=(BJ lo).2
 have am:xs.length+R.length<=maxLen:=Nat.le_trans ll qc
 have ap:(xs.length+R.length)*i.bytes<=140737488355328:=by
  have L:xs.length+R.length<=2147483648:=ll
  calc (xs.length+R.length)*i.bytes<=2147483648*65536:=Nat.mul_le_mul L ab
   _=140737488355328:=by decide
 have aq:Builtin.lenOf lf=pure R.length:=by
  rcases ln.2 with ⟨Z,lh⟩|⟨g,cap,cur,Z,_⟩
  ·rw[Z,lh];rfl
  ·rw[Z];rfl
 have au:∀w',(∀b,b<w.heap.size->w'.heap[b]? =w.heap[b]?)->(Builtin.firstCells i.size R.length lf).run cx.P w'=.ok lm.toArray w':=by
  intro w' av
  rw[le]
  rcases ln.2 with ⟨Z,lh⟩|⟨g,cap,cur,Z,_⟩
  ·have aw:R=[]:=List.eq_nil_of_length_eq_zero lh
   subst aw
   have:lm=[]:=lo.1
   subst this
   rw[Z];rfl
  ·rw[Z]
   exact zi (ln.cells (g:=g) (by rw[Z];rfl)) ln.1 w' av
 obtain⟨v',w',ax,az,aA,lw,lM⟩:=Lr (P:=cx.P) (w:=w) t lB aa.type e i z hu (.inl ⟨_,l7⟩) lJ l8 aj lf R.length lm aq au (by rw[le];exact al) (I1 lo) ld xs.length cells (by rw[le];exact a2) am ap
 have aB:(execOp (Act.eval ⟨T,ai.D cx⟩) aa).run cx.P w=.ok (.value v') w':=by
  obtain⟨aX,args,lN⟩:=c
  simp only at lC lD lE
  subst lC
  have aC:args=#[.tmp a,y]:=by rw[<-Array.toArray_toList (xs:=args),lD]
  have aD:lN=#[t,lB]:=by rw[<-Array.toArray_toList (xs:=lN),lE]
  subst aC
  subst aD
  simp only[execOp,lS,resolve,invoke,builtin,Sem.run_bind,Sem.run_pure,Result.andThen_ok,List.map_toArray,List.map_cons,List.map_nil,ad,af]
  simp only[ax,Sem.run_bind,Sem.run_pure,Result.andThen_ok]
 have lq:∀u,u∈us->∀g,aT u=some g->own (m b) g:=fun u hu g o=>by rw[lv];exact dg.2 (.inr ⟨u,hu,o⟩)
 have li:∀u,u∈Y->∀g,aT u=some g->own (m la) g:=fun u hu g o=>by rw[lL];exact dg.2 (.inr ⟨u,hu,o⟩)
 have lx:∀g,aT ld=some g->own (m b) g:=fun g o=>by rw[lv];exact dg.2 (.inl o)
 have lO:∀u,u∈us->∀g,aT u=some g->aT ld≠some g:=by
  intro u hu g o q
  rw[List.filterMap_cons_some q]at a4
  exact(List.nodup_cons.1 a4).1 (List.mem_filterMap.2 ⟨u,hu,o⟩)
 have lP:∀u,u∈Y->∀g,aT u=some g->aT ld≠some g:=fun u hu g o q=>h.apart b la lb lg lI g (lx g q) (li u hu g o)
 have ly:∀u,u∈us\/u∈Y->∀g,aT u=some g->g<w.heap.size/\w'.heap[g]? =w.heap[g]? :=by
  rintro u (hu|hu) g o
  ·exact⟨(h.lt lb (lq u hu g o)).1,lw g (h.lt lb (lq u hu g o)).1 (lO u hu g o)⟩
  ·exact⟨(h.lt lg (li u hu g o)).1,lw g (h.lt lg (li u hu g o)).1 (lP u hu g o)⟩
 obtain⟨v2,lr⟩:∃v2,v2=Value.tuple (v'::(us++Y)).toArray:=⟨_,rfl⟩
 have X:gS cx m (bx m b v2) st w w' [b,la] [(b,.bp e lF (xs++R) none)] []:={
  same:=aA
  block:=fun lc U lh=>lw lc U fun q=>lh b (by simp) lb (lx lc q)
  old:=fun j _ W=>cR _ _ fun e=>W (by simp[e])
  new:=fun j W lc U=>by
   have:j=b:=by simpa using W
   subst this
   rw[cd,lr]at U
   rcases dg.1 U with U|⟨u,hu,U⟩
   ·rcases lM lc U with L|L
    ·exact .inl ⟨j,by simp,lb,lx lc L⟩
    ·exact .inr L
   ·rcases List.mem_append.1 hu with hu|hu
    ·exact .inl ⟨j,by simp,lb,lq u hu lc U⟩
    ·exact .inl ⟨la,by simp,lg,li u hu lc U⟩
  apart:=fun j aE W aF aY=>by
   have:j=b:=by simpa using W
   have:aE=b:=by simpa using aF
   omega
  keys:=by simp
  mu:=fun j W _=>by
   have:j=b:=by simpa using W
   simp[this]
  mh:=fun lz c' lj L=>by simp at lj;rw[lj.2]at L;cases L
  fb:=fun aG c' lA=>by cases lA}
 refine⟨_,_,bx m b v2,aB,(h.dH X (fun M v s aH=>mL (fun j W=>cR _ _ fun e=>W (by simp[e])) aH) (fun lz c' lj=>?_) (fun aG c' lA=>by cases lA)).put ah ⟨us++Y,by rw[cd,lr]⟩⟩
 simp only[List.mem_cons,Prod.mk.injEq,List.not_mem_nil,or_false]at lj
 obtain⟨rfl,rfl⟩:=lj
 rw[cd]
 have lQ:=X.mut (f:=ao.dI [lz,la])
 have lR:=X.keeps
 refine⟨0,⟨_,_,lr⟩,v',us++Y,cells++lm,lr,by rw[List.length_append,<-le];exact az,?_,?_⟩
 ·exact GZ (qL lR lQ (fun _ _=>Iff.rfl) (fun u hu g o=>(ly u (.inl hu) g o).2) a3) (qL lR lQ (fun _ _=>Iff.rfl) (fun u hu g o=>(ly u (.inr hu) g o).2) lo)
 ·have aI:(us.filterMap aT).Nodup:=by
   cases q:aT ld with
   |none=>rw[List.filterMap_cons_none q]at a4;exact a4
   |some g=>rw[List.filterMap_cons_some q]at a4;exact(List.nodup_cons.1 a4).2
  have aJ:(Y.filterMap aT).Nodup:=by
   cases q:aT lf with
   |none=>rw[List.filterMap_cons_none q]at lp;exact lp
   |some g=>rw[List.filterMap_cons_some q]at lp;exact(List.nodup_cons.1 lp).2
  have n3:((us++Y).filterMap aT).Nodup:=by
   rw[List.filterMap_append,List.nodup_append]
   refine⟨aI,aJ,fun g o aZ aL e=>?_⟩
   subst e
   obtain⟨u,hu,L⟩:=List.mem_filterMap.1 o
   obtain⟨aM,aN,lk⟩:=List.mem_filterMap.1 aL
   exact h.apart lz la lb lg lI g (lq u hu g L) (li aM aN g lk)
  cases q:aT v' with
  |none=>rw[List.filterMap_cons_none q];exact n3
  |some g=>
   rw[List.filterMap_cons_some q]
   refine List.nodup_cons.2 ⟨fun o=>?_,n3⟩
   obtain⟨u,hu,L⟩:=List.mem_filterMap.1 o
   have hu:=List.mem_append.1 hu
   rcases lM g q with lk|lk
   ·rcases hu with hu|hu
    ·exact lO u hu g L lk
    ·exact lP u hu g L lk
   ·have:=(ly u hu g L).1
    omega
def yd(E:Env)(st:af)(aa:Oper)(orc:List ak):Option (af×List ak×List Prop):=
 match aa.dst with
 |some d=>match Nat.blt d E.n with
  |true=>match aa.op with
   |.call c=>match yQ E.P st c d with
    |some (s,ob)=>some (s,orc,ob)
    |none=>none
   |_=>match D8 E.P st aa d with
    |some (s,ob)=>some (s,orc,ob)
    |none=>none
  |false=>none
 |none=>none
theorem Nc{E:Env}(U:bv E cx)(h:al cx st T w){aa:Oper}{orc:List ak}{st':af}{orc':List ak}{ob:List Prop}(o:yd E st aa orc=some (st',orc',ob))(W:bO ob)
  {K:Act->World->Prop}{Q:Exit->Act->World->Prop}(la:∀Y w',al cx st' Y w'->K ⟨Y,ai.D cx⟩ w'):aa.wp cx.P ⟨T,ai.D cx⟩ w K Q:=by
 obtain⟨m,Z⟩:=h
 unfold yd at o
 split at o
 case h_2=>cases o
 rename_i d ah
 split at o
 case h_2=>cases o
 rename_i q
 have q:d<cx.n:=by rw[U.n];exact cK q
 rw[<-U.P]at o
 have fin:∀v w' ay,(execOp (Act.eval ⟨T,ai.D cx⟩) aa).run cx.P w=.ok (.value v) w'->an cx ay st' (T.setIfInBounds d v) w'->aa.wp cx.P ⟨T,ai.D cx⟩ w K Q:=by
  intro v w' ay lb lc
  refine gg lb ?_
  rw[ah]
  exact la _ _ ⟨ay,lc⟩
 split at o
 ·rename_i c ld
  split at o
  case h_2=>cases o
  rename_i s le L
  cases o
  obtain⟨v,w',ay,O,R⟩:=Q9 Z ld q L W
  exact fin v w' ay O R
 ·split at o
  case h_2=>cases o
  rename_i s le L
  cases o
  obtain⟨v,w',ay,O,R⟩:=SE Z q L W
  exact fin v w' ay O R
def ag.uC:ag->Bool
 |.cy=>true
 |.pair a b=>uC a||uC b
 |.arr _ a=>uC a
 |_=>false
def G5(P:Program)(aa:Oper):Bool:=match aa.op with
 |.build t _=>match ty P t with
  |some u=>u.uC
  |none=>false
 |_=>false
def F0(E:Env)(st:af)(aa:Oper)(orc:List ak):Option (af×List ak×List Prop):=bif G5 E.P aa then sH E st aa orc else none
def kE(E:Env)(o:af)(aa:Oper)(orc:List ak):Option (af×List ak×List Prop):=
 match xX E o aa orc with
 |some r=>some r
 |none=>match F0 E o aa orc with
 |some r=>some r
 |none=>match Dj E (uA o (gM E aa.op)) aa orc with
  |some r=>some r
  |none=>match xG E o aa orc with
   |some r=>some r
   |none=>yd E o aa orc
theorem Q8{E:Env}(L:bv E cx)(h:al cx st T w){aa:Oper}{orc:List ak}{st':af}{orc':List ak}{ob:List Prop}(q:kE E st aa orc=some (st',orc',ob))(O:bO ob)
  {K:Act->World->Prop}{Q:Exit->Act->World->Prop}(R:∀U w',al cx st' U w'->K ⟨U,ai.D cx⟩ w'):aa.wp cx.P ⟨T,ai.D cx⟩ w K Q:=by
 unfold kE at q
 split at q
 ·rename_i r o
  cases q
  exact NI L h o O R
 ·split at q
  ·rename_i r o
   cases q
   unfold F0 at o
   cases W:G5 E.P aa with
   |false=>rw[W]at o;cases o
   |true=>rw[W]at o;exact Ki L h o O R
  split at q
  ·rename_i r o
   cases q
   obtain⟨m,Y⟩:=h
   exact Ts L ⟨m,Gc Y⟩ o O R
  ·split at q
   ·rename_i r o
    cases q
    exact Q5 L h o O R
   ·exact Nc L h q O R
end Go.Ev
namespace Go.Ev
open Go Go.RowKit
variable [b8]
variable {cx:bB} {m:Nat->Value} {st st':af} {T:Array Value} {w w':World}
def vz(st:af)(s:ao):af:=match s with
 |.row r=>match look st.rw r with
  |some c=>st.freeze r c
  |none=>st
 |.iter r=>match look st.ad r with
  |some (.mp k v ps)=>st.fr r k v ps
  |_=>st
 |_=>st
def mH(st:af)(b:Nat):af:=match look st.ad b with
 |some (.cells l _)=>l.foldl vz st
 |_=>st
theorem P5(h:an cx m st T w)(s:ao):an cx m (vz st s) T w:=by
 unfold vz
 split
 ·split
  ·rename_i c o;exact h.freeze (a8 o)
  ·exact h
 ·split
  ·rename_i k v ps o;exact h.fr (a8 o)
  ·exact h
 ·exact h
theorem IT:∀{l:List ao} {st:af},an cx m st T w->an cx m (l.foldl vz st) T w
 |[],_,h=>h
 |s::l,_,h=>IT (l:=l) (P5 h s)
theorem Qy(h:an cx m st T w)(b:Nat):an cx m (mH st b) T w:=by
 unfold mH
 split
 ·exact IT h
 ·exact h
theorem FS:∀{bs:List Nat} {st:af},an cx m st T w->an cx m (bs.foldl mH st) T w
 |[],_,h=>h
 |b::bs,_,h=>FS (bs:=bs) (Qy h b)
def k9(P:Program)(st:af):List Nat->Option (List ak)
 |[]=>some []
 |b::bs=>match look st.ad b with
  |some (.cells l e)=>match ty P e with
   |some u=>match pack u l,k9 P st bs with
    |some (x,[]),some vs=>some (⟨.ptr u,x⟩::vs)
    |_,_=>none
   |none=>none
  |_=>none
theorem K6{P:Program}:∀{bs:List Nat} {l:List ak},k9 P st bs=some l->∀u∈l,u.t.agg=false
 |[],_,o=>by cases o;simp
 |b::bs,l,o=>by
  unfold k9 at o
  split at o
  ·split at o
   ·split at o
    ·rename_i x vs L q
     cases o
     intro u hu
     rcases List.mem_cons.1 hu with rfl|hu
     ·rfl
     ·exact K6 q u hu
    ·cases o
   ·cases o
  ·cases o
theorem I0{P:Program}(h:an cx m st T w){M:Nat->Prop}(L:∀b,b<w.heap.size->M b->ar cx m st.ids b):∀{bs:List Nat} {l:List ak},(∀b∈bs,∀g,own (m b) g->¬M g)->k9 P st bs=some l->dL w M (bs.map m) l
 |[],_,_,o=>by cases o;trivial
 |b::bs,l,O,o=>by
  unfold k9 at o
  split at o
  ·rename_i c e W
   split at o
   ·rename_i u lg
    split at o
    ·rename_i x vs Y q
     cases o
     refine⟨?_,I0 h L (fun b Z=>O b (List.mem_cons_of_mem _ Z)) q⟩
     obtain⟨g,R,_,cells,la,lb⟩:=h.box (a8 W)
     obtain⟨lc,c2,ld,le,_⟩:=oP u lb Y
     refine(bD (t:=.ptr u) rfl).2 ⟨⟨g,0,none⟩,lc,by rw[R];rfl,cC (fun _ _ _=>rfl) L u le,fun j v U=>⟨?_,O b List.mem_cons_self g (by rw[R];rfl)⟩⟩
     have q:cells.toList[j]? =some v:=by rw[ld,List.getElem?_append_left (List.getElem?_eq_some_iff.1 U).1];exact U
     have lf:(⟨g,0,none⟩:Addr).add j=⟨g,0+j,none⟩:=by unfold Addr.add;split<;>simp_all
     rw[lf,mX la]
     simpa using q
    ·cases o
   ·cases o
  ·cases o
theorem Hk{P:Program}:∀{bs:List Nat} {l:List ak},k9 P st bs=some l->∀b∈bs,b∈st.ids
 |[],_,_=>fun b L=>absurd L List.not_mem_nil
 |b::bs,l,o=>by
  unfold k9 at o
  split at o
  ·rename_i c e O
   split at o
   ·split at o
    ·rename_i x vs U R
     intro i q
     rcases List.mem_cons.1 q with rfl|q
     ·exact List.mem_append.2 (.inl (List.mem_map.2 ⟨_,a8 O,rfl⟩))
     ·exact Hk R i q
    ·cases o
   ·cases o
  ·cases o
def zl(f:Nat)(bs:List Nat):ao->Bool
 |.clos g o=>Nat.beq g f&&o==bs
 |_=>false
def EM(P:Program)(st:af)(d:Nat):Option af:=
 match look st.ab d with
 |some (.clos f bs)=>match k9 P (bs.foldl mH st) bs with
  |some l=>some ((bs.foldl mH st).dH bs [] [] fun s=>bif zl f bs s then .val (.fn f (pairUp l).t) (pairUp l).x else s.dI bs)
  |none=>none
 |_=>none
theorem Ug{P:Program}{d:Nat}(h:an cx m st T w)(L:EM P st d=some st'):an cx m st' T w:=by
 unfold EM at L
 split at L
 case h_2=>cases L
 rename_i f bs ah
 split at L
 case h_2=>cases L
 rename_i l W
 cases L
 have O:an cx m (bs.foldl mH st) T w:=FS h
 have X:gS cx m m (bs.foldl mH st) w w bs [] []:={
  same:=(Ext.refl w).toSame,block:=fun _ _ _=>rfl,old:=fun _ _ _=>rfl,new:=fun i o=>by simp at o,apart:=fun i j o=>by simp at o,keys:=List.nodup_nil,
  mu:=fun i o=>by simp at o,mh:=fun _ _ q=>absurd q List.not_mem_nil,fb:=fun _ _ q=>absurd q List.not_mem_nil}
 refine O.Cy X ?_ (fun _ _ q=>absurd q List.not_mem_nil) (fun _ _ q=>absurd q List.not_mem_nil)
 intro v s R
 cases aK:zl f bs s with
 |false=>exact mL (fun _ _=>rfl) R
 |true=>
  unfold zl at aK
  split at aK
  ·rename_i g U
   rw[Bool.and_eq_true]at aK
   have lc:=Nat.eq_of_beq_eq_true aK.1
   have ld:U=bs:=eq_of_beq aK.2
   subst lc
   subst ld
   have R:v=.func (.func g) #[] (U.map m).toArray:=R
   refine(bD (t:=.fn g (pairUp l).t) rfl).2 ⟨U.map m,by rw[R],pK (K6 W) (I0 O (X.mut) ?_ W)⟩
   intro b q Y Z le
   have la:b∈(U.foldl mH st).ids:=Hk W b q
   rcases le with lf|⟨i,o,lg⟩
   ·have lh:=O.outer Y lf
    rcases(O.lt la Z).2 with lb|lb
    ·omega
    ·exact lh.2 lb
   ·rcases ow.1 o with o|⟨o,li⟩
    ·simp at o
    ·exact O.apart i b o la (fun e=>li (e▸q)) Y lg Z
  ·cases aK
end Go.Ev
namespace Go.Ev
open Go Go.RowKit
variable [b8]
abbrev cO:=Exit->Act->World->Prop
def W(cx:bB)[ai cx](Q:cO)(c:Code)(st:af):Prop:=∀T w,al cx st T w->c.wp cx.P Q ⟨T,ai.D cx⟩ w
def bN(cx:bB)[ai cx](ops:Array Oper)(Q:cO)(l:List Oper)(st:af):Prop:=∀T w,al cx st T w->wpList cx.P ops Q l ⟨T,ai.D cx⟩ w
def N(cx:bB)[ai cx](Q:cO)(e:Exit)(st:af):Prop:=∀T w,al cx st T w->Q e ⟨T,ai.D cx⟩ w
def eb(ops:Array Oper)(st:af)(aa:Oper):Option Bool:=
 match aa.guard with
 |none=>some true
 |some (j,b)=>match(ops[j]?).bind (·.dst)with
  |some d=>match look st.ab d with
   |some (.val .bool true)=>some b
   |some (.val .bool false)=>some (!b)
   |some .undef=>some false
   |_=>none
  |none=>none
def fw(E:Env)(ops:Array Oper):List Oper->af->List ak->Option (af×List ak×List Prop)
 |[],st,orc=>some (st,orc,[])
 |aa::l,st,orc=>match eb ops st aa with
  |some true=>match kE E st aa orc with
   |some (o,q,ob)=>match fw E ops l o q with
    |some (L,O,R)=>some (L,O,ob++R)
    |none=>none
   |none=>none
  |some false=>match aa.dst with
   |some d=>match Nat.blt d E.n with
    |true=>fw E ops l (st.put d .undef) orc
    |false=>none
   |none=>fw E ops l st orc
  |none=>none
variable {cx:bB} {st st':af} {T:Array Value} {w:World} {E:Env} {Q:cO} {ops:Array Oper} {l:List Oper}
variable [ai cx]
theorem nh:∀{a b:List Prop},bO (a++b)->bO a/\bO b
 |[],_,h=>⟨trivial,h⟩
 |_::_,_,⟨q,o⟩=>⟨⟨q,(nh o).1⟩,(nh o).2⟩
theorem il(h:al cx st T w){aa:Oper}{b:Bool}(o:eb ops st aa=some b):Region.wanted aa (yielded ops T)=b:=by
 obtain⟨m,W⟩:=h
 unfold eb at o
 unfold Region.wanted
 split at o
 ·rename_i R
  cases o
  rw[R]
 ·rename_i j U R
  rw[R]
  simp only[]
  split at o
  ·rename_i d ah
   have key:∀s,look st.ab d=some s->∃v,T[d]? =some v/\aS w (ar cx m st.ids) m v s:=fun s Y=>W.cJ d s (a8 Y)
   unfold yielded
   rw[ah]
   simp only[Option.bind_some]
   split at o
   ·rename_i q
    obtain⟨v,L,O⟩:=key _ q
    rw[L,dB.1 O]
    cases o
    cases b<;>rfl
   ·rename_i q
    obtain⟨v,L,O⟩:=key _ q
    rw[L,dB.1 O]
    cases o
    cases U<;>rfl
   ·rename_i q
    obtain⟨v,L,O⟩:=key _ q
    have Z:v=undef:=O
    rw[L,Z]
    cases o
    cases U<;>rfl
   ·cases o
  ·cases o
theorem qQ(q:bv E cx):∀{l:List Oper} {st:af} {T:Array Value} {w:World} {orc orc':List ak} {st':af} {ob:List Prop},al cx st T w->fw E ops l st orc=some (st',orc',ob)->bO ob->
  (∀O w',al cx st' O w'->Q .normal ⟨O,ai.D cx⟩ w')->wpList cx.P ops Q l ⟨T,ai.D cx⟩ w
 |[],st,T,w,_,_,_,_,h,o,_,L=>by
  cases o
  exact L T w h
 |aa::l,st,T,w,orc,orc',st',ob,h,o,R,L=>by
  unfold fw at o
  refine wpList_step fun K U=>?_
  split at o
  ·rename_i W
   rw[il h W]
   simp only[if_true]
   split at o
   ·rename_i lg lh li Y
    split at o
    ·rename_i lj lk ll Z
     cases o
     obtain⟨la,lb⟩:=nh R
     exact Q8 q h Y la fun O w' lc=>U _ _ (qQ q lc Z lb L)
    ·cases o
   ·cases o
  ·rename_i W
   rw[il h W]
   simp only[Bool.false_eq_true,if_false]
   split at o
   ·rename_i d ah
    split at o
    ·rename_i ld
     obtain⟨m,le⟩:=h
     have lf:=le.put (d:=d) (s:=.undef) (v:=undef) (by rw[q.n];exact cK ld) rfl
     refine U _ _ ?_
     rw[ah]
     exact qQ q ⟨m,lf⟩ o R L
    ·cases o
   ·rename_i ah
    refine U _ _ ?_
    rw[ah]
    exact qQ q h o R L
  ·cases o
theorem rz{P:Program}{Q:cO}:∀{l1 l2:List Oper} {a:Act} {w:World},wpList P ops (Exit.then (wpList P ops Q l2) Q) l1 a w->wpList P ops Q (l1++l2) a w
 |[],l2,a,w,h=>h
 |aa::l1,l2,a,w,h=>by
  simp only[List.cons_append,wpList]at h⊢
  split
  ·rename_i L
   rw[if_pos L]at h
   rcases h with h|⟨O,R⟩
   ·refine .inl ?_
    have o:∀a w,wpList P ops (Exit.then (wpList P ops Q l2) Q) l1 a w->wpList P ops Q (l1++l2) a w:=fun a w=>rz
    unfold Oper.wp Oper.upon at h⊢
    split at h
    ·exact o _ _ h
    ·exact o _ _ h
    ·exact o _ _ h
    ·refine Calls.mono h ?_
     intro e w' q
     cases e with
     |returned v=>exact o _ _ q
     |panicked c=>exact q
     |outgrown=>exact q
    ·exact Rows.mono h fun v w' q=>o _ _ q
    ·exact h
    ·exact h.elim
   ·exact .inr ⟨O,R⟩
  ·rename_i L
   rw[if_neg L]at h
   exact rz h
/-! The rules. -/
theorem dA(h:N cx Q .normal st):W cx Q .skip st:=fun T w o=>wp_skip (h T w o)
theorem aI{x y:Code}(h:W cx (Exit.then (y.wp cx.P Q) Q) x st):W cx Q (.seq x y) st:=fun T w o=>wp_seq (h T w o)
theorem fT{id:Nat}{c:Code}(h:W cx (Exit.inBlock id Q) c st):W cx Q (.block id c) st:=fun T w o=>wp_block (h T w o)
theorem j8{id:Nat}(h:N cx Q (.exit id) st):W cx Q (.exit id) st:=fun T w o=>wp_exit (h T w o)
theorem eU(h:N cx Q .ret st):W cx Q .ret st:=fun T w o=>wp_ret (h T w o)
theorem dt{c:Operand}{x y:Code}{b:Bool}(L:aR st c=some (.val .bool b))(O:b=true->W cx Q x st)(R:b=false->W cx Q y st):W cx Q (.cond c x y) st:=fun T w U=>by
 obtain⟨m,o⟩:=U
 have q:=dB.1 (be o L)
 cases b with
 |true=>exact wp_cond_true q (O rfl T w ⟨m,o⟩)
 |false=>exact wp_cond_false q (R rfl T w ⟨m,o⟩)
theorem vG{c:Operand}{x y:Code}(o:aR st c=some (.val .bool true))(q:W cx Q x st):W cx Q (.cond c x y) st:=dt o (fun _=>q) (fun h=>by cases h)
theorem s6{c:Operand}{x y:Code}(o:aR st c=some (.val .bool false))(q:W cx Q y st):W cx Q (.cond c x y) st:=dt o (fun h=>by cases h) (fun _=>q)
theorem exists_least(p:Nat->Prop):∀n,p n->∃n,p n/\∀m,p m->n<=m:=by
 intro n
 induction n using Nat.strongRecOn with
 |_ n L=>
  intro O
  by_cases h:∃m,m<n/\p m
  ·obtain⟨m,o,R⟩:=h
   exact L m o R
  ·exact⟨n,O,fun m o=>by
    rcases Nat.lt_or_ge m n with q|q
    ·exact absurd ⟨m,q,o⟩ h
    ·exact q⟩
theorem zn{p:Nat->Prop}(h:∃n,p n):∃n,p n/\∀m,p m->n<=m:=let⟨n,o⟩:=h;exists_least p n o
open Classical in
theorem XE{P:Program}{c:Code}{Q:cO}(o:Nat->Act->World->Prop)(step:∀k a w,o k a w->c.wp P (Exit.then (fun q w'=>∃k',k'<k/\o k' q w') Q) a w){k:Nat}{a:Act}{w:World}(h:o k a w):
  (Code.loop c).wp P Q a w:=by
 refine wp_loop (fun a w=>∃k,o k a w) (fun a w=>if h:∃k,o k a w then Classical.choose (zn h)else 0) ⟨k,h⟩ ?_
 intro a w O
 have W:=Classical.choose_spec (zn O)
 refine Code.wp_mono ?_ (step _ a w W.1)
 intro e q w' R
 cases e with
 |normal=>
  obtain⟨k',Y,L⟩:=R
  refine⟨⟨k',L⟩,?_⟩
  have U:∃k,o k q w':=⟨k',L⟩
  rw[dif_pos O,dif_pos U]
  exact Nat.lt_of_le_of_lt ((Classical.choose_spec (zn U)).2 k' L) Y
 |_=>exact R
def Hf{α:Type}(cx:bB)[ai cx](F:Nat->α->Prop)(S:α->af)(k:Nat):Act->World->Prop:=fun o w'=>∃k' x',k'<k/\F k' x'/\o.defers=ai.D cx/\al cx (S x') o.tmps w'
theorem kC{α:Type}(F:Nat->α->Prop)(S:α->af){c:Code}(step:∀k x,F k x->W cx (Exit.then (Hf cx F S k) Q) c (S x)){k:Nat}{x:α}(h:F k x):W cx Q (.loop c) (S x):=by
 intro T w o
 refine XE (fun k a w=>∃x,F k x/\a.defers=ai.D cx/\al cx (S x) a.tmps w) ?_ ⟨x,h,rfl,o⟩
 rintro k ⟨T,d⟩ w ⟨x,L,ah,o⟩
 simp only at ah o
 subst ah
 refine Code.wp_mono ?_ (step k x L T w o)
 intro e Z w' q
 cases e with
 |normal=>obtain⟨k',x',O,R,U,Y⟩:=q;exact⟨k',O,x',R,U,Y⟩
 |_=>exact q
theorem js{α:Type}{F:Nat->α->Prop}{S:α->af}{k k':Nat}(x':α)(o:k'<k)(q:F k' x'):N cx (Exit.then (Hf cx F S k) Q) .normal (S x'):=
 fun _ _ L=>⟨k',x',o,q,rfl,L⟩
theorem aM{y:Code}(h:W cx Q y st):N cx (Exit.then (y.wp cx.P Q) Q) .normal st:=h
theorem Ta{l:List Oper}(h:bN cx ops Q l st):N cx (Exit.then (wpList cx.P ops Q l) Q) .normal st:=h
theorem gf{K:Act->World->Prop}{id:Nat}(h:N cx Q (.exit id) st):N cx (Exit.then K Q) (.exit id) st:=h
theorem dF{K:Act->World->Prop}(h:N cx Q .ret st):N cx (Exit.then K Q) .ret st:=h
theorem jf{id:Nat}(h:N cx Q .normal st):N cx (Exit.inBlock id Q) .normal st:=h
theorem fW{id:Nat}(h:N cx Q .ret st):N cx (Exit.inBlock id Q) .ret st:=h
theorem kF{id:Nat}(h:N cx Q .normal st):N cx (Exit.inBlock id Q) (.exit id) st:=fun T w o=>by
 show(if id=id then _ else _:Prop)
 rw[if_pos rfl]
 exact h T w o
theorem NJ{id o:Nat}(q:Nat.beq o id=false)(h:N cx Q (.exit o) st):N cx (Exit.inBlock id Q) (.exit o) st:=fun T w L=>by
 show(if o=id then _ else _:Prop)
 rw[if_neg (beq_false q)]
 exact h T w L
theorem aX{id:Nat}{l:List Oper}(h:bN cx l.toArray Q l st):W cx Q (.region id l.toArray false) st:=fun T w o=>wp_region_lit (h T w o)
theorem RS(o:bv E cx){orc:List ak}{ob:List Prop}(q:fw E ops l st orc=some (st',[],ob))(L:bO ob)(h:N cx Q .normal st'):bN cx ops Q l st:=
 fun _ _ O=>qQ o O q L h
theorem rH(o:bv E cx)(n:Nat){orc:List ak}{ob:List Prop}(q:fw E ops (l.take n) st orc=some (st',[],ob))(L:bO ob)(h:bN cx ops Q (l.drop n) st'):bN cx ops Q l st:=by
 intro T w O
 have:=rz (P:=cx.P) (ops:=ops) (Q:=Q) (l1:=l.take n) (l2:=l.drop n) (qQ o O q L h)
 rwa [List.take_append_drop]at this
theorem jL(h:N cx Q .normal st):bN cx ops Q [] st:=h
theorem al.norm(h:al cx st T w){o bs ap:List Nat}(q:st.norm o bs ap=some st'):al cx st' T w:=let⟨m,L⟩:=h;⟨m,L.norm q⟩
def ke(E:Env)(ops:Array Oper)(l:List Oper)(st:af)(orc:List ak)(o bs ap:List Nat):Option (af×List ak×List Prop):=
 match fw E ops l st orc with
 |some (s,aa,p)=>match s.norm o bs ap with
  |some q=>some (q,aa,p)
  |none=>none
 |none=>none
theorem J9{orc orc':List ak}{ob:List Prop}{o bs ap:List Nat}(h:ke E ops l st orc o bs ap=some (st',orc',ob)):∃s,fw E ops l st orc=some (s,orc',ob)/\s.norm o bs ap=some st':=by
 unfold ke at h
 split at h
 ·rename_i s aa p q
  split at h
  ·rename_i O L
   cases h
   exact⟨s,q,L⟩
  ·cases h
 ·cases h
theorem N.norm{e:Exit}{o bs ap:List Nat}(h:N cx Q e st')(q:st.norm o bs ap=some st'):N cx Q e st:=fun T w L=>h T w (L.norm q)
theorem bN.norm{o bs ap:List Nat}(h:bN cx ops Q l st')(q:st.norm o bs ap=some st'):bN cx ops Q l st:=fun T w L=>h T w (L.norm q)
theorem W.norm{c:Code}{o bs ap:List Nat}(h:W cx Q c st')(q:st.norm o bs ap=some st'):W cx Q c st:=fun T w L=>h T w (L.norm q)
end Go.Ev
namespace Go.Ev
open Go Go.RowKit
variable [b8]
variable {cx:bB} {m:Nat->Value} {st st':af} {T:Array Value} {w w':World} {P:Program}
variable [ai cx]
theorem ID{l:List MapEntry}{n:Nat}{e:MapEntry}(o:(l.map (·.born)).Nodup)(h:l[n]? =some e):l.findIdx? (fun x=>(x.born:Int)==(e.born:Int))=some n:=by
 induction l generalizing n with
 |nil=>simp at h
 |cons x l q=>
  rw[List.map_cons,List.nodup_cons]at o
  rw[List.findIdx?_cons]
  cases n with
  |zero=>
   simp at h
   subst h
   simp
  |succ n=>
   simp at h
   have L:((x.born:Int)==(e.born:Int))=false:=by
    rw[beq_eq_false_iff_ne]
    intro O
    exact o.1 (List.mem_map.2 ⟨e,List.mem_of_getElem? h,by omega⟩)
   rw[L,q o.2 h]
   simp
theorem Lu{p:MapEntry->Bool}(es:Array MapEntry):es.findIdx? p=es.toList.findIdx? p:=by
 conv=>lhs;rw[show es=es.toList.toArray from by simp]
 rw[List.findIdx?_toArray]
theorem Fw{α:Type}(f:α->α)(a:α):∀l:List α,(l++[a]).modify l.length f=l++[f a]
 |[]=>rfl
 |x::l=>by
  show x::((l++[a]).modify l.length f)=_
  rw[Fw f a l]
  rfl
theorem GP(kv:Value):∀(es:List MapEntry) (n:Nat),(es.modify n fun e=>{e with key:=kv}).map (·.born)=es.map (·.born)
 |[],n=>by cases n<;>rfl
 |e::es,0=>rfl
 |e::es,n+1=>by
  have:=GP kv es n
  simp only[List.modify_succ_cons,List.map_cons,this]
theorem TO{mt R ll:TypeId}{d d':Nat}{u v:ag}{M:Nat->Prop}(lm:P.underlying mt=some (.map R ll))(ln:cG P d R=some u)(lo:dX P d' R=true)(ah:d'<=10000)(lp:u.flat=true)
  {z:Value}(lA:∀w,(zeroValue ll).run P w=.ok z w)
  {kv vv:Value}{key:u.el}{val:v.el}(O:ba w M kv u key)(lq:ba w M vv v val){g:Nat}{es:Array MapEntry}{clock:Nat}{ps:List (u.el×v.el)}
  (ld:w.heap[g]? =some (.map es clock))(U:∀e∈es.toList,e.born<clock)(W:(es.toList.map (·.born)).Nodup)(le:dQ (dW w M u) (dW w M v) es.toList ps):
  ∃(Y:Array MapEntry) (lr:Nat) (v0:Value) (s:Int) (ls:World),(Instr.mapEntry mt (.map (some g)) kv).run P w=.ok (.tuple #[v0,.int .i64 s]) ls/\
   (∀o,(Instr.entryStore o (.map (some g)) (.int .i64 s) vv).run P ls=.ok () {w with heap:=w.heap.setIfInBounds g (.map Y lr)})/\
   (∀e∈Y.toList,e.born<lr)/\(Y.toList.map (·.born)).Nodup/\dQ (dW w M u) (dW w M v) Y.toList (cm (aQ u) ps key val):=by
 have lt:=nT (P:=P) false d R u ln d' lo 10000 ah w w M kv key O
 have Z:=tF ln lo ah O w le
 have lu:=fV ld
 have lv:(getObj g).run P w=.ok (.map es clock) w:=by simp[getObj,Sem.run,ld]
 have lw:∀aa,(setObj g aa).run P w=.ok () {w with heap:=w.heap.setIfInBounds g aa}:=fun aa=>by simp[setObj,Sem.run,ld]
 have store:∀(q:Array MapEntry) (L:Nat) (s:Int) (n:Nat),q.findIdx? (fun e=>(e.born:Int)==s)=some n->∀o,
   (Instr.entryStore o (.map (some g)) (.int .i64 s) vv).run P {w with heap:=w.heap.setIfInBounds g (.map q L)}=.ok () {w with heap:=w.heap.setIfInBounds g (.map (q.modify n fun e=>{e with val:=vv}) L)}:=by
  intro q L s n lB o
  have la:(getObj g).run P {w with heap:=w.heap.setIfInBounds g (.map q L)}=.ok (.map q L) {w with heap:=w.heap.setIfInBounds g (.map q L)}:=by
   simp[getObj,Sem.run,Array.getElem?_setIfInBounds_self_of_lt lu]
  have lC:∀aa,(setObj g aa).run P {w with heap:=w.heap.setIfInBounds g (.map q L)}=.ok () {w with heap:=w.heap.setIfInBounds g aa}:=fun aa=>by
   simp[setObj,Sem.run,Array.getElem?_setIfInBounds_self_of_lt lu,Array.setIfInBounds_setIfInBounds]
  unfold Instr.entryStore
  simp only[Sem.run_bind,Result.andThen_ok,la,asInt,asIntOf,Sem.run_pure,lB,lC]
 rcases r8 (kv:=kv) (vv:=vv) (val:=val) (eq:=aQ u) (key:=key) O lq es.toList ps 0 le with ⟨lf,lb⟩|⟨n,e,lD,lf,lb,lE,lF,lG⟩
 ·rw[lf]at Z
  have lg:(es.push {key:=kv,val:=z,born:=clock}).findIdx? (fun e=>(e.born:Int)==((clock:Nat):Int))=some es.size:=by
   rw[Lu]
   refine ID (e:={key:=kv,val:=z,born:=clock}) ?_ (by simp)
   rw[Array.toList_push,List.map_append,List.nodup_append]
   refine⟨W,by simp,?_⟩
   intro a lh b li lH
   simp at li
   obtain⟨e,he,rfl⟩:=List.mem_map.1 lh
   have:=U e he
   omega
  have lj:(es.push {key:=kv,val:=z,born:=clock}).modify es.size (fun e=>{e with val:=vv})=es.push {key:=kv,val:=vv,born:=clock}:=by
   apply Array.ext'
   rw[Array.toList_modify,Array.toList_push,Array.toList_push,<-Array.length_toList,Fw]
  refine⟨es.push {key:=kv,val:=vv,born:=clock},clock+1,z,clock,_,?_,fun o=>by rw[store _ _ _ _ lg o,lj],?_,?_,?_⟩
  ·unfold Instr.mapEntry
   simp only[Sem.run_bind,run_underlying lm,Result.andThen_ok,lv,lt,Z,lw,lA,Sem.run_pure]
   rfl
  ·intro e he
   rw[Array.toList_push]at he
   rcases List.mem_append.1 he with he|he
   ·exact Nat.lt_succ_of_lt (U e he)
   ·simp at he;subst he;exact Nat.lt_succ_self _
  ·rw[Array.toList_push,List.map_append,List.nodup_append]
   refine⟨W,by simp,?_⟩
   intro a lh b li lH
   simp at li
   obtain⟨e,he,rfl⟩:=List.mem_map.1 lh
   have:=U e he
   omega
  ·rw[Array.toList_push,lb]
   exact rK le ⟨O,lq,trivial⟩
 ·rw[lf,Nat.zero_add]at Z
  have lI:key=lD:=z8 u lF
  subst lI
  have lJ:e.key=kv:=kS lp lE O
  have lx:es[n]? =some e:=by rw[<-Array.getElem?_toList];exact lb
  have lK:((es[n]?).map (·.key)).getD kv=kv:=by rw[lx];simp[lJ]
  have lL:((es[n]?).map (fun x=>(x.born:Int))).getD 0=e.born:=by rw[lx];rfl
  have lM:∀lk,(Instr.keyThatStays kv kv).run P lk=.ok kv lk:=fun lk=>by
   unfold Instr.keyThatStays
   rw[if_pos (AY lp O)]
   rfl
  have ly:(es.modify n fun e=>{e with key:=kv}).toList=es.toList.modify n fun e=>{e with key:=kv}:=by simp
  have lc:(es.modify n fun e=>{e with key:=kv,val:=vv}).toList=es.toList.modify n fun e=>{e with key:=kv,val:=vv}:=by simp
  have lN:(es.toList.modify n fun e=>{e with key:=kv}).map (·.born)=es.toList.map (·.born):=by
   exact GP kv es.toList n
  have lg:(es.modify n fun e=>{e with key:=kv}).findIdx? (fun x=>(x.born:Int)==(e.born:Int))=some n:=by
   rw[Lu,ly]
   refine ID (e:={e with key:=kv}) (by rw[lN];exact W) ?_
   rw[List.getElem?_modify_eq,lb]
   rfl
  have lj:(es.modify n fun e=>{e with key:=kv}).modify n (fun e=>{e with val:=vv})=es.modify n fun e=>{e with key:=kv,val:=vv}:=by
   apply Array.ext'
   rw[Array.toList_modify,ly,lc,List.modify_modify_eq]
   rfl
  refine⟨es.modify n fun e=>{e with key:=kv,val:=vv},clock,e.val,e.born,_,?_,fun o=>by rw[store _ _ _ _ lg o,lj],?_,?_,?_⟩
  ·unfold Instr.mapEntry
   simp only[Sem.run_bind,run_underlying lm,Result.andThen_ok,lv,lt,Z,lK,lM,lw,Sem.run_pure,lL]
   rfl
  ·intro x lz
   rw[lc]at lz
   have la:x.born∈(es.toList.modify n fun e=>{e with key:=kv,val:=vv}).map (·.born):=List.mem_map.2 ⟨x,lz,rfl⟩
   rw[pV]at la
   obtain⟨y,lO,e⟩:=List.mem_map.1 la
   rw[<-e];exact U y lO
  ·rw[lc,pV];exact W
  ·rw[lc];exact lG
def eW(x:Operand)(d:Nat):Bool:=match x with
 |.tmp t=>!(Nat.beq t d)
 |_=>true
theorem ir{x:Operand}{d:Nat}{v:Value}(h:eW x d=true):Act.eval ⟨T.setIfInBounds d v,ai.D cx⟩ x=Act.eval ⟨T,ai.D cx⟩ x:=by
 cases x with
 |tmp t=>
  have o:t≠d:=by
   intro e
   subst e
   simp[eW]at h
  show(T.setIfInBounds d v).getD t undef=T.getD t undef
  rw[Array.getD_eq_getD_getElem?,Array.getD_eq_getD_getElem?,Array.getElem?_setIfInBounds_ne (fun e=>o e.symm)]
 |_=>rfl
theorem eval_put{d:Nat}{v:Value}(h:d<T.size):Act.eval ⟨T.setIfInBounds d v,ai.D cx⟩ (.tmp d)=v:=by
 show(T.setIfInBounds d v).getD d undef=v
 rw[Array.getD_eq_getD_getElem?,Array.getElem?_setIfInBounds_self_of_lt h]
 rfl
def sn(P:Program)(st:af)(t:TypeId)(x k v:Operand):Option af:=
 match P.underlying t with
 |some (.map _ o)=>match zeroOf P o with
  |some _=>rJ P st t x k v
  |none=>none
 |_=>none
theorem GJ(h:an cx m st T w){t:TypeId}{x k v:Operand}{st':af}(o:sn cx.P st t x k v=some st'):
  ∃v0 s L w',(Instr.mapEntry t (Act.eval ⟨T,ai.D cx⟩ x) (Act.eval ⟨T,ai.D cx⟩ k)).run cx.P w=.ok (.tuple #[v0,.int .i64 s]) L/\
   (∀lf,(Instr.entryStore lf (Act.eval ⟨T,ai.D cx⟩ x) (.int .i64 s) (Act.eval ⟨T,ai.D cx⟩ v)).run cx.P L=.ok () w')/\an cx m st' T w':=by
 unfold sn at o
 split at o
 case h_2=>cases o
 rename_i lJ lg R
 split at o
 case h_2=>cases o
 rename_i lK lh
 obtain⟨lL,li,_,lj,_,lk,_⟩:=iV lh
 unfold rJ at o
 split at o
 ·rename_i b lM lN lO lP ll U lm ln
  rw[R]at U
  cases U
  split at o
  ·rename_i lQ lR ps W lo lp lq lS
   split at o
   ·rename_i y z lr ls Y
    cases o
    simp only[Bool.and_eq_true]at Y
    obtain⟨⟨⟨lt,lu⟩,lv⟩,lw⟩:=Y
    obtain rfl:=ag.eq_of_beq lt
    obtain rfl:=ag.eq_of_beq lu
    have lx:=ak.dd lr
    subst lx
    have ly:=ak.dd ls
    subst ly
    have O:=a8 lp
    obtain⟨g,q,_,es,lT,Z,lz,lA,lB⟩:=h.box O
    have q:m b=.map (some g):=q
    have lC:Act.eval ⟨T,ai.D cx⟩ x=.map (some g):=by have:Act.eval ⟨T,ai.D cx⟩ x=m b:=be h ll;rw[this,q]
    have lD:∀w',(zeroValue lg).run cx.P w'=.ok li w':=fun w'=>by simp[zeroValue,typeInfo,lj,lk]
    obtain⟨la,lb,v0,s,L,lE,lF,lG,bW,dJ⟩:=TO (d:=iy) (d':=16) R lq lw (by decide) lv lD (cW h lm) (cW h ln) Z lz lA lB
    have lc:Touch m w b {w with heap:=w.heap.setIfInBounds g (.map la lb)}:=
     ⟨⟨rfl,rfl,rfl,by simp,fun _=>Nat.le_refl _⟩,fun k _ lH=>by
      show(w.heap.setIfInBounds g _)[k]? =_
      rw[Array.getElem?_setIfInBounds_ne]
      intro e
      exact lH (by rw[q,e];rfl)⟩
    rw[lC]
    refine⟨v0,s,L,_,lE,lF,h.cY O lc (g:=g) q ?_⟩
    have lI:b∈st.ids:=List.mem_append.2 (.inl (List.mem_map.2 ⟨_,O,rfl⟩))
    obtain⟨ld,le⟩:=an.gw (cx:=cx) lI lc (ids:=(st.cY b (.mp W lo (cm (aQ W) ps y z))).ids) (jC O h.keys _).1
    refine⟨la,lb,?_,lG,bW,gJ (fun _ _ h=>dc ld le h) (fun _ _ h=>dc ld le h) dJ⟩
    show(w.heap.setIfInBounds g _)[g]? =_
    rw[Array.getElem?_setIfInBounds_self_of_lt (fV Z)]
   ·cases o
  ·cases o
 ·cases o
def ut(E:Env)(st:af):List Oper->Option (af×List Oper)
 |q::aZ::en::l=>match q.guard,aZ.guard,en.guard,q.dst,aZ.dst,en.dst with
  |none,none,none,some d1,some d2,none=>match q.op,aZ.op,en.op with
   |.mapEntry t (.tmp o) k,.extract (.tmp a) i,.entryStore _ (.tmp L) (.tmp c) v=>
    match Nat.beq a d1&&(Nat.beq i 1&&(Nat.beq c d2&&(Nat.beq o L&&(eW (.tmp o) d1&&(eW (.tmp o) d2&&(eW v d1&&(eW v d2&&(Nat.blt d1 E.n&&Nat.blt d2 E.n))))))))with
    |true=>match sn E.P st t (.tmp o) k v with
     |some O=>some ((O.put d1 .any).put d2 .any,l)
     |none=>none
    |false=>none
   |_,_,_=>none
  |_,_,_,_,_,_=>none
 |_=>none
theorem Rc{E:Env}(L:bv E cx){Q:cO}{ops:Array Oper}{l Z:List Oper}(o:ut E st l=some (st',Z))(h:bN cx ops Q Z st'):bN cx ops Q l st:=by
 unfold ut at o
 split at o
 case h_2=>cases o
 rename_i lg aZ en l
 split at o
 case h_2=>cases o
 rename_i d1 d2 g1 g2 g3 lh li lj
 split at o
 case h_2=>cases o
 rename_i t la k a i t2 lE c v lk ll lm
 split at o
 case h_2=>cases o
 rename_i lb
 simp only[Bool.and_eq_true]at lb
 obtain⟨O,R,U,W,ln,lo,lp,lq,lr,ls⟩:=lb
 have O:=Nat.eq_of_beq_eq_true O
 have R:=Nat.eq_of_beq_eq_true R
 have U:=Nat.eq_of_beq_eq_true U
 have W:=Nat.eq_of_beq_eq_true W
 subst O
 subst R
 subst U
 subst W
 split at o
 case h_2=>cases o
 rename_i lF lc
 cases o
 intro T w ⟨m,Y⟩
 rw[<-L.P]at lc
 obtain⟨v0,s,q,w',lt,bW,lu⟩:=GJ Y lc
 have ld:a<cx.n:=by rw[L.n];exact cK lr
 have le:c<cx.n:=by rw[L.n];exact cK ls
 have lv:a<T.size:=by rw[Y.size];exact ld
 refine wpList_step fun K lw=>?_
 rw[show Region.wanted lg (yielded ops T)=true from by unfold Region.wanted;rw[g1]]
 simp only[if_true]
 refine gg (w':=q) (v:=.tuple #[v0,.int .i64 s]) (cn (by simp only[execOp,lk]) lt) ?_
 refine lw _ _ ?_
 rw[lh]
 refine wpList_step fun lG lx=>?_
 rw[show∀y,Region.wanted aZ y=true from fun y=>by unfold Region.wanted;rw[g2]]
 simp only[if_true]
 have ly:Act.eval ⟨T.setIfInBounds a (.tuple #[v0,.int .i64 s]),ai.D cx⟩ (.tmp a)=.tuple #[v0,.int .i64 s]:=eval_put lv
 refine gg (w':=q) (v:=.int .i64 s) (by simp[execOp,ll,ly,Instr.extract]) ?_
 refine lx _ _ ?_
 rw[li]
 refine wpList_step fun lf lz=>?_
 rw[show∀y,Region.wanted en y=true from fun y=>by unfold Region.wanted;rw[g3]]
 simp only[if_true]
 have lA:Act.eval ⟨(T.setIfInBounds a (.tuple #[v0,.int .i64 s])).setIfInBounds c (.int .i64 s),ai.D cx⟩ (.tmp c)=.int .i64 s:=eval_put (by rw[Array.size_setIfInBounds,Y.size];exact le)
 have lB:Act.eval ⟨(T.setIfInBounds a (.tuple #[v0,.int .i64 s])).setIfInBounds c (.int .i64 s),ai.D cx⟩ (.tmp la)=Act.eval ⟨T,ai.D cx⟩ (.tmp la):=(ir lo).trans (ir ln)
 have lC:Act.eval ⟨(T.setIfInBounds a (.tuple #[v0,.int .i64 s])).setIfInBounds c (.int .i64 s),ai.D cx⟩ v=Act.eval ⟨T,ai.D cx⟩ v:=(ir lq).trans (ir lp)
 have lD:(execOp (Act.eval ⟨(T.setIfInBounds a (.tuple #[v0,.int .i64 s])).setIfInBounds c (.int .i64 s),ai.D cx⟩) en).run cx.P q=.ok .skip w':=by
  simp only[execOp,lm,Sem.run_bind,lA,lB,lC,bW,Result.andThen_ok,Sem.run_pure]
 show en.wp cx.P ⟨(T.setIfInBounds a (.tuple #[v0,.int .i64 s])).setIfInBounds c (.int .i64 s),ai.D cx⟩ q lf _
 unfold Oper.wp
 rw[lD]
 show lf (Act.put ⟨(T.setIfInBounds a (.tuple #[v0,.int .i64 s])).setIfInBounds c (.int .i64 s),ai.D cx⟩ en.dst undef) w'
 rw[lj]
 exact lz _ _ (h _ _ ⟨m,(lu.put ld (s:=.any) trivial).put le (s:=.any) trivial⟩)
end Go.Ev
namespace Go.Ev
open Go Go.RowKit
variable [b8]
variable {cx:bB} {m:Nat->Value} {st st':af} {T:Array Value} {w w':World} {E:Env} {Q:cO}
variable [ai cx]
def IW:ak->ao
 |⟨.ptr t,x⟩=>.vptr t x
 |⟨t,x⟩=>.val t x
theorem L4{M:Nat->Prop}{m:Nat->Value}{v:Value}{u:ak}(h:ba w M v u.t u.x):aS w M m v (IW u):=by
 obtain⟨t,x⟩:=u
 cases t with
 |ptr t=>
  obtain⟨a,cells,e,r⟩:=(bD (t:=.ptr t) rfl).1 h
  simp only[List.cons.injEq,and_true]at e
  exact⟨a,cells,e,r⟩
 |_=>exact h
def ka:Nat->List ak->List (Nat×ao)
 |_,[]=>[]
 |k,u::us=>(k,IW u)::ka (k+1) us
theorem HZ{M:Nat->Prop}:∀{vs:List Value} {l:List ak},dL w M vs l->vs.length=l.length
 |[],[],_=>rfl
 |[],_::_,h=>h.elim
 |_::_,[],h=>h.elim
 |_::_,_::_,⟨_,h⟩=>by simp[HZ h]
theorem G2{M:Nat->Prop}{m:Nat->Value}:∀{vs:List Value} {q:List ak} (k:Nat) {T:Array Value},dL w M vs q->(∀i v,vs[i]? =some v->T[k+i]? =some v)->
  ∀i aO,(i,aO)∈ka k q->∃v,T[i]? =some v/\aS w M m v aO
 |[],[],k,T,_,_,i,aO,o=>by simp[ka]at o
 |[],_::_,_,_,h,_,_,_,_=>h.elim
 |_::_,[],_,_,h,_,_,_,_=>h.elim
 |v::vs,a::q,k,T,⟨O,R⟩,L,i,aO,o=>by
  rcases List.mem_cons.1 o with o|o
  ·cases o
   exact⟨v,by have:=L 0 v rfl;simpa using this,L4 O⟩
  ·exact G2 (k+1) R (fun j u U=>by have:=L (j+1) u (by simpa using U);rw[<-this];congr 1;omega) i aO o
theorem entry{P:Program}{n:Nat}{M:Nat->Prop}{vs:List Value}{L:List ak}(R:∀b,M b->b<w.heap.size)(O:dL w M vs L)(lb:L.length<=n):
  al ⟨P,n,w,M,fun _=>False,fun _=>undef⟩ ⟨ka 0 L,[],[]⟩ (vs.toArray++Array.replicate (n-vs.toArray.size) undef) w:=by
 have lc:=HZ O
 refine⟨fun _=>undef,?_⟩
 have U:∀b,ar ⟨P,n,w,M,fun _=>False,fun _=>undef⟩ (fun _=>undef) (af.ids ⟨ka 0 L,[],[]⟩) b->M b:=by
  rintro b (h|⟨i,q,_⟩)
  ·exact h
  ·simp[af.ids]at q
 refine{size:=?_,frame:=Frame.refl _ _,outer:=fun b o=>⟨R b o,fun h=>h⟩,kept:=(fun r c W=>absurd W List.not_mem_nil),cJ:=?_,boxes:=fun b c o=>by simp at o,rows:=fun b c o=>by simp at o,apart:=fun i j q=>by simp[af.ids]at q,keys:=by simp[af.ids],fixed:=fun b c o=>by simp at o}
 ·show(vs.toArray++Array.replicate (n-vs.toArray.size) undef).size=n
  simp only[Array.size_append,List.size_toArray,Array.size_replicate]
  omega
 ·have Y:=G2 (m:=fun _=>undef) (T:=vs.toArray++Array.replicate (n-vs.toArray.size) undef) 0 O (fun i v q=>by
   rw[Nat.zero_add,Array.getElem?_append_left (by have:=(List.getElem?_eq_some_iff.1 q).1;simpa using this)]
   simpa using q)
  intro i aO q
  obtain⟨v,Z,la⟩:=Y i aO q
  exact⟨v,Z,fh (fun _ _ _=>rfl) (fun b _ o=>U b o) la⟩
def BI:List (Nat×cE)->af->af
 |[],st=>st
 |(r,c)::l,st=>BI l (match look st.rw r with|some c'=>st.freeze r c'|none=>st)
def Em:List (Nat×bT)->af->af
 |[],st=>st
 |(r,_)::l,st=>Em l (match look st.ad r with|some (.mp k v ps)=>st.fr r k v ps|_=>st)
theorem Al:∀{l:List (Nat×bT)} {st:af},an cx m st T w->an cx m (Em l st) T w
 |[],_,h=>h
 |(r,c)::l,st,h=>by
  refine Al (l:=l) ?_
  split
  ·rename_i k v ps o;exact h.fr (a8 o)
  ·exact h
def jN(st:af):af:=D4 st.ad (Em st.ad (BI st.rw st))
theorem yZ:∀{l:List (Nat×cE)} {st:af},an cx m st T w->an cx m (BI l st) T w
 |[],_,h=>h
 |(r,c)::l,st,h=>by
  refine yZ (l:=l) ?_
  split
  ·rename_i c' o;exact h.freeze (a8 o)
  ·exact h
def oQ:ag->List ao->Option (ak×List ao)
 |.cy,l=>match l with
  |.val t x::r=>match t.agg with
   |false=>some (⟨t,x⟩,r)
   |true=>none
  |_=>none
 |.unit,l=>some (⟨.unit,()⟩,l)
 |.pair a b,l=>match oQ a l with
  |some (o,r)=>match oQ b r with
   |some (q,L)=>some (⟨.pair o.t q.t,(o.x,q.x)⟩,L)
   |none=>none
  |none=>none
 |t,l=>match pack t l with
  |some (x,r)=>some (⟨t,x⟩,r)
  |none=>none
theorem UU{M:Nat->Prop}:∀(t:ag) {cs:List Value} {c r:List ao} {v:ak},ct w M m cs c->oQ t c=some (v,r)->∃q c2,cs=q++c2/\aH w M v.t q v.x/\v.t.cells=t.cells/\v.t.agg=t.agg/\ct w M m c2 r:=by
 intro t
 have W:∀(t:ag) {cs:List Value} {c r:List ao} {v:ak},ct w M m cs c->(match pack t c with
   |some (x,r)=>some ((⟨t,x⟩:ak),r)
   |none=>none)=some (v,r)->∃q c2,cs=q++c2/\aH w M v.t q v.x/\v.t.cells=t.cells/\v.t.agg=t.agg/\ct w M m c2 r:=by
  intro t cs c r v o h
  split at h
  ·rename_i x Y Z
   cases h
   obtain⟨q,c2,e,L,O⟩:=oP t o Z
   exact⟨q,c2,e,L,rfl,rfl,O⟩
  ·cases h
 induction t with
 |cy=>
  intro cs c r v o h
  unfold oQ at h
  split at h
  ·rename_i t x Y
   split at h
   ·rename_i R
    cases h
    match cs,o with
    |v0::vs,⟨L,O⟩=>
     have U:=(bD R).1 (show ba w M v0 t x from L)
     exact⟨[v0],vs,rfl,U,(cf t U).symm,R,O⟩
    |[],o=>exact o.elim
   ·cases h
  ·cases h
 |unit=>intro cs c r v o h;cases h;exact⟨[],cs,rfl,rfl,rfl,rfl,o⟩
 |pair a b la lb=>
  intro cs c r v o h
  unfold oQ at h
  split at h
  ·rename_i lg lh L
   split at h
   ·rename_i li bW O
    cases h
    obtain⟨q,c2,rfl,lc,ld,_,le⟩:=la o L
    obtain⟨d1,d2,rfl,l1,l2,_,lf⟩:=lb le O
    exact⟨q++d1,d2,by simp,⟨q,d1,rfl,lc,l1⟩,by simp only[ag.cells,ld,l2],rfl,lf⟩
   ·cases h
  ·cases h
 |_=>intro cs c r v o h;exact W _ o h
def gP(P:Program)(st:af):List ResultVar->Option (List ak)
 |[]=>some []
 |.tmp t::l=>match look st.ab t,gP P st l with
  |some (.val u x),some vs=>some (⟨u,x⟩::vs)
  |_,_=>none
 |.cell a ty'::l=>match look st.ab a,ty P ty',gP P st l with
  |some (.ptr b off),some u,some vs=>match look st.ad b with
   |some (.cells c _)=>match pack u (c.drop off)with
    |some (x,_)=>some (⟨u,x⟩::vs)
    |none=>match oQ u (c.drop off)with
     |some (v,_)=>some (v::vs)
     |none=>none
   |_=>none
  |some (.dz b []),some u,some vs=>match look st.ad b with
   |some (.aT t x _)=>match ak.as ⟨t,x⟩ u,Nat.beq u.cells 0 with
    |some y,false=>some (⟨u,y⟩::vs)
    |_,_=>none
   |_=>none
  |_,_,_=>none
def h9(T:Array Value):ResultVar->Sem Value
 |.tmp t=>pure (T.getD t undef)
 |.cell a t=>do loadVar t (<-asAddr (T.getD a undef))
theorem qi(h:an cx m st T w):∀{l:List ResultVar} {ap:List ak},gP cx.P st l=some ap->
  ∃vs,(l.mapM (h9 T)).run cx.P w=.ok vs w/\dL w (ar cx m st.ids) vs ap
 |[],_,o=>by cases o;exact⟨[],by simp,trivial⟩
 |.tmp t::l,ap,o=>by
  simp only[gP]at o
  split at o
  ·rename_i u x R U W
   cases o
   obtain⟨vs,L,Y⟩:=qi h W
   obtain⟨v,Z,lv⟩:=h.cJ t _ (a8 U)
   refine⟨v::vs,?_,lv,Y⟩
   have lw:T.getD t undef=v:=by rw[Array.getD_eq_getD_getElem?,Z];rfl
   have lf:(h9 T (.tmp t)).run cx.P w=.ok v w:=by show Sem.run cx.P (pure (T.getD t undef)) w=_;rw[lw,Sem.run_pure]
   rw[List.mapM_cons,Sem.run_bind,lf]
   simp only[Result.andThen_ok,Sem.run_bind,L,Sem.run_pure]
  ·cases o
 |.cell a t::l,ap,o=>by
  simp only[gP]at o
  have fin:∀(b off:Nat) (u:ag) (R:List ak) (c:List ao) (e:Nat),look st.ab a=some (.ptr b off)->ty cx.P t=some u->gP cx.P st l=some R->look st.ad b=some (.cells c e)->∀v':ak,
    (∀li,ct w (ar cx m st.ids) m li (c.drop off)->∃O c2,li=O++c2/\aH w (ar cx m st.ids) v'.t O v'.x/\v'.t.cells=u.cells/\v'.t.agg=u.agg)->
    ∃vs,((ResultVar.cell a t::l).mapM (h9 T)).run cx.P w=.ok vs w/\dL w (ar cx m st.ids) vs (v'::R):=by
   intro b off u R c e U la W lb v' lx
   obtain⟨vs,L,Y⟩:=qi h W
   obtain⟨v0,Z,g,lk,ll⟩:=h.cJ a _ (a8 U)
   obtain⟨lg,lh,_,cells,lm,lc⟩:=h.box (a8 lb)
   have:lg=g:=by rw[lk]at lh;cases lh;rfl
   subst this
   obtain⟨_,ah⟩:=iw (w:=w) (m:=m) off lc
   obtain⟨O,c2,ly,ln,lz,lt⟩:=lx _ ah
   have ld:u.agg=false->0<u.cells:=by
    intro le
    have lo:=da la
    cases u<;>first|(simp[ag.cells];done)|(simp[ag.agg]at le)|(obtain⟨_,_,_,lo⟩:=lo;exact lo.elim)
   obtain⟨v,lp,q⟩:=jm (c:=O) la lm (fun j v lj=>by
    have:(cells.toList.drop off)[j]? =some v:=by rw[ly,List.getElem?_append_left (List.getElem?_eq_some_iff.1 lj).1];exact lj
    rw[List.getElem?_drop]at this
    simpa using this) ((cf v'.t ln).trans lz) ld
   have lq:ba w (ar cx m st.ids) v v'.t v'.x:=by
    cases le:u.agg with
    |true=>rw[le,if_pos rfl]at q;exact(dS (lt.trans le)).2 ⟨O,q,ln⟩
    |false=>rw[le]at q;simp at q;subst q;exact(bD (lt.trans le)).2 ln
   refine⟨v::vs,?_,lq,Y⟩
   have lr:T.getD a undef=.pointer (some ⟨lg,off,none⟩):=by rw[Array.getD_eq_getD_getElem?,Z,ll];rfl
   have lf:(h9 T (.cell a t)).run cx.P w=.ok v w:=by
    show Sem.run cx.P (do loadVar t (<-asAddr (T.getD a undef))) w=_
    rw[Sem.run_bind,lr]
    exact lp w (Ext.refl w)
   rw[List.mapM_cons,Sem.run_bind,lf]
   simp only[Result.andThen_ok,Sem.run_bind,L,Sem.run_pure]
  split at o
  ·rename_i b off u R U la W
   split at o
   ·rename_i c lu lb
    split at o
    ·rename_i x r ls
     cases o
     exact fin b off u R c lu U la W lb ⟨u,x⟩ fun li ah=>by
      obtain⟨O,c2,e,L,_⟩:=oP u ah ls
      exact⟨O,c2,e,L,rfl,rfl⟩
    ·split at o
     ·rename_i v r ls
      cases o
      exact fin b off u R c lu U la W lb v fun li ah=>by
       obtain⟨O,c2,e,L,Y,Z,_⟩:=UU u ah ls
       exact⟨O,c2,e,L,Y,Z⟩
     ·cases o
   ·cases o
  ·rename_i b u R U la W
   split at o
   ·rename_i lE x e lb
    split at o
    ·rename_i y lA lB
     cases o
     have lC:=ak.dd lA
     cases lC
     obtain⟨vs,L,Y⟩:=qi h W
     obtain⟨v0,Z,g,lk,ll⟩:=h.cJ a _ (a8 U)
     obtain⟨lg,lh,_,cells,lm,lc⟩:=h.box (a8 lb)
     have:lg=g:=by rw[lk]at lh;cases lh;rfl
     subst this
     have lD:0<u.cells:=Nat.pos_of_ne_zero (beq_false lB)
     obtain⟨v,lp,q⟩:=jm (off:=0) (c:=cells.toList) la lm (fun j v lj=>by rw[Nat.zero_add,<-Array.getElem?_toList];exact lj) (cf u lc) (fun _=>lD)
     have lq:ba w (ar cx m st.ids) v u y:=by
      cases ld:u.agg with
      |true=>rw[ld,if_pos rfl]at q;exact(dS ld).2 ⟨_,q,lc⟩
      |false=>rw[ld]at q;simp only[Bool.false_eq_true,if_false]at q;rw[q]at lc;exact(bD ld).2 lc
     refine⟨v::vs,?_,lq,Y⟩
     have lr:T.getD a undef=.pointer (some ⟨lg,0,none⟩):=by rw[Array.getD_eq_getD_getElem?,Z,ll];rfl
     have lf:(h9 T (.cell a t)).run cx.P w=.ok v w:=by
      show Sem.run cx.P (do loadVar t (<-asAddr (T.getD a undef))) w=_
      rw[Sem.run_bind,lr]
      exact lp w (Ext.refl w)
     rw[List.mapM_cons,Sem.run_bind,lf]
     simp only[Result.andThen_ok,Sem.run_bind,L,Sem.run_pure]
    ·cases o
   ·cases o
  ·cases o
theorem FV{P:Program}{fn:Func}{T:Array Value}{vs:List Value}(h:(fn.results.toList.mapM (h9 T)).run P w=.ok vs w):
  (results fn T).run P w=.ok (if h:vs.toArray.size=1 then vs.toArray[0]else .tuple vs.toArray) w:=by
 show Sem.run P (do let vs<-fn.results.mapM (h9 T);pure (if h:vs.size=1 then vs[0]else .tuple vs)) w=_
 rw[Array.mapM_eq_mapM_toList,Sem.run_bind]
 have e:(Functor.map List.toArray (fn.results.toList.mapM (h9 T))).run P w=.ok vs.toArray w:=by
  rw[map_eq_pure_bind,Sem.run_bind,h]
  rfl
 rw[e]
 rfl
def pz(P:Program)(fn:Func)(M:Nat->Prop)(w0:World)(ap:List ak):cO:=
 bodyPost P fn fun e w'=>∃v,e=.returned v/\jG w' M v ap/\Ext w0 w'
theorem tl{P:Program}{n:Nat}{M:Nat->Prop}{w0:World}{fn:Func}{ap:List ak}{e:Exit}{m0:Nat->Value}(L:e=.ret\/e=.normal)(O:gP P (jN st) fn.results.toList=some ap):
  N ⟨P,n,w0,M,fun _=>False,m0⟩ (pz P fn M w0 ap) e st:=by
 rintro T w ⟨m,o⟩
 have R:=yR (l:=st.ad) (Al (l:=st.ad) (yZ (l:=st.rw) o))
 obtain⟨vs,U,W⟩:=qi R O
 have Y:=FV U
 have Z:Ext w0 w:={os:=o.frame.os,tape:=o.frame.tape,output:=o.frame.output,size:=o.frame.size,drawn:=o.frame.drawn,block:=fun b q=>o.frame.block b q (fun h=>h)}
 have la:dL w M vs ap:=rg (fun _ _ _=>rfl) (fun b _ q=>.inl q) W
 have lb:jG w M (if h:vs.toArray.size=1 then vs.toArray[0]else .tuple vs.toArray) ap:=by
  match vs,ap,la with
  |[],[],_=>trivial
  |[v],[u],⟨h,_⟩=>exact h
  |v1::v2::vs,ld::le::us,h=>
   have lc:¬(v1::v2::vs).toArray.size=1:=by simp
   rw[dif_neg lc]
   exact⟨_,rfl,h⟩
  |[],_::_,h=>exact h.elim
  |_::_,[],h=>exact h.elim
  |[_],_::_::_,⟨_,h⟩=>exact h.elim
  |_::_::_,[_],⟨_,h⟩=>exact h.elim
 rcases L with rfl|rfl<;>exact⟨rfl,_,Y,_,rfl,lb,Z⟩
theorem enters_of{P:Program}{f:FuncId}{fn:Func}{c:Code}(o:P.funcs[f]? =some fn)(q:(fn.name== "runtime.NumGoroutine")=false)(L:fn.body=some c):
  ∀args w,(callFunc f args).run P w=.ok (.enter f args) w:=by
 intro args w
 have O:fn.name≠ "runtime.NumGoroutine" :=by simpa using q
 simp[callFunc,o,O,L,mark]
theorem zo{P:Program}{G:World->Prop}(R:∀w w',Frame w w' (fun _=>False)->G w->G w'){f:FuncId}{fn:Func}{c:Code}{F:jg}(q:P.funcs[f]? =some fn)(U:(fn.name== "runtime.NumGoroutine")=false)(L:fn.body=some c)
  (shape:∀o ap,F.rel o ap->o.length<=fn.ntmps/\ap.length=F.gz/\(F.flat=true->∀u∈ap,u.t.flat=true))
  (Y:∀(w0:World) (M:Nat->Prop) (o ap:List ak),(∀w,Frame w0 w (fun _=>False)->G w)->F.rel o ap->W ⟨P,fn.ntmps,w0,M,fun _=>False,fun _=>undef⟩ (pz P fn M w0 ap) c ⟨ka 0 o,[],[]⟩):aV P G f F where
 enters:=enters_of q U L
 shape:=fun o ap h=>(shape o ap h).2
 calls:=fun w M vs o ap Z la O lb=>calls_of_wp q L (Y w M o ap (fun w' h=>R w w' h Z) O _ _ (entry la lb (shape o ap O).1))
end Go.Ev
namespace Go.Ev
open Go Go.RowKit
variable [b8]
variable {cx:bB} {st st':af} {E:Env} {Q:cO} {ops:Array Oper} {l:List Oper}
variable [ai cx]
abbrev ax(x:Int):ao:=.val (.int .i64) x
abbrev jB(x:Int):ao:=.val (.int .i32) x
abbrev ft(x:Int):ao:=.val (.int .u32) x
abbrev bR(x:Int):ao:=.val (.int .u8) x
abbrev aY(x:Bool):ao:=.val .bool x
abbrev bj(x:List UInt8):ao:=.val .str x
abbrev jQ(x:Int):ak:=⟨.int .i64,x⟩
abbrev tM(x:Int):ak:=⟨.int .i32,x⟩
abbrev gE(x:Bool):ak:=⟨.bool,x⟩
abbrev rY(x:List UInt8):ak:=⟨.str,x⟩
def CQ{α β o:Type}(v:Sum α β)(f:α->Option o)(g:β->Option o):Option o:=match v with
 |.inl x=>f x
 |.inr y=>g y
theorem ON{α β o:Type}{x:α}{f:α->Option o}{g:β->Option o}{r:o}(h:CQ (.inl x) f g=some r):f x=some r:=h
theorem TP{α β o:Type}{y:β}{f:α->Option o}{g:β->Option o}{r:o}(h:CQ (.inr y) f g=some r):g y=some r:=h
def aj(x:Int):Int:=IntKind.i64.wrap x
def eF(x:Int):Int:=IntKind.u64.wrap x
def cA(x:Int):Int:=IntKind.u32.wrap x
def kB(x:Int):Int:=IntKind.u8.wrap x
theorem Sj(S:Bool->af){b:Bool}(o:b=true->bN cx ops Q l (S true))(q:b=false->bN cx ops Q l (S false)):bN cx ops Q l (S b):=by cases b with|true=>exact o rfl|false=>exact q rfl
theorem Wp(o:bv E cx)(n:Nat)(q bs ap:List Nat){orc:List ak}{ob:List Prop}(L:ke E ops (l.take n) st orc q bs ap=some (st',[],ob))(O:bO ob)(h:bN cx ops Q (l.drop n) st'):bN cx ops Q l st:=by
 obtain⟨s,R,U⟩:=J9 L
 exact rH o n R O (h.norm U)
theorem Kd(o:bv E cx)(q bs ap:List Nat){orc:List ak}{ob:List Prop}(L:ke E ops l st orc q bs ap=some (st',[],ob))(O:bO ob)(h:N cx Q .normal st'):bN cx ops Q l st:=by
 obtain⟨s,R,U⟩:=J9 L
 exact RS o R O (h.norm U)
theorem kx{α:Type}(F:α->Prop)(S:α->af){x y:Code}(o:∀a,F a->W cx Q y (S a))(q:(∀a,F a->N cx (Exit.then (y.wp cx.P Q) Q) .normal (S a))->W cx (Exit.then (y.wp cx.P Q) Q) x st):W cx Q (.seq x y) st:=
 aI (q fun a L=>aM (o a L))
theorem xg{α:Type}(F:α->Prop)(S:α->af)(n:Nat)(o:∀a,F a->bN cx ops Q (l.drop n) (S a))(q:(∀a,F a->N cx (Exit.then (wpList cx.P ops Q (l.drop n)) Q) .normal (S a))->bN cx ops (Exit.then (wpList cx.P ops Q (l.drop n)) Q) (l.take n) st):bN cx ops Q l st:=by
 intro T w L
 have:=rz (P:=cx.P) (ops:=ops) (Q:=Q) (l1:=l.take n) (l2:=l.drop n) (q (fun a O=>Ta (o a O)) T w L)
 rwa [List.take_append_drop]at this
def aL(p:Prop)[Decidable p]:Option Unit:=if p then some ()else none
theorem dj{p:Prop}[Decidable p]{x:Unit}(h:aL p=some x):p:=by
 unfold aL at h
 split at h
 ·assumption
 ·cases h
theorem HB{g e:Bool}(h:g=true):(g||e)=true:=by rw[h,Bool.true_or]
theorem E3{g e:Bool}(h:g=false):(g||e)=e:=by rw[h,Bool.false_or]
theorem bind_some{α β:Type}{aa:Option α}{f:α->Option β}{r:β}(h:aa.bind f=some r):∃x,aa=some x/\f x=some r:=Option.bind_eq_some_iff.1 h
theorem eh{α:Type}{b:Bool}{x y:α}{r:α}(o:b=true)(h:(if b then x else y)=r):x=r:=by rw[<-h,if_pos o]
theorem eg{α:Type}{b:Bool}{x y:α}{r:α}(o:b=false)(h:(if b then x else y)=r):y=r:=by rw[<-h,if_neg (by rw[o];decide)]
theorem bv.nil{P:Program}{G:World->Prop}{n:Nat}{cx:bB}(o:cx.P=P)(q:cx.n=n)(L:∀w,Frame cx.w0 w cx.X->G w):bv ⟨P,G,n,[]⟩ cx:=⟨o,q,L,fun _ _ h=>by cases h⟩
theorem bv.cons{P:Program}{G:World->Prop}{n:Nat}{fns:List (Nat×jg)}{cx:bB}{f:Nat}{F:jg}(q:aV P G f F)(h:bv ⟨P,G,n,fns⟩ cx):bv ⟨P,G,n,(f,F)::fns⟩ cx:=
 ⟨h.P,h.n,h.rn,fun g G o=>by rcases List.mem_cons.1 o with o|o;cases o;exact q;exact h.fns g G o⟩
/-! Slices of maps; maps of one entry at most. -/
def iB{α:Type}(xs:List (Option (Option α)))(i:Int):Option (Option α):=
 match xs[i.toNat]? with
 |some (some y)=>some y
 |_=>none
theorem jH{α:Type}{xs:List (Option (Option α))}{i:Int}{y:Option α}(h:iB xs i=some y):xs[i.toNat]? =some (some y):=by
 unfold iB at h
 split at h
 ·cases h;assumption
 ·cases h
def kX{α:Type}(xs:List (Option (Option α)))(i:Int):Option α:=
 match xs[i.toNat]? with
 |some (some (some y))=>some y
 |_=>none
theorem nX{α:Type}{xs:List (Option (Option α))}{i:Int}{y:α}(h:kX xs i=some y):xs[i.toNat]? =some (some (some y)):=by
 unfold kX at h
 split at h
 ·cases h;assumption
 ·cases h
theorem FW{α:Type}(z:α){n:Int}(h:0<n):List.replicate n.toNat z=List.replicate (List.length (List.replicate n.toNat z)) z/\0<List.length (List.replicate n.toNat z):=by
 rw[List.length_replicate]
 exact⟨rfl,by omega⟩
def oq{α β:Type}(l:List α)(a:Option β)(f:α->Option β):Option β:=
 match l with
 |[]=>a
 |[p]=>f p
 |_=>none
theorem vA{α β:Type}{l:List α}{a:Option β}{f:α->Option β}{y:β}(h:oq l a f=some y):(l=[]/\a=some y)\/∃p,l=[p]/\f p=some y:=by
 unfold oq at h
 split at h
 ·exact .inl ⟨rfl,h⟩
 ·exact .inr ⟨_,rfl,h⟩
 ·cases h
end Go.Ev
namespace Go.Ev
open Go
def utf8_DecodeRuneInString(o:Nat)(s:List UInt8):Option (Int×Int):=some (((Lib.decodeGo ⟨s.toArray⟩).1:Int),((Lib.decodeGo ⟨s.toArray⟩).2:Int))
/-! The builder. -/
def zU(o:Nat)(q:List Int):Option Unit:=some ()
def rj(o:Nat)(l:List Int):Option (List UInt8):=if eH (fa l)=l then some (fa l)else none
end Go.Ev
namespace Go.Ev
open Go Go.RowKit
variable [b8]
variable {cx:bB} {m:Nat->Value} {st st':af} {T:Array Value} {w w':World} {E:Env} {Q:cO} {ops:Array Oper} {l:List Oper}
variable [ai cx]
theorem IB{w w':World}{M M':Nat->Prop}:∀{vs o:List Value} {l:List ak},(∀u∈l,u.t.flat=true)->dL w M vs l->dL w' M' o l->vs=o
 |[],[],[],_,_,_=>rfl
 |[],_,_::_,_,h,_=>h.elim
 |_::_,_,[],_,h,_=>h.elim
 |_,[],_::_,_,_,h=>h.elim
 |_,_::_,[],_,_,h=>h.elim
 |_::_,_::_,u::_,q,⟨L,O⟩,⟨R,U⟩=>by
  rw[kS (q u List.mem_cons_self) L R,IB (fun x W=>q x (List.mem_cons_of_mem _ W)) O U]
def oT:List ak->Bool
 |[]=>false
 |l=>l.all fun u=>u.t.flat
theorem Ov{w w':World}{M M':Nat->Prop}{m ay:Nat->Value}{v v':Value}{l:List ak}(o:oT l=true)(h:aS w M m v (rF l))(h':aS w' M' ay v' (rF l)):v=v':=by
 match l,o,h,h' with
 |[u],o,h,h'=>exact kS (by simpa[oT]using o) h h'
 |O::R::us,o,⟨vs,e,h⟩,⟨U,q,h'⟩=>
  rw[e,q,IB (fun u L=>by simp only[oT,List.all_eq_true]at o;exact o u L) h h']
def fE(E:Env)(st:af)(aa:Oper)(orc:List ak):Option dw:=
 match dv E.P st aa.op orc with
 |some r=>some r
 |none=>match o2 E.P st aa orc with
 |some r=>some r
 |none=>match aa.op with
  |.load t x=>pI E.P st t x orc
  |.call c=>match c.callee with
   |.value x=>match pP E st x with
    |some (_,F,_)=>bif F.flat&&oT (orc.take F.gz)then kN E st c orc else none
    |none=>none
   |_=>none
  |_=>none
def fX(E:Env)(ops:Array Oper):List Oper->af->List ak->Option (af×List ak×List Prop)
 |[],st,orc=>some (st,orc,[])
 |aa::l,st,orc=>match eb ops st aa with
  |some true=>match aa.dst,fE E st aa orc with
   |some d,some r=>match Nat.blt d E.n,fX E ops l (st.put d r.aO) r.orc with
    |true,some (o,q,L)=>some (o,q,r.ob++L)
    |_,_=>none
   |_,_=>none
  |some false=>match aa.dst with
   |some d=>match Nat.blt d E.n with
    |true=>fX E ops l (st.put d .undef) orc
    |false=>none
   |none=>fX E ops l st orc
  |none=>none
theorem Qg{P:Program}{f:FuncId}{args:Array Value}{al:Ending->World->Prop}(h:Calls P f args w al):∃e w',al e w':=by
 obtain⟨e,w',az,o,_⟩:=h []
 exact⟨e,w',o⟩
theorem CU(O:bv E cx)(h:an cx m st T w){aa:Oper}{orc:List ak}{r:dw}(o:fE E st aa orc=some r)(R:bO r.ob):
  ∃v,(∀w',Ext w w'->aa.quietAt cx.P ⟨T,ai.D cx⟩ (Ext w) w' v)/\aS w (ar cx m st.ids) m v r.aO:=by
 unfold fE at o
 split at o
 ·rename_i lh U
  cases o
  rw[<-O.P]at U
  obtain⟨v,ah,q⟩:=ya h U R
  refine⟨v,fun w' L=>?_,q⟩
  unfold Oper.quietAt
  rw[ah w' L]
  exact⟨rfl,rfl⟩
 ·split at o
  ·rename_i lh U
   cases o
   rw[<-O.P]at U
   obtain⟨v,lb,q⟩:=CJ h U R
   refine⟨v,fun w' L=>?_,q⟩
   unfold Oper.quietAt
   rw[lb w' L]
   exact⟨rfl,rfl⟩
  split at o
  ·rename_i t x Z
   rw[<-O.P]at o
   obtain⟨v,lb,q⟩:=ER h o R
   refine⟨v,fun w' L=>?_,q⟩
   unfold Oper.quietAt
   rw[cn (by simp only[execOp,Z]) (lb w' L)]
   exact⟨rfl,rfl⟩
  ·rename_i c Z
   split at o
   ·rename_i lq li
    split at o
    ·rename_i f F lr lj
     cases W:F.flat&&oT (orc.take F.gz)with
     |false=>rw[W]at o;cases o
     |true=>
      rw[W,cond_true]at o
      simp only[Bool.and_eq_true]at W
      have le:r.aO=rF (orc.take F.gz):=by
       unfold kN at o
       rw[li]at o
       simp only[lj]at o
       split at o
       ·cases lf:Nat.ble F.gz orc.length with
        |false=>rw[lf]at o;cases o
        |true=>rw[lf]at o;cases o;rfl
       ·cases o
      obtain⟨f0,args,ls,lk⟩:=rm O h Z o R
      obtain⟨e,lt,v,_,lu,q⟩:=Qg lk
      refine⟨v,fun w' L=>?_,?_⟩
      ·obtain⟨f1,lv,ll,lm⟩:=rm O (h.ext L) Z o R
       unfold Oper.quietAt
       rw[ll w']
       refine⟨rfl,lm.mono ?_⟩
       rintro lw lx ⟨v',ln,lo,lg⟩
       rw[le]at q lg
       refine⟨?_,L.trans lo⟩
       rw[ln,Ov W.2 lg q]
      ·rw[le]at q⊢
       have Y:∀u∈orc.take F.gz,u.t.flat=true:=by
        have lc:=W.2
        intro u la
        cases ld:orc.take F.gz with
        |nil=>rw[ld]at la;simp at la
        |cons a ly=>rw[ld]at lc la;simp only[oT,List.all_eq_true]at lc;exact lc u la
       match ld:orc.take F.gz,Y,q with
       |[],_,_=>trivial
       |[u],Y,q=>exact w5 (Y u List.mem_cons_self) q
       |_::_::_,Y,⟨vs,e,lp⟩=>exact⟨vs,e,D3 Y lp⟩
    ·cases o
   ·cases o
  ·cases o
theorem mJ(q:bv E cx){Q':Act->Prop}:∀{l:List Oper} {st:af} {T:Array Value} {orc orc':List ak} {st':af} {ob:List Prop},al cx st T w->fX E ops l st orc=some (st',orc',ob)->bO ob->
  (∀Y,al cx st' Y w->Q' ⟨Y,ai.D cx⟩)->wpQuiet cx.P ops (Ext w) Q' l ⟨T,ai.D cx⟩
 |[],st,T,_,_,_,_,h,o,_,L=>by
  cases o
  exact L T h
 |aa::l,st,T,orc,orc',st',ob,h,o,R,L=>by
  unfold fX at o
  unfold wpQuiet
  split at o
  ·rename_i U
   rw[il h U]
   simp only[if_true]
   split at o
   ·rename_i d r ah Z
    split at o
    ·rename_i le lf lg W la
     cases o
     obtain⟨lb,lc⟩:=nh R
     obtain⟨m,O⟩:=h
     obtain⟨v,aK,ld⟩:=CU q O Z lb
     refine⟨v,aK,?_⟩
     rw[ah]
     exact mJ q ⟨m,O.put (by rw[q.n];exact cK W) ld⟩ la lc L
    ·cases o
   ·cases o
  ·rename_i U
   rw[il h U]
   simp only[Bool.false_eq_true,if_false]
   split at o
   ·rename_i d ah
    split at o
    ·rename_i W
     obtain⟨m,O⟩:=h
     rw[ah]
     exact mJ q ⟨m,O.put (d:=d) (s:=.undef) (v:=undef) (by rw[q.n];exact cK W) rfl⟩ o R L
    ·cases o
   ·rename_i ah
    rw[ah]
    exact mJ q h o R L
  ·cases o
def CG(cx:bB)[ai cx](ops:Array Oper)(Q:cO)(l:List Oper)(st:af):Prop:=∀T w,al cx st T w->wpQuiet cx.P ops (Ext w) (fun a=>∀w',Ext w w'->Q .normal a w') l ⟨T,ai.D cx⟩
theorem Cd{E:Env}(o:bv E cx){id:Nat}{l:List Oper}(q:E.P.follows .mixedOrders=true)(L:Region.lexB .any l.toArray=true)(h:CG cx l.toArray Q l st):W cx Q (.region id l.toArray true) st:=fun T w O=>
 wp_region_quiet (C:=Ext w) (o.P▸q) L {os:=rfl,tape:=rfl,output:=rfl,size:=Nat.le_refl _,drawn:=fun _=>Nat.le_succ _,block:=fun _ _=>rfl} (by simpa using h T w O)
theorem al.ext(h:al cx st T w)(o:Ext w w'):al cx st T w':=let⟨m,q⟩:=h;⟨m,q.ext o⟩
theorem kQ{P:Program}{C:World->Prop}{Q':Act->Prop}:∀{l1 l2:List Oper} {a:Act},wpQuiet P ops C (wpQuiet P ops C Q' l2) l1 a->wpQuiet P ops C Q' (l1++l2) a
 |[],_,_,h=>h
 |aa::l1,l2,a,h=>by
  simp only[List.cons_append,wpQuiet]at h⊢
  split
  ·rename_i o
   rw[if_pos o]at h
   exact Oper.quiet_mono (fun a=>kQ) h
  ·rename_i o
   rw[if_neg o]at h
   exact kQ h
def qE(E:Env)(ops:Array Oper)(l:List Oper)(st:af)(orc:List ak)(o bs ap:List Nat):Option (af×List ak×List Prop):=
 match fX E ops l st orc with
 |some (s,aa,p)=>match s.norm o bs ap with
  |some q=>some (q,aa,p)
  |none=>none
 |none=>none
theorem O4{orc orc':List ak}{ob:List Prop}{o bs ap:List Nat}(h:qE E ops l st orc o bs ap=some (st',orc',ob)):∃s,fX E ops l st orc=some (s,orc',ob)/\s.norm o bs ap=some st':=by
 unfold qE at h
 split at h
 ·rename_i s aa p q
  split at h
  ·rename_i O L
   cases h
   exact⟨s,q,L⟩
  ·cases h
 ·cases h
theorem U4(o:bv E cx)(q bs ap:List Nat){orc:List ak}{ob:List Prop}(L:qE E ops l st orc q bs ap=some (st',[],ob))(O:bO ob)(h:N cx Q .normal st'):CG cx ops Q l st:=by
 obtain⟨s,R,U⟩:=O4 L
 intro T w W
 exact mJ o W R O fun Y Z w' la=>h Y w' ((Z.norm U).ext la)
def oX(cx:bB)[ai cx](K:World->Act->Prop)(st:af):Prop:=∀T w,al cx st T w->K w ⟨T,ai.D cx⟩
def nr(cx:bB)[ai cx](ops:Array Oper)(K:World->Act->Prop)(l:List Oper)(st:af):Prop:=∀T w,al cx st T w->wpQuiet cx.P ops (Ext w) (K w) l ⟨T,ai.D cx⟩
end Go.Ev
namespace Go.Ev
open Go Go.Proofs Go.Shelf
set_option maxRecDepth 100000
def am:World->Prop:=fun w=>Lib.Utf8Tabs 0 1 w/\(0<w.heap.size/\1<w.heap.size)
theorem GC{w:World}{p:Addr}{v:Value}(h:w.cell? p=some v):p.block<w.heap.size:=by
 refine Nat.lt_of_not_le fun o=>?_
 have:w.heap[p.block]? =none:=Array.getElem?_eq_none o
 simp[World.cell?,this]at h
theorem N9{w:World}(h:Lib.Utf8Tabs 0 1 w):am w:=
 ⟨h,GC (h.1 0 (by decide)),GC (h.2 0 (by decide)).1⟩
theorem bf:∀w w',Frame w w' (fun _=>False)->am w->am w':=by
 rintro w w' o ⟨⟨R,U⟩,q,L⟩
 have W:∀c,w'.cell? ⟨0,c,none⟩=w.cell? ⟨0,c,none⟩:=fun c=>World.cell?_of_block (w:=w) (o.block _ q id)
 have O:∀c,w'.cell? ⟨1,c,none⟩=w.cell? ⟨1,c,none⟩:=fun c=>World.cell?_of_block (w:=w) (o.block _ L id)
 refine⟨⟨fun c Y=>by rw[W];exact R c Y,fun i Z=>by rw[O,O];exact U i Z⟩,Nat.lt_of_lt_of_le q o.size,Nat.lt_of_lt_of_le L o.size⟩
def yB(k:Nat):jg:=⟨true,2,[],fun|[⟨.str,s⟩],[⟨.int .i32,r⟩,⟨.int .i64,n⟩]=>utf8_DecodeRuneInString k s=some (r,n)|_,_=>False⟩
theorem WK(k:Nat):aV Tryz.prog am 158 (yB k) where
 enters:=enters_of Tryz.func158 (by kernel_rfl) rfl
 shape:=fun xs ap h=>by
  unfold yB at h
  simp only at h
  split at h
  ·exact⟨rfl,fun _ u q=>by simp at q;(rcases q with rfl|rfl)<;>rfl⟩
  ·exact h.elim
 calls:=fun w M vs xs ap L U h o=>by
  unfold yB at h
  simp only at h
  split at h
  case h_2=>exact h.elim
  rename_i s r n
  match vs,o with
  |[v],⟨o,_⟩=>
   have O:v=.string ⟨s.toArray⟩:=by
    have:=(show aH w M .str [v] s from o).1
    simpa using this
   subst O
   refine(Any.utf8_DecodeRuneInString OG ⟨s.toArray⟩ w L.1).mono ?_
   rintro e w' ⟨rfl,R⟩
   cases h
   exact⟨_,rfl,⟨[_,_],rfl,rfl,rfl,trivial⟩,Ext.BW R fun h=>h.elim⟩
theorem TN:U8Extra Tryz.prog HG:=⟨by kernel_rfl,by kernel_rfl,by kernel_rfl,by kernel_rfl,by kernel_rfl,by kernel_rfl,by kernel_rfl⟩
theorem P2{w:World}(o:Lib.VarReads Tryz.prog w "unicode/utf8.first" Lib.firstData)(q:Lib.VarReads Tryz.prog w "unicode/utf8.acceptRanges" Lib.acceptData):am w:=
 N9 (utf8Tabs_of_reads SB TN o q)
end Go.Ev
