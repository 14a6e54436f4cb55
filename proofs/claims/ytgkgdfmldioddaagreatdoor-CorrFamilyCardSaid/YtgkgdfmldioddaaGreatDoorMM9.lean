/- slices.SortedFunc over maps.Keys: a contract for calls by the evaluator. -/
import Derived.Test.YtgkgdfmldioddaaGreatDoorMM8
import Derived.Test.YtgkgdfmldioddaaGreatDoorMM6
import Derived.Test.YtgkgdfmldioddaaGreatDoorCtCs
import Derived.Lib.QuietBelow
import Derived.Test.YtgkgdfmldioddaaGreatDoorMM4
import Derived.Lib.DecodeN
import Derived.Test.YtgkgdfmldioddaaGreatDoorMM7
import Derived.Test.YtgkgdfmldioddaaGreatDoorTyA
set_option linter.unusedSectionVars false
set_option linter.unusedVariables false
set_option linter.unusedSimpArgs false
namespace Go.Ev
open Go Go.Proofs Go.RowKit Go.Sort
set_option maxRecDepth 100000
set_option maxHeartbeats 1000000
abbrev jA:ag:=.pair (.int .i32) (.pair (.int .i32) .unit)
theorem zR{w:World}{M:Nat->Prop}{cs:List Value}{x:Int×Int×Unit}:aF w M jA cs x↔cs=[.int .i32 x.1,.int .i32 x.2.1]:=by
 constructor
 ·rintro⟨c1,c2,rfl,h1,c3,c4,rfl,o,O⟩
  have h1:c1=[.int .i32 x.1]:=h1
  have o:c3=[.int .i32 x.2.1]:=o
  have O:c4=[]:=O
  rw[h1,o,O];rfl
 ·rintro rfl
  exact⟨[_],[_],rfl,rfl,[_],[],rfl,rfl,rfl⟩
theorem Fe{w:World}{M:Nat->Prop}{v:Value}{x:Int×Int×Unit}:a8 w M v jA x↔v=fr x:=by
 show(∃o:List Value,v=.agg o.toArray/\aF w M jA o x)↔_
 constructor
 ·rintro⟨o,rfl,h⟩
  rw[zR.1 h];rfl
 ·rintro rfl
  exact⟨_,rfl,zR.2 rfl⟩
theorem Mp{w:World}{M:Nat->Prop}{o:Value->Int->Prop}:∀{es:List MapEntry} {ps:List ((Int×Int×Unit)×Int)},dX (dL w M jA) o es ps->es.map (·.key)=(ps.map (·.1)).map fr
 |[],[],_=>rfl
 |[],_::_,h=>h.elim
 |_::_,[],h=>h.elim
 |e::es,p::ps,⟨h1,_,O⟩=>by
  rw[List.map_cons,List.map_cons,List.map_cons,Mp O,Fe.1 h1]
theorem Xg{n:Nat}{vs:List Value}{u v:Value}(h1:vs.length=2)(h:(vs.toArray++Array.replicate (n-vs.toArray.size) undef)[0]? =some u)(h':(vs.toArray++Array.replicate (n-vs.toArray.size) undef)[1]? =some v):vs=[u,v]:=by
 match vs,h1 with
 |[a,b],_=>
  rw[Array.getElem?_append_left (by simp)]at h h'
  simp at h h'
  rw[h,h']
theorem G8{w:World}{M:Nat->Prop}:∀l:List (Int×Int×Unit),bD (aF w M jA) (l.flatMap ce) l
 |[]=>rfl
 |x::l=>⟨ce x,l.flatMap ce,rfl,zR.2 rfl,G8 l⟩
def mD(k:Nat):cJ (List ((Int×Int×Unit)×Int)×List (Int×Int)) (List (Int×Int×Unit)) where
 n:=12
 S:=fun z=>⟨[(0,.clos 107 [12]),(1,.clos 77 [14,15])],
  [(12,.cells [.iter 13] 145),(13,.mp jA (.int .i64) z.1),(14,.cells [.iter 13] 145),(15,.cells [.iter 16] 93),(16,.mp (.int .i32) (.int .i64) z.2)],[]⟩
 be:=fun z y=>⟨[],[(12,.cells [.iter 13] 145),(13,.mp jA (.int .i64) z.1),(14,.cells [.iter 13] 145),(15,.cells [.iter 16] 93),(16,.mp (.int .i32) (.int .i64) z.2)],[(17,⟨54,jA,y⟩)]⟩
 ar:=fun _ _=>[.row 17]
 rel:=fun z y=>k8 k z.1 z.2=some y
theorem EX{cx:bB}{m:Nat->Value}{st:ae}{T:Array Value}{w:World}(h:am cx m st T w){b r e:Nat}(o:(b,bL.cells [.iter r] e)∈st.ad):∃g,m b=.pointer (some ⟨g,0,none⟩)/\w.heap[g]? =some (.cells #[m r] e (0,0)):=by
 obtain⟨g,O,_,cells,U,W⟩:=h.box o
 match Y:cells.toList,W with
 |[v],⟨h1,_⟩=>
  have h1:v=m r:=h1
  have:cells=#[v]:=Array.ext' (by rw[Y])
  exact⟨g,O,by rw[U,this,h1]⟩
theorem GP{cx:bB}{m:Nat->Value}{st:ae}{T:Array Value}{w:World}(h:am cx m st T w){b:Nat}{k v:ag}{ps:List (k.el×v.el)}(o:(b,bL.mp k v ps)∈st.ad):
  ∃g es clock,m b=.map (some g)/\w.heap[g]? =some (.map es clock)/\(∀e∈es.toList,e.born<clock)/\(es.toList.map (·.born)).Nodup/\dX (dL w (ap cx m st.ids) k) (dL w (ap cx m st.ids) v) es.toList ps:=by
 obtain⟨g,O,_,es,clock,U,W,Y,Z⟩:=h.box o
 exact⟨g,es,clock,O,U,W,Y,Z⟩
theorem Vc(k:Nat):cF Tryz.prog pa 75 (mD k) where
 enters:=enters_of Tryz.func75 (by kernel_rfl) rfl
 calls:=by
  rintro cx lU lV lW z y lz vs w lA ⟨m,U⟩
  obtain⟨v0,lB,li⟩:=U.cI 0 (.clos 107 [12]) List.mem_cons_self
  obtain⟨v1,lC,lj⟩:=U.cI 1 (.clos 77 [14,15]) (List.mem_cons_of_mem _ List.mem_cons_self)
  have lD:=Xg (n:=12) lA lB lC
  subst lD
  have li:v0=.func (.func 107) #[] #[m 12]:=li
  have lj:v1=.func (.func 77) #[] #[m 14,m 15]:=lj
  obtain⟨g12,lE,lo⟩:=EX U (b:=12) (r:=13) (e:=145) (by simp[mD])
  obtain⟨g14,lF,lp⟩:=EX U (b:=14) (r:=13) (e:=145) (by simp[mD])
  obtain⟨g15,lG,lq⟩:=EX U (b:=15) (r:=16) (e:=93) (by simp[mD])
  obtain⟨g13,es,clock,lr,lk,lu,n13,lv⟩:=GP U (b:=13) (k:=jA) (v:=.int .i64) (ps:=z.1) (by simp[mD])
  obtain⟨g16,lH,lI,lJ,lw,lK,n16,lL⟩:=GP U (b:=16) (k:=.int .i32) (v:=.int .i64) (ps:=z.2) (by simp[mD])
  have O:k8 k z.1 z.2=some y:=lz
  unfold k8 at O
  cases lc:Nat.blt z.1.length 1000000 with
  |false=>rw[lc]at O;cases O
  |true=>
  rw[lc]at O
  have lc:z.1.length<1000000:=cG lc
  simp only[cond_true]at O
  unfold xi at O
  cases ll:mO (fun x y=>kC k x y (some z.1) (some z.2)) (z.1.map (·.1))with
  |false=>rw[ll]at O;cases O
  |true=>
  rw[ll]at O
  simp only[cond_true,Option.some.injEq]at O
  have lt:∀{g:Nat} {aa:Obj},w.heap[g]? =some aa->g<w.heap.size:=fun h=>(Array.getElem?_eq_some_iff.1 h).1
  have lM:=QA g12 g13 es clock (z.1.map (·.1)) w (lt lo) (by simp[World.cell?,lo,lr]) lk lu n13 (Mp lv) (by rw[List.length_map];exact Nat.le_trans (Nat.le_of_lt lc) (by decide)) (by rw[List.length_map];omega)
   (fun x y=>kC k x y (some z.1) (some z.2)) ll 77 #[m 14,m 15] (@aY.enters nL _ _ _ _ (@CL nL k)) ?hcmp
  case hcmp=>
   intro W lX lY lZ l0 hblk x y n lN
   have lO:=@aY.calls nL _ _ _ _ (@CL nL k) W (fun _=>False) [fr x,fr y,m 14,m 15] (eV (px k).gu (x,y,some z.1,some z.2)) (eV (px k).dZ n) trivial (fun _ h=>h.elim) (JD (F:=px k) (A4 _ _) n lN) ?_
   ·refine Calls.mono (R:=fun e ld=>∃v,e=.returned v/\oQ ld (fun _=>False) v (eV (px k).dZ n)/\@Ext nL W ld) ?_ ?_
    ·exact lO
    ·rintro e ld ⟨v,rfl,Y,lg⟩
     have Y:[v]=[.int .i64 n]:=Y
     refine⟨by simp at Y;rw[Y],?_⟩
     obtain⟨p,Z⟩:=regrown_of_below (@Ext.below nL _ _ lg)
     have af:W.drawn<=ld.drawn:=@Same.drawn nL _ _ (@Ext.toSame nL _ _ lg) trivial
     have l3:ld.drawn=p.d:=by rw[Z];rfl
     refine⟨p.d-W.drawn,p.os,?_⟩
     rw[Z]
     have:W.drawn+(p.d-W.drawn)=p.d:=by omega
     unfold redrawn World.drewN
     rw[this]
   ·have lh:∀{q:ag} {v:Value} {x:q.el},q.flat=true->dL w (ap cx m ((mD k).S z).ids) q v x->dL W (fun _=>False) q v x:=fun lP h=>wq lP h
    refine⟨Fe.2 rfl,Fe.2 rfl,?_,?_,trivial⟩
    ·show aF W _ (.ptr (.map jA (.int .i64))) [m 14] (some z.1)
     refine⟨⟨g14,0,none⟩,[.map (some g13)],by rw[lF],⟨g13,es,clock,rfl,(hblk _ (lt lk)).trans lk,fun h=>h,lu,n13,gH (fun _ _ h=>lh rfl h) (fun _ _ h=>lh rfl h) lv⟩,fun j u o=>⟨?_,fun h=>h⟩⟩
     match j,o with
     |0,o=>
      simp at o
      subst o
      have lm:(⟨g14,0,none⟩:Addr).add 0=⟨g14,0,none⟩:=by unfold Addr.add;split<;>simp_all
      rw[lm]
      simp[World.cell?,hblk _ (lt lp),lp,lr]
     |j+1,o=>simp at o
    ·show aF W _ (.ptr (.map (.int .i32) (.int .i64))) [m 15] (some z.2)
     refine⟨⟨g15,0,none⟩,[.map (some g16)],by rw[lG],⟨g16,lH,lI,rfl,(hblk _ (lt lw)).trans lw,fun h=>h,lK,n16,gH (fun _ _ h=>lh rfl h) (fun _ _ h=>lh rfl h) lL⟩,fun j u o=>⟨?_,fun h=>h⟩⟩
     match j,o with
     |0,o=>
      simp at o
      subst o
      have lm:(⟨g15,0,none⟩:Addr).add 0=⟨g15,0,none⟩:=by unfold Addr.add;split<;>simp_all
      rw[lm]
      simp[World.cell?,hblk _ (lt lq),lq,lJ]
     |j+1,o=>simp at o
  rw[li,lj,lE]
  refine Calls.mono (R:=fun e w'=>∃v,e=.returned v/\w'.ownsRow w.heap.size 54 2 v (z.1.map (·.1)).length ((jY (eh fun x y=>kC k x y (some z.1) (some z.2)) (z.1.map (·.1))).flatMap ce)/\RowKit.Below w.heap.size w w') lM ?_
  rintro e w' ⟨v,rfl,lf,lQ⟩
  rw[O]at lf
  have lR:y.length=(z.1.map (·.1)).length:=by rw[<-O];exact(rV _ _).length_eq
  rw[<-lR]at lf
  have lg:Ext w w':=Ext.wk lQ (fun h=>h.elim)
  have lx:∀g,own v g->w.heap.size<=g/\g<w'.heap.size:=by
   intro g la
   rcases lf.2 with ⟨Y,_⟩|⟨l4,cap,cur,Y,h1,ln,_⟩
   ·rw[Y]at la;cases la
   ·rw[Y]at la;cases la;exact⟨h1,(Array.getElem?_eq_some_iff.1 ln).1⟩
  have ly:am cx m ⟨[],((mD k).S z).ad,[]⟩ _ w:=U.weaken (fun i aJ lS=>by cases lS) (fun p Z=>Z) (fun p Z=>Z) U.keys
  have lT:=ly.dv (r:=17) (u:=v) (w':=w') (c:=⟨54,jA,y⟩) (cells:=y.flatMap ce) (.inr (by decide)) (dm.fresh ly 17 v lg lx) (fun g la=>.inl (Nat.le_trans U.frame.size (lx g la).1)) ⟨lf.1,lf.2.imp id fun⟨g,cap,cur,h1,_,ln⟩=>⟨g,cap,cur,h1,Nat.zero_le _,ln⟩⟩ (G8 y)
  refine⟨v,bo m 17 v,_,rfl,lT,?_⟩
  show v=bo m 17 v 17
  rw[b9]
noncomputable def IS{G:World->Prop}(k:Nat):dp Tryz.prog G (List ((Int×Int×Unit)×Int)×List (Int×Int)) (List (Int×Int×Unit)):=
 ⟨75,mD k,fun st=>bW st [.mp 13 jA (.int .i64),.mp 16 (.int .i32) (.int .i64)],fun z=>k8 k z.1 z.2,cF.weaken (fun _ _=>trivial) (Vc k),fun _ _ h=>h⟩
end Go.Ev
namespace Go.Ev
open Go Go.Proofs
noncomputable def Jv(k:Nat):aZ:=⟨[.str],[.int .i32,.int .i64],[],fun s=>utf8_DecodeRuneInString k s⟩
noncomputable def BX(k:Nat):aL Tryz.prog an:=⟨113,Jv k,Xe (VK k) (Jv k) fun x y h=>h⟩
end Go.Ev
namespace Go.Ev
open Go
set_option linter.unusedVariables false
def eF(s:List UInt8)(i:Nat):Nat:=(s.getD i 0).toNat
theorem xQ(s:List UInt8)(i:Nat):eF s i<256:=UInt8.toNat_lt _
def g(s:List UInt8)(i:Nat):Nat×Nat:=Lib.decodeN (s.length-i) (eF s i) (eF s (i+1)) (eF s (i+2)) (eF s (i+3))
def bad(s:List UInt8)(i:Nat):Bool:=decide ((g s i).1=65533)&&decide ((g s i).2=1)
theorem uw(s:List UInt8)(i:Nat):Utf8.decode ⟨s.toArray⟩ i=g s i:=by
 rw[Lib.decode_at]
 have e:∀j,(ByteArray.get! ⟨s.toArray⟩ j).toNat=eF s j:=by
  intro j
  unfold eF ByteArray.get!
  show(s.toArray[j]!).toNat=_
  by_cases o:j<s.length
  ·simp[o]
  ·simp[o,List.getD_eq_getElem?_getD]
   rfl
 simp only[e]
 rfl
theorem oa(s:List UInt8)(i:Nat)(h:i<s.length):1<=(g s i).2/\i+(g s i).2<=s.length/\(g s i).2<=4:=by
 unfold g Lib.decodeN
 repeat' split
 all_goals simp only;omega
theorem zW(s:List UInt8)(p:Nat):im s p=((g s p).1:Int):=by
 unfold im
 show((Utf8.decode ⟨s.toArray⟩ p).1:Int)=_
 rw[uw]
theorem mg(s:List UInt8)(p:Nat):kH s p=(g s p).2:=by
 unfold kH
 show(Utf8.decode ⟨s.toArray⟩ p).2=_
 rw[uw]
theorem dl{x:Int}(h:-9223372036854775808<=x/\x<9223372036854775808):ai x=x:=by
 unfold ai IntKind.wrap
 simp[IntKind.bits,IntKind.signed]
 omega
theorem bu{n:Nat}(h:n<9223372036854775807):ai ((n:Int)+1)=((n+1:Nat):Int):=by rw[dl (by omega)];omega
theorem cO{p:Prop}[Decidable p](h:p):aG p=some ():=by unfold aG;rw[if_pos h]
theorem rA{α:Type}{l:List α}{i:Nat}:ao l (i:Int)=l[i]? :=by
 unfold ao
 rw[if_pos (by omega),Int.toNat_natCast]
theorem dt{α:Type}{l:List α}{i:Nat}(h:i<l.length):ao l (i:Int)=some (l[i]'h):=by rw[rA,List.getElem?_eq_getElem h]
theorem z8{α:Type}{l:List α}{i:Int}(o:0<=i)(h:i<l.length):ao l i=some (l[i.toNat]'(by omega)):=by
 unfold ao
 rw[if_pos o,List.getElem?_eq_getElem]
theorem zg{s:List UInt8}{i:Nat}(h:i<s.length):fH s (i:Int)=some ((s[i]'h).toNat:Int):=by
 unfold fH
 rw[dt h]
theorem HP{α:Type}{s:List α}{b:Nat}(h:b<=s.length):dK s 0 (b:Int)=some (s.take b):=by
 unfold dK
 rw[if_pos (by omega),Int.toNat_natCast]
 rfl
theorem na{α:Type}{s:List α}{p:Nat}(h:p<=s.length):dK s (p:Int) (s.length:Int)=some (s.drop p):=by
 unfold dK
 rw[if_pos (by omega),Int.toNat_natCast,Int.toNat_natCast,List.take_length]
theorem QP(x:List UInt8):fz (dF x)=x:=by
 unfold fz dF
 rw[List.map_map]
 have:((fun n:Int=>UInt8.ofNat n.toNat)∘fun b:UInt8=>(b.toNat:Int))=id:=by
  funext b
  simp
 rw[this,List.map_id]
theorem Sr(a b:List UInt8):dF a++dF b=dF (a++b):=by simp[dF]
theorem Im(a:List UInt8):(dF a).length=a.length:=by simp[dF]
end Go.Ev
namespace Go.Ev
open Go
set_option linter.unusedVariables false
def bY{α:Type}(x:Option α):Prop:=∃v,x=some v
theorem bR{α:Type}(v:α):bY (some v):=⟨v,rfl⟩
theorem cS{α β:Type}{x:Option α}{f:α->Option β}(o:bY x)(O:∀v,x=some v->bY (f v)):bY (Option.bind x f):=by
 obtain⟨v,rfl⟩:=o
 exact O v rfl
theorem cu{α:Type}{c:Bool}{a b:Option α}(h1:c=true->bY a)(o:c=false->bY b):bY (if c then a else b):=by
 cases c with
 |true=>rw[if_pos rfl];exact h1 rfl
 |false=>rw[if_neg (by simp)];exact o rfl
theorem fO{α:Type}{p:Prop}[Decidable p]{a b:Option α}(h1:p->bY a)(o:¬p->bY b):bY (if decide p then a else b):=
 cu (fun h=>h1 (of_decide_eq_true h)) (fun h=>o (of_decide_eq_false h))
theorem sx{p:Prop}[Decidable p](h:p):bY (aG p):=⟨(),cO h⟩
theorem jx{α:Type}{l:List α}{i:Nat}(h:i<l.length):bY (ao l (i:Int)):=⟨_,dt h⟩
theorem RT{α:Type}{l:List α}{i:Int}(o:0<=i)(h:i<l.length):bY (ao l i):=⟨_,z8 o h⟩
theorem MG{α β:Type}{L:Nat->Int->α->Option β}{len:Nat}(Z:len<4611686018427387904)(O:Nat->α->Prop)
  (step:∀n i s,O i s->i<=len->(∀o,i<len->O (i+1) o->bY (L n (ai ((i:Int)+1)) o))->bY (L (n+1) (i:Int) s)):∀n i s,i<=len->len-i<n->O i s->bY (L n (i:Int) s):=by
 intro n
 induction n with
 |zero=>intro i s _ h;omega
 |succ n U=>
  intro i s h1 la W
  refine step n i s W h1 fun o lc Y=>?_
  rw[bu (by omega)]
  exact U (i+1) o (by omega) (by omega) Y
theorem nJ{β:Type}{L:Nat->Int->Option β}{len:Nat}(O:len<4611686018427387904)
  (step:∀n i,i<=len->(i<len->bY (L n (ai ((i:Int)+1))))->bY (L (n+1) (i:Int))):∀n i,i<=len->len-i<n->bY (L n (i:Int)):=by
 intro n
 induction n with
 |zero=>intro i _ h;omega
 |succ n o=>
  intro i h1 U
  refine step n i h1 fun W=>?_
  rw[bu (by omega)]
  exact o (i+1) (by omega) (by omega)
theorem LM{o:List Bool}(O:o.length=256)(b:UInt8)(k:Nat):bY (pZ k o (b.toNat:Int)):=by
 unfold pZ
 exact cS (jx (by rw[O];exact UInt8.toNat_lt b)) fun v _=>bR _
theorem OU{o:List Bool}(O:o.length=256):∀n (s:List UInt8),s.length<n->s.length<4611686018427387904->∃v,oN 80000 o n s=some v/\v.length<=s.length:=by
 intro n
 induction n with
 |zero=>intro s h;omega
 |succ n U=>
  intro s h Z
  unfold oN DM uA
  by_cases la:0<s.length
  ·rw[if_pos (by simp only[decide_eq_true_eq];omega),show ai ((s.length:Int)-1)=((s.length-1:Nat):Int) by rw[dl (by omega)];omega,zg (by omega)]
   simp only[Option.bind_some]
   obtain⟨v,W⟩:=LM O (s[s.length-1]'(by omega)) 80000
   rw[W]
   simp only[Option.bind_some]
   cases v with
   |false=>exact⟨s,rfl,Nat.le_refl _⟩
   |true=>
    rw[if_neg (by simp),HP (by omega)]
    simp only[Option.bind_some]
    obtain⟨v,h1,Y⟩:=U (s.take (s.length-1)) (by rw[List.length_take];omega) (by rw[List.length_take];omega)
    exact⟨v,h1,Nat.le_trans Y (by rw[List.length_take];omega)⟩
  ·rw[if_neg (by simp only[decide_eq_true_eq];omega)]
   exact⟨s,rfl,Nat.le_refl _⟩
theorem WU{o:List Bool}(U:o.length=256):∀n (s:List UInt8),s.length<n->bY (pX 80000 o n s):=by
 intro n
 induction n with
 |zero=>intro s h;omega
 |succ n W=>
  intro s h
  unfold pX AI sS
  by_cases O:0<s.length
  ·rw[if_pos (by simp only[decide_eq_true_eq];omega),show(0:Int)=((0:Nat):Int)from rfl,zg O]
   simp only[Option.bind_some]
   obtain⟨v,Y⟩:=LM U (s[0]'O) 80000
   rw[Y]
   simp only[Option.bind_some]
   cases v with
   |false=>exact bR _
   |true=>
    rw[if_neg (by simp),show(1:Int)=((1:Nat):Int)from rfl,na (by omega)]
    simp only[Option.bind_some]
    exact W _ (by rw[List.length_drop];omega)
  ·rw[if_neg (by simp only[decide_eq_true_eq];omega)]
   exact bR _
theorem L3{cut:List UInt8}{o:List Bool}(U:rR 80000 cut=some (o,true))(O:o.length=256)(h1:cut.length≠1)(Y:cut≠[]){s:List UInt8}(W:s.length<80000):bY (oM 80000 s cut):=by
 unfold oM B8
 refine cu (fun _=>bR _) fun _=>?_
 rw[if_neg (by simp only[beq_iff_eq];omega)]
 unfold tj
 rw[if_neg (by simp),U]
 simp only[Option.bind_some,if_true]
 unfold wO yE
 obtain⟨v,h1,Z⟩:=OU O 80000 s W (by omega)
 rw[h1]
 simp only[Option.bind_some]
 exact cS (WU O 80000 v (by omega)) fun v _=>bR _
def kE:List UInt8:=[97,98,99,100,101,102,103,104,105,106,107,108,109,110,111,112,113,114,115,116,117,118,119,120,121,122]
def zH:List UInt8:=[97,98,99,100,101,102,103,104,105,106,107,108,109,110,111,112,113,114,115,116,117,118,119,120,121,122,48,49,50,51,52,53,54,55,56,57,45]
def nb(o:List UInt8):List Bool:=(List.range 256).map fun i=>o.contains (UInt8.ofNat i)
theorem IN(o:List UInt8):(nb o).length=256:=by simp[nb]
set_option maxRecDepth 100000 in
theorem Kc:rR 80000 kE=some (nb kE,true):=by decide+kernel
set_option maxRecDepth 100000 in
theorem QL:rR 80000 zH=some (nb zH,true):=by decide+kernel
theorem OM(s:List UInt8):∃b,qE 80000 s=some b/\(b=true->s.length<=32):=by
 unfold qE
 by_cases h:s≠[]/\s.length<=32
 ·rw[show((!(s==([]:List UInt8)))&&decide ((s.length:Int)<=32))=true by simp[h.1];omega]
  unfold D6
  rw[if_pos rfl]
  obtain⟨v,o⟩:=L3 Kc (IN _) (by simp[kE]) (by simp[kE]) (s:=s) (by omega)
  rw[show([97,98,99,100,101,102,103,104,105,106,107,108,109,110,111,112,113,114,115,116,117,118,119,120,121,122]:List UInt8)=kE from rfl,o]
  exact⟨_,rfl,fun _=>h.2⟩
 ·rw[show((!(s==([]:List UInt8)))&&decide ((s.length:Int)<=32))=false by
   rw[Bool.eq_false_iff]
   intro q
   simp only[Bool.and_eq_true,Bool.not_eq_true',beq_eq_false_iff_ne,ne_eq,decide_eq_true_eq]at q
   exact h ⟨q.1,by omega⟩]
  exact⟨false,rfl,fun q=>by cases q⟩
theorem HW(s:List UInt8):bY (wj 80000 s):=by
 unfold wj
 refine fO (fun h=>?_) fun _=>bR _
 refine cS (L3 QL (IN _) (by simp[zH]) (by simp[zH]) (by omega)) fun v _=>bR _
theorem Wb(k:Nat)(r:Int):bY (qp k r):=by
 unfold qp
 repeat' first
  |exact bR _
  |(refine cu (fun _=>?_) fun _=>?_)
  |(unfold sk)
  |(unfold pF)
  |(unfold CV)
  |(unfold Bd)
  |(unfold o)
theorem wy(k:Nat)(a:List (List UInt8)×List ee×Unit)(p m:Int):bY (kJ k a p m):=by
 unfold kJ
 exact cS (sx (by omega)) fun _ _=>bR _
abbrev aU:Type:=List (List UInt8)×List ee×Unit
theorem Wi(a:aU)(h:a.2.1.length<=128):bY (k9 80000 a 80000 0 []):=by
 refine MG (L:=k9 80000 a) (len:=a.2.1.length) (by omega) (fun _ _=>True) ?_ 80000 0 [] (Nat.zero_le _) (by omega) trivial
 intro n i m _ W U
 unfold k9 B2
 refine fO (fun o=>?_) fun _=>bR _
 have o:i<a.2.1.length:=by omega
 refine cS (jx o) fun x _=>cS (Wb _ _) fun v _=>?_
 unfold zL
 have O:∀t,bY (rI (k9 80000 a n) (i:Int) m x t):=fun t=>by
  unfold rI
  exact cu (fun _=>bR _) fun _=>U _ o trivial
 exact cu (fun _=>O _) fun _=>cS (wy _ _ _ _) fun _ _=>O _
theorem SU(a:aU)(h1:a.1.length<=24)(Y:a.2.1.length<=128):∀n i m,i<=a.1.length->a.1.length-i<n->∃e,pO 80000 a n (i:Int) m=some e/\(e=0->∀x∈a.1.drop i,x.length<=32):=by
 intro n
 induction n with
 |zero=>intro i m _ h;omega
 |succ n Z=>
  intro i m lg lh
  unfold pO EY
  by_cases O:i<a.1.length
  ·rw[if_pos (by simp only[decide_eq_true_eq];omega),dt O]
   simp only[Option.bind_some]
   obtain⟨b,la,lc⟩:=OM (a.1[i]'O)
   rw[la]
   simp only[Option.bind_some]
   unfold AO
   by_cases U:((!b)||((bn (aD .str) m (a.1[i]'O)).getD false))=true
   ·rw[if_pos U]
    exact⟨7,rfl,fun q=>by cases q⟩
   ·rw[if_neg U,bu (by omega)]
    obtain⟨e,W,ld⟩:=Z (i+1) (cb (aD .str) m (a.1[i]'O) true) (by omega) (by omega)
    refine⟨e,W,fun lf x o=>?_⟩
    rw[List.drop_eq_getElem_cons O]at o
    rcases List.mem_cons.1 o with rfl|o
    ·refine lc ?_
     cases b with
     |true=>rfl
     |false=>simp at U
    ·exact ld lf x o
  ·rw[if_neg (by simp only[decide_eq_true_eq];omega)]
   obtain⟨e,W⟩:=Wi a Y
   exact⟨e,W,fun _ x o=>by rw[List.drop_eq_nil_of_le (by omega)]at o;cases o⟩
theorem mM(a:aU):∃e,fL 80000 a=some e/\(e=0->a.1.length<=24/\a.2.1.length<=128/\∀x∈a.1,x.length<=32):=by
 unfold fL CA Cp
 by_cases o:((decide ((24:Int)<(a.1.length:Int))||decide ((a.2.1.length:Int)<1))||decide ((128:Int)<(a.2.1.length:Int)))=true
 ·rw[if_pos o]
  exact⟨7,rfl,fun q=>by cases q⟩
 ·rw[if_neg o]
  simp only[Bool.or_eq_true,decide_eq_true_eq]at o
  obtain⟨e,O,U⟩:=SU a (by omega) (by omega) 80000 0 [] (Nat.zero_le _) (by omega)
  exact⟨e,O,fun W=>⟨by omega,by omega,U W⟩⟩
theorem NF(l:List ee)(U:l.length<=128)(r:Int):∃v,wF 80000 l (r,())=some v/\v<(l.length:Int):=by
 unfold wF
 have:∀n i,i<=l.length->l.length-i<n->∃v,uq 80000 l (r,()) n (i:Int)=some v/\v<(l.length:Int):=by
  intro n
  induction n with
  |zero=>intro i _ h;omega
  |succ n o=>
   intro i h1 W
   unfold uq KO AM
   by_cases O:i<l.length
   ·rw[if_pos (by simp only[decide_eq_true_eq];omega),dt O]
    simp only[Option.bind_some]
    split
    ·exact⟨_,rfl,by omega⟩
    ·rw[bu (by omega)]
     exact o (i+1) (by omega) (by omega)
   ·rw[if_neg (by simp only[decide_eq_true_eq];omega)]
    exact⟨-1,rfl,by omega⟩
 exact this 80000 0 (Nat.zero_le _) (by omega)
theorem rN(a:aU)(r:Int):bY (np 80000 a r):=by
 unfold np
 obtain⟨e,o,O⟩:=mM (a.1,a.2.1,())
 rw[o]
 simp only[Option.bind_some]
 refine cu (fun _=>bR _) fun h=>?_
 have U:e=0:=by simpa using h
 obtain⟨_,W,_⟩:=O U
 obtain⟨v,Y,Z⟩:=NF a.2.1 W r
 rw[Y]
 simp only[Option.bind_some]
 exact fO (fun _=>bR _) fun la=>cS (RT (by omega) Z) fun _ _=>bR _
theorem Dj(a:aU)(r:Int):bY (qT 80000 a r):=by
 unfold qT
 exact cS (rN _ _) fun _ _=>bR _
theorem QD(a:aU)(p m:Int)(h1:a.1.length<=24)(Y:∀x∈a.1,x.length<=32):∀n i (o:List UInt8),i<=a.1.length->a.1.length-i<n->o.length<=33*i->bY (qf 80000 a p m n (i:Int) (dF o)):=by
 intro n
 induction n with
 |zero=>intro i o _ h;omega
 |succ n U=>
  intro i o Z la lc
  unfold qf JQ
  refine fO (fun O=>?_) fun _=>?_
  ·have O:i<a.1.length:=by omega
   have ld:=Y _ (List.getElem_mem O)
   rw[dt O]
   simp only[Option.bind_some]
   have W:∀(c:UInt8),bY (Option.bind (aG (([c]:List UInt8).length+(a.1[i]'O).length<=lim)) fun _=>Option.bind (pJ 80000 (([c]:List UInt8)++(a.1[i]'O)) (dF o)) fun v3=>oE (qf 80000 a p m n) (i:Int) v3.2.2):=by
    intro c
    refine cS (sx (by unfold lim;simp;omega)) fun _ _=>?_
    unfold pJ zm
    simp only[Option.bind_some]
    rw[cO (by unfold lim;rw[Im,Im];simp;omega)]
    simp only[Option.bind_some]
    unfold oE
    rw[Sr,bu (by omega)]
    exact U (i+1) _ (by omega) (by omega) (by simp;omega)
   refine cS (sx (by omega)) fun _ _=>cu (fun _=>W 43) fun _=>cS (sx (by omega)) fun _ _=>cu (fun _=>W 45) fun _=>?_
   unfold oE
   rw[bu (by omega)]
   exact U (i+1) _ (by omega) (by omega) (by omega)
  ·unfold q0
   rw[QP,if_pos rfl]
   exact bR _
theorem AF(a:aU)(p m:Int):bY (sK 80000 a p m):=by
 unfold sK
 obtain⟨e,o,O⟩:=mM (a.1,a.2.1,())
 rw[o]
 simp only[Option.bind_some]
 refine cu (fun _=>bR _) fun h=>?_
 have U:e=0:=by simpa using h
 obtain⟨h1,_,W⟩:=O U
 exact cS (wy _ _ _ _) fun _ _=>cu (fun _=>bR _) fun _=>QD a p m h1 W 80000 0 [] (Nat.zero_le _) (by have:a.1.length<=24:=h1;omega) (by simp)
theorem Wc(a:aU)(p m:Int):bY (zn 80000 a p m):=by
 unfold zn
 exact cS (AF _ _ _) fun _ _=>bR _
theorem u9(a:aU)(r p m:Int):bY (uG 80000 a r p m):=by
 unfold uG
 exact cu (fun _=>cS (Dj _ _) fun _ _=>bR _) fun _=>cS (Wc _ _ _) fun _ _=>bR _
theorem RA(a:aU)(s:Int×Int×Int×Int×Unit)(n:Int):bY (rr 80000 a s n):=by
 have o:∀t,bY (od 80000 a s t):=fun t=>by
  unfold od
  exact cu (fun _=>bR _) fun _=>cS (u9 _ _ _ _) fun _ _=>bR _
 unfold rr A2
 exact cu (fun _=>o _) fun _=>cu (fun _=>o _) fun _=>o _
end Go.Ev
namespace Go.Ev
open Go
set_option linter.unusedVariables false
theorem oZ{α β:Type}{eq:α->α->Bool}(o:∀x y,eq x y=true↔x=y)(k k':α)(v:β):∀l:List (α×β),(k'=k->bn eq (cb eq l k v) k'=some v)/\(k'≠k->bn eq (cb eq l k v) k'=bn eq l k')
 |[]=>by
  simp only[cb,bn]
  exact⟨fun h=>if_pos ((o _ _).2 h),fun h=>if_neg (fun q=>h ((o _ _).1 q))⟩
 |p::l=>by
  obtain⟨i1,i2⟩:=oZ o k k' v l
  simp only[cb]
  by_cases h1:eq k p.1=true
  ·have U:=(o _ _).1 h1
   rw[if_pos h1]
   simp only[bn]
   exact⟨fun h=>if_pos ((o _ _).2 h),fun h=>by rw[if_neg (fun q=>h ((o _ _).1 q)),if_neg (fun q=>h (((o _ _).1 q).trans U.symm))]⟩
  ·rw[if_neg h1]
   simp only[bn]
   by_cases O:eq k' p.1=true
   ·have W:=(o _ _).1 O
    simp only[if_pos O]
    exact⟨fun h=>absurd ((o _ _).2 (h.symm.trans W)) h1,fun _=>trivial⟩
   ·simp only[if_neg O]
    exact⟨i1,i2⟩
theorem S8(x y:List UInt8):aD .str x y=true↔x=y:=by
 show(x==y)=true↔_
 simp
theorem xe(x y:Int):aD (.int .i32) x y=true↔x=y:=by
 show(x==y)=true↔_
 simp
def xy(b:UInt8):Bool:=decide (97<=b.toNat)&&decide (b.toNat<=122)
def oB(s:List UInt8):Bool:=(decide (1<=s.length)&&decide (s.length<=32))&&s.all xy
theorem Vy(b:UInt8):kE.contains b=xy b:=by
 have key:∀n:Fin 256,kE.contains (UInt8.ofNat n.1)=xy (UInt8.ofNat n.1):=by decide+kernel
 have:=key ⟨b.toNat,UInt8.toNat_lt b⟩
 simpa using this
theorem GJ(o:List UInt8)(k:Nat)(b:UInt8):pZ k (nb o) (b.toNat:Int)=some (o.contains b):=by
 unfold pZ
 rw[rA]
 unfold nb
 rw[List.getElem?_map,List.getElem?_range (UInt8.toNat_lt b)]
 simp
theorem Ro{s:List UInt8}(h:0<s.length):s=s.take (s.length-1)++[s[s.length-1]'(by omega)]:=by
 have:=List.take_succ_eq_append_getElem (l:=s) (i:=s.length-1) (by omega)
 rw[<-this,List.take_of_length_le (by omega)]
theorem Qk(o:List UInt8):∀n (s:List UInt8),s.length<n->s.length<4611686018427387904->oN 80000 (nb o) n s=some (s.reverse.dropWhile o.contains).reverse:=by
 intro n
 induction n with
 |zero=>intro s h;omega
 |succ n W=>
  intro s h Z
  unfold oN DM uA
  by_cases Y:0<s.length
  ·rw[if_pos (by simp only[decide_eq_true_eq];omega),show ai ((s.length:Int)-1)=((s.length-1:Nat):Int) by rw[dl (by omega)];omega,zg (by omega)]
   simp only[Option.bind_some]
   rw[GJ]
   simp only[Option.bind_some]
   have O:s.reverse=s[s.length-1]'(by omega)::(s.take (s.length-1)).reverse:=by
    conv=>lhs;rw[Ro Y]
    simp
   cases U:o.contains (s[s.length-1]'(by omega))with
   |false=>
    rw[if_pos (by rfl),O,List.dropWhile_cons,U,if_neg (by simp),<-O,List.reverse_reverse]
   |true=>
    rw[if_neg (by simp),HP (by omega)]
    simp only[Option.bind_some]
    rw[W (s.take (s.length-1)) (by rw[List.length_take];omega) (by rw[List.length_take];omega),O,List.dropWhile_cons,U,if_pos rfl]
  ·rw[if_neg (by simp only[decide_eq_true_eq];omega)]
   have:s=[]:=List.length_eq_zero_iff.1 (by omega)
   subst this
   rfl
theorem Ul(o:List UInt8):∀n (s:List UInt8),s.length<n->pX 80000 (nb o) n s=some (s.dropWhile o.contains):=by
 intro n
 induction n with
 |zero=>intro s h;omega
 |succ n O=>
  intro s h
  unfold pX AI sS
  cases s with
  |nil=>rfl
  |cons b r=>
   rw[if_pos (by simp only[decide_eq_true_eq,List.length_cons];omega),show(0:Int)=((0:Nat):Int)from rfl,zg (by simp)]
   simp only[Option.bind_some,List.getElem_cons_zero]
   rw[GJ]
   simp only[Option.bind_some]
   rw[List.dropWhile_cons]
   cases U:o.contains b with
   |false=>rw[if_pos (by rfl),if_neg (by simp)]
   |true=>
    rw[if_neg (by simp),if_pos rfl,show(1:Int)=((1:Nat):Int)from rfl,na (by simp)]
    simp only[Option.bind_some]
    exact O r (by simpa using h)
theorem FA{p:UInt8->Bool}{l:List UInt8}:l.dropWhile p=[]↔l.all p=true:=by
 induction l with
 |nil=>simp
 |cons a l o=>
  rw[List.dropWhile_cons,List.all_cons]
  cases h:p a with
  |true=>rw[if_pos rfl,o,Bool.true_and]
  |false=>simp
theorem SD{p:UInt8->Bool}{l:List UInt8}{a:UInt8}{r:List UInt8}(h:l.dropWhile p=a::r):p a=false:=by
 induction l with
 |nil=>cases h
 |cons b l o=>
  rw[List.dropWhile_cons]at h
  split at h
  ·exact o h
  ·rename_i O
   cases h
   simpa using O
theorem QH{cut:List UInt8}(O:rR 80000 cut=some (nb cut,true))(h1:cut.length≠1)(U:cut≠[]){s:List UInt8}(W:s.length<80000):∃v,oM 80000 s cut=some v/\(v==([]:List UInt8))=s.all cut.contains:=by
 unfold oM B8
 by_cases o:s=[]
 ·subst o
  rw[if_pos (by simp)]
  exact⟨[],rfl,rfl⟩
 ·rw[if_neg (by simp[o,U]),if_neg (by simp only[beq_iff_eq];omega)]
  unfold tj
  rw[if_neg (by simp),O]
  simp only[Option.bind_some,if_true]
  unfold wO yE
  rw[Qk cut 80000 s W (by omega)]
  simp only[Option.bind_some]
  have Z:((s.reverse.dropWhile cut.contains).reverse).length<=s.length:=by
   rw[List.length_reverse]
   exact Nat.le_trans (List.Sublist.length_le (List.dropWhile_sublist _)) (by rw[List.length_reverse];exact Nat.le_refl _)
  rw[Ul cut 80000 _ (by omega)]
  refine⟨_,rfl,?_⟩
  rw[Bool.eq_iff_iff,beq_iff_eq,FA]
  constructor
  ·intro q
   cases af:s.reverse.dropWhile cut.contains with
   |nil=>
    have:=FA.1 af
    rwa [List.all_reverse]at this
   |cons a r=>
    have Y:=SD af
    rw[af,List.all_reverse,List.all_cons,Y]at q
    cases q
  ·intro q
   have:s.reverse.dropWhile cut.contains=[]:=FA.2 (by rw[List.all_reverse];exact q)
   rw[this]
   rfl
theorem Ta(s:List UInt8):qE 80000 s=some (oB s):=by
 unfold qE
 by_cases h:s≠[]/\s.length<=32
 ·rw[show((!(s==([]:List UInt8)))&&decide ((s.length:Int)<=32))=true by simp[h.1];omega]
  unfold D6
  rw[if_pos rfl]
  obtain⟨v,o,O⟩:=QH Kc (by simp[kE]) (by simp[kE]) (s:=s) (by omega)
  rw[show([97,98,99,100,101,102,103,104,105,106,107,108,109,110,111,112,113,114,115,116,117,118,119,120,121,122]:List UInt8)=kE from rfl,o]
  simp only[Option.bind_some]
  unfold yX
  rw[O]
  have h1:1<=s.length:=by
   cases s with
   |nil=>exact absurd rfl h.1
   |cons _ _=>simp
  unfold oB
  rw[decide_eq_true h1,decide_eq_true h.2,Bool.and_true,Bool.true_and,show(kE.contains:UInt8->Bool)=xy from funext Vy]
 ·rw[show((!(s==([]:List UInt8)))&&decide ((s.length:Int)<=32))=false by
   rw[Bool.eq_false_iff]
   intro q
   simp only[Bool.and_eq_true,Bool.not_eq_true',beq_eq_false_iff_ne,ne_eq,decide_eq_true_eq]at q
   exact h ⟨q.1,by omega⟩]
  show some false=_
  unfold oB
  by_cases h1:s=[]
  ·subst h1;rfl
  ·rw[decide_eq_false (show¬s.length<=32 from fun q=>h ⟨h1,q⟩),Bool.and_false,Bool.false_and]
def nI(r:Int):Bool:=((decide (97<=r)&&decide (r<=122))||(decide (65<=r)&&decide (r<=90)))||((decide (161<=r)&&decide (r<=1114111))&&(decide (r≠65533)&&(decide (r<55296)||decide (57343<r))))
theorem Vb{α:Type}{x y:α}(h:x=y):some x=some y:=by rw[h]
theorem OW(r:Int):(Int.fdiv r (2^min ((11:Int)).toNat 32)==(27:Int))=(decide (55296<=r)&&decide (r<=57343)):=by
 have e:(2:Int)^min ((11:Int)).toNat 32=2048:=by decide
 rw[e,Int.fdiv_eq_ediv_of_nonneg _ (by omega),Bool.eq_iff_iff]
 simp
 omega
theorem QV(k:Nat)(r:Int):qp k r=some (nI r):=by
 unfold qp CV Bd sk pF nI
 rw[OW,cO (by decide)]
 simp only[Option.bind_some]
 have o:decide (r<161)=!decide (161<=r):=by rw[Bool.eq_iff_iff];simp
 have O:decide (1114111<r)=!decide (r<=1114111):=by rw[Bool.eq_iff_iff];simp
 have U:decide (55296<=r)=!decide (r<55296):=by rw[Bool.eq_iff_iff];simp
 have W:decide (r<=57343)=!decide (57343<r):=by rw[Bool.eq_iff_iff];simp
 rw[o,O,U,W]
 cases decide (97<=r)<;>cases decide (r<=122)<;>cases decide (65<=r)<;>cases decide (r<=90)<;>cases h1:decide (161<=r)<;>cases Z:decide (r<=1114111)<;>cases la:decide (r<55296)<;>cases lc:decide (57343<r)<;>(by_cases Y:r=65533<;>simp[Y])
def GW(p m:Int):Nat:=BitVec.toNat (BitVec.ofInt 32 p|||BitVec.ofInt 32 m)
def nM(n:Nat)(p m:Int):Bool:=decide (GW p m<2^n)&&decide (BitVec.toNat (BitVec.ofInt 32 p&&&BitVec.ofInt 32 m)=0)
theorem D1{x:Int}(h:0<=x/\x<4294967296):dN x=x:=by
 unfold dN IntKind.wrap
 simp[IntKind.bits,IntKind.signed]
 omega
theorem Mj(x:BitVec 32):x.toNat<4294967296:=x.isLt
theorem OS(k:Nat)(a:aU)(p m:Int)(h:a.1.length<=24):kJ k a p m=some (nM a.1.length p m):=by
 unfold kJ IM
 rw[cO (by omega)]
 simp only[Option.bind_some]
 have Z:=Mj (BitVec.ofInt 32 p|||BitVec.ofInt 32 m)
 have la:=Mj (BitVec.ofInt 32 p&&&BitVec.ofInt 32 m)
 rw[D1 (by omega),D1 (by omega)]
 refine Vb ?_
 have e:(2:Int)^min ((a.1.length:Int)).toNat 32=((2^a.1.length:Nat):Int):=by
  rw[Int.toNat_natCast,Nat.min_eq_left (by omega)]
  simp
 have o:0<2^a.1.length:=Nat.two_pow_pos _
 rw[e]
 unfold nM GW
 rw[Int.fdiv_eq_ediv_of_nonneg _ (by omega),Bool.eq_iff_iff]
 simp only[Bool.and_eq_true,beq_iff_eq,decide_eq_true_eq]
 have U:((BitVec.toNat (BitVec.ofInt 32 p|||BitVec.ofInt 32 m):Int)/((2^a.1.length:Nat):Int))=((BitVec.toNat (BitVec.ofInt 32 p|||BitVec.ofInt 32 m)/2^a.1.length:Nat):Int):=rfl
 rw[U]
 constructor
 ·rintro⟨O,W⟩
  have Y:BitVec.toNat (BitVec.ofInt 32 p|||BitVec.ofInt 32 m)/2^a.1.length=0:=by omega
  exact⟨(Nat.div_eq_zero_iff_lt o).1 Y,by omega⟩
 ·rintro⟨O,W⟩
  exact⟨by rw[(Nat.div_eq_zero_iff_lt o).2 O];rfl,by omega⟩
def cL(a:aU):Bool:=((decide (a.1.length<=24)&&(decide (1<=a.2.1.length)&&decide (a.2.1.length<=128)))&&(a.1.all oB&&decide a.1.Nodup))&&((a.2.1.all fun l=>nI l.1&&nM a.1.length l.2.1 l.2.2.1)&&decide (a.2.1.map (·.1)).Nodup)
def y7{β:Type}[DecidableEq β](x:β)(l:List β):Bool:=decide (x∈l)
theorem AG{β:Type}[DecidableEq β]{x:β}{l:List β}(h:x∈l):y7 x l=true:=decide_eq_true h
theorem CI{β:Type}[DecidableEq β]{x:β}{l:List β}(h:¬x∈l):y7 x l=false:=decide_eq_false h
def iS{α β:Type}[DecidableEq β](key:α->β)(o:α->Bool):List α->List α->Bool
 |_,[]=>true
 |seen,x::xs=>(o x&&!y7 (key x) (seen.map key))&&iS key o (seen++[x]) xs
theorem FB{α β:Type}[DecidableEq β](key:α->β)(O:α->Bool):∀(xs seen:List α),(seen.map key).Nodup->iS key O seen xs=(xs.all O&&decide ((seen++xs).map key).Nodup)
 |[],seen,h=>by simp[iS,h]
 |x::xs,seen,h=>by
  unfold iS
  by_cases o:key x∈seen.map key
  ·rw[AG o]
   have:¬((seen++x::xs).map key).Nodup:=by
    intro q
    rw[List.map_append,List.nodup_append]at q
    exact q.2.2 _ o _ (by simp) rfl
   rw[decide_eq_false this]
   simp
  ·rw[CI o]
   have W:((seen++[x]).map key).Nodup:=by
    rw[List.map_append,List.nodup_append]
    refine⟨h,by simp,fun a Y b U=>?_⟩
    simp at U
    subst U
    exact fun e=>o (e▸Y)
   rw[FB key O xs (seen++[x]) W,List.append_assoc,List.all_cons]
   simp[Bool.and_assoc]
theorem RI{a:aU}(h1:a.1.length<=24)(o:1<=a.2.1.length)(O:a.2.1.length<=128):cL a=(iS id oB [] a.1&&iS (·.1) (fun l=>nI l.1&&nM a.1.length l.2.1 l.2.2.1) [] a.2.1):=by
 unfold cL
 rw[FB id oB a.1 [] (by simp),FB (·.1) _ a.2.1 [] (by simp),decide_eq_true h1,decide_eq_true o,decide_eq_true O]
 simp
theorem GU{a:aU}(h:¬(a.1.length<=24/\1<=a.2.1.length/\a.2.1.length<=128)):cL a=false:=by
 rw[Bool.eq_false_iff]
 intro q
 unfold cL at q
 simp only[Bool.and_eq_true,decide_eq_true_eq]at q
 exact h ⟨q.1.1.1,q.1.1.2.1,q.1.1.2.2⟩
theorem Jn{α β:Type}[DecidableEq β](key:α->β)(o:α->Bool)(seen:List α)(x:α)(xs:List α):iS key o seen (x::xs)=((o x&&!y7 (key x) (seen.map key))&&iS key o (seen++[x]) xs):=rfl
theorem Me{β:Type}{r x:β}(l:List β)[Decidable (r∈l++[x])](h:r=x):true=decide (r∈l++[x]):=by rw[decide_eq_true (by rw[h];simp)]
theorem MJ{β:Type}{r x:β}(l:List β)[Decidable (r∈l)][Decidable (r∈l++[x])](h:r≠x):decide (r∈l)=decide (r∈l++[x]):=by
 rw[Bool.eq_iff_iff,decide_eq_true_eq,decide_eq_true_eq,List.mem_append,List.mem_singleton]
 exact⟨.inl,fun q=>q.resolve_right h⟩
theorem WD(a:aU)(h1:a.1.length<=24)(h:a.2.1.length<=128):∀n i (m:List (Int×Bool)),i<=a.2.1.length->a.2.1.length-i<n->(∀r:Int,(bn (aD (.int .i32)) m r).getD false=decide (r∈(a.2.1.take i).map fun l=>l.1))->
  k9 80000 a n (i:Int) m=some (if iS (·.1) (fun l=>nI l.1&&nM a.1.length l.2.1 l.2.2.1) (a.2.1.take i) (a.2.1.drop i)then 0 else 7):=by
 intro n
 induction n with
 |zero=>intro i m _ h;omega
 |succ n W=>
  intro i m lc ld U
  unfold k9 B2
  by_cases o:i<a.2.1.length
  ·rw[if_pos (by simp only[decide_eq_true_eq];omega),dt o,List.drop_eq_getElem_cons o]
   simp only[Option.bind_some]
   rw[QV,U]
   simp only[Option.bind_some]
   rw[Jn]
   unfold zL rI
   have step:k9 80000 a n (ai ((i:Int)+1)) (cb (aD (.int .i32)) m (a.2.1[i]'o).1 true)=some (if iS (·.1) (fun l=>nI l.1&&nM a.1.length l.2.1 l.2.2.1) (a.2.1.take i++[a.2.1[i]'o]) (a.2.1.drop (i+1))then 0 else 7):=by
    rw[bu (by omega),W (i+1) _ (by omega) (by omega),List.take_succ_eq_append_getElem o]
    intro r
    obtain⟨Y,Z⟩:=oZ xe (a.2.1[i]'o).1 r true m
    rw[List.take_succ_eq_append_getElem o,List.map_append]
    by_cases O:r=(a.2.1[i]'o).1
    ·exact(congrArg (fun aa:Option Bool=>aa.getD false) (Y O)).trans (Me _ O)
    ·exact(congrArg (fun aa:Option Bool=>aa.getD false) (Z O)).trans ((U r).trans (MJ _ O))
   cases lf:nI (a.2.1[i]'o).1 with
   |false=>rfl
   |true=>
    by_cases af:(a.2.1[i]'o).1∈(a.2.1.take i).map fun l=>l.1
    ·rw[decide_eq_true af,AG af,if_pos (by simp)]
     simp
    ·rw[decide_eq_false af,CI af,if_neg (by simp)]
     have la:kJ 80000 (a.1,a.2.1,()) (a.2.1[i]'o).2.1 (a.2.1[i]'o).2.2.1=_:=OS 80000 a _ _ h1
     rw[la]
     simp only[Option.bind_some]
     cases lg:nM a.1.length (a.2.1[i]'o).2.1 (a.2.1[i]'o).2.2.1 with
     |false=>rfl
     |true=>
      rw[if_neg (by simp),step]
      simp
  ·rw[if_neg (by simp only[decide_eq_true_eq];omega),List.drop_eq_nil_of_le (by omega)]
   rfl
theorem W4(a:aU)(h1:a.1.length<=24)(W:a.2.1.length<=128):∀n i (m:List bv),i<=a.1.length->a.1.length-i<n->(∀r:List UInt8,(bn (aD .str) m r).getD false=decide (r∈(a.1.take i).map id))->
  pO 80000 a n (i:Int) m=some (if iS id oB (a.1.take i) (a.1.drop i)&&iS (·.1) (fun l=>nI l.1&&nM a.1.length l.2.1 l.2.2.1) [] a.2.1 then 0 else 7):=by
 intro n
 induction n with
 |zero=>intro i m _ h;omega
 |succ n Y=>
  intro i m lc ld U
  unfold pO EY
  by_cases o:i<a.1.length
  ·rw[if_pos (by simp only[decide_eq_true_eq];omega),dt o,List.drop_eq_getElem_cons o]
   simp only[Option.bind_some]
   rw[Ta,U]
   simp only[Option.bind_some]
   rw[Jn]
   unfold AO
   cases lf:oB (a.1[i]'o)with
   |false=>rfl
   |true=>
    by_cases af:(a.1[i]'o)∈(a.1.take i).map id
    ·rw[decide_eq_true af,AG (show id (a.1[i]'o)∈(a.1.take i).map id from af)]
     rfl
    ·rw[decide_eq_false af,CI (show¬id (a.1[i]'o)∈(a.1.take i).map id from af),if_neg (by simp),bu (by omega),Y (i+1) _ (by omega) (by omega),List.take_succ_eq_append_getElem o]
     ·simp
     ·intro r
      obtain⟨Z,la⟩:=oZ S8 (a.1[i]'o) r true m
      rw[List.take_succ_eq_append_getElem o,List.map_append]
      by_cases O:r=a.1[i]'o
      ·exact(congrArg (fun aa:Option Bool=>aa.getD false) (Z O)).trans (Me _ O)
      ·exact(congrArg (fun aa:Option Bool=>aa.getD false) (la O)).trans ((U r).trans (MJ _ O))
  ·rw[if_neg (by simp only[decide_eq_true_eq];omega),List.drop_eq_nil_of_le (by omega)]
   have:=WD a h1 W 80000 0 [] (Nat.zero_le _) (by omega) (fun r=>by simp[bn])
   simp only[List.take_zero,List.drop_zero]at this
   refine Eq.trans this ?_
   simp[iS]
theorem r6(a:aU):fL 80000 a=some (if cL a then 0 else 7):=by
 unfold fL CA Cp
 by_cases o:a.1.length<=24/\1<=a.2.1.length/\a.2.1.length<=128
 ·rw[if_neg (by simp only[Bool.or_eq_true,decide_eq_true_eq];omega),RI o.1 o.2.1 o.2.2]
  have:=W4 a o.1 o.2.2 80000 0 [] (Nat.zero_le _) (by omega) (fun r=>by simp[bn])
  simp only[List.take_zero,List.drop_zero]at this
  exact this
 ·rw[if_pos (by simp only[Bool.or_eq_true,decide_eq_true_eq];omega),GU o]
  rfl
end Go.Ev
namespace Go.Ev
open Go
set_option linter.unusedVariables false
/-! What one letter over another one costs. -/
theorem KI{t:List UInt8}{n:Int}(o:0<=n)(h:n<t.length):bY (fH t n):=by
 unfold fH
 rw[z8 o h]
 exact⟨_,rfl⟩
theorem ON(x:Int):0<=ou x/\ou x<256:=by
 unfold ou IntKind.wrap
 simp[IntKind.bits,IntKind.signed]
 omega
theorem xA(x:Int):0<=dN x/\dN x<4294967296:=by
 unfold dN IntKind.wrap
 simp[IntKind.bits,IntKind.signed]
 omega
theorem FW(x:BitVec 32):0<=dN (BitVec.toNat (x&&&BitVec.ofInt 32 (255:Int)):Int)/\dN (BitVec.toNat (x&&&BitVec.ofInt 32 (255:Int)):Int)<256:=by
 have h:BitVec.toNat (x&&&BitVec.ofInt 32 (255:Int))<=255:=by
  rw[BitVec.toNat_and]
  exact Nat.and_le_right
 rw[D1 (by omega)]
 omega
set_option maxRecDepth 100000 in
theorem JT(k:Nat)(x:Int)(ld:0<=x)(h:x<4294967296):∃v,yD k x=some v/\0<=v/\v<256:=by
 unfold yD
 rw[cO (by omega)]
 simp only[Option.bind_some]
 have e:(2:Int)^min ((24:Int)).toNat 32=16777216:=by decide
 obtain⟨o,O⟩:=KI (t:=([0,1,1,2,1,2,2,3,1,2,2,3,2,3,3,4,1,2,2,3,2,3,3,4,2,3,3,4,3,4,4,5,1,2,2,3,2,3,3,4,2,3,3,4,3,4,4,5,2,3,3,4,3,4,4,5,3,4,4,5,4,5,5,6,1,2,2,3,2,3,3,4,2,3,3,4,3,4,4,5,2,3,3,4,3,4,4,5,3,4,4,5,4,5,5,6,2,3,3,4,3,4,4,5,3,4,4,5,4,5,5,6,3,4,4,5,4,5,5,6,4,5,5,6,5,6,6,7,1,2,2,3,2,3,3,4,2,3,3,4,3,4,4,5,2,3,3,4,3,4,4,5,3,4,4,5,4,5,5,6,2,3,3,4,3,4,4,5,3,4,4,5,4,5,5,6,3,4,4,5,4,5,5,6,4,5,5,6,5,6,6,7,2,3,3,4,3,4,4,5,3,4,4,5,4,5,5,6,3,4,4,5,4,5,5,6,4,5,5,6,5,6,6,7,3,4,4,5,4,5,5,6,4,5,5,6,5,6,6,7,4,5,5,6,5,6,6,7,5,6,6,7,6,7,7,8]:List UInt8)) (n:=Int.fdiv x (2^min ((24:Int)).toNat 32)) (by rw[e,Int.fdiv_eq_ediv_of_nonneg _ (by omega)];omega) (by rw[e,Int.fdiv_eq_ediv_of_nonneg _ (by omega)];show _<(256:Int);omega)
 rw[O]
 simp only[Option.bind_some]
 rw[cO (by omega)]
 simp only[Option.bind_some]
 have key:=fun y:BitVec 32=>KI (t:=([0,1,1,2,1,2,2,3,1,2,2,3,2,3,3,4,1,2,2,3,2,3,3,4,2,3,3,4,3,4,4,5,1,2,2,3,2,3,3,4,2,3,3,4,3,4,4,5,2,3,3,4,3,4,4,5,3,4,4,5,4,5,5,6,1,2,2,3,2,3,3,4,2,3,3,4,3,4,4,5,2,3,3,4,3,4,4,5,3,4,4,5,4,5,5,6,2,3,3,4,3,4,4,5,3,4,4,5,4,5,5,6,3,4,4,5,4,5,5,6,4,5,5,6,5,6,6,7,1,2,2,3,2,3,3,4,2,3,3,4,3,4,4,5,2,3,3,4,3,4,4,5,3,4,4,5,4,5,5,6,2,3,3,4,3,4,4,5,3,4,4,5,4,5,5,6,3,4,4,5,4,5,5,6,4,5,5,6,5,6,6,7,2,3,3,4,3,4,4,5,3,4,4,5,4,5,5,6,3,4,4,5,4,5,5,6,4,5,5,6,5,6,6,7,3,4,4,5,4,5,5,6,4,5,5,6,5,6,6,7,4,5,5,6,5,6,6,7,5,6,6,7,6,7,7,8]:List UInt8)) (n:=dN (BitVec.toNat (y&&&BitVec.ofInt 32 (255:Int)):Int)) (FW y).1 (FW y).2
 obtain⟨U,W⟩:=key (BitVec.ofInt 32 (Int.fdiv x (2^min ((16:Int)).toNat 32)))
 rw[W]
 simp only[Option.bind_some]
 rw[cO (by omega)]
 simp only[Option.bind_some]
 obtain⟨Y,Z⟩:=key (BitVec.ofInt 32 (Int.fdiv x (2^min ((8:Int)).toNat 32)))
 rw[Z]
 simp only[Option.bind_some]
 obtain⟨la,lc⟩:=key (BitVec.ofInt 32 x)
 rw[lc]
 have:=ON ((ou ((ou (o+U))+Y))+la)
 exact⟨_,rfl,by rw[dl (by omega)];omega,by rw[dl (by omega)];omega⟩
theorem Ll(a:aU)(x y:Int):∃v,jn 80000 a x y=some v/\0<=v/\v<=300:=by
 unfold jn
 by_cases h:x==y
 ·rw[if_pos h];exact⟨0,rfl,by omega,by omega⟩
 rw[if_neg h]
 unfold Hu
 by_cases o:((x==0)||(y==0))=true
 ·rw[if_pos o];exact⟨5,rfl,by omega,by omega⟩
 rw[if_neg o]
 unfold Ep
 obtain⟨⟨l,e⟩,Y⟩:=rN (a.1,a.2.1,()) x
 rw[Y]
 simp only[Option.bind_some]
 by_cases O:e !=0
 ·rw[if_pos O]
  exact⟨_,rfl,by rw[dl (by omega)];omega,by rw[dl (by omega)];omega⟩
 rw[if_neg O]
 obtain⟨⟨U,Z⟩,la⟩:=rN (a.1,a.2.1,()) y
 rw[la]
 simp only[Option.bind_some]
 by_cases W:Z !=0
 ·rw[if_pos W]
  exact⟨_,rfl,by rw[dl (by omega)];omega,by rw[dl (by omega)];omega⟩
 rw[if_neg W]
 unfold oH
 obtain⟨v,lc,ld,h1⟩:=JT 80000 (dN (BitVec.toNat (BitVec.ofInt 32 (dN (BitVec.toNat (BitVec.ofInt 32 l.2.1^^^BitVec.ofInt 32 U.2.1)))|||BitVec.ofInt 32 (dN (BitVec.toNat (BitVec.ofInt 32 l.2.2.1^^^BitVec.ofInt 32 U.2.2.1)))))) (xA _).1 (xA _).2
 rw[lc]
 simp only[Option.bind_some]
 exact⟨_,rfl,by rw[dl (by omega)];omega,by rw[dl (by omega)];omega⟩
def gt(a:aU)(x y:Int):Int:=(jn 80000 a x y).getD 0
theorem IL(a:aU)(x y:Int):jn 80000 a x y=some (gt a x y):=by
 obtain⟨v,o,_⟩:=Ll a x y
 unfold gt
 rw[o];rfl
theorem A6(a:aU)(x y:Int):0<=gt a x y/\gt a x y<=300:=by
 obtain⟨v,o,h⟩:=Ll a x y
 unfold gt
 rw[o];exact h
/-! The least cost of two lists of letters; the first alignment. -/
def bI(a:aU):List Int->List Int->Int
 |[],[]=>0
 |_::xs,[]=>5+bI a xs []
 |[],_::o=>5+bI a [] o
 |x::xs,y::o=>cC (cC (gt a x y+bI a xs o) (5+bI a xs (y::o))) (5+bI a (x::xs) o)
 termination_by x y=>x.length+y.length
def di(a:aU):List Int->List Int->List (Int×Int×Unit)
 |[],[]=>[]
 |x::xs,[]=>(x,0,())::di a xs []
 |[],y::o=>(0,y,())::di a [] o
 |x::xs,y::o=>
  if bI a (x::xs) (y::o)=gt a x y+bI a xs o then(x,y,())::di a xs o
  else if bI a (x::xs) (y::o)=5+bI a xs (y::o)then(x,0,())::di a xs (y::o)
  else(0,y,())::di a (x::xs) o
 termination_by x y=>x.length+y.length
theorem qN{a b:Int}:cC a b<=a/\cC a b<=b/\(cC a b=a\/cC a b=b):=by
 unfold cC
 split<;>omega
theorem wL(a:aU):∀n (x y:List Int),x.length+y.length<=n->0<=bI a x y/\bI a x y<=5*(x.length+y.length):=by
 intro n
 induction n with
 |zero=>
  intro x y h
  have U:x=[]:=List.length_eq_zero_iff.1 (by omega)
  have W:y=[]:=List.length_eq_zero_iff.1 (by omega)
  subst U;subst W
  unfold bI
  simp
 |succ n O=>
  intro x y h
  match x,y,h with
  |[],[],_=>unfold bI;simp
  |x::xs,[],h=>
   have:=O xs [] (by simp only[List.length_cons,List.length_nil]at h⊢;omega)
   unfold bI
   simp only[List.length_cons,List.length_nil]at this⊢
   omega
  |[],y::o,h=>
   have:=O [] o (by simp only[List.length_cons,List.length_nil]at h⊢;omega)
   unfold bI
   simp only[List.length_cons,List.length_nil]at this⊢
   omega
  |x::xs,y::o,h=>
   have i1:=O xs o (by simp only[List.length_cons]at h⊢;omega)
   have i2:=O xs (y::o) (by simp only[List.length_cons]at h⊢;omega)
   have i3:=O (x::xs) o (by simp only[List.length_cons]at h⊢;omega)
   have f:=A6 a x y
   unfold bI
   have m1:=@qN (gt a x y+bI a xs o) (5+bI a xs (y::o))
   have m2:=@qN (cC (gt a x y+bI a xs o) (5+bI a xs (y::o))) (5+bI a (x::xs) o)
   simp only[List.length_cons]at i1 i2 i3⊢
   omega
/-! Square tables. -/
def en(C:List (List Int)):Prop:=C.length=65/\∀r∈C,r.length=65
def gy(C:List (List Int))(p q:Nat):Int:=(C.getD p []).getD q 0
def mL(C:List (List Int))(p q:Nat)(v:Int):List (List Int):=C.set p ((C.getD p []).set q v)
theorem en.row{C:List (List Int)}(h:en C){p:Nat}(O:p<65):(C.getD p []).length=65/\ao C (p:Int)=some (C.getD p []):=by
 have o:p<C.length:=by rw[h.1];exact O
 have e:C.getD p []=C[p]'o:=by simp[List.getD_eq_getElem?_getD,o]
 rw[e]
 exact⟨h.2 _ (List.getElem_mem o),dt o⟩
theorem en.dS{C:List (List Int)}(h:en C){p q:Nat}(o:p<65)(az:q<65):ao (C.getD p []) (q:Int)=some (gy C p q):=by
 have h1:=(h.row o).1
 rw[dt (by omega)]
 unfold gy
 rw[List.getD_eq_getElem?_getD (l:=C.getD p []),List.getElem?_eq_getElem (by omega)]
 rfl
theorem en.set{C:List (List Int)}(h:en C){p q:Nat}(O:p<65)(v:Int):en (mL C p q v):=by
 unfold mL
 refine⟨by rw[List.length_set];exact h.1,fun r o=>?_⟩
 rcases List.mem_or_eq_of_mem_set o with o|o
 ·exact h.2 r o
 ·rw[o,List.length_set];exact(h.row O).1
theorem en.Gz{C:List (List Int)}(h:en C){p q o O:Nat}(Y:p<65)(az:q<65)(v:Int):gy (mL C p q v) o O=if o=p/\O=q then v else gy C o O:=by
 have h1:=(h.row Y).1
 unfold gy mL
 by_cases U:o=p
 ·subst U
  have e:(C.set o ((C.getD o []).set q v)).getD o []=(C.getD o []).set q v:=by
   rw[List.getD_eq_getElem?_getD (l:=C.set _ _),List.getElem?_set_self (by rw[h.1];exact Y)]
   rfl
  rw[e]
  by_cases W:O=q
  ·subst W
   rw[if_pos ⟨rfl,rfl⟩,List.getD_eq_getElem?_getD,List.getElem?_set_self (by omega)]
   rfl
  ·rw[if_neg (fun c=>W c.2),List.getD_eq_getElem?_getD,List.getElem?_set_ne (Ne.symm W),<-List.getD_eq_getElem?_getD]
 ·have e:(C.set p ((C.getD p []).set q v)).getD o []=C.getD o []:=by
   rw[List.getD_eq_getElem?_getD,List.getElem?_set_ne (Ne.symm U),<-List.getD_eq_getElem?_getD]
  rw[e,if_neg (fun c=>U c.1)]
theorem wz:en (List.replicate 65 (List.replicate 65 (0:Int))):=⟨by simp,fun r o=>by rw[List.eq_of_mem_replicate o];simp⟩
/-! The table filled. -/
abbrev iy:Type:=List Int×List Int×List (List Int)×List (List Int)×Unit
theorem bM{n:Nat}(h:n<4611686018427387904):ai ((n:Int)+1)=((n+1:Nat):Int):=bu (by omega)
variable {go2:Int->iy->Option iy} {x y:List Int} {i k:Nat} {b:iy}
theorem Tb(O:en b.2.2.1)(U:en b.2.2.2.1)(o:i<65)(hk:k<65)(both left right n:Int):
  nS (i:Int) (k:Int) b go2 both left right n=go2 (ai ((k:Int)-1)) (b.1,b.2.1,mL b.2.2.1 i k (cC (cC both left) right),mL b.2.2.2.1 i k (cC n 1048577),()):=by
 unfold nS s7
 rw[cO (by omega)];simp only[Option.bind_some]
 rw[cO (by omega)];simp only[Option.bind_some]
 rw[(O.row o).2];simp only[Option.bind_some]
 rw[O.dS o hk];simp only[Option.bind_some]
 rw[(U.row o).2];simp only[Option.bind_some]
 rw[U.dS o hk];simp only[Option.bind_some]
 simp only[Int.toNat_natCast]
 rfl
theorem R3(lc:en b.2.2.1)(o:en b.2.2.2.1)(U:i<65)(hk:k<65){both left right:Int}(h1:both=cC (cC both left) right->i<64/\k<64)(Z:left=cC (cC both left) right->i<64)(la:right=cC (cC both left) right->k<64):
  ∃n,o9 both left (i:Int) (k:Int) b go2 right=nS (i:Int) (k:Int) b go2 both left right n:=by
 have W:∀n,∃O,s8 right both left (i:Int) (k:Int) b go2 n=nS (i:Int) (k:Int) b go2 both left right O:=by
  intro n
  unfold s8
  by_cases h:(right==cC (cC both left) right)=true
  ·have:=la (beq_iff_eq.1 h)
   rw[if_pos h,bM (by omega),cO (by omega)];simp only[Option.bind_some]
   rw[cO (by omega)];simp only[Option.bind_some]
   rw[(o.row U).2];simp only[Option.bind_some]
   rw[o.dS U (by omega)];simp only[Option.bind_some]
   exact⟨_,rfl⟩
  ·rw[if_neg h];exact⟨_,rfl⟩
 have Y:∀n,∃O,sn left both right (i:Int) (k:Int) b go2 n=nS (i:Int) (k:Int) b go2 both left right O:=by
  intro n
  unfold sn
  by_cases h:(left==cC (cC both left) right)=true
  ·have:=Z (beq_iff_eq.1 h)
   rw[if_pos h,bM (by omega),cO (by omega)];simp only[Option.bind_some]
   rw[cO (by omega)];simp only[Option.bind_some]
   rw[(o.row (p:=i+1) (by omega)).2];simp only[Option.bind_some]
   rw[o.dS (by omega) hk];simp only[Option.bind_some]
   exact W _
  ·rw[if_neg h];exact W _
 unfold o9
 by_cases h:(both==cC (cC both left) right)=true
 ·have:=h1 (beq_iff_eq.1 h)
  rw[if_pos h,bM (by omega),bM (by omega),cO (by omega)];simp only[Option.bind_some]
  rw[cO (by omega)];simp only[Option.bind_some]
  rw[(o.row (p:=i+1) (by omega)).2];simp only[Option.bind_some]
  rw[o.dS (by omega) (by omega)];simp only[Option.bind_some]
  exact Y _
 ·rw[if_neg h];exact Y _
def r3(a:aU)(x y:List Int)(C:List (List Int))(i k:Nat):Prop:=
 ∀p q,p<=x.length->q<=y.length->(i<p\/p=i/\k<=q)->gy C p q=bI a (x.drop p) (y.drop q)
theorem iv{α:Type}{l:List α}{i:Nat}(h:i<l.length):l.drop i=l[i]'h::l.drop (i+1):=List.drop_eq_getElem_cons h
theorem GH(a:aU){n:Nat}{go1:Int->List (List UInt8)->List ee->iy->Option iy}(O:en b.2.2.1)(lc:en b.2.2.2.1)(lD:x.length<=64)(lE:y.length<=64)(lF:i<=x.length)(hk:k<=y.length)(la:r3 a x y b.2.2.1 i (k+1))(lk:b.1=x/\b.2.1=y)(ll:i=x.length->k=y.length->gy b.2.2.1 i k=0):
  ∃U,zo 80000 x (i:Int) y a.1 a.2.1 go1 go2 (k:Int) b=go2 (ai ((k:Int)-1)) U/\en U.2.2.1/\en U.2.2.2.1/\r3 a x y U.2.2.1 i k/\(U.1=x/\U.2.1=y)/\(∀p q,¬(p=i/\q=k)->gy U.2.2.1 p q=gy b.2.2.1 p q):=by
 unfold zo FN
 rw[if_pos (by simp only[decide_eq_true_eq];omega)]
 by_cases W:i=x.length/\k=y.length
 ·rw[if_pos (by simp[W.1,W.2])]
  unfold s7
  refine⟨b,rfl,O,lc,fun p q lj az lm=>?_,lk,fun _ _ _=>rfl⟩
  by_cases e:p=i/\q=k
  ·rw[e.1,e.2,ll W.1 W.2,W.1,W.2,List.drop_length,List.drop_length]
   unfold bI
   rfl
  ·exact la p q lj az (by omega)
 rw[if_neg (by simp;omega)]
 -- what is known of the neighbours
 have rT:=fun p q=>wL a _ (x.drop p) (y.drop q) (Nat.le_refl _)
 have Y:∀p q,0<=bI a (x.drop p) (y.drop q)/\bI a (x.drop p) (y.drop q)<=640:=fun p q=>by
  have:=rT p q
  simp only[List.length_drop]at this
  omega
 -- both
 obtain⟨both,ln,ld⟩:∃both,(∀f:Int->Option iy,(if(decide ((i:Int)<(x.length:Int))&&decide ((k:Int)<(y.length:Int)))=true then
   Option.bind (ao x (i:Int)) fun lo=>Option.bind (ao y (k:Int)) fun lp=>Option.bind (jn 80000 (a.1,a.2.1,()) lo lp) fun v1=>
   Option.bind (aG (0<=(ai ((i:Int)+(1:Int)))/\(ai ((i:Int)+(1:Int)))<(65:Int))) fun _=>
   Option.bind (aG (0<=(ai ((k:Int)+(1:Int)))/\(ai ((k:Int)+(1:Int)))<(65:Int))) fun _=>
   Option.bind (ao b.2.2.1 (ai ((i:Int)+(1:Int)))) fun lq=>
   Option.bind (ao lq (ai ((k:Int)+(1:Int)))) fun lr=>f (ai (v1+lr))
   else f 1073741824)=f both)/\((∃(h1:i<x.length) (o:k<y.length),both=gt a (x[i]'h1) (y[k]'o)+bI a (x.drop (i+1)) (y.drop (k+1)))\/(both=1073741824/\¬(i<x.length/\k<y.length))):=by
  by_cases h:i<x.length/\k<y.length
  ·obtain⟨h1,o⟩:=h
   refine⟨gt a (x[i]'h1) (y[k]'o)+bI a (x.drop (i+1)) (y.drop (k+1)),fun f=>?_,.inl ⟨h1,o,rfl⟩⟩
   have lt:jn 80000 (a.1,a.2.1,()) (x[i]'h1) (y[k]'o)=some (gt a (x[i]'h1) (y[k]'o)):=IL a _ _
   have lG:=A6 a (x[i]'h1) (y[k]'o)
   have bN:=Y (i+1) (k+1)
   rw[if_pos (by simp only[Bool.and_eq_true,decide_eq_true_eq];omega),dt h1];simp only[Option.bind_some]
   rw[dt o];simp only[Option.bind_some]
   rw[lt];simp only[Option.bind_some]
   rw[bM (by omega),bM (by omega),cO (by omega)];simp only[Option.bind_some]
   rw[cO (by omega)];simp only[Option.bind_some]
   rw[(O.row (p:=i+1) (by omega)).2];simp only[Option.bind_some]
   rw[O.dS (by omega) (by omega)];simp only[Option.bind_some]
   rw[la (i+1) (k+1) (by omega) (by omega) (by omega),dl (by omega)]
  ·exact⟨1073741824,fun f=>by rw[if_neg (by simp only[Bool.and_eq_true,decide_eq_true_eq];omega)],.inr ⟨rfl,h⟩⟩
 -- left
 obtain⟨left,el,lf⟩:∃left,(∀f:Int->Option iy,(if decide ((i:Int)<(x.length:Int))=true then
   Option.bind (aG (0<=(ai ((i:Int)+(1:Int)))/\(ai ((i:Int)+(1:Int)))<(65:Int))) fun _=>
   Option.bind (aG (0<=(k:Int)/\(k:Int)<(65:Int))) fun _=>
   Option.bind (ao b.2.2.1 (ai ((i:Int)+(1:Int)))) fun lu=>
   Option.bind (ao lu (k:Int)) fun lv=>f (ai ((5:Int)+lv))
   else f 1073741824)=f left)/\((i<x.length/\left=5+bI a (x.drop (i+1)) (y.drop k))\/(left=1073741824/\¬i<x.length)):=by
  by_cases h:i<x.length
  ·refine⟨5+bI a (x.drop (i+1)) (y.drop k),fun f=>?_,.inl ⟨h,rfl⟩⟩
   have bN:=Y (i+1) k
   rw[if_pos (by simp only[decide_eq_true_eq];omega),bM (by omega),cO (by omega)];simp only[Option.bind_some]
   rw[cO (by omega)];simp only[Option.bind_some]
   rw[(O.row (p:=i+1) (by omega)).2];simp only[Option.bind_some]
   rw[O.dS (by omega) (by omega)];simp only[Option.bind_some]
   rw[la (i+1) k (by omega) (by omega) (by omega),dl (by omega)]
  ·exact⟨1073741824,fun f=>by rw[if_neg (by simp only[decide_eq_true_eq];omega)],.inr ⟨rfl,h⟩⟩
 -- right
 obtain⟨right,lw,lg⟩:∃right,(∀f:Int->Option iy,(if decide ((k:Int)<(y.length:Int))=true then
   Option.bind (aG (0<=(i:Int)/\(i:Int)<(65:Int))) fun _=>
   Option.bind (aG (0<=(ai ((k:Int)+(1:Int)))/\(ai ((k:Int)+(1:Int)))<(65:Int))) fun _=>
   Option.bind (ao b.2.2.1 (i:Int)) fun lx=>
   Option.bind (ao lx (ai ((k:Int)+(1:Int)))) fun ly=>f (ai ((5:Int)+ly))
   else f 1073741824)=f right)/\((k<y.length/\right=5+bI a (x.drop i) (y.drop (k+1)))\/(right=1073741824/\¬k<y.length)):=by
  by_cases h:k<y.length
  ·refine⟨5+bI a (x.drop i) (y.drop (k+1)),fun f=>?_,.inl ⟨h,rfl⟩⟩
   have bN:=Y i (k+1)
   rw[if_pos (by simp only[decide_eq_true_eq];omega),cO (by omega)];simp only[Option.bind_some]
   rw[bM (by omega),cO (by omega)];simp only[Option.bind_some]
   rw[(O.row (p:=i) (by omega)).2];simp only[Option.bind_some]
   rw[O.dS (by omega) (by omega)];simp only[Option.bind_some]
   rw[la i (k+1) (by omega) (by omega) (by omega),dl (by omega)]
  ·exact⟨1073741824,fun f=>by rw[if_neg (by simp only[decide_eq_true_eq];omega)],.inr ⟨rfl,h⟩⟩
 have lh:cC (cC both left) right=bI a (x.drop i) (y.drop k):=by
  by_cases h1:i<x.length
  ·by_cases o:k<y.length
   ·rcases ld with ⟨Z,li,rfl⟩|⟨_,q⟩
    ·rcases lf with ⟨_,rfl⟩|⟨_,q⟩
     ·rcases lg with ⟨_,rfl⟩|⟨_,q⟩
      ·rw[iv h1,iv o]
       conv=>rhs;unfold bI
      ·exact absurd o q
     ·exact absurd h1 q
    ·exact absurd ⟨h1,o⟩ q
   ·rcases ld with ⟨Z,li,_⟩|⟨rfl,_⟩
    ·exact absurd li o
    rcases lf with ⟨_,rfl⟩|⟨_,q⟩
    ·rcases lg with ⟨q,_⟩|⟨rfl,_⟩
     ·exact absurd q o
     ·have bN:=Y (i+1) k
      have e:y.drop k=[]:=List.drop_eq_nil_of_le (by omega)
      have lz:bI a (x.drop i) (y.drop k)=5+bI a (x.drop (i+1)) (y.drop k):=by
       rw[e,iv h1]
       conv=>lhs;unfold bI
      have m1:=@qN 1073741824 (5+bI a (x.drop (i+1)) (y.drop k))
      have m2:=@qN (cC 1073741824 (5+bI a (x.drop (i+1)) (y.drop k))) 1073741824
      omega
    ·exact absurd h1 q
  ·have o:k<y.length:=by omega
   rcases ld with ⟨Z,li,_⟩|⟨rfl,_⟩
   ·exact absurd Z h1
   rcases lf with ⟨q,_⟩|⟨rfl,_⟩
   ·exact absurd q h1
   rcases lg with ⟨_,rfl⟩|⟨_,q⟩
   ·have bN:=Y i (k+1)
    have e:x.drop i=[]:=List.drop_eq_nil_of_le (by omega)
    have lz:bI a (x.drop i) (y.drop k)=5+bI a (x.drop i) (y.drop (k+1)):=by
     rw[e,iv o]
     conv=>lhs;unfold bI
    have m1:=@qN 1073741824 1073741824
    have m2:=@qN (cC 1073741824 1073741824) (5+bI a (x.drop i) (y.drop (k+1)))
    omega
   ·exact absurd o q
 have lH:=Y i k
 obtain⟨lI,lA⟩:=R3 (go2:=go2) O lc (i:=i) (k:=k) (by omega) (by omega) (both:=both) (left:=left) (right:=right)
  (fun h=>by rw[lh]at h;rcases ld with ⟨Z,li,_⟩|⟨rfl,_⟩<;>omega)
  (fun h=>by rw[lh]at h;rcases lf with ⟨Z,_⟩|⟨rfl,_⟩<;>omega)
  (fun h=>by rw[lh]at h;rcases lg with ⟨Z,_⟩|⟨rfl,_⟩<;>omega)
 have lB:Bk 80000 x (i:Int) y (k:Int) a.1 a.2.1 b go2 (decide ((i:Int)<(x.length:Int))&&decide ((k:Int)<(y.length:Int)))=o9 both left (i:Int) (k:Int) b go2 right:=by
  unfold Bk
  refine Eq.trans (ln fun v=>tQ (i:Int) x (k:Int) b y go2 v) ?_
  unfold tQ
  refine Eq.trans (el fun v=>um (k:Int) y (i:Int) b both go2 v) ?_
  unfold um
  exact lw fun v=>o9 both left (i:Int) (k:Int) b go2 v
 rw[lB,lA,Tb O lc (by omega) (by omega),lh]
 refine⟨_,rfl,O.set (by omega) _,lc.set (by omega) _,fun p q lj az lm=>?_,lk,fun p q lC=>?_⟩
 ·show gy (mL b.2.2.1 i k _) p q=_
  rw[O.Gz (by omega) (by omega)]
  by_cases e:p=i/\q=k
  ·rw[if_pos e,e.1,e.2]
  ·rw[if_neg e]
   exact la p q lj az (by omega)
 ·show gy (mL b.2.2.1 i k _) p q=_
  rw[O.Gz (by omega) (by omega),if_neg lC]
theorem MP(a:aU){go1:Int->List (List UInt8)->List ee->iy->Option iy}(lg:x.length<=64)(lh:y.length<=64)(li:i<=x.length):∀(k n:Nat) (b:iy),k+1<n->k<=y.length->en b.2.2.1->en b.2.2.2.1->r3 a x y b.2.2.1 i (k+1)->(b.1=x/\b.2.1=y)->(i=x.length->k=y.length->gy b.2.2.1 i k=0)->
  ∃o,mW 80000 x (i:Int) y a.1 a.2.1 go1 n (k:Int) b=go1 (ai ((i:Int)-1)) a.1 a.2.1 o/\en o.2.2.1/\en o.2.2.2.1/\r3 a x y o.2.2.1 i 0/\(o.1=x/\o.2.1=y):=by
 intro k
 induction k with
 |zero=>
  intro n b lj hk O U W Y Z
  obtain⟨n,rfl⟩:∃la,n=la+2:=⟨n-2,by omega⟩
  unfold mW
  obtain⟨o,e,h1,lc,ld,lf,_⟩:=GH (go2:=mW 80000 x (i:Int) y a.1 a.2.1 go1 (n+1)) (go1:=go1) (n:=n) a O U lg lh li hk W Y Z
  rw[e]
  refine⟨o,?_,h1,lc,ld,lf⟩
  rw[show ai (((0:Nat):Int)-1)=-1 from by rw[dl (by omega)];rfl]
  unfold mW zo
  rw[if_neg (by simp)]
 |succ k lk=>
  intro n b lj hk O U W Y Z
  obtain⟨n,rfl⟩:∃la,n=la+1:=⟨n-1,by omega⟩
  unfold mW
  obtain⟨o,e,h1,lc,ld,lf,_⟩:=GH (go2:=mW 80000 x (i:Int) y a.1 a.2.1 go1 n) (go1:=go1) (n:=n) a O U lg lh li hk W Y Z
  rw[e,show ai (((k+1:Nat):Int)-1)=(k:Int)from by rw[dl (by omega)];omega]
  exact lk n o (by omega) (by omega) h1 lc ld lf (fun _ q=>by omega)
theorem UQ(a:aU)(lg:x.length<=64)(lh:y.length<=64):∀(i n:Nat) (b:iy),i+1<n->i<=x.length->en b.2.2.1->en b.2.2.2.1->r3 a x y b.2.2.1 i (y.length+1)->(b.1=x/\b.2.1=y)->(i=x.length->gy b.2.2.1 i y.length=0)->
  ∃o,mK 80000 x y n (i:Int) a.1 a.2.1 b=some o/\en o.2.2.1/\r3 a x y o.2.2.1 0 0/\(o.1=x/\o.2.1=y):=by
 intro i
 induction i with
 |zero=>
  intro n b lj O U W Y Z la
  obtain⟨n,rfl⟩:∃lc,n=lc+2:=⟨n-2,by omega⟩
  unfold mK y8
  rw[if_pos (by simp)]
  obtain⟨o,e,h1,li,ld,lf⟩:=MP (i:=0) (go1:=mK 80000 x y (n+1)) a lg lh O y.length 80000 b (by omega) (Nat.le_refl _) U W Y Z (fun q _=>la q)
  refine⟨o,?_,h1,ld,lf⟩
  refine Eq.trans e ?_
  rw[show ai (((0:Nat):Int)-1)=-1 from by rw[dl (by omega)];rfl]
  unfold mK y8
  rw[if_neg (by simp)]
 |succ i lk=>
  intro n b lj O U W Y Z la
  obtain⟨n,rfl⟩:∃lc,n=lc+1:=⟨n-1,by omega⟩
  unfold mK y8
  rw[if_pos (by simp only[decide_eq_true_eq];omega)]
  obtain⟨o,e,h1,li,ld,lf⟩:=MP (i:=i+1) (go1:=mK 80000 x y n) a lg lh O y.length 80000 b (by omega) (Nat.le_refl _) U W Y Z (fun q _=>la q)
  obtain⟨ll,lm,r⟩:=lk n o (by omega) (by omega) h1 li (fun p q ln az lo=>ld p q ln az (by omega)) lf (fun q=>by omega)
  refine⟨ll,?_,r⟩
  refine Eq.trans e ?_
  rw[show ai (((i+1:Nat):Int)-1)=(i:Int)from by rw[dl (by omega)];omega]
  exact lm
theorem Nx(a:aU)(O:x.length<=64)(U:y.length<=64):∃b,qc 80000 a x y=some b/\en b.2.2.1/\(∀p q,p<=x.length->q<=y.length->gy b.2.2.1 p q=bI a (x.drop p) (y.drop q))/\(b.1=x/\b.2.1=y):=by
 unfold qc
 have W:∀p q,gy (List.replicate 65 (List.replicate 65 (0:Int))) p q=0:=by
  intro p q
  unfold gy
  rw[List.getD_eq_getElem?_getD,List.getD_eq_getElem?_getD]
  by_cases o:p<65
  ·rw[List.getElem?_replicate,if_pos o]
   simp only[Option.getD_some]
   by_cases az:q<65
   ·rw[List.getElem?_replicate,if_pos az];rfl
   ·rw[List.getElem?_replicate,if_neg az];rfl
  ·rw[List.getElem?_replicate,if_neg o]
   simp
 rw[cO (by omega)];simp only[Option.bind_some]
 rw[cO (by omega)];simp only[Option.bind_some]
 rw[(wz.row (p:=x.length) (by omega)).2];simp only[Option.bind_some]
 rw[wz.dS (p:=x.length) (q:=y.length) (by omega) (by omega)];simp only[Option.bind_some]
 simp only[Int.toNat_natCast]
 obtain⟨b,e,h1,Y,Z⟩:=UQ (x:=x) (y:=y) a O U x.length 80000 (x,y,List.replicate 65 (List.replicate 65 (0:Int)),mL (List.replicate 65 (List.replicate 65 (0:Int))) x.length y.length 1,()) (by omega) (Nat.le_refl _) wz (wz.set (by omega) _) (fun p q o az la=>by omega) ⟨rfl,rfl⟩ (fun _=>W _ _)
 exact⟨b,e,h1,fun p q o az=>Y p q o az (by omega),Z⟩
theorem Vt(a:aU)(lk:x.length<=64)(ll:y.length<=64){b:iy}(U:en b.2.2.1)(la:∀p q,p<=x.length->q<=y.length->gy b.2.2.1 p q=bI a (x.drop p) (y.drop q))(O:b.1=x/\b.2.1=y):∀(n i k:Nat) (l:List (Int×Int×Unit)),(x.length-i)+(y.length-k)<n->i<=x.length->k<=y.length->l.length<=i+k->
  nY 80000 b a n (i:Int) (k:Int) l=some (l++di a (x.drop i) (y.drop k)):=by
 intro n
 induction n with
 |zero=>intro i k l h;omega
 |succ n lc=>
  intro i k l lm lf hk ln
  have lg:∀p q,0<=bI a (x.drop p) (y.drop q)/\bI a (x.drop p) (y.drop q)<=640:=fun p q=>by
   have:=wL a _ (x.drop p) (y.drop q) (Nat.le_refl _)
   simp only[List.length_drop]at this
   omega
  have ld:∀z:Int×Int×Unit,l.length+[z].length<=lim:=fun z=>by
   have:lim=4611686018427387904\/1000<=lim:=.inr (by decide)
   simp only[List.length_cons,List.length_nil]
   have:1000<=lim:=by decide
   omega
  unfold nY Lc IR
  rw[O.1,O.2]
  by_cases lh:i=x.length/\k=y.length
  ·rw[if_neg (by simp only[Bool.or_eq_true,decide_eq_true_eq];omega),lh.1,lh.2,List.drop_length,List.drop_length]
   unfold di
   simp
  rw[if_pos (by simp only[Bool.or_eq_true,decide_eq_true_eq];omega),cO (by omega)];simp only[Option.bind_some]
  rw[cO (by omega)];simp only[Option.bind_some]
  rw[(U.row (p:=i) (by omega)).2];simp only[Option.bind_some]
  rw[U.dS (p:=i) (q:=k) (by omega) (by omega),la i k lf hk];simp only[Option.bind_some]
  -- a letter over none; none over a letter
  have Y:∀t:Bool,(t=true->i<x.length)->(t=false->k<y.length)->rO b (i:Int) l (nY 80000 b a n) (k:Int) t=some (l++(if t then(x.getD i 0,0,())::di a (x.drop (i+1)) (y.drop k)else(0,y.getD k 0,())::di a (x.drop i) (y.drop (k+1)))):=by
   intro t h1 o
   unfold rO
   rw[O.1,O.2]
   cases t with
   |true=>
    have h:=h1 rfl
    rw[if_pos rfl,dt h];simp only[Option.bind_some]
    rw[cO (ld _)];simp only[Option.bind_some]
    rw[bM (by omega),lc (i+1) k _ (by omega) (by omega) hk (by simp;omega),List.append_assoc]
    simp[List.getD_eq_getElem?_getD,h]
   |false=>
    have h:=o rfl
    rw[if_neg (by simp),dt h];simp only[Option.bind_some]
    rw[cO (ld _)];simp only[Option.bind_some]
    rw[bM (by omega),lc i (k+1) _ (by omega) lf (by omega) (by simp;omega),List.append_assoc]
    simp[List.getD_eq_getElem?_getD,h]
  have left:i<x.length->∀v:Int,pD b (i:Int) (k:Int) l (nY 80000 b a n) v false=rO b (i:Int) l (nY 80000 b a n) (k:Int) (v==5+bI a (x.drop (i+1)) (y.drop k)):=by
   intro h v
   have bN:=lg (i+1) k
   unfold pD
   rw[if_neg (by simp),O.1,if_pos (by simp only[decide_eq_true_eq];omega),bM (by omega),cO (by omega)];simp only[Option.bind_some]
   rw[cO (by omega)];simp only[Option.bind_some]
   rw[(U.row (p:=i+1) (by omega)).2];simp only[Option.bind_some]
   rw[U.dS (p:=i+1) (q:=k) (by omega) (by omega),la (i+1) k (by omega) hk];simp only[Option.bind_some]
   rw[dl (by omega)]
  unfold JN
  rw[O.1,O.2]
  by_cases h1:i<x.length
  ·by_cases o:k<y.length
   ·rw[if_pos (by simp only[Bool.and_eq_true,decide_eq_true_eq];omega),dt h1];simp only[Option.bind_some]
    rw[dt o];simp only[Option.bind_some]
    have lj:jn 80000 (a.1,a.2.1,()) (x[i]'h1) (y[k]'o)=some (gt a (x[i]'h1) (y[k]'o)):=IL a _ _
    have lo:=A6 a (x[i]'h1) (y[k]'o)
    have bN:=lg (i+1) (k+1)
    rw[lj];simp only[Option.bind_some]
    rw[bM (by omega),bM (by omega),cO (by omega)];simp only[Option.bind_some]
    rw[cO (by omega)];simp only[Option.bind_some]
    rw[(U.row (p:=i+1) (by omega)).2];simp only[Option.bind_some]
    rw[U.dS (p:=i+1) (q:=k+1) (by omega) (by omega),la (i+1) (k+1) (by omega) (by omega)];simp only[Option.bind_some]
    rw[dl (by omega)]
    have li:di a (x.drop i) (y.drop k)=if bI a (x.drop i) (y.drop k)=gt a (x[i]'h1) (y[k]'o)+bI a (x.drop (i+1)) (y.drop (k+1))then(x[i]'h1,y[k]'o,())::di a (x.drop (i+1)) (y.drop (k+1))
      else if bI a (x.drop i) (y.drop k)=5+bI a (x.drop (i+1)) (y.drop k)then(x[i]'h1,0,())::di a (x.drop (i+1)) (y.drop k)else(0,y[k]'o,())::di a (x.drop i) (y.drop (k+1)):=by
     rw[iv h1,iv o]
     conv=>lhs;unfold di
    by_cases Z:bI a (x.drop i) (y.drop k)=gt a (x[i]'h1) (y[k]'o)+bI a (x.drop (i+1)) (y.drop (k+1))
    ·rw[beq_iff_eq.2 Z]
     unfold pD
     rw[if_pos rfl,O.1,O.2,dt h1];simp only[Option.bind_some]
     rw[dt o];simp only[Option.bind_some]
     rw[cO (ld _)];simp only[Option.bind_some]
     rw[bM (by omega),bM (by omega),lc (i+1) (k+1) _ (by omega) (by omega) (by omega) (by simp;omega),li,if_pos Z,List.append_assoc]
     rfl
    ·rw[show(bI a (x.drop i) (y.drop k)==gt a (x[i]'h1) (y[k]'o)+bI a (x.drop (i+1)) (y.drop (k+1)))=false from by simpa using Z,left h1,li,if_neg Z]
     by_cases W:bI a (x.drop i) (y.drop k)=5+bI a (x.drop (i+1)) (y.drop k)
     ·rw[beq_iff_eq.2 W,Y true (fun _=>h1) (fun q=>by cases q),if_pos rfl,if_pos W]
      simp[List.getD_eq_getElem?_getD,h1]
     ·rw[show(bI a (x.drop i) (y.drop k)==5+bI a (x.drop (i+1)) (y.drop k))=false from by simpa using W,Y false (fun q=>by cases q) (fun _=>o),if_neg (by simp),if_neg W]
      simp[List.getD_eq_getElem?_getD,o]
   ·rw[if_neg (by simp only[Bool.and_eq_true,decide_eq_true_eq];omega),left h1]
    have e:y.drop k=[]:=List.drop_eq_nil_of_le (by omega)
    have W:bI a (x.drop i) (y.drop k)=5+bI a (x.drop (i+1)) (y.drop k):=by
     rw[e,iv h1]
     conv=>lhs;unfold bI
    rw[beq_iff_eq.2 W,Y true (fun _=>h1) (fun q=>by cases q),if_pos rfl,e,iv h1]
    conv=>rhs;unfold di
    simp[List.getD_eq_getElem?_getD,h1]
  ·have o:k<y.length:=by omega
   rw[if_neg (by simp only[Bool.and_eq_true,decide_eq_true_eq];omega)]
   unfold pD
   rw[if_neg (by simp),O.1,if_neg (by simp only[decide_eq_true_eq];omega),Y false (fun q=>by cases q) (fun _=>o),if_neg (by simp)]
   have e:x.drop i=[]:=List.drop_eq_nil_of_le (by omega)
   rw[e,iv o]
   conv=>rhs;unfold di
   simp[List.getD_eq_getElem?_getD,o]
theorem Qm(a:aU)(o:x.length<=64)(O:y.length<=64){b:iy}(U:en b.2.2.1)(W:∀p q,p<=x.length->q<=y.length->gy b.2.2.1 p q=bI a (x.drop p) (y.drop q))(Y:b.1=x/\b.2.1=y):
  pA 80000 a b=some (di a x y):=by
 unfold pA
 have:=Vt a o O U W Y 80000 0 0 [] (by omega) (Nat.zero_le _) (Nat.zero_le _) (by simp)
 simpa using this
theorem NY(a:aU):∀n (x y:List Int),x.length+y.length<=n->(di a x y).length<=x.length+y.length:=by
 intro n
 induction n with
 |zero=>
  intro x y h
  have U:x=[]:=List.length_eq_zero_iff.1 (by omega)
  have W:y=[]:=List.length_eq_zero_iff.1 (by omega)
  subst U;subst W
  unfold di
  simp
 |succ n o=>
  intro x y h
  match x,y,h with
  |[],[],_=>unfold di;simp
  |x::xs,[],h=>
   have:=o xs [] (by simp only[List.length_cons,List.length_nil]at h⊢;omega)
   unfold di
   simp only[List.length_cons,List.length_nil]at this⊢
   omega
  |[],y::O,h=>
   have:=o [] O (by simp only[List.length_cons,List.length_nil]at h⊢;omega)
   unfold di
   simp only[List.length_cons,List.length_nil]at this⊢
   omega
  |x::xs,y::O,h=>
   have i1:=o xs O (by simp only[List.length_cons]at h⊢;omega)
   have i2:=o xs (y::O) (by simp only[List.length_cons]at h⊢;omega)
   have i3:=o (x::xs) O (by simp only[List.length_cons]at h⊢;omega)
   unfold di
   split
   ·simp only[List.length_cons]at i1⊢;omega
   ·split
    ·simp only[List.length_cons]at i2⊢;omega
    ·simp only[List.length_cons]at i3⊢;omega
end Go.Ev
namespace Go.Ev
open Go
set_option linter.unusedVariables false
theorem FK(k:Nat)(r:Int):bY (yb k r):=by
 unfold yb Mu
 exact fO (fun _=>bR _) fun _=>fO (fun _=>bR _) fun _=>fO (fun _=>bR _) fun _=>cu (fun _=>bR _) fun _=>fO (fun _=>bR _) fun _=>fO (fun _=>bR _) fun _=>bR _
theorem uQ:(1000000:Nat)<=lim:=by decide
theorem Of(a:aU)(h:a.2.1.length<=128):∀n i (m:List (Int×Int)),i<=a.2.1.length->a.2.1.length-i<n->(∀r:Int,(bn (aD (.int .i32)) m r).isSome=true->r∈a.2.1.map (·.1))->
  ∃aA,nZ a n (i:Int) m=some (some aA,0)/\∀r:Int,(bn (aD (.int .i32)) aA r).isSome=true->r∈a.2.1.map (·.1):=by
 intro n
 induction n with
 |zero=>intro i m _ h;omega
 |succ n O=>
  intro i m W Y o
  unfold nZ Ad
  by_cases h:i<a.2.1.length
  ·rw[if_pos (by simp only[decide_eq_true_eq];omega),dt h];simp only[Option.bind_some]
   rw[bu (by omega)]
   refine O (i+1) _ (by omega) (by omega) fun r U=>?_
   have:=oZ xe (a.2.1[i]'h).1 r (i:Int) m
   by_cases e:r=(a.2.1[i]'h).1
   ·rw[e];exact List.mem_map.2 ⟨_,List.getElem_mem h,rfl⟩
   ·exact o r ((congrArg Option.isSome (this.2 e)).symm.trans U)
  ·rw[if_neg (by simp only[decide_eq_true_eq];omega)]
   exact⟨m,rfl,o⟩
theorem sv{a:aU}(h:cL a=true):a.1.length<=24/\1<=a.2.1.length/\a.2.1.length<=128:=by
 refine Classical.byContradiction fun o=>?_
 rw[GU o]at h
 cases h
def IV(a:aU)(p:Int×Int×Unit):Prop:=(p.1=0\/p.1∈a.2.1.map (·.1))/\(p.2.1=0\/p.2.1∈a.2.1.map (·.1))
end Go.Ev
namespace Go.Ev
open Go
set_option linter.unusedVariables false
abbrev bS:Type:=Int×Int×Unit
abbrev qJ:bS->bS->Bool:=aD dU
theorem Ba(x y:bS):qJ x y=true↔x=y:=by
 obtain⟨a,b,_⟩:=x
 obtain⟨c,d,_⟩:=y
 show((a==c)&&((b==d)&&true))=true↔_
 simp
/-! Maps as0 lists. -/
section
variable {α β:Type} {eq:α->α->Bool}
theorem Gf(O:∀x y,eq x y=true↔x=y)(k:α)(v:β):∀l:List (α×β),(l.map (·.1)).Nodup->((cb eq l k v).map (·.1)).Nodup/\∀x,x∈(cb eq l k v).map (·.1)↔x=k\/x∈l.map (·.1)
 |[],_=>by simp[cb]
 |p::l,o=>by
  rw[List.map_cons,List.nodup_cons]at o
  obtain⟨i1,i2⟩:=Gf O k v l o.2
  unfold cb
  by_cases h:eq k p.1=true
  ·rw[if_pos h]
   have e:=(O _ _).1 h
   subst e
   simp only[List.map_cons,List.nodup_cons,List.mem_cons]
   exact⟨o,fun x=>by simp⟩
  ·rw[if_neg h]
   have hk:k≠p.1:=fun e=>h ((O _ _).2 e)
   simp only[List.map_cons,List.nodup_cons,List.mem_cons]
   refine⟨⟨fun U=>?_,i1⟩,fun x=>by rw[i2];constructor<;>(intro h;rcases h with h|h|h<;>simp[h])⟩
   rcases(i2 p.1).1 U with e|e
   ·exact hk e.symm
   ·exact o.1 e
theorem Il(o:∀x y,eq x y=true↔x=y):∀l:List (α×β),(l.map (·.1)).Nodup->∀q∈l,bn eq l q.1=some q.2
 |[],_,q,az=>by cases az
 |p::l,O,q,az=>by
  rw[List.map_cons,List.nodup_cons]at O
  unfold bn
  rcases List.mem_cons.1 az with rfl|az
  ·rw[if_pos ((o _ _).2 rfl)]
  ·by_cases h:eq q.1 p.1=true
   ·exact absurd (List.mem_map.2 ⟨q,az,(o _ _).1 h⟩) O.1
   ·rw[if_neg h];exact Il o l O.2 q az
end
def eJ:List Int->Int
 |[]=>0
 |x::l=>x+eJ l
theorem P3{l m:List Int}(h:l.Perm m):eJ l=eJ m:=by
 induction h with
 |nil=>rfl
 |cons x _ o=>simp only[eJ,o]
 |swap x y l=>simp only[eJ];omega
 |trans _ _ i1 i2=>exact i1.trans i2
theorem Jr{α:Type}{eq:α->α->Bool}(k:α)(v:Int):∀l:List (α×Int),eJ ((cb eq l k v).map (·.2))=eJ (l.map (·.2))-(bn eq l k).getD 0+v
 |[]=>by simp[cb,bn,eJ]
 |p::l=>by
  unfold cb bn
  by_cases h:eq k p.1=true
  ·rw[if_pos h,if_pos h]
   simp only[List.map_cons,eJ,Option.getD_some]
   omega
  ·rw[if_neg h,if_neg h]
   have:=Jr (eq:=eq) k v l
   simp only[List.map_cons,eJ]
   omega
/-! Counting. -/
def de(m:List (bS×Int))(p:bS):Int:=(bn qJ m p).getD 0
def bump(m:List (bS×Int))(p:bS):List (bS×Int):=cb qJ m p (ai (de m p+1))
structure kT(m:List (bS×Int))(ps:List bS):Prop where
 jy:(m.map (·.1)).Nodup
 keys:∀p,p∈m.map (·.1)↔p∈ps
 pos:∀p∈ps,1<=de m p
 rT:∀p,0<=de m p/\de m p<=ps.length
 sum:eJ (m.map (·.2))=ps.length
theorem kT.nil:kT [] []:=⟨by simp,fun p=>by simp,fun p o=>(by cases o),fun p=>by simp[de,bn],rfl⟩
theorem kT.bump{m:List (bS×Int)}{ps:List bS}(h:kT m ps)(p:bS)(Z:ps.length<1000000):kT (bump m p) (ps++[p]):=by
 obtain⟨U,W⟩:=Gf Ba p (ai (de m p+1)) m h.jy
 have la:=h.rT p
 have o:ai (de m p+1)=de m p+1:=dl (by omega)
 have O:∀q,de (Ev.bump m p) q=if q=p then de m p+1 else de m q:=by
  intro q
  obtain⟨g1,g2⟩:=oZ Ba p q (ai (de m p+1)) m
  unfold Ev.bump
  unfold de at*
  by_cases e:q=p
  ·rw[if_pos e,g1 e,o];rfl
  ·rw[if_neg e,g2 e]
 refine⟨U,fun q=>?_,fun q az=>?_,fun q=>?_,?_⟩
 ·show q∈(cb qJ m p _).map (·.1)↔_
  rw[W q,h.keys q,List.mem_append,List.mem_singleton]
  exact Or.comm
 ·rw[O]
  split
  ·omega
  ·rename_i Y
   rcases List.mem_append.1 az with az|az
   ·exact h.pos q az
   ·exact absurd (by simpa using az) Y
 ·rw[O]
  simp only[List.length_append,List.length_cons,List.length_nil]
  have:=h.rT q
  split<;>omega
 ·show eJ ((cb qJ m p _).map (·.2))=_
  rw[Jr,h.sum,o]
  simp only[List.length_append,List.length_cons,List.length_nil]
  unfold de
  omega
theorem kT.fold{m:List (bS×Int)}{ps:List bS}(h:kT m ps):∀(o:List bS),ps.length+o.length<1000000->kT (o.foldl Ev.bump m) (ps++o):=by
 intro o
 induction o generalizing m ps with
 |nil=>intro _;simpa using h
 |cons q o O=>
  intro U
  simp only[List.length_cons]at U
  have:=O (h.bump q (by omega)) (by simp only[List.length_append,List.length_cons,List.length_nil];omega)
  simpa using this
/-! Places of letters. -/
def pos(ls:List Int)(r:Int):Int:=if r∈ls then(ls.idxOf r:Int)+1 else 0
theorem wK(ls:List Int)(r:Int):0<=pos ls r/\pos ls r<=ls.length:=by
 unfold pos
 split
 ·rename_i h
  have:=List.idxOf_lt_length_of_mem h
  omega
 ·omega
theorem Mw{ls:List Int}(Z:(0:Int)∉ls){r s:Int}(W:r=0\/r∈ls)(Y:s=0\/s∈ls)(h:pos ls r=pos ls s):r=s:=by
 unfold pos at h
 by_cases h1:r∈ls
 ·rw[if_pos h1]at h
  by_cases o:s∈ls
  ·rw[if_pos o]at h
   have e:ls.idxOf r=ls.idxOf s:=by omega
   have O:=List.getElem_idxOf (List.idxOf_lt_length_of_mem h1)
   have U:=List.getElem_idxOf (List.idxOf_lt_length_of_mem o)
   rw[<-O,<-U]
   congr 1
  ·rw[if_neg o]at h
   omega
 ·rw[if_neg h1]at h
  by_cases o:s∈ls
  ·rw[if_pos o]at h
   omega
  ·have O:r=0:=W.resolve_right h1
   have U:s=0:=Y.resolve_right o
   rw[O,U]
theorem TG{ls:List Int}{x:Int}(o:x∉ls)(r:Int):pos (ls++[x]) r=if r=x then(ls.length:Int)+1 else pos ls r:=by
 unfold pos
 by_cases e:r=x
 ·subst e
  rw[if_pos (by simp),if_pos rfl,List.idxOf_append,if_neg o]
  simp
 ·rw[if_neg e]
  by_cases h:r∈ls
  ·rw[if_pos (by simp[h]),if_pos h,List.idxOf_append,if_pos h]
  ·rw[if_neg (by simp[h,e]),if_neg h]
/-! The comparison. -/
def k7(f aa:bS->Int)(aT:bS->Int)(x y:bS):Prop:=f y<f x\/f y=f x/\(aa x<aa y\/aa x=aa y/\aT x<aT y)
theorem or_val(a b c:Int):s5 80000 [a,b,c]=some (if a≠0 then a else if b≠0 then b else c):=by
 unfold s5
 by_cases h1:a=0
 ·by_cases o:b=0
  ·by_cases O:c=0
   ·subst h1;subst o;subst O;rfl
   ·subst h1;subst o
    rw[if_neg (by simp),if_neg (by simp)]
    show(if c !=0 then some c else some 0)=some c
    rw[if_pos (by simpa using O)]
  ·subst h1
   rw[if_neg (by simp),if_pos o]
   show(if b !=0 then some b else _)=some b
   rw[if_pos (by simpa using o)]
 ·rw[if_pos h1]
  show(if a !=0 then some a else _)=some a
  rw[if_pos (by simpa using h1)]
theorem La{m:List (bS×Int)}{rk:List (Int×Int)}{ls:List Int}(O:∀p,0<=de m p/\de m p<=1000000)(W:ls.length<=1000)(o:∀r:Int,(bn (aD (.int .i32)) rk r).getD 0=pos ls r)(x y:bS):
  ∃v,kC 80000 x y (some m) (some rk)=some v/\(v<0↔k7 (de m) (fun p=>pos ls p.1) (fun p=>pos ls p.2.1) x y):=by
 have U:kC 80000 x y (some m) (some rk)=Option.bind (s5 80000 [ai (de m y-de m x),ai ((bn (aD (.int .i32)) rk x.1).getD (0:Int)-(bn (aD (.int .i32)) rk y.1).getD (0:Int)),ai ((bn (aD (.int .i32)) rk x.2.1).getD (0:Int)-(bn (aD (.int .i32)) rk y.2.1).getD (0:Int))]) fun v=>some v:=rfl
 rw[U,o,o,o,o]
 have h1:=O x
 have Y:=O y
 have Z:=wK ls x.1
 have la:=wK ls y.1
 have lc:=wK ls x.2.1
 have ld:=wK ls y.2.1
 rw[show ai (de m y-de m x)=de m y-de m x from dl (by omega),show ai (pos ls x.1-pos ls y.1)=pos ls x.1-pos ls y.1 from dl (by omega),show ai (pos ls x.2.1-pos ls y.2.1)=pos ls x.2.1-pos ls y.2.1 from dl (by omega),or_val]
 simp only[Option.bind_some]
 refine⟨_,rfl,?_⟩
 unfold k7
 split
 ·dsimp only;omega
 ·split
  ·dsimp only;omega
  ·dsimp only;omega
theorem Tz{m:List (bS×Int)}{rk:List (Int×Int)}{ls:List Int}(W:∀p,0<=de m p/\de m p<=1000000)(Y:ls.length<=1000)(Z:(0:Int)∉ls)(la:∀r:Int,(bn (aD (.int .i32)) rk r).getD 0=pos ls r)(li:m.length<1000000)
  (hk:∀p∈m.map (·.1),(p.1=0\/p.1∈ls)/\(p.2.1=0\/p.2.1∈ls)):∃v,k8 80000 m rk=some v/\v.Perm (m.map (·.1))/\v.Pairwise (fun a b=>de m b<=de m a)/\v.Pairwise (fun a b=>¬k7 (de m) (fun p=>pos ls p.1) (fun p=>pos ls p.2.1) b a):=by
 unfold k8
 have lj:Nat.blt m.length 1000000=true:=by
  rw[Nat.blt_eq];exact li
 rw[lj]
 simp only[cond_true]
 have o:∀x y,(eh (fun x y=>kC 80000 x y (some m) (some rk)) x y=true↔k7 (de m) (fun p=>pos ls p.1) (fun p=>pos ls p.2.1) x y):=by
  intro x y
  obtain⟨v,O,lk⟩:=La W Y la x y
  simp only[eh,O,decide_eq_true_eq]
  exact lk
 have lc:mO (fun x y=>kC 80000 x y (some m) (some rk)) (m.map (·.1))=true:=by
  unfold mO
  rw[List.all_eq_true]
  intro x ll
  rw[List.all_eq_true]
  intro y U
  obtain⟨v,O,_⟩:=La W Y la x y
  have ld:=hk x ll
  have lf:=hk y U
  simp only[O,Option.isSome_some,Bool.true_and,Bool.and_eq_true]
  refine⟨?_,?_⟩
  ·by_cases e:x=y
   ·subst e
    rw[decide_eq_true rfl]
    simp only[cond_true,Bool.not_eq_true']
    rw[<-Bool.not_eq_true,o]
    unfold k7
    omega
   ·rw[decide_eq_false e]
    simp only[cond_false,Bool.and_eq_true,Bool.or_eq_true,Bool.not_eq_true']
    rw[<-Bool.not_eq_true,Bool.and_eq_true,o,o]
    have lq:¬(pos ls x.1=pos ls y.1/\pos ls x.2.1=pos ls y.2.1):=fun h=>e (by
     have lm:=Mw Z ld.1 lf.1 h.1
     have ln:=Mw Z ld.2 lf.2 h.2
     exact Prod.ext lm (Prod.ext ln rfl))
    unfold k7
    dsimp only
    omega
  ·rw[List.all_eq_true]
   intro z lr
   rw[Bool.or_eq_true,Bool.not_eq_true',<-Bool.not_eq_true,Bool.and_eq_true,o,o,o]
   unfold k7
   dsimp only
   omega
 have lo:=(Mr lc).1
 have lg:(jY (eh fun x y=>kC 80000 x y (some m) (some rk)) (m.map (·.1))).Pairwise (fun a b=>¬k7 (de m) (fun p=>pos ls p.1) (fun p=>pos ls p.2.1) b a):=by
  refine List.Pairwise.imp (fun{a b} lh h=>?_) (Br lo (fun y U=>U))
  rw[(o b a).2 h]at lh
  cases lh
 refine⟨jY (eh fun x y=>kC 80000 x y (some m) (some rk)) (m.map (·.1)),by unfold xi;rw[lc];rfl,rV _ _,lg.imp (fun{a b} lp=>?_),lg⟩
 unfold k7 at lp
 omega
end Go.Ev
namespace Go.Ev
open Go
set_option linter.unusedVariables false
theorem O2{o:List bS}(U:o.length<=1000)(go1:Int->List (List UInt8)->List ee->List (bS×Int)->Option (List (bS×Int×Unit)))(t1:Int)(a2:List (List UInt8))(a3:List ee):
  ∀n i (m:List (bS×Int)),i<=o.length->o.length-i<n->oK o go1 t1 a2 a3 n (i:Int) m=go1 (ai (t1+1)) a2 a3 ((o.drop i).foldl bump m):=by
 intro n
 induction n with
 |zero=>intro i m _ h;omega
 |succ n O=>
  intro i m W Y
  unfold oK C9
  by_cases h:i<o.length
  ·rw[if_pos (by simp only[decide_eq_true_eq];omega),dt h]
   simp only[Option.bind_some]
   rw[bu (by omega),iv h,List.foldl_cons]
   exact O (i+1) _ (by omega) (by omega)
  ·rw[if_neg (by simp only[decide_eq_true_eq];omega),List.drop_eq_nil_of_le (by omega)]
   rfl
theorem Un{al:List (List bS)}(W:al.length<=5000)(o:∀x∈al,x.length<=1000)(a2:List (List UInt8))(a3:List ee):
  ∀n i (m:List (bS×Int)),i<=al.length->al.length-i<n->o6 80000 al n (i:Int) a2 a3 m=mP 80000 a3 ((al.drop i).flatten.foldl bump m) 80000 (0:Int) []:=by
 intro n
 induction n with
 |zero=>intro i m _ h;omega
 |succ n O=>
  intro i m Y Z
  unfold o6 zM
  by_cases h:i<al.length
  ·have U:=o _ (List.getElem_mem h)
   rw[if_pos (by simp only[decide_eq_true_eq];omega),dt h]
   simp only[Option.bind_some]
   rw[show(0:Int)=((0:Nat):Int)from rfl,O2 U _ _ _ _ 80000 0 m (Nat.zero_le _) (by omega),bu (by omega),O (i+1) _ (by omega) (by omega),iv h,List.flatten_cons,List.foldl_append,List.drop_zero]
   rfl
  ·rw[if_neg (by simp only[decide_eq_true_eq];omega),List.drop_eq_nil_of_le (by omega)]
   rfl
theorem ND{v:List bS}(U:v.length<=100000)(m:List (bS×Int)):∀n i (o:List (bS×Int×Unit)),i<=v.length->v.length-i<n->o.length<=i->
  oh v m n (i:Int) o=some (o++(v.drop i).map fun p=>(p,de m p,())):=by
 intro n
 induction n with
 |zero=>intro i o _ h;omega
 |succ n O=>
  intro i o W Y Z
  have la:=uQ
  unfold oh Cr
  by_cases h:i<v.length
  ·rw[if_pos (by simp only[decide_eq_true_eq];omega),dt h]
   simp only[Option.bind_some]
   rw[cO (by simp only[List.length_cons,List.length_nil];omega)]
   simp only[Option.bind_some]
   rw[bu (by omega),O (i+1) _ (by omega) (by omega) (by simp only[List.length_append,List.length_cons,List.length_nil];omega),iv h,List.map_cons,List.append_assoc]
   rfl
  ·rw[if_neg (by simp only[decide_eq_true_eq];omega),List.drop_eq_nil_of_le (by omega)]
   simp
structure U3(a:aU)(ps:List bS)(v:List bS):Prop where
 jy:v.Nodup
 mem:∀p,p∈v↔p∈ps
 xi:v.Pairwise (fun x y=>de (ps.foldl bump []) y<=de (ps.foldl bump []) x)
 sum:eJ (v.map (de (ps.foldl bump [])))=ps.length
 len:v.length<=ps.length
 perm:v.Perm ((ps.foldl bump []).map (·.1))
 ord:v.Pairwise (fun x y=>¬k7 (de (ps.foldl bump [])) (fun p=>pos (a.2.1.map (·.1)) p.1) (fun p=>pos (a.2.1.map (·.1)) p.2.1) y x)
theorem Lj(m:List (bS×Int))(h:(m.map (·.1)).Nodup):(m.map (·.1)).map (de m)=m.map (·.2):=by
 rw[List.map_map]
 refine List.map_congr_left fun q az=>?_
 show(bn qJ m q.1).getD 0=q.2
 rw[Il Ba m h q az]
 rfl
theorem Xc(a:aU)(O:cL a=true){al:List (List bS)}(lg:al.length<=5000)(la:∀x∈al,x.length<=1000/\∀p∈x,IV a p)(lz:al.flatten.length<=70000):
  ∃v,rE 80000 a al=some (v.map fun p=>(p,de (al.flatten.foldl bump []) p,()))/\U3 a al.flatten v:=by
 unfold rE
 rw[show(0:Int)=((0:Nat):Int)from rfl,Un lg (fun x o=>(la x o).1) a.1 a.2.1 80000 0 [] (Nat.zero_le _) (by omega),List.drop_zero]
 have C:=kT.nil.fold al.flatten (by rw[List.length_nil];omega)
 rw[List.nil_append]at C
 generalize W:al.flatten.foldl bump []=m at C
 have lA:=sv O
 have lh:(a.2.1.map (·.1)).Nodup:=by
  unfold cL at O
  simp only[Bool.and_eq_true,decide_eq_true_eq]at O
  exact O.2.2
 have li:(0:Int)∉a.2.1.map (·.1):=by
  intro h
  obtain⟨x,o,lj⟩:=List.mem_map.1 h
  unfold cL at O
  simp only[Bool.and_eq_true,List.all_eq_true]at O
  have:=(O.2.1 x o).1
  rw[lj]at this
  exact absurd this (by decide)
 -- the letters' places
 have lk:∀n i (rk:List (Int×Int)),i<=a.2.1.length->a.2.1.length-i<n->(∀r:Int,(bn (aD (.int .i32)) rk r).getD 0=pos ((a.2.1.map (·.1)).take i) r)->
   ∃lc,mP 80000 a.2.1 m n (i:Int) rk=Option.bind (k8 80000 m lc) (fun v2=>oh v2 m 80000 (0:Int) [])/\∀r:Int,(bn (aD (.int .i32)) lc r).getD 0=pos (a.2.1.map (·.1)) r:=by
  intro n
  induction n with
  |zero=>intro i rk _ h;omega
  |succ n Y=>
   intro i rk lB lC ld
   unfold mP Bl
   by_cases h:i<a.2.1.length
   ·rw[if_pos (by simp only[decide_eq_true_eq];omega),dt h]
    simp only[Option.bind_some]
    rw[bu (by omega)]
    refine Y (i+1) _ (by omega) (by omega) fun r=>?_
    have lf:i<(a.2.1.map (·.1)).length:=by simpa using h
    have o:(a.2.1[i]'h).1∉(a.2.1.map (·.1)).take i:=by
     intro ll
     obtain⟨j,lm,e⟩:=List.getElem_of_mem ll
     have lD:j<i:=by rw[List.length_take]at lm;omega
     rw[List.getElem_take]at e
     have ln:(a.2.1.map (·.1))[j]'(by omega)=(a.2.1.map (·.1))[i]'lf:=by rw[e];simp
     exact absurd ((List.getElem_inj lh).1 ln) (by omega)
    have lo:(a.2.1.map (·.1)).take (i+1)=(a.2.1.map (·.1)).take i++[(a.2.1[i]'h).1]:=by
     rw[List.take_succ_eq_append_getElem lf]
     simp
    rw[lo,TG o,List.length_take,Nat.min_eq_left (by omega)]
    have g:=oZ (α:=Int) (β:=Int) xe (a.2.1[i]'h).1 r ((i+1:Nat):Int) rk
    by_cases e:r=(a.2.1[i]'h).1
    ·rw[if_pos e]
     refine(congrArg (fun aa=>Option.getD aa 0) (g.1 e)).trans ?_
     simp
    ·rw[if_neg e]
     exact(congrArg (fun aa=>Option.getD aa 0) (g.2 e)).trans (ld r)
   ·rw[if_neg (by simp only[decide_eq_true_eq];omega)]
    refine⟨rk,rfl,fun r=>?_⟩
    rw[ld r,List.take_of_length_le (by simp;omega)]
 obtain⟨rk,lp,lq⟩:=lk 80000 0 [] (Nat.zero_le _) (by omega) (fun r=>by simp[bn,pos])
 rw[show mP 80000 a.2.1 m 80000 (0:Int) []=_ from lp]
 have lr:∀p∈m.map (·.1),IV a p:=fun p Z=>by
  obtain⟨x,o,lt⟩:=List.mem_flatten.1 ((C.keys p).1 Z)
  exact(la x o).2 p lt
 have lE:m.length<=al.flatten.length:=by
  have:eJ (m.map (·.2))=al.flatten.length:=C.sum
  have lu:∀(l:List Int),(∀x∈l,1<=x)->(l.length:Int)<=eJ l:=by
   intro l
   induction l with
   |nil=>intro _;simp[eJ]
   |cons x l Y=>
    intro h
    have i1:=Y fun y lv=>h y (List.mem_cons_of_mem _ lv)
    have i2:=h x List.mem_cons_self
    simp only[List.length_cons,eJ]
    omega
  have h1:=lu (m.map (·.2)) fun x o=>by
   rw[<-Lj m C.jy]at o
   obtain⟨p,Z,rfl⟩:=List.mem_map.1 o
   exact C.pos p ((C.keys p).1 Z)
  rw[List.length_map]at h1
  omega
 obtain⟨v,lw,U,lx,ly⟩:=Tz (m:=m) (rk:=rk) (ls:=a.2.1.map (fun l:Int×Int×Int×Unit=>l.1)) (fun p=>by have:=C.rT p;omega) (by simp;omega) li lq (by omega) lr
 rw[lw]
 simp only[Option.bind_some]
 have lF:v.length=m.length:=by rw[U.length_eq,List.length_map]
 rw[show(0:Int)=((0:Nat):Int)from rfl,ND (by omega) m 80000 0 [] (Nat.zero_le _) (by omega) (by simp),List.drop_zero,List.nil_append]
 refine⟨v,rfl,U.nodup_iff.2 C.jy,fun p=>?_,by rw[W];exact lx,?_,by omega,by rw[W];exact U,by rw[W];exact ly⟩
 ·rw[U.mem_iff,C.keys]
 ·rw[W,P3 (U.map _),Lj m C.jy]
  exact C.sum
end Go.Ev
namespace Go.Ev
open Go
set_option linter.unusedVariables false
def Func(ps:List bS):Prop:=∀p∈ps,∀q∈ps,p.1≠0->p.1=q.1->p.2.1=q.2.1
structure G4(m:List (Int×Int))(seen:List bS):Prop where
 has:∀p∈seen,p.1≠0->bn (aD (.int .i32)) m p.1=some p.2.1
 from_:∀(r v:Int),bn (aD (.int .i32)) m r=some v->∃p∈seen,p.1=r/\p.2.1=v/\r≠0
theorem G4.func{m:List (Int×Int)}{ps:List bS}(h:G4 m ps):Func ps:=fun p O q az o e=>by
 have h1:=h.has p O o
 have U:=h.has q az (e▸o)
 rw[e]at h1
 exact Option.some.inj (h1.symm.trans U)
def DY(ps:List bS):Prop:=∃p∈ps,∃q∈ps,p.1≠0/\p.1=q.1/\p.2.1≠q.2.1
theorem DY.mono{ps o:List bS}(h:DY ps)(O:∀p∈ps,p∈o):DY o:=by
 obtain⟨p,U,q,az,r⟩:=h
 exact⟨p,O p U,q,O q az,r⟩
/-! The odd ones. -/
structure Xr(m:List (Int×Int))(seen:List bS):Prop where
 has:∀p∈seen,(bn (aD (.int .i32)) m p.1).isSome=true
 from_:∀(r v:Int),bn (aD (.int .i32)) m r=some v->∃p∈seen,p.1=r/\p.2.1=v
end Go.Ev
namespace Go.Ev
open Go
set_option linter.unusedVariables false
theorem Vn{l:List aS}(O:∀g∈l,g.length=2)(Z:l.length<=5000):∀n i,i<=l.length->l.length-i<n->
  ∃b,uk l n (i:Int)=some b/\(b=false->∀g∈l.drop i,∀w∈g,w.length<=1000):=by
 intro n
 induction n with
 |zero=>intro i _ h;omega
 |succ n U=>
  intro i la lc
  unfold uk FM
  by_cases h:i<l.length
  ·rw[if_pos (by simp only[decide_eq_true_eq];omega),dt h]
   simp only[Option.bind_some]
   have g2:=O _ (List.getElem_mem h)
   rw[iv h]
   generalize o:l[i]'h=g at g2
   match g,g2 with
   |[x,y],_=>
    rw[show ao [x,y] (0:Int)=some x from rfl]
    simp only[Option.bind_some]
    by_cases ld:1000<x.length
    ·rw[if_pos (by simp only[decide_eq_true_eq];omega)]
     exact⟨true,rfl,fun h=>by cases h⟩
    ·rw[if_neg (by simp only[decide_eq_true_eq];omega),show ao [x,y] (1:Int)=some y from rfl]
     simp only[Option.bind_some]
     unfold wb
     by_cases lf:1000<y.length
     ·rw[if_pos (by simp only[decide_eq_true_eq];omega)]
      exact⟨true,rfl,fun h=>by cases h⟩
     ·rw[if_neg (by simp only[decide_eq_true_eq];omega),bu (by omega)]
      obtain⟨b,e,W⟩:=U (i+1) (by omega) (by omega)
      refine⟨b,e,fun Y g o w hw=>?_⟩
      rcases List.mem_cons.1 o with rfl|o
      ·rcases List.mem_cons.1 hw with rfl|hw
       ·omega
       ·have:w=y:=by simpa using hw
        subst this
        omega
      ·exact W Y g o w hw
   |[],g2=>cases g2
   |[_],g2=>cases g2
   |_::_::_::_,g2=>simp at g2
  ·rw[if_neg (by simp only[decide_eq_true_eq];omega),List.drop_eq_nil_of_le (by omega)]
   exact⟨false,rfl,fun _ g o=>by cases o⟩
theorem Qc(a:aU){l:List aS}(O:∀g∈l,g.length=2):∃b,uJ 80000 a l=some b/\(b=false->(l.length<=40\/4096<l.length)/\l.length<=5000/\∀g∈l,∀w∈g,w.length<=1000):=by
 unfold uJ LR LZ xG Gr
 by_cases h1:(decide ((300:Int)<(a.2.1.length:Int))||decide ((60:Int)<(a.1.length:Int)))=true
 ·rw[if_pos h1,if_pos (by rfl)]
  exact⟨true,rfl,fun h=>by cases h⟩
 ·rw[if_neg h1]
  by_cases o:(decide ((40:Int)<(l.length:Int))&&decide ((l.length:Int)<=(4096:Int))||decide ((5000:Int)<(l.length:Int)))=true
  ·rw[if_pos o]
   exact⟨true,rfl,fun h=>by cases h⟩
  ·rw[if_neg o]
   simp only[Bool.or_eq_true,Bool.and_eq_true,decide_eq_true_eq]at o
   obtain⟨b,e,U⟩:=Vn O (by omega) 80000 0 (Nat.zero_le _) (by omega)
   exact⟨b,e,fun W=>⟨by omega,by omega,fun g Y=>U W g (by rw[List.drop_zero];exact Y)⟩⟩
set_option maxRecDepth 100000 in
theorem Uy:Dz 80000=some true:=by decide+kernel
theorem Jw:∀{l:List Int},(∀x∈l,0<=x)->0<=eJ l
 |[],_=>by simp[eJ]
 |x::l,h=>by
  have:=Jw (l:=l) fun y o=>h y (List.mem_cons_of_mem _ o)
  have:=h x List.mem_cons_self
  simp only[eJ]
  omega
end Go.Ev
namespace Go.Ev
open Go
set_option linter.unusedVariables false
theorem Wt(s:List UInt8)(p i:Nat):eF (s.drop p) i=eF s (p+i):=by
 unfold eF
 simp[List.getD_eq_getElem?_getD]
theorem QB(s:List UInt8)(p i:Nat):g (s.drop p) i=g s (p+i):=by
 unfold g
 simp only[Wt,List.length_drop,<-Nat.add_assoc,Nat.sub_sub]
theorem Tm{s:List UInt8}{p:Nat}(h:p<s.length):Lib.decodeGo ⟨(s.drop p).toArray⟩=g s p:=by
 unfold Lib.decodeGo
 rw[if_neg (by simp[ByteArray.size];omega),uw,QB]
 rfl
theorem Bz{s:List UInt8}{p:Nat}:bad s p=true↔(g s p).1=65533/\(g s p).2=1:=by
 unfold bad
 simp
def qD(s:List UInt8)(n p:Nat)(v:List kS):Prop:=
 match n,v with
 |_,[]=>s.length<=p
 |0,_::_=>False
 |n+1,x::v=>p<s.length/\x.1=((g s p).1:Int)/\x.2.2.2.1=bad s p/\qD s n (p+(g s p).2) v
theorem NI{s:List UInt8}(ld:s.length<=65536):∀n p (t:List kS),p<=s.length->s.length-p<n->t.length+(s.length-p)<=200000->∃v,nj 80000 s n p t=some (t++v)/\qD s n p v/\v.length<=s.length-p:=by
 intro n
 induction n with
 |zero=>intro p t _ h;omega
 |succ n la=>
  intro p t lf lg lh
  have li:=uQ
  unfold nj Fq
  by_cases h:p<s.length
  ·rw[if_pos (by simpa using h)]
   have o:∀a b,b=bad s p->∃v,nT 80000 s p t (nj 80000 s n) a b=some (t++v)/\qD s (n+1) p v/\v.length<=s.length-p:=by
    intro a b lc
    unfold nT qu
    rw[cO (by simp only[List.length_cons,List.length_nil];omega)];simp only[Option.bind_some]
    rw[if_neg (by simp)]
    have lj:=oa s p h
    obtain⟨v,e,Z,O⟩:=la (p+kH s p) (t++[(im s p,(p:Int),a,b,())]) (by rw[mg];omega) (by rw[mg];omega) (by rw[mg];simp only[List.length_append,List.length_cons,List.length_nil];omega)
    refine⟨(im s p,(p:Int),a,b,())::v,?_,⟨h,zW s p,lc,?_⟩,?_⟩
    ·rw[e,List.append_assoc];rfl
    ·rw[mg]at Z;exact Z
    ·rw[mg]at O
     simp only[List.length_cons]
     omega
   obtain⟨l,O⟩:=FK 80000 (im s p)
   rw[O];simp only[Option.bind_some]
   rw[zW]
   by_cases U:(g s p).1=65533
   ·rw[if_pos (by rw[U];rfl),na (by omega)];simp only[Option.bind_some]
    unfold utf8_DecodeRuneInString
    simp only[Option.bind_some]
    rw[Tm h]
    by_cases W:(g s p).2=1
    ·rw[if_pos (by rw[W];rfl)]
     exact o _ _ (Bz.2 ⟨U,W⟩).symm
    ·rw[if_neg (by simp only[beq_iff_eq];omega)]
     refine o _ _ (Eq.symm ?_)
     rw[<-Bool.not_eq_true,Bz]
     exact fun Y=>W Y.2
   ·rw[if_neg (by simp only[beq_iff_eq];omega)]
    refine o _ _ (Eq.symm ?_)
    rw[<-Bool.not_eq_true,Bz]
    exact fun Y=>U Y.1
  ·rw[if_neg (by simpa using h)]
   exact⟨[],by simp,(by show s.length<=p;omega),by simp⟩
def jZ(M:Int->Bool)(s:List UInt8):Nat->Nat->List Int->List Int×Int
 |0,_,o=>(o,0)
 |n+1,p,o=>
  if p<s.length then
   if bad s p then([],6)else if !M ((g s p).1:Int)then([],5)else if(o.length:Int)==(64:Int)then([],4)
   else jZ M s n (p+(g s p).2) (o++[((g s p).1:Int)])
  else(o,0)
theorem Sz{V:List kS}(m:Option gq)(M:Int->Bool)(W:∀r:Int,(bn (aD (.int .i32)) (m.getD []) r).isSome=M r)(s:List UInt8)(lf:V.length<=65536):
  ∀n i p q (o:List Int),i<=V.length->V.length-i<n->s.length-p<q->o.length<=64->p<=s.length->qD s q p (V.drop i)->nN (V,0) m n (i:Int) o=some (jZ M s q p o):=by
 intro n
 induction n with
 |zero=>intro i p q o _ h;omega
 |succ n Y=>
  intro i p q o lg lh az li lj O
  have lk:=uQ
  obtain⟨q,rfl⟩:∃Z,q=Z+1:=⟨q-1,by omega⟩
  unfold nN Ab jZ
  by_cases h:i<V.length
  ·rw[iv h]at O
   obtain⟨h1,la,lc,ld⟩:=O
   rw[if_pos (by simp only[decide_eq_true_eq];omega),if_pos h1,dt h]
   simp only[Option.bind_some]
   rw[lc,la,W]
   cases ll:bad s p with
   |true=>rfl
   |false=>
    simp only[Bool.false_eq_true,if_false]
    cases lm:M ((g s p).1:Int)with
    |false=>rfl
    |true=>
     simp only[Bool.not_true,Bool.false_eq_true,if_false]
     by_cases U:o.length=64
     ·rw[if_pos (by rw[U];rfl),if_pos (by rw[U];rfl)]
     ·rw[if_neg (by simp only[beq_iff_eq];omega),if_neg (by simp only[beq_iff_eq];omega)]
      rw[cO (by simp only[List.length_cons,List.length_nil];omega)]
      simp only[Option.bind_some]
      have ln:=oa s p h1
      rw[bu (by omega)]
      exact Y (i+1) _ q _ (by omega) (by omega) (by omega) (by simp only[List.length_append,List.length_cons,List.length_nil];omega) (by omega) ld
  ·rw[List.drop_eq_nil_of_le (by omega)]at O
   have lo:s.length<=p:=O
   rw[if_neg (by simp only[decide_eq_true_eq];omega),if_neg (by omega)]
abbrev r4(a:aU):List Int:=a.2.1.map fun l:Int×Int×Int×Unit=>l.1
def vm(a:aU)(r:Int):Bool:=decide (r∈r4 a)
theorem Q9(a:aU)(h:a.2.1.length<=128):∀n i (m:List (Int×Int)),i<=a.2.1.length->a.2.1.length-i<n->(∀r:Int,(bn (aD (.int .i32)) m r).isSome=decide (r∈(r4 a).take i))->
  ∃aA,nZ a n (i:Int) m=some (some aA,0)/\∀r:Int,(bn (aD (.int .i32)) aA r).isSome=vm a r:=by
 intro n
 induction n with
 |zero=>intro i m _ h;omega
 |succ n O=>
  intro i m Y Z o
  unfold nZ Ad
  by_cases h:i<a.2.1.length
  ·rw[if_pos (by simp only[decide_eq_true_eq];omega),dt h];simp only[Option.bind_some]
   rw[bu (by omega)]
   refine O (i+1) _ (by omega) (by omega) fun r=>?_
   have U:(r4 a).take (i+1)=(r4 a).take i++[(a.2.1[i]'h).1]:=by
    rw[List.take_succ_eq_append_getElem (by simpa using h)]
    simp
   have:=oZ (α:=Int) (β:=Int) xe (a.2.1[i]'h).1 r (i:Int) m
   rw[U]
   by_cases e:r=(a.2.1[i]'h).1
   ·refine(congrArg Option.isSome (this.1 e)).trans ?_
    rw[decide_eq_true (by rw[e];simp)]
    rfl
   ·refine(congrArg Option.isSome (this.2 e)).trans ((o r).trans ?_)
    rw[Bool.eq_iff_iff]
    simp only[decide_eq_true_eq,List.mem_append,List.mem_singleton]
    exact⟨.inl,fun W=>W.resolve_right e⟩
  ·rw[if_neg (by simp only[decide_eq_true_eq];omega)]
   refine⟨m,rfl,fun r=>?_⟩
   rw[o r,List.take_of_length_le (by simp;omega)]
   rfl
def wl(a:aU)(w:List UInt8):List Int×Int:=if cL a then jZ (vm a) w 65537 0 []else([],7)
theorem rG(a:aU){w:List UInt8}(O:w.length<=65536):gS 80000 a w=some (wl a w):=by
 unfold gS xC wl
 rw[show fL 80000 ((a.1,a.2.1,()):aU)=some (if cL a then 0 else 7)from r6 a]
 simp only[Option.bind_some]
 cases U:cL a with
 |false=>rfl
 |true=>
  have W:=sv U
  rw[if_neg (by simp),if_pos rfl]
  obtain⟨m,Y,Z⟩:=Q9 (a.1,a.2.1,()) W.2.2 80000 0 [] (Nat.zero_le _) (by show a.2.1.length-0<80000;omega) (fun r=>by simp[bn])
  rw[show nZ (a.1,a.2.1,()) 80000 (0:Int) []=some (some m,0)from Y]
  simp only[Option.bind_some]
  rw[if_neg (by simp)]
  unfold sZ
  rw[if_neg (by simp only[decide_eq_true_eq];omega)]
  unfold qW sL yt
  rw[if_neg (by simp only[decide_eq_true_eq];omega)]
  simp only[Option.bind_some]
  rw[if_neg (by simp)]
  unfold rW
  obtain⟨v,e,la,li⟩:=NI O 80000 0 [] (Nat.zero_le _) (by omega) (by simp;omega)
  rw[e,List.nil_append]
  simp only[Option.bind_some]
  rw[if_neg (by simp)]
  have lc:∀q n p (v:List kS),qD w n p v->w.length-p<q->qD w q p v:=by
   intro q
   induction q with
   |zero=>intro n p v _ h;omega
   |succ q ld=>
    intro n p v o az
    match n,v,o with
    |0,[],o=>exact o
    |n+1,[],o=>exact o
    |0,_::_,o=>exact o.elim
    |n+1,x::v,⟨h1,lf,lg,lh⟩=>
     have:=oa w p h1
     exact⟨h1,lf,lg,ld n _ v lh (by omega)⟩
  have:=Sz (V:=v) (some m) (vm a) Z w (by omega) 80000 0 0 65537 [] (Nat.zero_le _) (by omega) (by omega) (by simp) (Nat.zero_le _) (lc 65537 80000 0 v la (by omega))
  rw[show nN (v,0) (some m) 80000 (0:Int) []=_ from this]
  rfl
theorem OQ(M:Int->Bool)(s:List UInt8):∀n p O,O.length<=64->(∀r∈O,M r=true)->(jZ M s n p O).2=0->(jZ M s n p O).1.length<=64/\∀r∈(jZ M s n p O).1,M r=true:=by
 intro n
 induction n with
 |zero=>intro p O h1 W _;exact⟨h1,W⟩
 |succ n lc=>
  intro p O h1 W o
  unfold jZ at o⊢
  split at o
  ·rename_i Y
   rw[if_pos Y]
   split at o
   ·cases o
   rename_i ld
   rw[if_neg ld]
   split at o
   ·cases o
   rename_i Z
   rw[if_neg Z]
   split at o
   ·cases o
   rename_i la
   rw[if_neg la]
   have lf:O.length≠64:=fun e=>la (by rw[e];rfl)
   refine lc _ _ (by simp only[List.length_append,List.length_cons,List.length_nil];omega) (fun r U=>?_) o
   rcases List.mem_append.1 U with U|U
   ·exact W r U
   ·have:r=((g s p).1:Int):=by simpa using U
    rw[this]
    simpa using Z
  ·rename_i Y
   rw[if_neg Y]
   exact⟨h1,W⟩
theorem jh(a:aU)(w:List UInt8)(h:(wl a w).2=0):cL a=true/\(wl a w).1.length<=64/\∀r∈(wl a w).1,r∈r4 a:=by
 unfold wl at h⊢
 cases o:cL a with
 |false=>rw[o]at h;cases h
 |true=>
  rw[o,if_pos rfl]at h
  rw[if_pos rfl]
  have:=OQ (vm a) w 65537 0 [] (by simp) (by simp) h
  exact⟨rfl,this.1,fun r O=>of_decide_eq_true (this.2 r O)⟩
def ww(a:aU)(x y:List UInt8):Int×List bS×Int:=
 if(wl a x).2≠0 then(0,[],(wl a x).2)else if(wl a y).2≠0 then(0,[],(wl a y).2)else(bI a (wl a x).1 (wl a y).1,di a (wl a x).1 (wl a y).1,0)
theorem L5(a:aU){x y:List UInt8}(Z:x.length<=65536)(la:y.length<=65536):mc 80000 a x y=some (ww a x y):=by
 unfold mc r5 ww
 rw[show gS 80000 ((a.1,a.2.1,()):aU) x=some (wl a x)from rG a Z]
 simp only[Option.bind_some]
 by_cases o:(wl a x).2=0
 ·rw[if_neg (by simpa using o),if_neg (by simpa using o)]
  rw[show gS 80000 ((a.1,a.2.1,()):aU) y=some (wl a y)from rG a la]
  simp only[Option.bind_some]
  by_cases O:(wl a y).2=0
  ·rw[if_neg (by simpa using O),if_neg (by simpa using O)]
   obtain⟨lg,W,lh⟩:=jh a x o
   obtain⟨_,cY,fh⟩:=jh a y O
   obtain⟨b,lc,U,Y,ld⟩:=Nx (x:=(wl a x).1) (y:=(wl a y).1) a W cY
   rw[show qc 80000 ((a.1,a.2.1,()):aU) (wl a x).1 (wl a y).1=some b from lc]
   simp only[Option.bind_some,qq]
   rw[if_neg (by simp),cO (by omega)];simp only[Option.bind_some]
   rw[show(0:Int)=((0:Nat):Int)from rfl,(U.row (p:=0) (by omega)).2];simp only[Option.bind_some]
   rw[U.dS (p:=0) (q:=0) (by omega) (by omega)];simp only[Option.bind_some]
   have lf:=Qm a W cY U Y ld
   rw[show pA 80000 ((a.1,a.2.1,()):aU) b=some (di a (wl a x).1 (wl a y).1)from lf,Y 0 0 (Nat.zero_le _) (Nat.zero_le _)]
   rfl
  ·rw[if_pos (by simpa using O),if_pos O]
   simp only[Option.bind_some,qq]
   rw[if_pos (by simpa using O)]
 ·rw[if_pos (by simpa using o),if_pos o]
  simp only[Option.bind_some,qq]
  rw[if_pos (by simpa using o)]
theorem y9(a:aU)(x y:List UInt8)(h:(ww a x y).2.2=0):(wl a x).2=0/\(wl a y).2=0:=by
 unfold ww at h
 split at h
 ·rename_i o;exact absurd h o
 ·rename_i h1
  split at h
  ·rename_i o;exact absurd h o
  ·rename_i O
   exact⟨by simpa using h1,by simpa using O⟩
theorem TK{a:aU}(o:cL a=true):(0:Int)∉r4 a:=by
 intro h
 obtain⟨x,O,U⟩:=List.mem_map.1 h
 unfold cL at o
 simp only[Bool.and_eq_true,List.all_eq_true]at o
 have:=(o.2.1 x O).1
 rw[U]at this
 exact absurd this (by decide)
end Go.Ev
namespace Go.Ev
open Go
set_option linter.unusedVariables false
abbrev Node:Type:=Int×Int×Int×Int×List Int×Unit
abbrev jB:Type:=List Node×Unit
theorem IW(l:List Bool)(O:l.length<=1000)(v:Bool):bY (pE 80000 l v):=by
 unfold pE wg
 refine cS (nJ (L:=p9 l v) (len:=l.length) (by omega) ?_ 80000 0 (Nat.zero_le _) (by omega)) fun _ _=>bR _
 intro n i U o
 unfold p9 D5
 exact fO (fun h=>cS (jx (by omega)) fun _ _=>cu (fun _=>bR _) fun _=>o (by omega)) fun _=>bR _
theorem xj{l:List Bool}{i:Nat}(h:i<l.length)(o:l[i]=false):(l.set i true).count false+1=l.count false:=by
 rw[List.count_set h,o]
 have:0<l.count false:=List.count_pos_iff.2 (o▸List.getElem_mem h)
 simp
 omega
theorem UR(x:Node)(i:Nat)(p:jB)(O:Int->List Bool->Option Bool)(lc:p.1.length<=256)(Y:∀t,t.length=p.1.length->bY (O (ai ((i:Int)+1)) t)):
  ∀n j (t:List Bool),t.length=p.1.length->t.count false<n->j+t.count false<=1000->bY (po x (i:Int) p O n (j:Int) t):=by
 intro n
 induction n with
 |zero=>intro j t _ h;omega
 |succ n Z=>
  intro j t U ld lf
  unfold po FH
  refine fO (fun lg=>?_) fun _=>Y t U
  refine cS (jx (by omega)) fun y _=>?_
  unfold Ef
  refine cu (fun _=>⟨false,rfl⟩) fun W=>?_
  have lh:(i:Int)<y/\y<(p.1.length:Int):=by
   simp only[Bool.or_eq_false_iff,decide_eq_false_iff_not]at W
   omega
  obtain⟨m,rfl⟩:∃m:Nat,y=(m:Int):=⟨y.toNat,by omega⟩
  have o:m<t.length:=by omega
  rw[dt o]
  simp only[Option.bind_some]
  unfold uK
  refine cu (fun _=>bR _) fun la=>?_
  have W:=xj o la
  rw[bu (by omega),Int.toNat_natCast,dt o]
  simp only[Option.bind_some]
  exact Z (j+1) (t.set m true) (by rw[List.length_set];exact U) (by omega) (by omega)
theorem NE(p:jB):∃b,kr 80000 p=some b/\(b=true->p.1.length<=256):=by
 unfold kr
 by_cases O:(decide ((p.1.length:Int)<1)||decide ((256:Int)<(p.1.length:Int)))=true
 ·rw[O]
  exact⟨false,rfl,fun q=>by cases q⟩
 ·rw[Bool.eq_false_iff.2 O]
  simp only[Bool.or_eq_true,decide_eq_true_eq]at O
  have h1:1<=p.1.length:=by omega
  have W:p.1.length<=256:=by omega
  have key:bY (wB 80000 p false):=by
   unfold wB
   rw[if_neg (by simp)]
   refine cS (sx (by unfold lim;omega)) fun _ _=>?_
   rw[Int.toNat_natCast]
   refine MG (L:=gN 80000 p) (len:=p.1.length) (by omega) (fun _ t=>t.length=p.1.length) ?_ 80000 0 _ (Nat.zero_le _) (by omega) (by simp)
   intro n i t lc li ld
   unfold gN Dp
   refine fO (fun lj=>?_) fun _=>?_
   ·refine cS (jx (by omega)) fun x _=>?_
    have Y:∀b,bY (pR 80000 x (i:Int) p (gN 80000 p n) t b):=fun b=>by
     unfold pR
     refine cu (fun _=>bR _) fun _=>?_
     have lk:t.count false<=t.length:=List.count_le_length
     exact UR x i p _ W (fun lf lg=>ld lf (by omega) lg) 80000 0 t lc (by omega) (by omega)
    have U:bY (nk 80000 x (i:Int) p (gN 80000 p n) t):=by
     unfold nk EM
     exact cu (fun _=>Y _) fun _=>Y _
    have o:∀b,bY (kW 80000 x (i:Int) p (gN 80000 p n) t b):=fun b=>by
     unfold kW
     exact cu (fun _=>cu (fun _=>bR _) fun _=>U) fun _=>bR _
    have Z:∀b,bY (o8 80000 x (i:Int) p (gN 80000 p n) t b):=fun b=>by
     unfold o8
     exact cu (fun _=>cu (fun _=>bR _) fun _=>U) fun _=>cu (fun _=>o _) fun _=>cu (fun _=>o _) fun _=>cu (fun _=>o _) fun _=>cu (fun _=>o _) fun _=>o _
    have la:∀b,bY (pq 80000 x (i:Int) p (gN 80000 p n) t b):=fun b=>by
     unfold pq
     exact cu (fun _=>U) fun _=>cu (fun _=>Z _) fun _=>Z _
    exact cu (fun _=>la _) fun _=>la _
   ·rw[show(1:Int)=((1:Nat):Int)from rfl,na (by omega)]
    simp only[Option.bind_some]
    exact cS (IW _ (by rw[List.length_drop];omega) _) fun _ _=>bR _
  obtain⟨b,lh⟩:=key
  exact⟨b,lh,fun _=>W⟩
theorem Kv(a:aU)(p:jB):bY (pg 80000 a p):=by
 unfold pg
 obtain⟨e,O,_⟩:=mM (a.1,a.2.1,())
 rw[O]
 simp only[Option.bind_some]
 refine cu (fun _=>bR _) fun _=>?_
 obtain⟨b,U,W⟩:=NE (p.1,())
 rw[U]
 simp only[Option.bind_some]
 refine cu (fun _=>bR _) fun h=>?_
 have Y:p.1.length<=256:=W (by simpa using h)
 refine nJ (L:=ov 80000 p a) (len:=p.1.length) (by omega) ?_ 80000 0 (Nat.zero_le _) (by omega)
 intro n i Z o
 unfold ov Ae rF
 exact fO (fun la=>cS (jx (by omega)) fun x _=>cu (fun _=>cS (rN _ _) fun _ _=>cu (fun _=>bR _) fun _=>o (by omega))
  fun _=>cu (fun _=>cS (AF _ _ _) fun _ _=>cu (fun _=>bR _) fun _=>o (by omega)) fun _=>o (by omega)) fun _=>bR _
abbrev fA:Type:=List UInt8×List ee×List nF×jB×jB×Int×Bool×Unit
theorem MI(a:aU)(r:fA):bY (oe 80000 a r):=by
 unfold oe
 obtain⟨e,U,_⟩:=mM (a.1,a.2.1,())
 rw[U]
 simp only[Option.bind_some]
 refine cu (fun _=>bR _) fun _=>cS (HW _) fun v _=>?_
 unfold E1 Ac Ci B7 EV
 refine cu (fun _=>bR _) fun W=>?_
 simp only[Bool.or_eq_false_iff,decide_eq_false_iff_not]at W
 have h1:r.2.1.length<=8:=by omega
 have la:r.2.2.1.length<=8:=by omega
 have O:∀t,bY (rl t):=fun t=>by
  unfold rl
  exact cu (fun _=>bR _) fun _=>bR _
 have l2:bY (ny 80000 r a 80000 0):=by
  refine nJ (L:=ny 80000 r a) (len:=r.2.2.1.length) (by omega) ?_ 80000 0 (Nat.zero_le _) (by omega)
  intro n i Y o
  unfold ny Dk
  exact fO (fun Z=>cS (jx (by omega)) fun x _=>cS (RA _ _ _) fun _ _=>cu (fun _=>bR _) fun _=>o (by omega))
   fun _=>cS (Kv _ _) fun _ _=>cu (fun _=>O _) fun _=>cS (Kv _ _) fun _ _=>O _
 refine nJ (L:=pt 80000 r a) (len:=r.2.1.length) (by omega) ?_ 80000 0 (Nat.zero_le _) (by omega)
 intro n i Y o
 unfold pt BE
 exact fO (fun Z=>cS (jx (by omega)) fun x _=>cS (u9 _ _ _ _) fun _ _=>cu (fun _=>bR _) fun _=>o (by omega)) fun _=>l2
theorem TI(a:aU)(l:List fA):bY (oD 80000 a l):=by
 unfold oD
 obtain⟨e,o,_⟩:=mM (a.1,a.2.1,())
 rw[o]
 simp only[Option.bind_some]
 refine cu (fun _=>bR _) fun _=>fO (fun _=>bR _) fun U=>?_
 refine nJ (L:=p7 80000 l a) (len:=l.length) (by omega) ?_ 80000 0 (Nat.zero_le _) (by omega)
 intro n i W O
 unfold p7 BJ
 exact fO (fun Y=>cS (jx (by omega)) fun x _=>cS (MI _ _) fun _ _=>cu (fun _=>bR _) fun _=>O (by omega)) fun _=>bR _
theorem U6{s:List UInt8}{p:Nat}(h:p<s.length)(o:(g s p).1<128):(g s p).2=1/\eF s p=(g s p).1:=by
 have O:=xQ s p;have h1:=xQ s (p+1);have U:=xQ s (p+2);have W:=xQ s (p+3)
 revert o
 unfold g Lib.decodeN
 repeat' split
 all_goals (dsimp only;intro o;omega)
theorem RF(r:Int):xr 80000 r=some (!((decide (97<=r)&&decide (r<=122))||((decide (48<=r)&&decide (r<=57))||decide (r=45)))):=by
 unfold xr Lv vS Jz Gy
 have key:∀x y:Bool,x=y->(some x:Option Bool)=some y:=fun x y h=>by rw[h]
 by_cases h1:(decide (r<97)||decide ((122:Int)<r))=true
 ·rw[if_pos h1]
  refine key _ _ ?_
  rw[Bool.eq_iff_iff]
  simp only[Bool.or_eq_true,decide_eq_true_eq]at h1
  simp
  omega
 ·rw[if_neg h1]
  refine key _ _ ?_
  simp only[Bool.or_eq_true,decide_eq_true_eq]at h1
  rw[Bool.eq_iff_iff]
  simp
  omega
theorem Qe{s:List UInt8}(lf:s.length<=32):∀n p,p<=s.length->s.length-p<n->∃v,sj 80000 s true n p=some v/\(v<0->∀j,p<=j->j<s.length->eF s j≠10):=by
 intro n
 induction n with
 |zero=>intro p _ h;omega
 |succ n U=>
  intro p h1 lg
  unfold sj Ic
  by_cases o:p<s.length
  ·have W:=oa s p o
   rw[if_pos (decide_eq_true o),RF,zW,mg]
   simp only[Option.bind_some]
   split
   ·exact⟨(p:Int),rfl,fun q=>by omega⟩
   ·rename_i Y
    obtain⟨v,Z,la⟩:=U (p+(g s p).2) W.2.1 (by omega)
    refine⟨v,Z,fun q j lc O=>?_⟩
    have lh:(97<=(g s p).1/\(g s p).1<=122)\/(48<=(g s p).1/\(g s p).1<=57)\/(g s p).1=45:=by
     simp at Y
     omega
    obtain⟨li,lj⟩:=U6 o (by omega)
    by_cases ld:j=p
    ·subst ld
     omega
    ·exact la q j (by omega) O
  ·rw[if_neg (by simpa using o)]
   exact⟨-1,rfl,fun _ j lc O=>by omega⟩
theorem QX(s:List UInt8):∃b,vZ 80000 s=some b/\(b=true->s.length<=32/\∀j,j<s.length->eF s j≠10):=by
 unfold vZ
 by_cases h:((!(s==([]:List UInt8)))&&decide ((s.length:Int)<=32))=true
 ·rw[h]
  have o:s.length<=32:=by
   simp only[Bool.and_eq_true,decide_eq_true_eq]at h
   omega
  unfold GA Dg EQ zY
  rw[if_pos rfl]
  obtain⟨v,O,U⟩:=Qe o 80000 0 (Nat.zero_le _) (by omega)
  rw[O]
  refine⟨_,rfl,fun q=>⟨o,fun j W=>U ?_ j (Nat.zero_le _) W⟩⟩
  simp at q
  omega
 ·rw[Bool.eq_false_iff.2 h]
  exact⟨false,rfl,fun q=>by cases q⟩
end Go.Ev
namespace Go.Ev
open Go
set_option linter.unusedVariables false
def Has{α:Type}(x:Option α)(P:α->Prop):Prop:=∃v,x=some v/\P v
theorem aC{α:Type}{P:α->Prop}{v:α}(h:P v):Has (some v) P:=⟨v,rfl,h⟩
theorem bk{α β:Type}{x:Option α}{f:α->Option β}{Q:α->Prop}{P:β->Prop}(o:Has x Q)(O:∀v,Q v->Has (f v) P):Has (Option.bind x f) P:=by
 obtain⟨v,rfl,U⟩:=o
 exact O v U
theorem aH{α:Type}{P:α->Prop}{c:Bool}{a b:Option α}(h1:c=true->Has a P)(o:c=false->Has b P):Has (if c then a else b) P:=by
 cases c with
 |true=>rw[if_pos rfl];exact h1 rfl
 |false=>rw[if_neg (by simp)];exact o rfl
theorem bU{α:Type}{P:α->Prop}{p:Prop}[Decidable p]{a b:Option α}(h1:p->Has a P)(o:¬p->Has b P):Has (if decide p then a else b) P:=
 aH (fun h=>h1 (of_decide_eq_true h)) (fun h=>o (of_decide_eq_false h))
theorem bT{β:Type}{p:Prop}[Decidable p]{f:Unit->Option β}{P:β->Prop}(h:p)(o:Has (f ()) P):Has (Option.bind (aG p) f) P:=by
 rw[cO h]
 exact o
theorem bH{α β:Type}{l:List α}{i:Nat}{f:α->Option β}{P:β->Prop}(h:i<l.length)(o:∀x,l[i]'h=x->Has (f x) P):Has (Option.bind (ao l (i:Int)) f) P:=by
 rw[dt h]
 exact o _ rfl
theorem V7{α β:Type}{l:List α}{i:Int}{f:α->Option β}{P:β->Prop}(o:0<=i)(h:i<l.length)(O:∀x,x∈l->Has (f x) P):Has (Option.bind (ao l i) f) P:=by
 rw[z8 o h]
 exact O _ (List.getElem_mem _)
theorem sf{α:Type}{x:Option α}{P Q:α->Prop}(h:Has x P)(az:∀v,P v->Q v):Has x Q:=by
 obtain⟨v,e,o⟩:=h
 exact⟨v,e,az v o⟩
theorem gW{α:Type}{x:Option α}(h:bY x):Has x fun _=>True:=by
 obtain⟨v,e⟩:=h
 exact⟨v,e,trivial⟩
abbrev ft:Type:=List (List Int×Option mI)
abbrev ca:Type:=Int×Int×Int×Unit
abbrev fq:Type:=Int×Int×Int×Int×Unit
abbrev pn:Type:=List Node×List Int×List UInt8×List ca×List fq×List Node×List Node×Int×Bool×ft×List (List UInt8)×List ca×List Bool×List Bool
abbrev Ar:Type:=Int->List Node->List Int->List UInt8->List ca->List fq->List Node->List Node->Int->Bool->ft->List (List UInt8)->List ca->List Bool->Option pn
theorem pI:(1000000:Int)<=(lim:Int):=by decide
theorem gh:(1000000:Nat)<=lim:=by decide
def dT(o:List Node):Prop:=1<=o.length/\o.length<=1000/\∀i (h:i<o.length),(∀k∈(o[i]'h).2.2.2.2.1,(i:Int)<k/\k<(o.length:Int))/\((o[i]'h).1=8\/(o[i]'h).1=9->(o[i]'h).2.2.2.2.1≠[])/\(o[i]'h).2.2.2.2.1.length<=1000
section ends
variable {c1:List Node} {c2:List Int} {c3:List UInt8} {c4:List ca} {c5:List fq} {c6 c7:List Node} {c8:Int} {c9:Bool} {m1:ft} {c10:List (List UInt8)} {c11:List ca}
variable {L:Nat}
theorem Jm(k:Nat)(x r p m:Int)(a:List UInt8)(b:List ca)(c:List fq)(d e:List Node)(f:Int)(g:Bool)(m1:ft)(h:List (List UInt8))(i:List ca):Has (o4 k x r p m a b c d e f g m1 h i) fun _=>True:=by
 unfold o4
 exact aH (fun _=>aC trivial) fun _=>aC trivial
theorem UI(k:Nat)(O:Node){l1:List Bool}(Y:L<=40000)(Z:c2.length+1=L)(la:l1.length=L):∀n (i:Nat) (t:List Bool),i+1<=L->L-i<n->t.length=L->
  Has (ry k c2 l1 O c3 c4 c5 c6 c7 c8 c9 m1 c10 c11 c1 n (i:Int) t) fun v=>∃aa,v=(c1,c2,c3,c4,c5,c6,c7,c8,c9,m1,c10,c11,aa,l1)/\aa.length=L:=by
 intro n
 induction n with
 |zero=>intro i t _ h;omega
 |succ n W=>
  intro i t h1 lc U
  unfold ry L7
  refine bU (fun ld=>?_) fun _=>?_
  ·refine bH (by omega) fun lf _=>?_
   refine bH (by omega) fun lg _=>?_
   have o:∀b,Has (tr t (i:Int) (ry k c2 l1 O c3 c4 c5 c6 c7 c8 c9 m1 c10 c11 c1 n) b) fun v=>∃aa,v=(c1,c2,c3,c4,c5,c6,c7,c8,c9,m1,c10,c11,aa,l1)/\aa.length=L:=by
    intro b
    unfold tr
    rw[bu (by omega)]
    refine bH (by omega) fun _ _=>?_
    exact W (i+1) _ (by omega) (by omega) (by rw[List.length_set];exact U)
   refine aH (fun _=>?_) fun _=>o _
   refine aH (fun _=>o _) fun _=>?_
   exact bk (Jm ..) fun _ _=>o _
  ·unfold gE
   exact aC ⟨t,rfl,U⟩
theorem VF{o:Node}{O:Ar}{l1:List Bool}(ld:l1.length=L)(hk:o.2.2.2.2.1.length<=1000)
  (W:∀x∈o.2.2.2.2.1,∀l:List Bool,l.length=L->Has (O x c1 c2 c3 c4 c5 c6 c7 c8 c9 m1 c10 c11 l) fun v=>∃aa,v=(c1,c2,c3,c4,c5,c6,c7,c8,c9,m1,c10,c11,aa,l)/\aa.length=L):
  ∀n (i:Nat) (t:List Bool),i<=o.2.2.2.2.1.length->o.2.2.2.2.1.length-i<n->t.length=L->
  Has (uP o O l1 n (i:Int) c1 c2 c3 c4 c5 c6 c7 c8 c9 m1 c10 c11 t) fun v=>∃aa,v=(c1,c2,c3,c4,c5,c6,c7,c8,c9,m1,c10,c11,aa,l1)/\aa.length=L:=by
 intro n
 induction n with
 |zero=>intro i t _ h;omega
 |succ n Y=>
  intro i t h1 lf U
  unfold uP LI
  refine bU (fun lg=>?_) fun _=>?_
  ·refine bH (by omega) fun Z la=>?_
   refine bk (W Z (la▸List.getElem_mem _) t U) ?_
   rintro v ⟨aa,rfl,lc⟩
   rw[bu (by omega)]
   exact Y (i+1) aa (by omega) (by omega) lc
  ·unfold gE
   exact aC ⟨t,rfl,U⟩
theorem Qa{v3:pn}{aa l:List Bool}(U:v3=(c1,c2,c3,c4,c5,c6,c7,c8,c9,m1,c10,c11,aa,l))(la:L<=40000)(lc:aa.length=L){P:pn->Prop}
  (o:Int->List Node->List Int->List UInt8->List ca->List fq->List Node->List Node->Int->Bool->ft->List (List UInt8)->List ca->List Bool->List Bool->Option pn)(t45:Int)
  (W:∀t:List Bool,t.length=L->Has (o (ai (t45+1)) c1 c2 c3 c4 c5 c6 c7 c8 c9 m1 c10 c11 t l) P):
  ∀n (i:Nat) (t:List Bool),i<=L->L-i<n->t.length=L->Has (vk v3 o t45 n (i:Int) t) P:=by
 subst U
 intro n
 induction n with
 |zero=>intro i t _ h;omega
 |succ n Y=>
  intro i t h1 ld O
  unfold vk HD
  refine bU (fun Z=>?_) fun _=>W t O
  have lf:i<L:=by
   have:(i:Int)<(aa.length:Int):=Z
   omega
  refine bH (l:=aa) (by omega) fun lg _=>?_
  refine bH (by omega) fun lh _=>?_
  unfold LG
  refine bH (by omega) fun _ _=>?_
  rw[bu (by omega)]
  exact Y (i+1) _ (by omega) (by omega) (by rw[List.length_set];exact O)
theorem PU{k:Nat}{o:Node}{O:Ar}{l1:List Bool}(W:L<=40000)(li:L<k)(Y:l1.length=L)(hk:o.2.2.2.2.1.length<=1000)
  (Z:∀x∈o.2.2.2.2.1,∀l:List Bool,l.length=L->Has (O x c1 c2 c3 c4 c5 c6 c7 c8 c9 m1 c10 c11 l) fun v=>∃aa,v=(c1,c2,c3,c4,c5,c6,c7,c8,c9,m1,c10,c11,aa,l)/\aa.length=L):
  ∀n (i:Nat) (t:List Bool),i<=o.2.2.2.2.1.length->o.2.2.2.2.1.length-i<n->t.length=L->
  Has (vF k o O n (i:Int) c1 c2 c3 c4 c5 c6 c7 c8 c9 m1 c10 c11 t l1) fun v=>∃aa,v=(c1,c2,c3,c4,c5,c6,c7,c8,c9,m1,c10,c11,aa,l1)/\aa.length=L:=by
 intro n
 induction n with
 |zero=>intro i t _ h;omega
 |succ n la=>
  intro i t h1 lj U
  unfold vF HR
  refine bU (fun lk=>?_) fun _=>?_
  ·refine bH (by omega) fun lc ld=>?_
   refine bk (Z lc (ld▸List.getElem_mem _) l1 Y) ?_
   rintro v ⟨aa,rfl,lf⟩
   refine Qa (c1:=c1) (c2:=c2) (c3:=c3) (c4:=c4) (c5:=c5) (c6:=c6) (c7:=c7) (c8:=c8) (c9:=c9) (m1:=m1) (c10:=c10) (c11:=c11) rfl W lf _ _ (fun lg lh=>?_) k 0 t (Nat.zero_le _) (by omega) U
   rw[bu (by omega)]
   exact la (i+1) lg (by omega) (by omega) lh
  ·unfold gE
   exact aC ⟨t,rfl,U⟩
theorem MW{v4:pn}{aa l:List Bool}(O:v4=(c1,c2,c3,c4,c5,c6,c7,c8,c9,m1,c10,c11,aa,l))(Y:L<=40000)(Z:l.length=L):
  ∀n (i:Nat) (t:List Bool),i<=L->L-i<n->t.length=L->Has (vz v4 n (i:Int) t) fun v=>∃aa,v=(c1,c2,c3,c4,c5,c6,c7,c8,c9,m1,c10,c11,aa,l)/\aa.length=L:=by
 subst O
 intro n
 induction n with
 |zero=>intro i t _ h;omega
 |succ n U=>
  intro i t h1 la o
  unfold vz Jk
  refine bU (fun W=>?_) fun _=>?_
  ·have lc:i<L:=by
    have:(i:Int)<(l.length:Int):=W
    omega
   refine bH (l:=l) (by omega) fun _ _=>?_
   refine bH (by omega) fun _ _=>?_
   unfold Kw
   refine bH (by omega) fun _ _=>?_
   rw[bu (by omega)]
   exact U (i+1) _ (by omega) (by omega) (by rw[List.length_set];exact o)
  ·unfold gE
   exact aC ⟨t,rfl,o⟩
abbrev QC:Type:=Int->Int->Int->Int->List Int->List Node->List Int->List UInt8->List ca->List fq->List Node->List Node->Int->Bool->ft->List (List UInt8)->List ca->List Bool->List Bool->Option pn
theorem Wq{v5:pn}{aa la l:List Bool}(lf:v5=(c1,c2,c3,c4,c5,c6,c7,c8,c9,m1,c10,c11,aa,la))(ll:L<=40000)(lm:aa.length=L)(U:QC)(W Y n3 n4:Int)(Z:List Int){f0:Nat}
  (lg:∀t:List Bool,t.length=L->t.count false<f0->Has (U W Y n3 n4 Z c1 c2 c3 c4 c5 c6 c7 c8 c9 m1 c10 c11 t l) fun v=>∃aa,v=(c1,c2,c3,c4,c5,c6,c7,c8,c9,m1,c10,c11,aa,l)/\aa.length=L):
  ∀n o (i:Nat) (t:List Bool),i<=L->L-i<n->t.length=L->(t.count false<=f0/\(o=true->t.count false<f0))->
   Has (rb v5 l U W Y n3 n4 Z n o (i:Int) t) fun v=>∃aa,v=(c1,c2,c3,c4,c5,c6,c7,c8,c9,m1,c10,c11,aa,l)/\aa.length=L:=by
 subst lf
 intro n
 induction n with
 |zero=>intro o i t _ h;omega
 |succ n lc=>
  intro o i t h1 ln O ld
  unfold rb Hc
  refine bU (fun lh=>?_) fun _=>?_
  ·have lo:i<L:=by
    have:(i:Int)<(aa.length:Int):=lh
    omega
   refine bH (l:=aa) (by omega) fun _ _=>?_
   have no:Has (pk t (i:Int) (rb (c1,c2,c3,c4,c5,c6,c7,c8,c9,m1,c10,c11,aa,la) l U W Y n3 n4 Z n) o false) fun v=>∃aa,v=(c1,c2,c3,c4,c5,c6,c7,c8,c9,m1,c10,c11,aa,l)/\aa.length=L:=by
    unfold pk uN
    rw[if_neg (by simp),bu (by omega)]
    exact lc o (i+1) t (by omega) (by omega) O ld
   refine aH (fun _=>?_) fun _=>no
   refine bH (by omega) fun li lj=>?_
   cases li with
   |true=>exact no
   |false=>
    show Has (pk _ _ _ _ true) _
    unfold pk uN
    rw[if_pos rfl]
    refine bH (by omega) fun _ _=>?_
    rw[bu (by omega)]
    have lp:=xj (l:=t) (i:=i) (by omega) lj
    rw[Int.toNat_natCast]
    exact lc true (i+1) _ (by omega) (by omega) (by rw[List.length_set];exact O) ⟨by omega,fun _=>by omega⟩
  ·refine aH (fun _=>?_) fun lk=>lg t O (ld.2 (by simpa using lk))
   unfold gE
   exact aC ⟨t,rfl,O⟩
theorem Pj{k:Nat}{o:Ar}{l1:List Bool}(W:L<=40000)(li:L<k)(lj:l1.length=L){Y Z n3 n4 x:Int}{O:List Int}
  (la:∀l:List Bool,l.length=L->Has (o x c1 c2 c3 c4 c5 c6 c7 c8 c9 m1 c10 c11 l) fun v=>∃aa,v=(c1,c2,c3,c4,c5,c6,c7,c8,c9,m1,c10,c11,aa,l)/\aa.length=L):
  ∀n (t:List Bool),t.count false<n->t.length=L->
  Has (tC k o n Y Z n3 n4 (x::O) c1 c2 c3 c4 c5 c6 c7 c8 c9 m1 c10 c11 t l1) fun v=>∃aa,v=(c1,c2,c3,c4,c5,c6,c7,c8,c9,m1,c10,c11,aa,l1)/\aa.length=L:=by
 intro n
 induction n with
 |zero=>intro t h;omega
 |succ n lc=>
  intro t lk U
  unfold tC L2
  refine bH (l:=x::O) (i:=0) (by simp) fun y ld=>?_
  obtain rfl:x=y:=ld
  refine bk (la t U) ?_
  rintro v ⟨aa,rfl,lf⟩
  refine Wq (c1:=c1) (c2:=c2) (c3:=c3) (c4:=c4) (c5:=c5) (c6:=c6) (c7:=c7) (c8:=c8) (c9:=c9) (m1:=m1) (c10:=c10) (c11:=c11) rfl W lf _ _ _ _ _ _ (f0:=t.count false) (fun lg lh ll=>?_) k false 0 t (Nat.zero_le _) (by omega) U ⟨Nat.le_refl _,fun h=>nomatch h⟩
  exact lc lg (by omega) lh
theorem vj{l1:List Bool}(o:l1.length=L):(l1++List.drop l1.length (List.replicate L false)).length=L:=by
 rw[List.length_append,List.length_drop,List.length_replicate]
 omega
theorem SV(li:dT c1)(W:L<=40000)(lf:c2.length+1=L):∀d k (U:Nat),U<c1.length->c1.length-U<=d->60000+d<=k->∀l:List Bool,l.length=L->
  Has (ii k (U:Int) c1 c2 c3 c4 c5 c6 c7 c8 c9 m1 c10 c11 l) fun v=>∃aa,v=(c1,c2,c3,c4,c5,c6,c7,c8,c9,m1,c10,c11,aa,l)/\aa.length=L:=by
 intro d
 induction d with
 |zero=>intro k U h1 lj;omega
 |succ d lk=>
  intro k U h1 lj lu l o
  obtain⟨k,rfl⟩:∃m,k=m+1:=⟨k-1,by omega⟩
  have O:=li.2.2 U h1
  have lg:ai ((c2.length:Int)+1)=(L:Int):=by rw[bu (by omega),lf]
  have lv:=pI
  unfold ii
  refine bH h1 fun Y ll=>?_
  rw[ll]at O
  have Z:∀x∈Y.2.2.2.2.1,∀l:List Bool,l.length=L->Has (ii k x c1 c2 c3 c4 c5 c6 c7 c8 c9 m1 c10 c11 l) fun v=>∃aa,v=(c1,c2,c3,c4,c5,c6,c7,c8,c9,m1,c10,c11,aa,l)/\aa.length=L:=by
   intro x lm l o
   have:=O.1 x lm
   obtain⟨m,rfl⟩:∃m:Nat,x=(m:Int):=⟨x.toNat,by omega⟩
   exact lk k m (by omega) (by omega) (by omega) l o
  rw[lg]
  refine bT ⟨by omega,by omega,by omega⟩ ?_
  have la:(List.replicate ((L:Int)).toNat false).length=L:=by simp
  have lc:∀b,Has (rt k c2 l Y c3 c4 c5 c6 c7 c8 c9 m1 c10 c11 c1 (ii k) b) fun v=>∃aa,v=(c1,c2,c3,c4,c5,c6,c7,c8,c9,m1,c10,c11,aa,l)/\aa.length=L:=by
   intro b
   unfold rt
   rw[lg]
   refine aH (fun _=>UI k Y W lf o k 0 _ (by omega) (by omega) la) fun _=>?_
   refine aH (fun _=>?_) fun _=>?_
   ·refine bH (i:=0) (by omega) fun _ _=>?_
    refine bH (i:=0) (by omega) fun _ _=>?_
    refine bH (by omega) fun _ _=>?_
    refine bH (by rw[List.length_set];omega) fun _ _=>?_
    unfold gE
    exact aC ⟨_,rfl,by rw[List.length_set,List.length_set];exact la⟩
   refine aH (fun _=>?_) fun _=>?_
   ·refine bT (by omega) ?_
    rw[Int.toNat_natCast]
    exact VF o O.2.2 Z k 0 _ (Nat.zero_le _) (by have:=O.2.2;omega) (vj o)
   refine aH (fun _=>?_) fun _=>?_
   ·exact PU W (by omega) o O.2.2 Z k 0 _ (Nat.zero_le _) (by have:=O.2.2;omega) la
   refine aH (fun ln=>?_) fun _=>?_
   ·have ld:=O.2.1 (Or.inr (by simpa using ln))
    have lo:0<Y.2.2.2.2.1.length:=List.length_pos_iff.2 ld
    refine bH (i:=0) lo fun lp lq=>?_
    refine bk (Z lp (lq▸List.getElem_mem _) l o) ?_
    rintro v ⟨aa,rfl,lr⟩
    refine bT (by show aa.length<=_;omega) ?_
    rw[Int.toNat_natCast]
    exact MW (c1:=c1) (c2:=c2) (c3:=c3) (c4:=c4) (c5:=c5) (c6:=c6) (c7:=c7) (c8:=c8) (c9:=c9) (m1:=m1) (c10:=c10) (c11:=c11) rfl W o k 0 _ (Nat.zero_le _) (by omega) (vj lr)
   refine aH (fun lt=>?_) fun _=>?_
   ·have ld:=O.2.1 (Or.inl (by simpa using lt))
    obtain⟨y,lw,lh⟩:=List.exists_cons_of_ne_nil ld
    refine bT (by omega) ?_
    rw[Int.toNat_natCast,lh]
    refine Pj W (by omega) o (Z y (by rw[lh];exact List.mem_cons_self)) k _ ?_ (vj o)
    have:=List.count_le_length (a:=false) (l:=l++List.drop l.length (List.replicate L false))
    rw[vj o]at this
    omega
   ·unfold gE
    exact aC ⟨_,rfl,la⟩
  refine aH (fun _=>?_) fun _=>?_
  ·refine bT (by omega) ?_
   unfold gE
   rw[Int.toNat_natCast]
   exact aC ⟨_,rfl,vj o⟩
  ·exact aH (fun _=>lc _) fun _=>aH (fun _=>lc _) fun _=>lc _
theorem Ms(o:dT c1)(O:c2.length+1=L)(U:L<=40000){l:List Bool}(W:l.length=L):
  Has (oO 80000 (c1,()) c2 c3 c4 c5 c6 c7 c8 c9 m1 c10 c11 l) fun v=>∃aa,v=(c3,c4,c5,c6,c7,c8,c9,m1,c10,c11,aa,l)/\aa.length=L:=by
 unfold oO
 refine bk (SV o U O 1000 80000 0 (by have:=o.1;omega) (by have:=o.2.1;omega) (by omega) l W) ?_
 rintro v ⟨aa,rfl,Y⟩
 exact aC ⟨aa,rfl,Y⟩
end ends
end Go.Ev
namespace Go.Ev
open Go
set_option linter.unusedVariables false
theorem Sl(l:List Bool)(O:l.length<=70000)(v:Bool):bY (pE 80000 l v):=by
 unfold pE wg
 refine cS (nJ (L:=p9 l v) (len:=l.length) (by omega) ?_ 80000 0 (Nat.zero_le _) (by omega)) fun _ _=>bR _
 intro n i U o
 unfold p9 D5
 exact fO (fun h=>cS (jx (by omega)) fun _ _=>cu (fun _=>bR _) fun _=>o (by omega)) fun _=>bR _
section lies
variable {c1:List UInt8} {c2:List ca} {c3:List fq} {c4 c5:List Node} {c6:Int} {c7:Bool} {m1:ft} {c8:List (List UInt8)} {c9:List ca}
theorem TS{l1:List Int}(lc:l1.length<=39000)(U:dT c4)(W:dT c5){o:Nat}(ld:o+c2.length<=l1.length):
  ∀n (i:Nat) (t:List Bool),i<=l1.length+1->l1.length+1-i<n->t.length=l1.length+1->Has (uH 80000 l1 c4 c1 c2 c3 c5 c6 c7 m1 c8 c9 (o:Int) n (i:Int) t) fun v=>∃b,v=(b,c1,c2,c3,c4,c5,c6,c7,m1,c8,c9):=by
 have Y:ai ((l1.length:Int)+1)=((l1.length+1:Nat):Int):=bu (by omega)
 intro n
 induction n with
 |zero=>intro i t _ h;omega
 |succ n Z=>
  intro i t h1 lf O
  unfold uH GN
  rw[Y,Int.toNat_natCast,List.length_replicate]
  refine bU (fun lg=>?_) fun _=>?_
  ·refine bH (by omega) fun _ _=>?_
   rw[bu (by omega)]
   exact Z (i+1) _ (by omega) (by omega) (by rw[List.length_set];exact O)
  ·refine bk (Ms U rfl (by omega) O) ?_
   rintro v ⟨aa,rfl,lh⟩
   refine bH (l:=aa) (by omega) fun _ _=>?_
   refine aH (fun _=>aC ⟨false,rfl⟩) fun _=>?_
   have la:ai ((o:Int)+(c2.length:Int))=((o+c2.length:Nat):Int):=by rw[dl (by omega)];omega
   rw[la]
   refine bH (l:=List.replicate t.length false) (by rw[List.length_replicate];omega) fun _ _=>?_
   refine bk (Ms (c1:=c5) (c2:=l1) (L:=l1.length+1) W rfl (by omega) (l:=List.set (List.replicate t.length false) ((o+c2.length:Nat):Int).toNat true) (by rw[List.length_set,List.length_replicate];exact O)) ?_
   rintro v ⟨aT,rfl,li⟩
   refine bk (gW (Sl aT (by omega) true)) fun b _=>?_
   exact aC ⟨b,rfl⟩
theorem U4{l1:List Int}(O:l1.length<=39000)(U:dT c4)(W:dT c5)(lc:c2.length<=8){o:Nat}(Y:o+c2.length<=l1.length):
  ∀n (i:Nat),i<=c2.length->c2.length-i<n->Has (sw 80000 c2 l1 (o:Int) c1 c3 c4 c5 c6 c7 m1 c8 c9 n (i:Int)) fun v=>∃b,v=(b,c1,c2,c3,c4,c5,c6,c7,m1,c8,c9):=by
 have ld:=pI
 have Z:ai ((l1.length:Int)+1)=((l1.length+1:Nat):Int):=bu (by omega)
 intro n
 induction n with
 |zero=>intro i _ h;omega
 |succ n la=>
  intro i h1 lf
  unfold sw H1
  refine bU (fun lg=>?_) fun _=>?_
  ·refine bH (by omega) fun lh _=>?_
   rw[show ai ((o:Int)+(i:Int))=((o+i:Nat):Int) by rw[dl (by omega)];omega]
   refine bH (by omega) fun li _=>?_
   refine bk (Jm ..) fun b _=>?_
   refine aH (fun _=>aC ⟨false,rfl⟩) fun _=>?_
   rw[bu (by omega)]
   exact la (i+1) (by omega) (by omega)
  ·rw[Z]
   refine bT ⟨by omega,by omega,by omega⟩ ?_
   exact TS O U W Y 80000 0 _ (Nat.zero_le _) (by omega) (by simp)
theorem CW{l1:List Int}(U:l1.length<=39000)(W:dT c4)(Y:dT c5)(Z:c2.length<=8){o:Nat}(la:o<=100000):
  Has (nX 80000 l1 (o:Int) c1 c2 c3 c4 c5 c6 c7 m1 c8 c9) fun v=>∃b,v=(b,c1,c2,c3,c4,c5,c6,c7,m1,c8,c9)/\(b=true->o+c2.length<=l1.length):=by
 unfold nX
 rw[show ai ((o:Int)+(c2.length:Int))=((o+c2.length:Nat):Int) by rw[dl (by omega)];omega]
 refine bU (fun _=>aC ⟨false,rfl,fun h=>nomatch h⟩) fun h=>?_
 have O:o+c2.length<=l1.length:=by omega
 exact sf (U4 U W Y Z O 80000 0 (Nat.zero_le _) (by omega)) fun v ⟨b,e⟩=>⟨b,e,fun _=>O⟩
end lies
theorem Tj(s:List UInt8)(p i:Nat):eF (s.drop p) i=eF s (p+i):=by
 unfold eF
 simp[List.getD_eq_getElem?_getD]
theorem Xf(s:List UInt8)(p i:Nat):g (s.drop p) i=g s (p+i):=by
 unfold g
 simp only[Tj,List.length_drop,<-Nat.add_assoc,Nat.sub_sub]
theorem M1{s:List UInt8}{p:Nat}(h:p<s.length):Lib.decodeGo ⟨(s.drop p).toArray⟩=g s p:=by
 unfold Lib.decodeGo
 rw[if_neg (by simp[ByteArray.size];omega),uw,Xf]
 rfl
theorem MC{w:List UInt8}(h:w≠[]):∃r n:Nat,utf8_DecodeRuneInString 80000 w=some ((r:Int),(n:Int))/\1<=n/\n<=w.length:=by
 have o:0<w.length:=List.length_pos_iff.2 h
 refine⟨(Lib.decodeGo ⟨w.toArray⟩).1,(Lib.decodeGo ⟨w.toArray⟩).2,rfl,?_⟩
 have e:Lib.decodeGo ⟨w.toArray⟩=g w 0:=by simpa using M1 (s:=w) (p:=0) o
 rw[e]
 have:=oa w 0 o
 omega
theorem TQ(a:aU):∀n (w:List UInt8) (o:List Int),o.length<=256->257-o.length<n->Has (tT 80000 a n w o) fun v=>v.1.length<=256:=by
 have la:=gh
 intro n
 induction n with
 |zero=>intro w o _ h;omega
 |succ n O=>
  intro w o h1 lc
  unfold tT HY
  refine aH (fun U=>?_) fun _=>aC h1
  have W:w≠[]:=by rintro rfl;simp at U
  obtain⟨r,m,e,ld,Y⟩:=MC W
  rw[e,Option.bind_some]
  unfold I3
  refine aH (fun _=>aC (Nat.zero_le _)) fun _=>?_
  refine bk (gW (Dj _ _)) fun v _=>?_
  refine aH (fun _=>aC (Nat.zero_le _)) fun _=>?_
  refine aH (fun _=>aC (Nat.zero_le _)) fun Z=>?_
  have lf:o.length≠256:=by
   intro q
   simp[q]at Z
  refine bT (by simp only[List.length_cons,List.length_nil];omega) ?_
  rw[na Y,Option.bind_some]
  exact O _ _ (by simp only[List.length_append,List.length_cons,List.length_nil];omega) (by simp only[List.length_append,List.length_cons,List.length_nil];omega)
theorem Uk(a:aU)(w:List UInt8):Has (wT 80000 a w) fun v=>v.1.length<=256:=by
 unfold wT
 exact TQ a 80000 w [] (Nat.zero_le _) (by simp)
theorem Vx(a:aU):∀n (w:List UInt8) (o:List Int),o.length<=256->257-o.length<n->Has (uC 80000 a n w o) fun v=>v.2.length<=256:=by
 have la:=gh
 intro n
 induction n with
 |zero=>intro w o _ h;omega
 |succ n O=>
  intro w o h1 lc
  unfold uC FT
  refine aH (fun U=>?_) fun _=>aC h1
  have W:w≠[]:=by rintro rfl;simp at U
  obtain⟨r,m,e,ld,Y⟩:=MC W
  rw[e,Option.bind_some]
  unfold Kh
  refine aH (fun _=>aC (Nat.zero_le _)) fun _=>?_
  refine bk (gW (Dj _ _)) fun v _=>?_
  refine aH (fun _=>aC (Nat.zero_le _)) fun _=>?_
  refine aH (fun _=>aC (Nat.zero_le _)) fun Z=>?_
  have lf:o.length≠256:=by
   intro q
   simp[q]at Z
  refine bT (by simp only[List.length_cons,List.length_nil];omega) ?_
  rw[na Y,Option.bind_some]
  exact O _ _ (by simp only[List.length_append,List.length_cons,List.length_nil];omega) (by simp only[List.length_append,List.length_cons,List.length_nil];omega)
theorem WY(a:aU)(w:List UInt8):Has (qM 80000 a w) fun v=>v.2.length<=256:=by
 unfold qM
 exact Vx a 80000 w [] (Nat.zero_le _) (by simp)
theorem SK(a:aU)(p m:Int)(h:a.2.1.length<=128):∀n (i:Nat) (o:List Int),i<=a.2.1.length->a.2.1.length-i<n->o.length<=i->Has (s9 80000 a p m n (i:Int) o) fun v=>v.1.length<=128:=by
 have U:=gh
 intro n
 induction n with
 |zero=>intro i o _ h;omega
 |succ n O=>
  intro i o h1 W Y
  unfold s9 Ig
  refine bU (fun Z=>?_) fun _=>aC (by show o.length<=128;omega)
  refine bH (by omega) fun la _=>?_
  unfold ER HJ xq
  rw[Option.bind_some,bu (by omega)]
  refine aH (fun _=>?_) fun _=>O (i+1) _ (by omega) (by omega) (by omega)
  refine bT (by simp only[List.length_cons,List.length_nil];omega) ?_
  exact O (i+1) _ (by omega) (by omega) (by simp only[List.length_append,List.length_cons,List.length_nil];omega)
theorem VW(a:aU)(p m:Int):Has (vX 80000 a p m) fun v=>v.1.length<=128:=by
 unfold vX
 obtain⟨e,O,U⟩:=mM (a.1,a.2.1,())
 rw[O,Option.bind_some]
 refine aH (fun _=>aC (Nat.zero_le _)) fun W=>?_
 have o:=(U (by simpa using W)).2.1
 refine bk (gW (wy ..)) fun v _=>?_
 refine aH (fun _=>aC (Nat.zero_le _)) fun _=>?_
 exact SK a p m o 80000 0 [] (Nat.zero_le _) (by have:a.2.1.length<=128:=o;omega) (Nat.zero_le _)
theorem FY(p m:Int)(c1:List (List UInt8))(c2:List ca)(c3:List UInt8)(c4:List ca)(c5:List fq)(c6 c7:List Node)(c8:Int)(c9:Bool)(m1:ft):Has (pV 80000 p m c1 c2 c3 c4 c5 c6 c7 c8 c9 m1) fun _=>True:=by
 unfold pV
 refine bk (VW _ _ _) fun v1 O=>?_
 have:∀n (i:Nat) (s:List (Int×Bool)),i<=v1.1.length->v1.1.length-i<n->Has (tU v1 m1 p m n (i:Int) s) fun _=>True:=by
  intro n
  induction n with
  |zero=>intro i s _ h;omega
  |succ n o=>
   intro i s h1 U
   unfold tU JK
   refine bU (fun W=>?_) fun _=>aC trivial
   refine bH (by omega) fun Y _=>?_
   rw[bu (by omega)]
   exact o (i+1) _ (by omega) (by omega)
 exact this 80000 0 [] (Nat.zero_le _) (by omega)
abbrev KU:Type:=List (List UInt8)×List ca×ft×List UInt8×List ca×List fq×List Node×List Node×Int×Bool
theorem Oa{o:jB}(W:o.1.length<=1000){a4:List (List UInt8)}{a5:List ca}{t10:List UInt8}{t11:List ca}{t12:List fq}{t13 t14:List Node}{t15:Int}{t16:Bool}
  {go2:Int->List (List UInt8)->List ca->ft->List UInt8->List ca->List fq->List Node->List Node->Int->Bool->List jB->Option KU}{t9:Int}{t17:List jB}{P:KU->Prop}
  (O:∀m:ft,Has (go2 (ai (t9+1)) a4 a5 m t10 t11 t12 t13 t14 t15 t16 t17) P):
  ∀n (i:Nat) (m:ft),i<=o.1.length->o.1.length-i<n->Has (tL 80000 o a4 a5 t10 t11 t12 t13 t14 t15 t16 go2 t9 t17 n (i:Int) m) P:=by
 intro n
 induction n with
 |zero=>intro i s _ h;omega
 |succ n U=>
  intro i m h1 Y
  unfold tL HK
  refine bU (fun Z=>?_) fun _=>O m
  refine bH (by omega) fun la _=>?_
  refine bk (FY ..) fun v2 _=>?_
  rw[bu (by omega)]
  exact U (i+1) _ (by omega) (by omega)
theorem Ww{r:fA}(U:r.2.2.2.1.1.length<=1000)(W:r.2.2.2.2.1.1.length<=1000){a4:List (List UInt8)}{a5:List ca}{t10:List UInt8}{t11:List ca}{t12:List fq}{t13 t14:List Node}{t15:Int}{t16:Bool}:
  ∀n (i:Nat) (m:ft),i<=2->2-i<n->Has (va 80000 r n (i:Int) a4 a5 m t10 t11 t12 t13 t14 t15 t16 [(r.2.2.2.1.1,()),(r.2.2.2.2.1.1,())]) fun v=>∃m,v=(a4,a5,m,t10,t11,t12,t13,t14,t15,t16):=by
 intro n
 induction n with
 |zero=>intro i s _ h;omega
 |succ n Y=>
  intro i m h1 ld
  unfold va LO
  refine bU (fun Z=>?_) fun _=>aC ⟨m,rfl⟩
  have lf:i<2:=by simp only[List.length_cons,List.length_nil]at Z;omega
  refine bH (by simp only[List.length_cons,List.length_nil];omega) fun o la=>?_
  have lc:o.1.length<=1000:=by
   have O:o∈[(r.2.2.2.1.1,()),(r.2.2.2.2.1.1,())]:=la▸List.getElem_mem _
   simp only[List.mem_cons,List.not_mem_nil,or_false]at O
   rcases O with rfl|rfl
   ·exact U
   ·exact W
  refine Oa lc (fun aA=>?_) 80000 0 m (Nat.zero_le _) (by omega)
  rw[bu (by omega)]
  exact Y (i+1) aA (by omega) (by omega)
theorem xO(a:aU){r:fA}(W:r.2.1.length<=8)(o:r.2.2.2.1.1.length<=1000)(O:r.2.2.2.2.1.1.length<=1000):
  Has (mB 80000 a r) fun v=>∃m,v=(a.1,a.2.1,m,r.1,r.2.1,r.2.2.1,r.2.2.2.1.1,r.2.2.2.2.1.1,r.2.2.2.2.2.1,r.2.2.2.2.2.2.1):=by
 unfold mB
 have:∀n (i:Nat) (m:ft),i<=r.2.1.length->r.2.1.length-i<n->Has (ta 80000 r a n (i:Int) m) fun v=>∃m,v=(a.1,a.2.1,m,r.1,r.2.1,r.2.2.1,r.2.2.2.1.1,r.2.2.2.2.1.1,r.2.2.2.2.2.1,r.2.2.2.2.2.2.1):=by
  intro n
  induction n with
  |zero=>intro i s _ h;omega
  |succ n U=>
   intro i m h1 Y
   unfold ta GL
   refine bU (fun Z=>?_) fun _=>Ww o O 80000 0 m (Nat.zero_le _) (by omega)
   refine bH (by omega) fun la _=>?_
   refine bk (FY ..) fun v _=>?_
   rw[bu (by omega)]
   exact U (i+1) _ (by omega) (by omega)
 exact this 80000 0 [] (Nat.zero_le _) (by omega)
end Go.Ev
namespace Go.Ev
open Go
set_option linter.unusedVariables false
def gp(o:List Node)(n:Nat):List Int:=(o.take n).flatMap fun x=>x.2.2.2.2.1
def iY(o:List Node):Prop:=dT o/\o.length<=256/\(gp o o.length).Nodup
def WX(o:List Node)(i:Nat):Prop:=∀(h:i<o.length),(∀k∈(o[i]'h).2.2.2.2.1,(i:Int)<k/\k<(o.length:Int))/\((o[i]'h).1=8\/(o[i]'h).1=9->(o[i]'h).2.2.2.2.1.length=1)
structure Seen(N:Nat)(V:List Int)(t:List Bool):Prop where
 len:t.length=N
 jy:V.Nodup
 flag:∀k∈V,0<=k/\t[k.toNat]? =some true
 count:V.length+t.count false=N
theorem Seen.add{N:Nat}{V:List Int}{t:List Bool}(h:Seen N V t){m:Nat}(o:m<t.length)(O:t[m]'o=false):Seen N (V++[(m:Int)]) (t.set m true):=by
 have W:((m:Nat):Int)∉V:=fun q=>by
  have:=(h.flag _ q).2
  rw[Int.toNat_natCast,List.getElem?_eq_getElem o,O]at this
  cases this
 refine⟨by rw[List.length_set];exact h.len,?_,?_,?_⟩
 ·rw[List.nodup_append]
  exact⟨h.jy,by simp,fun a Y b U e=>by simp at U;exact W (by rw[<-U,<-e];exact Y)⟩
 ·intro k hk
  rcases List.mem_append.1 hk with hk|hk
  ·have:=h.flag k hk
   refine⟨this.1,?_⟩
   rw[List.getElem?_set]
   by_cases e:m=k.toNat
   ·rw[if_pos e,if_pos o]
   ·rw[if_neg e];exact this.2
  ·simp at hk
   subst hk
   exact⟨by omega,by rw[Int.toNat_natCast,List.getElem?_set_self o]⟩
 ·have:=xj o O
  have:=h.count
  simp only[List.length_append,List.length_cons,List.length_nil]
  omega
theorem Tt{o:List Node}{i:Nat}(h:i<o.length):gp o (i+1)=gp o i++(o[i]'h).2.2.2.2.1:=by
 unfold gp
 rw[List.take_succ_eq_append_getElem h,List.flatMap_append]
 simp
theorem Wg{p:jB}{i:Nat}(Y:i<p.1.length){x:Node}(ld:p.1[i]'Y=x) (ll:p.1.length<=256) {go:Int->List Bool->Option Bool} {Q:Bool->Prop} (Z:Q false)
  (lf:∀t,Seen p.1.length (gp p.1 (i+1)) t->(∀k∈x.2.2.2.2.1,(i:Int)<k/\k<(p.1.length:Int))->Has (go (ai ((i:Int)+1)) t) Q):
  ∀n (j:Nat) (t:List Bool),j<=x.2.2.2.2.1.length->t.count false<n->Seen p.1.length (gp p.1 i++x.2.2.2.2.1.take j) t->(∀k∈x.2.2.2.2.1.take j,(i:Int)<k/\k<(p.1.length:Int))->
   Has (po x (i:Int) p go n (j:Int) t) Q:=by
 intro n
 induction n with
 |zero=>intro j t _ h;omega
 |succ n lg=>
  intro j t h1 lm o W
  have lh:=o.count
  simp only[List.length_append,List.length_take]at lh
  unfold po FH
  refine bU (fun ln=>?_) fun lo=>?_
  ·have O:j<x.2.2.2.2.1.length:=by omega
   refine bH O fun y li=>?_
   unfold Ef uK
   refine aH (fun _=>aH (fun _=>aC Z) fun q=>nomatch q) fun lj=>?_
   simp only[Bool.or_eq_false_iff,decide_eq_false_iff_not]at lj
   obtain⟨m,rfl⟩:∃m:Nat,y=(m:Int):=⟨y.toNat,by omega⟩
   have U:m<t.length:=by have:=o.len;omega
   refine bH U fun f la=>?_
   refine aH (fun _=>aC Z) fun lk=>?_
   refine bH U fun _ _=>?_
   subst lk
   rw[bu (by omega),Int.toNat_natCast]
   have lc:x.2.2.2.2.1.take (j+1)=x.2.2.2.2.1.take j++[(m:Int)]:=by rw[List.take_succ_eq_append_getElem O,li]
   have lp:=xj U la
   refine lg (j+1) (t.set m true) O (by omega) (by rw[lc,<-List.append_assoc];exact o.add U la) ?_
   intro k hk
   rw[lc]at hk
   rcases List.mem_append.1 hk with hk|hk
   ·exact W k hk
   ·simp at hk
    omega
  ·have O:j=x.2.2.2.2.1.length:=by omega
   subst O
   rw[List.take_length]at o W
   refine lf t ?_ W
   rw[Tt Y,ld]
   exact o
theorem Pt(p:jB):Has (kr 80000 p) fun b=>b=true->iY p.1:=by
 unfold kr
 by_cases W:(decide ((p.1.length:Int)<1)||decide ((256:Int)<(p.1.length:Int)))=true
 ·rw[W]
  exact⟨false,rfl,fun q=>by cases q⟩
 ·rw[Bool.eq_false_iff.2 W]
  simp only[Bool.or_eq_true,decide_eq_true_eq]at W
  have h1:1<=p.1.length:=by omega
  have Z:p.1.length<=256:=by omega
  have lu:=pI
  unfold wB
  rw[if_neg (by simp)]
  refine bT ⟨by omega,by omega,by omega⟩ ?_
  rw[Int.toNat_natCast]
  have lh:∀n (i:Nat) (t:List Bool),i<=p.1.length->p.1.length-i<n->Seen p.1.length (gp p.1 i) t->(∀j,j<i->WX p.1 j)->Has (gN 80000 p n (i:Int) t) fun b=>b=true->iY p.1:=by
   intro n
   induction n with
   |zero=>intro i t _ h;omega
   |succ n li=>
    intro i t lv lw o la
    have lx:=o.count
    unfold gN Dp
    refine bU (fun ly=>?_) fun lz=>?_
    ·have O:i<p.1.length:=by omega
     refine bH O fun x lc=>?_
     have ld:(x.1=8\/x.1=9->x.2.2.2.2.1.length=1)->∀b,Has (pR 80000 x (i:Int) p (gN 80000 p n) t b) fun b=>b=true->iY p.1:=fun hk b=>by
      unfold pR
      refine aH (fun _=>aC fun q=>nomatch q) fun _=>?_
      have lA:t.count false<=t.length:=List.count_le_length
      have lj:=o.len
      refine Wg O lc Z (fun q=>nomatch q) (fun lk ll lm=>?_) 80000 0 t (Nat.zero_le _) (by omega) (by simpa using o) (by simp)
      rw[bu (by omega)]
      refine li (i+1) lk O (by omega) ll fun j ln=>?_
      by_cases e:j=i
      ·subst e
       intro lB
       rw[lc]
       exact⟨lm,hk⟩
      ·exact la j (by omega)
     have Y:(x.1=8\/x.1=9->x.2.2.2.2.1.length=1)->Has (nk 80000 x (i:Int) p (gN 80000 p n) t) fun b=>b=true->iY p.1:=fun hk=>by
      unfold nk EM
      exact aH (fun _=>ld hk _) fun _=>ld hk _
     have U:∀c:Int,c≠8->c≠9->Has (kW 80000 x (i:Int) p (gN 80000 p n) t (x.1==c)) fun b=>b=true->iY p.1:=fun c lo lp=>by
      unfold kW
      refine aH (fun e=>aH (fun _=>aC fun q=>nomatch q) fun _=>Y fun q=>?_) fun _=>aC fun q=>nomatch q
      have:x.1=c:=by simpa using e
      omega
     have lf:∀c:Int,Has (o8 80000 x (i:Int) p (gN 80000 p n) t (x.1==c)) fun b=>b=true->iY p.1:=fun c=>by
      unfold o8
      refine aH (fun _=>aH (fun _=>aC fun q=>nomatch q) fun lq=>Y fun _=>?_) fun _=>?_
      ·have:¬((x.2.2.2.2.1.length:Int)≠1):=by simpa using lq
       omega
      ·exact aH (fun _=>U 1 (by decide) (by decide)) fun _=>aH (fun _=>U 2 (by decide) (by decide)) fun _=>aH (fun _=>U 3 (by decide) (by decide)) fun _=>aH (fun _=>U 4 (by decide) (by decide)) fun _=>U 5 (by decide) (by decide)
     have lg:∀c:Int,c≠8->c≠9->Has (pq 80000 x (i:Int) p (gN 80000 p n) t (x.1==c)) fun b=>b=true->iY p.1:=fun c lo lp=>by
      unfold pq
      refine aH (fun e=>Y fun q=>?_) fun _=>aH (fun _=>lf 8) fun _=>lf 9
      have:x.1=c:=by simpa using e
      omega
     exact aH (fun _=>lg 6 (by decide) (by decide)) fun _=>lg 7 (by decide) (by decide)
    ·have O:i=p.1.length:=by omega
     subst O
     have lj:=o.len
     rw[show(1:Int)=((1:Nat):Int)from rfl,na (by omega),Option.bind_some]
     refine bk (gW (IW _ (by rw[List.length_drop];omega) _)) fun b _=>aC fun _=>?_
     have lr:∀(j:Nat) (h:j<p.1.length),(p.1[j]'h).2.2.2.2.1.length<=1000:=by
      intro j h
      have lC:(p.1[j]'h).2.2.2.2.1.length<=(gp p.1 p.1.length).length:=by
       unfold gp
       rw[List.take_length]
       have hm:p.1[j]'h∈p.1:=List.getElem_mem _
       generalize p.1[j]'h=y at hm
       generalize p.1=l at hm
       induction l with
       |nil=>cases hm
       |cons z l lt=>
        rw[List.flatMap_cons,List.length_append]
        rcases List.mem_cons.1 hm with rfl|hm
        ·omega
        ·have:=lt hm
         omega
      omega
     refine⟨⟨h1,by omega,fun j h=>?_⟩,Z,o.jy⟩
     have:=la j h h
     refine⟨this.1,fun q=>?_,lr j h⟩
     have:=this.2 q
     intro e
     rw[e]at this
     cases this
  refine lh 80000 0 _ (Nat.zero_le _) (by omega) ?_ (fun j ln=>by omega)
  refine⟨by simp,by simp[gp],by simp[gp],?_⟩
  simp[gp,List.count_replicate]
theorem FR(a:aU)(p:jB):Has (pg 80000 a p) fun e=>e=0->iY p.1/\kr 80000 (p.1,())=some true:=by
 unfold pg
 obtain⟨e,W,_⟩:=mM (a.1,a.2.1,())
 rw[W,Option.bind_some]
 refine aH (fun h=>aC fun q=>?_) fun _=>?_
 ·subst q
  simp at h
 obtain⟨b,Y,Z⟩:=Pt (p.1,())
 rw[Y,Option.bind_some]
 refine aH (fun _=>aC fun q=>nomatch q) fun h=>?_
 have O:b=true:=by simpa using h
 have U:iY p.1:=Z O
 have la:=U.2.1
 have:bY (ov 80000 p a 80000 0):=by
  refine nJ (L:=ov 80000 p a) (len:=p.1.length) (by omega) ?_ 80000 0 (Nat.zero_le _) (by omega)
  intro n i lc o
  unfold ov Ae rF
  exact fO (fun ld=>cS (jx (by omega)) fun x _=>cu (fun _=>cS (rN _ _) fun _ _=>cu (fun _=>bR _) fun _=>o (by omega))
   fun _=>cu (fun _=>cS (AF _ _ _) fun _ _=>cu (fun _=>bR _) fun _=>o (by omega)) fun _=>o (by omega)) fun _=>bR _
 exact sf (gW this) fun _ _ _=>⟨U,by rw[O]⟩
theorem OL(a:aU)(s:fq)(n:Int):Has (rr 80000 a s n) fun b=>b=true->s.1=0->0<=s.2.1/\s.2.1<n:=by
 unfold rr A2 od
 refine aH (fun _=>?_) fun _=>?_
 ·rw[if_pos rfl]
  exact aC fun q=>nomatch q
 refine aH (fun o=>?_) fun o=>?_
 ·unfold Gm vp od
  refine aH (fun _=>aC fun q=>nomatch q) fun O=>?_
  simp only[Bool.or_eq_false_iff,decide_eq_false_iff_not]at O
  refine bk (gW (u9 ..)) fun b _=>aC fun _ _=>?_
  omega
 ·unfold vp od
  rw[if_neg (by simp)]
  refine bk (gW (u9 ..)) fun b _=>aC fun _ q=>?_
  rw[q]at o
  cases o
structure rB(a:aU)(r:fA):Prop where
 DP:cL a=true
 target:r.2.1.length<=8
 rP:r.2.2.1.length<=8
 from_:∀s∈r.2.2.1,s.1=0->0<=s.2.1/\s.2.1<(r.2.1.length:Int)
 left:iY r.2.2.2.1.1
 right:iY r.2.2.2.2.1.1
 Qh:kr 80000 (r.2.2.2.1.1,())=some true
 NL:kr 80000 (r.2.2.2.2.1.1,())=some true
theorem JP(a:aU)(r:fA):Has (oe 80000 a r) fun e=>e=0->rB a r:=by
 unfold oe
 rw[show fL 80000 ((a.1,a.2.1,()):aU)=some (if cL a then 0 else 7)from r6 a,Option.bind_some]
 refine aH (fun h=>aC fun q=>?_) fun h=>?_
 ·rw[q]at h
  cases h
 have lf:cL a=true:=by
  cases az:cL a with
  |true=>rfl
  |false=>rw[az]at h;cases h
 refine bk (gW (HW _)) fun v _=>?_
 unfold E1 Ac Ci B7 EV
 refine aH (fun _=>aC fun q=>nomatch q) fun lg=>?_
 simp only[Bool.or_eq_false_iff,decide_eq_false_iff_not]at lg
 have h1:r.2.1.length<=8:=by omega
 have lh:r.2.2.1.length<=8:=by omega
 have l2:∀n (i:Nat),i<=r.2.2.1.length->r.2.2.1.length-i<n->(∀s∈r.2.2.1.take i,s.1=0->0<=s.2.1/\s.2.1<(r.2.1.length:Int))->Has (ny 80000 r a n (i:Int)) fun e=>e=0->rB a r:=by
  intro n
  induction n with
  |zero=>intro i _ h;omega
  |succ n O=>
   intro i li lj U
   unfold ny Dk
   refine bU (fun lk=>?_) fun ln=>?_
   ·have W:i<r.2.2.1.length:=by omega
    refine bH W fun x Y=>?_
    refine bk (OL _ _ _) fun b ll=>?_
    refine aH (fun _=>aC fun q=>nomatch q) fun lm=>?_
    rw[bu (by omega)]
    refine O (i+1) W (by omega) fun s o=>?_
    rw[List.take_succ_eq_append_getElem W,Y]at o
    rcases List.mem_append.1 o with o|o
    ·exact U s o
    ·simp only[List.mem_cons,List.not_mem_nil,or_false]at o
     subst o
     exact ll (by simpa using lm)
   ·have:i=r.2.2.1.length:=by omega
    subst this
    rw[List.take_length]at U
    refine bk (FR a (r.2.2.2.1.1,())) fun v5 Z=>?_
    unfold rl
    refine aH (fun _=>?_) fun la=>?_
    ·rw[if_pos rfl]
     exact aC fun q=>nomatch q
    refine bk (FR a (r.2.2.2.2.1.1,())) fun lo lc=>?_
    refine aH (fun _=>aC fun q=>nomatch q) fun ld=>aC fun _=>?_
    exact⟨lf,h1,lh,U,(Z (by simpa using la)).1,(lc (by simpa using ld)).1,(Z (by simpa using la)).2,(lc (by simpa using ld)).2⟩
 have l1:∀n (i:Nat),i<=r.2.1.length->r.2.1.length-i<n->Has (pt 80000 r a n (i:Int)) fun e=>e=0->rB a r:=by
  intro n
  induction n with
  |zero=>intro i _ h;omega
  |succ n O=>
   intro i li lj
   unfold pt BE
   refine bU (fun lk=>?_) fun _=>l2 80000 0 (Nat.zero_le _) (by omega) (by simp)
   refine bH (by omega) fun x Y=>?_
   refine bk (gW (u9 ..)) fun b _=>?_
   refine aH (fun _=>aC fun q=>nomatch q) fun _=>?_
   rw[bu (by omega)]
   exact O (i+1) (by omega) (by omega)
 exact l1 80000 0 (Nat.zero_le _) (by omega)
/-! A word's places, and what is wrong with laws and a word. -/
theorem Qx{v2:List Int×Int}{U:fA}(la:v2.1.length<=256){t2:List (List UInt8)}{t3:List ca}{t4:List UInt8}{t5:List ca}{t6:List fq}{t7 t8:List Node}{t9:Int}{t10:Bool}(W:dT t7)(Y:dT t8)(Z:t5.length<=8)(m:ft):
  ∀n (i:Nat) (o:List (Int×Int×Unit)),i<=v2.1.length+1->v2.1.length+1-i<n->o.length<=i->Has (uv 80000 v2 U n (i:Int) t2 t3 t4 t5 t6 t7 t8 t9 t10 m o) fun _=>True:=by
 have lc:=gh
 intro n
 induction n with
 |zero=>intro i o _ h;omega
 |succ n O=>
  intro i o h1 ld lf
  unfold uv IB
  rw[bu (by omega)]
  refine bU (fun lg=>?_) fun _=>aC trivial
  refine bk (CW (by omega) W Y Z (by omega)) ?_
  rintro v ⟨b,rfl,_⟩
  unfold wY
  rw[bu (by omega)]
  refine aH (fun _=>?_) fun _=>O (i+1) _ (by omega) (by omega) (by omega)
  refine bT (by simp only[List.length_cons,List.length_nil];omega) ?_
  exact O (i+1) _ (by omega) (by omega) (by simp only[List.length_append,List.length_cons,List.length_nil];omega)
theorem Qo(a:aU)(r:fA)(w:List UInt8):Has (wI 80000 a r w) fun _=>True:=by
 unfold wI
 refine bk (JP a r) fun v1 O=>?_
 refine aH (fun _=>aC trivial) fun U=>?_
 have o:=O (by simpa using U)
 refine bk (Uk a w) fun v2 W=>?_
 refine aH (fun _=>aC trivial) fun _=>?_
 refine bk (xO a o.target o.left.1.2.1 o.right.1.2.1) ?_
 rintro v ⟨m,rfl⟩
 exact Qx W o.left.1 o.right.1 o.target m 80000 0 [] (Nat.zero_le _) (by omega) (Nat.zero_le _)
theorem PE(a:aU)(o:cL a=true)(w:List UInt8):Has (za 80000 a w) fun _=>True:=by
 unfold za E5
 have O:=sv o
 refine bk (Q:=fun _=>True) ?_ fun v _=>bk (Qo a v w) fun _ _=>aC trivial
 exact bH (i:=0) (by show 0<a.2.1.length;omega) fun x _=>aC trivial
end Go.Ev
