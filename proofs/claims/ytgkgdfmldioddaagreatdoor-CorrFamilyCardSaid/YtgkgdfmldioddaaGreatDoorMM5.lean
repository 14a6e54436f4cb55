/- Calls that turn the elements of an owned slice in place. -/
import Derived.Test.YtgkgdfmldioddaaGreatDoorMM4
import Derived.Lib.SliceRun
import Derived.OrdersHeld
set_option linter.unusedSectionVars false
set_option linter.unusedVariables false
set_option linter.unusedSimpArgs false
namespace Go.Ev
open Go Go.RowKit
variable [b6]
variable {cx:bB} {m:Nat->Value} {st st':ae} {T:Array Value} {w w':World} {E:Env} {Q:cX} {ops:Array Oper} {l:List Oper}
structure wS(P:Program)(G:World->Prop)(f e:Nat)(t:ag)(rel:List t.el->List t.el->Prop):Prop where
 enters:∀args w,(callFunc f args).run P w=.ok (.enter f args) w
 calls:∀(w:World) (M:Nat->Prop) (v:Value) (xs o:List t.el) (cells:List Value),G w->rel xs o->w.ownsRow 0 e t.cells v xs.length cells->bD (aF w M t) cells xs->
  Calls P f #[v] w fun x w'=>∃u O,x=.returned u/\Same w w'/\(∀b,b<w.heap.size->aO v≠some b->w'.heap[b]? =w.heap[b]?)/\w'.ownsRow 0 e t.cells v o.length O/\bD (aF w M t) O o
def CN(st:ae)(aa:Oper)(f:Nat):Option Nat:=
 match aa.op with
 |.call c=>match c.callee,c.args.toList with
  |.value x,[a]=>match aP st x,aP st a with
   |some (.clos o []),some (.row r)=>bif Nat.beq o f then some r else none
   |_,_=>none
  |_,_=>none
 |_=>none
def K7(P:Program)(n:Nat)(st:ae)(aa:Oper):Option (Nat×aj):=
 match aa.dst,aa.op with
 |some d,.binOp .eql t x (.const (.slice none 0 0)) _=>match aP st x,P.underlying t,Nat.blt d n with
  |some (.val (.ab u) xs),some (.slice _),true=>some (d,⟨.ab u,xs⟩)
  |_,_,_=>none
 |_,_=>none
theorem AS(U:br E cx){aa:Oper}{d:Nat}{u:ag}{xs:List u.el}(Z:eK ops st aa=some true)(az:K7 E.P E.n st aa=some (d,⟨.ab u,xs⟩))
  (h:∀b:Bool,(b=true->xs=[])->bK cx ops Q l (st.put d (.val .bool b))):bK cx ops Q (aa::l) st:=by
 rintro T w ⟨m,o⟩
 refine wpList_step fun K la=>?_
 rw[iT ⟨m,o⟩ Z]
 simp only[if_true]
 unfold K7 at az
 split at az
 case h_2=>cases az
 rename_i d' t x t2 af lc
 split at az
 case h_2=>cases az
 rename_i ll lm e ld W O
 cases az
 have lf:=(bZ (t:=.ab u) rfl).1 (aW o ld)
 obtain⟨a,cap,cells,Y,ln,lo,lg,_⟩:=lf
 simp only[List.cons.injEq,and_true]at Y
 rw[<-U.P]at W
 have lh:(execOp (Act.eval ⟨T,[]⟩) aa).run cx.P w=.ok (.value (.bool a.isNone)) w:=by
  refine ct (s:=do eqGuard .eql t x (.const (.slice none 0 0)) (Act.eval ⟨T,[]⟩ x) (.slice none 0 0);binOp .eql t (Act.eval ⟨T,[]⟩ x) (.slice none 0 0)) (by simp only[execOp,lc];rfl) ?_
  rw[Y,Sem.run_bind]
  have li:(eqGuard .eql t x (.const (.slice none 0 0)) (.slice a xs.length cap) (.slice none 0 0)).run cx.P w=.ok () w:=rfl
  rw[li]
  exact Lib.run_eql_slice_nil w t e a _ cap 0 0 W
 refine gT lh ?_
 rw[af]
 have O:d<cx.n:=by rw[U.n];exact cG O
 refine la _ _ (h a.isNone (fun lj=>?_) _ _ ⟨m,o.put O (s:=.val .bool a.isNone) (dH.2 rfl)⟩)
 have lk:a=none:=by simpa using lj
 have:=lg lk
 exact List.length_eq_zero_iff.1 (by omega)
end Go.Ev
namespace Go.Ev
open Go Go.RowKit
variable [b6]
variable {cx:bB} {m:Nat->Value} {st st':ae} {T:Array Value} {w w':World} {E:Env} {Q:cX} {ops:Array Oper} {l:List Oper}
def wR(n:Nat)(st:ae)(aa:Oper):Option (Nat×Nat):=
 match aa.op,aa.dst,aa.guard with
 |.next x false,some d,none=>match aP st x,Nat.blt d n with
  |some (.iter b),true=>some (d,b)
  |_,_=>none
 |_,_,_=>none
theorem Kd{n:Nat}{aa:Oper}{d b:Nat}(h:wR n st aa=some (d,b)):∃x,aa.op=.next x false/\aa.dst=some d/\aa.guard=none/\aP st x=some (.iter b)/\Nat.blt d n=true:=by
 unfold wR at h
 split at h
 case h_2=>cases h
 rename_i x d' o af O
 split at h
 case h_2=>cases h
 rename_i Y U W
 cases h
 exact⟨x,o,af,O,U,W⟩
theorem wi(O:br E cx){aa:Oper}{d b:Nat}{k v:ag}{left last:List (k.el×v.el)}(az:wR E.n st aa=some (d,b))(U:look st.ad b=some (.cp k v left last))(W:left=[])
  (Y:(st.put d (.dP [⟨.bool,false⟩])).norm (cR st'.ab) (cR st'.ad) (cR st'.rw)=some st')(h:bK cx ops Q l st'):bK cx ops Q (aa::l) st:=by
 obtain⟨x,Z,af,la,lc,ld⟩:=Kd az
 rintro T w ⟨m,o⟩
 obtain⟨u,w',aA,h1,lf,lg⟩:=Ik (T:=T) o Z lc U W (orc:=[]) (ob:=[])
 refine wpList_step fun K lh=>?_
 have li:eK ops st aa=some true:=by unfold eK;rw[la]
 rw[iT ⟨m,o⟩ li]
 simp only[if_true]
 refine gT h1 ?_
 refine lh _ _ ?_
 rw[af]
 exact h _ _ ⟨aA,(lf.put (by rw[O.n];exact cG ld) lg).norm Y⟩
theorem yI(U:br E cx){aa:Oper}{d b:Nat}{k v:ag}{left last:List (k.el×v.el)}{p:k.el×v.el}(az:wR E.n st aa=some (d,b))(W:look st.ad b=some (.cp k v left last))(O:left=[p])
  (Y:((st.db b (.cp k v [] [p])).put d (.dP [⟨.bool,true⟩,⟨k,p.1⟩,⟨v,p.2⟩])).norm (cR st'.ab) (cR st'.ad) (cR st'.rw)=some st')(h:bK cx ops Q l st'):bK cx ops Q (aa::l) st:=by
 obtain⟨x,Z,af,la,lc,ld⟩:=Kd az
 refine UV U.n Z af ld la lc W (by rw[O];simp) fun j q o=>?_
 rw[O]at o⊢
 match j,o with
 |0,o=>
  simp at o
  subst o
  rintro T w ⟨m,lf⟩
  exact h T w ⟨m,lf.norm Y⟩
end Go.Ev
namespace Go.Ev
open Go Go.RowKit
variable [b6]
variable {cx:bB} {m:Nat->Value} {st st':ae} {T:Array Value} {w:World} {E:Env} {Q:cX} {ops:Array Oper} {l:List Oper}
def B5(st:ae)(aa:Oper)(n r:Nat)(c:cw):Option ae:=
 match aa.dst with
 |none=>some (st.setRow r c)
 |some d=>match Nat.blt d n with
  |true=>some ((st.setRow r c).put d .any)
  |false=>none
theorem Qj(la:br E cx){f e:Nat}{t:ag}{rel:List t.el->List t.el->Prop}(lj:wS E.P E.G f e t rel)(xs W:List t.el)(lk:rel xs W){aa:Oper}(r:Nat)
  (ll:eK ops st aa=some true)(o:CN st aa f=some r)(lm:look st.rw r=some ⟨e,t,xs⟩)(U:B5 st aa E.n r ⟨e,t,W⟩=some st')(h:bK cx ops Q l st'):bK cx ops Q (aa::l) st:=by
 rintro T w ⟨m,O⟩
 refine wpList_step fun K lf=>?_
 rw[iT ⟨m,O⟩ ll]
 simp only[if_true]
 unfold CN at o
 split at o
 case h_2=>cases o
 rename_i c ln
 split at o
 case h_2=>cases o
 rename_i lo a lp lq
 split at o
 case h_2=>cases o
 rename_i lg lI lr lt
 cases Y:Nat.beq lg f with
 |false=>rw[Y]at o;cases o
 |true=>
 rw[Y]at o
 cases o
 have lu:=Nat.eq_of_beq_eq_true Y
 subst lu
 have lv:Act.eval ⟨T,[]⟩ lo=.func (.func lg) #[] (([]:List Nat).map m).toArray:=aW O lr
 have lw:Act.eval ⟨T,[]⟩ a=m r:=aW O lt
 have Z:=aX lm
 obtain⟨cells,lx,lJ,ly⟩:=O.rows r _ Z
 have lc:=lj
 rw[<-la.P]at lc
 have lz:=lc.calls w (ap cx m st.ids) (m r) xs W cells (la.tq w O.frame) lk lx ly
 unfold Oper.wp
 rw[yY ln lp lv lc.enters w,lq]
 simp only[List.map_cons,List.map_nil,List.append_nil,lw]
 refine lz.mono ?_
 rintro x w' ⟨u,lK,rfl,lA,hk,lB,lC⟩
 show K (Act.put ⟨T,[]⟩ aa.dst u) w'
 have lD:r∈st.ids:=List.mem_append.2 (.inr (List.mem_map.2 ⟨_,Z,rfl⟩))
 have lh:Touch m w r w':=⟨lA,fun b Y lE=>hk b Y fun e=>lE (hq e)⟩
 obtain⟨lF,_⟩:=o0 Z O.keys ⟨e,t,W⟩
 obtain⟨lG,lH⟩:=am.ic (cx:=cx) lD lh lF
 have li:am cx m (st.setRow r ⟨e,t,W⟩) T w':=O.setRow Z lh lB (dx (fun _ _=>cB lG lH t) lC)
 unfold B5 at U
 split at U
 ·rename_i af
  rw[af]
  cases U
  exact lf _ _ (h _ _ ⟨m,li⟩)
 ·rename_i d af
  split at U
  ·rename_i ld
   rw[af]
   have ld:d<cx.n:=by rw[la.n];exact cG ld
   cases U
   exact lf _ _ (h _ _ ⟨m,li.put ld (s:=.any) trivial⟩)
  ·cases U
def ghost(P:Program)(st:ae)(aa:Oper)(i j:Nat):Option ae:=
 match aa.op with
 |.call c=>match c.argTypes.toList[i]? with
  |some t=>match ed P t with
   |some (e,_)=>match pL P e,jr j st.ids with
    |some k,false=>some (st.dO [j] [(j,.bj e k [] none)] [] (ak.dQ [j]))
    |_,_=>none
   |none=>none
  |none=>none
 |_=>none
def pv:Value:=.tuple #[.slice none 0 0]
theorem N3(h:am cx m st T w){P:Program}{aa:Oper}{i j:Nat}(O:ghost P st aa i j=some st'):am cx (bo m j pv) st' T w:=by
 unfold ghost at O
 split at O
 case h_2=>cases O
 split at O
 case h_2=>cases O
 split at O
 case h_2=>cases O
 split at O
 case h_2=>cases O
 rename_i e _ _ _ _ k lc hk
 cases O
 have X:iZ cx m (bo m j pv) st w w [j] [(j,.bj e k [] none)] []:={
  same:=⟨rfl,rfl,rfl,Nat.le_refl _,fun _=>Nat.le_refl _⟩
  block:=fun _ _ _=>rfl
  old:=fun b _ o=>cN _ _ fun e=>o (by simp[e])
  new:=fun b o g O=>by
   have:b=j:=by simpa using o
   subst this
   rw[b9]at O
   obtain⟨u,W,Y⟩:=O
   have:u=.slice none 0 0:=by simpa[pv]using W
   subst this
   cases Y
  apart:=fun a b Z o ld=>by
   have:a=j:=by simpa using Z
   have:b=j:=by simpa using o
   omega
  keys:=by simp
  pB:=fun b o _=>by
   have:b=j:=by simpa using o
   simp[this]
  pj:=fun b c o h1=>by simp at o;rw[o.2]at h1;cases h1
  ew:=fun r c U=>by cases U}
 refine h.dO X (fun M v s la=>pz (fun b o=>cN _ _ fun e=>o (by simp[e])) la) (fun b c o=>?_) (fun r c U=>by cases U)
 simp only[List.mem_cons,Prod.mk.injEq,List.not_mem_nil,or_false]at o
 obtain⟨rfl,rfl⟩:=o
 rw[b9]
 exact⟨0,⟨_,[],rfl⟩,.slice none 0 0,[],[],rfl,World.ownsRow_nil w 0 e k.u.cells,⟨rfl,rfl⟩,(show([]:List Nat).Nodup from List.nodup_nil)⟩
def wG(P:Program)(st:ae)(i j:Nat):Nat->List TypeId->List Operand->Option (List ak)
 |_,[],[]=>some []
 |n,t::o,x::xs=>match(match Nat.beq n i,x with
   |true,.const (.slice none 0 0)=>some (ak.osl j)
   |_,_=>zj P st t x),wG P st i j (n+1) o xs with
  |some v,some vs=>some (v::vs)
  |_,_=>none
 |_,_,_=>none
theorem G9(h:am cx m st T w){i j:Nat}(U:m j=pv):∀{n:Nat} {W:List TypeId} {xs:List Operand} {O:List ak},wG cx.P st i j n W xs=some O->cA w (ap cx m st.ids) m (xs.map (Act.eval ⟨T,[]⟩)) O
 |_,[],[],_,o=>by cases o;trivial
 |_,[],_::_,_,o=>by cases o
 |_,_::_,[],_,o=>by cases o
 |n,t::W,x::xs,O,o=>by
  unfold wG at o
  split at o
  ·rename_i v Z h1 Y
   cases o
   refine⟨?_,G9 h U Y⟩
   split at h1
   ·cases h1
    exact⟨[],U⟩
   ·exact HL h h1
  ·cases o
def Ex(E:Env)(st:ae)(aa:Oper)(n f:Nat)(ρ:List (Nat×Nat))(i j:Nat):Option ae:=
 match aa.op with
 |.call c=>match c.callee with
  |.value x=>match aP st x with
   |some (.clos O o)=>match Nat.beq O f,uM st o,wG E.P st i j 0 c.argTypes.toList c.args.toList with
    |true,true,some U=>ki st n ρ (U++o.map fun b=>ak.ptr b 0)
    |_,_,_=>none
   |_=>none
  |_=>none
 |_=>none
theorem Sv(W:br E cx){α β:Type}{F:cJ α β}{f:Nat}(ll:cF E.P E.G f F)(x:α)(y:β)(lm:F.rel x y){aa:Oper}{ρ ρ':List (Nat×Nat)}{n i j:Nat}{la:ae}(ln:F.n=n)(lo:ghost E.P la aa i j=some st)
  (lp:eK ops la aa=some true)(o:Ex E st aa n f ρ i j=some (F.S x))(O:kG st (F.be x y) aa n E.n ρ ρ' (F.ar x y)=some st')(h:bK cx ops Q l st'):bK cx ops Q (aa::l) la:=by
 subst ln
 rintro T w ⟨m0,lf⟩
 refine wpList_step fun K lg=>?_
 rw[iT ⟨m0,lf⟩ lp]
 simp only[if_true]
 have U:=N3 lf lo
 have lh:bo m0 j pv j=pv:=b9 _ _ _
 generalize bo m0 j pv=m at U lh
 have lc:=ll
 rw[<-W.P]at lc
 have lq:∀(Y:List ak) (vs:List Value),ki st F.n ρ Y=some (F.S x)->cA w (ap cx m st.ids) m vs Y->(execOp (Act.eval ⟨T,[]⟩) aa).run cx.P w=.ok (.enter f vs.toArray) w->aa.wp cx.P ⟨T,[]⟩ w K Q:=by
  intro Y vs o li lr
  have lt:=HQ U o li
  obtain⟨lu,lv⟩:=FV o
  have lw:=mx li
  have lx:(F.S x).ab.length=Y.length:=Lx o
  have ly:=lc.calls (sub cx m st w F.n ρ) rfl rfl (fun w' Z=>W.tq w' (L9 U Z)) x y lm _ w (by rw[lx];exact lw) ⟨_,lt⟩
  unfold Oper.wp
  rw[lr]
  refine ly.mono ?_
  rintro e w' ⟨v,aA,lJ,rfl,h1,lz⟩
  unfold kG at O
  split at O
  case h_2=>cases O
  rename_i st1 s lj lA
  rw[<-W.n]at lj
  obtain⟨m2,lk,lB⟩:=Lr U lu lv h1 lj
  show K (Act.put ⟨T,[]⟩ aa.dst v) w'
  split at O
  ·rename_i af
   rw[af]
   cases O
   exact lg _ _ (h _ _ ⟨m2,lk⟩)
  ·rename_i d af
   split at O
   ·rename_i ld
    rw[af]
    have ld:d<cx.n:=by rw[W.n];exact cG ld
    cases O
    exact lg _ _ (h _ _ ⟨m2,lk.put ld (lB v s (Lg lA lz))⟩)
   ·cases O
 unfold Ex at o
 split at o
 case h_2=>cases o
 rename_i c lC
 split at o
 case h_2=>cases o
 rename_i lD lE
 split at o
 case h_2=>cases o
 rename_i lF bN lG
 split at o
 case h_2=>cases o
 rename_i Y Z lH has
 have Z:=Nat.eq_of_beq_eq_true Z
 subst Z
 rw[<-W.P]at has
 have lI:Act.eval ⟨T,[]⟩ lD=.func (.func lF) #[] (bN.map m).toArray:=aW U lG
 exact lq _ _ o (mT (G9 U lh has) (xl U lH)) (yY lC lE lI lc.enters w)
end Go.Ev
namespace Go.Ev
open Go Go.RowKit
variable [b6]
section
variable {P:Program}
def Calm{α:Type}(P:Program)(s:Sem α):Prop:=∀w x o,s.run P w=.ok x o->o=w/\∀w',s.run P w'=.ok x w'
theorem Calm.pure{α:Type}(x:α):Calm P (Pure.pure x:Sem α):=fun w y o h=>by cases h;exact⟨rfl,fun _=>rfl⟩
theorem Calm.bind{α β:Type}{s:Sem α}{f:α->Sem β}(U:Calm P s)(W:∀x,Calm P (f x)):Calm P (s>>=f):=fun w y Y h=>by
 rw[Sem.run_bind]at h
 cases o:s.run P w with
 |halt e O=>rw[o]at h;cases h
 |ok x O=>
  rw[o]at h
  obtain⟨rfl,h1⟩:=U w x O o
  obtain⟨rfl,Z⟩:=W x _ y Y h
  exact⟨rfl,fun w'=>by rw[Sem.run_bind,h1 w'];exact Z w'⟩
theorem Calm.stuck{α:Type}(s:String):Calm P (stuck s:Sem α):=fun w y o h=>by cases h
theorem Calm.LN{α:Type}(s:Unsupported):Calm P (unsupported s:Sem α):=fun w y o h=>by cases h
theorem Calm.program:Calm P program:=fun w y o h=>by cases h;exact⟨rfl,fun _=>rfl⟩
theorem Calm.never{α:Type}{s:Sem α}(h:∀w x o,s.run P w≠.ok x o):Calm P s:=fun w x o e=>absurd e (h w x o)
theorem pP{α β:Type}{s:Sem α}{f:α->Sem β}(U:∀x w y o,(f x).run P w≠.ok y o):∀w y o,(s>>=f).run P w≠.ok y o:=fun w y o h=>by
 rw[Sem.run_bind]at h
 cases O:s.run P w with
 |halt e W=>rw[O]at h;cases h
 |ok x W=>rw[O]at h;exact U _ _ _ _ h
theorem jF{α:Type}(e:RuntimeError):∀w (x:α) o,(runtimePanic e:Sem α).run P w≠.ok x o:=by
 unfold runtimePanic
 refine pP fun p=>?_
 cases e<;>simp only
 case typeAssertion=>exact pP fun _=>pP fun _ w x o h=>by cases h
 case panicNil=>exact pP fun _=>pP fun _ w x o h=>by cases h
 all_goals exact fun w x o h=>by cases h
theorem Calm.panic{α:Type}(e:RuntimeError):Calm P (runtimePanic e:Sem α):=.never (jF e)
theorem Calm.bounds{α:Type}(k:IntKind)(x y:Int)(c:BoundsCode):Calm P (boundsPanic k x y c:Sem α):=.never (by
 unfold boundsPanic
 dsimp only
 split
 ·exact pP fun _=>jF _
 ·exact pP fun _=>jF _)
theorem Calm.underlying(t:TypeId):Calm P (underlying t):=Calm.program.bind fun p=>by
 split
 ·exact .pure _
 ·exact .stuck _
theorem Calm.typeInfo(t:TypeId):Calm P (typeInfo t):=Calm.program.bind fun p=>by
 split
 ·exact .pure _
 ·exact .stuck _
theorem Calm.sizeOf(t:TypeId):Calm P (sizeOf t):=by
 unfold Go.sizeOf
 first
 |exact Calm.bind (.typeInfo t) fun _=>.pure _
 |exact Calm.bind .program fun _=>.pure _
theorem Calm.asBool(v:Value):Calm P (asBool v):=by
 unfold Go.asBool
 split
 ·exact .pure _
 ·exact .stuck _
theorem Calm.asIntOf(v:Value):Calm P (asIntOf v):=by
 unfold Go.asIntOf
 split
 ·exact .pure _
 ·exact .LN _
 ·exact .stuck _
theorem Calm.sureAddr(v:Value):Calm P (Instr.sureAddr v):=by
 unfold Instr.sureAddr
 split
 ·exact .pure _
 ·exact .stuck _
theorem Calm.indexAt(t:TypeId)(x i:Value):Calm P (Instr.indexAt t x i):=by
 unfold Instr.indexAt
 refine Calm.bind (.asIntOf i) fun p=>?_
 refine Calm.bind (.underlying t) fun d=>?_
 have key:∀q:Option Addr×Nat×TypeId,Calm P (match q with
   |(base,len,o)=>do
    let O<-Go.underlying t
    have U:Bool:=decide (len<=1)&&match O with
      |TypeDesc.array len o=>true
      |x=>false
    match base with
     |some a=>
      if 0<=p.snd/\p.snd<↑len then do
       let O<-Go.sizeOf o
       Pure.pure (Value.pointer (some (a.add (p.snd.toNat*O))))
      else
       if U=true then
        unsupported (Unsupported.noEntry "op/indexAddr.an index out of range at an array of length 0 or 1 (ledger 616)")
       else boundsPanic p.fst p.snd (↑len) BoundsCode.index
     |none=>boundsPanic p.fst p.snd 0 BoundsCode.index):=by
  rintro⟨base,len,o⟩
  refine Calm.bind (.underlying t) fun d2=>?_
  dsimp only
  generalize (decide (len<=1)&&match d2 with
      |TypeDesc.array len o=>true
      |x=>false)=U
  cases base with
  |some a=>
   dsimp only
   split
   ·exact Calm.bind (.sizeOf _) fun _=>.pure _
   ·split
    ·exact .LN _
    ·exact .bounds _ _ _ _
  |none=>exact .bounds _ _ _ _
 dsimp only
 split
 ·exact Calm.bind (.sureAddr _) fun _=>Calm.bind (.pure _) key
 ·exact Calm.bind (.pure _) key
 ·exact Calm.bind (.stuck _) key
theorem Uv(v:Value):(∃a,v=.pointer (some a))\/∃s,Instr.sureAddr v=stuck s:=by
 unfold Instr.sureAddr
 split
 ·exact .inl ⟨_,rfl⟩
 ·exact .inr ⟨_,rfl⟩
theorem Calm.fieldAt{s:TypeId}{f off:Nat}{u:ag}(h:fieldInfo P s f=some (off,u))(v:Value):Calm P (Instr.fieldAt s v f):=by
 rcases Uv v with ⟨a,rfl⟩|⟨m,o⟩
 ·intro w x O e
  rw[nW h]at e
  cases e
  exact⟨rfl,fun w'=>nW h a w'⟩
 ·unfold Instr.fieldAt
  refine Calm.bind (.underlying s) fun d=>?_
  split
  ·split
   ·rw[o]
    exact fun w x O e=>by cases e
   ·exact .stuck _
  ·exact .stuck _
theorem MY{x y:Value}{w O:World}{k:IntKind}{n:Int}(h:(Builtin.min2 x y).run P w=.ok (.int k n) O):∃m,x=.int k m/\O=w/\∀w',(Builtin.min2 x y).run P w'=.ok (.int k n) w':=by
 unfold Builtin.min2 at h⊢
 split at h
 ·cases h
  exact⟨_,rfl,rfl,fun _=>rfl⟩
 ·split at h
  ·rw[Sem.run_bind]at h
   generalize Sem.run P (choose _) w=r at h
   cases r with
   |ok a o=>cases h
   |halt e o=>cases h
  ·cases h
  ·cases h
  ·cases h
 ·rename_i a b
  rw[Sem.run_bind]at h
  generalize Sem.run P (Op.stringOp _ a b) w=r at h
  cases r with
  |halt e o=>cases h
  |ok a o=>
   rw[Result.andThen_ok,Sem.run_bind]at h
   generalize Sem.run P (asBool a) o=r at h
   cases r with
   |halt e o=>cases h
   |ok a o=>cases h
 ·cases h
 ·cases h
 ·cases h
theorem H0:∀(rest:List Value) (x:Value) (w o:World) (k:IntKind) (n:Int),(rest.foldlM Builtin.min2 x).run P w=.ok (.int k n) o->(∃m,x=.int k m)/\o=w/\∀w',(rest.foldlM Builtin.min2 x).run P w'=.ok (.int k n) w'
 |[],x,w,o,k,n,h=>by
  rw[List.foldlM_nil]at h⊢
  cases h
  exact⟨⟨_,rfl⟩,rfl,fun _=>rfl⟩
 |y::rest,x,w,o,k,n,h=>by
  rw[List.foldlM_cons,Sem.run_bind]at h
  cases O:(Builtin.min2 x y).run P w with
  |halt e U=>rw[O]at h;cases h
  |ok z U=>
   rw[O]at h
   obtain⟨⟨m,rfl⟩,W,Y⟩:=H0 rest z U o k n h
   obtain⟨aA,rfl,Z,la⟩:=MY O
   exact⟨⟨_,rfl⟩,W.trans Z,fun w'=>by rw[List.foldlM_cons,Sem.run_bind,la w'];exact Y w'⟩
def iA(aa:Oper):Bool:=match aa.op with
 |.move _=>true
 |.assign _=>true
 |.nilCheck _=>true
 |.fieldAddr _ _ _=>true
 |.indexAddr _ _ _=>true
 |.call {callee:=.builtin .min,.. }=>true
 |.binOp _ _ _ _ _=>true
 |_=>false
def Uh:ak->Bool
 |.ptr _ _=>true
 |.vptr _ _=>true
 |.dV _ _ _ _=>true
 |.dE _ _=>true
 |.dW _ _ _ _=>true
 |.fD _ _ _ _ _=>true
 |_=>false
def Lw:ak->Bool
 |.val (.int _) _=>true
 |_=>false
def tP(P:Program)(aa:Oper)(s:ak):Bool:=match aa.op with
 |.nilCheck _=>Uh s
 |.fieldAddr t _ f=>(fieldInfo P t f).isSome
 |.call _=>iA aa&&Lw s
 |.binOp _ _ _ _ _=>false
 |_=>iA aa
theorem Fh{aa:Oper}(h:iA aa=true){ρ:Operand->Value}{w W:World}{n:Next}(o:(execOp ρ aa).run P w=.ok n W):∃v,n=.value v:=by
 have key:∀(s:Sem Value),(do Pure.pure (Next.value (<-s)):Sem Next).run P w=.ok n W->∃v,n=.value v:=fun s h=>by
  rw[Sem.run_bind]at h
  cases o:s.run P w with
  |halt e U=>rw[o]at h;cases h
  |ok v U=>rw[o]at h;cases h;exact⟨v,rfl⟩
 unfold iA at h
 split at h
 ·rename_i x O;simp only[execOp,O]at o;cases o;exact⟨_,rfl⟩
 ·rename_i x O;simp only[execOp,O]at o;cases o;exact⟨_,rfl⟩
 ·rename_i x O
  simp only[execOp,O]at o
  split at o
  ·exact absurd o (jF _ _ _ _)
  ·exact absurd o (jF _ _ _ _)
  ·exact absurd o (jF _ _ _ _)
  ·split at o
   ·exact absurd o (jF _ _ _ _)
   ·rw[Sem.run_bind]at o
    rw[run_program,Result.andThen_ok,Sem.run_bind]at o
    generalize Sem.run P (nilAhead _ _ _ _) w=q at o
    cases q with
    |halt e U=>cases o
    |ok a U=>
     rw[Result.andThen_ok]at o
     split at o
     ·rw[Sem.run_bind]at o;cases o
     ·cases o;exact⟨_,rfl⟩
   ·cases o;exact⟨_,rfl⟩
  ·cases o;exact⟨_,rfl⟩
 ·rename_i t x f O;simp only[execOp,O]at o;exact key _ o
 ·rename_i t x i O;simp only[execOp,O]at o;exact key _ o
 ·rename_i args Y O
  simp only[execOp,O]at o
  exact key (Builtin.min_ _ _ _) o
 ·rename_i Z t x y u O;simp only[execOp,O]at o;exact key _ o
 ·cases h
theorem Nb{aa:Oper}{s:ak}(h:tP P aa s=true){ρ:Operand->Value}{w ld W:World}{v:Value}{M:Nat->Prop}{m:Nat->Value}(o:(execOp ρ aa).run P w=.ok (.value v) ld)(U:aQ W M m v s):
  iA aa=true/\∀w',(execOp ρ aa).run P w'=.ok (.value v) w':=by
 have key:∀(s:Sem Value),Calm P s->execOp ρ aa=(do Pure.pure (Next.value (<-s)))->∀w',(execOp ρ aa).run P w'=.ok (.value v) w':=fun s lf Y=>by
  rw[Y]at o⊢
  exact(Calm.bind lf (fun v=>Calm.pure (Next.value v)) _ _ _ o).2
 unfold tP at h
 split at h
 ·rename_i x O
  refine⟨by unfold iA;rw[O],?_⟩
  have lg:∃a,v=.pointer (some a):=by
   cases s<;>first|(cases h;done)|skip
   all_goals unfold aQ at U
   ·obtain⟨g,_,rfl⟩:=U;exact⟨_,rfl⟩
   ·obtain⟨g,_,rfl,_⟩:=U;exact⟨_,rfl⟩
   ·obtain⟨g,_,_,_,rfl⟩:=U;exact⟨_,rfl⟩
   ·obtain⟨g,_,rfl⟩:=U;exact⟨_,rfl⟩
   ·obtain⟨g,_,_,_,_,rfl⟩:=U;exact⟨_,rfl⟩
   ·obtain⟨_,_,g,_,_,_,_,rfl⟩:=U;exact⟨_,rfl⟩
  obtain⟨a,rfl⟩:=lg
  have e:ρ x=.pointer (some a):=by
   simp only[execOp,O]at o
   generalize ρ x=y at o
   split at o
   ·exact absurd o (jF _ _ _ _)
   ·exact absurd o (jF _ _ _ _)
   ·exact absurd o (jF _ _ _ _)
   ·split at o
    ·exact absurd o (jF _ _ _ _)
    ·rw[Sem.run_bind]at o
     rw[run_program,Result.andThen_ok,Sem.run_bind]at o
     generalize Sem.run P (nilAhead _ _ _ _) w=q at o
     cases q with
     |halt e W=>cases o
     |ok a W=>
      rw[Result.andThen_ok]at o
      split at o
      ·rw[Sem.run_bind]at o;cases o
      ·cases o
    ·cases o
   ·cases o;rfl
  intro w'
  simp only[execOp,O,e]
  rfl
 ·rename_i t x f O
  refine⟨by unfold iA;rw[O],?_⟩
  cases la:fieldInfo P t f with
  |none=>rw[la]at h;cases h
  |some p=>exact key (Instr.fieldAt t (ρ x) f) (Calm.fieldAt la _) (by simp only[execOp,O])
 ·rename_i c O
  simp only[Bool.and_eq_true]at h
  refine⟨h.1,?_⟩
  have h1:=h.1
  unfold iA at h1
  rw[O]at h1
  split at h1
  all_goals first|(rename_i e;cases e;done)|skip
  ·rename_i args lc e
   cases e
   have lh:∃k n,v=.int k n:=by
    have Z:=h.2
    unfold Lw at Z
    split at Z
    ·rename_i k n
     exact⟨k,n,cZ.1 U⟩
    ·cases Z
   obtain⟨k,n,rfl⟩:=lh
   have Y:execOp ρ aa=(do Pure.pure (Next.value (<-Builtin.min_ lc aa.type (args.map ρ)))):=by simp only[execOp,O];rfl
   rw[Y]at o⊢
   rw[Sem.run_bind]at o
   unfold Builtin.min_ at o⊢
   split at o
   ·cases o
   ·rename_i x rest ln
    cases az:Sem.run P (List.foldlM Builtin.min2 x rest) w with
    |halt e W=>rw[az]at o;cases o
    |ok z W=>
     rw[az]at o
     cases o
     intro w'
     rw[Sem.run_bind,(H0 rest x _ _ _ _ az).2.2 w']
     rfl
  ·cases h1
 ·cases h
 ·rename_i li lj lk ll
  refine⟨h,?_⟩
  unfold iA at h
  split at h
  ·rename_i x O;exact key (Pure.pure (ρ x)) (.pure _) (by simp only[execOp,O];rfl)
  ·rename_i x O;exact key (Pure.pure (ρ x)) (.pure _) (by simp only[execOp,O];rfl)
  ·rename_i x O;exact absurd O (li x)
  ·rename_i t x f O;exact absurd O (lj t x f)
  ·rename_i t x i O;exact key (Instr.indexAt t (ρ x) (ρ i)) (.indexAt _ _ _) (by simp only[execOp,O])
  ·rename_i args lc O;exact absurd O (lk _)
  ·rename_i lm t x y u O;exact absurd O (ll lm t x y u)
  ·cases h
end
section
variable {P:Program} {ops:Array Oper} {md:Region.Mode}
def bx(ops:Array Oper):List Nat->List Oper
 |[]=>[]
 |i::is=>match ops[i]? with
  |some aa=>aa::bx ops is
  |none=>bx ops is
def fC(md:Region.Mode)(ops:Array Oper)(K:Array Bool->Bool):List Nat->Array Bool->Bool
 |[],done=>K done
 |i::is,done=>(Region.ready md ops done).contains i&&Region.free md ops done i&&fC md ops K is (done.setIfInBounds i true)
def xp(ops:Array Oper):List Nat->Bool
 |[]=>true
 |i::is=>(match ops[i]? with
  |some aa=>iA aa
  |none=>false)&&xp ops is
def fR(md:Region.Mode)(ops:Array Oper):List Nat->Array Bool->Bool
 |[],done=>(Region.ready md ops done).isEmpty
 |i::is,done=>decide (Region.ready md ops done=[i])&&fR md ops is (done.setIfInBounds i true)
def KF(md:Region.Mode)(ops:Array Oper)(done:Array Bool):Bool:=
 (List.range ops.size).all fun j=>!done.getD j false||(match ops[j]? with
  |some aa=>aa.after.all fun e=>!Region.binds md e||done.getD e.on false
  |none=>true)
def Mx(md:Region.Mode)(ops:Array Oper)(B:List Nat):List Nat:=B.filter fun i=>!(B.any fun j=>Nat.blt i j&&Region.waitsFor md ops j i)
def xH(md:Region.Mode)(ops:Array Oper)(done:Array Bool)(B:List Nat):Bool:=
 (List.range ops.size).all fun t=>done.getD t false||gI t B||(match ops[t]? with
  |some aa=>(aa.after.any fun e=>Region.binds md e&&(!gI e.on B&&!done.getD e.on true))||(Mx md ops B).all fun i=>Region.waitsFor md ops t i
  |none=>true)
def mU(md:Region.Mode)(ops:Array Oper)(o B U:List Nat)(O:Array Bool->Bool):Bool:=
 Region.noSelect ops&&xp ops o&&(U.all fun i=>!gI i B)&&fC md ops (fun d=>match B.reverse with
  |[]=>O d
  |_::_=>KF md ops d&&xH md ops d B&&fC md ops O B d) o (Array.replicate ops.size false)
def Ao(md:Region.Mode)(ops:Array Oper)(o B C:List Nat):Bool:=mU md ops o B C (fR md ops C)
theorem VM{g:Nat}{Q:Exit->Act->World->Prop}{K:Act->Prop}{ld:Array Bool->Bool}{w:World}(lf:Region.noSelect ops=true)(lg:∀c a w,¬Q (.panic c) a w)(lk:∀done a,ld done=true->K a->wpAny P md ops Q g done a w):
  ∀(O:List Nat) (done:Array Bool) (a:Act),xp ops O=true->fC md ops ld O done=true->wpQuiet P ops (fun _=>True) K (bx ops O) a->wpAny P md ops Q (O.length+g) done a w:=by
 intro O
 induction O with
 |nil=>intro done a _ o h;rw[List.length_nil,Nat.zero_add];exact lk _ _ o h
 |cons i is lh=>
  intro done a U o h
  unfold xp at U
  unfold fC at o
  simp only[Bool.and_eq_true]at U o
  obtain⟨⟨li,lj⟩,o⟩:=o
  obtain⟨Z,U⟩:=U
  unfold bx at h
  split at Z
  ·rename_i aa W
   rw[W]at h
   rw[List.length_cons,Nat.succ_add]
   by_cases Y:Region.wanted aa (yielded ops a.tmps)=true
   ·unfold wpQuiet at h
    rw[if_pos Y]at h
    obtain⟨v,az,ll⟩:=h
    refine wpAny_first W (Region.noSelect_spec lf) (fun c a w la=>absurd la (lg _ _ _)) (is.length+g) done a w (Region.free_spec W lj) (by simpa using li) (v:=v) (.inl ⟨Y,fun w'=>?_⟩) (lh _ _ U o ll)
    have:=az w' trivial
    unfold Oper.quietAt at this
    cases lc:(execOp a.eval aa).run P w' with
    |halt e lm=>rw[lc]at this;exact this.elim
    |ok n lm=>
     obtain⟨u,rfl⟩:=Fh Z lc
     rw[lc]at this
     obtain⟨rfl,rfl⟩:=this
     rfl
   ·unfold wpQuiet at h
    rw[if_neg Y]at h
    exact wpAny_first W (Region.noSelect_spec lf) (fun c a w la=>absurd la (lg _ _ _)) (is.length+g) done a w (Region.free_spec W lj) (by simpa using li) (v:=undef) (.inr ⟨by simpa using Y,rfl⟩) (lh _ _ U o h)
  ·cases Z
def sN(P:Program)(md:Region.Mode)(ops:Array Oper)(C:World->Prop)(B:List Nat)(L:Array Bool->Act->Prop):Nat->Array Bool->Act->Prop
 |0,done,a=>L done a
 |f+1,done,a=>Region.ready md ops done≠[]/\∀i,i∈Region.ready md ops done->i∈B/\qOp P ops C i (sN P md ops C B L f (done.setIfInBounds i true)) a
variable {C:World->Prop}
theorem WW{B:List Nat}{g:Nat}{L:Array Bool->Act->Prop}{Q':Exit->Act->World->Prop}(O:∀done a w,C w->L done a->wpAny P md ops Q' g done a w):
  ∀(f:Nat) (done:Array Bool) (a:Act) (w:World),C w->sN P md ops C B L f done a->wpAny P md ops Q' (f+g) done a w:=by
 intro f
 induction f with
 |zero=>intro done a w o h;rw[Nat.zero_add];exact O _ _ _ o h
 |succ f U=>
  intro done a w o h
  rw[Nat.succ_add]
  exact⟨fun W=>absurd W h.1,fun i Y=>wpOp_of_qOp o (fun Z w' la h'=>U _ Z w' la h') (h.2 i Y).2⟩
structure pK(md:Region.Mode)(ops:Array Oper)(O:Array Bool)(B:List Nat)(done:Array Bool):Prop where
 size:done.size=ops.size
 closed:∀j o,ops[j]? =some o->done.getD j false=true->∀e∈o.after,Region.binds md e=true->done.getD e.on false=true
 rest:∀t,t∉B->O.getD t true=false->done.getD t true=false
theorem pK.set{o done:Array Bool}{B:List Nat}{i:Nat}(inv:pK md ops o B done)(ld:i∈Region.ready md ops done)(lf:i∈B):pK md ops o B (done.setIfInBounds i true):=by
 obtain⟨_,lg,lh,li⟩:=mem_ready.1 ld
 refine⟨by simp[inv.size],fun j O U W e Y Z=>?_,fun t la lj=>by rw[getD_set_ne true (fun h=>la (by subst h;exact lf))];exact inv.rest t la lj⟩
 by_cases lc:i=j
 ·subst lc
  have:O=lg:=Option.some.inj (U.symm.trans lh)
  subst this
  exact getD_set_true (li e Y Z)
 ·rw[getD_set_ne false lc]at W
  exact getD_set_true (inv.closed j O U W e Y Z)
theorem gate{W done:Array Bool}{B:List Nat}(ll:xH md ops W B=true)(lm:∀t,W.getD t false=true->done.getD t false=true)(inv:pK md ops W B done):
  ∀(d i:Nat),ops.size-i=d->i∈B->done.getD i true=false->∀t,t∈Region.ready md ops done->t∈B:=by
 intro d
 induction d using Nat.strongRecOn with
 |_ d ln=>
  intro i af lo lc t ld
  obtain⟨lp,lq,Y,lf⟩:=mem_ready.1 ld
  by_cases lg:t∈B
  ·exact lg
  by_cases lh:(B.any fun j=>Nat.blt i j&&Region.waitsFor md ops j i)=true
  ·obtain⟨j,lr,o⟩:=List.any_eq_true.1 lh
   simp only[Bool.and_eq_true]at o
   obtain⟨li,lt⟩:=o
   have li:=cG li
   obtain⟨lu,lj,e,O,Z,la⟩:=Region.waitsFor_spec lt
   have lv:j<ops.size:=(Array.getElem?_eq_some_iff.1 lj).1
   have lw:j<done.size:=by rw[inv.size];exact lv
   cases lk:done.getD j false with
   |true=>
    have o:=inv.closed j lu lj lk e O Z
    rw[la,getD_both lc]at o
    cases o
   |false=>exact ln (ops.size-j) (by omega) j rfl lr (getD_in lw lk) t ld
  ·have lx:i∈Mx md ops B:=List.mem_filter.2 ⟨lo,by simpa using lh⟩
   have ly:t<ops.size:=(Array.getElem?_eq_some_iff.1 Y).1
   have h1:=List.all_eq_true.1 ll t (List.mem_range.2 ly)
   rw[Y]at h1
   simp only[Bool.or_eq_true]at h1
   rcases h1 with (h1|h1)|h1|h1
   ·have:=lm t h1
    rw[getD_both lp]at this
    cases this
   ·exact absurd (s6.1 h1) lg
   ·obtain⟨e,O,o⟩:=Array.any_eq_true'.1 h1
    simp only[Bool.and_eq_true,Bool.not_eq_true']at o
    have U:=lf e O o.1
    have lz:=inv.rest e.on (fun h=>by have:=o.2.1;rw[s6.2 h]at this;cases this) o.2.2
    rw[getD_both lz]at U
    cases U
   ·have o:=List.all_eq_true.1 h1 i lx
    obtain⟨lA,lB,e,O,Z,la⟩:=Region.waitsFor_spec o
    have:lA=lq:=Option.some.inj (lB.symm.trans Y)
    subst this
    have U:=lf e O Z
    rw[la,getD_both lc]at U
    cases U
theorem Tu{lf:Array Bool}{B:List Nat}{i:Nat}{aa:Oper}{v:Value}{L:Array Bool->Act->Prop}(lg:ops[i]? =some aa)(lj:∀(j:Nat) (aa:Oper) W b,ops[j]? =some aa->aa.op≠.select W b)
  (lk:xH md ops lf B=true)(ll:i∈B)(lp:∀done a,L done a->∀j,j∈Region.ready md ops done->j∉B):
  ∀(f:Nat) (done:Array Bool) (a:Act),(∀t,lf.getD t false=true->done.getD t false=true)->pK md ops lf B done->
   (∀j U,ops[j]? =some U->j≠i->done.getD j true=false->(∀e∈U.after,Region.binds md e=true->e.on≠i)->aa.apart ops U=true)->
   i∈Region.ready md ops done->YieldsIn P ops C aa v a->sN P md ops C B L f (done.setIfInBounds i true) (a.put aa.dst v)->sN P md ops C B L (f+1) done a:=by
 intro f
 induction f with
 |zero=>
  intro done a la inv _ o lc Y
  have ld:=(mem_ready.1 o).1
  refine⟨fun lh=>(by rw[lh]at o;cases o),fun j O=>?_⟩
  have Z:j∈B:=gate lk la inv _ i rfl ll ld j O
  refine⟨Z,?_⟩
  by_cases e:j=i
  ·subst e;exact lc.qOp lg Y
  ·exact absurd Z (lp _ _ Y j (ready_mono O e))
 |succ f lq=>
  intro done a la inv lm o lc Y
  have ld:=(mem_ready.1 o).1
  refine⟨fun lh=>(by rw[lh]at o;cases o),fun j O=>?_⟩
  have Z:j∈B:=gate lk la inv _ i rfl ll ld j O
  refine⟨Z,?_⟩
  by_cases e:j=i
  ·subst e;exact lc.qOp lg Y
  obtain⟨ln,U,li,lr⟩:=mem_ready.1 O
  have lt:=lm j U li e ln fun d af lu az=>by
   have h1:=lr d af lu
   rw[az,getD_both ld]at h1
   cases h1
  refine qOp_mono (fun lv lo=>lq (done.setIfInBounds j true) lv (fun t lw=>getD_set_true (la t lw)) (inv.set O Z) (fun k ok hk lx ly lz=>lm k ok hk lx ?_ lz) (ready_mono o (Ne.symm e)) lo.1 ?_)
   (qOp_put li lt (fun W b=>lj i aa W b lg) (fun W b=>lj j U W b li) lc (Y.2 j (ready_mono O e)).2)
  ·by_cases q:j=k
   ·subst q;exact ln
   ·rwa [getD_set_ne true q]at ly
  ·rw[Array.setIfInBounds_comm _ _ e];exact lo.2
theorem Wv{C:List Nat}{done:Array Bool}(h:fR md ops C done=true){j:Nat}(o:j∈Region.ready md ops done):j∈C:=by
 cases C with
 |nil=>simp only[fR,List.isEmpty_iff]at h;rw[h]at o;cases o
 |cons i is=>
  simp only[fR,Bool.and_eq_true,decide_eq_true_eq]at h
  rw[h.1]at o
  cases o with
  |head=>exact List.mem_cons_self
  |tail _ h=>cases h
theorem Pg{U:Array Bool}{B:List Nat}{W:Array Bool->Bool}{Y:Act->Prop}(lg:Region.noSelect ops=true)(lh:xH md ops U B=true)(li:∀d j,W d=true->j∈Region.ready md ops d->j∉B):
  ∀(l:List Nat) (done:Array Bool) (a:Act),(∀i∈l,i∈B)->(∀t,U.getD t false=true->done.getD t false=true)->pK md ops U B done->fC md ops W l done=true->
   wpQuiet P ops C Y (bx ops l) a->sN P md ops C B (fun d la=>W d=true/\Y la) l.length done a:=by
 intro l
 induction l with
 |nil=>intro done a _ _ _ o h;exact⟨o,h⟩
 |cons i l lj=>
  intro done a lc ld inv o h
  unfold fC at o
  simp only[Bool.and_eq_true]at o
  obtain⟨⟨lk,ll⟩,o⟩:=o
  have Z:i∈Region.ready md ops done:=by simpa using lk
  obtain⟨_,aa,O,_⟩:=mem_ready.1 Z
  unfold bx at h
  rw[O]at h
  obtain⟨v,lm,ln⟩:=yieldsIn_of_qOp (K:=wpQuiet P ops C Y (bx ops l)) O (by unfold qOp;rw[O];exact h)
  have lf:=lc i List.mem_cons_self
  exact Tu O (Region.noSelect_spec lg) lh lf (fun d la lo j lp=>li d j lo.1 lp) l.length done a ld inv (Region.free_spec O ll) Z lm
   (lj _ _ (fun k hk=>lc k (List.mem_cons_of_mem _ hk)) (fun t lq=>getD_set_true (ld t lq)) (inv.set Z lf) o ln)
theorem sI{Q':Exit->Act->World->Prop}:∀(l:List Nat) (done:Array Bool) (a:Act) (w:World),fR md ops l done=true->wpList P ops Q' (bx ops l) a w->wpAny P md ops Q' l.length done a w
 |[],_,_,_,o,h=>⟨by simpa[fR]using o,h⟩
 |i::l,done,a,w,o,h=>by
  simp only[fR,Bool.and_eq_true,decide_eq_true_eq]at o
  have U:i∈Region.ready md ops done:=by rw[o.1];exact List.mem_cons_self
  obtain⟨_,aa,O,_⟩:=mem_ready.1 U
  unfold bx at h
  rw[O]at h
  refine⟨fun h1=>(by rw[o.1]at h1;cases h1),fun k hk=>?_⟩
  rw[o.1]at hk
  have W:k=i:=by simpa using hk
  subst W
  have Y:wpOp P ops Q' k (wpList P ops Q' (bx ops l)) a w:=by unfold wpOp;simp only[O];exact h
  exact wpOp_mono (fun Z w' h'=>sI l _ Z w' o.2 h') Y
theorem MV{done:Array Bool}(h:KF md ops done=true):∀j O,ops[j]? =some O->done.getD j false=true->∀e∈O.after,Region.binds md e=true->done.getD e.on false=true:=by
 intro j O U af e W Y
 have h1:=List.all_eq_true.1 h j (List.mem_range.2 (Array.getElem?_eq_some_iff.1 U).1)
 rw[U]at h1
 simp only[Bool.or_eq_true,Bool.not_eq_true']at h1
 rcases h1 with h1|h1
 ·rw[af]at h1;cases h1
 ·have o:=Array.all_eq_true_iff_forall_mem.1 h1 e W
  simp only[Bool.or_eq_true,Bool.not_eq_true']at o
  rcases o with o|o
  ·rw[Y]at o;cases o
  ·exact o
theorem He{O:Array Bool->Bool}{n:Nat}:∀(l:List Nat) (done:Array Bool),done.size=n->fC md ops O l done=true->fC md ops (fun d=>O d&&decide (d.size=n)) l done=true
 |[],d,U,o=>by
  show(O d&&decide (d.size=n))=true
  rw[show O d=true from o,decide_eq_true U];rfl
 |i::l,d,U,o=>by
  unfold fC at o⊢
  simp only[Bool.and_eq_true]at o⊢
  exact⟨o.1,He l _ (by simpa using U) o.2⟩
theorem xM{id g:Nat}{Q:Exit->Act->World->Prop}{a:Act}{w:World}{l:List Oper}(O B lc:List Nat)(Y:Array Bool->Bool)(W:Act->World->Prop)(lj:P.follows .mixedOrders=true)(Z:mU .any l.toArray O B lc Y=true)
  (lk:∀d j,Y d=true->j∈Region.ready .any l.toArray d->j∈lc)(ll:∀e a w,Q e a w->e=.normal)(ld:∀d a w,Y d=true->W a w->wpAny P .any l.toArray Q g d a w)(lm:O.length+(B.length+g)=l.length)
  (lf:C {w with drawn:=w.drawn+1})
  (h:wpQuiet P l.toArray (fun _=>True) (wpQuiet P l.toArray C (fun U=>∀w',C w'->W U w') (bx l.toArray B)) (bx l.toArray O) a):
  (Code.region id l.toArray true).wp P Q a w:=by
 unfold mU at Z
 simp only[Bool.and_eq_true]at Z
 obtain⟨⟨⟨lg,ln⟩,lo⟩,lp⟩:=Z
 have lq:∀d j,Y d=true->j∈Region.ready .any l.toArray d->j∉B:=fun d j af lr o=>by
  have:=List.all_eq_true.1 lo j (lk d j af lr)
  rw[s6.2 o]at this
  cases this
 have lt:=He (n:=l.toArray.size) O _ (by simp) lp
 have R:=VM (g:=B.length+g) (Q:=Q) lg (fun c a w h=>Exit.noConfusion (ll _ _ _ h)) (w:={w with drawn:=w.drawn+1}) (K:=wpQuiet P l.toArray C (fun U=>∀w',C w'->W U w') (bx l.toArray B)) (fun done a hk lh=>?_) O _ a ln lt h
 ·rw[lm]at R
  refine wp_region_any lj ?_
  simpa using R
 ·simp only[Bool.and_eq_true,decide_eq_true_eq]at hk
  obtain⟨hk,lu⟩:=hk
  split at hk
  ·rename_i o
   have o:B=[]:=by simpa using o
   subst o
   rw[List.length_nil,Nat.zero_add]
   exact ld done a _ hk (lh _ lf)
  ·rename_i s r o
   simp only[Bool.and_eq_true]at hk
   obtain⟨⟨h1,lv⟩,lw⟩:=hk
   have inv:pK .any l.toArray done B done:=⟨lu,MV h1,fun t _ la=>la⟩
   exact WW (fun d U w' lx li=>ld d U w' li.1 (li.2 w' lx)) _ _ _ _ lf (Pg lg lv lq B done a (fun i ly=>ly) (fun t la=>la) inv lw lh)
def dB(Q:Exit->Act->World->Prop):Exit->Act->World->Prop:=fun e a w=>e=.normal/\Q .normal a w
theorem Ti{id:Nat}{Q:Exit->Act->World->Prop}{a:Act}{w:World}{l:List Oper}(O B o:List Nat)(U:P.follows .mixedOrders=true)(W:Ao .any l.toArray O B o=true)(Y:O.length+(B.length+o.length)=l.length)
  (Z:C {w with drawn:=w.drawn+1})
  (h:wpQuiet P l.toArray (fun _=>True) (wpQuiet P l.toArray C (fun la=>∀w',C w'->wpList P l.toArray (dB Q) (bx l.toArray o) la w') (bx l.toArray B)) (bx l.toArray O) a):
  (Code.region id l.toArray true).wp P Q a w:=
 Code.wp_mono (Q:=dB Q) (fun e a w h=>by obtain⟨rfl,h⟩:=h;exact h)
  (xM O B o (fR .any l.toArray o) _ U W (fun d j af lc=>Wv af lc) (fun e a w h=>h.1) (fun d a w af ld=>sI o d a w af ld) Y Z h)
/-! One that may come up behind others that leave what it reads. -/
def jw(P:Program)(ops:Array Oper)(Q:Exit->Act->World->Prop)(aa:Oper)(d:Nat)(O:List Nat):List Nat->Act->World->Prop
 |[],a,w=>wpList P ops Q (bx ops O) a w
 |c::U,a,w=>wpOp P ops Q c (fun o w'=>(execOp o.eval aa).run P w'=.ok (.value (o.tmps.getD d undef)) w'/\jw P ops Q aa d O U o w') a w
def nh(md:Region.Mode)(ops:Array Oper)(i:Nat)(o:List Nat):List Nat->Array Bool->Bool
 |[],done=>decide (Region.ready md ops done=[i])&&fR md ops o (done.setIfInBounds i true)
 |c::O,done=>((Region.ready md ops done).all fun j=>Nat.beq j i||Nat.beq j c)&&(Region.ready md ops done).contains i&&Region.free md ops done i&&fR md ops (c::O++o) (done.setIfInBounds i true)&&nh md ops i o O (done.setIfInBounds c true)
theorem JI{Q:Exit->Act->World->Prop}{aa:Oper}{d:Nat}{U:List Nat}:∀(O:List Nat) (done:Array Bool) (a:Act) (w:World),fR md ops (O++U) done=true->jw P ops Q aa d U O a w->wpAny P md ops Q (O.length+U.length) done a w
 |[],done,a,w,o,h=>by rw[List.length_nil,Nat.zero_add];exact sI U done a w o h
 |c::O,done,a,w,o,h=>by
  simp only[List.cons_append,fR,Bool.and_eq_true,decide_eq_true_eq]at o
  rw[List.length_cons,Nat.succ_add]
  refine⟨fun h1=>(by rw[o.1]at h1;cases h1),fun k hk=>?_⟩
  rw[o.1]at hk
  have W:k=c:=by simpa using hk
  subst W
  exact wpOp_mono (fun Y w' h'=>JI O _ Y w' o.2 h'.2) h
structure jO(aa:Oper)(a o:Act):Prop where
 exec:execOp o.eval aa=execOp a.eval aa
 size:o.tmps.size=a.tmps.size
theorem jO.put{o:Oper}{a:Act}{dst:Option Nat}{u:Value}(O:∀U b,o.op≠.select U b)(W:∀d,dst=some d->d∉o.looksAt ops):jO o a (a.put dst u):=
 ⟨execOp_put o O a dst u W,by cases dst<;>simp[Act.put]⟩
theorem jO.trans{o:Oper}{a b c:Act}(h:jO o a b)(k:jO o b c):jO o a c:=⟨k.exec.trans h.exec,k.size.trans h.size⟩
theorem O6{Q Q':Exit->Act->World->Prop}{j:Nat}{o O:Oper}{v:Value}(li:ops[j]? =some O)(lj:o.apart ops O=true)
  (ld:∀Z b,o.op≠.select Z b)(lk:∀Z b,O.op≠.select Z b)(la:∀e a w,Q e a w->e=.normal){K:Act->World->Prop}{a:Act}{w:World}(h:wpOp P ops Q j K (a.put o.dst v) w):
  wpOp P ops Q' j (fun lf w'=>jO o a lf/\K (lf.put o.dst v) w') a w:=by
 obtain⟨h1,U,lg⟩:=Oper.apart_spec lj
 have W:∀u,jO o a (a.put O.dst u):=fun u=>jO.put ld lg
 have lh:¬LetsOut Q:=fun⟨a,w,h⟩=>Exit.noConfusion (la _ _ _ h)
 unfold wpOp at*
 simp only[li]at*
 rw[wanted_put O a o.dst v h1]at h
 split
 ·rename_i lc
  simp only[lc,if_true]at h
  rcases h with h|⟨_,ll⟩
  case inr=>exact absurd ll lh
  refine .inl ?_
  unfold Oper.wp at*
  rw[execOp_put O lk a o.dst v h1]at h
  generalize (execOp a.eval O).run P w=r at*
  cases r with
  |ok n w'=>
   cases n<;>simp only[Oper.upon]at h⊢
   case value u=>exact⟨W u,by rw[<-Act.put_comm a v u U];exact h⟩
   case skip=>exact⟨W _,by rw[<-Act.put_comm a v undef U];exact h⟩
   case defer d=>
    refine⟨jO.trans (b:={a with defers:=d::a.defers}) ⟨rfl,rfl⟩ (jO.put ld lg),?_⟩
    rw[<-Act.put_comm _ v undef U,<-Act.put_defers]
    exact h
   case enter f args=>
    refine Calls.mono h fun e lm Y=>?_
    cases e with
    |returned u=>exact⟨W u,by rw[<-Act.put_comm a v u U];exact Y⟩
    |panicked c=>cases la _ _ _ Y
    |outgrown=>exact absurd Y lh
   case row row args=>exact Rows.mono h fun u lm Y=>⟨W u,by rw[<-Act.put_comm a v u U];exact Y⟩
  |halt x w'=>
   cases x<;>simp only[Oper.upon]at h⊢
   case panic u=>cases la _ _ _ h
 ·rename_i lc
  simp only[lc]at h
  exact⟨W _,by rw[<-Act.put_comm a v undef U];exact h⟩
theorem Rm{Q:Exit->Act->World->Prop}{i d:Nat}{aa:Oper}{v:Value}{U:List Nat}(la:ops[i]? =some aa)(af:aa.dst=some d)(ln:aa.guard=none)(lo:d∉aa.looksAt ops)(lg:Region.noSelect ops=true)(lp:∀e a w,Q e a w->e=.normal):
  ∀(o:List Nat) (done:Array Bool) (a:Act) (w:World),nh md ops i U o done=true->d<a.tmps.size->(execOp a.eval aa).run P w=.ok (.value v) w->jw P ops Q aa d U o (a.put aa.dst v) w->
   wpAny P md ops Q (o.length+U.length+1) done a w:=by
 have lh:∀(done:Array Bool) (a:Act) (w:World) (o:List Nat),(execOp a.eval aa).run P w=.ok (.value v) w->fR md ops (o++U) (done.setIfInBounds i true)=true->jw P ops Q aa d U o (a.put aa.dst v) w->
   wpOp P ops Q i (wpAny P md ops Q (o.length+U.length) (done.setIfInBounds i true)) a w:=fun done a w o W O h=>by
  unfold wpOp
  simp only[la]
  have lq:Region.wanted aa (yielded ops a.tmps)=true:=by unfold Region.wanted;rw[ln]
  rw[if_pos lq]
  refine .inl ?_
  unfold Oper.wp
  rw[W]
  exact JI o _ _ _ O h
 intro o
 induction o with
 |nil=>
  intro done a w O li W h
  simp only[nh,Bool.and_eq_true,decide_eq_true_eq]at O
  refine⟨fun h1=>(by rw[O.1]at h1;cases h1),fun k hk=>?_⟩
  rw[O.1]at hk
  have Y:k=i:=by simpa using hk
  subst Y
  exact lh done a w [] W O.2 h
 |cons c o lr=>
  intro done a w O li W h
  simp only[nh,Bool.and_eq_true]at O
  obtain⟨⟨⟨⟨lt,lu⟩,lv⟩,lw⟩,O⟩:=O
  have lc:i∈Region.ready md ops done:=by simpa using lu
  refine⟨fun h1=>(by rw[h1]at lc;cases lc),fun k hk=>?_⟩
  by_cases Y:k=i
  ·subst Y
   exact lh done a w (c::o) W lw h
  ·have:=List.all_eq_true.1 lt k hk
   rw[Bool.or_eq_true]at this
   have lx:k=c:=by
    rcases this with h1|h1
    ·exact absurd (Nat.eq_of_beq_eq_true h1) Y
    ·exact Nat.eq_of_beq_eq_true h1
   subst lx
   obtain⟨ly,ok,ld,lz⟩:=mem_ready.1 hk
   have lA:aa.apart ops ok=true:=Region.free_spec la lv k ok ld Y ly fun e lB lC lD=>by
    have h1:=lz e lB lC
    rw[lD,getD_both (mem_ready.1 lc).1]at h1
    cases h1
   have lj:∀Z b,aa.op≠.select Z b:=fun Z b=>Region.noSelect_spec lg i aa Z b la
   rw[show(k::o).length+U.length=(o.length+U.length)+1 by simp only[List.length_cons];omega]
   refine wpOp_mono (fun lf w' h'=>?_) (O6 (Q':=Q) ld lA lj (fun Z b=>Region.noSelect_spec lg k ok Z b ld) lp h)
   obtain⟨lE,lk,lF⟩:=h'
   have ll:d<lf.tmps.size:=by rw[lE.size];exact li
   refine lr _ lf w' O ll ?_ lF
   rw[execOp_put aa lj lf aa.dst v (fun x lm=>by rw[af]at lm;cases lm;exact lo)]at lk
   rw[lk,af]
   simp[Act.put,ll]
def qw(md:Region.Mode)(ops:Array Oper)(U B:List Nat)(i:Nat)(o O:List Nat):Bool:=mU md ops U B (i::o++O) (nh md ops i O o)
theorem Ny{i:Nat}{o U:List Nat}{done:Array Bool}(h:nh md ops i U o done=true){j:Nat}(O:j∈Region.ready md ops done):j∈i::o++U:=by
 cases o with
 |nil=>
  simp only[nh,Bool.and_eq_true,decide_eq_true_eq]at h
  rw[h.1]at O
  have:j=i:=by simpa using O
  subst this
  simp
 |cons c o=>
  simp only[nh,Bool.and_eq_true]at h
  have:=List.all_eq_true.1 h.1.1.1.1 j O
  rw[Bool.or_eq_true]at this
  rcases this with h1|h1
  ·rw[Nat.eq_of_beq_eq_true h1];simp
  ·rw[Nat.eq_of_beq_eq_true h1];simp
theorem M8{id:Nat}{Q:Exit->Act->World->Prop}{a:Act}{w:World}{l:List Oper}(U B:List Nat)(i:Nat)(o O:List Nat){aa:Oper}{d:Nat}(Z:P.follows .mixedOrders=true)(W:qw .any l.toArray U B i o O=true)
  (la:U.length+(B.length+(o.length+O.length+1))=l.length)(lc:l[i]? =some aa)(af:aa.dst=some d)(ld:aa.guard=none)(lf:(aa.looksAt l.toArray).contains d=false)
  (lg:C {w with drawn:=w.drawn+1})
  (h:wpQuiet P l.toArray (fun _=>True) (wpQuiet P l.toArray C (fun Y=>∀w',C w'->d<Y.tmps.size/\∃v,(execOp Y.eval aa).run P w'=.ok (.value v) w'/\jw P l.toArray (dB Q) aa d O o (Y.put aa.dst v) w') (bx l.toArray B)) (bx l.toArray U) a):
  (Code.region id l.toArray true).wp P Q a w:=by
 have lh:Region.noSelect l.toArray=true:=by
  unfold qw mU at W
  simp only[Bool.and_eq_true]at W
  exact W.1.1.1
 exact Code.wp_mono (Q:=dB Q) (fun e a w h=>by obtain⟨rfl,h⟩:=h;exact h)
  (xM U B (i::o++O) (nh .any l.toArray i O o) _ Z W (fun d j af li=>Ny af li) (fun e a w h=>h.1)
   (fun d' a w lj lk=>by
    obtain⟨ll,v,lm,ln⟩:=lk
    exact Rm (by simpa using lc) af ld (by simpa using lf) lh (fun e a w h=>h.1) o d' a w lj ll lm ln) la lg h)
end
end Go.Ev
namespace Go.Ev
open Go Go.RowKit
variable [b6]
variable {cx:bB} {m:Nat->Value} {st st':ae} {T:Array Value} {w w':World} {E:Env} {Q:cX} {ops:Array Oper} {l:List Oper}
def tz(aa:Oper):Bool:=match aa.op with
 |.binOp _ _ _ _ _=>true
 |_=>false
def vR(P:Program)(aa:Oper)(s:ak):Bool:=tz aa||tP P aa s
theorem Nd(h:am cx m st T w){aa:Oper}{orc:List aj}{r:dG}(O:tz aa=true)(o:dD cx.P st aa.op orc=some r)(Z:bJ r.ob):
  ∃v,(∀w',(execOp (Act.eval ⟨T,[]⟩) aa).run cx.P w'=.ok (.value v) w')/\aQ w (ap cx m st.ids) m v r.aJ:=by
 unfold tz at O
 split at O
 case h_2=>cases O
 rename_i lf t x y lg U
 rw[U]at o
 simp only[dD]at o
 split at o
 ·rename_i a b la lc
  split at o
  ·rename_i r ob W
   cases o
   obtain⟨v,h1,Y⟩:=AV (ox:=x) (oy:=y) (df h la) (df h lc) W Z
   exact⟨v,fun w'=>ct (by simp only[execOp,U]) (h1 w'),Y _ _⟩
  ·split at o
   ·rename_i r ob W
    cases o
    obtain⟨v,h1,Y⟩:=JW (ox:=x) (oy:=y) (df h la) (df h lc) (fun ld=>by subst ld;rfl) W Z
    exact⟨v,fun w'=>ct (by simp only[execOp,U]) (h1 w'),Y _ _⟩
   ·cases o
 ·cases o
theorem WO(Z:br E cx)(h:am cx m st T w){aa:Oper}{orc:List aj}{r:dG}(O:gd E st aa orc=some r)(lc:bJ r.ob)(la:vR E.P aa r.aJ=true):
  ∃v,(∀w',(execOp (Act.eval ⟨T,[]⟩) aa).run cx.P w'=.ok (.value v) w')/\aQ w (ap cx m st.ids) m v r.aJ:=by
 cases U:tz aa with
 |true=>
  have lg:dD cx.P st aa.op orc=some r:=by
   unfold gd at O
   rw[<-Z.P]at O
   cases ld:dD cx.P st aa.op orc with
   |some lj=>rw[ld]at O;simpa using O
   |none=>
    rw[ld]at O
    unfold tz at U
    split at U
    case h_2=>cases U
    rename_i W
    simp[rH,W]at O
  exact Nd h U lg lc
 |false=>
 have o:tP E.P aa r.aJ=true:=by unfold vR at la;rw[U]at la;simpa using la
 obtain⟨v,az,lf⟩:=B0 Z h O lc
 refine⟨v,?_,lf⟩
 rw[<-Z.P]at o
 have h1:=az w (Ext.refl w)
 unfold Oper.quietAt at h1
 have lh:iA aa=true:=by
  unfold tP at o
  split at o
  ·rename_i W;unfold iA;rw[W]
  ·rename_i W;unfold iA;rw[W]
  ·simp only[Bool.and_eq_true]at o;exact o.1
  ·cases o
  ·exact o
 cases Y:(execOp (Act.eval ⟨T,[]⟩) aa).run cx.P w with
 |halt e li=>rw[Y]at h1;exact h1.elim
 |ok n li=>
  obtain⟨u,rfl⟩:=Fh lh Y
  rw[Y]at h1
  obtain⟨rfl,rfl⟩:=h1
  exact(Nb o Y lf).2
def jf(E:Env)(ops:Array Oper):List Oper->ae->List aj->Option (ae×List aj×List Prop)
 |[],st,orc=>some (st,orc,[])
 |aa::l,st,orc=>match eK ops st aa with
  |some true=>match aa.dst,gd E st aa orc with
   |some d,some r=>match Nat.blt d E.n,vR E.P aa r.aJ,jf E ops l (st.put d r.aJ) r.orc with
    |true,true,some (st2,o,O)=>some (st2,o,r.ob++O)
    |_,_,_=>none
   |_,_=>none
  |some false=>match aa.dst with
   |some d=>match Nat.blt d E.n with
    |true=>jf E ops l (st.put d .undef) orc
    |false=>none
   |none=>jf E ops l st orc
  |none=>none
theorem uS(O:br E cx){Q':Act->Prop}:∀{l:List Oper} {st:ae} {T:Array Value} {orc orc':List aj} {st':ae} {ob:List Prop},R cx st T w->jf E ops l st orc=some (st',orc',ob)->bJ ob->
  (∀lc,R cx st' lc w->Q' ⟨lc,[]⟩)->wpQuiet cx.P ops (fun _=>True) Q' l ⟨T,[]⟩
 |[],st,T,_,_,_,_,h,o,_,U=>by
  cases o
  exact U T h
 |aa::l,st,T,orc,orc',st',ob,h,o,Y,U=>by
  unfold jf at o
  unfold wpQuiet
  split at o
  ·rename_i Z
   rw[iT h Z]
   simp only[if_true]
   split at o
   ·rename_i d r af ld
    split at o
    ·rename_i st2 lk ll la lf lg
     cases o
     obtain⟨lh,li⟩:=o5 Y
     obtain⟨m,W⟩:=h
     obtain⟨v,az,lj⟩:=WO O W ld lh lf
     refine⟨v,fun w' _=>by unfold Oper.quietAt;rw[az w'];exact⟨rfl,rfl⟩,?_⟩
     rw[af]
     exact uS O ⟨m,W.put (by rw[O.n];exact cG la) lj⟩ lg li U
    ·cases o
   ·cases o
  ·rename_i Z
   rw[iT h Z]
   simp only[Bool.false_eq_true,if_false]
   split at o
   ·rename_i d af
    split at o
    ·rename_i la
     obtain⟨m,W⟩:=h
     rw[af]
     exact uS O ⟨m,W.put (d:=d) (s:=.undef) (v:=undef) (by rw[O.n];exact cG la) rfl⟩ o Y U
    ·cases o
   ·rename_i af
    rw[af]
    exact uS O h o Y U
  ·cases o
theorem QO{id:Nat}{l:List Oper}(o B O:List Nat)(U:cx.P.follows .mixedOrders=true)(Y:Ao .any l.toArray o B O=true)(Z:o.length+(B.length+O.length)=l.length)
  (h:∀T w,R cx st T w->wpQuiet cx.P l.toArray (fun _=>True) (wpQuiet cx.P l.toArray (Ext w) (fun la=>∀w',Ext w w'->wpList cx.P l.toArray (dB Q) (bx l.toArray O) la w') (bx l.toArray B)) (bx l.toArray o) ⟨T,[]⟩):
  W cx Q (.region id l.toArray true) st:=by
 intro T w lc
 exact Ti (C:=Ext w) o B O U Y Z (Ext.refl w).drew (h T w lc)
/-! Quiet ones again behind those that come one by one. -/
section
variable {P:Program} {md:Region.Mode} {C:World->Prop}
def ul(md:Region.Mode)(ops:Array Oper)(K:Array Bool->Bool):List Nat->Array Bool->Bool
 |[],done=>K done
 |i::is,done=>decide (Region.ready md ops done=[i])&&ul md ops K is (done.setIfInBounds i true)
theorem AJ{Q Q':cX}{j:Nat}(o:∀e a w,Q e a w->e=.normal){K:Act->World->Prop}{a:Act}{w:World}(h:wpOp P ops Q j K a w):wpOp P ops Q' j K a w:=by
 have Y:¬LetsOut Q:=fun⟨a,w,h⟩=>Exit.noConfusion (o _ _ _ h)
 unfold wpOp at*
 split
 ·rename_i O;simp only[O]at h;exact h
 ·rename_i aa O
  simp only[O]at h
  split
  ·rename_i U
   simp only[U,if_true]at h
   rcases h with h|⟨_,Z⟩
   case inr=>exact absurd Z Y
   refine .inl ?_
   unfold Oper.wp at*
   generalize (execOp a.eval aa).run P w=r at*
   cases r with
   |ok n w'=>
    cases n<;>simp only[Oper.upon]at h⊢
    case value u=>exact h
    case skip=>exact h
    case defer d=>exact h
    case enter f args=>
     refine Calls.mono h fun e la W=>?_
     cases e with
     |returned u=>exact W
     |panicked c=>cases o _ _ _ W
     |outgrown=>exact absurd W Y
    case row row args=>exact h
   |halt x w'=>
    cases x<;>simp only[Oper.upon]at h⊢
    case panic u=>cases o _ _ _ h
  ·rename_i U
   simp only[U]at h
   exact h
theorem Ga{Q1 Q:cX}{g:Nat}{KD:Array Bool->Bool}(O:∀e a w,Q1 e a w->e=.normal)(U:∀d a w,KD d=true->Q1 .normal a w->wpAny P md ops Q g d a w):
  ∀(l:List Nat) (done:Array Bool) (a:Act) (w:World),ul md ops KD l done=true->wpList P ops Q1 (bx ops l) a w->wpAny P md ops Q (l.length+g) done a w
 |[],done,a,w,o,h=>by rw[List.length_nil,Nat.zero_add];exact U done a w o h
 |i::l,done,a,w,o,h=>by
  simp only[ul,Bool.and_eq_true,decide_eq_true_eq]at o
  have Y:i∈Region.ready md ops done:=by rw[o.1];exact List.mem_cons_self
  obtain⟨_,aa,W,_⟩:=mem_ready.1 Y
  unfold bx at h
  rw[W]at h
  rw[List.length_cons,Nat.succ_add]
  refine⟨fun h1=>(by rw[o.1]at h1;cases h1),fun k hk=>?_⟩
  rw[o.1]at hk
  have Z:k=i:=by simpa using hk
  subst Z
  have la:wpOp P ops Q1 k (wpList P ops Q1 (bx ops l)) a w:=by unfold wpOp;simp only[W];exact h
  exact wpOp_mono (fun lc w' h'=>Ga O U l _ lc w' o.2 h') (AJ O la)
theorem Gc{Q:Act->Prop}(U:Region.noSelect ops=true):∀(l:List Nat) (done:Array Bool) (a:Act),fC md ops (fun d=>(Region.ready md ops d).isEmpty) l done=true->wpQuiet P ops C Q (bx ops l) a->wpAnyQ P md ops C Q l.length done a
 |[],done,a,o,h=>⟨by simpa[fC]using o,h⟩
 |i::l,done,a,o,h=>by
  unfold fC at o
  simp only[Bool.and_eq_true]at o
  obtain⟨⟨Y,Z⟩,o⟩:=o
  have W:i∈Region.ready md ops done:=by simpa using Y
  obtain⟨_,aa,O,_⟩:=mem_ready.1 W
  unfold bx at h
  rw[O]at h
  obtain⟨v,la,lc⟩:=yieldsIn_of_qOp (K:=wpQuiet P ops C Q (bx ops l)) O (by unfold qOp;rw[O];exact h)
  exact wpAnyQ_first O (Region.noSelect_spec U) l.length done a (Region.free_spec O Z) W la (Gc U l _ _ o lc)
end
def DA(md:Region.Mode)(ops:Array Oper)(O B o U:List Nat):Bool:=!o.isEmpty&&mU md ops O B o (ul md ops (fC md ops (fun d=>(Region.ready md ops d).isEmpty) U) o)
def tg(cx:bB)(ops:Array Oper)(o:List Nat)(Q:cX):cX:=fun e a w=>e=.normal/\wpQuiet cx.P ops (Ext w) (fun O=>∀w',Ext w w'->dB Q .normal O w') (bx ops o) a
theorem PX{id:Nat}{l:List Oper}(Y B U O:List Nat)(la:cx.P.follows .mixedOrders=true)(o:DA .any l.toArray Y B U O=true)(lc:Y.length+(B.length+(U.length+O.length))=l.length)
  (h:∀T w,R cx st T w->wpQuiet cx.P l.toArray (fun _=>True) (wpQuiet cx.P l.toArray (Ext w) (fun ld=>∀w',Ext w w'->wpList cx.P l.toArray (tg cx l.toArray O Q) (bx l.toArray U) ld w') (bx l.toArray B)) (bx l.toArray Y) ⟨T,[]⟩):
  W cx Q (.region id l.toArray true) st:=by
 intro T w lf
 unfold DA at o
 rw[Bool.and_eq_true]at o
 obtain⟨lg,o⟩:=o
 have lh:Region.noSelect l.toArray=true:=by
  unfold mU at o
  simp only[Bool.and_eq_true]at o
  exact o.1.1.1
 refine Code.wp_mono (Q:=dB Q) (fun e a w h=>by obtain⟨rfl,h⟩:=h;exact h)
  (xM (C:=Ext w) Y B U _ _ la o (fun d j af Z=>?_) (fun e a w h=>h.1) (fun d a w af li=>?_) lc (Ext.refl w).drew (h T w lf))
 ·cases U with
  |nil=>simp at lg
  |cons i is=>
   simp only[ul,Bool.and_eq_true,decide_eq_true_eq]at af
   rw[af.1]at Z
   have:j=i:=by simpa using Z
   subst this
   exact List.mem_cons_self
 ·refine Ga (Q1:=tg cx l.toArray O Q) (KD:=fC .any l.toArray (fun d=>(Region.ready .any l.toArray d).isEmpty) O) (fun e a w h=>h.1) (fun d a w af h=>?_) U d a w af li
  exact wpAny_of_quiet (C:=Ext w) (fun a w' lj h=>h w' lj) O.length d a w (Ext.refl w) (Gc lh O d a af h.2)
def oT(cx:bB)(ops:Array Oper)(K:World->Act->Prop)(l:List Oper)(st:ae):Prop:=∀T w,R cx st T w->wpQuiet cx.P ops (fun _=>True) (K w) l ⟨T,[]⟩
theorem Nl{K:World->Act->Prop}(h:rM cx K st):oT cx ops K [] st:=fun T w o=>h T w o
theorem E7{K:World->Act->Prop}(o:br E cx){aa:Oper}{orc:List aj}{ob:List Prop}(O:jf E ops [aa] st orc=some (st',[],ob))(U:bJ ob)(h:oT cx ops K l st'):oT cx ops K (aa::l) st:=by
 intro T w W
 exact nx (P:=cx.P) (ops:=ops) (l1:=[aa]) (l2:=l) (C:=fun _=>True) (Q':=K w) (a:=⟨T,[]⟩) (uS o W O U fun Y Z=>h Y w Z)
theorem Qs{α:Type}{o:World->Act->Prop}(F:α->Prop)(S:α->ae)(n:Nat)(U:∀a,F a->oT cx ops o (l.drop n) (S a))
  (W:∀K,(∀a,F a->rM cx K (S a))->oT cx ops K (l.take n) st):oT cx ops o l st:=by
 intro T w O
 have:=nx (P:=cx.P) (ops:=ops) (l1:=l.take n) (l2:=l.drop n)
  (W (fun w=>wpQuiet cx.P ops (fun _=>True) (o w) (l.drop n)) (fun a Y T w O=>U a Y T w O) T w O)
 rwa [List.take_append_drop]at this
/-! One that floats past others. -/
def py:ak->Bool
 |.val t _=>t.flat
 |.ptr _ _=>true
 |.row _=>true
 |.osl _=>true
 |_=>false
theorem PK{w:World}{M:Nat->Prop}{m:Nat->Value}{v v':Value}{s:ak}(af:py s=true)(h:aQ w M m v s)(h':aQ w M m v' s):v=v':=by
 cases s<;>first|(cases af;done)|skip
 all_goals unfold aQ at h h'
 ·exact og af h h'
 ·obtain⟨g,O,rfl⟩:=h
  obtain⟨U,o,rfl⟩:=h'
  rw[O]at o
  injection o with o
  injection o with o
  injection o with o
  rw[o]
 ·rw[h,h']
 ·obtain⟨us,O⟩:=h
  obtain⟨W,o⟩:=h'
  rw[O]at o
  injection o with o
  have:=congrArg Array.toList o
  simp at this
  exact this.1
def iL(aa:Oper):Bool:=match aa.op with
 |.load _ _=>true
 |_=>false
theorem LH{P:Program}{aa:Oper}(h:iL aa=true){ρ:Operand->Value}{w O:World}{n:Next}(o:(execOp ρ aa).run P w=.ok n O):∃v,n=.value v:=by
 unfold iL at h
 split at h
 ·rename_i t x U
  simp only[execOp,U]at o
  rw[Sem.run_bind]at o
  generalize Sem.run P (Instr.loadAt t (ρ x)) w=q at o
  cases q with
  |halt e W=>cases o
  |ok v W=>cases o;exact⟨v,rfl⟩
 ·cases h
theorem Aw(O:br E cx)(h:am cx m st T w){aa:Oper}(U:iL aa=true){orc:List aj}{r:dG}(W:gd E st aa orc=some r)(Y:bJ r.ob):
  ∃v,(∀w',Ext w w'->(execOp (Act.eval ⟨T,[]⟩) aa).run cx.P w'=.ok (.value v) w')/\aQ w (ap cx m st.ids) m v r.aJ:=by
 obtain⟨v,az,Z⟩:=B0 O h W Y
 refine⟨v,fun w' la=>?_,Z⟩
 have h1:=az w' la
 unfold Oper.quietAt at h1
 cases o:(execOp (Act.eval ⟨T,[]⟩) aa).run cx.P w' with
 |halt e lc=>rw[o]at h1;exact h1.elim
 |ok n lc=>
  obtain⟨u,rfl⟩:=LH U o
  rw[o]at h1
  obtain⟨rfl,rfl⟩:=h1
  rfl
theorem E2(O:br E cx)(U:R cx st T w){aa:Oper}(W:iL aa=true){orc:List aj}{r:dG}(Y:gd E st aa orc=some r)(Z:bJ r.ob){d:Nat}(la:look st.ab d=some r.aJ)(af:py r.aJ=true):
  (execOp (Act.eval ⟨T,[]⟩) aa).run cx.P w=.ok (.value (T.getD d undef)) w:=by
 obtain⟨m,o⟩:=U
 obtain⟨v,h1,lc⟩:=Aw O o W Y Z
 obtain⟨u,ld,lf⟩:=o.cI d _ (aX la)
 have:=PK af lc lf
 subst this
 have e:T.getD d undef=v:=by simp[ld]
 rw[e]
 exact h1 w (Ext.refl w)
def jD(cx:bB)(ops:Array Oper)(aa:Oper)(d:Nat)(o O:List Nat)(Q:cX):cX:=fun e a w=>e=.normal/\(execOp a.eval aa).run cx.P w=.ok (.value (a.tmps.getD d undef)) w/\jw cx.P ops (dB Q) aa d o O a w
theorem C8{aa U:Oper}{d c:Nat}{o O:List Nat}(W:ops[c]? =some U)(h:bK cx ops (jD cx ops aa d o O Q) [U] st)(Y:R cx st T w):jw cx.P ops (dB Q) aa d o (c::O) ⟨T,[]⟩ w:=by
 have h1:=h T w Y
 refine wpOp_mono (K:=jD cx ops aa d o O Q .normal) (fun a w h=>h.2) (AJ (Q:=jD cx ops aa d o O Q) (fun e a w h=>h.1) ?_)
 unfold wpOp
 rw[W]
 exact h1
theorem TY(U:br E cx){aa:Oper}{d:Nat}{o:List Nat}(W:iL aa=true){orc:List aj}{r:dG}(Y:gd E st aa orc=some r)(Z:bJ r.ob)(la:look st.ab d=some r.aJ)(af:py r.aJ=true)
  (h:bK cx ops (dB Q) (bx ops o) st):N cx (jD cx ops aa d o [] Q) .normal st:=fun T w O=>⟨rfl,E2 U O W Y Z la af,h T w O⟩
theorem SI(Y:br E cx){aa o:Oper}{d c:Nat}{O U:List Nat}(Z:iL aa=true){orc:List aj}{r:dG}(la:gd E st aa orc=some r)(lc:bJ r.ob)(ld:look st.ab d=some r.aJ)(af:py r.aJ=true)
  (lf:ops[c]? =some o)(h:bK cx ops (jD cx ops aa d O U Q) [o] st):N cx (jD cx ops aa d O (c::U) Q) .normal st:=fun T w W=>⟨rfl,E2 Y W Z la lc ld af,C8 lf h W⟩
theorem Tr(h:N cx Q .normal st):N cx (dB Q) .normal st:=fun T w o=>⟨rfl,h T w o⟩
theorem Ge{id:Nat}{l:List Oper}(Z:br E cx)(o B:List Nat)(i:Nat)(O U:List Nat){aa:Oper}{d:Nat}(la:E.P.follows .mixedOrders=true)(lc:qw .any l.toArray o B i O U=true)
  (ld:o.length+(B.length+(O.length+U.length+1))=l.length)(lf:l[i]? =some aa)(af:aa.dst=some d)(lg:aa.guard=none)(lh:(aa.looksAt l.toArray).contains d=false)(lj:Nat.blt d E.n=true)
  (h:∀T w,R cx st T w->wpQuiet cx.P l.toArray (fun _=>True) (wpQuiet cx.P l.toArray (Ext w) (fun Y=>∀w',Ext w w'->d<Y.tmps.size/\∃v,(execOp Y.eval aa).run cx.P w'=.ok (.value v) w'/\jw cx.P l.toArray (dB Q) aa d U O (Y.put aa.dst v) w') (bx l.toArray B)) (bx l.toArray o) ⟨T,[]⟩):
  W cx Q (.region id l.toArray true) st:=by
 intro T w li
 exact M8 (C:=Ext w) o B i O U (by rw[Z.P];exact la) lc ld lf af lg lh (Ext.refl w).drew (h T w li)
def zw(E:Env)(ops:Array Oper)(O B:List Nat)(aa:Oper)(d:Nat)(st:ae)(orc orci:List aj)(U W ar:List Nat):Option (ae×List aj×List Prop):=
 match jf E ops (bx ops O) st orc with
 |some (Y,Z,la)=>match gB E ops (bx ops B) Y Z with
  |some (o,aT,lc)=>match gd E o aa orci with
   |some r=>match(o.put d r.aJ).norm U W ar with
    |some s=>some (s,aT++r.orc,la++(lc++r.ob))
    |none=>none
   |none=>none
  |none=>none
 |none=>none
theorem Qv{id:Nat}{l:List Oper}(O:br E cx)(U B:List Nat)(i c:Nat)(Y Z:List Nat)(lh li ar:List Nat){aa ld:Oper}{d:Nat}{orc orci:List aj}{ob:List Prop}(lj:E.P.follows .mixedOrders=true)(lk:qw .any l.toArray U B i (c::Y) Z=true)
  (ll:U.length+(B.length+((c::Y).length+Z.length+1))=l.length)(lm:l[i]? =some aa)(af:aa.dst=some d)(ln:aa.guard=none)(lo:(aa.looksAt l.toArray).contains d=false)(lf:Nat.blt d E.n=true)(lp:iL aa=true)(lq:l[c]? =some ld)
  (o:zw E l.toArray U B aa d st orc orci lh li ar=some (st',[],ob))(la:bJ ob)(h:bK cx l.toArray (jD cx l.toArray aa d Z Y Q) [ld] st'):W cx Q (.region id l.toArray true) st:=by
 unfold zw at o
 split at o
 case h_2=>cases o
 rename_i lF lG lH h1
 split at o
 case h_2=>cases o
 rename_i lI aT lJ lr
 split at o
 case h_2=>cases o
 rename_i r lt
 split at o
 case h_2=>cases o
 rename_i s lu
 simp only[Option.some.injEq,Prod.mk.injEq]at o
 obtain⟨rfl,lv,rfl⟩:=o
 obtain⟨rfl,_⟩:=List.append_eq_nil_iff.1 lv
 obtain⟨lw,la⟩:=o5 la
 obtain⟨lx,ly⟩:=o5 la
 have lg:d<cx.n:=by rw[O.n];exact cG lf
 refine Ge O U B i (c::Y) Z lj lk ll lm af ln lo lf fun T w lz=>?_
 refine uS O lz h1 lw fun lK lA=>?_
 refine oo O lA lr lx fun lL lB w' lC=>?_
 obtain⟨m,lc⟩:=lB.ext lC
 obtain⟨v,lD,lE⟩:=Aw O lc lp lt ly
 refine⟨by rw[lc.size];exact lg,v,lD w' (Ext.refl w'),?_⟩
 rw[af]
 exact C8 (by simpa using lq) h ⟨m,(lc.put lg lE).norm lu⟩
theorem Nw{id:Nat}{l:List Oper}(lc:br E cx)(o B:List Nat)(i c:Nat)(O U:List Nat)(Y Z ar:List Nat){aa la:Oper}{d:Nat}{orc orci:List aj}{ob:List Prop}(ld:l[i]? =some aa)(af:aa.dst=some d)(lf:l[c]? =some la)(lg:E.P.follows .mixedOrders=true)(lh:qw .any l.toArray o B i (c::O) U=true)
  (li:o.length+(B.length+((c::O).length+U.length+1))=l.length)(lj:aa.guard=none)(lk:(aa.looksAt l.toArray).contains d=false)(ll:Nat.blt d E.n=true)(lm:iL aa=true)
  (ln:(zw E l.toArray o B aa d st orc orci Y Z ar).map Prod.snd=some ([],ob))(lo:jv ob)(h:bK cx l.toArray (jD cx l.toArray aa d U O Q) [la] (tl (zw E l.toArray o B aa d st orc orci Y Z ar))):W cx Q (.region id l.toArray true) st:=
 Qv lc o B i c O U Y Z ar lg lh li ld af lj lk ll lm lf (yi ln) lo.all h
theorem QR(U:br E cx){aa:Oper}{d:Nat}{O:List Nat}{orc:List aj}{ob:List Prop}(W:iL aa=true)(Y:(gd E st aa orc).map dG.ob=some ob)(o:(gd E st aa orc).map dG.aJ=look st.ab d)(af:(look st.ab d).any py=true)(Z:jv ob)
  (h:bK cx ops (dB Q) (bx ops O) st):N cx (jD cx ops aa d O [] Q) .normal st:=by
 obtain⟨r,h1,la⟩:=Option.map_eq_some_iff.1 Y
 rw[h1]at o
 rw[<-o]at af
 exact TY U W h1 (la▸Z.all) o.symm af h
theorem QQ(Y:br E cx){aa O:Oper}{d c:Nat}{U W:List Nat}{orc:List aj}{ob:List Prop}(Z:iL aa=true)(la:(gd E st aa orc).map dG.ob=some ob)(o:(gd E st aa orc).map dG.aJ=look st.ab d)(af:(look st.ab d).any py=true)(lc:jv ob)
  (ld:ops[c]? =some O)(h:bK cx ops (jD cx ops aa d U W Q) [O] st):N cx (jD cx ops aa d U (c::W) Q) .normal st:=by
 obtain⟨r,h1,lf⟩:=Option.map_eq_some_iff.1 la
 rw[h1]at o
 rw[<-o]at af
 exact SI Y Z h1 (lf▸lc.all) o.symm af ld h
end Go.Ev
namespace Go.Ev
open Go Go.RowKit
variable [b6]
section
variable {P:Program} {w w':World} {M:Nat->Prop}
theorem Gn{α β:Type}{eq:α->α->Bool}{key:α}{x:β}:∀(ps:List (α×β)),bn eq ps key=none->eq key key=true->bn eq (ps++[(key,x)]) key=some x
 |[],_,h=>by simp[bn,h]
 |p::ps,o,h=>by
  unfold bn at o
  rw[List.cons_append]
  unfold bn
  cases O:eq key p.1 with
  |true=>rw[O]at o;simp at o
  |false=>rw[O]at o;simp at o⊢;exact Gn ps o h
theorem I8{α:Type}(f:α->α):∀(l:List α) (n:Nat) (e:α),l[n]? =some e->f e=e->l.modify n f=l
 |[],n,e,h,_=>by simp at h
 |x::l,0,e,h,o=>by
  simp at h
  subst h
  show f x::l=x::l
  rw[o]
 |x::l,n+1,e,h,o=>by
  rw[List.modify_succ_cons,I8 f l n e (by simpa using h) o]
theorem JV{α:Type}{f:α->α->Bool}(h:∀x,f x x=true):∀xs:List α,kK f xs xs=true
 |[]=>rfl
 |x::xs=>by simp only[kK,h x,JV h xs,Bool.and_self]
theorem R2:∀(t:ag) (x:t.el),t.flat=true->aD t x x=true:=by
 intro t
 induction t with
 |int k=>intro x _;exact beq_self_eq_true (α:=Int) x
 |bool=>intro x _;exact beq_self_eq_true (α:=Bool) x
 |str=>intro x _;exact beq_self_eq_true (α:=List UInt8) x
 |unit=>intro x _;rfl
 |pair a b o O=>
  intro x h
  simp only[ag.flat,Bool.and_eq_true]at h
  simp only[aD,o x.1 h.1,O x.2 h.2,Bool.and_self]
 |arr n t U=>intro x h;exact JV (fun y=>U y h) x
 |ab t _=>intro x h;cases h
 |ptr t _=>intro x h;cases h
 |fn f t _=>intro x h;cases h
 |err=>intro x h;cases h
 |cV=>intro x h;cases h
 |map k v _ _=>intro x h;cases h
theorem V3{mt Y lo:TypeId}{d d':Nat}{u v:ag}(Z:P.underlying mt=some (.map Y lo))(la:cD P d Y=some u)(lc:eD P d' Y=true)(af:d'<=10000)(li:u.flat=true)(ly:v.flat=true)
  {z:Value}(lj:∀w,(zeroValue lo).run P w=.ok z w)(ld:∀w M,a8 w M z v (cj v))
  {kv:Value}{key:u.el}(hk:a8 w M kv u key){g:Nat}{es:Array MapEntry}{clock:Nat}{ps:List (u.el×v.el)}
  (lf:w.heap[g]? =some (.map es clock))(o:dX (dL w M u) (dL w M v) es.toList ps)
  {t:Value}{lk:World}(O:(Instr.mapEntry mt (.map (some g)) kv).run P w=.ok t lk):
  ∃r,a8 w M r v ((bn (aD u) ps key).getD (cj v))/\(Instr.lookup mt (.map (some g)) kv false).run P w=.ok r w/\(Instr.lookup mt (.map (some g)) kv false).run P lk=.ok r lk:=by
 obtain⟨r,h1,lz⟩:=rm Z la lc af lj ld hk o
 have lp:=lz w (.map (some g)) (.inr ⟨g,clock,rfl,lf⟩) false
 simp only[Bool.false_eq_true,if_false]at lp
 refine⟨r,h1,lp,?_⟩
 have lq:=qk (P:=P) false d Y u la d' lc 10000 af w w M kv key hk
 have lg:=vV la lc af hk w o
 have lr:(getObj g).run P w=.ok (.map es clock) w:=by simp[getObj,Sem.run,lf]
 have lt:∀aa,(setObj g aa).run P w=.ok () {w with heap:=w.heap.setIfInBounds g aa}:=fun aa=>by simp[setObj,Sem.run,lf]
 have lA:=gD lf
 have fin:∀(U:Array MapEntry) (W:Nat) (ll:List (u.el×v.el)),dX (dL w M u) (dL w M v) U.toList ll->(bn (aD u) ll key).getD (cj v)=(bn (aD u) ps key).getD (cj v)->
   (Instr.lookup mt (.map (some g)) kv false).run P {w with heap:=w.heap.setIfInBounds g (.map U W)}=.ok r {w with heap:=w.heap.setIfInBounds g (.map U W)}:=by
  intro U W ll lB lC
  obtain⟨lL,lu,lD⟩:=rm Z la lc af lj ld hk lB
  have lv:=lD {w with heap:=w.heap.setIfInBounds g (.map U W)} (.map (some g)) (.inr ⟨g,W,rfl,by show(w.heap.setIfInBounds g _)[g]? =_;rw[Array.getElem?_setIfInBounds_self_of_lt lA]⟩) false
  simp only[Bool.false_eq_true,if_false]at lv
  rw[lC]at lu
  rw[og ly h1 lu]
  exact lv
 rcases wH (kv:=kv) (vv:=z) (val:=cj v) (eq:=aD u) (key:=key) hk (ld w M) es.toList ps 0 o with ⟨lh,lm⟩|⟨n,e,q,lh,lm,lE,lF,lM⟩
 ·rw[lh]at lg
  unfold Instr.mapEntry at O
  simp only[Sem.run_bind,run_underlying Z,Result.andThen_ok,lr,lq,lg,lt,lj,Sem.run_pure]at O
  cases O
  have lw:bn (aD u) ps key=none:=by
   rcases Dd (eq:=aD u) (key:=key) es.toList ps 0 o with ⟨_,h⟩|⟨n,e,y,h,_⟩
   ·exact h
   ·rw[lh]at h;cases h
  refine fin _ _ (ps++[(key,cj v)]) ?_ ?_
  ·rw[Array.toList_push]
   exact yy o ⟨hk,ld _ _,trivial⟩
  ·rw[Gn ps lw (R2 u key li),lw]
   rfl
 ·rw[lh,Nat.zero_add]at lg
  have lG:key=q:=Aj u lF
  subst lG
  have lx:e.key=kv:=og li lE hk
  have lH:es[n]? =some e:=by rw[<-Array.getElem?_toList];exact lm
  have lI:((es[n]?).map (·.key)).getD kv=kv:=by rw[lH];simp[lx]
  have lJ:∀ln,(Instr.keyThatStays kv kv).run P ln=.ok kv ln:=fun ln=>by
   unfold Instr.keyThatStays
   rw[if_pos (DD li hk)]
   rfl
  have lK:es.modify n (fun e=>{e with key:=kv})=es:=by
   apply Array.ext'
   rw[Array.toList_modify]
   exact I8 _ es.toList n e lm (by rw[<-lx])
  unfold Instr.mapEntry at O
  simp only[Sem.run_bind,run_underlying Z,Result.andThen_ok,lr,lq,lg,lI,lJ,lt,Sem.run_pure,lK]at O
  cases O
  exact fin es clock ps o rfl
end
section
variable {P:Program} {ops:Array Oper} {md:Region.Mode} {Q:Exit->Act->World->Prop}
theorem yP{aa:Oper}{l:List Oper}{a:Act}{w w':World}{v:Value}(o:aa.guard=none)(O:(execOp a.eval aa).run P w=.ok (.value v) w')(h:wpList P ops Q l (a.put aa.dst v) w'):wpList P ops Q (aa::l) a w:=by
 unfold wpList
 rw[if_pos (show Region.wanted aa (yielded ops a.tmps)=true from by unfold Region.wanted;rw[o])]
 refine .inl ?_
 unfold Oper.wp
 rw[O]
 exact h
theorem Gd{aa:Oper}{l:List Oper}{a:Act}{w w':World}(o:aa.guard=none)(O:(execOp a.eval aa).run P w=.ok .skip w')(h:wpList P ops Q l (a.put aa.dst undef) w'):wpList P ops Q (aa::l) a w:=by
 unfold wpList
 rw[if_pos (show Region.wanted aa (yielded ops a.tmps)=true from by unfold Region.wanted;rw[o])]
 refine .inl ?_
 unfold Oper.wp
 rw[O]
 exact h
structure jE where
 aT:Oper
 eI:Oper
 gz:Oper
 ib:Oper
 ke:Oper
 d2:Nat
 d3:Nat
 d4:Nat
 d5:Nat
def jE.ok(C:jE)(ops:Array Oper):Bool:=
 C.aT.guard.isNone&&(C.eI.guard.isNone&&(C.gz.guard.isNone&&(C.ib.guard.isNone&&(C.ke.guard.isNone&&
 (decide (C.aT.dst=some C.d2)&&(decide (C.eI.dst=some C.d3)&&(decide (C.gz.dst=some C.d4)&&(decide (C.ib.dst=some C.d5)&&(decide (C.ke.dst=none)&&
 (!(C.aT.looksAt ops).contains C.d4&&(!(C.aT.looksAt ops).contains C.d5&&(!(C.eI.looksAt ops).contains C.d4&&(!(C.eI.looksAt ops).contains C.d5&&
 (!(C.gz.looksAt ops).contains C.d2&&(!(C.gz.looksAt ops).contains C.d3&&(!(C.ib.looksAt ops).contains C.d2&&(!(C.ib.looksAt ops).contains C.d3&&
 (!Nat.beq C.d2 C.d4&&(!Nat.beq C.d2 C.d5&&(!Nat.beq C.d3 C.d4&&!Nat.beq C.d3 C.d5))))))))))))))))))))
def xu(ops:Array Oper)(c2 c3 c4 c5 c6:Nat):Option jE:=match ops[c2]?,ops[c3]?,ops[c4]?,ops[c5]?,ops[c6]? with
 |some aT,some eI,some gz,some ib,some ke=>match aT.dst,eI.dst,gz.dst,ib.dst with
  |some d2,some d3,some d4,some d5=>match jE.ok ⟨aT,eI,gz,ib,ke,d2,d3,d4,d5⟩ ops with
   |true=>some ⟨aT,eI,gz,ib,ke,d2,d3,d4,d5⟩
   |false=>none
  |_,_,_,_=>none
 |_,_,_,_,_=>none
structure tR(P:Program)(Q:Exit->Act->World->Prop)(C:jE)(a:Act)(w:World)(v2 v3 v4 v5:Value)(o O:World):Prop where
 cY:(execOp a.eval C.aT).run P w=.ok (.value v2) w
 oS:(execOp a.eval C.aT).run P o=.ok (.value v2) o
 fh:∀w',(execOp (a.put (some C.d2) v2).eval C.eI).run P w'=.ok (.value v3) w'
 rn:(execOp a.eval C.gz).run P w=.ok (.value v4) o
 wA:∀w',(execOp (a.put (some C.d4) v4).eval C.ib).run P w'=.ok (.value v5) w'
 yO:(execOp ((((a.put (some C.d2) v2).put (some C.d3) v3).put (some C.d4) v4).put (some C.d5) v5).eval C.ke).run P o=.ok .skip O
 fin:Q .normal ((((a.put (some C.d2) v2).put (some C.d3) v3).put (some C.d4) v4).put (some C.d5) v5) O
def tv(md:Region.Mode)(ops:Array Oper)(c2 c3 c4 c5 c6:Nat)(done:Array Bool):Bool:=
 ((Region.ready md ops done).all fun j=>Nat.beq j c2||Nat.beq j c4)&&(Region.ready md ops done).contains c2&&
 fC md ops (fR md ops [c4,c5,c6]) [c3] (done.setIfInBounds c2 true)&&fC md ops (fR md ops [c2,c3,c6]) [c5] (done.setIfInBounds c4 true)
theorem RE{a b:Nat}(h:(!Nat.beq a b)=true):a≠b:=fun e=>by subst e;simp at h
theorem NU{c2 c3 c4 c5 c6:Nat}{C:jE}(ld:Region.noSelect ops=true)(lh:∀e a w,Q e a w->e=.normal)(O:xu ops c2 c3 c4 c5 c6=some C){done:Array Bool}{a:Act}{w:World}(li:tv md ops c2 c3 c4 c5 c6 done=true){v2 v3 v4 v5:Value}{o lu:World}(F:tR P Q C a w v2 v3 v4 v5 o lu):
  wpAny P md ops Q 5 done a w:=by
 unfold xu at O
 split at O
 case h_2=>cases O
 rename_i aT eI gz ib ke la W lc Y lj
 split at O
 case h_2=>cases O
 rename_i d2 d3 d4 d5 _ _ _ _
 split at O
 case h_2=>cases O
 rename_i lk
 cases O
 simp only[jE.ok,Bool.and_eq_true,Option.isNone_iff_eq_none,decide_eq_true_eq,Bool.not_eq_true']at lk
 obtain⟨g2,g3,g4,g5,g6,ll,lm,ln,lo,lp,lv,lw,lx,ly,lz,lA,lB,lC,n24,n25,n34,n35⟩:=lk
 have n24:d2≠d4:=fun e=>by subst e;simp at n24
 have n25:d2≠d5:=fun e=>by subst e;simp at n25
 have n34:d3≠d4:=fun e=>by subst e;simp at n34
 have n35:d3≠d5:=fun e=>by subst e;simp at n35
 have put:∀(c:Nat) (aa:Oper) (a:Act) (d:Nat) (v:Value),ops[c]? =some aa->(aa.looksAt ops).contains d=false->execOp (a.put (some d) v).eval aa=execOp a.eval aa:=fun c aa a d v Z h=>
  execOp_put aa (fun lD b=>Region.noSelect_spec ld c aa lD b Z) a (some d) v fun x lE=>by cases lE;simpa using h
 have U:∀(a:Act) (d e:Nat) (u v:Value),d≠e->(a.put (some d) u).put (some e) v=(a.put (some e) v).put (some d) u:=fun a d e u v h=>by simp only[Act.put];rw[Array.setIfInBounds_comm _ _ h]
 obtain⟨cY,oS,fh,rn,wA,yO,fin⟩:=F
 dsimp only at cY oS fh rn wA yO fin
 simp only[tv,Bool.and_eq_true]at li
 obtain⟨⟨⟨lF,lG⟩,lq⟩,lr⟩:=li
 have lt:c2∈Region.ready md ops done:=by simpa using lG
 refine⟨fun h1=>(by rw[h1]at lt;cases lt),fun k hk=>?_⟩
 have:=List.all_eq_true.1 lF k hk
 rw[Bool.or_eq_true]at this
 rcases this with h1|h1
 ·have:=Nat.eq_of_beq_eq_true h1
  subst this
  simp only[fC,Bool.and_eq_true]at lq
  obtain⟨⟨lf,lg⟩,Z⟩:=lq
  unfold wpOp
  simp only[la]
  rw[if_pos (show Region.wanted aT (yielded ops a.tmps)=true from by unfold Region.wanted;rw[g2])]
  refine .inl ?_
  unfold Oper.wp
  rw[cY]
  show wpAny P md ops Q 4 (done.setIfInBounds k true) (a.put aT.dst v2) w
  rw[ll]
  refine wpAny_first W (Region.noSelect_spec ld) (fun c a w h=>Exit.noConfusion (lh _ _ _ h)) 3 _ _ w (Region.free_spec W lg) (by simpa using lf) (v:=v3) (.inl ⟨by unfold Region.wanted;rw[g3],fh⟩) ?_
  refine sI [c4,c5,c6] _ _ w Z ?_
  simp only[bx,lc,Y,lj]
  rw[lm]
  refine yP g4 (w':=o) (v:=v4) (by rw[put c4 gz _ d3 _ lc lA,put c4 gz _ d2 _ lc lz];exact rn) ?_
  rw[ln]
  refine yP g5 (w':=o) (v:=v5) (by rw[U _ d3 d4 _ _ n34,put c5 ib _ d3 _ Y lC,U _ d2 d4 _ _ n24,put c5 ib _ d2 _ Y lB];exact wA o) ?_
  rw[lo]
  refine Gd g6 yO ?_
  rw[lp]
  exact fin
 ·have:=Nat.eq_of_beq_eq_true h1
  subst this
  simp only[fC,Bool.and_eq_true]at lr
  obtain⟨⟨lf,lg⟩,Z⟩:=lr
  unfold wpOp
  simp only[lc]
  rw[if_pos (show Region.wanted gz (yielded ops a.tmps)=true from by unfold Region.wanted;rw[g4])]
  refine .inl ?_
  unfold Oper.wp
  rw[rn]
  show wpAny P md ops Q 4 (done.setIfInBounds k true) (a.put gz.dst v4) o
  rw[ln]
  refine wpAny_first Y (Region.noSelect_spec ld) (fun c a w h=>Exit.noConfusion (lh _ _ _ h)) 3 _ _ o (Region.free_spec Y lg) (by simpa using lf) (v:=v5) (.inl ⟨by unfold Region.wanted;rw[g5],wA⟩) ?_
  refine sI [c2,c3,c6] _ _ o Z ?_
  simp only[bx,la,W,lj]
  rw[lo]
  refine yP g2 (w':=o) (v:=v2) (by rw[put c2 aT _ d5 _ la lw,put c2 aT _ d4 _ la lv];exact oS) ?_
  rw[ll]
  have lH:(((a.put (some d4) v4).put (some d5) v5).put (some d2) v2)=(((a.put (some d2) v2).put (some d4) v4).put (some d5) v5):=by
   rw[U _ d5 d2 _ _ n25.symm,U _ d4 d2 _ _ n24.symm]
  rw[lH]
  refine yP g3 (w':=o) (v:=v3) (by rw[put c3 eI _ d5 _ W ly,put c3 eI _ d4 _ W lx];exact fh o) ?_
  rw[lm]
  have lI:(((a.put (some d2) v2).put (some d4) v4).put (some d5) v5).put (some d3) v3=(((a.put (some d2) v2).put (some d3) v3).put (some d4) v4).put (some d5) v5:=by
   rw[U _ d5 d3 _ _ n35.symm,U _ d4 d3 _ _ n34.symm]
  rw[lI]
  refine Gd g6 yO ?_
  rw[lp]
  exact fin
def ES(md:Region.Mode)(ops:Array Oper)(o B:List Nat)(c2 c3 c4 c5 c6:Nat):Bool:=mU md ops o B [c2,c4] (tv md ops c2 c3 c4 c5 c6)
end
section
variable {cx:bB} {m:Nat->Value} {st st':ae} {T:Array Value} {w w':World} {E:Env} {Q:cX} {ops:Array Oper} {l:List Oper}
def EF(C:jE):Option (TypeId×Nat×Nat×BinOp×TypeId×Operand×Operand×TypeId×TypeId×Operand):=match C.aT.op,C.eI.op,C.gz.op,C.ib.op,C.ke.op with
 |.lookup mt (.tmp x) (.tmp k) false,.binOp o t a b O,.mapEntry U (.tmp x') (.tmp k'),.extract (.tmp a4) 1,.entryStore W (.tmp Y) (.tmp a5) v=>
  match Nat.beq mt U&&(Nat.beq x x'&&(Nat.beq k k'&&(Nat.beq a4 C.d4&&(Nat.beq x Y&&(Nat.beq a5 C.d5&&(fy (.tmp x) C.d2&&(fy (.tmp x) C.d3&&(fy (.tmp x) C.d4&&(fy (.tmp x) C.d5&&(fy (.tmp k) C.d2&&(fy (.tmp k) C.d3&&(fy v C.d4&&(fy v C.d5&&!Nat.beq C.d2 C.d3)))))))))))))with
  |true=>some (mt,x,k,o,t,a,b,O,W,v)
  |false=>none
 |_,_,_,_,_=>none
theorem N9{C:jE}{mt t o O:TypeId}{x k:Nat}{op:BinOp}{a b v:Operand}(h:EF C=some (mt,x,k,op,t,a,b,o,O,v)):
  C.aT.op=.lookup mt (.tmp x) (.tmp k) false/\C.eI.op=.binOp op t a b o/\C.gz.op=.mapEntry mt (.tmp x) (.tmp k)/\C.ib.op=.extract (.tmp C.d4) 1/\C.ke.op=.entryStore O (.tmp x) (.tmp C.d5) v/\
  fy (.tmp x) C.d2=true/\fy (.tmp x) C.d3=true/\fy (.tmp x) C.d4=true/\fy (.tmp x) C.d5=true/\fy (.tmp k) C.d2=true/\fy (.tmp k) C.d3=true/\fy v C.d4=true/\fy v C.d5=true/\C.d2≠C.d3:=by
 unfold EF at h
 split at h
 case h_2=>cases h
 rename_i mt x k op t a b o lu x' k' a4 O lv a5 v li lj ld lf lg
 split at h
 case h_2=>cases h
 rename_i lh
 simp only[Option.some.injEq,Prod.mk.injEq]at h
 obtain⟨rfl,rfl,rfl,rfl,rfl,rfl,rfl,rfl,rfl,rfl⟩:=h
 simp only[Bool.and_eq_true]at lh
 obtain⟨U,W,Y,Z,la,lc,lk,ll,lm,ln,lo,lp,lq,lr,lt⟩:=lh
 have U:=Nat.eq_of_beq_eq_true U
 have W:=Nat.eq_of_beq_eq_true W
 have Y:=Nat.eq_of_beq_eq_true Y
 have Z:=Nat.eq_of_beq_eq_true Z
 have la:=Nat.eq_of_beq_eq_true la
 have lc:=Nat.eq_of_beq_eq_true lc
 rw[<-U,<-W,<-Y]at ld
 rw[Z]at lf
 rw[<-la,lc]at lg
 exact⟨li,lj,ld,lf,lg,lk,ll,lm,ln,lo,lp,lq,lr,RE lt⟩
def Ie(P:Program)(mt:TypeId):Bool:=match P.underlying mt with
 |some (.map o _)=>match ty P o with
  |some u=>u.flat
  |none=>false
 |_=>false
def Ck(E:Env)(st:ae)(C:jE):Option ae:=match EF C with
 |some (mt,x,k,O,t,a,b,_,_,v)=>match wx E.P st mt (.tmp x) (.tmp k) false []with
  |some ⟨.val o y,[],[]⟩=>match Nat.blt C.d2 E.n&&(Nat.blt C.d3 E.n&&(Nat.blt C.d4 E.n&&(Nat.blt C.d5 E.n&&(o.flat&&Ie E.P mt)))),dA (st.put C.d2 (.val o y)) a,dA (st.put C.d2 (.val o y)) b with
   |true,some U,some W=>match bin E.P O t U W with
    |some (r,[])=>match yk E.P ((st.put C.d2 (.val o y)).put C.d3 (.val r.t r.x)) mt (.tmp x) (.tmp k) v with
     |some st1=>some ((st1.put C.d4 .any).put C.d5 .any)
     |none=>none
    |_=>none
   |_,_,_=>none
  |_=>none
 |none=>none
theorem Wk(lc:br E cx)(h:am cx m st T w){C:jE}(o:Ck E st C=some st'):∃v2 v3 v4 v5 U W,(∀{Q:cX},N cx Q .normal st'->tR cx.P (dB Q) C ⟨T,[]⟩ w v2 v3 v4 v5 U W):=by
 unfold Ck at o
 split at o
 case h_2=>cases o
 rename_i mt x k aB t a b aC aE v lD
 obtain⟨lo,lE,lF,lG,lH,lI,lJ,lK,lL,lM,lN,y4,lO,n23⟩:=N9 lD
 split at o
 case h_2=>cases o
 rename_i aF y O
 split at o
 case h_2=>cases o
 rename_i aG aH lp lP lQ
 simp only[Bool.and_eq_true]at lp
 obtain⟨lR,lS,lT,lU,lq,ld⟩:=lp
 split at o
 case h_2=>cases o
 rename_i r lr
 split at o
 case h_2=>cases o
 rename_i st1 lt
 cases o
 rw[<-lc.P]at O lr lt ld
 have lV:C.d2<cx.n:=by rw[lc.n];exact cG lR
 have lW:C.d3<cx.n:=by rw[lc.n];exact cG lS
 have lu:C.d4<cx.n:=by rw[lc.n];exact cG lT
 have lv:C.d5<cx.n:=by rw[lc.n];exact cG lU
 unfold wx at O
 split at O
 case h_2=>cases O
 rename_i Y aI aJ key lX lf hk
 split at O
 case h_2=>cases O
 rename_i aK aL lw lg lY lZ
 split at O
 case h_1=>cases O
 case h_3=>cases O
 rename_i Z _
 simp only[Option.some.injEq,dG.mk.injEq,ak.val.injEq,and_true]at O
 obtain⟨rfl,lh⟩:=O
 have lh:=eq_of_heq lh
 subst lh
 obtain⟨s,l0,l3⟩:=Option.bind_eq_some_iff.1 lX
 have li:=df h hk
 have l4:=aj.dC lZ
 subst l4
 obtain⟨z,_,lj,lk⟩:=Kq lY
 simp only[Bool.and_eq_true]at Z
 have l5:=ag.eq_of_beq Z.1.1
 have l6:=ag.eq_of_beq Z.1.2
 subst l5
 subst l6
 have l7:Y.k.flat=true:=by
  unfold Ie at ld
  rw[lf]at ld
  simp only[lg]at ld
  exact ld
 -- the state behind the sum
 have lx:T.size=cx.n:=h.size
 have ly:∀(v2:Value),a8 w (ap cx m st.ids) v2 Y.v ((bn (aD Y.k) Y.ps lw).getD (cj Y.v))->
   ∃v3 v4 v5 U W s v0,(∀w',(execOp (Act.eval ((⟨T,[]⟩:Act).put (some C.d2) v2)) C.eI).run cx.P w'=.ok (.value v3) w')/\
    (Instr.mapEntry mt (Act.eval ⟨T,[]⟩ (.tmp x)) (Act.eval ⟨T,[]⟩ (.tmp k))).run cx.P w=.ok (.tuple #[v0,.int .i64 s]) U/\v4=.tuple #[v0,.int .i64 s]/\v5=.int .i64 s/\
    (execOp (Act.eval (((((⟨T,[]⟩:Act).put (some C.d2) v2).put (some C.d3) v3).put (some C.d4) v4).put (some C.d5) v5)) C.ke).run cx.P U=.ok .skip W/\
    R cx ((st1.put C.d4 .any).put C.d5 .any) (((T.setIfInBounds C.d2 v2).setIfInBounds C.d3 v3).setIfInBounds C.d4 v4|>.setIfInBounds C.d5 v5) W:=by
  intro v2 l8
  have ll:=h.put (d:=C.d2) (s:=.val Y.v ((bn (aD Y.k) Y.ps lw).getD (cj Y.v))) (v:=v2) lV l8
  obtain⟨v3,l9,aa⟩:=AV (ox:=a) (oy:=b) (df ll lP) (df ll lQ) lr trivial
  have ab:=ll.put (d:=C.d3) (s:=.val r.t r.x) (v:=v3) lW (aa _ _)
  obtain⟨v0,s,U,W,lz,ad,lm⟩:=Hd ab lt
  have ae:Act.eval ⟨(T.setIfInBounds C.d2 v2).setIfInBounds C.d3 v3,[]⟩ (.tmp x)=Act.eval ⟨T,[]⟩ (.tmp x):=(jI lJ).trans (jI lI)
  have af:Act.eval ⟨(T.setIfInBounds C.d2 v2).setIfInBounds C.d3 v3,[]⟩ (.tmp k)=Act.eval ⟨T,[]⟩ (.tmp k):=(jI lN).trans (jI lM)
  rw[ae,af]at lz
  refine⟨v3,_,_,U,W,s,v0,fun w'=>ct (by simp only[execOp,lE]) (l9 w'),lz,rfl,rfl,?_,⟨m,(lm.put lu (s:=.any) trivial).put lv (s:=.any) trivial⟩⟩
  have ah:Act.eval ⟨(((T.setIfInBounds C.d2 v2).setIfInBounds C.d3 v3).setIfInBounds C.d4 (.tuple #[v0,.int .i64 s])).setIfInBounds C.d5 (.int .i64 s),[]⟩ (.tmp C.d5)=.int .i64 s:=eval_put (by simp only[Array.size_setIfInBounds];rw[lx];exact lv)
  have ai:Act.eval ⟨(((T.setIfInBounds C.d2 v2).setIfInBounds C.d3 v3).setIfInBounds C.d4 (.tuple #[v0,.int .i64 s])).setIfInBounds C.d5 (.int .i64 s),[]⟩ (.tmp x)=Act.eval ⟨(T.setIfInBounds C.d2 v2).setIfInBounds C.d3 v3,[]⟩ (.tmp x):=(jI lL).trans (jI lK)
  have an:Act.eval ⟨(((T.setIfInBounds C.d2 v2).setIfInBounds C.d3 v3).setIfInBounds C.d4 (.tuple #[v0,.int .i64 s])).setIfInBounds C.d5 (.int .i64 s),[]⟩ v=Act.eval ⟨(T.setIfInBounds C.d2 v2).setIfInBounds C.d3 v3,[]⟩ v:=(jI lO).trans (jI y4)
  show(execOp (Act.eval ⟨(((T.setIfInBounds C.d2 v2).setIfInBounds C.d3 v3).setIfInBounds C.d4 (.tuple #[v0,.int .i64 s])).setIfInBounds C.d5 (.int .i64 s),[]⟩) C.ke).run cx.P U=.ok .skip W
  simp only[execOp,lH,Sem.run_bind,ah,ai,an,ad,Result.andThen_ok,Sem.run_pure]
 rcases Au h (aW h l0) l3 with ⟨la,ao⟩|⟨g,es,clock,la,aq,lA⟩
 ·obtain⟨v2,h1,_⟩:=rm (w':=w) (M':=ap cx m st.ids) (d:=jp) (d':=16) lf lg Z.2 (by decide) lj lk li (es:=#[]) (ps:=Y.ps) (by rw[ao];trivial)
  obtain⟨v3,v4,v5,U,W,s,v0,_,q,_⟩:=ly v2 h1
  rw[la]at q
  unfold Instr.mapEntry at q
  simp only[Sem.run_bind,run_underlying lf,Result.andThen_ok]at q
  exact absurd q (jF _ _ _ _)
 ·obtain⟨v2,h1,_⟩:=rm (d:=jp) (d':=16) lf lg Z.2 (by decide) lj lk li lA
  obtain⟨v3,v4,v5,U,W,s,v0,lm,ln,lB,ar,au,av⟩:=ly v2 h1
  rw[la]at ln
  obtain⟨lC,aw,ax,ay⟩:=V3 (d:=jp) (d':=16) lf lg Z.2 (by decide) l7 lq lj lk li aq lA ln
  have:lC=v2:=og lq aw h1
  subst this
  refine⟨lC,v3,v4,v5,U,W,fun{Q} az=>⟨?_,?_,lm,?_,?_,au,rfl,az _ _ av⟩⟩
  ·exact ct (s:=Instr.lookup mt (Act.eval ⟨T,[]⟩ (.tmp x)) (Act.eval ⟨T,[]⟩ (.tmp k)) false) (by simp only[execOp,lo]) (by rw[la];exact ax)
  ·exact ct (s:=Instr.lookup mt (Act.eval ⟨T,[]⟩ (.tmp x)) (Act.eval ⟨T,[]⟩ (.tmp k)) false) (by simp only[execOp,lo]) (by rw[la];exact ay)
  ·exact ct (s:=Instr.mapEntry mt (Act.eval ⟨T,[]⟩ (.tmp x)) (Act.eval ⟨T,[]⟩ (.tmp k))) (by simp only[execOp,lF]) (by rw[la,lB];exact ln)
  ·intro w'
   have aA:Act.eval ⟨T.setIfInBounds C.d4 v4,[]⟩ (.tmp C.d4)=v4:=eval_put (by rw[lx];exact lu)
   show(execOp (Act.eval ⟨T.setIfInBounds C.d4 v4,[]⟩) C.ib).run cx.P w'=_
   subst lB
   subst ar
   simp only[execOp,lG,aA,Instr.extract]
   rfl
theorem QW{id:Nat}{l:List Oper}(Z:br E cx)(o B:List Nat)(c2 c3 c4 c5 c6:Nat){C:jE}(la:E.P.follows .mixedOrders=true)(O:ES .any l.toArray o B c2 c3 c4 c5 c6=true)(lc:o.length+(B.length+5)=l.length)(ld:xu l.toArray c2 c3 c4 c5 c6=some C)
  (h:∀T w,R cx st T w->wpQuiet cx.P l.toArray (fun _=>True) (wpQuiet cx.P l.toArray (Ext w) (fun lf=>∀w',Ext w w'->∃v2 v3 v4 v5 U Y,tR cx.P (dB Q) C lf w' v2 v3 v4 v5 U Y) (bx l.toArray B)) (bx l.toArray o) ⟨T,[]⟩):
  W cx Q (.region id l.toArray true) st:=by
 intro T w lg
 have lh:Region.noSelect l.toArray=true:=by
  unfold ES mU at O
  simp only[Bool.and_eq_true]at O
  exact O.1.1.1
 refine Code.wp_mono (Q:=dB Q) (fun e a w h=>by obtain⟨rfl,h⟩:=h;exact h)
  (xM (C:=Ext w) o B [c2,c4] (tv .any l.toArray c2 c3 c4 c5 c6) _ (by rw[Z.P];exact la) O (fun d j af li=>?_) (fun e a w h=>h.1)
   (fun d a w af lj=>by
    obtain⟨v2,v3,v4,v5,U,Y,F⟩:=lj
    exact NU lh (fun e a w h=>h.1) ld af F) lc (Ext.refl w).drew (h T w lg))
 simp only[tv,Bool.and_eq_true]at af
 have:=List.all_eq_true.1 af.1.1.1 j li
 rw[Bool.or_eq_true]at this
 rcases this with h1|h1
 ·rw[Nat.eq_of_beq_eq_true h1];simp
 ·rw[Nat.eq_of_beq_eq_true h1];simp
end
end Go.Ev
namespace Go.Ev
open Go Go.RowKit
variable [b6]
section
variable {P:Program} {ops:Array Oper} {md:Region.Mode} {S:World->Prop} {Q:Exit->Act->World->Prop}
def jH(P:Program)(ops:Array Oper)(Q:Exit->Act->World->Prop)(S:World->Prop):List Oper->Act->World->Prop
 |[],a,w=>Q .normal a w
 |aa::l,a,w=>if Region.wanted aa (yielded ops a.tmps)then aa.wp P a w (fun o w'=>S w'/\jH P ops Q S l o w') Q else S w/\jH P ops Q S l (a.put aa.dst undef) w
theorem LP:∀(l:List Nat) (done:Array Bool) (a:Act) (w:World),fR md ops l done=true->jH P ops Q S (bx ops l) a w->wpAnyH P md ops Q S l.length done a w
 |[],_,_,_,o,h=>⟨by simpa[fR]using o,h⟩
 |i::l,done,a,w,o,h=>by
  simp only[fR,Bool.and_eq_true,decide_eq_true_eq]at o
  have Y:i∈Region.ready md ops done:=by rw[o.1];exact List.mem_cons_self
  obtain⟨_,aa,W,_⟩:=mem_ready.1 Y
  unfold bx at h
  rw[W]at h
  refine⟨fun h1=>(by rw[o.1]at h1;cases h1),fun k hk=>?_⟩
  rw[o.1]at hk
  have Z:k=i:=by simpa using hk
  subst Z
  have la:wpOp P ops Q k (fun O w'=>S w'/\jH P ops Q S (bx ops l) O w') a w:=by
   unfold wpOp
   simp only[W]
   unfold jH at h
   split
   ·rename_i U;rw[if_pos U]at h;exact .inl h
   ·rename_i U;rw[if_neg U]at h;exact h
  exact wpOp_mono (fun O w' h'=>⟨h'.1,LP l _ O w' o.2 h'.2⟩) la
def Bt(aa:Oper):Bool:=iA aa||iL aa
def wQ(ops:Array Oper):List Nat->Bool
 |[]=>true
 |i::is=>(match ops[i]? with
  |some aa=>Bt aa
  |none=>false)&&wQ ops is
theorem S6{aa:Oper}(h:Bt aa=true){ρ:Operand->Value}{w O:World}{n:Next}(o:(execOp ρ aa).run P w=.ok n O):∃v,n=.value v:=by
 unfold Bt at h
 rw[Bool.or_eq_true]at h
 rcases h with h|h
 ·exact Fh h o
 ·exact LH h o
theorem SL{g:Nat}{lc:Array Bool->Bool}{K:Act->Prop}{w:World}(ld:S w)(lf:Region.noSelect ops=true)(lg:∀c a w,¬Q (.panic c) a w)(lk:∀done a,lc done=true->K a->wpAnyH P md ops Q S g done a w):
  ∀(B:List Nat) (done:Array Bool) (a:Act),wQ ops B=true->fC md ops lc B done=true->wpQuiet P ops S K (bx ops B) a->wpAnyH P md ops Q S (B.length+g) done a w:=by
 intro B
 induction B with
 |nil=>intro done a _ o h;rw[List.length_nil,Nat.zero_add];exact lk _ _ o h
 |cons i is lh=>
  intro done a O o h
  unfold wQ at O
  unfold fC at o
  simp only[Bool.and_eq_true]at O o
  obtain⟨⟨li,lj⟩,o⟩:=o
  obtain⟨Y,O⟩:=O
  unfold bx at h
  split at Y
  ·rename_i aa U
   rw[U]at h
   rw[List.length_cons,Nat.succ_add]
   by_cases W:Region.wanted aa (yielded ops a.tmps)=true
   ·unfold wpQuiet at h
    rw[if_pos W]at h
    obtain⟨v,az,ll⟩:=h
    refine wpAnyH_first U (Region.noSelect_spec lf) (fun c a w Z=>absurd Z (lg _ _ _)) (is.length+g) done a w (Region.free_spec U lj) (by simpa using li) (v:=v) (.inl ⟨W,fun w' lm=>?_⟩) ld (lh _ _ O o ll)
    have:=az w' lm
    unfold Oper.quietAt at this
    cases la:(execOp a.eval aa).run P w' with
    |halt e ln=>rw[la]at this;exact this.elim
    |ok n ln=>
     obtain⟨u,rfl⟩:=S6 Y la
     rw[la]at this
     obtain⟨rfl,rfl⟩:=this
     rfl
   ·unfold wpQuiet at h
    rw[if_neg W]at h
    exact wpAnyH_first U (Region.noSelect_spec lf) (fun c a w Z=>absurd Z (lg _ _ _)) (is.length+g) done a w (Region.free_spec U lj) (by simpa using li) (v:=undef) (.inr ⟨by simpa using W,rfl⟩) ld (lh _ _ O o h)
  ·cases Y
def vU(md:Region.Mode)(ops:Array Oper)(B o:List Nat):Bool:=Region.noSelect ops&&(wQ ops B&&fC md ops (fR md ops o) B (Array.replicate ops.size false))
theorem T8{id:Nat}{a:Act}{w:World}{l:List Oper}(B o:List Nat)(W:P.follows .mixedOrders=true)(O:vU .any l.toArray B o=true)(Y:B.length+o.length=l.length)
  (U:S {w with drawn:=w.drawn+1})(h:wpQuiet P l.toArray S (fun Z=>∀w',S w'->jH P l.toArray (dB Q) S (bx l.toArray o) Z w') (bx l.toArray B) a):(Code.region id l.toArray true).wp P Q a w:=by
 refine Code.wp_mono (Q:=dB Q) (fun e a w h=>by obtain⟨rfl,h⟩:=h;exact h) ?_
 unfold vU at O
 simp only[Bool.and_eq_true]at O
 obtain⟨la,hk,lc⟩:=O
 refine wp_region_any W (wpAny_of_held (S:=S) _ _ _ _ ?_)
 have R:=SL (Q:=dB Q) (S:=S) (w:={w with drawn:=w.drawn+1}) (g:=o.length) U la (fun c a w h=>Exit.noConfusion h.1) (fun done a af ld=>LP o done a _ af (ld _ U)) B _ a hk lc h
 rw[Y]at R
 simpa using R
end
end Go.Ev
namespace Go.Ev
open Go Go.RowKit
variable [b6]
variable {cx:bB} {m:Nat->Value} {st st':ae} {T:Array Value} {w w':World} {E:Env} {Q:cX} {ops:Array Oper} {l:List Oper}
def yR(E:Env)(st:ae)(aa:Oper)(orc:List aj):Option dG:=
 match dD E.P st aa.op orc with
 |some r=>some r
 |none=>match rH E.P st aa orc with
 |some r=>some r
 |none=>match aa.op with
  |.load t x=>vr E.P st t x orc
  |.call c=>nP E st c orc
  |_=>none
theorem O9(W:br E cx)(h:am cx m st T w){aa:Oper}{orc:List aj}{r:dG}(o:yR E st aa orc=some r)(Y:bJ r.ob){K:Act->World->Prop}
  (Z:∀v w',Ext w w'->aQ w' (ap cx m st.ids) m v r.aJ->K (Act.put ⟨T,[]⟩ aa.dst v) w'):aa.wp cx.P ⟨T,[]⟩ w K Q:=by
 unfold yR at o
 split at o
 ·rename_i ld U
  cases o
  rw[<-W.P]at U
  obtain⟨v,af,O⟩:=Co h U Y
  exact gT (af w (Ext.refl w)) (Z v w (Ext.refl w) O)
 ·split at o
  ·rename_i ld U
   cases o
   rw[<-W.P]at U
   obtain⟨v,la,O⟩:=A0 h U Y
   exact gT (la w (Ext.refl w)) (Z v w (Ext.refl w) O)
  split at o
  ·rename_i t x lc
   rw[<-W.P]at o
   obtain⟨v,la,O⟩:=FF h o Y
   exact gT (ct (by simp only[execOp,lc]) (la w (Ext.refl w))) (Z v w (Ext.refl w) O)
  ·rename_i c lc
   obtain⟨f0,args,lf,lg⟩:=tk W h lc o Y
   unfold Oper.wp
   rw[lf w]
   refine lg.mono ?_
   rintro e w' ⟨v,rfl,lh,O⟩
   exact Z v w' lh O
  ·cases o
theorem M5{id:Nat}{l:List Oper}(B o:List Nat)(O:cx.P.follows .mixedOrders=true)(U:vU .any l.toArray B o=true)(Y:B.length+o.length=l.length)
  (h:∀T w,R cx st T w->wpQuiet cx.P l.toArray (Ext w) (fun Z=>∀w',Ext w w'->jH cx.P l.toArray (dB Q) (Ext w) (bx l.toArray o) Z w') (bx l.toArray B) ⟨T,[]⟩):
  W cx Q (.region id l.toArray true) st:=by
 intro T w la
 exact T8 (S:=Ext w) B o O U Y (Ext.refl w).drew (h T w la)
theorem SO{bC:World}{aa:Oper}{d:Nat}{orc:List aj}{r:dG}(O:br E cx)(Z:eK ops st aa=some true)(af:aa.dst=some d)(la:Nat.blt d E.n=true)(lc:yR E st aa orc=some r)(ld:bJ r.ob)
  (lf:∀T w,R cx (st.put d r.aJ) T w->Ext bC w->jH cx.P ops (dB Q) (Ext bC) l ⟨T,[]⟩ w):∀T w,R cx st T w->Ext bC w->jH cx.P ops (dB Q) (Ext bC) (aa::l) ⟨T,[]⟩ w:=by
 intro T w U W
 unfold jH
 rw[if_pos (show Region.wanted aa (yielded ops T)=true from iT U Z)]
 obtain⟨m,Y⟩:=U
 refine O9 O Y lc ld fun v w' o lg=>⟨W.trans o,?_⟩
 rw[af]
 exact lf _ w' ⟨m,(Y.ext o).put (by rw[O.n];exact cG la) lg⟩ (W.trans o)
end Go.Ev
namespace Go.Ev
open Go Go.RowKit
variable [b6]
variable {cx:bB} {st st':ae} {T:Array Value} {w:World} {Q:cX} {ops:Array Oper} {md:Region.Mode}
def sy(cx:bB)(ops:Array Oper)(aa:Oper)(s o:ae):Prop:=∀Q:cX,N cx Q .normal o->bK cx ops Q [aa] s
def wV(cx:bB)(s:ae):cX:=fun e a w=>e=.normal/\∃T,a=⟨T,[]⟩/\R cx s T w
theorem K6{Sg:Nat->Array Bool->ae->Prop}(Z:∀g done s,Sg (g+1) done s->∀i∈Region.ready md ops done,∃aa o,ops[i]? =some aa/\Sg g (done.setIfInBounds i true) o/\sy cx ops aa s o)
  (W:∀done s,Sg 0 done s->Region.ready md ops done=[])(Y:∀g done s,Sg g done s->Region.ready md ops done=[]->N cx Q .normal s):
  ∀g done s T w,Sg g done s->R cx s T w->wpAny cx.P md ops Q g done ⟨T,[]⟩ w
 |0,done,s,T,w,O,U=>⟨W done s O,Y 0 done s O (W done s O) T w U⟩
 |g+1,done,s,T,w,O,U=>by
  refine⟨fun h=>Y (g+1) done s O h T w U,fun i la=>?_⟩
  obtain⟨aa,o,lc,ld,lf⟩:=Z g done s O i la
  have h:=lf (wV cx o) (fun T w h=>⟨rfl,T,rfl,h⟩) T w U
  have lg:wpOp cx.P ops (wV cx o) i (wpList cx.P ops (wV cx o) []) ⟨T,[]⟩ w:=by unfold wpOp;simp only[lc];exact h
  refine wpOp_mono (fun lh w' h'=>?_) (AJ (fun e a w h=>h.1) lg)
  obtain⟨_,li,rfl,lj⟩:wV cx o .normal lh w':=h'
  exact K6 Z W Y g _ o li w' ld lj
theorem RY{id:Nat}(O:cx.P.follows .mixedOrders=true){Sg:Nat->Array Bool->ae->Prop}(U:∀g done s,Sg (g+1) done s->∀i∈Region.ready .any ops done,∃aa o,ops[i]? =some aa/\Sg g (done.setIfInBounds i true) o/\sy cx ops aa s o)
  (Y:∀done s,Sg 0 done s->Region.ready .any ops done=[])(Z:∀g done s,Sg g done s->Region.ready .any ops done=[]->N cx Q .normal s)(la:Sg ops.size (Array.replicate ops.size false) st):
  W cx Q (.region id ops true) st:=fun T w lc=>
 wp_region_any O (K6 U Y Z _ _ _ T _ la (lc.ext (Ext.refl w).drew))
/-! Sets of operations that are done, as0 lists, the last one first. -/
def mA(n:Nat)(o:List Nat):Array Bool:=((List.range n).map fun i=>jr i o).toArray
def oz(i:Nat):List Nat->List Nat
 |[]=>[i]
 |j::o=>bif Nat.blt j i then i::j::o else j::oz i o
def sp:List Bool->List Bool->Bool
 |[],[]=>true
 |a::l,b::m=>(bif a then b else !b)&&sp l m
 |_,_=>false
theorem C3:∀{l m:List Bool},sp l m=true->l=m
 |[],[],_=>rfl
 |a::l,b::m,h=>by
  unfold sp at h
  rw[Bool.and_eq_true]at h
  rw[C3 h.2]
  cases a<;>cases b<;>simp_all
 |[],_::_,h=>by cases h
 |_::_,[],h=>by cases h
def ug:List Nat->List Nat->Bool
 |[],[]=>true
 |a::l,b::m=>Nat.beq a b&&ug l m
 |_,_=>false
theorem Fm:∀{l m:List Nat},ug l m=true->l=m
 |[],[],_=>rfl
 |a::l,b::m,h=>by
  unfold ug at h
  rw[Bool.and_eq_true]at h
  rw[Fm h.2,Nat.eq_of_beq_eq_true h.1]
 |[],_::_,h=>by cases h
 |_::_,[],h=>by cases h
def Eo(o:List Nat)(O:List (List Nat)):Bool:=O.any (ug o)
theorem KQ{D:List Nat}{o:List (List Nat)}(h:Eo D o=true):D∈o:=by
 obtain⟨x,O,e⟩:=List.any_eq_true.1 h
 rw[Fm e];exact O
def G1(md:Region.Mode)(ops:Array Oper)(O:List (List Nat))(o:List Nat)(i:Nat):Bool:=
 Eo (oz i o) O&&(Nat.beq (oz i o).length (o.length+1)&&sp (mA ops.size (oz i o)).toList ((mA ops.size o).setIfInBounds i true).toList)
def BD(md:Region.Mode)(ops:Array Oper)(F:List Nat)(O:List (List Nat)):Bool:=
 Eo [] O&&(sp (mA ops.size []).toList (Array.replicate ops.size false).toList&&O.all fun o=>
  (Region.ready md ops (mA ops.size o)).all (G1 md ops O o)&&((!(Region.ready md ops (mA ops.size o)).isEmpty&&!Nat.beq o.length ops.size)||(ug o F&&(Region.ready md ops (mA ops.size o)).isEmpty)))
theorem Oo{id:Nat}(lj:cx.P.follows .mixedOrders=true){F:List Nat}{lf:List (List Nat)}(lg:BD .any ops F lf=true){S:List Nat->Option ae}
  (lk:∀O∈lf,∀i∈Region.ready .any ops (mA ops.size O),∃aa s la,ops[i]? =some aa/\S O=some s/\S (oz i O)=some la/\sy cx ops aa s la)(ll:S []=some st)(lm:∀s,S F=some s->N cx Q .normal s):
  W cx Q (.region id ops true) st:=by
 unfold BD at lg
 simp only[Bool.and_eq_true]at lg
 obtain⟨ln,lo,lc⟩:=lg
 rw[List.all_eq_true]at lc
 refine RY lj (Sg:=fun g done s=>∃O∈lf,g+O.length=ops.size/\done=mA ops.size O/\S O=some s) ?_ ?_ ?_ ?_
 ·rintro g done s ⟨O,Y,ld,rfl,Z⟩ i lh
  obtain⟨aa,lu,la,lp,li,lq,lr⟩:=lk O Y i lh
  rw[Z]at li
  cases li
  have U:=lc O Y
  rw[Bool.and_eq_true]at U
  have o:=List.all_eq_true.1 U.1 i lh
  unfold G1 at o
  simp only[Bool.and_eq_true]at o
  refine⟨aa,la,lp,⟨oz i O,KQ o.1,?_,?_,lq⟩,lr⟩
  ·have:=Nat.eq_of_beq_eq_true o.2.1
   omega
  ·exact(Array.ext' (C3 o.2.2)).symm
 ·rintro done s ⟨O,Y,ld,rfl,Z⟩
  have U:=lc O Y
  simp only[Bool.and_eq_true,Bool.or_eq_true,Bool.not_eq_true']at U
  rcases U.2 with ⟨_,o⟩|⟨_,o⟩
  ·rw[Nat.zero_add]at ld
   rw[ld]at o
   rw[show Nat.beq ops.size ops.size=true from Nat.beq_refl _]at o
   cases o
  ·simpa using o
 ·rintro g done s ⟨O,Y,ld,rfl,Z⟩ lt
  have U:=lc O Y
  simp only[Bool.and_eq_true,Bool.or_eq_true,Bool.not_eq_true']at U
  rcases U.2 with ⟨o,_⟩|⟨o,_⟩
  ·rw[lt]at o
   cases o
  ·rw[Fm o]at Z
   exact lm s Z
 ·refine⟨[],KQ ln,by simp,?_,ll⟩
  exact(Array.ext' (C3 lo)).symm
end Go.Ev
namespace Go.Ev
open Go Go.RowKit
variable [b6]
/-! Trees. -/
structure to where
 u:ag
 aa:Option u.el
structure cq where
 u:ag
 aa:Option u.el
 v:u.el
inductive bp(R:Type):Type 1
 |ret (e:Option R)
 |ask {β:Type} (aa:Option β) (f:β->bp R)
 |ite (b:Bool) (x y:bp R)
 |jM (a b:Bool) (t:bp R)
 |fG (a b:List Prop) (t:bp R)
 |eqs (a b:Option ae) (t:bp R)
 |jX (a b:to) (t:bp R)
 |gj {A:Type} (body:A->bp R) (o:A->Option R) (t:bp R)
 |iK {A:Type} (body:(A->Option R)->A->bp R) (F:Nat->A->Option R) (t:bp R)
variable {R:Type}
def bp.den:bp R->Option R
 |.ret e=>e
 |.ask aa f=>Option.bind aa fun x=>(f x).den
 |.ite b x y=>if b then x.den else y.den
 |.jM _ _ t=>t.den
 |.fG _ _ t=>t.den
 |.eqs _ _ t=>t.den
 |.jX _ _ t=>t.den
 |.gj _ _ t=>t.den
 |.iK _ _ t=>t.den
def bp.Ok:bp R->Prop
 |.ret _=>True
 |.ask _ f=>∀x,(f x).Ok
 |.ite _ x y=>x.Ok/\y.Ok
 |.jM a b t=>a=b/\t.Ok
 |.fG a b t=>a=b/\t.Ok
 |.eqs a b t=>a=b/\t.Ok
 |.jX a b t=>a=b/\t.Ok
 |.gj body o t=>(∀z,(body z).den=o z)/\(∀z,(body z).Ok)/\t.Ok
 |.iK body F t=>(∀z,F 0 z=none)/\(∀n z,(body (F n) z).den=F (n+1) z)/\(∀n z,(body (F n) z).Ok)/\t.Ok
inductive fS(R:Type):Type 1
 |nil
 |ask {β:Type} (aa:Option β) (f:β->fS R)
 |ite (b:Bool) (x y:fS R)
 |b (a:Bool) (c:fS R)
 |p (a:List Prop) (c:fS R)
 |s (a:Option ae) (c:fS R)
 |q (a:to) (c:fS R)
 |gj {A:Type} (g:A->Option R) (body:A->fS R) (c:fS R)
 |iK {A:Type} (g0:A->Option R) (g:Nat->A->Option R) (body:Nat->A->fS R) (c:fS R)
def bp.fi:bp R->fS R
 |.ret _=>.nil
 |.ask aa f=>.ask aa fun x=>(f x).fi
 |.ite b x y=>.ite b x.fi y.fi
 |.jM a _ t=>.b a t.fi
 |.fG a _ t=>.p a t.fi
 |.eqs a _ t=>.s a t.fi
 |.jX a _ t=>.q a t.fi
 |.gj body _ t=>.gj (fun z=>(body z).den) (fun z=>(body z).fi) t.fi
 |.iK body F t=>.iK (F 0) (fun n z=>(body (F n) z).den) (fun n z=>(body (F n) z).fi) t.fi
def bp.fm:bp R->fS R
 |.ret _=>.nil
 |.ask aa f=>.ask aa fun x=>(f x).fm
 |.ite b x y=>.ite b x.fm y.fm
 |.jM _ b t=>.b b t.fm
 |.fG _ b t=>.p b t.fm
 |.eqs _ b t=>.s b t.fm
 |.jX _ b t=>.q b t.fm
 |.gj body o t=>.gj o (fun z=>(body z).fm) t.fm
 |.iK body F t=>.iK (fun _=>none) (fun n=>F (n+1)) (fun n z=>(body (F n) z).fm) t.fm
theorem bp.iG:∀(t:bp R),t.fi=t.fm->t.Ok
 |.ret _,_=>trivial
 |.ask aa f,h=>by
  simp only[fi,fm,fS.ask.injEq,heq_eq_eq,true_and]at h
  exact fun x=>iG (f x) (congrFun h x)
 |.ite b x y,h=>by
  simp only[fi,fm,fS.ite.injEq,true_and]at h
  exact⟨iG x h.1,iG y h.2⟩
 |.jM a b t,h=>by
  simp only[fi,fm,fS.b.injEq]at h
  exact⟨h.1,iG t h.2⟩
 |.fG a b t,h=>by
  simp only[fi,fm,fS.p.injEq]at h
  exact⟨h.1,iG t h.2⟩
 |.eqs a b t,h=>by
  simp only[fi,fm,fS.s.injEq]at h
  exact⟨h.1,iG t h.2⟩
 |.jX a b t,h=>by
  simp only[fi,fm,fS.q.injEq]at h
  exact⟨h.1,iG t h.2⟩
 |.gj body o t,h=>by
  simp only[fi,fm,fS.gj.injEq,heq_eq_eq,true_and]at h
  exact⟨fun z=>congrFun h.1 z,fun z=>iG _ (congrFun h.2.1 z),iG t h.2.2⟩
 |.iK body F t,h=>by
  simp only[fi,fm,fS.iK.injEq,heq_eq_eq,true_and]at h
  exact⟨fun z=>congrFun h.1 z,fun n z=>congrFun (congrFun h.2.1 n) z,fun n z=>iG _ (congrFun (congrFun h.2.2.1 n) z),iG t h.2.2.2⟩
/-! Lists of data of given shapes. -/
def eE:List ag->Type
 |[]=>Unit
 |[t]=>t.el
 |t::u::us=>t.el×eE (u::us)
def eV:(us:List ag)->eE us->List aj
 |[],_=>[]
 |[t],x=>[⟨t,x⟩]
 |t::u::us,x=>⟨t,x.1⟩::eV (u::us) x.2
def ga:(us:List ag)->List aj->Option (eE us)
 |[],vs=>match vs with
  |[]=>some ()
  |_=>none
 |[t],vs=>match vs with
  |[v]=>v.as t
  |_=>none
 |t::u::us,vs=>match vs with
  |v::vs=>match v.as t,ga (u::us) vs with
   |some x,some y=>some (x,y)
   |_,_=>none
  |[]=>none
theorem ag.beq_refl:∀t:ag,t.beq t=true
 |.int k=>by cases k<;>rfl
 |.bool=>rfl
 |.str=>rfl
 |.ab t=>beq_refl t
 |.unit=>rfl
 |.pair a b=>by simp only[ag.beq,beq_refl a,beq_refl b,Bool.and_self]
 |.ptr t=>beq_refl t
 |.fn f t=>by simp only[ag.beq,Nat.beq_refl,beq_refl t,Bool.and_self]
 |.err=>rfl
 |.cV=>rfl
 |.arr n t=>by simp only[ag.beq,Nat.beq_refl,beq_refl t,Bool.and_self]
 |.map a b=>by simp only[ag.beq,beq_refl a,beq_refl b,Bool.and_self]
theorem aj.Bu(t:ag)(x:t.el):aj.as ⟨t,x⟩ t=some x:=by
 unfold aj.as
 split
 ·rfl
 ·rename_i h
  exact absurd (ag.beq_refl t) (by rw[h];decide)
theorem A4:∀(us:List ag) (x:eE us),ga us (eV us x)=some x
 |[],_=>rfl
 |[t],x=>aj.Bu t x
 |t::u::us,x=>by
  have h:=A4 (u::us) x.2
  show(match aj.as ⟨t,x.1⟩ t,ga (u::us) (eV (u::us) x.2)with
   |some x,some y=>some (x,y)
   |_,_=>none)=some x
  rw[aj.Bu,h]
  rfl
theorem sG:∀(us:List ag) (vs:List aj) (x:eE us),ga us vs=some x->vs=eV us x
 |[],vs,x,h=>by
  unfold ga at h
  split at h
  ·rfl
  ·cases h
 |[t],vs,x,h=>by
  match vs,h with
  |[v],h=>
   have e:=aj.dC (v:=v) (u:=t) (x:=x) h
   subst e
   rfl
  |[],h=>cases h
  |_::_::_,h=>cases h
 |t::u::us,vs,x,h=>by
  unfold ga at h
  split at h
  ·rename_i v vs
   split at h
   ·rename_i a b h1 o
    cases h
    show v::vs=⟨t,a⟩::eV (u::us) b
    rw[<-sG (u::us) vs b o,aj.dC h1]
   ·cases h
  ·cases h
theorem nV:∀(us:List ag) (x:eE us),(eV us x).length=us.length
 |[],_=>rfl
 |[_],_=>rfl
 |_::u::us,x=>by
  show(eV (u::us) x.2).length+1=_
  rw[nV (u::us) x.2]
  rfl
theorem uZ:∀(us:List ag) (x:eE us) (v:aj),v∈eV us x->v.t∈us
 |[],_,v,h=>by cases h
 |[_],_,v,h=>by
  rcases List.mem_cons.1 h with rfl|h
  ·exact List.mem_cons_self
  ·cases h
 |t::u::us,x,v,h=>by
  rcases List.mem_cons.1 (show v∈⟨t,x.1⟩::eV (u::us) x.2 from h)with rfl|h
  ·exact List.mem_cons_self
  ·exact List.mem_cons_of_mem _ (uZ (u::us) x.2 v h)
/-! What is known of functions, as0 functions. -/
structure aZ where
 gu:List ag
 dZ:List ag
 gF:List ag
 fn:eE gu->Option (eE dZ)
def aZ.ba(F:aZ):jT:=⟨F.dZ.all ag.flat,F.dZ.length,F.gF,fun o ar=>match ga F.gu o,ga F.dZ ar with
 |some x,some y=>F.fn x=some y
 |_,_=>False⟩
structure aL(P:Program)(G:World->Prop) where
 f:Nat
 F:aZ
 ok:aY P G f F.ba
structure dp(P:Program)(G:World->Prop)(α β:Type) where
 f:Nat
 F:cJ α β
 X:ae->Option α
 fn:α->Option β
 ok:cF P G f F
 rel:∀x y,fn x=some y->F.rel x y
structure tf(P:Program)(G:World->Prop) where
 f:Nat
 e:Nat
 t:ag
 fn:List t.el->List t.el
 ok:wS P G f e t fun xs o=>o=fn xs
def cy(P:Program)(G:World->Prop)(n:Nat)(l:List (aL P G)):Env:=⟨P,G,n,l.map fun p=>(p.f,p.F.ba)⟩
def Mz{P:Program}{G:World->Prop}:List (aL P G)->Nat->Option aZ
 |[],_=>none
 |p::l,n=>bif Nat.beq p.f n then some p.F else Mz l n
theorem kb{P:Program}{G:World->Prop}{n:Nat}{l:List (aL P G)}{cx:bB}(o:cx.P=P)(O:cx.n=n)(U:∀w,Frame cx.bC w cx.X->G w):br (cy P G n l) cx:=
 ⟨o,O,U,fun f F h=>by
  obtain⟨p,W,e⟩:=List.mem_map.1 h
  cases e
  exact p.ok⟩
/-! Holes of a state. -/
inductive ij where
 |ab (i:Nat) (t:ag)
 |rw(r e:Nat) (t:ag)
 |ad (b i:Nat) (t:ag)
 |it (b:Nat)
 |mp (b:Nat) (k v:ag)
 |mm (b:Nat) (t:ag)
 |bj (b:Nat) (t:ag)
def ij.T:ij->Type
 |.ab _ t=>t.el
 |.rw _ _ t=>List t.el
 |.ad _ _ t=>t.el
 |.it _=>Nat
 |.mp _ k v=>List (k.el×v.el)
 |.mm _ t=>t.el
 |.bj _ t=>List t.el
def fP:List ij->Type
 |[]=>Unit
 |[h]=>h.T
 |h::g::o=>h.T×fP (g::o)
def OD(c:cw)(t:ag):Option (List t.el):=aj.as ⟨.ab c.t,c.xs⟩ (.ab t)
def Mg(s:Option ak)(t:ag):Option t.el:=match s with
 |some (.val u x)=>aj.as ⟨u,x⟩ t
 |some (.vptr u x)=>aj.as ⟨u,x⟩ t
 |_=>none
def ij.get(st:ae):(h:ij)->Option h.T
 |.ab i t=>Mg (look st.ab i) t
 |.rw r _ t=>match look st.rw r with
  |some c=>OD c t
  |none=>none
 |.ad b i t=>match look st.ad b with
  |some (.cells l _)=>Mg l[i]? t
  |_=>none
 |.it b=>match look st.ad b with
  |some (.iter _ p)=>some p
  |_=>none
 |.mp b k v=>match look st.ad b with
  |some (.mp k' v' ps)=>aj.as ⟨.map k' v',some ps⟩ (.map k v)|>.bind id
  |_=>none
 |.mm b t=>match look st.ad b with
  |some (.aO u x _)=>aj.as ⟨u,x⟩ t
  |_=>none
 |.bj b t=>match look st.ad b with
  |some (.bj _ k xs _)=>aj.as ⟨.ab k.u,xs⟩ (.ab t)
  |_=>none
def bW(st:ae):(o:List ij)->Option (fP o)
 |[]=>some ()
 |[h]=>h.get st
 |h::g::o=>match h.get st,bW st (g::o)with
  |some x,some y=>some (x,y)
  |_,_=>none
def om{α:Type}:List (Nat×α)->Nat->α->List (Nat×α)
 |[],i,v=>[(i,v)]
 |(k,u)::r,i,v=>bif Nat.beq k i then(k,v)::r else(k,u)::om r i v
def ij.put(st:ae):(h:ij)->h.T->ae
 |.ab i t,x=>{st with ab:=om st.ab i (.val t x)}
 |.rw r e t,xs=>{st with rw:=om st.rw r ⟨e,t,xs⟩}
 |.ad b i t,x=>match look st.ad b with
  |some (.cells l e)=>{st with ad:=om st.ad b (.cells (l.set i (.val t x)) e)}
  |_=>st
 |.it b,p=>match look st.ad b with
  |some (.iter s _)=>{st with ad:=om st.ad b (.iter s p)}
  |_=>st
 |.mp b k v,ps=>{st with ad:=om st.ad b (.mp k v ps)}
 |.mm b t,x=>match look st.ad b with
  |some (.aO _ _ e)=>{st with ad:=om st.ad b (.aO t x e)}
  |_=>st
 |.bj b t,z=>match look st.ad b with
  |some (.bj e k _ h)=>match aj.as ⟨.ab t,z⟩ (.ab k.u)with
   |some o=>{st with ad:=om st.ad b (.bj e k o h)}
   |none=>st
  |_=>st
def GI(st:ae):(o:List ij)->fP o->ae
 |[],_=>st
 |[h],x=>h.put st x
 |h::g::o,x=>GI (h.put st x.1) (g::o) x.2
def uT{α:Type}(l:List (Nat×α)):List Nat->List (Nat×α)
 |[]=>[]
 |k::o=>match look l k with
  |some v=>(k,v)::uT l o
  |none=>uT l o
def aR(O U ar:List Nat){o:List ij}(st:ae)(z:fP o):ae:=GI ⟨uT st.ab O,uT st.ad U,uT st.rw ar⟩ o z
/-! Hints: where ways meet, where rounds begin, which answers are wanted again. -/
inductive bc(P:Program)(G:World->Prop)(R:Type):Type 1
 |z
 |ah (n:Nat) (h:bc P G R)
 |a (u:ag) (f:u.el->bc P G R)
 |ac (us:List ag) (f:eE us->bc P G R)
 |u (i:Nat) (h:bc P G R)
 |t (h:bc P G R)
 |f (h:bc P G R)
 |c (x y:bc P G R)
 |T (h:bc P G R)
 |F (h:bc P G R)
 |j (o:List ij) (S:ae->fP o->ae) (O:fP o->Option R) (x:bc P G R) (y:fP o->bc P G R)
 |bw (o:List ij) (S:ae->fP o->ae) (F:Nat->fP o->Option R) (k:Nat) (y:(fP o->Option R)->fP o->bc P G R)
 |cg (m:Nat) (h:bc P G R)
 |Vk (m:Nat) (O:Bool->Option R) (h:Bool->bc P G R)
 |g (m:Nat) (O:Bool->Option R) (x y:bc P G R) (h:Bool->bc P G R)
 |kR (m:Nat) (o:List ij) (S:ae->fP o->ae) (O:fP o->Option R) (x y:bc P G R) (h:fP o->bc P G R)
 |bN {α β:Type} (B:dp P G α β) (ρ ρ':List (Nat×Nat)) (h:β->bc P G R)
 |Ju {α β:Type} (B:dp P G α β) (i j:Nat) (ρ ρ':List (Nat×Nat)) (h:β->bc P G R)
 |ci (Y:tf P G) (h:bc P G R)
 |rU (r:Nat) (h:bc P G R)
 |ur (n:Nat) (h:bc P G R)
 |jJ (a b c:List Nat) (h:bc P G R)
 |az (b c:List Nat) (h:bc P G R)
 |kp (r:Nat) (h:bc P G R)
 |md (a b c d:List Nat) (h:bc P G R)
 |nD (a b:List Nat) (c2 c3 c4 c5 c6:Nat) (h:bc P G R)
 |WZ (a b:List Nat) (i:Nat) (c d:List Nat) (h:bc P G R)
 |mk (h:bc P G R)
 |cU (Z:List (List Nat)) (h:bc P G R)
 |ew (U W ar:List Nat) (ρ:List (Nat×Nat))
 |un (d:Nat) (h:bc P G R)
 |Vj (U W ar:List Nat) (h:bc P G R)
variable {P:Program} {G:World->Prop}
def bc.dec:bc P G R->bc P G R
 |.ah n h=>match n with
  |0=>h
  |1=>h
  |n+2=>.ah (n+1) h
 |h=>h
def bc.fork:bc P G R->bc P G R×bc P G R
 |.t h=>(h,.z)
 |.f h=>(.z,h)
 |.c x y=>(x,y)
 |_=>(.z,.z)
/-! Questions of an operation. -/
inductive eX:Type 1
 |nil
 |k (p:Prop) (d:Decidable p) (q:eX)
 |t (u:ag) (aa:Option u.el) (p:u.el->Prop) (ok:∀y,aa=some y->p y) (q:u.el->eX)
 |c (us:List ag) (aa:Option (eE us)) (p:eE us->Prop) (ok:∀y,aa=some y->p y)
 |e (u:ag) (a b:Option u.el) (p:Prop) (ok:a=b->p) (q:eX)
def cH(o:List cq):Prop:=∀e∈o,e.aa=some e.v
def fc:eX->bc P G R->List cq->List aj->List Prop->(List aj->List Prop->bc P G R->List cq->bp R)->bp R
 |.nil,h,o,orc,ps,k=>k orc ps h o
 |.k p d q,h,o,orc,ps,k=>.ask (@aG p d) fun _=>fc q h o orc (ps++[p]) k
 |.t u aa p _ q,h,o,orc,ps,k=>match h with
  |.u i h'=>match o[i]? with
   |some e=>.jX ⟨u,aa⟩ ⟨e.u,e.aa⟩ (match aj.as ⟨e.u,e.v⟩ u with
    |some y=>fc (q y) h' o (orc++[⟨u,y⟩]) (ps++[p y]) k
    |none=>.ret none)
   |none=>.ret none
  |.a U g=>.ask aa fun y=>match aj.as ⟨u,y⟩ U with
   |some O=>fc (q y) (g O) (⟨u,aa,y⟩::o) (orc++[⟨u,y⟩]) (ps++[p y]) k
   |none=>.ret none
  |h=>.ask aa fun y=>fc (q y) h.dec (⟨u,aa,y⟩::o) (orc++[⟨u,y⟩]) (ps++[p y]) k
 |.c us aa p _,h,o,orc,ps,k=>match h with
  |.ac W g=>.ask aa fun y=>match ga W (eV us y)with
   |some O=>k (orc++eV us y) (ps++[p y]) (g O) o
   |none=>.ret none
  |h=>.ask aa fun y=>k (orc++eV us y) (ps++[p y]) h.dec o
 |.e u a b p _ q,h,o,orc,ps,k=>.jX ⟨u,a⟩ ⟨u,b⟩ (fc q h o orc (ps++[p]) k)
abbrev eX.same(u:ag)(a b:Option u.el)(q:eX):eX:=.e u a b (a=b) id q
theorem nQ:∀{l:List Prop} {p:Prop},bJ l->p->bJ (l++[p])
 |[],_,_,h=>⟨h,trivial⟩
 |_::_,_,⟨h1,o⟩,h=>⟨h1,nQ o h⟩
theorem cH.cons{o:List cq}(h:cH o){u:ag}{aa:Option u.el}{y:u.el}(O:aa=some y):cH (⟨u,aa,y⟩::o):=fun e he=>by
 rcases List.mem_cons.1 he with rfl|he
 ·exact O
 ·exact h e he
theorem cH.nil:cH []:=fun _ h=>by cases h
structure bz(t:bp R)(r:R):Prop where
 ok:t.Ok
 den:t.den=some r
theorem bz.no{p:Prop}{r:R}(h:bz (.ret none) r):p:=by cases h.den
theorem bz.ask{r:R}{β:Type}{aa:Option β}{f:β->bp R}(h:bz (.ask aa f) r):∃x,aa=some x/\bz (f x) r:=
 let⟨x,h1,o⟩:=bind_some h.den
 ⟨x,h1,h.ok x,o⟩
theorem bz.ite{r:R}{b:Bool}{x y:bp R}(h:bz (.ite b x y) r):(b=true/\bz x r)\/(b=false/\bz y r):=by
 cases b with
 |true=>exact .inl ⟨rfl,h.ok.1,h.den⟩
 |false=>exact .inr ⟨rfl,h.ok.2,h.den⟩
theorem bz.jM{r:R}{a b:Bool}{t:bp R}(h:bz (.jM a b t) r):a=b/\bz t r:=⟨h.ok.1,h.ok.2,h.den⟩
theorem bz.fG{r:R}{a b:List Prop}{t:bp R}(h:bz (.fG a b t) r):a=b/\bz t r:=⟨h.ok.1,h.ok.2,h.den⟩
theorem bz.eqs{r:R}{a b:Option ae}{t:bp R}(h:bz (.eqs a b t) r):a=b/\bz t r:=⟨h.ok.1,h.ok.2,h.den⟩
theorem bz.jX{r:R}{a b:to}{t:bp R}(h:bz (.jX a b t) r):a=b/\bz t r:=⟨h.ok.1,h.ok.2,h.den⟩
theorem bz.gj{r:R}{A:Type}{body:A->bp R}{o:A->Option R}{t:bp R}(h:bz (.gj body o t) r):(∀z,o z=some r->bz (body z) r)/\bz t r:=
 ⟨fun z O=>⟨h.ok.2.1 z,(h.ok.1 z).trans O⟩,h.ok.2.2,h.den⟩
theorem bz.iK{r:R}{A:Type}{body:(A->Option R)->A->bp R}{F:Nat->A->Option R}{t:bp R}(h:bz (.iK body F t) r):
  (∀z,F 0 z=none)/\(∀n z,F (n+1) z=some r->bz (body (F n) z) r)/\bz t r:=
 ⟨h.ok.1,fun n z o=>⟨h.ok.2.2.1 n z,(h.ok.2.1 n z).trans o⟩,h.ok.2.2.2,h.den⟩
def OB(k:List aj->List Prop->bc P G R->List cq->bp R)(r:R):Prop:=
 ∃orc ps h o,bJ ps/\cH o/\bz (k orc ps h o) r
theorem jL{r:R}{k:List aj->List Prop->bc P G R->List cq->bp R}:∀(q:eX) {h:bc P G R} {W:List cq} {orc:List aj} {ps:List Prop},cH W->bJ ps->
  bz (fc q h W orc ps k) r->OB k r
 |.nil,h,W,orc,ps,hk,U,o=>⟨orc,ps,h,W,U,hk,o⟩
 |.k p d q,h,W,orc,ps,hk,U,o=>by
  obtain⟨x,h1,O⟩:=o.ask
  exact jL q hk (nQ U (dy h1)) O
 |.t u aa p ok q,h,W,orc,ps,hk,U,o=>by
  unfold fc at o
  split at o
  ·rename_i i h'
   split at o
   ·rename_i e Z
    obtain⟨az,o⟩:=o.jX
    have la:=hk e (List.mem_of_getElem? Z)
    obtain⟨lc,ld,Y⟩:=e
    simp only[to.mk.injEq]at az
    obtain⟨rfl,az⟩:=az
    simp only[heq_eq_eq]at az
    subst az
    simp only[aj.Bu]at o
    exact jL (q Y) hk (nQ U (ok Y la)) o
   ·exact o.no
  ·rename_i lf g
   obtain⟨y,h1,O⟩:=o.ask
   split at O
   ·exact jL (q y) (hk.cons h1) (nQ U (ok y h1)) O
   ·exact O.no
  ·obtain⟨y,h1,O⟩:=o.ask
   exact jL (q y) (hk.cons h1) (nQ U (ok y h1)) O
 |.c us aa p ok,h,W,orc,ps,hk,U,o=>by
  unfold fc at o
  split at o
  ·obtain⟨y,h1,O⟩:=o.ask
   split at O
   ·exact⟨_,_,_,_,nQ U (ok y h1),hk,O⟩
   ·exact O.no
  ·obtain⟨y,h1,O⟩:=o.ask
   exact⟨_,_,_,_,nQ U (ok y h1),hk,O⟩
 |.e u a b p ok q,h,W,orc,ps,hk,U,o=>by
  obtain⟨az,o⟩:=o.jX
  simp only[to.mk.injEq,heq_eq_eq,true_and]at az
  exact jL q hk (nQ U (ok az)) o
end Go.Ev
namespace Go.Ev
open Go Go.RowKit
variable [b6]
variable {R:Type} {P:Program} {G:World->Prop}
def nl{u:ag}(xs:List u.el)(n:Int):eX:=.t u (ao xs n) (fun y=>ao xs n=some y) (fun _ h=>h) (fun _=>.nil)
def wd:(t:ag)->t.el->List nr->eX
 |_,_,[]=>.nil
 |t,x,.f off u::p=>match cE t x off u with
  |some y=>wd u y p
  |none=>.nil
 |.arr _ u,xs,.x j _::p=>.t u (ao (show List u.el from xs) j) (fun y=>ao (show List u.el from xs) j=some y) (fun _ h=>h) (fun y=>wd u y p)
 |_,_,.x _ _::_=>.nil
def FZ(b:Int):eX:=.k (b≠0) inferInstance .nil
def LK(b:Int):eX:=.k (0<=b) inferInstance .nil
def Uj(a b:List UInt8):eX:=.k (a.length+b.length<=lim) inferInstance .nil
def T3(a:Option (Option (Nat×Int))):eX:=.k (a≠some none) inferInstance .nil
def JU(s:List UInt8):eX:=.k (s.length<=lim) inferInstance .nil
def Rl(o:BinOp)(y:Operand)(a b:aj):eX:=
 match a,b with
 |⟨.int _,_⟩,⟨.int _,b⟩=>match o with
  |.quo=>FZ b
  |.rem=>FZ b
  |.shl=>LK b
  |.shr=>LK b
  |_=>.nil
 |⟨.str,a⟩,⟨.str,b⟩=>match o with
  |.add=>Uj a b
  |_=>.nil
 |⟨.err,a⟩,⟨.err,_⟩=>match uU y with
  |true=>.nil
  |false=>T3 a
 |_,_=>.nil
def Qi(P:Program)(st:ae)(src o:TypeId)(x:Operand):eX:=
 match(aP st x).map (nE st),P.underlying o with
 |some (.val (.ab (.int .i32)) xs),some .string=>JU (cM xs)
 |some (.val .str s),some (.slice e)=>match P.underlying e with
  |some (.int .i32)=>JU s
  |_=>.nil
 |_,_=>.nil
theorem JD{F:aZ}{o:List aj}{x:eE F.gu}(h:ga F.gu o=some x)(y:eE F.dZ)(O:F.fn x=some y):F.ba.rel o (eV F.dZ y):=by
 show(match ga F.gu o,ga F.dZ (eV F.dZ y)with
  |some x,some y=>F.fn x=some y
  |_,_=>False)
 rw[h,A4]
 exact O
def U2(Y:List (aL P G))(E:Env)(st:ae)(c:Call):eX:=
 match c.callee with
 |.value x=>match tJ E st x with
  |some (f,F,l)=>match tN E st F.flat c.argTypes.toList c.args.toList,Mz Y f with
   |some W,some U=>match h:ga U.gu (W++l)with
    |some x=>.c U.dZ (U.fn x) (fun y=>U.ba.rel (W++l) (eV U.dZ y)) (JD h)
    |none=>.nil
   |_,_=>.nil
  |none=>.nil
 |.builtin .len=>match c.args.toList with
  |[x]=>match aP st x with
   |some (.sub b i)=>match look st.ad b with
    |some (.bj _ k xs none)=>nl (u:=k.u) xs i
    |_=>.nil
   |_=>.nil
  |_=>.nil
 |.builtin .append=>match c.args.toList,c.argTypes.toList with
  |[.tmp a,x],[t,O]=>match look st.ab a with
   |some (.sub b i)=>match look st.ad b with
    |some (.bj _ k xs none)=>.t k.u (ao xs i) (fun y=>ao xs i=some y) (fun _ h=>h) fun Z=>match cE k.u Z k.off (.ab k.t)with
     |some o=>match mN E.P st k.t O x with
      |some la=>.k ((fe o).length+la.length<=lim) inferInstance .nil
      |none=>.nil
     |none=>.nil
    |_=>.nil
   |some (.osl b)=>match look st.ad b,aP st x with
    |some (.bj _ k xs none),some (.osl lc)=>match look st.ad lc with
     |some (.bj _ ld lf none)=>match aj.as ⟨.ab ld.u,lf⟩ (.ab k.u)with
      |some o=>.k (xs.length+(fe o).length<=lim) inferInstance .nil
      |none=>.nil
     |_=>.nil
    |_,_=>.nil
   |_=>match up E.P st 0 t (.tmp a)with
    |some (_,r)=>match mN E.P st r.t O x with
     |some o=>.k (r.xs.length+o.length<=lim) inferInstance .nil
     |none=>.nil
    |none=>.nil
  |[s,x],[t,O]=>match up E.P st 0 t s with
   |some (_,r)=>match mN E.P st r.t O x with
    |some o=>.k (r.xs.length+o.length<=lim) inferInstance .nil
    |none=>.nil
   |none=>.nil
  |_,_=>.nil
 |.builtin .copy=>match c.args.toList,c.argTypes.toList with
  |[x,y],[_,O]=>match aP st x with
   |some (.row r)=>match look st.rw r with
    |some c=>match mN E.P st c.t O y with
     |some o=>.k (o.length<=c.xs.length) inferInstance .nil
     |none=>.nil
    |none=>.nil
   |_=>.nil
  |_,_=>.nil
 |_=>.nil
def Km(k:ef)(xs:List k.u.el)(i j:Int)(q:k.u.el->(ag.ab k.t).el->k.t.el->eX):eX:=
 .t k.u (ao xs i) (fun y=>ao xs i=some y) (fun _ h=>h) fun O=>match cE k.u O k.off (.ab k.t)with
  |some o=>.t k.t (ao (fe o) j) (fun y=>ao (fe o) j=some y) (fun _ h=>h) fun z=>q O o z
  |none=>.nil
def Eb:Op->Bool
 |.call c=>match c.callee with
  |.value _=>true
  |_=>false
 |_=>false
def IE:Op->Bool
 |.assign (.const (.slice none 0 0))=>true
 |.move (.const (.slice none 0 0))=>true
 |.makeSlice _ _ _=>true
 |_=>false
def I4(E:Env)(st:ae)(aa:Oper):eX:=
 match aa.op with
 |.makeSlice t l c=>match ed E.P t,eG (aP st l),eG (aP st c)with
  |some (e,_),some n,some o=>match pL E.P e with
   |some k=>.k (0<=n/\n<=o/\o<=(lim:Int)) inferInstance (.same k.u (cn k.u (cj k.u) k.off ⟨.ab k.t,[]⟩) (some (cj k.u)) (.same (.ab k.t) (cE k.u (cj k.u) k.off (.ab k.t)) (some (show(ag.ab k.t).el from[])) .nil))
   |none=>.nil
  |_,_,_=>.nil
 |_=>.nil
def jC(lf:List (aL P G))(E:Env)(O:ae)(aa:Oper):eX:=
 let st:=iC (xg O (iD E aa.op)) (iD E aa.op)
 match aa.op with
 |.binOp lg _ x y _=>match dA st x,dA st y with
  |some a,some b=>Rl lg y a b
  |_,_=>.nil
 |.convert src lh x=>Qi E.P st src lh x
 |.index _ x i=>match dA st x,eG (aP st i)with
  |some ⟨.str,s⟩,some n=>.t (.int .u8) (fH s n) (fun b=>fH s n=some b) (fun _ h=>h) (fun _=>.nil)
  |some ⟨.arr _ u,xs⟩,some n=>nl (u:=u) xs n
  |_,_=>.nil
 |.indexAddr t x i=>match aP st x,eG (aP st i)with
  |some (.val (.ab u) xs),some n=>nl (u:=u) xs n
  |some (.row r),some n=>match look st.rw r with
   |some c=>nl c.xs n
   |none=>.nil
  |some (.vptr (.arr _ u) xs),some n=>nl (u:=u) xs n
  |some (.dE _ _),some n=>match ty E.P t with
   |some (.arr len _)=>.k (0<=n/\n<(len:Int)) inferInstance .nil
   |_=>.nil
  |some (.dV r i0 li lj),some n=>match look st.rw r,ty E.P t with
   |some c,some (.arr len u)=>match c.t.beq u&&(i0==0&&(Nat.beq li 0&&Nat.beq lj c.t.cells))with
    |true=>.t c.t (ao c.xs n) (fun y=>ao c.xs n=some y) (fun _ h=>h) (fun _=>.k (c.xs.length=len) inferInstance .nil)
    |false=>.nil
   |_,_=>.nil
  |some (.osl b),some n=>match look st.ad b with
   |some (.aT _ _ xs)=>.k (0<=n/\n<(xs.length:Int)) inferInstance .nil
   |some (.bj _ _ xs _)=>.k (0<=n/\n<(xs.length:Int)) inferInstance .nil
   |_=>.nil
  |some (.sub b i0),some n=>match look st.ad b with
   |some (.bj _ k xs none)=>.t k.u (ao xs i0) (fun y=>ao xs i0=some y) (fun _ h=>h) fun o=>match cE k.u o k.off (.ab k.t)with
    |some U=>.k (0<=n/\n<((fe U).length:Int)) inferInstance .nil
    |none=>.nil
   |_=>.nil
  |_,_=>.nil
 |.load _ x=>match aP st x with
  |some (.dW b i _ _)=>match look st.ad b with
   |some (.bj _ k xs none)=>nl (u:=k.u) xs i
   |_=>.nil
  |some (.fD b i j _ _)=>match look st.ad b with
   |some (.bj _ k xs none)=>Km k xs i j fun _ _ _=>.nil
   |_=>.nil
  |some (.dV r i _ _)=>match look st.rw r with
   |some c=>nl c.xs i
   |none=>.nil
  |some (.dE b p)=>match look st.ad b with
   |some (.aO t x _)=>wd t x p
   |_=>.nil
  |_=>.nil
 |.store _ x v=>match aP O x with
  |some (.dW b i off _)=>match look O.ad b,aP O v with
   |some (.bj _ k xs none),some (.val Z z)=>.t k.u (ao xs i) (fun y=>ao xs i=some y) (fun _ h=>h) fun o=>match cn k.u o off ⟨Z,z⟩,cn k.u o k.off ⟨.ab k.t,[]⟩with
    |some W,some Y=>.same k.u (cn k.u W k.off ⟨.ab k.t,[]⟩) (some ((cn k.u Y off ⟨Z,z⟩).getD Y)) (.same (.ab k.t) (cE k.u W k.off (.ab k.t)) (cE k.u o k.off (.ab k.t)) .nil)
    |_,_=>.nil
   |some (.bj _ k xs h),some (.row r)=>match look O.rw r with
    |some c=>match aj.as ⟨.ab c.t,c.xs⟩ (.ab k.t)with
     |some U=>.t k.u (ao xs i) (fun y=>ao xs i=some y) (fun _ h=>h) fun o=>match cn k.u o k.off ⟨.ab k.t,U⟩with
      |some W=>.same k.u (cn k.u W k.off ⟨.ab k.t,[]⟩) (cn k.u o k.off ⟨.ab k.t,[]⟩) (.same (.ab k.t) (cE k.u W k.off (.ab k.t)) (some U) (match h with
       |none=>.nil
       |some i0=>.e (.int .i64) (some i0) (some i) (i0=i) Option.some.inj .nil))
      |none=>.nil
     |none=>.nil
    |none=>.nil
   |_,_=>.nil
  |some (.fD b i j off _)=>match look O.ad b,aP O v with
   |some (.bj _ k xs none),some (.val Z z)=>Km k xs i j fun o U z0=>match cn k.t z0 off ⟨Z,z⟩with
    |some ld=>match cn k.u o k.off ⟨.ab k.t,(fe U).set j.toNat ld⟩with
     |some W=>.same k.u (cn k.u W k.off ⟨.ab k.t,[]⟩) (cn k.u o k.off ⟨.ab k.t,[]⟩) (.same (.ab k.t) (cE k.u W k.off (.ab k.t)) (some ((fe U).set j.toNat ld)) .nil)
     |none=>.nil
    |none=>.nil
   |_,_=>.nil
  |some (.dV r i _ _)=>match look O.rw r with
   |some c=>nl c.xs i
   |none=>.nil
  |some (.dE b p)=>match look O.ad b with
   |some (.aO t x _)=>wd t x p
   |_=>.nil
  |some (.gc b n)=>match look O.ad b with
   |some (.aT _ _ xs)=>.k (0<=n/\n<(xs.length:Int)) inferInstance .nil
   |_=>.nil
  |_=>.nil
 |.slice _ x la lc none=>match aP st x with
  |some (.val .str s)=>match dD.tX st la,dD.uo st lc (List.length (α:=UInt8) s)with
   |some l,some h=>.t .str (dK (show List UInt8 from s) l h) (fun y=>dK (show List UInt8 from s) l h=some y) (fun _ h=>h) (fun _=>.nil)
   |_,_=>.nil
  |some (.val (.ab u) xs)=>match dD.tX st la,dD.uo st lc (List.length (α:=u.el) xs)with
   |some l,some h=>.t (.ab u) (dK (show List u.el from xs) l h) (fun y=>dK (show List u.el from xs) l h=some y) (fun _ h=>h) (fun _=>.nil)
   |_,_=>.nil
  |some (.row r)=>match look st.rw r,lc with
   |some c,some h=>match eG (aP st h)with
    |some n=>.k (0<=n/\n<=(c.xs.length:Int)) inferInstance .nil
    |none=>.nil
   |_,_=>.nil
  |some (.dV r _ _ _)=>match look st.rw r,la with
   |some c,some l=>match eG (aP st l),uY E.P (match aa.op with|.slice t _ _ _ _=>t|_=>0)with
    |some n,some (len,_)=>.t (.ab c.t) (dK c.xs n (c.xs.length:Int)) (fun y=>dK c.xs n (c.xs.length:Int)=some y) (fun _ h=>h) (fun _=>.k (c.xs.length=len) inferInstance .nil)
    |_,_=>.nil
   |_,_=>.nil
  |_=>.nil
 |.makeSlice _ l c=>match eG (aP st l),eG (aP st c)with
  |some n,some k=>.k (0<=n/\n<=k/\k<=(lim:Int)) inferInstance .nil
  |_,_=>.nil
 |.buildSlice t _ ps=>match ps.toList with
  |[(0,x)]=>match aP st x,ed E.P t with
   |some (.eH l),some (e,_)=>match pL E.P e with
    |some k=>match l[k.off]?,pl k.off k.t 0 l with
     |some (.r r),some lk=>match look st.rw r,pack k.u lk with
      |some c,some (Y,[])=>match aj.as ⟨.ab c.t,c.xs⟩ (.ab k.t)with
       |some U=>match cn k.u Y k.off ⟨.ab k.t,U⟩with
        |some o=>.same k.u (cn k.u o k.off ⟨.ab k.t,[]⟩) (some Y) (.same (.ab k.t) (cE k.u o k.off (.ab k.t)) (some U) .nil)
        |none=>.nil
       |none=>.nil
      |_,_=>.nil
     |_,_=>.nil
    |none=>.nil
   |_,_=>.nil
  |_=>.nil
 |.call c=>U2 lf E st c
 |_=>.nil
variable {cx:bB} {st st':ae} {T:Array Value} {w:World} {E:Env} {Q:cX} {ops:Array Oper} {l:List Oper}
def fg(P:Program)(G:World->Prop)(R:Type):=ae->bc P G R->List cq->bp R
def fin(E:Env)(st:ae)(aa:Oper)(k:fg P G R)(orc:List aj)(ps:List Prop)(h:bc P G R)(o:List cq):bp R:=
 match mS E st aa orc with
 |some (st',[],ob)=>.fG ob ps (k st' h o)
 |_=>.ret none
def w6(W:List (aL P G))(E:Env)(st:ae)(aa:Oper)(h:bc P G R)(o:List cq)(k:fg P G R):bp R:=
 match Eb aa.op,h with
 |true,.ci O h=>match CN st aa O.f with
  |some r=>match look st.rw r with
   |some c=>match aj.as ⟨.ab c.t,c.xs⟩ (.ab O.t),Nat.beq c.e O.e with
    |some xs,true=>match B5 st aa E.n r ⟨O.e,O.t,O.fn xs⟩with
     |some st'=>k st' h o
     |none=>.ret none
    |_,_=>.ret none
   |none=>.ret none
  |none=>.ret none
 |true,.bN B ρ ρ' Y=>match pS E st aa B.F.n B.f ρ with
  |some U=>match B.X U with
   |some x=>.eqs (some U) (some (B.F.S x)) (.ask (B.fn x) fun y=>match kG st (B.F.be x y) aa B.F.n E.n ρ ρ' (B.F.ar x y)with
    |some st'=>k st' (Y y) o
    |none=>.ret none)
   |none=>.ret none
  |none=>.ret none
 |true,.Ju B i j ρ ρ' Y=>match ghost E.P st aa i j with
  |some st1=>match Ex E st1 aa B.F.n B.f ρ i j with
   |some U=>match B.X U with
    |some x=>.eqs (some U) (some (B.F.S x)) (.ask (B.fn x) fun y=>match kG st1 (B.F.be x y) aa B.F.n E.n ρ ρ' (B.F.ar x y)with
     |some st'=>k st' (Y y) o
     |none=>.ret none)
    |none=>.ret none
   |none=>.ret none
  |none=>.ret none
 |_,h=>match IE aa.op with
  |true=>match h with
   |.mk h=>fc (I4 E st aa) h o [⟨.unit,()⟩] [] (fin E st aa k)
   |h=>fc (jC W E st aa) h.dec o [] [] (fin E st aa k)
  |false=>match aa.op with
  |.next x true=>match aP st x with
   |some (.iter b)=>match look st.ad b with
    |some (.iter s p)=>.ite (decide (p<s.length)) (fin E st aa k [gY true] [p<s.length] h.fork.1 o) (fin E st aa k [gY false] [s.length<=p] h.fork.2 o)
    |_=>.ret none
   |_=>.ret none
  |_=>match h with
   |.un d h=>match Nat.beq (aa.dst.getD 0) d with
    |true=>fc (jC W E st aa) h o [⟨.unit,()⟩] [] (fin E st aa k)
    |false=>fc (jC W E st aa) (.un d h) o [] [] (fin E st aa k)
   |h=>fc (jC W E st aa) h o [] [] (fin E st aa k)
def ux(o:List (aL P G))(E:Env)(st:ae)(aa:Oper)(h:bc P G R)(O:List cq)(k:fg P G R):bp R:=
 match Eb aa.op,h with
 |true,.rU r h'=>match look st.rw r,aa.guard with
  |some c,none=>w6 o E (st.freeze r c) aa h' O k
  |_,_=>.ret none
 |_,h=>w6 o E st aa h O k
def wu(ops:Array Oper)(st:ae)(g:Nat×Bool):Option (Nat×Bool):=
 match(ops[g.1]?).bind (·.dst)with
 |some d=>match look st.ab d with
  |some (.val .bool b)=>some (d,b)
  |_=>none
 |none=>none
def iJ(st:ae)(o:Nat):ae:={st with ab:=del st.ab o}
def qV(cv:List Oper->ae->Option (ae×List aj×List Prop))(l:List Oper)(st:ae)(o:Nat)(b:Bool)(d:Nat):Option (ae×Bool):=
 match cv l (gX st o b)with
 |some (s,[],[])=>match look s.ab d with
  |some (.val .bool x)=>match s.norm (d::cR (del (iJ st o).ab d)) (cR st.ad) (cR st.rw)with
   |some O=>some (O,x)
   |none=>none
  |_=>none
 |_=>none
def pN(o:List ij)(S:fP o->ae)(O:fP o->Option R)(st:ae):bp R:=
 match bW st o with
 |some z=>.eqs (st.norm (cR (S z).ab) (cR (S z).ad) (cR (S z).rw)) (some (S z)) (.ret (O z))
 |none=>.ret none
def sT(o:ae)(d:Nat)(O:Bool->Option R)(st:ae):bp R:=
 match look st.ab d with
 |some (.val .bool v)=>.eqs (st.norm (d::cR (del o.ab d)) (cR o.ad) (cR o.rw)) (some (o.put d (.val .bool v))) (.ret (O v))
 |_=>.ret none
def AN(l:List Oper)(m:Nat):Option Nat:=match l[m]? with
 |some aa=>aa.dst
 |none=>none
abbrev vi(P:Program)(G:World->Prop)(R:Type):=ae->Oper->bc P G R->List cq->fg P G R->bp R
def gl(O:Nat)(fa:ae->List Oper->Option (ae×List Oper))(step:vi P G R)(cv:List Oper->ae->Option (ae×List aj×List Prop))(ops:Array Oper):Nat->List Oper->ae->bc P G R->List cq->fg P G R->bp R
 |0,_,_,_,_,_=>.ret none
 |n+1,lj,st,h,U,K=>match lj with
  |[]=>K st h U
  |aa::l=>match aa.guard with
   |none=>match fa st (aa::l)with
    |some (st',lk)=>gl O fa step cv ops n lk st' h U K
    |none=>step st aa h U fun st' h' lc=>gl O fa step cv ops n l st' h' lc K
   |some g=>match h with
    |.cg m h'=>match wu ops st g,AN (aa::l) m with
     |some (o,b),some d=>match qV cv ((aa::l).take (m+1)) st o true d,qV cv ((aa::l).take (m+1)) st o false d with
      |some (ld,Y),some (lf,Z)=>.eqs (some (gX st o b)) (some st) (.eqs (some ld) (some ((iJ st o).put d (.val .bool Y))) (.eqs (some lf) (some ((iJ st o).put d (.val .bool Z)))
        (gl O fa step cv ops n (l.drop m) ((iJ st o).put d (.val .bool (bif b then Y else Z))) h' U K)))
      |_,_=>.ret none
     |_,_=>.ret none
    |.Vk m W la=>match wu ops st g,AN (aa::l) m with
     |some (o,b),some d=>match qV cv ((aa::l).take (m+1)) st o true d,qV cv ((aa::l).take (m+1)) st o false d with
      |some (ld,Y),some (lf,Z)=>.eqs (some (gX st o b)) (some st) (.eqs (some ld) (some ((iJ st o).put d (.val .bool Y))) (.eqs (some lf) (some ((iJ st o).put d (.val .bool Z)))
        (.gj (fun v=>gl O fa step cv ops n (l.drop m) ((iJ st o).put d (.val .bool v)) (la v) [] K) W (.ret (W (bif b then Y else Z))))))
      |_,_=>.ret none
     |_,_=>.ret none
    |.g m W lg lh la=>match wu ops st g,AN (aa::l) m with
     |some (o,b),some d=>.eqs (some (gX st o b)) (some st) (.gj (fun v=>gl O fa step cv ops n (l.drop m) ((iJ st o).put d (.val .bool v)) (la v) [] K) W
       (.ite b (gl O fa step cv ops n ((aa::l).take (m+1)) (gX st o true) lg U fun st' _ _=>sT (iJ st o) d W st')
        (gl O fa step cv ops n ((aa::l).take (m+1)) (gX st o false) lh U fun st' _ _=>sT (iJ st o) d W st')))
     |_,_=>.ret none
    |.kR m li S W lg lh la=>match wu ops st g with
     |some (o,b)=>.eqs (some (gX st o b)) (some st) (.gj (fun z=>gl O fa step cv ops n (l.drop m) (S st z) (la z) [] K) W
       (.ite b (gl O fa step cv ops n ((aa::l).take (m+1)) (gX st o true) lg U fun st' _ _=>pN li (S st) W st')
        (gl O fa step cv ops n ((aa::l).take (m+1)) (gX st o false) lh U fun st' _ _=>pN li (S st) W st')))
     |none=>.ret none
    |h=>match eK ops st aa with
     |some true=>step st aa h.dec U fun st' h' lc=>gl O fa step cv ops n l st' h' lc K
     |some false=>match aa.dst with
      |some d=>match Nat.blt d O with
       |true=>gl O fa step cv ops n l (st.put d .undef) h.dec U K
       |false=>.ret none
      |none=>gl O fa step cv ops n l st h.dec U K
     |none=>.ret none
def KS(E:Env)(st:ae)(aa:Oper)(d:Nat)(k:fg P G R)(orc:List aj)(ps:List Prop)(h:bc P G R)(o:List cq):bp R:=
 match gd E st aa orc with
 |some ⟨aJ,[],ob⟩=>.fG ob ps (k (st.put d aJ) h o)
 |_=>.ret none
def A1(o:List (aL P G))(E:Env):vi P G R:=fun st aa h O k=>
 match aa.dst with
 |some d=>match Nat.blt d E.n with
  |true=>fc (jC o E st aa) h O [] [] (KS E st aa d k)
  |false=>.ret none
 |none=>.ret none
def Hi(E:Env)(st:ae)(aa:Oper)(d:Nat)(k:fg P G R)(orc:List aj)(ps:List Prop)(h:bc P G R)(o:List cq):bp R:=
 match gd E st aa orc with
 |some ⟨aJ,[],ob⟩=>match vR E.P aa aJ with
  |true=>.fG ob ps (k (st.put d aJ) h o)
  |false=>.ret none
 |_=>.ret none
def Az(o:List (aL P G))(E:Env):vi P G R:=fun st aa h O k=>
 match aa.dst with
 |some d=>match Nat.blt d E.n with
  |true=>fc (jC o E st aa) h O [] [] (Hi E st aa d k)
  |false=>.ret none
 |none=>.ret none
def qy(o:List (aL P G))(E:Env)(ops:Array Oper)(l:List Oper):ae->bc P G R->List cq->fg P G R->bp R:=gl E.n (xE E) (ux o E) (fun l st=>fX E ops l st []) ops 5000 l
def oA(o:List (aL P G))(E:Env)(ops:Array Oper)(l:List Oper):ae->bc P G R->List cq->fg P G R->bp R:=gl E.n (fun _ _=>none) (A1 o E) (fun l st=>gB E ops l st []) ops 5000 l
def xx(o:List (aL P G))(E:Env)(ops:Array Oper)(l:List Oper):ae->bc P G R->List cq->fg P G R->bp R:=gl E.n (fun _ _=>none) (Az o E) (fun _ _=>none) ops 5000 l
def sO(o:List (aL P G))(E:Env)(ops:Array Oper)(aa:Oper)(d:Nat)(orc:List aj)(ps:List Prop)(U:List Nat)(K:fg P G R):List Nat->ae->bc P G R->List cq->bp R
 |[],st,h,O=>qy o E ops (bx ops U) st h O K
 |c::Y,st,h,O=>match ops[c]? with
  |some W=>match eK ops st W with
   |some true=>ux o E st W h O fun st' h' Z=>match gd E st' aa orc,look st'.ab d with
    |some r,some aJ=>match py aJ with
     |true=>.eqs (some ⟨[(d,r.aJ)],[],[]⟩) (some ⟨[(d,aJ)],[],[]⟩) (.fG r.ob ps (sO o E ops aa d orc ps U K Y st' h' Z))
     |false=>.ret none
    |_,_=>.ret none
   |_=>.ret none
  |none=>.ret none
def Ii(O:List (aL P G))(E:Env)(aa:Oper)(d:Nat)(K:List aj->List Prop->fg P G R):fg P G R:=fun st h o=>
 fc (jC O E st aa) h o [] [] fun orc ps h o=>match gd E st aa orc with
  |some r=>.fG r.ob ps (K orc ps (st.put d r.aJ) h o)
  |none=>.ret none
def yg(O:List (aL P G))(E:Env)(ops:Array Oper)(K:fg P G R):List Nat->ae->bc P G R->List cq->bp R
 |[],st,h,o=>K st h o
 |c::C,st,h,o=>match ops[c]? with
  |some aa=>match eK ops st aa,aa.dst with
   |some true,some d=>match Nat.blt d E.n with
    |true=>fc (jC O E st aa) h o [] [] fun orc ps h o=>match yR E st aa orc with
     |some ⟨aJ,_,ob⟩=>.fG ob ps (yg O E ops K C (st.put d aJ) h o)
     |none=>.ret none
    |false=>.ret none
   |_,_=>.ret none
  |none=>.ret none
/-! Regions gone through in any order. -/
inductive fI(P:Program)(G:World->Prop):Type 1
 |aa (orc:List aj) (ps:List Prop)
 |b {α β:Type} (z:Option Nat) (B:dp P G α β) (ρ ρ':List (Nat×Nat)) (x:α) (y:β)
def pc:fI P G->Prop
 |.aa _ ps=>bJ ps
 |.b _ B _ _ x y=>B.fn x=some y
def sr(st:ae):Option Nat->Option ae
 |none=>some st
 |some r=>match look st.rw r with
  |some c=>some (st.freeze r c)
  |none=>none
def isAny:ak->Bool
 |.any=>true
 |_=>false
def H9(s:ae):Option ae:=s.norm (cR (s.ab.filter fun p=>!isAny p.2)) (cR s.ad) (cR s.rw)
def O5(E:Env)(st:ae)(aa:Oper):fI P G->Option ae
 |.aa orc _=>match mS E st aa orc with
  |some (st',[],_)=>H9 st'
  |_=>none
 |.b z B ρ ρ' x y=>match sr st z with
  |some st=>match kG st (B.F.be x y) aa B.F.n E.n ρ ρ' (B.F.ar x y)with
   |some st'=>H9 st'
   |none=>none
  |none=>none
def tt:List (Nat×fI P G)->Nat->Option (fI P G)
 |[],_=>none
 |(k,v)::r,n=>bif Nat.beq k n then some v else tt r n
def pe(E:Env)(ops:Array Oper)(o:List (Nat×fI P G))(st:ae):List Nat->Option ae
 |[]=>some st
 |i::O=>match pe E ops o st O with
  |some s=>match ops[i]?,tt o i with
   |some aa,some cU=>O5 E s aa cU
   |_,_=>none
  |none=>none
def Dt(E:Env)(s:ae)(aa:Oper)(t:ae)(rest:bp R):fI P G->bp R
 |.aa orc ps=>match mS E s aa orc with
  |some (o,[],ob)=>.eqs (o.norm (cR t.ab) (cR t.ad) (cR t.rw)) (some t) (.fG ob ps rest)
  |_=>.ret none
 |.b z B ρ ρ' x y=>match sr s z with
  |some s=>match pS E s aa B.F.n B.f ρ,kG s (B.F.be x y) aa B.F.n E.n ρ ρ' (B.F.ar x y)with
   |some O,some o=>.eqs (some O) (some (B.F.S x)) (.eqs (o.norm (cR t.ab) (cR t.ad) (cR t.rw)) (some t) rest)
   |_,_=>.ret none
  |none=>.ret none
def yC(E:Env)(ops:Array Oper)(o:List (Nat×fI P G))(st:ae):List (List Nat×Nat)->bp R->bp R
 |[],rest=>rest
 |(O,i)::l,rest=>match pe E ops o st O,pe E ops o st (oz i O),ops[i]?,tt o i with
  |some s,some t,some aa,some cU=>match aa.guard with
   |none=>Dt E s aa t (yC E ops o st l rest) cU
   |some _=>.ret none
  |_,_,_,_=>.ret none
def pM(E:Env)(st:ae)(aa:Oper)(K:ae->bc P G R->List cq->fI P G->bp R)(orc:List aj)(ps:List Prop)(h:bc P G R)(o:List cq):bp R:=
 match mS E st aa orc with
 |some (st',[],_)=>K st' h o (.aa orc ps)
 |_=>.ret none
def vQ(E:Env)(st:ae)(aa:Oper)(z:Option Nat)(h:bc P G R)(O:List cq)(K:ae->bc P G R->List cq->fI P G->bp R):bp R:=
 match h with
 |.bN B ρ ρ' U=>match sr st z with
  |some st=>match pS E st aa B.F.n B.f ρ with
   |some o=>match B.X o with
    |some x=>.eqs (some o) (some (B.F.S x)) (.ask (B.fn x) fun y=>match kG st (B.F.be x y) aa B.F.n E.n ρ ρ' (B.F.ar x y)with
     |some st'=>K st' (U y) O (.b z B ρ ρ' x y)
     |none=>.ret none)
    |none=>.ret none
   |none=>.ret none
  |none=>.ret none
 |_=>.ret none
def Eg(O:List (aL P G))(E:Env)(st:ae)(aa:Oper)(h:bc P G R)(o:List cq)(K:ae->bc P G R->List cq->fI P G->bp R):bp R:=
 match Eb aa.op,h with
 |true,.rU r h'=>vQ E st aa (some r) h' o K
 |true,.bN B ρ ρ' U=>vQ E st aa none (.bN B ρ ρ' U) o K
 |_,h=>match IE aa.op with
  |true=>match h with
   |.mk h=>fc (I4 E st aa) h o [⟨.unit,()⟩] [] (pM E st aa K)
   |h=>fc (jC O E st aa) h.dec o [] [] (pM E st aa K)
  |false=>match h with
   |.un d h=>match Nat.beq (aa.dst.getD 0) d with
    |true=>fc (jC O E st aa) h o [⟨.unit,()⟩] [] (pM E st aa K)
    |false=>fc (jC O E st aa) (.un d h) o [] [] (pM E st aa K)
   |h=>fc (jC O E st aa) h o [] [] (pM E st aa K)
def vK(U:List (aL P G))(E:Env)(ops:Array Oper):List Nat->ae->bc P G R->List cq->List (Nat×fI P G)->(bc P G R->List cq->List (Nat×fI P G)->bp R)->bp R
 |[],_,h,o,O,K=>K h o O
 |i::is,st,h,o,O,K=>match ops[i]? with
  |some aa=>Eg U E st aa h o fun st' h' W cU=>vK U E ops is st' h' W ((i,cU)::O) K
  |none=>.ret none
def NN(ops:Array Oper)(O:List (List Nat)):List (List Nat×Nat):=O.flatMap fun o=>(Region.ready .any ops (mA ops.size o)).map fun i=>(o,i)
def CP(U:List (aL P G))(E:Env)(ops:Array Oper)(o:List (List Nat))(st:ae)(h:bc P G R)(W:List cq)(K:fg P G R):bp R:=
 match E.P.follows .mixedOrders,BD .any ops (List.range ops.size).reverse o with
 |true,true=>vK U E ops (List.range ops.size) st h W [] fun h' Y O=>match pe E ops O st (List.range ops.size).reverse with
  |some t=>yC E ops O st (NN ops o) (K t h' Y)
  |none=>.ret none
 |_,_=>.ret none
abbrev mR(P:Program)(G:World->Prop)(R:Type):=Exit->ae->bc P G R->List cq->bp R
def sl(h:bc P G R)(st:ae):Option ae:=match h with
 |.ew o O ar ρ=>(st.norm o O ar).bind (·.cd ρ)
 |_=>some st
def ends(a:ae->bp R)(K:mR P G R):mR P G R:=fun e st h o=>match e with
 |.normal=>match sl h st with
  |some s=>a s
  |none=>.ret none
 |e=>K e st h o
def tB(O:List (aL P G))(E:Env)(ops:Array Oper)(W:Bool)(st:ae)(h:bc P G R)(U:List cq)(K:mR P G R):bp R:=
 match W with
  |false=>qy O E ops ops.toList st h U fun st' h' o=>K .normal st' h' o
  |true=>match h with
   |.ur m h'=>match E.P.follows .mixedOrders,Region.lexTailB .any ops m with
    |true,true=>oA O E ops (ops.toList.take m) st h' U fun st' h' o=>qy O E ops (ops.toList.drop m) st' h' o fun st' h' o=>K .normal st' h' o
    |_,_=>.ret none
   |.jJ a b c h'=>match E.P.follows .mixedOrders,Ao .any ops a b c,Nat.beq (a.length+(b.length+c.length)) ops.toList.length with
    |true,true,true=>xx O E ops (bx ops a) st h' U fun st' h' o=>oA O E ops (bx ops b) st' h' o fun st' h' o=>qy O E ops (bx ops c) st' h' o fun st' h' o=>K .normal st' h' o
    |_,_,_=>.ret none
   |.WZ a b i c c2 h'=>match ops.toList[i]? with
    |some aa=>match aa.dst,aa.guard,iL aa&&(!(aa.looksAt ops.toList.toArray).contains (aa.dst.getD 0)&&(Nat.blt (aa.dst.getD 0) E.n&&Nat.beq (a.length+(b.length+(c.length+c2.length+1))) ops.toList.length)),E.P.follows .mixedOrders,qw .any ops a b i c c2 with
     |some d,none,true,true,true=>xx O E ops (bx ops a) st h' U fun st' h' o=>oA O E ops (bx ops b) st' h' o (Ii O E aa d fun orc ps st' h' o=>sO O E ops aa d orc ps c2 (fun st' h' o=>K .normal st' h' o) c st' h' o)
     |_,_,_,_,_=>.ret none
    |none=>.ret none
   |.nD a b c2 c3 c4 c5 c6 h'=>match E.P.follows .mixedOrders,ES .any ops a b c2 c3 c4 c5 c6,Nat.beq (a.length+(b.length+5)) ops.toList.length,xu ops.toList.toArray c2 c3 c4 c5 c6 with
    |true,true,true,some C=>xx O E ops (bx ops a) st h' U fun st' h' o=>oA O E ops (bx ops b) st' h' o fun st' h' o=>match Ck E st' C with
     |some st'=>K .normal st' h' o
     |none=>.ret none
    |_,_,_,_=>.ret none
   |.md a b c d h'=>match E.P.follows .mixedOrders,DA .any ops a b c d,Nat.beq (a.length+(b.length+(c.length+d.length))) ops.toList.length with
    |true,true,true=>xx O E ops (bx ops a) st h' U fun st' h' o=>oA O E ops (bx ops b) st' h' o fun st' h' o=>qy O E ops (bx ops c) st' h' o fun st' h' o=>
      oA O E ops (bx ops d) st' h' o fun st' h' o=>K .normal st' h' o
    |_,_,_=>.ret none
   |.az b c h'=>match E.P.follows .mixedOrders,vU .any ops b c,Nat.beq (b.length+c.length) ops.toList.length with
    |true,true,true=>oA O E ops (bx ops b) st h' U fun st' h' o=>yg O E ops (fun st' h' o=>K .normal st' h' o) c st' h' o
    |_,_,_=>.ret none
   |.cU Y h'=>CP O E ops Y st h' U fun st' h' o=>K .normal st' h' o
   |h=>match E.P.follows .mixedOrders,Region.lexB .any ops with
    |true,true=>oA O E ops ops.toList st h.dec U fun st' h' o=>K .normal st' h' o
    |_,_=>.ret none
def run(O:List (aL P G))(E:Env):Code->ae->bc P G R->List cq->mR P G R->bp R
 |.skip,st,h,o,K=>K .normal st h o
 |.exit id,st,h,o,K=>K (.exit id) st h o
 |.ret,st,h,o,K=>K .ret st h o
 |.block id c,st,h,o,K=>run O E c st h o fun e st' h' U=>match e with
  |.normal=>K .normal st' h' U
  |.ret=>K .ret st' h' U
  |.exit i=>match Nat.beq i id with
   |true=>K .normal st' h' U
   |false=>K (.exit i) st' h' U
  |_=>.ret none
 |.seq x y,st,h,o,K=>match h with
  |.j W S Z lc ld=>.gj (fun z=>run O E y (S st z) (ld z) [] K) Z (run O E x st lc o (ends (pN W (S st) Z) K))
  |h=>run O E x st h.dec o fun e st' h' U=>match e with
   |.normal=>run O E y st' h' U K
   |e=>K e st' h' U
 |.cond c x y,st,h,o,K=>match aP st c with
  |some (.val .bool b)=>match h with
   |.T h'=>.jM b true (run O E x st h' o K)
   |.F h'=>.jM b false (run O E y st h' o K)
   |h=>.ite b (run O E x st h.fork.1 o K) (run O E y st h.fork.2 o K)
  |_=>.ret none
 |.loop c,st,h,_,K=>match h with
  |.bw W S F k lf=>match bW st W with
   |some z0=>.iK (fun la z=>run O E c (S st z) (lf la z) [] (ends (pN W (S st) la) K)) F (.eqs (st.norm (cR (S st z0).ab) (cR (S st z0).ad) (cR (S st z0).rw)) (some (S st z0)) (.ret (F k z0)))
   |none=>.ret none
  |_=>.ret none
 |.region _ ops Y,st,h,o,K=>match h with
  |.kp r h'=>match look st.rw r with
   |some c=>tB O E ops Y (st.freeze r c) h' o K
   |none=>.ret none
  |.Vj lg lh ar h'=>match st.norm lg lh ar with
   |some st'=>tB O E ops Y st' h' o K
   |none=>.ret none
  |h=>tB O E ops Y st h o K
 |_,_,_,_,_=>.ret none
end Go.Ev
