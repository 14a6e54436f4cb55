/- The evaluator of operations that change nothing, and that it is right. -/
import Derived.Test.YtgkgdfmldioddaaGreatDoorMM1
import Derived.Laws.IdiomRangeMap
set_option linter.unusedSectionVars false
set_option linter.unusedVariables false
set_option linter.unusedSimpArgs false
namespace Go.Ev
open Go Go.RowKit
variable [b6]
structure dG where
 aJ:ak
 orc:List aj
 ob:List Prop
structure Lz where
 k:ag
 v:ag
 ps:List (k.el×v.el)
def mapOf(st:ae):ak->Option Lz
 |.val (.map k v) x=>some ⟨k,v,(show Option (List (k.el×v.el))from x).getD []⟩
 |.iter b=>match look st.ad b with
  |some (.mp k v ps)=>some ⟨k,v,ps⟩
  |_=>none
 |_=>none
def wx(P:Program)(st:ae)(mt:TypeId)(x k:Operand)(ok:Bool)(orc:List aj):Option dG:=
 match(aP st x).bind (mapOf st),P.underlying mt,dA st k with
 |some o,some (.map U W),some key=>match ty P U,zeroV P W,key.as o.k with
  |some Y,some Z,some O=>match Y.beq o.k&&Z.beq o.v&&eD P 16 U,ok with
   |true,true=>some ⟨.dP [⟨o.v,(bn (aD o.k) o.ps O).getD (cj o.v)⟩,⟨.bool,(bn (aD o.k) o.ps O).isSome⟩],orc,[]⟩
   |true,false=>some ⟨.val o.v ((bn (aD o.k) o.ps O).getD (cj o.v)),orc,[]⟩
   |false,_=>none
  |_,_,_=>none
 |_,_,_=>none
def lenOf(P:Program)(st:ae)(s:ak)(t:TypeId):Option Int:=
 match s,ty P t with
 |.val .str s,some .str=>some (s.length:Int)
 |.val (.ab _) xs,some (.ab _)=>some (xs.length:Int)
 |.row r,some (.ab _)=>match look st.rw r with
  |some c=>some (c.xs.length:Int)
  |none=>none
 |s,some (.map _ _)=>match mapOf st s with
  |some o=>some (o.ps.length:Int)
  |none=>none
 |_,_=>none
def xv(P:Program)(st:ae)(t:TypeId)(u:ag):List (Nat×Operand)->u.el->Option u.el
 |[],x=>some x
 |(i,aa)::r,x=>
  match fieldInfo P t i,dA st aa with
  |some (off,o),some v=>match v.t.beq o,cn u x off v with
   |true,some y=>xv P st t u r y
   |_,_=>none
  |_,_=>none
def eG(s:Option ak):Option Int:=
 match s with
 |some (.val (.int _) n)=>some n
 |_=>none
def uY(P:Program)(t:TypeId):Option (Nat×ag):=
 match P.underlying t with
 |some (.array n e)=>match ty P e with
  |some u=>some (n,u)
  |none=>none
 |_=>none
def xR(P:Program)(st:ae)(src o:TypeId)(x:Operand)(orc:List aj):Option dG:=
 match(aP st x).map (nE st),P.underlying src,P.underlying o with
 |some (.val (.ab (.int .u8)) xs),some (.slice e),some .string=>match P.underlying e with
  |some (.int .u8)=>some ⟨.val .str (fz xs),orc,[]⟩
  |_=>none
 |some (.val (.ab (.int .i32)) xs),some (.slice e),some .string=>match P.underlying e with
  |some (.int .i32)=>some ⟨.val .str (cM xs),orc,[(cM xs).length<=lim]⟩
  |_=>none
 |_,_,_=>none
def wm(a:Option (Option (Nat×Int)))(u:Nat)(m:Int):Bool:=
 match a with
 |some (some (t,n))=>Nat.beq t u&&n==m
 |_=>false
def uU:Operand->Bool
 |.const .nilIface=>true
 |_=>false
def oW(P:Program)(o:BinOp)(t:TypeId)(y:Operand)(a b:aj):Option (Bool×List Prop):=
 match a,b with
 |⟨.err,a⟩,⟨.err,b⟩=>match P.underlying t,uU y with
  |some (.interface _),true=>neg o (Option.isNone (α:=Option (Nat×Int)) a) []
  |some (.interface _),false=>match(show Option (Option (Nat×Int))from b)with
   |some (some (u,m))=>match P.info? u,P.underlying u with
    |some i,some (.int _)=>bif i.comparable then neg o (wm a u m) [(show Option (Option (Nat×Int))from a)≠some none]else none
    |_,_=>none
   |_=>none
  |_,_=>none
 |_,_=>none
where
 neg (o:BinOp) (b:Bool) (ob:List Prop):Option (Bool×List Prop):=
  match o with
  |.eql=>some (b,ob)
  |.neq=>some (!b,ob)
  |_=>none
def Iq(t:TypeId)(v:Option aj):Option (Option (Nat×Int)):=
 match v with
 |some ⟨.int k,n⟩=>bif gU k .i64 then some (some (t,n))else some none
 |_=>some none
def mu(a b:Int):Int:=if b>a then b else a
def cC(a b:Int):Int:=if b<a then b else a
def wo(st:ae)(jJ:Bool)(args:List Operand):Option aj:=
 match args with
 |[x,y]=>match dA st x,dA st y with
  |some ⟨.int k,a⟩,some ⟨.int k',b⟩=>bif gU k k' then some ⟨.int k,bif jJ then mu a b else cC a b⟩else none
  |_,_=>none
 |_=>none
def dD(P:Program)(st:ae)(aa:Op)(orc:List aj):Option dG:=
 match aa with
 |.move x=>match aP st x with
  |some s=>some ⟨s,orc,[]⟩
  |none=>none
 |.assign x=>match aP st x with
  |some s=>some ⟨s,orc,[]⟩
  |none=>none
 |.pick c a b=>match dA st c with
  |some ⟨.bool,true⟩=>match aP st a with
   |some s=>some ⟨s,orc,[]⟩
   |none=>none
  |some ⟨.bool,false⟩=>match aP st b with
   |some s=>some ⟨s,orc,[]⟩
   |none=>none
  |_=>none
 |.binOp W t x y _=>match dA st x,dA st y with
  |some a,some b=>match bin P W t a b with
   |some (r,ob)=>some ⟨.val r.t r.x,orc,ob⟩
   |none=>match oW P W t y a b with
    |some (r,ob)=>some ⟨.val .bool r,orc,ob⟩
    |none=>none
  |_,_=>none
 |.unOp W _ x=>match dA st x with
  |some a=>match un W a with
   |some r=>some ⟨.val r.t r.x,orc,[]⟩
   |none=>none
  |none=>none
 |.convert src Z x=>match dA st x with
  |some a=>match conv P src Z a with
   |some r=>some ⟨.val r.t r.x,orc,[]⟩
   |none=>xR P st src Z x orc
  |none=>xR P st src Z x orc
 |.index t x i=>match dA st x,eG (aP st i),orc,P.underlying t with
  |some ⟨.str,s⟩,some n,⟨.int .u8,b⟩::orc',some .string=>some ⟨.val (.int .u8) b,orc',[fH s n=some b]⟩
  |some ⟨.arr k u,xs⟩,some n,v::orc',some (.array k' e)=>match Nat.beq k k',ty P e,v.as u with
   |true,some o,some y=>bif u.beq o then some ⟨.val u y,orc',[ao (show List u.el from xs) n=some y]⟩else none
   |_,_,_=>none
  |_,_,_,_=>none
 |.field t x f=>match dA st x,fieldInfo P t f with
  |some a,some (off,u)=>match a.t.agg,cE a.t a.x off u with
   |true,some y=>some ⟨.val u y,orc,[]⟩
   |_,_=>none
  |_,_=>none
 |.build t parts=>match ty P t,P.info? t with
  |some u,some i=>match i.zero,u.qm with
   |some z,true=>match gP u z.cells.toList,xv P st t u parts.toList (cj u)with
    |some [],some y=>some ⟨.val u y,orc,[]⟩
    |_,_=>none
   |_,_=>none
  |_,_=>none
 |.extract x i=>match aP st x with
  |some (.dP l)=>match l[i]? with
   |some v=>some ⟨.val v.t v.x,orc,[]⟩
   |none=>none
  |some (.gn l)=>match l[i]? with
   |some (.v v)=>some ⟨.val v.t v.x,orc,[]⟩
   |some (.r r)=>some ⟨match look st.ad r with
    |some (.cells _ _)=>.ptr r 0
    |some (.aO _ _ _)=>.dE r []
    |some _=>.iter r
    |none=>.row r,orc,[]⟩
   |some .a=>some ⟨.any,orc,[]⟩
   |none=>none
  |_=>none
 |.nilCheck x=>match aP st x with
  |some (.ptr b off)=>some ⟨.ptr b off,orc,[]⟩
  |some (.vptr t y)=>some ⟨.vptr t y,orc,[]⟩
  |some (.dV r i off U)=>some ⟨.dV r i off U,orc,[]⟩
  |some (.dE b p)=>some ⟨.dE b p,orc,[]⟩
  |_=>none
 |.fieldAddr t x f=>match aP st x,fieldInfo P t f with
  |some (.ptr b off),some (O,_)=>some ⟨.ptr b (off+O),orc,[]⟩
  |some (.vptr u y),some (O,Y)=>match cE u y O Y with
   |some z=>some ⟨.vptr Y z,orc,[]⟩
   |none=>none
  |some (.dV r i off U),some (O,_)=>some ⟨.dV r i (off+O) U,orc,[]⟩
  |some (.dE b p),some (O,Y)=>some ⟨.dE b (p++[.f O Y]),orc,[]⟩
  |_,_=>none
 |.indexAddr t x i=>match aP st x,eG (aP st i),ty P t,orc with
  |some (.val (.ab u) xs),some n,some (.ab o),v::orc'=>match u.beq o,v.as u with
   |true,some y=>some ⟨.vptr u y,orc',[ao xs n=some y]⟩
   |_,_=>none
  |some (.row r),some n,some (.ab o),v::orc'=>match look st.rw r with
   |some c=>match c.t.beq o,v.as c.t with
    |true,some y=>some ⟨.dV r n 0 c.t.cells,orc',[ao c.xs n=some y]⟩
    |_,_=>none
   |none=>none
  |some (.vptr (.arr k u) xs),some n,some (.arr k' o),v::orc'=>match Nat.beq k k'&&u.beq o,v.as u with
   |true,some y=>some ⟨.vptr u y,orc',[ao (show List u.el from xs) n=some y]⟩
   |_,_=>none
  |some (.dE b p),some n,some (.arr len u),orc=>some ⟨.dE b (p++[.x n u.cells]),orc,[0<=n/\n<(len:Int)]⟩
  |some (.ptr b off),some n,some (.arr len u),orc=>bif decide (0<=n)&&decide (n<len)then some ⟨.ptr b (off+n.toNat*u.cells),orc,[]⟩else none
  |some (.dV r i0 la U),some n,some (.arr len u),orc=>match look st.rw r with
   |some c=>match c.t.beq u&&(i0==0&&(Nat.beq la 0&&Nat.beq U c.t.cells)),orc with
    |true,v::orc'=>match v.as c.t with
     |some y=>some ⟨.dV r n 0 c.t.cells,orc',[ao c.xs n=some y,c.xs.length=len]⟩
     |none=>none
    |true,[]=>none
    |false,orc=>bif decide (0<=n)&&decide (n<len)then some ⟨.dV r i0 (la+n.toNat*u.cells) U,orc,[]⟩else none
   |none=>none
  |_,_,_,_=>none
 |.load t x=>match aP st x,ty P t with
  |some (.vptr u y),some o=>match u.beq o,Nat.beq u.cells 0 with
   |true,false=>some ⟨.val u y,orc,[]⟩
   |_,_=>none
  |_,_=>none
 |.slice t x lc ld none=>match aP st x,orc with
  |some (.val .str s),⟨.str,r⟩::orc'=>match P.underlying t,tX st lc,uo st ld s.length with
   |some .string,some l,some h=>some ⟨.val .str r,orc',[dK s l h=some r]⟩
   |_,_,_=>none
  |some (.val (.ab u) xs),v::orc'=>match ty P t,tX st lc,uo st ld xs.length,v.as (.ab u)with
   |some (.ab o),some l,some h,some r=>bif u.beq o then some ⟨.val (.ab u) r,orc',[dK xs l h=some r]⟩else none
   |_,_,_,_=>none
  |_,_=>none
 |.call c=>match c with
  |{callee:=.builtin .len,args:=args,argTypes:=lf}=>match args.toList,lf.toList with
   |[x],[t]=>match aP st x with
    |some s=>match lenOf P st s t with
     |some n=>some ⟨.val (.int .i64) n,orc,[]⟩
     |none=>none
    |none=>none
   |_,_=>none
  |{callee:=.builtin .max,args:=args,.. }=>match wo st true args.toList with
   |some r=>some ⟨.val r.t r.x,orc,[]⟩
   |none=>none
  |{callee:=.builtin .min,args:=args,.. }=>match wo st false args.toList with
   |some r=>some ⟨.val r.t r.x,orc,[]⟩
   |none=>none
  |_=>none
 |.makeInterface t x=>bif P.concrete t then some ⟨.val .err (Iq t (dA st x)),orc,[]⟩else none
 |.lookup mt x k ok=>wx P st mt x k ok orc
 |_=>none
where
 tX (st:ae):Option Operand->Option Int
  |none=>some 0
  |some x=>eG (aP st x)
 uo (st:ae):Option Operand->Nat->Option Int
  |none,n=>some (n:Int)
  |some x,_=>eG (aP st x)
variable {cx:bB} {m:Nat->Value} {st:ae} {T:Array Value} {w w':World}
theorem fN(h:am cx m st T w){x:Operand}{n:Int}(o:eG (aP st x)=some n):∃k,Act.eval ⟨T,[]⟩ x=.int k n:=by
 unfold eG at o
 split at o
 ·rename_i k U O
  cases o
  exact⟨k,cZ.1 (aW h O)⟩
 ·cases o
theorem Au(h:am cx m st T w){v:Value}{s:ak}(o:aQ w (ap cx m st.ids) m v s){U:Lz}(O:mapOf st s=some U):
  (v=.map none/\U.ps=[])\/∃(g:Nat) (es:Array MapEntry) (clock:Nat),v=.map (some g)/\w.heap[g]? =some (.map es clock)/\dX (dL w (ap cx m st.ids) U.k) (dL w (ap cx m st.ids) U.v) es.toList U.ps:=by
 unfold mapOf at O
 split at O
 ·rename_i k v' x
  cases O
  have o:=(bZ (t:=.map k v') rfl).1 o
  match x,o with
  |none,o=>
   have o:[v]=[Value.map none]:=o
   simp only[List.cons.injEq,and_true]at o
   exact .inl ⟨o,rfl⟩
  |some ps,⟨b,es,clock,e,h1,_,_,_,W⟩=>
   simp only[List.cons.injEq,and_true]at e
   exact .inr ⟨b,es,clock,e,h1,W⟩
 ·rename_i b
  split at O
  ·rename_i k v' ps Y
   cases O
   obtain⟨g,Z,_,es,clock,h1,_,_,W⟩:=h.box (aX Y)
   have la:v=m b:=o
   exact .inr ⟨g,es,clock,by rw[la,Z];rfl,h1,W⟩
  ·cases O
 ·cases O
theorem RH(h:am cx m st T w){v:Value}{s:ak}(W:aQ w (ap cx m st.ids) m v s){n:Int}{t:TypeId}(o:lenOf cx.P st s t=some n){ty':TypeId}:
  n9 cx.P w (Builtin.len_ #[t] ty' #[v]) (.int .i64 n):=by
 intro w' lg
 unfold lenOf at o
 split at o
 ·rename_i l U
  cases o
  obtain⟨i,_,_,O⟩:=dn U
  obtain⟨rfl,_⟩:=eS.1 W
  simp only at O
  have la:=jm l
  simp only[bytesOf]at la
  simp[Builtin.len_,run_underlying O,goInt,la]
 ·rename_i e xs lh U
  cases o
  obtain⟨i,_,_,li,_,O,_⟩:=dn U
  obtain⟨a,cap,cells,Y,_⟩:=(bZ (t:=.ab e) rfl).1 W
  simp only[List.cons.injEq,and_true]at Y
  subst Y
  simp[Builtin.len_,run_underlying O,goInt]
 ·rename_i r lh U
  split at o
  ·rename_i c Y
   cases o
   obtain⟨i,_,_,li,_,O,_⟩:=dn U
   obtain⟨cells,h1,_⟩:=h.rows r c (aX Y)
   have lc:v=m r:=W
   rcases h1.2 with ⟨Z,lj⟩|⟨g,cap,cur,Z,_⟩
   ·rw[lc,Z,lj]
    simp[Builtin.len_,run_underlying O,goInt]
   ·rw[lc,Z]
    simp[Builtin.len_,run_underlying O,goInt]
  ·cases o
 ·rename_i lo lp U
  split at o
  ·rename_i lq lk
   cases o
   obtain⟨i,_,_,k,e,_,O,_,_⟩:=dn U
   rcases Au h W lk with ⟨rfl,ll⟩|⟨g,es,clock,rfl,ld,lm⟩
   ·rw[ll]
    simp[Builtin.len_,run_underlying O,goInt]
   ·have ln:w'.heap[g]? =some (.map es clock):=by rw[lg.block g (gD ld)];exact ld
    have lf:=ue lm
    rw[Array.length_toList]at lf
    simp[Builtin.len_,run_underlying O,goInt,getObj,Sem.run,ln,lf]
  ·cases o
 ·cases o
def dR(cx:bB)(T:Array Value)(w:World)(aa:Oper)(v:Value):Prop:=∀w',Ext w w'->(execOp (Act.eval ⟨T,[]⟩) aa).run cx.P w'=.ok (.value v) w'
theorem dR.of{aa:Oper}{s:Sem Value}{v:Value}(o:execOp (Act.eval ⟨T,[]⟩) aa=(do pure (Next.value (<-s))))(O:n9 cx.P w s v):dR cx T w aa v:=by
 intro w' U
 rw[o,Sem.run_bind,O w' U]
 rfl
theorem V1{P:Program}{t:TypeId}{s:List UInt8}{n b:Int}{k:IntKind}(o:P.underlying t=some .string)(h:fH s n=some b):
  gK P (Instr.index t (.string (bytesOf s)) (.int k n)) (.int .u8 b):=by
 intro w'
 unfold fH at h
 split at h
 ·rename_i c O
  cases h
  obtain⟨U,h1,W⟩:=js O
  rw[run_index_string _ t _ k n o]
  have Y:n<(bytesOf s).size:=by rw[jm];exact h1
  rw[dif_pos ⟨U,Y⟩]
  have:(bytesOf s)[n.toNat]'(by omega)=c:=by
   have Z:(bytesOf s).data[n.toNat]? =some c:=by simpa[bytesOf]using W
   have:=(Array.getElem?_eq_some_iff.1 Z).2
   exact this
  rw[this]
 ·cases h
theorem W7{P:Program}{t:TypeId}{s r:List UInt8}{o O:Option Value}{l h:Int}(W:P.underlying t=some .string)
  (la:(o=none/\l=0)\/∃k,o=some (.int k l))(lc:(O=none/\h=s.length)\/∃k,O=some (.int k h))(ld:dK s l h=some r):
  gK P (Instr.sliceAt t (.string (bytesOf s)) o O none) (.string (bytesOf r)):=by
 intro w'
 obtain⟨ll,h1,lm,rfl⟩:=w9 ld
 have ln:((bytesOf s).size:Int)=s.length:=by rw[jm]
 have lf:∀a b:Nat,(bytesOf s).extract a b=bytesOf ((s.take b).drop a):=by
  intro a b
  apply ByteArray.ext
  apply Array.ext'
  have:=Lib.extract_data (bytesOf s) a b
  rw[this]
  simp only[bytesOf]
  rw[List.drop_take]
 have lg:Instr.sliceAt t (.string (bytesOf s)) o O none=(do match<-underlying t with
  |.array n lh=>
   let a<-Instr.sureAddr (.string (bytesOf s))
   let(l,h,m)<-Instr.sliceBounds false n n o O none
   let size<-sizeOf lh
   pure (.slice (some (if m=l then a else a.add (l*size))) (h-l) (m-l))
  |_=>Instr.slice t (.string (bytesOf s)) o O none):=rfl
 rw[lg,Sem.run_bind,run_underlying W]
 simp only[Result.andThen_ok]
 have U:∀(x:Value) (k:IntKind) (n:Int) (y:Nat) (c:BoundsCode) (w:World),x=.int k n->0<=n->n<=y->(Instr.sliceBound x y c).run P w=.ok n.toNat w:=by
  rintro x k n y c w rfl li lj
  simp[Instr.sliceBound,asIntOf,li,lj]
 have lk:(Instr.sliceBounds false (bytesOf s).size (bytesOf s).size o O none).run P w'=.ok (l.toNat,h.toNat,(bytesOf s).size) w':=by
  rcases la with ⟨rfl,rfl⟩|⟨Y,rfl⟩<;>rcases lc with ⟨rfl,rfl⟩|⟨Z,rfl⟩
  ·simp[Instr.sliceBounds,jm]
  ·simp only[Instr.sliceBounds,Sem.run_bind,Sem.run_pure,Result.andThen_ok]
   rw[U _ Z h _ _ _ rfl (by omega) (by omega)]
   simp
  ·simp only[Instr.sliceBounds,Sem.run_bind,Sem.run_pure,Result.andThen_ok]
   rw[U _ Y l _ _ _ rfl (by omega) (by omega)]
   simp[jm]
  ·simp only[Instr.sliceBounds,Sem.run_bind,Sem.run_pure,Result.andThen_ok]
   rw[U _ Z h _ _ _ rfl (by omega) (by omega)]
   simp only[Result.andThen_ok,Sem.run_bind]
   rw[U _ Y l _ _ _ rfl (by omega) (by omega)]
   simp
 simp only[Instr.slice,Sem.run_bind,run_underlying W,Result.andThen_ok,Option.isSome_none,Bool.false_eq_true,if_false,Sem.run_pure,lk,lf]
theorem W5{P:Program}{M:Nat->Prop}{t e:TypeId}{u:ag}{xs r:List u.el}{d:Nat}{v:Value}{o O:Option Value}{l h:Int}(lf:P.underlying t=some (.slice e))(lo:cD P d e=some u)
  (lp:aF w M (.ab u) [v] xs)(lq:(o=none/\l=0)\/∃k,o=some (.int k l))(lr:(O=none/\h=xs.length)\/∃k,O=some (.int k h))(lt:dK xs l h=some r):
  ∃v',gK P (Instr.sliceAt t v o O none) v'/\aF w M (.ab u) [v'] r:=by
 obtain⟨lg,h1,lM,rfl⟩:=w9 lt
 obtain⟨a,cap,cells,lh,lN,lO,li,lu,lv⟩:=lp
 simp only[List.cons.injEq,and_true]at lh
 subst lh
 have lw:Instr.sliceAt t (.slice a xs.length cap) o O none=(do match<-underlying t with
  |.array n lx=>
   let lj<-Instr.sureAddr (.slice a xs.length cap)
   let(l,h,m)<-Instr.sliceBounds false n n o O none
   let size<-sizeOf lx
   pure (.slice (some (if m=l then lj else lj.add (l*size))) (h-l) (m-l))
  |_=>Instr.slice t (.slice a xs.length cap) o O none):=rfl
 have Z:∀(x:Value) (k:IntKind) (n:Int) (y:Nat) (c:BoundsCode) (w:World),x=.int k n->0<=n->n<=y->(Instr.sliceBound x y c).run P w=.ok n.toNat w:=by
  rintro x k n y c w rfl ly lz
  simp[Instr.sliceBound,asIntOf,ly,lz]
 have lA:∀w',(Instr.sliceBounds true xs.length cap o O none).run P w'=.ok (l.toNat,h.toNat,cap) w':=by
  intro w'
  rcases lq with ⟨rfl,rfl⟩|⟨lk,rfl⟩<;>rcases lr with ⟨rfl,rfl⟩|⟨ll,rfl⟩
  ·simp[Instr.sliceBounds]
  ·simp only[Instr.sliceBounds,Sem.run_bind,Sem.run_pure,Result.andThen_ok]
   rw[Z _ ll h _ _ _ rfl (by omega) (by omega)]
   simp
  ·simp only[Instr.sliceBounds,Sem.run_bind,Sem.run_pure,Result.andThen_ok]
   rw[Z _ lk l _ _ _ rfl (by omega) (by omega)]
   simp
  ·simp only[Instr.sliceBounds,Sem.run_bind,Sem.run_pure,Result.andThen_ok]
   rw[Z _ ll h _ _ _ rfl (by omega) (by omega)]
   simp only[Result.andThen_ok,Sem.run_bind]
   rw[Z _ lk l _ _ _ rfl (by omega) (by omega)]
   simp
 have ld:((xs.take h.toNat).drop l.toNat).length=h.toNat-l.toNat:=by
  rw[List.length_drop,List.length_take];omega
 refine⟨.slice (if cap=l.toNat then a else a.map (·.add (l.toNat*u.cells))) (h.toNat-l.toNat) (cap-l.toNat),fun w'=>?_,?_⟩
 ·rw[lw,Sem.run_bind,run_underlying lf]
  simp only[Result.andThen_ok,Instr.slice,Sem.run_bind,run_underlying lf,lA,ff lo,Sem.run_pure]
 ·have split:∀(U:List u.el) (W:List Value) (n:Nat),bD (aF w M u) W U->n<=U.length->∃c1 c2,W=c1++c2/\c1.length=n*u.cells/\bD (aF w M u) c1 (U.take n)/\bD (aF w M u) c2 (U.drop n):=by
   intro U
   induction U with
   |nil=>
    intro W n la Y
    have lg:n=0:=Nat.le_zero.1 Y
    rw[lg]
    exact⟨[],W,rfl,by simp,rfl,la⟩
   |cons y U lB=>
    intro W n la Y
    cases n with
    |zero=>exact⟨[],W,rfl,by simp,rfl,la⟩
    |succ n=>
     obtain⟨d1,d2,lC,lm,lD⟩:=la
     obtain⟨f1,f2,g1,g2,g3,g4⟩:=lB d2 n lD (by simpa using Y)
     exact⟨d1++f1,f2,by rw[lC,g1];simp,by rw[List.length_append,ch u lm,g2,Nat.succ_mul,Nat.add_comm],⟨d1,f1,rfl,lm,g3⟩,g4⟩
  obtain⟨c1,c2,lE,lP,lF,_⟩:=split xs cells h.toNat lu (by omega)
  obtain⟨d1,d2,lG,lQ,_,ln⟩:=split (xs.take h.toNat) c1 l.toNat lF (by rw[List.length_take];omega)
  refine⟨(if cap=l.toNat then a else a.map (·.add (l.toNat*u.cells))),cap-l.toNat,d2,by rw[ld],by rw[ld];omega,by omega,?_,ln,fun j v lc=>?_⟩
  ·intro Y
   split at Y
   ·have:=li Y;omega
   ·cases a with
    |none=>have:=li rfl;omega
    |some a=>simp at Y
  ·have lR:=(List.getElem?_eq_some_iff.1 lc).1
   have hk:cells[l.toNat*u.cells+j]? =some v:=by
    rw[lE,lG,List.append_assoc,List.getElem?_append_right (by omega),List.getElem?_append_left (by omega),<-lc]
    congr 1
    omega
   obtain⟨b,lH,lI,lJ⟩:=lv _ _ hk
   subst lH
   split
   ·rename_i lS
    have lK:d2=[]:=by
     have:=jq (fun W x=>ch u) _ _ ln
     rw[ld]at this
     have lL:h.toNat-l.toNat=0:=by omega
     rw[lL,Nat.zero_mul]at this
     exact List.eq_nil_of_length_eq_zero this
    rw[lK]at lc
    simp at lc
   ·exact⟨_,rfl,by rw[add_add];exact lI,by rw[kg];exact lJ⟩
theorem BH{P:Program}:∀(o:List Field),(∀f∈o,∃i,P.info? f.type=some i)->
  o.mapM (fun f=>(P.info? f.type).map fun i=>(f.offset,i.size))=some (o.map fun f=>(f.offset,P.cellsOf f.type))
 |[],_=>rfl
 |f::o,h=>by
  obtain⟨i,O⟩:=h f List.mem_cons_self
  rw[List.mapM_cons,BH o (fun g U=>h g (List.mem_cons_of_mem _ U))]
  simp[O,Program.cellsOf]
theorem E6{P:Program}{d:Nat}:∀{O:List Field} {off:Nat} {u:ag},fieldsOf (cD P d) off O=some u->∀f∈O,∃i,P.info? f.type=some i
 |[],_,_,_,f,o=>by simp at o
 |fd::O,off,u,h,f,o=>by
  unfold fieldsOf at h
  cases U:Nat.beq fd.offset off with
  |false=>rw[U]at h;cases h
  |true=>
   rw[U,cond_true]at h
   split at h
   ·rename_i a W
    split at h
    ·rename_i b Y
     rcases List.mem_cons.1 o with rfl|o
     ·obtain⟨i,Z,_⟩:=dn W;exact⟨i,Z⟩
     ·exact E6 Y f o
    ·cases h
   ·cases h
theorem Nj(o:List Value):∀(k:Nat) (pre post old:List Value),old.length=o.length->
  ((o.zipIdx k).foldl (fun O (x:Value×Nat)=>Array.setIfInBounds O (pre.length+x.2-k) x.1) (pre++old++post).toArray)=(pre++o++post).toArray:=by
 induction o with
 |nil=>intro k pre post old h;have:old=[]:=List.eq_nil_of_length_eq_zero h;subst this;rfl
 |cons v o U=>
  intro k pre post old h
  match old,h with
  |aa::old,h=>
   have h':old.length=o.length:=by simpa using h
   have W:Array.setIfInBounds (pre++(aa::old)++post).toArray (pre.length+k-k) v=((pre++[v])++old++post).toArray:=by
    rw[show pre.length+k-k=pre.length by omega]
    simp
   rw[List.zipIdx_cons,List.foldl_cons,W]
   have:=U (k+1) (pre++[v]) post old h'
   rw[List.length_append,List.length_singleton]at this
   have Y:(fun(O:Array Value) (x:Value×Nat)=>Array.setIfInBounds O (pre.length+1+x.2-(k+1)) x.1)=(fun O x=>Array.setIfInBounds O (pre.length+x.2-k) x.1):=by
    funext O x
    congr 1
    omega
   rw[Y]at this
   rw[this]
   simp
theorem xI(o pre post old:List Value)(h:old.length=o.length):
  (o.toArray.zipIdx.foldl (fun O (x:Value×Nat)=>Array.setIfInBounds O (pre.length+x.2) x.1) (pre++old++post).toArray)=(pre++o++post).toArray:=by
 have:=Nj o 0 pre post old h
 simpa using this
theorem JL{P:Program}{t:TypeId}{u:ag}{lh:Array Field}(li:P.underlying t=some (.struct lh))(h:am cx m st T w)(lj:P=cx.P)
  {place:Nat->Option (Nat×Nat)}(Z:∀i off o,fieldInfo P t i=some (off,o)->place i=some (off,o.cells)):
  ∀(parts:List (Nat×Operand)) (x y:u.el) (U:List Value),aF w (ap cx m st.ids) u U x->xv P st t u parts x=some y->
   ∃W,Instr.fill place U.toArray (parts.map fun p=>(p.1,Act.eval ⟨T,[]⟩ p.2))=some W.toArray/\aF w (ap cx m st.ids) u W y
 |[],x,y,U,Y,O=>by cases O;exact⟨U,rfl,Y⟩
 |(i,aa)::r,x,y,U,Y,O=>by
  unfold xv at O
  split at O
  ·rename_i off o v lk ll
   split at O
   ·rename_i lm ln lo
    have lp:=df h ll
    have la:=mi lp
    obtain⟨c1,c2,c3,rfl,lc,ld,lq⟩:=qG la u Y lo
    have lr:v.t.cells=o.cells:=by rw[ag.eq_of_beq ln]
    have lf:(Act.eval ⟨T,[]⟩ aa).cells.toList.length=o.cells:=by rw[ch v.t la,lr]
    have lt:(Act.eval ⟨T,[]⟩ aa).cells.size=o.cells:=by rw[<-lf];simp
    obtain⟨W,lu,lv⟩:=JL li h lj Z r lm y _ lq O
    refine⟨W,?_,lv⟩
    rw[List.map_cons,Instr.fill,Z i off o lk]
    have lw:¬(((Act.eval ⟨T,[]⟩ aa).cells.size≠o.cells||decide (off+(Act.eval ⟨T,[]⟩ aa).cells.size>(c1++c2++c3).toArray.size))=true):=by
     simp only[lt,List.size_toArray,List.length_append,lc,ld,lf]
     simp
    simp only[]
    rw[if_neg lw]
    have lg:=xI (Act.eval ⟨T,[]⟩ aa).cells.toList c1 c3 c2 ld
    rw[lc,Array.toArray_toList]at lg
    rw[lg]
    exact lu
   ·cases O
  ·cases O
end Go.Ev
namespace Go.Ev
open Go Go.RowKit
variable [b6]
variable {cx:bB} {m:Nat->Value} {st:ae} {T:Array Value} {w w':World}
theorem I0(h:am cx m st T w){o:Option Operand}{l:Int}(O:dD.tX st o=some l):
  (o.map (Act.eval ⟨T,[]⟩)=none/\l=0)\/∃k,o.map (Act.eval ⟨T,[]⟩)=some (.int k l):=by
 cases o with
 |none=>cases O;exact .inl ⟨rfl,rfl⟩
 |some x=>obtain⟨k,hk⟩:=fN h O;exact .inr ⟨k,by simp[hk]⟩
theorem Lh(h:am cx m st T w){o:Option Operand}{n:Nat}{l:Int}(O:dD.uo st o n=some l):
  (o.map (Act.eval ⟨T,[]⟩)=none/\l=n)\/∃k,o.map (Act.eval ⟨T,[]⟩)=some (.int k l):=by
 cases o with
 |none=>cases O;exact .inl ⟨rfl,rfl⟩
 |some x=>obtain⟨k,hk⟩:=fN h O;exact .inr ⟨k,by simp[hk]⟩
theorem w7{M:Nat->Prop}{v:Value}{t:ag}{x:t.el}(h:aQ w M m v (.vptr t x)):∃a,v=.pointer (some a)/\Holds w M a t x:=by
 obtain⟨a,cells,e,h1,o⟩:=h
 exact⟨a,e,cells,h1,o⟩
theorem AD{M:Nat->Prop}{a:Addr}{t:ag}{x:t.el}(h:Holds w M a t x):aQ w M m (.pointer (some a)) (.vptr t x):=by
 obtain⟨cells,h1,o⟩:=h
 exact⟨a,cells,rfl,h1,o⟩
theorem Uu{α:Type}{s r:List α}{o O:Int}(h:dK s o O=some r):r.length<=s.length:=by
 obtain⟨_,_,_,rfl⟩:=w9 h
 rw[List.length_drop,List.length_take]
 omega
theorem JB{cx:bB}{m:Nat->Value}{st:ae}{T:Array Value}{w:World}(h:am cx m st T w){aa:Oper}{src la:TypeId}{x:Operand}(lc:aa.op=.convert src la x){orc:List aj}{U:dG}(o:xR cx.P st src la x orc=some U)(ld:bJ U.ob):
  ∃v,dR cx T w aa v/\aQ w (ap cx m st.ids) m v U.aJ:=by
 have key:∀s,(aP st x).map (nE st)=some s->aQ w (fun _=>False) m (Act.eval ⟨T,[]⟩ x) s:=by
  intro s O
  obtain⟨lf,h1,W⟩:=Option.map_eq_some_iff.1 O
  rw[<-W]
  exact Ls h (aW h h1)
 unfold xR at o
 split at o
 ·rename_i xs e Y O af
  split at o
  ·rename_i Z
   cases o
   obtain⟨h1,W⟩:=SR O Z af (key _ Y)
   exact⟨_,dR.of (by simp only[execOp,lc]) h1,eS.2 ⟨rfl,W⟩⟩
  ·cases o
 ·rename_i xs e Y O af
  split at o
  ·rename_i Z
   cases o
   have h1:=Xd O Z af (key _ Y)
   exact⟨_,dR.of (by simp only[execOp,lc]) h1,eS.2 ⟨rfl,Nat.le_trans ld.1 tF⟩⟩
  ·cases o
 ·cases o
theorem V8{y:Operand}(h:uU y=true):y=.const .nilIface:=by
 cases y with
 |const c=>cases c<;>first|rfl|(simp[uU]at h)
 |_=>simp[uU]at h
theorem Js{P:Program}{t:TypeId}{ms}(o:P.underlying t=some (.interface ms))(w:World):(Op.equal t .nilIface .nilIface).run P w=.ok true w:=by
 unfold Op.equal Op.maxDepth
 rw[Op.equalIn]
 simp only[Sem.run_bind,run_underlying o,Result.andThen_ok]
 rfl
theorem ya{P:Program}{t u:TypeId}{v:Value}{ms}(o:P.underlying t=some (.interface ms))(w:World):(Op.equal t (.iface u v) .nilIface).run P w=.ok false w:=by
 unfold Op.equal Op.maxDepth
 rw[Op.equalIn]
 simp only[Sem.run_bind,run_underlying o,Result.andThen_ok]
 rfl
theorem Ht{P:Program}{t u:TypeId}{v:Value}{ms}(o:P.underlying t=some (.interface ms))(w:World):(Op.equal t .nilIface (.iface u v)).run P w=.ok false w:=by
 unfold Op.equal Op.maxDepth
 rw[Op.equalIn]
 simp only[Sem.run_bind,run_underlying o,Result.andThen_ok]
 rfl
theorem uc{P:Program}{t:TypeId}{o O:Value}{b:Bool}(U:binOp .eql t o O=(do pure (.bool (<-Op.equal t o O))))(h:∀w,(Op.equal t o O).run P w=.ok b w)(w:World):(binOp .eql t o O).run P w=.ok (.bool b) w:=by
 rw[U,Sem.run_bind,h w];rfl
theorem tc{P:Program}{t:TypeId}{o O:Value}{b:Bool}(U:binOp .neq t o O=(do pure (.bool (!(<-Op.equal t o O)))))(h:∀w,(Op.equal t o O).run P w=.ok b w)(w:World):(binOp .neq t o O).run P w=.ok (.bool (!b)) w:=by
 rw[U,Sem.run_bind,h w];rfl
theorem JW{P:Program}{M:Nat->Prop}{op:BinOp}{t:TypeId}{x y:aj}{U o:Value}{ox oy:Operand}{r:Bool}{ob:List Prop}(Y:a8 w M U x.t x.x)(W:a8 w M o y.t y.x)
  (li:oy=.const .nilIface->o=.nilIface)(h:oW P op t oy x y=some (r,ob))(lj:bJ ob):
  ∃v,gK P (do eqGuard op t ox oy U o;binOp op t U o) v/\∀w M,a8 w M v .bool r:=by
 have fin:∀(b:Bool) (Z:List Prop),oW.neg op b Z=some (r,ob)->(∀w,(eqGuard .eql t ox oy U o).run P w=.ok () w)->(∀w,(eqGuard .neq t ox oy U o).run P w=.ok () w)->
   (∀w,(binOp .eql t U o).run P w=.ok (.bool b) w)->(∀w,(binOp .neq t U o).run P w=.ok (.bool (!b)) w)->∃v,gK P (do eqGuard op t ox oy U o;binOp op t U o) v/\∀w M,a8 w M v .bool r:=by
  intro b Z h g1 g2 lk ll
  unfold oW.neg at h
  split at h
  ·cases h;exact⟨_,fun w=>by rw[Sem.run_bind,g1 w];exact lk w,fun _ _=>dH.2 rfl⟩
  ·cases h;exact⟨_,fun w=>by rw[Sem.run_bind,g2 w];exact ll w,fun _ _=>dH.2 rfl⟩
  ·cases h
 have Z:∀(b:Bool) (aa:List Prop),oW.neg op b aa=some (r,ob)->ob=aa:=by
  intro b aa h
  unfold oW.neg at h
  split at h<;>cases h<;>rfl
 unfold oW at h
 split at h
 ·rename_i a b
  have Y:=(bZ (t:=.err) rfl).1 Y
  have W:=(bZ (t:=.err) rfl).1 W
  split at h
  ·rename_i lm O lg
   have lh:=V8 lg
   have lc:=li lh
   subst lh
   subst lc
   rcases Y with ⟨rfl,e⟩|⟨rfl,u,v,e⟩|⟨u,n,rfl,e⟩<;>simp only[List.cons.injEq,and_true]at e<;>subst e
   ·exact fin _ _ h (fun w=>by cases ox<;>rfl) (fun w=>by cases ox<;>rfl) (uc rfl (Js O)) (tc rfl (Js O))
   ·exact fin _ _ h (fun w=>rfl) (fun w=>rfl) (uc rfl (ya O)) (tc rfl (ya O))
   ·exact fin _ _ h (fun w=>rfl) (fun w=>rfl) (uc rfl (ya O)) (tc rfl (ya O))
  ·rename_i lm O lg
   split at h
   ·rename_i u m ld
    have ld:b=some (some (u,m)):=ld
    subst ld
    have W:o=.iface u (.int .i64 m):=by
     rcases W with ⟨e,_⟩|⟨e,_⟩|⟨la,lr,e,lc⟩
     ·cases e
     ·cases e
     ·cases e;simpa using lc
    subst W
    split at h
    ·rename_i i k ln lo
     cases lf:i.comparable with
     |false=>rw[lf]at h;cases h
     |true=>
      rw[lf,cond_true]at h
      have:=Z _ _ h
      subst this
      have lp:=lj.1
      have lq:∀w,(typeInfo u).run P w=.ok i w:=fun w=>run_typeInfo w ln
      rcases Y with ⟨rfl,e⟩|⟨rfl,_⟩|⟨la,n,rfl,e⟩
      ·simp only[List.cons.injEq,and_true]at e;subst e
       exact fin _ _ h (fun w=>rfl) (fun w=>rfl) (uc rfl (Ht O)) (tc rfl (Ht O))
      ·exact absurd rfl lp
      ·simp only[List.cons.injEq,and_true]at e;subst e
       have key:∀w,(Op.equal t (.iface la (.int .i64 n)) (.iface u (.int .i64 m))).run P w=.ok (wm (some (some (la,n))) u m) w:=by
        intro w
        unfold Op.equal Op.maxDepth
        rw[Op.equalIn]
        simp only[Sem.run_bind,run_underlying O,Result.andThen_ok]
        by_cases az:la=u
        ·subst az
         simp only[ne_eq,not_true_eq_false,if_false,Sem.run_bind,lq,Result.andThen_ok,lf,Bool.not_true,Bool.false_eq_true]
         rw[run_equalIn_int (h:=lo)]
         simp[wm]
        ·simp[az,wm,Sem.run_pure]
       exact fin _ _ h (fun w=>rfl) (fun w=>rfl) (uc rfl key) (tc rfl key)
    ·cases h
   ·cases h
  ·cases h
 ·cases h
theorem MR(h:am cx m st T w){jJ:Bool}{args:Array Operand}{r:aj}(o:wo st jJ args.toList=some r):
  ∃x y k a b,args=#[x,y]/\Act.eval ⟨T,[]⟩ x=.int k a/\Act.eval ⟨T,[]⟩ y=.int k b/\r=⟨.int k,bif jJ then mu a b else cC a b⟩:=by
 unfold wo at o
 split at o
 ·rename_i x y O
  split at o
  ·rename_i k a k' b U W
   cases hk:gU k k' with
   |false=>rw[hk]at o;cases o
   |true=>
    rw[hk,cond_true]at o
    cases o
    obtain rfl:=nK hk
    exact⟨x,y,k,a,b,by rw[<-Array.toArray_toList (xs:=args),O],cZ.1 (df h U),cZ.1 (df h W),rfl⟩
  ·cases o
 ·cases o
set_option maxHeartbeats 1000000 in
theorem Co(h:am cx m st T w){aa:Oper}{orc:List aj}{lO:dG}(o:dD cx.P st aa.op orc=some lO)(lg:bJ lO.ob):
  ∃v,dR cx T w aa v/\aQ w (ap cx m st.ids) m v lO.aJ:=by
 cases W:aa.op<;>rw[W]at o
 case move x=>
  simp only[dD]at o
  split at o
  ·rename_i s lh
   cases o
   exact⟨_,fun w' _=>by simp[execOp,W],aW h lh⟩
  ·cases o
 case assign x=>
  simp only[dD]at o
  split at o
  ·rename_i s lh
   cases o
   exact⟨_,fun w' _=>by simp[execOp,W],aW h lh⟩
  ·cases o
 case pick c a b=>
  simp only[dD]at o
  split at o
  ·rename_i li
   have lP:=dH.1 (df h li)
   split at o
   ·rename_i s lh
    cases o
    refine⟨_,fun w' _=>?_,aW h lh⟩
    simp[execOp,W,lP,asBool]
   ·cases o
  ·rename_i li
   have lP:=dH.1 (df h li)
   split at o
   ·rename_i s lh
    cases o
    refine⟨_,fun w' _=>?_,aW h lh⟩
    simp[execOp,W,lP,asBool]
   ·cases o
  ·cases o
 case binOp ai t x y a1=>
  simp only[dD]at o
  split at o
  ·rename_i a b lv Y
   split at o
   ·rename_i r ob Z
    cases o
    obtain⟨v,h1,O⟩:=AV (ox:=x) (oy:=y) (df h lv) (df h Y) Z lg
    exact⟨v,dR.of (by simp only[execOp,W]) h1.steady,O _ _⟩
   ·split at o
    ·rename_i r ob Z
     cases o
     obtain⟨v,h1,O⟩:=JW (ox:=x) (oy:=y) (df h lv) (df h Y) (fun lp=>by subst lp;rfl) Z lg
     exact⟨v,dR.of (by simp only[execOp,W]) h1.steady,O _ _⟩
    ·cases o
  ·cases o
 case unOp ai t x=>
  simp only[dD]at o
  split at o
  ·rename_i a lv
   split at o
   ·rename_i r Z
    cases o
    obtain⟨v,h1,O⟩:=St (P:=cx.P) (df h lv) Z
    exact⟨v,dR.of (by simp only[execOp,W]) h1.steady,O _ _⟩
   ·cases o
  ·cases o
 case convert src a2 x=>
  simp only[dD]at o
  split at o
  ·rename_i a lv
   split at o
   ·rename_i r Z
    cases o
    obtain⟨v,h1,O⟩:=PC (df h lv) Z
    exact⟨v,dR.of (by simp only[execOp,W]) h1.steady,O _ _⟩
   ·exact JB h W o lg
  ·exact JB h W o lg
 case index t x i=>
  simp only[dD]at o
  split at o
  ·rename_i s n b orc' U lf ld
   cases o
   obtain⟨k,hk⟩:=fN h lf
   obtain⟨la,_⟩:=eS.1 (df h U)
   refine⟨.int .u8 b,dR.of (s:=Instr.index t (.string (bytesOf s)) (.int k n)) (by simp only[execOp,W,la,hk];rfl) (V1 ld lg.1).steady,cZ.2 rfl⟩
  ·rename_i k u xs n v orc' k' e U lf ld
   split at o
   ·rename_i ln y Y lw lp
    cases lx:u.beq ln<;>rw[lx]at o<;>cases o
    obtain rfl:=Nat.eq_of_beq_eq_true Y
    obtain rfl:=ag.eq_of_beq lx
    obtain⟨q,az⟩:=fN h lf
    obtain⟨lr,h1,O⟩:=js lg.1
    obtain⟨ak,la,lQ,lR⟩:=(eA (t:=.arr k u) rfl).1 (df h U)
    obtain⟨c1,c2,c3,rfl,lj,Z⟩:=mC lR O
    obtain⟨r,lB,lS⟩:=AX lw (pre:=c1) (post:=c3) Z
    refine⟨r,dR.of (s:=Instr.index t (.agg (c1++c2++c3).toArray) (.int q n)) (by simp only[execOp,W,la,az]) (fun w' _=>?_),lS⟩
    have lC:n<(k:Int):=by rw[<-lQ];exact h1
    simp only[Instr.index,asIntOf,Sem.run_bind,Sem.run_pure,Result.andThen_ok,run_underlying ld]
    rw[if_pos ⟨lr,lC⟩]
    simp only[Sem.run_bind,ff lw,Result.andThen_ok]
    have:=lB w'
    rw[lj]at this
    exact this
   ·cases o
  ·cases o
 case field t x f=>
  simp only[dD]at o
  split at o
  ·rename_i a off u lv lk
   split at o
   ·rename_i y lT lq
    cases o
    obtain⟨r,h1,O⟩:=PI lk lT (df h lv) lq
    exact⟨r,dR.of (by simp only[execOp,W]) h1.steady,O⟩
   ·cases o
  ·cases o
 case build t parts=>
  simp only[dD]at o
  split at o
  ·rename_i u i lc lf
   split at o
   ·rename_i z lt l5
    have lT:=ag.UK l5
    split at o
    ·rename_i y an ao
     cases o
     obtain⟨l6,l7,aq⟩:=LF (w:=w) (M:=ap cx m st.ids) u an
     rw[List.append_nil]at l7
     obtain⟨a3,a4,a5,lk⟩:=dn lc
     have ar:∃lA d',cx.P.underlying t=some (.struct lA)/\fieldsOf (cD cx.P d') 0 lA.toList=some u:=by
      cases u<;>first|exact lk|(simp[ag.qm]at l5)
     obtain⟨lA,d',lU,au⟩:=ar
     obtain⟨l8,av,lS⟩:=JL lU h rfl (place:=fun k=>(lA.map fun f=>(f.offset,cx.P.cellsOf f.type))[k]?) (fun k off lD aw=>by
      obtain⟨ax,a6,h1,O,lJ,lK,ay⟩:=yT aw
      have:ax=lA:=by rw[lU]at h1;cases h1;rfl
      subst this
      obtain⟨i3,aA,aB,_⟩:=dn lJ
      rw[Array.getElem?_map,O]
      simp[lK,Program.cellsOf,aA,aB]) parts.toList (cj u) y l6 aq ao
     refine⟨.agg l8.toArray,dR.of (by simp only[execOp,W]) (s:=Instr.build t (parts.map fun p=>(p.1,Act.eval ⟨T,[]⟩ p.2))) ?_,(eA lT).2 ⟨l8,rfl,lS⟩⟩
     intro w' _
     have aC:z.cells=l6.toArray:=by rw[<-l7]
     refine run_build w' t _ _ ?_
     unfold Program.built
     simp only[lf,lU,lt,BH lA.toList (fun f lk=>E6 au f lk)]
     rw[aC,Array.toList_map,<-av]
     congr 1
     funext k
     simp
    ·cases o
   ·cases o
  ·cases o
 case extract x i=>
  simp only[dD]at o
  split at o
  ·rename_i l U
   split at o
   ·rename_i v la
    cases o
    obtain⟨vs,lE,Z⟩:=aW h U
    have key:∀(vs:List Value) (l:List aj) (i:Nat) (u:aj),eZ w (ap cx m st.ids) vs l->l[i]? =some u->∃v,vs[i]? =some v/\a8 w (ap cx m st.ids) v u.t u.x:=by
     intro vs
     induction vs with
     |nil=>intro l i u Z lc;cases l with
      |nil=>simp at lc
      |cons _ _=>exact Z.elim
     |cons v vs lF=>intro l i u Z lc;cases l with
      |nil=>exact Z.elim
      |cons ln l=>cases i with
       |zero=>simp at lc;subst lc;exact⟨v,rfl,Z.1⟩
       |succ i=>exact lF l i u Z.2 (by simpa using lc)
    obtain⟨v',h1,O⟩:=key vs l i v Z la
    refine⟨v',fun w' _=>?_,O⟩
    simp only[execOp,W,lE,Instr.extract]
    rw[List.getElem?_toArray,h1]
    rfl
   ·cases o
  ·rename_i l U
   have key:∀(vs:List Value) (l:List bQ) (i:Nat) (u:bQ),dd w (ap cx m st.ids) m vs l->l[i]? =some u->∃v,vs[i]? =some v/\(match u with|.v u=>a8 w (ap cx m st.ids) v u.t u.x|.r r=>v=m r|.a=>True):=by
    intro vs
    induction vs with
    |nil=>intro l i u Z lc;cases l with
     |nil=>simp at lc
     |cons _ _=>exact Z.elim
    |cons v vs lF=>intro l i u Z lc;cases l with
     |nil=>exact Z.elim
     |cons ln l=>cases i with
      |zero=>simp at lc;subst lc;cases ln with
       |v _=>exact⟨v,rfl,Z.1⟩
       |r _=>exact⟨v,rfl,Z.1⟩
       |a=>exact⟨v,rfl,trivial⟩
      |succ i=>cases ln with
       |v _=>exact lF l i u Z.2 (by simpa using lc)
       |r _=>exact lF l i u Z.2 (by simpa using lc)
       |a=>exact lF l i u Z (by simpa using lc)
   obtain⟨vs,lE,Z⟩:=aW h U
   split at o
   ·rename_i v la
    cases o
    obtain⟨v',h1,O⟩:=key vs l i _ Z la
    refine⟨v',fun w' _=>?_,O⟩
    simp only[execOp,W,lE,Instr.extract]
    rw[List.getElem?_toArray,h1]
    rfl
   ·rename_i r la
    cases o
    obtain⟨v',h1,O⟩:=key vs l i _ Z la
    refine⟨v',fun w' _=>?_,?_⟩
    ·simp only[execOp,W,lE,Instr.extract]
     rw[List.getElem?_toArray,h1]
     rfl
    ·show aQ _ _ _ _ _
     split
     ·rename_i l e lj
      obtain⟨g,lq,_⟩:=h.box (aX lj)
      have O:v'=m r:=O
      exact⟨g,lq,O.trans lq⟩
     ·rename_i t x e lj
      obtain⟨g,lq,_⟩:=h.box (aX lj)
      have O:v'=m r:=O
      exact⟨g,lq,O.trans lq⟩
     ·exact O
     ·exact O
   ·rename_i la
    cases o
    obtain⟨v',h1,_⟩:=key vs l i _ Z la
    refine⟨v',fun w' _=>?_,trivial⟩
    simp only[execOp,W,lE,Instr.extract]
    rw[List.getElem?_toArray,h1]
    rfl
   ·cases o
  ·cases o
 case nilCheck x=>
  simp only[dD]at o
  split at o
  ·rename_i b off U
   cases o
   have la:=aW h U
   obtain⟨g,h1,O⟩:=la
   exact⟨_,fun w' _=>by simp only[execOp,W,O];rfl,g,h1,O⟩
  ·rename_i t y U
   cases o
   have la:=aW h U
   obtain⟨a,h1,O⟩:=w7 la
   exact⟨_,fun w' _=>by simp only[execOp,W,h1];rfl,h1▸la⟩
  ·rename_i r i off lL U
   cases o
   have la:=aW h U
   obtain⟨g,n,cap,h1,O⟩:=la
   exact⟨_,fun w' _=>by simp only[execOp,W,O];rfl,g,n,cap,h1,O⟩
  ·rename_i b p U
   cases o
   have la:=aW h U
   obtain⟨g,h1,O⟩:=la
   exact⟨_,fun w' _=>by simp only[execOp,W,O];rfl,g,h1,O⟩
  ·cases o
 case fieldAddr t x f=>
  simp only[dD]at o
  split at o
  ·rename_i b off ly lD U lk
   cases o
   obtain⟨g,h1,O⟩:=aW h U
   refine⟨.pointer (some ⟨g,off+ly,none⟩),dR.of (by simp only[execOp,W]) (s:=Instr.fieldAt t (Act.eval ⟨T,[]⟩ x) f) ?_,g,h1,rfl⟩
   intro w' _
   rw[O,nW lk,gL]
  ·rename_i u y ly lD U lk
   split at o
   ·rename_i z lt
    cases o
    obtain⟨a,h1,O⟩:=w7 (aW h U)
    refine⟨.pointer (some (a.add ly)),dR.of (by simp only[execOp,W]) (s:=Instr.fieldAt t (Act.eval ⟨T,[]⟩ x) f) ?_,AD (O.part lt)⟩
    intro w' _
    rw[h1,nW lk]
   ·cases o
  ·rename_i r i off lL ly lD U lk
   cases o
   obtain⟨g,n,cap,h1,O⟩:=aW h U
   refine⟨.pointer (some ⟨g,i.toNat*lL+(off+ly),none⟩),dR.of (by simp only[execOp,W]) (s:=Instr.fieldAt t (Act.eval ⟨T,[]⟩ x) f) ?_,g,n,cap,h1,rfl⟩
   intro w' _
   rw[O,nW lk,gL,Nat.add_assoc]
  ·rename_i b p ly lD U lk
   cases o
   obtain⟨g,h1,O⟩:=aW h U
   refine⟨.pointer (some ⟨g,gx (p++[.f ly lD]),none⟩),dR.of (by simp only[execOp,W]) (s:=Instr.fieldAt t (Act.eval ⟨T,[]⟩ x) f) ?_,g,h1,rfl⟩
   intro w' _
   rw[O,nW lk,gL,zD]
   rfl
  ·cases o
 case indexAddr t x i=>
  simp only[dD]at o
  split at o
  ·rename_i u xs n ln v orc' U lf ld
   split at o
   ·rename_i y Y lp
    cases o
    obtain⟨k,hk⟩:=fN h lf
    obtain⟨lr,h1,O⟩:=js lg.1
    obtain⟨a,cap,cells,li,aE,_,aF,aG,lV⟩:=(bZ (t:=.ab u) rfl).1 (aW h U)
    simp only[List.cons.injEq,and_true]at li
    obtain⟨c1,c2,c3,rfl,lj,Z⟩:=mC aG O
    obtain⟨_,_,_,lW,d',lw,lG⟩:=dn ld
    obtain rfl:=ag.eq_of_beq Y
    have aH:∃b,a=some b:=by
     cases a with
     |some b=>exact⟨b,rfl⟩
     |none=>
      have lJ:cap=0:=aF rfl
      have lK:(List.length xs:Int)<=cap:=by exact_mod_cast aE
      have ay:n<((List.length xs:Nat):Int):=h1
      omega
    obtain⟨b,rfl⟩:=aH
    refine⟨.pointer (some (b.add (n.toNat*u.cells))),dR.of (by simp only[execOp,W]) (s:=Instr.indexAt t (Act.eval ⟨T,[]⟩ x) (Act.eval ⟨T,[]⟩ i)) ?_,?_⟩
    ·intro w' _
     have lC:n<((List.length xs:Nat):Int):=h1
     simp only[li,hk,Instr.indexAt,asIntOf,Sem.run_bind,Sem.run_pure,Result.andThen_ok,run_underlying lw]
     rw[if_pos ⟨lr,lC⟩]
     simp only[Sem.run_bind,ff lG,Result.andThen_ok,Sem.run_pure]
    ·refine AD ⟨c2,Z,fun j v lH=>?_⟩
     have aI:=(List.getElem?_eq_some_iff.1 lH).1
     have lX:(c1++c2++c3)[n.toNat*u.cells+j]? =some v:=by
      rw[List.append_assoc,List.getElem?_append_right (by omega),List.getElem?_append_left (by omega),<-lH]
      congr 1
      omega
     obtain⟨a7,lY,lx,lz⟩:=lV _ _ lX
     cases lY
     exact⟨by rw[add_add];exact lx,by rw[kg];exact lz⟩
   ·cases o
  ·rename_i r n ln v orc' U lf ld
   split at o
   ·rename_i c li
    split at o
    ·rename_i y Y lp
     cases o
     obtain⟨k,hk⟩:=fN h lf
     obtain⟨lr,h1,O⟩:=js lg.1
     obtain⟨_,_,_,lW,d',lw,lG⟩:=dn ld
     have aJ:cD cx.P d' lW=some c.t:=by rw[ag.eq_of_beq Y];exact lG
     have la:Act.eval ⟨T,[]⟩ x=m r:=aW h U
     obtain⟨cells,aK,_⟩:=h.rows r c (aX li)
     rcases aK.2 with ⟨ll,lt⟩|⟨g,cap,cur,ll,_⟩
     ·omega
     ·refine⟨.pointer (some ⟨g,n.toNat*c.t.cells+0,none⟩),dR.of (by simp only[execOp,W]) (s:=Instr.indexAt t (Act.eval ⟨T,[]⟩ x) (Act.eval ⟨T,[]⟩ i)) ?_,g,_,cap,ll,rfl⟩
      intro w' _
      simp only[la,ll,hk,Instr.indexAt,asIntOf,Sem.run_bind,Sem.run_pure,Result.andThen_ok,run_underlying lw]
      rw[if_pos ⟨lr,h1⟩]
      simp only[Sem.run_bind,ff aJ,Result.andThen_ok,Sem.run_pure,gL,Nat.zero_add,Nat.add_zero]
    ·cases o
   ·cases o
  ·rename_i k u xs n k' ln v orc' U lf ld
   split at o
   ·rename_i y Y lp
    cases o
    simp only[Bool.and_eq_true]at Y
    obtain rfl:=Nat.eq_of_beq_eq_true Y.1
    obtain rfl:=ag.eq_of_beq Y.2
    obtain⟨q,az⟩:=fN h lf
    obtain⟨lr,h1,O⟩:=js lg.1
    obtain⟨_,_,_,e,d',lc,lu⟩:=dn ld
    obtain⟨a,la,ak,⟨lQ,lR⟩,lV⟩:=w7 (aW h U)
    obtain⟨c1,c2,c3,rfl,lj,Z⟩:=mC lR O
    refine⟨.pointer (some (a.add (n.toNat*u.cells))),dR.of (by simp only[execOp,W]) (s:=Instr.indexAt t (Act.eval ⟨T,[]⟩ x) (Act.eval ⟨T,[]⟩ i)) (fun w' _=>?_),?_⟩
    ·rw[la,az]
     exact vw lc lu lr (by rw[<-lQ];exact h1) w'
    ·refine AD ⟨c2,Z,fun j v lH=>?_⟩
     have aI:=(List.getElem?_eq_some_iff.1 lH).1
     have lX:(c1++c2++c3)[n.toNat*u.cells+j]? =some v:=by
      rw[List.append_assoc,List.getElem?_append_right (by omega),List.getElem?_append_left (by omega),<-lH]
      congr 1
      omega
     obtain⟨lx,lz⟩:=lV _ _ lX
     exact⟨by rw[add_add];exact lx,by rw[kg];exact lz⟩
   ·cases o
  ·rename_i b p n len u U lf ld
   cases o
   obtain⟨q,az⟩:=fN h lf
   obtain⟨_,_,_,e,d',lc,lu⟩:=dn ld
   obtain⟨g,lZ,l0⟩:=aW h U
   refine⟨.pointer (some ⟨g,gx (p++[.x n u.cells]),none⟩),dR.of (by simp only[execOp,W]) (s:=Instr.indexAt t (Act.eval ⟨T,[]⟩ x) (Act.eval ⟨T,[]⟩ i)) (fun w' _=>?_),g,lZ,rfl⟩
   rw[l0,az,vw lc lu lg.1.1 lg.1.2 w',gL,zD]
   rfl
  ·rename_i b off n len u U lf ld
   cases Y:(decide (0<=n)&&decide (n<(len:Int)))<;>rw[Y]at o<;>cases o
   simp only[Bool.and_eq_true,decide_eq_true_eq]at Y
   obtain⟨q,az⟩:=fN h lf
   obtain⟨_,_,_,e,d',lc,lu⟩:=dn ld
   obtain⟨g,lZ,l0⟩:=aW h U
   refine⟨.pointer (some ⟨g,off+n.toNat*u.cells,none⟩),dR.of (by simp only[execOp,W]) (s:=Instr.indexAt t (Act.eval ⟨T,[]⟩ x) (Act.eval ⟨T,[]⟩ i)) (fun w' _=>?_),g,lZ,rfl⟩
   rw[l0,az,vw lc lu Y.1 Y.2 w',gL]
  ·rename_i r i0 aL lL n len u U lf ld
   split at o
   ·rename_i c li
    split at o
    ·rename_i v aM Y
     split at o
     ·rename_i y lp
      cases o
      simp only[Bool.and_eq_true,beq_iff_eq]at Y
      obtain⟨lY,lx,lz,l9⟩:=Y
      have lz:=Nat.eq_of_beq_eq_true lz
      have l9:=Nat.eq_of_beq_eq_true l9
      obtain⟨k,hk⟩:=fN h lf
      obtain⟨lr,h1,O⟩:=js lg.1
      have l3:c.xs.length=len:=lg.2.1
      obtain⟨_,_,_,e,d',lc,lu⟩:=dn ld
      obtain rfl:=ag.eq_of_beq lY
      obtain⟨g,aN,cap,ll,la⟩:=aW h U
      have la:Act.eval ⟨T,[]⟩ x=.pointer (some ⟨g,0,none⟩):=by rw[la,lx,lz];simp
      refine⟨.pointer (some ⟨g,n.toNat*c.t.cells+0,none⟩),dR.of (by simp only[execOp,W]) (s:=Instr.indexAt t (Act.eval ⟨T,[]⟩ x) (Act.eval ⟨T,[]⟩ i)) (fun w' _=>?_),g,_,cap,ll,rfl⟩
      have lC:n<(len:Int):=by rw[<-l3];exact h1
      rw[la,hk,vw lc lu lr lC w',gL,Nat.zero_add,Nat.add_zero]
     ·cases o
    ·cases o
    ·rename_i aM a9
     cases Y:(decide (0<=n)&&decide (n<(len:Int)))<;>rw[Y]at o<;>cases o
     simp only[Bool.and_eq_true,decide_eq_true_eq]at Y
     obtain⟨q,az⟩:=fN h lf
     obtain⟨_,_,_,e,d',lc,lu⟩:=dn ld
     obtain⟨g,aN,cap,ll,la⟩:=aW h U
     refine⟨.pointer (some ⟨g,i0.toNat*lL+(aL+n.toNat*u.cells),none⟩),dR.of (by simp only[execOp,W]) (s:=Instr.indexAt t (Act.eval ⟨T,[]⟩ x) (Act.eval ⟨T,[]⟩ i)) (fun w' _=>?_),g,_,cap,ll,rfl⟩
     rw[la,az,vw lc lu Y.1 Y.2 w',gL,Nat.add_assoc]
   ·cases o
  ·cases o
 case load t x=>
  simp only[dD]at o
  split at o
  ·rename_i u y ln U ld
   split at o
   ·rename_i Y lt
    cases o
    obtain⟨a,h1,O⟩:=w7 (aW h U)
    have lB:0<u.cells:=Nat.pos_of_ne_zero (beq_false lt)
    obtain rfl:=ag.eq_of_beq Y
    obtain⟨v,lJ,lK⟩:=M0 ld O lB
    refine⟨v,dR.of (by simp only[execOp,W]) (s:=Instr.loadAt t (Act.eval ⟨T,[]⟩ x)) ?_,lK⟩
    intro w' lo
    simp only[Instr.loadAt,h1,Instr.sureAddr,Sem.run_bind,Sem.run_pure,Result.andThen_ok]
    exact lJ w' lo
   ·cases o
  ·cases o
 case slice t x ba lf jJ=>
  cases jJ with
  |some _=>simp only[dD]at o;cases o
  |none=>
   simp only[dD]at o
   split at o
   ·rename_i s r orc' U
    split at o
    ·rename_i l aO ld lj l4
     cases o
     obtain⟨la,l3⟩:=eS.1 (aW h U)
     have lh:=W7 ld (I0 h lj) (Lh h l4) lg.1
     refine⟨.string (bytesOf r),dR.of (by simp only[execOp,W,la];rfl) lh.steady,eS.2 ⟨rfl,?_⟩⟩
     exact Nat.le_trans (Uu lg.1) l3
    ·cases o
   ·rename_i u xs v orc' U
    split at o
    ·rename_i ln l aO r ld lj l4 Z
     cases Y:u.beq ln with
     |false=>rw[Y]at o;cases o
     |true=>
      rw[Y]at o
      cases o
      obtain rfl:=ag.eq_of_beq Y
      obtain⟨_,_,_,lW,d',lw,lG⟩:=dn ld
      obtain⟨v',h1,O⟩:=W5 lw lG ((bZ (t:=.ab u) rfl).1 (aW h U)) (I0 h lj) (Lh h l4) lg.1
      exact⟨v',dR.of (by simp only[execOp,W];rfl) h1.steady,(bZ (t:=.ab u) rfl).2 O⟩
    ·cases o
   ·cases o
 case call c=>
  simp only[dD]at o
  split at o
  ·rename_i c' args lM
   split at o
   ·rename_i x t U ld
    split at o
    ·rename_i s lh
     split at o
     ·rename_i n ll
      cases o
      have lj:=RH h (aW h lh) ll (ty':=aa.type)
      have lI:args=#[x]:=by rw[<-Array.toArray_toList (xs:=args),U]
      have ab:lM=#[t]:=by rw[<-Array.toArray_toList (xs:=lM),ld]
      subst lI
      subst ab
      refine⟨.int .i64 n,fun w' lo=>?_,cZ.2 rfl⟩
      simp only[execOp,W,resolve,invoke,builtin,Sem.run_bind,Sem.run_pure,Result.andThen_ok,List.map_toArray,List.map_cons,List.map_nil,lj w' lo]
     ·cases o
    ·cases o
   ·cases o
  ·rename_i args lM
   split at o
   ·rename_i r Z
    cases o
    obtain⟨x,y,k,a,b,lI,U,lp,e⟩:=MR h Z
    subst lI
    subst e
    refine⟨.int k (mu a b),fun w' lo=>?_,cZ.2 rfl⟩
    simp only[execOp,W,resolve,invoke,builtin,Sem.run_bind,Sem.run_pure,Result.andThen_ok,List.map_toArray,List.map_cons,List.map_nil,U,lp,run_max_int2]
    rfl
   ·cases o
  ·rename_i args lM
   split at o
   ·rename_i r Z
    cases o
    obtain⟨x,y,k,a,b,lI,U,lp,e⟩:=MR h Z
    subst lI
    subst e
    refine⟨.int k (cC a b),fun w' lo=>?_,cZ.2 rfl⟩
    simp only[execOp,W,resolve,invoke,builtin,Sem.run_bind,Sem.run_pure,Result.andThen_ok,List.map_toArray,List.map_cons,List.map_nil,U,lp,run_min_int2]
    rfl
   ·cases o
  ·cases o
 case makeInterface t x=>
  simp only[dD]at o
  cases li:cx.P.concrete t with
  |false=>rw[li]at o;cases o
  |true=>
   rw[li,cond_true]at o
   cases o
   refine⟨_,dR.of (by simp only[execOp,W]) (s:=Instr.makeInterface t (Act.eval ⟨T,[]⟩ x)) (fun w' _=>run_makeInterface w' t _ li),(bZ (t:=.err) rfl).2 ?_⟩
   unfold Iq
   split
   ·rename_i k n U
    cases hk:gU k .i64 with
    |true=>
     obtain rfl:=nK hk
     have:=cZ.1 (df h U)
     exact .inr (.inr ⟨t,n,rfl,by rw[this]⟩)
    |false=>exact .inr (.inl ⟨rfl,_,_,rfl⟩)
   ·exact .inr (.inl ⟨rfl,_,_,rfl⟩)
 case lookup mt x k ok=>
  simp only[dD]at o
  unfold wx at o
  split at o
  ·rename_i lm aP ab key U ad hk
   split at o
   ·rename_i aR aS lN ae aT aU
    obtain⟨s,lh,aV⟩:=Option.bind_eq_some_iff.1 U
    have af:=df h hk
    have aY:=aj.dC aU
    subst aY
    obtain⟨z,_,lt,ah⟩:=Kq aT
    have fin:(aR.beq lm.k&&aS.beq lm.v&&eD cx.P 16 aP)=true->∃r,a8 w (ap cx m st.ids) r lm.v ((bn (aD lm.k) lm.ps lN).getD (cj lm.v))/\∀w',Ext w w'->∀ok,(Instr.lookup mt (Act.eval ⟨T,[]⟩ x) (Act.eval ⟨T,[]⟩ k) ok).run cx.P w'=.ok (if ok then .tuple #[r,.bool (bn (aD lm.k) lm.ps lN).isSome]else r) w':=by
     intro Y
     simp only[Bool.and_eq_true]at Y
     have aZ:=ag.eq_of_beq Y.1.1
     have a0:=ag.eq_of_beq Y.1.2
     subst aZ
     subst a0
     rcases Au h (aW h lh) aV with ⟨ll,lB⟩|⟨g,es,clock,ll,lq,Z⟩
     ·obtain⟨r,h1,O⟩:=rm (w':=w) (M':=ap cx m st.ids) (d:=jp) (d':=16) ad ae Y.2 (by decide) lt ah af (es:=#[]) (ps:=lm.ps) (by rw[lB];trivial)
      exact⟨r,h1,fun w' _=>O w' _ (.inl ⟨ll,rfl⟩)⟩
     ·obtain⟨r,h1,O⟩:=rm (d:=jp) (d':=16) ad ae Y.2 (by decide) lt ah af Z
      exact⟨r,h1,fun w' lo=>O w' _ (.inr ⟨g,clock,ll,by rw[lo.block g (gD lq)];exact lq⟩)⟩
    split at o
    ·rename_i Y
     cases o
     obtain⟨r,h1,O⟩:=fin Y
     exact⟨.tuple #[r,.bool (bn (aD lm.k) lm.ps lN).isSome],dR.of (by simp only[execOp,W]) (fun w' lo=>O w' lo true),[r,.bool (bn (aD lm.k) lm.ps lN).isSome],rfl,h1,dH.2 rfl,trivial⟩
    ·rename_i Y
     cases o
     obtain⟨r,h1,O⟩:=fin Y
     exact⟨r,dR.of (by simp only[execOp,W]) (fun w' lo=>O w' lo false),h1⟩
    ·cases o
   ·cases o
  ·cases o
 all_goals (simp only[dD]at o;cases o)
end Go.Ev
namespace Go.Ev
open Go Go.RowKit
variable [b6]
variable {cx:bB} {m:Nat->Value} {st:ae} {T:Array Value} {w w':World}
def leaves:(t:ag)->t.el->List ak
 |.int k,n=>[.val (.int k) n]
 |.bool,b=>[.val .bool b]
 |.str,s=>[.val .str s]
 |.ab t,xs=>[.val (.ab t) xs]
 |.unit,_=>[]
 |.pair a b,x=>leaves a x.1++leaves b x.2
 |.ptr t,x=>[.val (.ptr t) x]
 |.fn f t,x=>[.val (.fn f t) x]
 |.err,x=>[.val .err x]
 |.cV,x=>[.val .cV x]
 |.arr _ t,xs=>List.flatMap (leaves t) xs
 |.map k v,x=>[.val (.map k v) x]
def ko(t:ag):List ak->Option (t.el×List ak)
 |.val u x::r=>match aj.as ⟨u,x⟩ t with
  |some y=>some (y,r)
  |none=>none
 |_=>none
def xT{α:Type}(f:List ak->Option (α×List ak)):Nat->List ak->Option (List α×List ak)
 |0,l=>some ([],l)
 |n+1,l=>match f l with
  |some (x,r)=>match xT f n r with
   |some (xs,o)=>some (x::xs,o)
   |none=>none
  |none=>none
def pack:(t:ag)->List ak->Option (t.el×List ak)
 |.unit,l=>some ((),l)
 |.pair a b,l=>match pack a l with
  |some (x,r)=>match pack b r with
   |some (y,o)=>some ((x,y),o)
   |none=>none
  |none=>none
 |.int k,l=>ko (.int k) l
 |.bool,l=>ko .bool l
 |.str,l=>ko .str l
 |.ab t,l=>ko (.ab t) l
 |.ptr t,l=>ko (.ptr t) l
 |.fn f t,l=>ko (.fn f t) l
 |.err,l=>ko .err l
 |.cV,l=>ko .cV l
 |.arr n t,l=>xT (pack t) n l
 |.map k v,l=>ko (.map k v) l
theorem mT{M:Nat->Prop}:∀{c1 c2:List Value} {l1 l2:List ak},cA w M m c1 l1->cA w M m c2 l2->cA w M m (c1++c2) (l1++l2)
 |[],_,[],_,_,h=>h
 |[],_,_::_,_,h,_=>h.elim
 |_::_,_,[],_,h,_=>h.elim
 |_::_,_,_::_,_,⟨h1,o⟩,h=>⟨h1,mT o h⟩
theorem mx{M:Nat->Prop}:∀{c:List Value} {l:List ak},cA w M m c l->c.length=l.length
 |[],[],_=>rfl
 |[],_::_,h=>h.elim
 |_::_,[],h=>h.elim
 |_::_,_::_,⟨_,h⟩=>by simp[mx h]
theorem jU{M:Nat->Prop}:∀(n:Nat) {c:List Value} {l:List ak},cA w M m c l->cA w M m (c.take n) (l.take n)/\cA w M m (c.drop n) (l.drop n)
 |0,_,_,h=>⟨trivial,h⟩
 |n+1,[],[],_=>⟨trivial,trivial⟩
 |n+1,[],_::_,h=>h.elim
 |n+1,_::_,[],h=>h.elim
 |n+1,_::_,_::_,⟨h1,o⟩=>⟨⟨h1,(jU n o).1⟩,(jU n o).2⟩
theorem Kz{M:Nat->Prop}{t:ag}(h:∀{cs:List Value} {x:t.el},aF w M t cs x->cA w M m cs (leaves t x)):∀{xs:List t.el} {cs:List Value},bD (aF w M t) cs xs->cA w M m cs (xs.flatMap (leaves t))
 |[],_,o=>by cases o;trivial
 |_::_,_,⟨c1,c2,e,h1,O⟩=>by subst e;rw[List.flatMap_cons];exact mT (h h1) (Kz h O)
theorem Dw{M:Nat->Prop}:∀(t:ag) {cs:List Value} {x:t.el},aF w M t cs x->cA w M m cs (leaves t x):=by
 intro t
 induction t with
 |int k=>intro cs x h;cases h;exact⟨cZ.2 rfl,trivial⟩
 |bool=>intro cs x h;cases h;exact⟨dH.2 rfl,trivial⟩
 |str=>intro cs x h;obtain⟨h1,U⟩:=h;cases h1;exact⟨eS.2 ⟨rfl,U⟩,trivial⟩
 |ab t O=>intro cs x h;obtain⟨a,cap,cells,e,r⟩:=h;subst e;exact⟨(bZ (t:=.ab t) rfl).2 ⟨a,cap,cells,rfl,r⟩,trivial⟩
 |unit=>intro cs x h;cases h;trivial
 |ptr t O=>intro cs x h;obtain⟨a,cells,e,r⟩:=h;subst e;exact⟨(bZ (t:=.ptr t) rfl).2 ⟨a,cells,rfl,r⟩,trivial⟩
 |fn f t O=>intro cs x h;obtain⟨W,e,r⟩:=h;subst e;exact⟨(bZ (t:=.fn f t) rfl).2 ⟨W,rfl,r⟩,trivial⟩
 |err=>intro cs x h;rcases h with ⟨o,e⟩|⟨o,t,v,e⟩|⟨t,n,o,e⟩<;>subst e;exact⟨(bZ (t:=.err) rfl).2 (.inl ⟨o,rfl⟩),trivial⟩;exact⟨(bZ (t:=.err) rfl).2 (.inr (.inl ⟨o,t,v,rfl⟩)),trivial⟩;exact⟨(bZ (t:=.err) rfl).2 (.inr (.inr ⟨t,n,o,rfl⟩)),trivial⟩
 |cV=>intro cs x h;obtain⟨v,e,r⟩:=h;subst e;exact⟨(bZ (t:=.cV) rfl).2 ⟨v,rfl,r⟩,trivial⟩
 |arr n t O=>intro cs x h;exact Kz O h.2
 |map k v _ _=>
  intro cs x h
  match x,h with
  |none,h=>have h:cs=[.map none]:=h;subst h;exact⟨(bZ (t:=.map k v) rfl).2 rfl,trivial⟩
  |some ps,⟨b,es,clock,e,r⟩=>subst e;exact⟨(bZ (t:=.map k v) rfl).2 ⟨b,es,clock,rfl,r⟩,trivial⟩
 |pair a b Y Z=>rintro cs x ⟨c1,c2,rfl,h1,U⟩;exact mT (Y h1) (Z U)
theorem mw{M:Nat->Prop}{t:ag}(O:t.agg=false){cs:List Value}{c r:List ak}{x:t.el}(h:cA w M m cs c)(o:ko t c=some (x,r)):
  ∃c1 c2,cs=c1++c2/\aF w M t c1 x/\cA w M m c2 r:=by
 unfold ko at o
 split at o
 ·rename_i u y Z
  split at o
  ·rename_i z U
   cases o
   have e:=aj.dC U
   match cs,h with
   |v::vs,⟨h1,W⟩=>
    refine⟨[v],vs,rfl,?_,W⟩
    have Y:a8 w M v u y:=h1
    cases e
    exact(bZ O).1 Y
   |[],h=>exact h.elim
  ·cases o
 ·cases o
theorem IJ{M:Nat->Prop}{t:ag}(h:∀{cs:List Value} {c r:List ak} {x:t.el},cA w M m cs c->pack t c=some (x,r)->∃c1 c2,cs=c1++c2/\aF w M t c1 x/\cA w M m c2 r):
  ∀(n:Nat) {cs:List Value} {c r:List ak} {xs:List t.el},cA w M m cs c->xT (pack t) n c=some (xs,r)->∃c1 c2,cs=c1++c2/\(xs.length=n/\bD (aF w M t) c1 xs)/\cA w M m c2 r
 |0,cs,c,r,xs,O,o=>by cases o;exact⟨[],cs,rfl,⟨rfl,rfl⟩,O⟩
 |n+1,cs,c,r,xs,O,o=>by
  unfold xT at o
  split at o
  ·rename_i y Y h1
   split at o
   ·rename_i Z cY U
    cases o
    obtain⟨c1,c2,rfl,g1,g2⟩:=h O h1
    obtain⟨d1,d2,rfl,⟨g3,W⟩,g4⟩:=IJ h n g2 U
    exact⟨c1++d1,d2,by simp,⟨by simp[g3],c1,d1,rfl,g1,W⟩,g4⟩
   ·cases o
  ·cases o
theorem yJ{M:Nat->Prop}:∀(t:ag) {cs:List Value} {c r:List ak} {x:t.el},cA w M m cs c->pack t c=some (x,r)->∃c1 c2,cs=c1++c2/\aF w M t c1 x/\cA w M m c2 r:=by
 intro t
 induction t with
 |int k=>intro cs c r x h o;exact mw rfl h o
 |bool=>intro cs c r x h o;exact mw rfl h o
 |str=>intro cs c r x h o;exact mw rfl h o
 |ab t O=>intro cs c r x h o;exact mw rfl h o
 |unit=>intro cs c r x h o;cases o;exact⟨[],cs,rfl,rfl,h⟩
 |ptr t O=>intro cs c r x h o;exact mw rfl h o
 |fn f t O=>intro cs c r x h o;exact mw rfl h o
 |err=>intro cs c r x h o;exact mw rfl h o
 |cV=>intro cs c r x h o;exact mw rfl h o
 |arr n t O=>intro cs c r x h o;exact IJ O n h o
 |map k v _ _=>intro cs c r x h o;exact mw rfl h o
 |pair a b U W=>
  intro cs c r x h o
  unfold pack at o
  split at o
  ·rename_i y Z h1
   split at o
   ·rename_i z cY Y
    cases o
    obtain⟨c1,c2,rfl,g1,g2⟩:=U h h1
    obtain⟨d1,d2,rfl,g3,g4⟩:=W g2 Y
    exact⟨c1++d1,d2,by simp,⟨c1,d1,rfl,g1,g3⟩,g4⟩
   ·cases o
  ·cases o
def vr(P:Program)(st:ae)(t:TypeId)(x:Operand)(orc:List aj):Option dG:=
 match aP st x,ty P t with
 |some (.ptr b off),some u=>match look st.ad b with
  |some (.cells c _)=>match u.agg with
   |true=>match pack u (c.drop off)with
    |some (y,_)=>some ⟨.val u y,orc,[]⟩
    |none=>none
   |false=>match c.drop off with
    |s::_=>some ⟨s,orc,[]⟩
    |[]=>none
  |_=>none
 |some (.dV r i off o),some u=>match look st.rw r,orc with
  |some c,v::orc'=>match v.as c.t,Nat.beq o c.t.cells,Nat.beq u.cells 0 with
   |some x,true,false=>match cE c.t x off u with
    |some y=>some ⟨.val u y,orc',[ao c.xs i=some x]⟩
    |none=>none
   |_,_,_=>none
  |_,_=>none
 |some (.dE b p),some u=>match look st.ad b with
  |some (.aO O x _)=>match mj O x p orc with
   |some (r,orc',ob)=>match r.as u,Nat.beq u.cells 0 with
    |some y,false=>some ⟨.val u y,orc',ob⟩
    |_,_=>none
   |none=>none
  |_=>none
 |_,_=>none
theorem E3{w:World}{g:Nat}{aa:Obj}(h:w.heap[g]? =some aa):g<w.heap.size:=by
 rcases Nat.lt_or_ge g w.heap.size with h1|h1
 ·exact h1
 ·rw[Array.getElem?_eq_none h1]at h;cases h
theorem vo{w:World}{g:Nat}{cells:Array Value}{e:Nat}{kp:Nat×Nat}(h:w.heap[g]? =some (.cells cells e kp))(aa:Nat):w.cell? ⟨g,aa,none⟩=cells[aa]? :=by
 simp[World.cell?,h]
theorem jS{P:Program}{tid d:Nat}{u:ag}(U:cD P d tid=some u){g off:Nat}{cells:Array Value}{e:Nat}{kp:Nat×Nat}{c:List Value}(Y:w.heap[g]? =some (.cells cells e kp))
  (lc:∀j v,c[j]? =some v->cells[off+j]? =some v)(o:c.length=u.cells)(lg:u.agg=false->0<u.cells):
  ∃v,n9 P w (loadVar tid ⟨g,off,none⟩) v/\(if u.agg then v=.agg c.toArray else c=[v]):=by
 have Z:∀w',Ext w w'->∀j v,c[j]? =some v->w'.cell? ((⟨g,off,none⟩:Addr).add j)=some v:=by
  intro w' O j v ld
  rw[gL]
  have lf:w'.heap[g]? =some (.cells cells e kp):=by rw[O.block g (E3 Y)];exact Y
  rw[vo lf]
  exact lc j v ld
 cases W:u.agg with
 |true=>
  refine⟨.agg c.toArray,fun w' O=>?_,by simp⟩
  unfold loadVar
  rw[Sem.run_bind,mh U,W]
  simp only[Result.andThen_ok,if_true,Sem.run_bind,ff U]
  rw[<-o,Cl (Z w' O)]
  rfl
 |false=>
  have lh:u.cells=1:=by cases u<;>first|rfl|(simp[ag.agg]at W)
  match c,o with
  |[v],_=>
   refine⟨v,fun w' O=>?_,by simp⟩
   have la:=Z w' O 0 v rfl
   rw[add_zero]at la
   unfold loadVar
   rw[Sem.run_bind,mh U,W]
   simp only[Result.andThen_ok,Bool.false_eq_true,if_false]
   simp[load,Sem.run,la]
  |[],o=>simp at o;omega
  |_::_::_,o=>simp at o;omega
theorem G6{α:Type}(a b c d e:List α)(j:Nat)(O:j<c.length):(a++(b++c++d)++e)[a.length+b.length+j]? =c[j]? :=by
 have o:a++(b++c++d)++e=(a++b)++(c++(d++e)):=by simp
 rw[o,List.getElem?_append_right (by rw[List.length_append];omega),List.getElem?_append_left (by rw[List.length_append];omega),List.length_append]
 congr 1
 omega
theorem FF(h:am cx m st T w){t:TypeId}{x:Operand}{orc:List aj}{lm:dG}(o:vr cx.P st t x orc=some lm)(lu:bJ lm.ob):
  ∃v,n9 cx.P w (Instr.loadAt t (Act.eval ⟨T,[]⟩ x)) v/\aQ w (ap cx m st.ids) m v lm.aJ:=by
 unfold vr at o
 split at o
 ·rename_i b off u lf lc
  obtain⟨g,ld,lg⟩:=aW h lf
  have ln:Instr.loadAt t (Act.eval ⟨T,[]⟩ x)=loadVar t ⟨g,off,none⟩:=by rw[lg];rfl
  rw[ln]
  split at o
  ·rename_i c lo
   obtain⟨lh,li,_,cells,ll,lp⟩:=h.box (aX lo)
   have:lh=g:=by rw[ld]at li;cases li;rfl
   subst this
   obtain⟨_,af⟩:=jU (w:=w) (m:=m) off lp
   split at o
   ·rename_i U
    split at o
    ·rename_i y r lj
     cases o
     obtain⟨c1,c2,lk,Y,_⟩:=yJ u af lj
     obtain⟨v,la,O⟩:=jS (c:=c1) lc ll (fun j v W=>by
      have:(cells.toList.drop off)[j]? =some v:=by rw[lk,List.getElem?_append_left (List.getElem?_eq_some_iff.1 W).1];exact W
      rw[List.getElem?_drop]at this
      simpa using this) (ch u Y) (fun Z=>by rw[U]at Z;cases Z)
     rw[U,if_pos rfl]at O
     exact⟨v,la,(eA U).2 ⟨c1,O,Y⟩⟩
    ·cases o
   ·rename_i U
    split at o
    ·rename_i s r ly
     cases o
     rw[ly]at af
     match lk:cells.toList.drop off,af with
     |v0::vs,⟨lv,_⟩=>
      have lz:u.cells=1:=by cases u<;>first|rfl|(simp[ag.agg]at U)
      obtain⟨v,la,O⟩:=jS (c:=[v0]) lc ll (fun j v W=>by
       have lA:j=0:=by have:=(List.getElem?_eq_some_iff.1 W).1;simpa using this
       subst lA
       simp at W
       subst W
       have:(cells.toList.drop off)[0]? =some v0:=by rw[lk];rfl
       rw[List.getElem?_drop]at this
       simpa using this) (by rw[lz];rfl) (fun _=>by omega)
      rw[U]at O
      simp at O
      subst O
      exact⟨v0,la,lv⟩
     |[],af=>exact af.elim
    ·cases o
  ·cases o
 ·rename_i r i off lB u lf lc
  obtain⟨g,n,cap,ld,lg⟩:=aW h lf
  have ln:Instr.loadAt t (Act.eval ⟨T,[]⟩ x)=loadVar t ⟨g,i.toNat*lB+off,none⟩:=by rw[lg];rfl
  rw[ln]
  split at o
  ·rename_i c v orc' lo
   split at o
   ·rename_i lC lv lD lq
    split at o
    ·rename_i y lr
     cases o
     obtain⟨lP,h1,lE⟩:=js lu.1
     obtain⟨cells,lF,_,lG⟩:=h.rows r c (aX lo)
     have lH:=Nat.eq_of_beq_eq_true lD
     subst lH
     rcases lF.2 with ⟨Z,_⟩|⟨lh,lQ,cur,Z,_,lI,_,_,_,lJ⟩
     ·rw[ld]at Z;cases Z
     ·have:lh=g:=by rw[ld]at Z;cases Z;rfl
      subst this
      obtain⟨c1,c2,c3,rfl,lw,Y⟩:=mC lG lE
      obtain⟨d1,d2,d3,rfl,lK,lt⟩:=pf c.t Y lr
      have lj:0<u.cells:=Nat.pos_of_ne_zero (beq_false lq)
      obtain⟨v',la,O⟩:=jS (c:=d2) lc lI (fun j v W=>by
       have lx:=(List.getElem?_eq_some_iff.1 W).1
       have hk:(cur.toList.take (c.xs.length*c.t.cells))[i.toNat*c.t.cells+off+j]? =some v:=by
        rw[lJ,<-lw,<-lK,<-W]
        exact G6 c1 d1 d2 d3 c3 j lx
       rw[List.getElem?_take]at hk
       split at hk
       ·simpa using hk
       ·cases hk) (ch u lt) (fun _=>lj)
      refine⟨v',la,?_⟩
      cases U:u.agg with
      |true=>rw[U,if_pos rfl]at O;exact(eA U).2 ⟨d2,O,lt⟩
      |false=>rw[U]at O;simp at O;subst O;exact(bZ U).2 lt
    ·cases o
   ·cases o
  ·cases o
 ·rename_i b p u lf lc
  obtain⟨g,ld,lg⟩:=aW h lf
  split at o
  ·rename_i lL lC e lM
   split at o
   ·rename_i r lR ob lj
    split at o
    ·rename_i y lr lq
     cases o
     obtain⟨lh,li,_,cells,ll,lp⟩:=h.box (aX lM)
     have:lh=g:=by rw[ld]at li;cases li;rfl
     subst this
     obtain⟨c1,c2,c3,lk,lw,Y⟩:=xd p lL lp lj lu
     have lN:=aj.dC lr
     subst lN
     have lO:0<u.cells:=Nat.pos_of_ne_zero (beq_false lq)
     obtain⟨v,la,O⟩:=jS (off:=gx p) (c:=c2) lc ll (fun j v W=>by
      have lx:=(List.getElem?_eq_some_iff.1 W).1
      rw[<-Array.getElem?_toList,lk,List.append_assoc,List.getElem?_append_right (by omega),List.getElem?_append_left (by omega),<-W]
      congr 1
      omega) (ch u Y) (fun _=>lO)
     refine⟨v,by rw[lg];exact la,?_⟩
     cases U:u.agg with
     |true=>rw[U,if_pos rfl]at O;exact(eA U).2 ⟨c2,O,Y⟩
     |false=>rw[U]at O;simp at O;subst O;exact(bZ U).2 Y
    ·cases o
   ·cases o
  ·cases o
 ·cases o
def xS:Option bL->Bool
 |some (.bj _ _ _ _)=>true
 |_=>false
def td:ak->Bool
 |.val t _=>!t.agg
 |.row _=>true
 |.clos _ _=>true
 |.ptr _ _=>true
 |.vptr _ _=>true
 |.osl _=>true
 |.iter _=>true
 |_=>false
def yd:Option bL->Bool
 |some (.mp _ _ _)=>true
 |_=>false
theorem Mo{M:Nat->Prop}{v:Value}{s:ak}(U:td s=true)(O:∀r,s=.row r\/s=.osl r\/s=.iter r->v.oneCell'=true)(o:aQ w M m v s):v.oneCell'=true/\v.cells=#[v]:=by
 cases s<;>simp only[td,Bool.false_eq_true]at U
 case val t x=>
  have Y:t.agg=false:=by simpa using U
  have h1:=(bZ Y).1 o
  have W:=jK t h1 v (by simp)
  refine⟨W,?_⟩
  cases v<;>first|rfl|(simp[Value.oneCell']at W)
 case row r=>
  have:=O r (.inl rfl)
  refine⟨this,?_⟩
  cases v<;>first|rfl|(simp[Value.oneCell']at this)
 case osl b=>
  have:=O b (.inr (.inl rfl))
  refine⟨this,?_⟩
  cases v<;>first|rfl|(simp[Value.oneCell']at this)
 case iter b=>
  have:=O b (.inr (.inr rfl))
  refine⟨this,?_⟩
  cases v<;>first|rfl|(simp[Value.oneCell']at this)
 case clos f Z=>
  have e:v=_:=o
  subst e
  exact⟨rfl,rfl⟩
 case ptr b off=>obtain⟨g,_,e⟩:=o;subst e;exact⟨rfl,rfl⟩
 case vptr t x=>obtain⟨a,c,e,_⟩:=o;subst e;exact⟨rfl,rfl⟩
def tZ(u:ag)(s:ak):Option (List ak):=
 match u.agg with
 |true=>match s with
  |.val t x=>bif t.beq u then some (leaves t x)else none
  |_=>none
 |false=>match s with
  |.val t x=>bif t.beq u then some [.val t x]else none
  |s=>bif td s&&Nat.beq u.cells 1 then some [s]else none
theorem row_one(h:am cx m st T w){r:Nat}{c:cw}(O:(r,c)∈st.rw):(m r).oneCell'=true:=by
 obtain⟨cells,U,_⟩:=h.rows r c O
 rcases U.2 with ⟨o,_⟩|⟨g,cap,cur,o,_⟩<;>rw[o]<;>rfl
theorem ME{M:Nat->Prop}{v:Value}{s:ak}{u:ag}{l:List ak}(Z:∀r,s=.row r\/s=.osl r\/s=.iter r->v.oneCell'=true)(U:aQ w M m v s)(o:tZ u s=some l):
  cA w M m v.cells.toList l/\(∀x∈v.cells.toList,x.oneCell'=true)/\v.cells.size=u.cells:=by
 unfold tZ at o
 split at o
 ·rename_i la
  split at o
  ·rename_i t x
   cases O:t.beq u with
   |false=>rw[O]at o;cases o
   |true=>
    rw[O]at o
    cases o
    obtain rfl:=ag.eq_of_beq O
    have h1:=mi U
    exact⟨Dw t h1,jK t h1,by rw[<-ch t h1];simp⟩
  ·cases o
 ·rename_i la
  split at o
  ·rename_i t x
   cases O:t.beq u with
   |false=>rw[O]at o;cases o
   |true=>
    rw[O]at o
    cases o
    obtain rfl:=ag.eq_of_beq O
    have h1:=mi U
    have Y:=Mo (s:=.val t x) (by simp[td,la]) Z U
    refine⟨?_,jK t h1,by rw[<-ch t h1];simp⟩
    rw[Y.2]
    exact⟨U,trivial⟩
  ·rename_i lc _
   cases W:td s&&Nat.beq u.cells 1 with
   |false=>rw[W]at o;cases o
   |true=>
    rw[W]at o
    cases o
    simp only[Bool.and_eq_true]at W
    have Y:=Mo W.1 Z U
    rw[Y.2]
    exact⟨⟨U,trivial⟩,by simp[Y.1],by rw[Nat.eq_of_beq_eq_true W.2];rfl⟩
theorem F5(h:am cx m st T w){b:Nat}(o:xS (look st.ad b)=true){M:Nat->Prop}{v:Value}(W:aQ w M m v (.osl b)):v.oneCell'=true:=by
 unfold xS at o
 split at o
 ·rename_i e k xs ld Y
  obtain⟨g,_,_,af,us,cells,Z,la,_⟩:=h.boxes b _ (aX Y)
  obtain⟨lf,O⟩:=W
  have lc:v=af:=by
   rw[Z]at O
   simp only[Value.tuple.injEq,Array.mk.injEq,List.cons.injEq]at O
   exact O.1.symm
  rw[lc]
  rcases la.2 with ⟨U,_⟩|⟨g,cap,cur,U,_⟩<;>rw[U]<;>rfl
 ·cases o
theorem F4(h:am cx m st T w){b:Nat}(o:yd (look st.ad b)=true){M:Nat->Prop}{v:Value}(O:aQ w M m v (.iter b)):v.oneCell'=true:=by
 unfold yd at o
 split at o
 ·rename_i U
  obtain⟨g,W,_⟩:=h.box (aX U)
  have O:v=m b:=O
  rw[O,W]
  rfl
 ·cases o
theorem ml(w:World)(g:Nat)(o:Array Value):Same w (w.setRow g o):=by
 refine{os:=rfl,tape:=rfl,output:=rfl,size:=?_,drawn:=fun _=>Nat.le_refl _}
 simp[World.setRow]
theorem nm{P:Program}{tid d:Nat}{u:ag}(W:cD P d tid=some u){g off:Nat}{cur:Array Value}{e:Nat}{v:Value}(Y:w.heap[g]? =some (.cells cur e (0,0)))
  (o:v.cells.size=u.cells)(Z:off+u.cells<=cur.size)(h1:∀x∈v.cells.toList,x.oneCell'=true):
  (Instr.storeAt tid (.pointer (some ⟨g,off,none⟩)) v).run P w=.ok () (w.setRow g (cur.toList.take off++v.cells.toList++cur.toList.drop (off+u.cells)).toArray):=by
 have O:v.cells.toList.length=u.cells:=by rw[<-o];simp
 have U:=run_storeCells_at (P:=P) g off e v.cells.toList 0 cur w Y (by rw[O];omega) h1
 rw[O,Nat.add_zero]at U
 simp only[Instr.storeAt,Instr.sureAddr,Sem.run_bind,Sem.run_pure,Result.andThen_ok,storeVar,ff W,o,ne_eq,not_true_eq_false,if_false]
 exact U
def zf(P:Program)(st:ae)(t:TypeId)(x y:Operand)(orc:List aj):Option (ae×List aj×List Prop):=
 match aP st x,ty P t,aP st y with
 |some (.ptr b off),some u,some s=>match look st.ad b,tZ u s,rq st s with
  |some (.cells c e),some l,true=>bif Nat.ble (off+u.cells) c.length then some (st.db b (.cells (c.take off++l++c.drop (off+u.cells)) e),orc,[])else none
  |_,_,_=>none
 |some (.dV r i off W),some u,some (.val o z)=>match look st.rw r,orc with
  |some c,v::orc'=>match v.as c.t,Nat.beq W c.t.cells,o.beq u with
   |some O,true,true=>match cn c.t O off ⟨o,z⟩with
    |some Y=>some (st.setRow r {c with xs:=c.xs.set i.toNat Y},orc',[ao c.xs i=some O])
    |none=>none
   |_,_,_=>none
  |_,_=>none
 |some (.dE b p),some u,some (.val o z)=>match look st.ad b with
  |some (.aO U x e)=>match o.beq u,mF U x p orc ⟨o,z⟩with
   |true,some (y,orc',ob)=>some (st.db b (.aO U y e),orc',ob)
   |_,_=>none
  |_=>none
 |_,_,_=>none
where
 rq (st:ae):ak->Bool
  |.row r=>(look st.rw r).isSome
  |.osl b=>xS (look st.ad b)
  |.iter b=>yd (look st.ad b)
  |_=>true
end Go.Ev
namespace Go.Ev
open Go Go.RowKit
variable [b6]
variable {cx:bB} {m:Nat->Value} {st:ae} {T:Array Value} {w w':World}
theorem oI{M M':Nat->Prop}(o:∀b,b<w.heap.size->¬M b->w'.heap[b]? =w.heap[b]?)(O:∀b,b<w.heap.size->M' b->M b){c:List Value}{l:List ak}(h:cA w M m c l):cA w' M' m c l:=by
 have:=uI (f:=id) (fun v s U=>fV (m:=m) o O U) h
 simpa using this
theorem Uo(h:am cx m st T w){t:TypeId}{x y:Operand}{orc orc':List aj}{st':ae}{ob:List Prop}(o:zf cx.P st t x y orc=some (st',orc',ob))(lJ:bJ ob):
  ∃w',(Instr.storeAt t (Act.eval ⟨T,[]⟩ x) (Act.eval ⟨T,[]⟩ y)).run cx.P w=.ok () w'/\am cx m st' T w':=by
 unfold zf at o
 split at o
 ·rename_i b off u s lk ll la
  obtain⟨g,Y,lm⟩:=aW h lk
  split at o
  ·rename_i c e l ly li lw
   cases lc:Nat.ble (off+u.cells) c.length with
   |false=>rw[lc]at o;cases o
   |true=>
    rw[lc]at o
    cases o
    have lz:=Nat.le_of_ble_eq_true lc
    have U:=aX ly
    obtain⟨Z,ln,_,cells,lo,lp⟩:=h.box U
    have:Z=g:=by rw[Y]at ln;cases ln;rfl
    subst this
    have lq:b∈st.ids:=List.mem_append.2 (.inl (List.mem_map.2 ⟨_,U,rfl⟩))
    have lP:=mx lp
    have lQ:∀r,s=.row r\/s=.osl r\/s=.iter r->(Act.eval ⟨T,[]⟩ y).oneCell'=true:=by
     rintro r (rfl|rfl|rfl)
     ·simp only[zf.rq]at lw
      obtain⟨c',lR⟩:=Option.isSome_iff_exists.1 lw
      rw[show Act.eval ⟨T,[]⟩ y=m r from aW h la]
      exact row_one h (aX lR)
     ·exact F5 h lw (aW h la)
     ·exact F4 h lw (aW h la)
    obtain⟨lS,lT,lU⟩:=ME lQ (aW h la) li
    have lr:off+u.cells<=cells.size:=by rw[<-Array.length_toList,lP];exact lz
    have ld:=nm (P:=cx.P) ll lo lU lr lT
    refine⟨_,by rw[lm];exact ld,?_⟩
    have W:Touch m w b (w.setRow Z (cells.toList.take off++(Act.eval ⟨T,[]⟩ y).cells.toList++cells.toList.drop (off+u.cells)).toArray):=
     ⟨ml _ _ _,fun k hk lt=>setRow_other _ _ _ _ (fun e=>lt (by rw[Y,e];rfl))⟩
    obtain⟨lu,_⟩:=kM U h.keys (.cells (c.take off++l++c.drop (off+u.cells)) e)
    obtain⟨lf,lg⟩:=am.ic (cx:=cx) lq W lu
    refine h.db U W (g:=Z) Y ⟨_,setRow_heap _ _ _ _ _ _ lo,?_⟩
    simp only[]
    exact mT (mT (oI lf lg (jU off lp).1) (oI lf lg lS)) (oI lf lg (jU (off+u.cells) lp).2)
  ·cases o
 ·rename_i r i off aq u O z lk ll la
  obtain⟨g,n,cap,Y,lm⟩:=aW h lk
  split at o
  ·rename_i c v lV ly
   split at o
   ·rename_i lW ar lX lc
    split at o
    ·rename_i lY lZ
     cases o
     obtain⟨au,h1,l0⟩:=js lJ.1
     have U:=aX ly
     obtain⟨cells,lK,av,l3⟩:=h.rows r c U
     have lq:r∈st.ids:=List.mem_append.2 (.inr (List.mem_map.2 ⟨_,U,rfl⟩))
     have l4:=Nat.eq_of_beq_eq_true lX
     subst l4
     obtain rfl:=ag.eq_of_beq lc
     have lA:a8 w (ap cx m st.ids) (Act.eval ⟨T,[]⟩ y) O z:=aW h la
     have lh:=mi lA
     have lj:=ch O lh
     have lB:(Act.eval ⟨T,[]⟩ y).cells.size=O.cells:=by rw[<-lj];simp
     rcases lK.2 with ⟨W,_⟩|⟨Z,l5,cur,W,l6,lL,lz,l7,l8,l9⟩
     ·rw[Y]at W;cases W
     ·have:Z=g:=by rw[Y]at W;cases W;rfl
      subst this
      obtain⟨c1,c2,c3,rfl,li,lC,aa⟩:=uj l3 l0
      obtain⟨d1,d2,d3,rfl,ab,lD,ad⟩:=qG (v:=⟨O,z⟩) lh c.t lC lZ
      obtain⟨rest,lx⟩:∃rest,cur.toList=(c1++(d1++d2++d3)++c3)++rest:=⟨cur.toList.drop (c.xs.length*c.t.cells),by rw[<-l9,List.take_append_drop]⟩
      have lM:(c1++(d1++d2++d3)++c3).length=c.xs.length*c.t.cells:=lK.1
      have lE:i.toNat*c.t.cells+off=(c1++d1).length:=by rw[List.length_append,li,ab]
      have af:cur.toList.length=(c1++d1).length+d2.length+(d3++c3++rest).length:=by rw[lx];simp only[List.length_append];omega
      have lr:i.toNat*c.t.cells+off+O.cells<=cur.size:=by
       rw[<-Array.length_toList,af,lE,<-lj,lD]
       omega
      have ld:=nm (P:=cx.P) ll lL lB lr (jK O lh)
      have lF:cur.toList.take (i.toNat*c.t.cells+off)=c1++d1:=by
       rw[lx,lE]
       have:c1++(d1++d2++d3)++c3++rest=(c1++d1)++(d2++d3++c3++rest):=by simp
       rw[this,List.take_left]
      have lG:cur.toList.drop (i.toNat*c.t.cells+off+O.cells)=d3++c3++rest:=by
       rw[lx,lE,<-lj,<-lD,<-List.length_append]
       have:c1++(d1++d2++d3)++c3++rest=(c1++d1++d2)++(d3++c3++rest):=by simp
       rw[this,List.drop_left]
      rw[lF,lG]at ld
      refine⟨_,by rw[lm];exact ld,?_⟩
      have lN:Touch m w r (w.setRow Z (c1++d1++(Act.eval ⟨T,[]⟩ y).cells.toList++(d3++c3++rest)).toArray):=
       ⟨ml _ _ _,fun k hk lt=>setRow_other _ _ _ _ (fun e=>lt (by rw[Y,e];rfl))⟩
      obtain⟨lu,_⟩:=o0 U h.keys {c with xs:=c.xs.set i.toNat lY}
      obtain⟨lf,lg⟩:=am.ic (cx:=cx) lq lN lu
      have ah:=aa _ _ ad
      have lO:c1++d1++(Act.eval ⟨T,[]⟩ y).cells.toList++(d3++c3++rest)=(c1++(d1++(Act.eval ⟨T,[]⟩ y).cells.toList++d3)++c3)++rest:=by simp
      have lv:(c1++(d1++(Act.eval ⟨T,[]⟩ y).cells.toList++d3)++c3).length=c.xs.length*c.t.cells:=by
       rw[<-lM];simp only[List.length_append,lD]
      refine h.setRow U lN (cells:=c1++(d1++(Act.eval ⟨T,[]⟩ y).cells.toList++d3)++c3) ?_ (dx (fun _ _=>cB lf lg c.t) ah)
      refine⟨by simp only[List.length_set];exact lv,.inr ⟨Z,l5,_,by rw[W];simp only[List.length_set],l6,setRow_heap _ _ _ _ _ _ lL,by simp only[List.length_set];exact lz,l7,?_,?_⟩⟩
      ·rw[List.size_toArray,lO,List.length_append,lv,<-l8,<-Array.length_toList,lx,List.length_append,lM]
      ·simp only[List.length_set]
       rw[lO,<-lv,List.take_left]
    ·cases o
   ·cases o
  ·cases o
 ·rename_i b p u O z lk ll ai
  have la:=ai
  obtain⟨g,Y,lm⟩:=aW h lk
  split at o
  ·rename_i lH lW e lc
   split at o
   ·rename_i ak lV aw an ao
    cases o
    obtain rfl:=ag.eq_of_beq an
    have U:=aX lc
    obtain⟨Z,ln,_,cells,lo,lp⟩:=h.box U
    have:Z=g:=by rw[Y]at ln;cases ln;rfl
    subst this
    have lq:b∈st.ids:=List.mem_append.2 (.inl (List.mem_map.2 ⟨_,U,rfl⟩))
    have lA:a8 w (ap cx m st.ids) (Act.eval ⟨T,[]⟩ y) O z:=aW h la
    have lh:=mi lA
    have lj:=ch O lh
    have lB:(Act.eval ⟨T,[]⟩ y).cells.size=O.cells:=by rw[<-lj];simp
    obtain⟨c1,c2,c3,lI,li,lv,lC⟩:=Dv (z:=⟨O,z⟩) lh p lH lp ao lJ
    have lr:gx p+O.cells<=cells.size:=by
     rw[<-Array.length_toList,lI];simp only[List.length_append];omega
    have ld:=nm (P:=cx.P) ll lo lB lr (jK O lh)
    have lF:cells.toList.take (gx p)=c1:=by rw[lI,<-li,List.append_assoc,List.take_left]
    have lG:cells.toList.drop (gx p+O.cells)=c3:=by
     rw[lI,<-li,<-lj,<-lv,<-List.length_append,List.drop_left]
    rw[lF,lG]at ld
    refine⟨_,by rw[lm];exact ld,?_⟩
    have W:Touch m w b (w.setRow Z (c1++(Act.eval ⟨T,[]⟩ y).cells.toList++c3).toArray):=
     ⟨ml _ _ _,fun k hk lt=>setRow_other _ _ _ _ (fun e=>lt (by rw[Y,e];rfl))⟩
    obtain⟨lu,_⟩:=kM U h.keys (.aO lH ak e)
    obtain⟨lf,lg⟩:=am.ic (cx:=cx) lq W lu
    refine h.db U W (g:=Z) Y ⟨_,setRow_heap _ _ _ _ _ _ lo,?_⟩
    simp only[]
    exact cB lf lg lH lC
   ·cases o
  ·cases o
 ·cases o
def uh(P:Program)(st:ae)(t:TypeId)(x k v:Operand):Option ae:=
 match aP st x,P.underlying t,dA st k,dA st v with
 |some (.iter b),some (.map U W),some Y,some Z=>match look st.ad b,ty P U,ty P W with
  |some (.mp o O ps),some la,some lc=>match Y.as o,Z.as O,la.beq o&&lc.beq O&&o.flat&&eD P 16 U with
   |some y,some z,true=>some (st.db b (.mp o O (cb (aD o) ps y z)))
   |_,_,_=>none
  |_,_,_=>none
 |_,_,_,_=>none
theorem Wu(h:am cx m st T w){t:TypeId}{x k v:Operand}{st':ae}(o:uh cx.P st t x k v=some st'):
  ∃w',(Instr.mapUpdate t (Act.eval ⟨T,[]⟩ x) (Act.eval ⟨T,[]⟩ k) (Act.eval ⟨T,[]⟩ v)).run cx.P w=.ok () w'/\am cx m st' T w':=by
 unfold uh at o
 split at o
 ·rename_i b lD lE lF lG lg lh hk li
  split at o
  ·rename_i lH lI ps W lj lk ll lJ
   split at o
   ·rename_i y z lm ln Y
    cases o
    simp only[Bool.and_eq_true]at Y
    obtain⟨⟨⟨lo,lp⟩,lq⟩,lr⟩:=Y
    obtain rfl:=ag.eq_of_beq lo
    obtain rfl:=ag.eq_of_beq lp
    have lt:=aj.dC lm
    subst lt
    have lu:=aj.dC ln
    subst lu
    have U:=aX lk
    obtain⟨g,O,_,es,clock,h1,lv,lw,lx⟩:=h.box U
    have O:m b=.map (some g):=O
    have ly:Act.eval ⟨T,[]⟩ x=.map (some g):=by have:Act.eval ⟨T,[]⟩ x=m b:=aW h lg;rw[this,O]
    obtain⟨Z,la,lz,lA,cY,fh⟩:=H8 (d:=jp) (d':=16) lh ll lr (by decide) lq (df h hk) (df h li) h1 lv lw lx
    have lc:Touch m w b {w with heap:=w.heap.setIfInBounds g (.map Z la)}:=
     ⟨⟨rfl,rfl,rfl,by simp,fun _=>Nat.le_refl _⟩,fun k _ lB=>by
      show(w.heap.setIfInBounds g _)[k]? =_
      rw[Array.getElem?_setIfInBounds_ne]
      intro e
      exact lB (by rw[O,e];rfl)⟩
    rw[ly]
    refine⟨_,lz,h.db U lc (g:=g) O ?_⟩
    have lC:b∈st.ids:=List.mem_append.2 (.inl (List.mem_map.2 ⟨_,U,rfl⟩))
    obtain⟨ld,lf⟩:=am.ic (cx:=cx) lC lc (ids:=(st.db b (.mp W lj (cb (aD W) ps y z))).ids) (kM U h.keys _).1
    refine⟨Z,la,?_,lA,cY,gH (fun _ _ h=>dh ld lf h) (fun _ _ h=>dh ld lf h) fh⟩
    show(w.heap.setIfInBounds g _)[g]? =_
    rw[Array.getElem?_setIfInBounds_self_of_lt (gD h1)]
   ·cases o
  ·cases o
 ·cases o
end Go.Ev
namespace Go.Ev
open Go Go.RowKit
variable [b6]
variable {P:Program} {w:World}
theorem Ln(w:World)(aa:Obj):Same w (w.drew.alloc aa):=⟨rfl,rfl,rfl,by simp,fun _=>Nat.le_succ _⟩
theorem iN(w:World)(aa:Obj):Ext w (w.alloc aa):={os:=rfl,tape:=rfl,output:=rfl,size:=by simp,drawn:=by first|exact fun _=>Nat.le_refl _|exact fun _=>Nat.le_succ _,block:=fun b o=>Below.heap_alloc w aa b o}
theorem Mh{e size m n:Nat}{z:Array Value}{xs o:List Value}(O:xs.length=n*size)(U:o.length=m*size)(Y:z.size=size)(Z:n+m<=maxLen)(old:Nat):
  (w.drew.alloc (.cells (xs.toArray++o.toArray++Builtin.zeroCells z (grownCap w (n+m) old e-(n+m))) e)).ownsRow 0 e size (.slice (some ⟨w.heap.size,0,none⟩) (n+m) (grownCap w (n+m) old e)) (n+m) (xs++o):=by
 have la:=grownCap_ge w (n+m) old e
 have lc:grownCap w (n+m) old e<=maxLen:=grownCap_le_maxLen w (n+m) old e Z
 have W:(xs++o).length=(n+m)*size:=by rw[List.length_append,O,U,Nat.add_mul]
 refine⟨W,.inr ⟨w.heap.size,_,_,rfl,Nat.zero_le _,heap_alloc_new w.drew _,la,lc,?_,?_⟩⟩
 ·simp only[Array.size_append,List.size_toArray,size_zeroCells,Y,O,U,<-Nat.add_mul]
  congr 1
  omega
 ·simp only[Array.toList_append,List.append_assoc]
  rw[<-List.append_assoc,<-W]
  exact List.take_left
theorem MA(t u ty e:TypeId)(i:TypeInfo)(z:Value)(Z:P.underlying t=some (.slice e))(hu:(∃Y,P.underlying u=some (.slice Y))\/P.underlying u=some .string)(la:P.info? e=some i)(ln:i.zero=some z)
  (lo:z.cells.size=i.size)(x:Value)(m:Nat)(o:List Value)(lc:Builtin.lenOf x=pure m)
  (lp:∀w',(∀b,b<w.heap.size->w'.heap[b]? =w.heap[b]?)->(Builtin.firstCells i.size m x).run P w'=.ok o.toArray w')
  (U:o.length=m*i.size)(h1:∀u∈o,u.oneCell'=true)(v:Value)(n:Nat)(xs:List Value)(li:w.ownsRow 0 e i.size v n xs)
  (lj:n+m<=maxLen)(lq:(n+m)*i.bytes<=140737488355328):
  ∃v' w',(Builtin.append_ #[t,u] ty #[v,x]).run P w=.ok v' w'/\w'.ownsRow 0 e i.size v' (n+m) (xs++o)/\Same w w'/\
   (∀b,b<w.heap.size->aO v≠some b->w'.heap[b]? =w.heap[b]?)/\(∀g,aO v'=some g->aO v=some g\/(w.heap.size<=g/\g<w'.heap.size)):=by
 have lG:n+m<=9223372036854775807:=by simp only[maxLen]at lj;omega
 have lr:=lp w (fun _ _=>rfl)
 have lt:=lp w.drew (fun _ _=>rfl)
 have W:=li.1
 rcases li.2 with ⟨rfl,rfl⟩|⟨g,cap,cur,rfl,_,O,lH,lw,lx,ly⟩
 ·have lz:xs=[]:=List.eq_nil_of_length_eq_zero (by simpa using W)
  subst lz
  by_cases lu:m=0
  ·subst lu
   have lA:o=[]:=List.eq_nil_of_length_eq_zero (by simpa using U)
   subst lA
   refine⟨.slice none 0 0,w,?_,World.ownsRow_nil w 0 e i.size,⟨rfl,rfl,rfl,Nat.le_refl _,fun _=>Nat.le_refl _⟩,fun _ _ _=>rfl,fun g O=>by simp[aO]at O⟩
   rcases hu with ⟨Y,hu⟩|hu<;>simp[Builtin.append_,run_underlying Z,run_underlying hu,sizeOf,typeInfo,la,lc,lr]
  ·have lB:0<m:=by omega
   have lk:¬(9223372036854775807<(m:Int)):=by omega
   have ll:=growslice_fits (old:=0) (need:=m) (bytes:=i.bytes) lB (by simpa using lq)
   have lm:¬(281474976710656<Builtin.nextslicecap m 0*i.bytes):=by omega
   have ld:=Mh (w:=w) (e:=e) W U lo lj 0
   simp only[Nat.zero_add]at ld
   refine⟨.slice (some ⟨w.heap.size,0,none⟩) m (grownCap w m 0 e),w.drew.alloc (.cells (([]:List Value).toArray++o.toArray++Builtin.zeroCells z.cells (grownCap w m 0 e-m)) e),?_,by simpa using ld,Ln _ _,fun b lf _=>Below.heap_alloc w.drew _ b lf,fun g O=>.inr ?_⟩
   ·rcases hu with ⟨Y,hu⟩|hu<;>
     simp[Builtin.append_,run_underlying Z,run_underlying hu,sizeOf,typeInfo,zeroValue,la,ln,lc,lu,lk,lm,Question.forced,run_firstCells_none,lt,newRow,grownCap]
   ·simp[aO]at O
    subst O
    exact⟨Nat.le_refl _,by simp⟩
 ·by_cases lg:n+m<=cap
  ·have ll:n*i.size+o.length<=cur.size:=by rw[U,lx,<-Nat.add_mul];exact Nat.mul_le_mul_right _ lg
   have lv:=run_storeCells_at P g (n*i.size) e o 0 cur w O (by simpa using ll) h1
   simp only[Nat.add_zero]at lv
   refine⟨.slice (some ⟨g,0,none⟩) (n+m) cap,_,?_,⟨by rw[List.length_append,W,U,Nat.add_mul],.inr ⟨g,cap,_,rfl,Nat.zero_le _,setRow_heap w g cur (cur.toList.take (n*i.size)++o++cur.toList.drop (n*i.size+o.length)).toArray e (0,0) O,lg,lw,?_,?_⟩⟩,
    ml _ _ _,fun b lf lC=>setRow_other _ _ _ _ (fun e=>lC (by rw[e];rfl)),fun lD lh=>.inl lh⟩
   ·rcases hu with ⟨Y,hu⟩|hu<;>
     simp[Builtin.append_,run_underlying Z,run_underlying hu,sizeOf,typeInfo,la,lc,lg,lr,Addr.add_lit,lv]
   ·simp only[List.size_toArray,List.length_append,List.length_take,List.length_drop,Array.length_toList]
    omega
   ·rw[ly]
    have lE:(xs++o).length=(n+m)*i.size:=by rw[List.length_append,W,U,Nat.add_mul]
    rw[<-lE]
    exact List.take_left
  ·have holds:∀j u,xs[j]? =some u->w.cell? ((⟨g,0,none⟩:Addr).add j)=some u:=li.cells (g:=g) rfl
   have ll:=growslice_fits (old:=cap) (need:=n+m) (bytes:=i.bytes) (by omega) lq
   have lk:¬(9223372036854775807<(n:Int)+(m:Int)):=by omega
   have lm:¬(281474976710656<Builtin.nextslicecap (n+m) cap*i.bytes):=by omega
   have lF:=run_firstCells_some (P:=P) w.drew i.size n ⟨g,0,none⟩ n cap xs W (by simpa using holds)
   have ld:=Mh (w:=w) (e:=e) W U lo lj cap
   refine⟨.slice (some ⟨w.heap.size,0,none⟩) (n+m) (grownCap w (n+m) cap e),_,?_,ld,Ln _ _,fun b lf _=>Below.heap_alloc w.drew _ b lf,fun lD lh=>.inr ?_⟩
   ·rcases hu with ⟨Y,hu⟩|hu<;>
     simp[Builtin.append_,run_underlying Z,run_underlying hu,sizeOf,typeInfo,zeroValue,la,ln,lc,lg,lk,lm,Question.forced,lF,lt,newRow,grownCap]<;>
     rw[<-List.append_toArray,Array.append_assoc]
   ·simp[aO]at lh
    subst lh
    exact⟨Nat.le_refl _,by simp⟩
end Go.Ev
namespace Go.Ev
open Go Go.RowKit
variable [b6]
structure BC where
 aJ:ak
 st:ae
 orc:List aj
 ob:List Prop
def xU(P:Program)(t:TypeId):Option (TypeId×ag):=
 match P.info? t with
 |some i=>match i.zero with
  |some (.slice none 0 0)=>G7 P t
  |_=>none
 |none=>none
where
 G7 (P:Program) (t:TypeId):Option (TypeId×ag):=
  match P.underlying t with
  |some (.slice e)=>match ty P e with
   |some u=>bif Nat.beq u.cells 0 then none else some (e,u)
   |none=>none
  |_=>none
def u7(P:Program)(t:TypeId):Option (Nat×ag):=
 match P.info? t,uY P t with
 |some i,some (n,.int k)=>match i.zero with
  |some (.agg o)=>match yj k n o.toList&&Nat.ble n maxLen with
   |true=>some (n,.int k)
   |false=>none
  |_=>none
 |_,_=>none
where
 yj (k:IntKind):Nat->List Value->Bool
  |0,[]=>true
  |n+1,.int k' x::l=>gU k k'&&(x==0&&yj k n l)
  |_,_=>false
def EH(P:Program)(t:TypeId):Option TypeId:=
 match P.info? t,P.underlying t with
 |some i,some (.struct o)=>match i.zero,o.toList with
  |some (.agg O),[_,f1]=>match O.toList,xU.G7 P f1.type with
   |[.pointer none,.slice none 0 0],some (e,.int .u8)=>some e
   |_,_=>none
  |_,_=>none
 |_,_=>none
def rq(st:ae):ak->Bool
 |.row r=>(look st.rw r).isSome
 |.osl b=>xS (look st.ad b)
 |.iter b=>yd (look st.ad b)
 |_=>true
def pw(st:ae)(u:ag):Nat->List (Nat×Operand)->Option (List u.el)
 |_,[]=>some []
 |k,(i,aa)::r=>match Nat.beq i k,dA st aa with
  |true,some v=>match v.as u,pw st u (k+1) r with
   |some x,some xs=>some (x::xs)
   |_,_=>none
  |_,_=>none
def ed(P:Program)(t:TypeId):Option (TypeId×ag):=
 match P.underlying t with
 |some (.slice e)=>match ty P e with
  |some u=>bif Nat.beq u.cells 0 then none else some (e,u)
  |none=>none
 |_=>none
def up(P:Program)(st:ae)(d:Nat)(t:TypeId):Operand->Option (Nat×cw)
 |.const (.slice none 0 0)=>match ed P t with
  |some (e,u)=>some (d,⟨e,u,[]⟩)
  |none=>none
 |x=>match aP st x with
  |some (.row r)=>match look st.rw r with
   |some c=>some (r,c)
   |none=>none
  |_=>none
def dF(s:List UInt8):List Int:=s.map fun b=>(b.toNat:Int)
def mN(P:Program)(st:ae)(u:ag)(t:TypeId)(x:Operand):Option (List u.el):=
 match aP st x with
 |some (.row r)=>match P.underlying t with
  |some (.slice _)=>match look st.rw r with
   |some c=>aj.as ⟨.ab c.t,c.xs⟩ (.ab u)
   |none=>none
  |_=>none
 |some (.val (.ab o) xs)=>match P.underlying t with
  |some (.slice _)=>aj.as ⟨.ab o,xs⟩ (.ab u)
  |_=>none
 |some (.val .str s)=>match P.underlying t with
  |some .string=>aj.as ⟨.ab (.int .u8),dF s⟩ (.ab u)
  |_=>none
 |_=>none
def nC(P:Program)(e:TypeId):Bool:=
 match P.info? e with
 |some i=>Nat.ble i.bytes 65536
 |none=>false
def im(s:List UInt8)(p:Nat):Int:=((Utf8.decode (bytesOf s) p).1:Int)
def kH(s:List UInt8)(p:Nat):Nat:=(Utf8.decode (bytesOf s) p).2
def Bc(st:ae):Option Operand->Bool
 |none=>true
 |some x=>(eG (aP st x)).isSome
def mY(P:Program)(st:ae)(aa:Oper)(d:Nat)(orc:List aj):Option BC:=
 match aa.op with
 |.move (.const (.slice none 0 0))=>match ed P aa.type with
  |some (e,u)=>some ⟨.row d,st.dv d ⟨e,u,[]⟩,orc,[]⟩
  |none=>none
 |.assign (.const (.slice none 0 0))=>match ed P aa.type with
  |some (e,u)=>some ⟨.row d,st.dv d ⟨e,u,[]⟩,orc,[]⟩
  |none=>none
 |.alloc t=>match u7 P t with
  |some (n,u)=>some ⟨.dV d 0 0 u.cells,st.dv d ⟨t,u,List.replicate n (cj u)⟩,orc,[]⟩
  |none=>match xU P t with
  |some (e,u)=>bif Nat.blt (d+1000000) eM then some ⟨.ptr d 0,(st.dv (d+1000000) ⟨e,u,[]⟩).dg d (.cells ([ak.row (d+1000000)].map (ak.dz d)) t),orc,[]⟩else none
  |none=>match EH P t with
   |some e=>bif Nat.blt (d+1000000) eM then some ⟨.ptr d 0,(st.dv (d+1000000) ⟨e,.int .u8,[]⟩).dg d (.cells [.fw d,.row (d+1000000)] t),orc,[]⟩else none
   |none=>match zeroOf P t with
   |some u=>bif yZ u then some ⟨.dE d [],st.dg d (.aO u (cj u) t),orc,[]⟩else some ⟨.ptr d 0,st.dg d (.cells (leaves u (cj u)) t),orc,[]⟩
   |none=>none
 |.box t x=>match ty P t,aP st x with
  |some u,some s=>match tZ u s,rq st s with
   |some l,true=>some ⟨.ptr d 0,st.dg d (.cells (l.map (ak.dz d)) t),orc,[]⟩
   |_,_=>none
  |_,_=>none
 |.buildSlice t n parts=>match ed P t with
  |some (e,u)=>match pw st u 0 parts.toList with
   |some xs=>match Nat.beq xs.length n,Nat.ble (n*u.cells) 16777216,zeroOf P e with
    |true,true,some _=>some ⟨.row d,st.dv d ⟨e,u,xs⟩,orc,[]⟩
    |_,_,_=>none
   |none=>none
  |none=>none
 |.build t parts=>match ty P t,P.underlying t,P.info? t with
  |some (.arr n u),some (.array _ e),some i=>match pw st u 0 parts.toList,ty P e,i.zero with
   |some xs,some o,some z=>match Nat.beq xs.length n&&u.beq o&&Nat.beq z.cells.size (n*u.cells)with
    |true=>some ⟨.val (.arr n u) xs,st,orc,[]⟩
    |false=>none
   |_,_,_=>none
  |_,_,_=>none
 |.makeSlice t l c=>match ed P t,eG (aP st l),eG (aP st c)with
  |some (e,u),some n,some k=>match nC P e,zeroOf P e with
   |true,some o=>bif u.beq o then some ⟨.row d,st.dv d ⟨e,u,List.replicate n.toNat (cj u)⟩,orc,[0<=n/\n<=k/\k<=(lim:Int)]⟩else none
   |_,_=>none
  |_,_,_=>none
 |.range t x=>match dA st x,P.underlying t with
  |some ⟨.str,s⟩,some .string=>some ⟨.iter d,st.dg d (.iter s 0),orc,[]⟩
  |some ⟨.map k v,y⟩,some (.map _ _)=>some ⟨.iter d,st.dg d (.cp k v ((show Option (List (k.el×v.el))from y).getD []) []),orc,[]⟩
  |_,_=>none
 |.makeMap t r=>match P.underlying t with
  |some (.map W Y)=>match ty P W,ty P Y with
   |some k,some v=>match k.flat&&eD P 16 W&&Bc st r with
    |true=>some ⟨.iter d,st.dg d (.mp k v []),orc,[]⟩
    |false=>none
   |_,_=>none
  |_=>none
 |.next x false=>match aP st x with
  |some (.iter b)=>match look st.ad b with
   |some (.cp _ _ left _)=>some ⟨.dP [⟨.bool,false⟩],st,orc,[left=[]]⟩
   |_=>none
  |_=>none
 |.entry x=>match aP st x with
  |some (.iter b)=>match look st.ad b with
   |some (.cp k v _ [p])=>some ⟨.dP [⟨k,p.1⟩,⟨v,p.2⟩],st,orc,[]⟩
   |_=>none
  |_=>none
 |.next x true=>match aP st x,orc with
  |some (.iter b),⟨.bool,Z⟩::orc'=>match look st.ad b with
   |some (.iter s p)=>match Z with
    |true=>some ⟨.dP [⟨.bool,true⟩,⟨.int .i64,(p:Int)⟩,⟨.int .i32,im s p⟩],st.db b (.iter s (p+kH s p)),orc',[p<s.length]⟩
    |false=>some ⟨.dP [⟨.bool,false⟩],st,orc',[s.length<=p]⟩
   |_=>none
  |_,_=>none
 |.convert src la x=>match dA st x,P.underlying src,ed P la with
  |some ⟨.str,s⟩,some .string,some (e,.int .i32)=>some ⟨.row d,st.dv d ⟨e,.int .i32,gi s⟩,orc,[s.length<=lim]⟩
  |some ⟨.str,s⟩,some .string,some (_,.int .u8)=>some ⟨.val (.ab (.int .u8)) (dF s),st,orc,[]⟩
  |_,_,_=>none
 |.makeFunc (.func f) first gF=>match first.toList,mY.qF st gF.toList with
  |[],some U=>some ⟨.clos f U,st,orc,[]⟩
  |[x],some []=>match aP st x with
   |some (.ptr b 0)=>some ⟨.bX f b,st,orc,[]⟩
   |_=>none
  |_,_=>none
 |.slice t x none (some h) none=>match aP st x,ed P t,eG (aP st h)with
  |some (.row r),some (e,u),some n=>match look st.rw r with
   |some c=>match Nat.beq c.e e,c.t.beq u,Nat.blt r eM with
    |true,true,true=>some ⟨.row r,st.dv r ⟨c.e,c.t,c.xs.take n.toNat⟩,orc,[0<=n/\n<=(c.xs.length:Int)]⟩
    |_,_,_=>none
   |none=>none
  |_,_,_=>none
 |.slice t x (some l) none none=>match aP st x,eG (aP st l),uY P t,orc with
  |some (.dV r i0 lc ld),some n,some (len,u),v::orc'=>match look st.rw r with
   |some c=>match c.t.beq u&&(i0==0&&(Nat.beq lc 0&&Nat.beq ld c.t.cells)),v.as (.ab c.t)with
    |true,some O=>some ⟨.val (.ab c.t) O,st.freeze r c,orc',[dK c.xs n (c.xs.length:Int)=some O,c.xs.length=len]⟩
    |_,_=>none
   |none=>none
  |_,_,_,_=>none
 |.call c=>match c with
  |{callee:=.builtin .append,args:=args,argTypes:=lf}=>match args.toList,lf.toList with
   |[s,x],[t,lg]=>match ed P t,up P st d t s with
    |some (e,u),some (r,c)=>match Nat.beq c.e e,c.t.beq u,nC P e,zeroOf P e,mN P st c.t lg x with
     |true,true,true,some o,some O=>bif u.beq o&&Nat.blt r eM then some ⟨.row r,st.dv r ⟨c.e,c.t,c.xs++O⟩,orc,[c.xs.length+O.length<=lim]⟩else none
     |_,_,_,_,_=>none
    |_,_=>none
   |_,_=>none
  |_=>none
 |_=>none
where
 qF (st:ae):List Operand->Option (List Nat)
  |[]=>some []
  |x::r=>match aP st x,qF st r with
   |some (.ptr b 0),some U=>some (b::U)
   |_,_=>none
variable {cx:bB} {m:Nat->Value} {st:ae} {T:Array Value} {w w':World}
theorem jz{P:Program}{t:TypeId}{e:TypeId}{u:ag}(h:ed P t=some (e,u)):P.underlying t=some (.slice e)/\ty P e=some u/\0<u.cells:=by
 unfold ed at h
 split at h
 ·rename_i Y O
  split at h
  ·rename_i U W
   cases o:Nat.beq U.cells 0 with
   |true=>rw[o]at h;cases h
   |false=>rw[o]at h;cases h;exact⟨O,W,Nat.pos_of_ne_zero (beq_false o)⟩
  ·cases h
 ·cases h
def eR(cx:bB)(T:Array Value)(w:World)(aa:Oper)(r:BC):Prop:=
 ∃v w' aA,(execOp (Act.eval ⟨T,[]⟩) aa).run cx.P w=.ok (.value v) w'/\am cx aA r.st T w'/\aQ w' (ap cx aA r.st.ids) aA v r.aJ
theorem ct{aa:Oper}{s:Sem Value}{v:Value}(o:execOp (Act.eval ⟨T,[]⟩) aa=(do pure (Next.value (<-s))))(O:s.run cx.P w=.ok v w'):
  (execOp (Act.eval ⟨T,[]⟩) aa).run cx.P w=.ok (.value v) w':=by
 rw[o,Sem.run_bind,O]
 rfl
theorem r2(h:am cx m st T w):cx.bC.heap.size<=w.heap.size:=h.frame.size
theorem wU(h:am cx m st T w){d:Nat}(af:d<cx.n){cells:Array Value}{e:Nat}{l:List ak}(U:cA w (ap cx m st.ids) m cells.toList l):
  am cx (bo m d (.pointer (some ⟨w.heap.size,0,none⟩))) (st.dg d (.cells (l.map (ak.dz d)) e)) T (w.alloc (.cells cells e)):=by
 have O:dm cx m st w d (fK w.heap.size (.cells (l.map (ak.dz d)) e)) (w.alloc (.cells cells e)):=
  dm.fresh h d _ (iN _ _) fun g W=>by cases mr W;exact⟨Nat.le_refl _,by simp⟩
 have Y:∀i,i∈(st.dg d (.cells (l.map (ak.dz d)) e)).ids->i=d\/i∈st.ids:=by
  intro i o
  rw[yz]at o
  rcases List.mem_cons.1 o with o|o
  ·exact .inl o
  ·exact .inr ((nH st d i).1 o).1
 refine h.dg af O (.inl (r2 h)) ⟨cells,heap_alloc_new w _,?_⟩
 exact uI (fun v s Z=>EE d _ (fV O.keeps (O.mut Y) Z:aQ _ (ap cx _ _) m v s)) U
theorem yW{r:Nat}{c:cw}:∀i,i∈(st.dv r c).ids->i=r\/i∈st.ids:=by
 intro i o
 rcases(LJ st r c i).1 o with o|o
 ·exact .inl o
 ·exact .inr ((nH st r i).1 o).1
theorem M9(d:Nat):∀(t:ag) (x:t.el),(leaves t x).map (ak.dz d)=leaves t x:=by
 intro t
 induction t with
 |pair a b o O=>intro x;simp only[leaves,List.map_append,o,O]
 |arr n t U=>
  intro x
  show((x:List t.el).flatMap (leaves t)).map (ak.dz d)=(x:List t.el).flatMap (leaves t)
  induction(x:List t.el)with
  |nil=>rfl
  |cons y Y W=>rw[List.flatMap_cons,List.map_append,U,W]
 |_=>intro x;rfl
theorem Tn(h:am cx m st T w){aa:Oper}{d:Nat}(af:d<cx.n){t:TypeId}{u:ag}(o:aa.op=.alloc t)(O:zeroOf cx.P t=some u){orc:List aj}:
  eR cx T w aa ⟨.ptr d 0,st.dg d (.cells (leaves u (cj u)) t),orc,[]⟩:=by
 obtain⟨i,z,Z,U,la,W,Y⟩:=ka O
 have:=wU h af (cells:=z.cells) (e:=t) (Dw u (Y w (ap cx m st.ids)))
 rw[M9]at this
 refine⟨_,_,_,ct (s:=Instr.alloc t true (.tuple #[])) (by simp only[execOp,o]) ?_,this,w.heap.size,b9 _ _ _,rfl⟩
 simp[Instr.alloc,zeroValue,typeInfo,U,W,newVar,newRow]
theorem OT(h:am cx m st T w){aa:Oper}{d:Nat}(af:d<cx.n){t:TypeId}{u:ag}(o:aa.op=.alloc t)(O:zeroOf cx.P t=some u){orc:List aj}:
  eR cx T w aa ⟨.dE d [],st.dg d (.aO u (cj u) t),orc,[]⟩:=by
 obtain⟨i,z,lc,U,ld,W,Y⟩:=ka O
 have Z:dm cx m st w d (fK w.heap.size (.aO u (cj u) t)) (w.alloc (.cells z.cells t)):=
  dm.fresh h d _ (iN _ _) fun g la=>by cases mr la;exact⟨Nat.le_refl _,by simp⟩
 refine⟨.pointer (some ⟨w.heap.size,0,none⟩),w.alloc (.cells z.cells t),_,ct (s:=Instr.alloc t true (.tuple #[])) (by simp only[execOp,o]) ?_,
  h.dg af Z (.inl h.frame.size) ⟨z.cells,heap_alloc_new w _,Y _ _⟩,w.heap.size,by rw[b9];rfl,rfl⟩
 simp[Instr.alloc,zeroValue,typeInfo,U,W,newVar,newRow,Value.cells]
theorem V9(h:am cx m st T w){aa:Oper}{d:Nat}(af:d<cx.n){t:TypeId}{u:ag}{x:Operand}{s:ak}{l:List ak}(U:aa.op=.box t x)(o:aP st x=some s)(W:tZ u s=some l)(O:rq st s=true){orc:List aj}:
  eR cx T w aa ⟨.ptr d 0,st.dg d (.cells (l.map (ak.dz d)) t),orc,[]⟩:=by
 have Y:∀r,s=.row r\/s=.osl r\/s=.iter r->(Act.eval ⟨T,[]⟩ x).oneCell'=true:=by
  rintro r (rfl|rfl|rfl)
  ·simp only[rq]at O
   obtain⟨c',Z⟩:=Option.isSome_iff_exists.1 O
   rw[show Act.eval ⟨T,[]⟩ x=m r from aW h o]
   exact row_one h (aX Z)
  ·exact F5 h O (aW h o)
  ·exact F4 h O (aW h o)
 obtain⟨la,lc,ld⟩:=ME Y (aW h o) W
 have:=wU h af (cells:=(Act.eval ⟨T,[]⟩ x).cells) (e:=t) la
 refine⟨_,_,_,ct (s:=Instr.box t (Act.eval ⟨T,[]⟩ x)) (by simp only[execOp,U]) ?_,this,w.heap.size,b9 _ _ _,rfl⟩
 simp[Instr.box,newVar,newRow]
theorem zC(h:am cx m st T w)(d:Nat)(hk:d<cx.n\/d<eM){cur:Array Value}{cells:List Value}{e cap:Nat}{u:ag}{xs:List u.el}(w':World)(Y:Ext w w')(U:w'.heap[w.heap.size]? =some (.cells cur e (0,0)))
  (Z:xs.length<=cap)(la:cap<=maxLen)(lc:cur.size=cap*u.cells)(ld:cur.toList.take (xs.length*u.cells)=cells)(W:bD (aF w (ap cx m st.ids) u) cells xs):
  am cx (bo m d (.slice (some ⟨w.heap.size,0,none⟩) xs.length cap)) (st.dv d ⟨e,u,xs⟩) T w':=by
 have o:dm cx m st w d (.slice (some ⟨w.heap.size,0,none⟩) xs.length cap) w':=
  dm.fresh h d _ Y fun g O=>by cases O;exact⟨Nat.le_refl _,E3 U⟩
 have lf:=jq (fun _ _=>ch u) _ _ W
 refine h.dv hk o (fun g O=>by cases O;exact .inl (r2 h)) ⟨lf,.inr ⟨w.heap.size,cap,cur,rfl,Nat.zero_le _,U,Z,la,lc,ld⟩⟩ (dx (fun _ _=>cB o.keeps (o.mut yW) u) W)
theorem xn(h:am cx m st T w)(d e:Nat)(hk:d<cx.n\/d<eM)(u:ag):am cx (bo m d (.slice none 0 0)) (st.dv d ⟨e,u,[]⟩) T w:=by
 have O:dm cx m st w d (.slice none 0 0) w:=dm.fresh h d _ (Ext.refl w) fun g o=>by cases o
 exact h.dv hk O (fun g o=>by cases o) (World.ownsRow_nil w 0 e u.cells) rfl
theorem Pw(h:am cx m st T w){aa:Oper}{d:Nat}(af:d<cx.n)(hk:d+1000000<eM){t e:TypeId}{u:ag}(O:aa.op=.alloc t)(o:xU cx.P t=some (e,u)){orc:List aj}:
  eR cx T w aa ⟨.ptr d 0,(st.dv (d+1000000) ⟨e,u,[]⟩).dg d (.cells ([ak.row (d+1000000)].map (ak.dz d)) t),orc,[]⟩:=by
 unfold xU at o
 split at o
 ·rename_i i U
  split at o
  ·rename_i W
   have h1:=xn h (d+1000000) e (.inr hk) u
   have:=wU h1 af (cells:=#[.slice none 0 0]) (e:=t) (l:=[ak.row (d+1000000)]) ⟨(b9 _ _ _).symm,trivial⟩
   refine⟨_,_,_,ct (s:=Instr.alloc t true (.tuple #[])) (by simp only[execOp,O]) ?_,this,w.heap.size,b9 _ _ _,rfl⟩
   simp[Instr.alloc,zeroValue,typeInfo,U,W,newVar,newRow,Value.cells]
  ·cases o
 ·cases o
theorem Ud(h:am cx m st T w){aa:Oper}{d:Nat}(af:d<cx.n)(hk:d+1000000<eM){t e:TypeId}(O:aa.op=.alloc t)(o:EH cx.P t=some e){orc:List aj}:
  eR cx T w aa ⟨.ptr d 0,(st.dv (d+1000000) ⟨e,.int .u8,[]⟩).dg d (.cells [.fw d,.row (d+1000000)] t),orc,[]⟩:=by
 unfold EH at o
 split at o
 ·rename_i i lf U lg
  split at o
  ·rename_i W f0 f1 Y lh
   split at o
   ·rename_i li Z lj
    cases o
    have la:W=#[.pointer none,.slice none 0 0]:=Array.ext' (by rw[Z])
    have h1:=xn h (d+1000000) e (.inr hk) (.int .u8)
    have lc:dm cx (bo m (d+1000000) (.slice none 0 0)) (st.dv (d+1000000) ⟨e,.int .u8,[]⟩) w d (fK w.heap.size (.cells [.fw d,.row (d+1000000)] t)) (w.alloc (.cells #[.pointer none,.slice none 0 0] t)):=
     dm.fresh h1 d _ (iN _ _) fun g ld=>by cases mr ld;exact⟨Nat.le_refl _,by simp⟩
    have:=h1.dg af lc (.inl (r2 h1)) ⟨#[.pointer none,.slice none 0 0],heap_alloc_new w _,.inl rfl,by
     show _=bo _ d _ (d+1000000)
     rw[cN _ _ (by omega),b9],trivial⟩
    refine⟨_,_,_,ct (s:=Instr.alloc t true (.tuple #[])) (by simp only[execOp,O]) ?_,this,w.heap.size,b9 _ _ _,rfl⟩
    simp[Instr.alloc,zeroValue,typeInfo,U,Y,newVar,newRow,Value.cells,la]
   ·cases o
  ·cases o
 ·cases o
theorem Hz{k:IntKind}:∀{n:Nat} {l:List Value},u7.yj k n l=true->l=List.replicate n (.int k 0)
 |0,[],_=>rfl
 |0,_::_,h=>by cases h
 |n+1,[],h=>by cases h
 |n+1,v::l,h=>by
  cases v<;>simp only[u7.yj,Bool.false_eq_true]at h
  simp only[Bool.and_eq_true,beq_iff_eq]at h
  obtain⟨h1,o,O⟩:=h
  rw[<-nK h1,o,Hz O]
  rfl
theorem H4{M:Nat->Prop}{k:IntKind}:∀(n:Nat),bD (aF w M (.int k)) (List.replicate n (.int k 0)) (List.replicate n (cj (.int k)))
 |0=>rfl
 |n+1=>⟨[.int k 0],List.replicate n (.int k 0),rfl,rfl,H4 n⟩
theorem Ui(h:am cx m st T w){aa:Oper}{d:Nat}(af:d<cx.n){t:TypeId}{n:Nat}{u:ag}(Z:aa.op=.alloc t)(o:u7 cx.P t=some (n,u)){orc:List aj}:
  eR cx T w aa ⟨.dV d 0 0 u.cells,st.dv d ⟨t,u,List.replicate n (cj u)⟩,orc,[]⟩:=by
 unfold u7 at o
 split at o
 ·rename_i i lf k la lg
  split at o
  ·rename_i O lc
   split at o
   ·rename_i U
    cases o
    rw[Bool.and_eq_true]at U
    have W:=Hz U.1
    have ld:=Nat.le_of_ble_eq_true U.2
    have Y:O.size=n:=by rw[<-Array.length_toList,W,List.length_replicate]
    have:=zC h d (.inl af) (xs:=List.replicate n (cj (.int k))) (cells:=O.toList) (cur:=O) (u:=.int k) (e:=t) (cap:=n) (w.alloc (.cells O t)) (iN _ _) (heap_alloc_new w _) (by rw[List.length_replicate];exact Nat.le_refl _) ld (by rw[Y];simp[ag.cells])
     (by rw[List.length_replicate];simp only[ag.cells,Nat.mul_one];rw[List.take_of_length_le (by rw[Array.length_toList,Y];exact Nat.le_refl _)]) (by rw[W];exact H4 n)
    rw[List.length_replicate]at this
    refine⟨.pointer (some ⟨w.heap.size,0,none⟩),_,_,ct (s:=Instr.alloc t true (.tuple #[])) (by simp only[execOp,Z]) ?_,this,w.heap.size,_,_,b9 _ _ _,by simp⟩
    simp[Instr.alloc,zeroValue,typeInfo,la,lc,newVar,newRow,Value.cells]
   ·cases o
  ·cases o
 ·cases o
theorem KP(h:am cx m st T w){aa:Oper}{d e:Nat}(af:d<cx.n){u:ag}(o:aa.op=.move (.const (.slice none 0 0))\/aa.op=.assign (.const (.slice none 0 0))){orc:List aj}:
  eR cx T w aa ⟨.row d,st.dv d ⟨e,u,[]⟩,orc,[]⟩:=by
 refine⟨.slice none 0 0,w,_,?_,xn h d e (.inl af) u,(b9 _ _ _).symm⟩
 rcases o with o|o<;>simp[execOp,o,Act.eval]
theorem QE(h:am cx m st T w){aa:Oper}{d:Nat}(af:d<cx.n){t:TypeId}{x:Operand}{s:List UInt8}(o:aa.op=.range t x)(O:dA st x=some ⟨.str,s⟩)(U:cx.P.underlying t=some .string){orc:List aj}:
  eR cx T w aa ⟨.iter d,st.dg d (.iter s 0),orc,[]⟩:=by
 obtain⟨W,_⟩:=eS.1 (df h O)
 have Y:dm cx m st w d (fK w.heap.size (.iter s 0)) (w.iter (bytesOf s) 0):=
  dm.fresh h d _ (iN _ _) fun g Z=>by cases mr Z;exact⟨Nat.le_refl _,by simp[World.iter]⟩
 refine⟨.pointer (some ⟨w.heap.size,0,none⟩),w.iter (bytesOf s) 0,_,ct (s:=Instr.range t (.string (bytesOf s))) (by simp only[execOp,o,W];rfl) (run_range_string _ _ _ U),
  h.dg af Y (.inl (r2 h)) (World.iter_heap _ _ _),(b9 _ _ _).symm⟩
theorem N6(w:World)(g:Nat)(aa:Obj):Same w {w with heap:=w.heap.setIfInBounds g aa}:=⟨rfl,rfl,rfl,by simp,fun _=>Nat.le_refl _⟩
theorem Q6(h:am cx m st T w){aa:Oper}{d:Nat}(af:d<cx.n){t:TypeId}{x:Operand}{k v:ag}{y:(ag.map k v).el}{ld lf:TypeId}(Z:aa.op=.range t x)(lg:dA st x=some ⟨.map k v,y⟩)(la:cx.P.underlying t=some (.map ld lf)){orc:List aj}:
  eR cx T w aa ⟨.iter d,st.dg d (.cp k v ((show Option (List (k.el×v.el))from y).getD []) []),orc,[]⟩:=by
 have o:=(bZ (t:=.map k v) rfl).1 (df h lg)
 match y,o with
 |none,o=>
  have o:[Act.eval ⟨T,[]⟩ x]=[Value.map none]:=o
  simp only[List.cons.injEq,and_true]at o
  have O:dm cx m st w d (fK w.heap.size (.cp k v [] [])) (w.alloc (.mapIter none 0 #[] 0)):=
   dm.fresh h d _ (iN _ _) fun g W=>by cases mr W;exact⟨Nat.le_refl _,by simp⟩
  refine⟨.pointer (some ⟨w.heap.size,0,none⟩),w.alloc (.mapIter none 0 #[] 0),_,ct (s:=Instr.range t (.map none)) (by simp only[execOp,Z,o]) ?_,
   h.dg af O (.inl h.frame.size) (.inl ⟨heap_alloc_new w _,rfl,rfl⟩),?_⟩
  ·simp[Instr.range,run_underlying la,newObj,Sem.run]
  ·show _=bo m d _ d
   rw[b9];rfl
 |some ps,⟨b,es,clock,e,h1,lh,li,lj,lk⟩=>
  simp only[List.cons.injEq,and_true]at e
  have lc:=gD h1
  have O:dm cx m st w d (fK w.heap.size (.cp k v ps [])) (w.alloc (.mapIter (some b) clock #[] clock)):=
   dm.fresh h d _ (iN _ _) fun g W=>by cases mr W;exact⟨Nat.le_refl _,by simp⟩
  have Y:=O.mut (ids:=(st.dg d (.cp k v ps [])).ids) (fun i U=>by rcases List.mem_cons.1 U with U|U;exact .inl U;exact .inr ((nH st d i).1 U).1)
  refine⟨.pointer (some ⟨w.heap.size,0,none⟩),w.alloc (.mapIter (some b) clock #[] clock),_,ct (s:=Instr.range t (.map (some b))) (by simp only[execOp,Z,e]) ?_,
   h.dg af O (.inl h.frame.size) (.inr ⟨b,es,clock,#[],heap_alloc_new w _,?_,fun ll=>lh (Y b lc ll),li,lj,?_,.inl rfl⟩),?_⟩
  ·simp[Instr.range,run_underlying la,newObj,getObj,Sem.run,h1]
  ·rw[Below.heap_alloc w _ b lc];exact h1
  ·have lm:es.toList.filter (fun e=>!(#[]:Array Nat).contains e.born)=es.toList:=List.filter_eq_self.2 fun a _=>by simp
   rw[lm]
   exact gH (fun _ _ h=>dh O.keeps Y h) (fun _ _ h=>dh O.keeps Y h) lk
  ·show _=bo m d _ d
   rw[b9];rfl
theorem Sm(h:am cx m st T w){aa:Oper}{d:Nat}(af:d<cx.n){t:TypeId}{r:Option Operand}{k v:ag}{O U:TypeId}(W:aa.op=.makeMap t r)(Y:cx.P.underlying t=some (.map O U))(o:Bc st r=true){orc:List aj}:
  eR cx T w aa ⟨.iter d,st.dg d (.mp k v []),orc,[]⟩:=by
 have Z:dm cx m st w d (fK w.heap.size (.mp k v [])) (w.alloc (.map #[] 0)):=
  dm.fresh h d _ (iN _ _) fun g la=>by cases mr la;exact⟨Nat.le_refl _,by simp⟩
 refine⟨.map (some w.heap.size),w.alloc (.map #[] 0),_,ct (s:=Instr.makeMap t (r.map (Act.eval ⟨T,[]⟩))) (by simp only[execOp,W]) ?_,
  h.dg af Z (.inl h.frame.size) ⟨#[],0,heap_alloc_new w _,fun e lc=>by simp at lc,by simp,trivial⟩,?_⟩
 ·cases r with
  |none=>rfl
  |some x=>
   unfold Bc at o
   obtain⟨n,ld⟩:=Option.isSome_iff_exists.1 o
   obtain⟨k',hk⟩:=fN h ld
   simp[Instr.makeMap,run_underlying Y,hk,asInt,asIntOf,newObj,Sem.run]
 ·show _=bo m d _ d
  rw[b9];rfl
theorem Ik(h:am cx m st T w){aa:Oper}{x:Operand}{b:Nat}{k v:ag}{left last:List (k.el×v.el)}(o:aa.op=.next x false)(U:aP st x=some (.iter b))(W:look st.ad b=some (.cp k v left last))(Y:left=[]){orc:List aj}{ob:List Prop}:
  eR cx T w aa ⟨.dP [⟨.bool,false⟩],st,orc,ob⟩:=by
 subst Y
 obtain⟨g,Z,_,la⟩:=h.box (aX W)
 have O:Act.eval ⟨T,[]⟩ x=.pointer (some ⟨g,0,none⟩):=by have:Act.eval ⟨T,[]⟩ x=m b:=aW h U;rw[this,Z];rfl
 rcases la with ⟨h1,_⟩|⟨li,es,clock,seen,h1,lc,_,ld,lj,lf,_⟩
 ·refine⟨.tuple #[.bool false],w,m,ct (s:=Instr.next (.pointer (some ⟨g,0,none⟩)) false aa.type) (by simp only[execOp,o,O]) ?_,h,⟨[.bool false],rfl,dH.2 rfl,trivial⟩⟩
  simp[Instr.next,getObj,Sem.run,h1]
 ·have lg:es.toList.filter (fun e=>!seen.contains e.born)=[]:=List.eq_nil_of_length_eq_zero (by rw[ue lf];rfl)
  refine⟨.tuple #[.bool false],w,m,ct (s:=Instr.next (.pointer (some ⟨g,0,none⟩)) false aa.type) (by simp only[execOp,o,O]) ?_,h,⟨[.bool false],rfl,dH.2 rfl,trivial⟩⟩
  have lh:es.filter (fun e=>!seen.contains e.born)=#[]:=by
   apply Array.toList_inj.1
   rw[Array.toList_filter]
   exact lg
  simp only[Instr.next,getObj,Sem.run_bind,Sem.run,h1,lc,Result.andThen,next_test_false seen es clock clock ld (Nat.le_refl _),Bool.false_eq_true,if_false,lh]
  simp[choose,Sem.run,Question.forced]
theorem find_born:∀(l:List MapEntry) (e:MapEntry),(l.map (·.born)).Nodup->e∈l->l.find? (fun x=>x.born==e.born)=some e
 |[],e,_,he=>by cases he
 |x::l,e,O,he=>by
  rw[List.map_cons,List.nodup_cons]at O
  rw[List.find?_cons]
  by_cases o:x.born=e.born
  ·rw[show(x.born==e.born)=true from beq_iff_eq.2 o]
   rcases List.mem_cons.1 he with he|he
   ·rw[he]
   ·exact absurd (List.mem_map.2 ⟨e,he,o.symm⟩) O.1
  ·rw[show(x.born==e.born)=false from beq_eq_false_iff_ne.2 o]
   rcases List.mem_cons.1 he with he|he
   ·exact absurd (by rw[he]) o
   ·exact find_born l e O.2 he
theorem Su(h:am cx m st T w){aa:Oper}{x:Operand}{b:Nat}{k v:ag}{left:List (k.el×v.el)}{p:k.el×v.el}(O:aa.op=.entry x)(U:aP st x=some (.iter b))(W:look st.ad b=some (.cp k v left [p])){orc:List aj}:
  eR cx T w aa ⟨.dP [⟨k,p.1⟩,⟨v,p.2⟩],st,orc,[]⟩:=by
 obtain⟨g,Y,_,Z⟩:=h.box (aX W)
 have la:Act.eval ⟨T,[]⟩ x=.pointer (some ⟨g,0,none⟩):=by have:Act.eval ⟨T,[]⟩ x=m b:=aW h U;rw[this,Y];rfl
 rcases Z with ⟨_,_,h1⟩|⟨lh,es,clock,seen,h1,lc,_,li,ld,lj,o⟩
 ·cases h1
 ·rcases o with o|⟨e,q,lf,a2,a3,a4,a5⟩
  ·cases o
  ·cases lf
   refine⟨.tuple #[e.key,e.val],w,m,ct (s:=Instr.entry (.pointer (some ⟨g,0,none⟩))) (by simp only[execOp,O,la]) ?_,h,⟨[e.key,e.val],rfl,a4,a5,trivial⟩⟩
   have lg:es.find? (fun x=>x.born==e.born)=some e:=by rw[<-Array.find?_toList];exact find_born es.toList e ld a2
   simp[Instr.entry,getObj,Sem.run,h1,lc,a3,lg]
theorem KY(h:am cx m st T w){aa:Oper}{x:Operand}{b p:Nat}{s:List UInt8}(W:aa.op=.next x true)(la:aP st x=some (.iter b))(lc:look st.ad b=some (.iter s p)){orc:List aj}:
  (p<s.length->eR cx T w aa ⟨.dP [⟨.bool,true⟩,⟨.int .i64,(p:Int)⟩,⟨.int .i32,im s p⟩],st.db b (.iter s (p+kH s p)),orc,[p<s.length]⟩)/\
  (s.length<=p->eR cx T w aa ⟨.dP [⟨.bool,false⟩],st,orc,[s.length<=p]⟩):=by
 have Y:Act.eval ⟨T,[]⟩ x=m b:=aW h la
 have Z:=aX lc
 obtain⟨g,o,_,O⟩:=h.box Z
 have O:w.heap[g]? =some (.stringIter (bytesOf s) p):=O
 have o:m b=.pointer (some ⟨g,0,none⟩):=o
 constructor
 ·intro ld
  have U:p<(bytesOf s).size:=by rw[jm];exact ld
  have lf:Touch m w b {w with heap:=w.heap.setIfInBounds g (.stringIter (bytesOf s) (p+kH s p))}:=
   ⟨N6 _ _ _,fun k _ lg=>by
    show(w.heap.setIfInBounds g _)[k]? =_
    rw[Array.getElem?_setIfInBounds_ne]
    intro e
    exact lg (by rw[o,e];rfl)⟩
  refine⟨.tuple #[.bool true,.int .i64 p,.int .i32 (im s p)],_,m,ct (s:=Instr.next (.pointer (some ⟨g,0,none⟩)) true aa.type) (by simp only[execOp,W,Y,o]) ?_,
   h.db Z lf (g:=g) o ?_,⟨[.bool true,.int .i64 p,.int .i32 (im s p)],rfl,dH.2 rfl,cZ.2 rfl,cZ.2 rfl,trivial⟩⟩
  ·simp[Instr.next,getObj,setObj,Sem.run,O,U,goInt,im,kH]
  ·show(w.heap.setIfInBounds g _)[g]? =_
   rw[Array.getElem?_setIfInBounds_self_of_lt (E3 O)]
 ·intro lh
  have U:¬p<(bytesOf s).size:=by rw[jm];omega
  refine⟨.tuple #[.bool false],w,m,ct (s:=Instr.next (.pointer (some ⟨g,0,none⟩)) true aa.type) (by simp only[execOp,W,Y,o]) ?_,h,⟨[.bool false],rfl,dH.2 rfl,trivial⟩⟩
  simp[Instr.next,getObj,Sem.run,O,U]
end Go.Ev
namespace Go.Ev
open Go Go.RowKit
variable [b6]
variable {cx:bB} {m:Nat->Value} {st:ae} {T:Array Value} {w w':World}
theorem DT(h:am cx m st T w){u:ag}:∀(parts:List (Nat×Operand)) (k:Nat) (xs:List u.el) (pre old:List Value),pw st u k parts=some xs->pre.length=k*u.cells->old.length=xs.length*u.cells->
  ∃cells,Instr.fill (fun i=>some (i*u.cells,u.cells)) (pre++old).toArray (parts.map fun p=>(p.1,Act.eval ⟨T,[]⟩ p.2))=some (pre++cells).toArray/\bD (aF w (ap cx m st.ids) u) cells xs
 |[],k,xs,pre,old,o,_,U=>by
  cases o
  have:old=[]:=List.eq_nil_of_length_eq_zero (by simpa using U)
  subst this
  exact⟨[],rfl,rfl⟩
 |(i,aa)::r,k,xs,pre,old,o,W,U=>by
  unfold pw at o
  split at o
  ·rename_i v hk lg
   split at o
   ·rename_i x Y lh li
    cases o
    have lj:=Nat.eq_of_beq_eq_true hk
    subst lj
    have la:=mi (df h lg)
    have e:=aj.dC lh
    subst e
    have Z:=ch u la
    have lk:(Act.eval ⟨T,[]⟩ aa).cells.size=u.cells:=by rw[<-Z];simp
    have lc:old.length=(Y.length+1)*u.cells:=U
    obtain⟨O,aT,rfl,ld⟩:∃O aT,old=O++aT/\O.length=u.cells:=⟨old.take u.cells,old.drop u.cells,(List.take_append_drop _ _).symm,by rw[List.length_take,lc,Nat.succ_mul];omega⟩
    have ll:aT.length=Y.length*u.cells:=by
     rw[List.length_append,Nat.succ_mul]at lc
     omega
    obtain⟨cells,lm,ln⟩:=DT h r (i+1) Y (pre++(Act.eval ⟨T,[]⟩ aa).cells.toList) aT li (by rw[List.length_append,W,Z,Nat.succ_mul]) ll
    refine⟨(Act.eval ⟨T,[]⟩ aa).cells.toList++cells,?_,(Act.eval ⟨T,[]⟩ aa).cells.toList,cells,rfl,la,ln⟩
    rw[List.map_cons,Instr.fill]
    have lo:¬(((Act.eval ⟨T,[]⟩ aa).cells.size≠u.cells||decide (i*u.cells+(Act.eval ⟨T,[]⟩ aa).cells.size>(pre++(O++aT)).toArray.size))=true):=by
     simp only[lk,List.size_toArray,List.length_append,W,ld]
     simp
    simp only[]
    rw[if_neg lo]
    have lf:=xI (Act.eval ⟨T,[]⟩ aa).cells.toList pre aT O (by rw[ld,Z])
    rw[W,Array.toArray_toList]at lf
    rw[<-List.append_assoc,lf,lm]
    simp
   ·cases o
  ·cases o
theorem N2(h:am cx m st T w){aa:Oper}{d:Nat}(af:d<cx.n){t e:TypeId}{u lf:ag}{n:Nat}{parts:Array (Nat×Operand)}{xs:List u.el}(lg:aa.op=.buildSlice t n parts)(lh:ed cx.P t=some (e,u))
  (li:pw st u 0 parts.toList=some xs)(U:xs.length=n)(lt:n*u.cells<=16777216)(lj:zeroOf cx.P e=some lf){orc:List aj}:
  eR cx T w aa ⟨.row d,st.dv d ⟨e,u,xs⟩,orc,[]⟩:=by
 obtain⟨lk,W,ll⟩:=jz lh
 obtain⟨i,z,_,Y,lu,lm,_⟩:=ka lj
 have lv:i.size=u.cells:=by
  obtain⟨i2,Z,ln,_⟩:=dn W
  rw[Y]at Z
  cases Z
  exact ln
 obtain⟨cells,la,lc⟩:=DT h parts.toList 0 xs [] ((Array.range (n*u.cells)).map ((if n*u.cells=0 then#[]else z.cells)[· %(if n*u.cells=0 then#[]else z.cells).size]!)).toList li (by simp) (by simp[U])
 have ld:=jq (fun _ _=>ch u) _ _ lc
 have lo:xs.length<=maxLen:=by
  have:xs.length<=xs.length*u.cells:=Nat.le_mul_of_pos_right _ ll
  have lw:(16777216:Nat)<=maxLen:=by decide
  rw[U]at this⊢
  omega
 have lp:=zC h d (.inl af) (cur:=cells.toArray) (cells:=cells) (e:=e) (cap:=xs.length) (w.alloc (.cells cells.toArray e)) (iN _ _) (heap_alloc_new w _) (Nat.le_refl _) lo (by simp[ld]) (by rw[<-ld];simp) lc
 refine⟨.slice (some ⟨w.heap.size,0,none⟩) n n,_,_,ct (s:=Instr.buildSlice t n (parts.map fun p=>(p.1,Act.eval ⟨T,[]⟩ p.2))) (by simp only[execOp,lg]) ?_,lp,by show _=bo _ _ _ _;rw[b9,U]⟩
 have lq:¬(n*u.cells>2^24):=by omega
 have o:Instr.fill (fun i=>some (i*u.cells,u.cells)) ((Array.range (n*u.cells)).map ((if n*u.cells=0 then#[]else z.cells)[· %(if n*u.cells=0 then#[]else z.cells).size]!)) (parts.map fun p=>(p.1,Act.eval ⟨T,[]⟩ p.2)).toList=some cells.toArray:=by
  rw[List.nil_append,List.nil_append,Array.toArray_toList]at la
  rw[Array.toList_map]
  exact la
 simp only[Instr.buildSlice,Sem.run_bind,run_underlying lk,Result.andThen_ok,ff W,if_neg lq]
 by_cases O:n*u.cells=0
 ·rw[if_pos O]
  rw[if_pos O]at o
  simp only[Sem.run_pure,Result.andThen_ok,o,Sem.run_bind,newRow,run_newObj_alloc]
 ·rw[if_neg O]
  rw[if_neg O]at o
  have lr:(zeroValue e).run cx.P w=.ok z w:=by simp[zeroValue,typeInfo,Y,lm]
  simp only[Sem.run_bind,lr,Sem.run_pure,Result.andThen_ok,o,newRow,run_newObj_alloc]
theorem RC(h:am cx m st T w){aa:Oper}{t e:TypeId}{u:ag}{n:Nat}{parts:Array (Nat×Operand)}{xs:List u.el}{i:TypeInfo}{z:Value}(U:aa.op=.build t parts)(li:ty cx.P t=some (.arr n u))(W:cx.P.info? t=some i)(Y:i.zero=some z)
  (Z:cx.P.underlying t=some (.array n e))(la:ty cx.P e=some u)(lc:pw st u 0 parts.toList=some xs)(o:xs.length=n)(ld:z.cells.size=n*u.cells){orc:List aj}:
  eR cx T w aa ⟨.val (.arr n u) xs,st,orc,[]⟩:=by
 obtain⟨cells,O,lf⟩:=DT h parts.toList 0 xs [] z.cells.toList lc (by simp) (by simp[ld,o])
 rw[List.nil_append,List.nil_append,Array.toArray_toList]at O
 refine⟨.agg cells.toArray,w,m,ct (s:=Instr.build t (parts.map fun p=>(p.1,Act.eval ⟨T,[]⟩ p.2))) (by simp only[execOp,U]) ?_,h,(eA (t:=.arr n u) rfl).2 ⟨cells,rfl,o,lf⟩⟩
 have lg:(zeroValue t).run cx.P w=.ok z w:=by simp[zeroValue,typeInfo,W,Y]
 have lh:Instr.fill (fun i=>some (i*u.cells,u.cells)) z.cells (parts.map fun p=>(p.1,Act.eval ⟨T,[]⟩ p.2)).toList=some cells.toArray:=by rw[Array.toList_map];exact O
 simp only[Instr.build,Sem.run_bind,lg,Result.andThen_ok,run_underlying Z,ff la,lh,Sem.run_pure]
theorem Mm{z:Array Value}{o:Nat}(O:z.size=o)(n:Nat):(madeCells z ((n+1)*o)).toList=z.toList++(madeCells z (n*o)).toList:=by
 apply List.ext_getElem?
 intro j
 by_cases W:j<z.toList.length
 ·rw[List.getElem?_append_left W]
  have Y:j<o:=by rw[<-O];simpa using W
  have U:j<(n+1)*o:=by rw[Nat.succ_mul];omega
  have Z:j<z.size:=by rw[O];exact Y
  simp only[madeCells,Array.toList_map,Array.toList_range,List.getElem?_map,List.getElem?_range U,Option.map_some,O,Nat.mod_eq_of_lt Y]
  rw[getElem!_pos z j Z]
  simp[Z]
 ·rw[List.getElem?_append_right (by omega)]
  have la:z.toList.length=o:=by simpa using O
  rw[la]at W⊢
  by_cases U:j<(n+1)*o
  ·have lc:j-o<n*o:=by rw[Nat.succ_mul]at U;omega
   simp only[madeCells,Array.toList_map,Array.toList_range,List.getElem?_map,List.getElem?_range U,List.getElem?_range lc,Option.map_some,O]
   congr 2
   rw[<-Nat.add_mod_right (j-o) o]
   congr 1
   omega
  ·rw[List.getElem?_eq_none (by simp[madeCells];omega),List.getElem?_eq_none (by simp[madeCells];rw[Nat.succ_mul]at U;omega)]
theorem LS{M:Nat->Prop}{u:ag}{z:Array Value}{x:u.el}(o:aF w M u z.toList x)(W:0<u.cells):∀(n:Nat),bD (aF w M u) (madeCells z (n*u.cells)).toList (List.replicate n x):=by
 have O:z.size=u.cells:=by rw[<-ch u o];simp
 intro n
 induction n with
 |zero=>show _=_;simp[madeCells]
 |succ n U=>
  have e:=Mm O n
  rw[e,List.replicate_succ]
  exact⟨_,_,rfl,o,U⟩
theorem yc{P:Program}{e:TypeId}(h:nC P e=true):∃i,P.info? e=some i/\i.bytes<=65536:=by
 unfold nC at h
 split at h
 ·rename_i i o;exact⟨i,o,Nat.le_of_ble_eq_true h⟩
 ·cases h
theorem Ws(h:am cx m st T w){aa:Oper}{d:Nat}(af:d<cx.n){t e:TypeId}{u:ag}{l c:Operand}{n k:Int}(la:aa.op=.makeSlice t l c)(lc:ed cx.P t=some (e,u))(ld:eG (aP st l)=some n)
  (lf:eG (aP st c)=some k)(lg:nC cx.P e=true)(lh:zeroOf cx.P e=some u)(li:0<=n/\n<=k/\k<=(lim:Int)){orc:List aj}{ob:List Prop}:
  eR cx T w aa ⟨.row d,st.dv d ⟨e,u,List.replicate n.toNat (cj u)⟩,orc,ob⟩:=by
 obtain⟨lj,ly,lk⟩:=jz lc
 obtain⟨i,z,_,O,U,ll,lm⟩:=ka lh
 obtain⟨i2,W,lz⟩:=yc lg
 rw[O]at W
 cases W
 obtain⟨Y,ln⟩:=fN h ld
 obtain⟨Z,lo⟩:=fN h lf
 obtain⟨lp,h1,lA⟩:=li
 have lB:(lim:Int)=2147483648:=rfl
 have lq:0<=k:=by omega
 have lr:(i.bytes:Int)*k<=281474976710656:=by
  have lt:(i.bytes:Int)<=65536:=by omega
  calc (i.bytes:Int)*k<=65536*k:=Int.mul_le_mul_of_nonneg_right lt lq
   _<=281474976710656:=by omega
 have lu:=run_make (P:=cx.P) w t e i z lj O ll Y Z n k lp h1 lr (by omega)
 have lv:=LS (lm w (ap cx m st.ids)) lk n.toNat
 have o:(List.replicate n.toNat (cj u)).length=n.toNat:=List.length_replicate
 have lw:(madeCells z.cells (k.toNat*i.size)).toList.take ((List.replicate n.toNat (cj u)).length*u.cells)=(madeCells z.cells (n.toNat*u.cells)).toList:=by
  rw[o,U]
  simp only[madeCells,Array.toList_map,Array.toList_range,<-List.map_take]
  rw[List.take_range]
  congr 2
  have:n.toNat*u.cells<=k.toNat*u.cells:=Nat.mul_le_mul_right _ (by omega)
  omega
 have lx:=zC h d (.inl af) (cur:=madeCells z.cells (k.toNat*i.size)) (e:=e) (cap:=k.toNat) (xs:=List.replicate n.toNat (cj u)) (w.alloc (.cells (madeCells z.cells (k.toNat*i.size)) e)) (iN _ _) (heap_alloc_new w _)
  (by rw[o];omega) (by simp only[maxLen];omega) (by rw[size_madeCells,U]) lw lv
 refine⟨_,_,_,ct (s:=Instr.makeSlice t (.int Y n) (.int Z k)) (by simp only[execOp,la,ln,lo]) lu,lx,?_⟩
 show _=bo _ _ _ _
 rw[b9,o]
theorem BU(h:am cx m st T w):∀{l:List Operand} {O:List Nat},mY.qF st l=some O->l.map (Act.eval ⟨T,[]⟩)=O.map m
 |[],_,o=>by cases o;rfl
 |x::r,O,o=>by
  simp only[mY.qF]at o
  split at o
  ·rename_i b Z U W
   cases o
   obtain⟨g,h1,Y⟩:=aW h U
   rw[List.map_cons,List.map_cons,BU h W,Y,h1]
  ·cases o
theorem Ts(h:am cx m st T w){aa:Oper}{f:Nat}{first gF:Array Operand}{o:List Nat}(O:aa.op=.makeFunc (.func f) first gF)(U:first.toList=[])(W:mY.qF st gF.toList=some o){orc:List aj}:
  eR cx T w aa ⟨.clos f o,st,orc,[]⟩:=by
 refine⟨.func (.func f) #[] (o.map m).toArray,w,m,ct (s:=Instr.makeFunc (.func f) (first.map (Act.eval ⟨T,[]⟩)) (gF.map (Act.eval ⟨T,[]⟩))) (by simp only[execOp,O]) ?_,h,rfl⟩
 have Y:first=#[]:=by rw[<-Array.toArray_toList (xs:=first),U]
 have Z:gF.map (Act.eval ⟨T,[]⟩)=(o.map m).toArray:=by
  rw[<-BU h W]
  apply Array.ext'
  simp
 rw[Y,Z,Array.map_empty]
 rfl
theorem PL(h:am cx m st T w){aa:Oper}{f b:Nat}{first gF:Array Operand}{x:Operand}(o:aa.op=.makeFunc (.func f) first gF)(O:first.toList=[x])(U:mY.qF st gF.toList=some [])(W:aP st x=some (.ptr b 0)){orc:List aj}:
  eR cx T w aa ⟨.bX f b,st,orc,[]⟩:=by
 refine⟨.func (.func f) #[m b] #[],w,m,ct (s:=Instr.makeFunc (.func f) (first.map (Act.eval ⟨T,[]⟩)) (gF.map (Act.eval ⟨T,[]⟩))) (by simp only[execOp,o]) ?_,h,rfl⟩
 have Y:first=#[x]:=by rw[<-Array.toArray_toList (xs:=first),O]
 have Z:gF.map (Act.eval ⟨T,[]⟩)=#[]:=by
  have:=BU h U
  apply Array.ext'
  rw[Array.toList_map,this]
  rfl
 obtain⟨g,g1,g2⟩:=aW h W
 have la:#[x].map (Act.eval ⟨T,[]⟩)=#[m b]:=by
  rw[g1,<-g2]
  simp
 rw[Y,Z,la]
 rfl
theorem HA{M:Nat->Prop}{t:ag}:∀{xs:List t.el} {cs:List Value} (n:Nat),bD (aF w M t) cs xs->bD (aF w M t) (cs.take ((xs.take n).length*t.cells)) (xs.take n)
 |[],cs,n,h=>by cases h;simp;rfl
 |x::xs,cs,0,h=>by simp;rfl
 |x::xs,cs,n+1,⟨c1,c2,e,h1,O⟩=>by
  have o:=ch t h1
  rw[List.take_succ_cons,List.length_cons,Nat.succ_mul,Nat.add_comm,e,<-o,List.take_append,List.take_of_length_le (by omega)]
  rw[show c1.length+(List.take n xs).length*c1.length-c1.length=(List.take n xs).length*t.cells by rw[<-o];omega]
  exact⟨c1,_,rfl,h1,HA n O⟩
theorem P2(h:am cx m st T w){aa:Oper}{t e:TypeId}{u:ag}{x Y:Operand}{r:Nat}{c:cw}{n:Int}(Z:aa.op=.slice t x none (some Y) none)(ln:aP st x=some (.row r))(lo:ed cx.P t=some (e,u))
  (lp:eG (aP st Y)=some n)(lq:look st.rw r=some c)(lH:c.e=e)(lI:c.t=u)(la:r<eM)(lr:0<=n/\n<=(c.xs.length:Int)){orc:List aj}{ob:List Prop}:
  eR cx T w aa ⟨.row r,st.dv r ⟨c.e,c.t,c.xs.take n.toNat⟩,orc,ob⟩:=by
 obtain⟨lc,ld,lJ⟩:=jz lo
 obtain⟨k,hk⟩:=fN h lp
 have lf:Act.eval ⟨T,[]⟩ x=m r:=aW h ln
 have lg:=aX lq
 obtain⟨cells,lh,lt,lu⟩:=h.rows r c lg
 have lv:r∈st.ids:=List.mem_append.2 (.inr (List.mem_map.2 ⟨_,lg,rfl⟩))
 have li:(c.xs.take n.toNat).length=n.toNat:=by rw[List.length_take];omega
 have lw:∀v O,Instr.sliceAt t v none (some O) none=(do match<-underlying t with
  |.array n lx=>
   let lj<-Instr.sureAddr v
   let(l,h,m)<-Instr.sliceBounds false n n none (some O) none
   let size<-sizeOf lx
   pure (.slice (some (if m=l then lj else lj.add (l*size))) (h-l) (m-l))
  |_=>Instr.slice t v none (some O) none):=fun _ _=>rfl
 have ly:∀(y:Nat) (lk:BoundsCode) (w:World),n<=y->(Instr.sliceBound (.int k n) y lk).run cx.P w=.ok n.toNat w:=by
  intro y lk w lz
  simp[Instr.sliceBound,asIntOf,lr.1,lz]
 have run:∀(a:Option Addr) (len cap:Nat) (w':World),len<=cap->(len:Int)=c.xs.length->(Instr.sliceAt t (.slice a len cap) none (some (.int k n)) none).run cx.P w'=.ok (.slice (if cap=0 then a else a.map (·.add (0*u.cells))) n.toNat cap) w':=by
  intro a len cap w' ll lK
  rw[lw,Sem.run_bind,run_underlying lc]
  simp only[Result.andThen_ok,Instr.slice,Sem.run_bind,run_underlying lc,Instr.sliceBounds,Sem.run_pure,ff ld]
  rw[ly cap _ w' (by omega)]
  simp only[Result.andThen_ok,Sem.run_pure,Sem.run_bind,ff ld]
  simp
 rcases lh.2 with ⟨o,lL⟩|⟨g,cap,cur,o,lA,lB,ll,lC,lD,lE⟩
 ·have lm:n=0:=by omega
  have lF:c.xs.take n.toNat=[]:=by rw[lm];rfl
  refine⟨.slice none 0 0,w,bo m r (.slice none 0 0),ct (s:=Instr.sliceAt t (.slice none 0 0) none (some (.int k n)) none) (by simp only[execOp,Z,lf,o,Option.map_none,Option.map_some,hk]) ?_,?_,(b9 _ _ _).symm⟩
  ·rw[run none 0 0 w (Nat.le_refl _) (by omega),lm]
   rfl
  ·rw[lF]
   exact xn h r c.e (.inr la) c.t
 ·have U:dm cx m st w r (.slice (some ⟨g,0,none⟩) n.toNat cap) w:=
   ⟨⟨rfl,rfl,rfl,Nat.le_refl _,fun _=>Nat.le_refl _⟩,fun _ _ _=>rfl,fun lG W=>.inl ⟨lv,by cases W;rw[o];rfl⟩⟩
  refine⟨.slice (some ⟨g,0,none⟩) n.toNat cap,w,_,ct (s:=Instr.sliceAt t (.slice (some ⟨g,0,none⟩) c.xs.length cap) none (some (.int k n)) none) (by simp only[execOp,Z,lf,o,Option.map_none,Option.map_some,hk]) ?_,
   h.dv (.inr la) U (fun lG W=>by cases W;exact lt g (by rw[o];rfl)) (cells:=cells.take ((c.xs.take n.toNat).length*c.t.cells)) ⟨by rw[List.length_take,lh.1,Nat.min_eq_left];exact Nat.mul_le_mul_right _ (by rw[List.length_take];omega),.inr ⟨g,cap,cur,by simp only[li],lA,lB,by simp only[li];omega,lC,lD,?_⟩⟩
    (dx (fun _ _=>cB U.keeps (U.mut yW) c.t) (HA n.toNat lu)),(b9 _ _ _).symm⟩
  ·rw[run (some ⟨g,0,none⟩) c.xs.length cap w ll rfl]
   congr 2
   split
   ·rfl
   ·simp[Addr.add]
  ·simp only[]
   rw[<-lE,List.take_take,Nat.min_eq_left]
   exact Nat.mul_le_mul_right _ (by rw[List.length_take];omega)
end Go.Ev
namespace Go.Ev
open Go Go.RowKit
variable [b6]
variable {cx:bB} {m:Nat->Value} {st:ae} {T:Array Value} {w w':World}
theorem Wm{M:Nat->Prop}(s:List UInt8):bD (aF w M (.int .u8)) ((dF s).map (Value.int .u8)) (dF s):=by
 unfold dF
 induction s with
 |nil=>rfl
 |cons b s o=>exact⟨[_],_,rfl,rfl,o⟩
theorem CB{P:Program}{a:Addr}{news:List Value}(h:∀j u,news[j]? =some u->w.cell? (a.add j)=some u){n size:Nat}(O:news.length=n*size):
  ∀w',(∀b,b<w.heap.size->w'.heap[b]? =w.heap[b]?)->(loadCells a (n*size)).run P w'=.ok news.toArray w':=by
 intro w' U
 rw[<-O]
 refine Cl (w:=w') fun j u W=>?_
 have o:=h j u W
 rw[World.cell?_of_block (w:=w) (U _ (World.block_lt_of_cell? w _ o))]
 exact o
theorem K8{P:Program}(s:List UInt8):Builtin.lenOf (.string (bytesOf s))=pure (dF s).length/\
  ∀w,(Builtin.firstCells (ag.int .u8).cells (dF s).length (.string (bytesOf s))).run P w=.ok ((dF s).map (Value.int .u8)).toArray w:=by
 constructor
 ·show pure (bytesOf s).size=_
  rw[jm]
  simp[dF]
 ·intro w
  show Sem.run P (pure (((bytesOf s).extract 0 (dF s).length).data.map fun b=>Value.int .u8 b.toNat)) w=_
  rw[Sem.run_pure]
  congr 1
  apply Array.ext'
  rw[Array.toList_map,Lib.extract_data]
  simp[bytesOf,dF]
theorem KT(h:am cx m st T w){u:ag}{t:TypeId}{x:Operand}{Z:List u.el}(o:mN cx.P st u t x=some Z):
  ((∃O,cx.P.underlying t=some (.slice O))\/cx.P.underlying t=some .string)/\
  ∃lj:List Value,Builtin.lenOf (Act.eval ⟨T,[]⟩ x)=pure Z.length/\
   (∀w',(∀b,b<w.heap.size->w'.heap[b]? =w.heap[b]?)->(Builtin.firstCells u.cells Z.length (Act.eval ⟨T,[]⟩ x)).run cx.P w'=.ok lj.toArray w')/\bD (aF w (ap cx m st.ids) u) lj Z:=by
 unfold mN at o
 split at o
 ·rename_i r ld
  split at o
  case h_2=>cases o
  rename_i O U
  refine⟨.inl ⟨O,U⟩,?_⟩
  split at o
  ·rename_i c W
   have lk:=aX W
   obtain⟨ce,nD,ll⟩:=c
   have e:=aj.dC o
   cases e
   obtain⟨cells,lf,_,la⟩:=h.rows r _ lk
   have Y:Act.eval ⟨T,[]⟩ x=m r:=aW h ld
   rcases lf.2 with ⟨lc,lm⟩|⟨g,cap,cur,lc,_⟩
   ·have lg:ll=[]:=List.eq_nil_of_length_eq_zero lm
    subst lg
    cases la
    exact⟨[],by rw[Y,lc];rfl,fun w' _=>by rw[Y,lc];rfl,rfl⟩
   ·refine⟨cells,by rw[Y,lc];rfl,fun w' lh=>?_,la⟩
    rw[Y,lc]
    exact CB (lf.cells (g:=g) (by rw[lc];rfl)) lf.1 w' lh
  ·cases o
 ·rename_i lw xs ld
  have ln:∃O,cx.P.underlying t=some (.slice O):=by
   cases af:cx.P.underlying t with
   |none=>rw[af]at o;exact absurd o (by simp)
   |some li=>
    rw[af]at o
    cases li<;>first|exact⟨_,rfl⟩|exact absurd o (by simp)
  obtain⟨O,U⟩:=ln
  rw[U]at o
  refine⟨.inl ⟨O,U⟩,?_⟩
  have e:=aj.dC o
  cases e
  obtain⟨a,cap,cells,W,lo,_,lp,la,lq⟩:=(bZ (t:=.ab u) rfl).1 (aW h ld)
  simp only[List.cons.injEq,and_true]at W
  have lr:=jq (fun _ _=>ch u) _ _ la
  cases a with
  |none=>
   have lx:cap=0:=lp rfl
   have lg:Z=[]:=List.eq_nil_of_length_eq_zero (by have:List.length Z<=cap:=lo;omega)
   subst lg
   cases la
   exact⟨[],by rw[W];rfl,fun w' _=>by rw[W];rfl,rfl⟩
  |some b=>
   refine⟨cells,by rw[W];rfl,fun w' lh=>?_,la⟩
   rw[W]
   refine CB (fun j v lt=>?_) lr w' lh
   obtain⟨ly,lu,lv,_⟩:=lq j v lt
   cases lu
   exact lv
 ·rename_i s ld
  have U:cx.P.underlying t=some .string:=by
   cases af:cx.P.underlying t with
   |none=>rw[af]at o;exact absurd o (by simp)
   |some li=>
    rw[af]at o
    cases li<;>first|rfl|exact absurd o (by simp)
  rw[U]at o
  refine⟨.inr U,?_⟩
  have e:=aj.dC o
  cases e
  obtain⟨Y,_⟩:=eS.1 (aW h ld)
  exact⟨(dF s).map (Value.int .u8),by rw[Y];exact(K8 (P:=cx.P) s).1,fun w' _=>by rw[Y];exact(K8 (P:=cx.P) s).2 w',Wm s⟩
 ·cases o
theorem RD(h:am cx m st T w){aa:Oper}{d:Nat}{args:Array Operand}{lc:Array TypeId}{s x:Operand}{t ld e r:Nat}{u:ag}{c:cw}{o:List c.t.el}
  (lu:aa.op=.call {callee:=.builtin .append,args:=args,argTypes:=lc})(lv:args.toList=[s,x])(lw:lc.toList=[t,ld])(lx:ed cx.P t=some (e,u))(O:up cx.P st d t s=some (r,c))
  (lm:c.e=e)(ly:c.t=u)(lz:nC cx.P e=true)(lA:zeroOf cx.P e=some u)(lB:mN cx.P st c.t ld x=some o)(lC:r<eM)(ln:c.xs.length+o.length<=lim){orc:List aj}{ob:List Prop}:
  eR cx T w aa ⟨.row r,st.dv r ⟨c.e,c.t,c.xs++o⟩,orc,ob⟩:=by
 obtain⟨lD,l8,l9⟩:=jz lx
 obtain⟨i,z,_,lo,lp,lE,lF⟩:=ka lA
 obtain⟨i2,lq,lG⟩:=yc lz
 rw[lo]at lq
 cases lq
 obtain⟨lH,Z,lI,lJ,li⟩:=KT h lB
 -- the base
 obtain⟨v,U,cells,lK,lL,lM,hblk⟩:∃v,Act.eval ⟨T,[]⟩ s=v/\∃cells,w.ownsRow 0 c.e c.t.cells v c.xs.length cells/\(∀g,own v g->cx.bC.heap.size<=g\/cx.X g)/\
   bD (aF w (ap cx m st.ids) c.t) cells c.xs/\∀g,own v g->r∈st.ids/\own (m r) g:=by
  unfold up at O
  split at O
  ·rename_i ab
   split at O
   ·rename_i ad ae af
    cases O
    refine⟨.slice none 0 0,rfl,[],World.ownsRow_nil w 0 _ _,?_,rfl,?_⟩
    ·intro g W;cases W
    ·intro g W;cases W
   ·cases O
  ·split at O
   ·rename_i ah lN
    split at O
    ·rename_i c' lO
     cases O
     have lr:=aX lO
     obtain⟨cells,h1,Y,lP⟩:=h.rows r c lr
     exact⟨m r,aW h lN,cells,h1,Y,lP,fun g W=>⟨List.mem_append.2 (.inr (List.mem_map.2 ⟨_,lr,rfl⟩)),W⟩⟩
    ·cases O
   ·cases O
 have lf:i.size=c.t.cells:=by rw[ly];exact lp
 have lQ:z.cells.size=i.size:=by
  rw[lp,<-ch u (lF w (ap cx m st.ids))]
  simp
 have lR:Z.length=o.length*i.size:=by rw[lf];exact jq (fun _ _=>ch c.t) _ _ li
 have lS:∀v∈Z,v.oneCell'=true:=by
  have key:∀(lg:List Value) (xs:List c.t.el),bD (aF w (ap cx m st.ids) c.t) lg xs->∀v∈lg,v.oneCell'=true:=by
   intro lg xs
   induction xs generalizing lg with
   |nil=>intro lT v U;cases lT;simp at U
   |cons y o lj=>
    rintro⟨c1,c2,rfl,h1,Y⟩ v U
    rcases List.mem_append.1 U with U|U
    ·exact jK c.t h1 v U
    ·exact lj _ Y v U
  exact key Z o li
 have lU:c.xs.length+o.length<=maxLen:=Nat.le_trans ln tF
 have lV:(c.xs.length+o.length)*i.bytes<=140737488355328:=by
  have h1:c.xs.length+o.length<=2147483648:=ln
  calc (c.xs.length+o.length)*i.bytes<=2147483648*65536:=Nat.mul_le_mul h1 lG
   _=140737488355328:=by decide
 obtain⟨v',w',lW,lk,lX,lY,lt⟩:=MA (P:=cx.P) (w:=w) t ld aa.type e i z lD lH lo lE lQ (Act.eval ⟨T,[]⟩ x) o.length Z lI
  (by rw[lf];exact lJ) lR lS v c.xs.length cells (by rw[lf,<-lm];exact lK) lU lV
 have la:dm cx m st w r v' w':=⟨lX,fun b lZ l0=>lY b lZ fun l3=>l0 (hblk b (hq l3)),fun g W=>by
  rcases lt g (Di lk W)with h1|h1
  ·exact .inl (hblk g (hq h1))
  ·exact .inr h1⟩
 have l4:am cx (bo m r v') (st.dv r ⟨c.e,c.t,c.xs++o⟩) T w':=by
  refine h.dv (.inr lC) la (fun g W=>?_) (cells:=cells++Z) ?_ ?_
  ·rcases lt g (Di lk W)with h1|h1
   ·exact lL g (hq h1)
   ·exact .inl (Nat.le_trans (r2 h) h1.1)
  ·simp only[List.length_append]
   rw[<-lf,lm]
   exact lk
  ·simp only[]
   have l5:∀(c1 c2:List Value) (lh ll:List c.t.el) (f:List Value->c.t.el->Prop),bD f c1 lh->bD f c2 ll->bD f (c1++c2) (lh++ll):=by
    intro c1 c2 lh ll f
    induction lh generalizing c1 with
    |nil=>intro h1 Y;cases h1;exact Y
    |cons y o lj=>rintro⟨d1,d2,rfl,g1,g2⟩ Y;exact⟨d1,d2++c2,by simp,g1,lj _ g2 Y⟩
   exact l5 _ _ _ _ _ (dx (fun _ _=>cB la.keeps (la.mut yW) c.t) lM) (dx (fun _ _=>cB la.keeps (la.mut yW) c.t) li)
 have l6:args=#[s,x]:=by rw[<-Array.toArray_toList (xs:=args),lv]
 have l7:lc=#[t,ld]:=by rw[<-Array.toArray_toList (xs:=lc),lw]
 subst l6
 subst l7
 refine⟨v',w',_,?_,l4,(b9 _ _ _).symm⟩
 simp only[execOp,lu,resolve,invoke,builtin,Sem.run_bind,Sem.run_pure,Result.andThen_ok,List.map_toArray,List.map_cons,List.map_nil,U,lW]
theorem Vr(h:am cx m st T w){aa:Oper}{d:Nat}(W:d<cx.n){src o e:TypeId}{x:Operand}{s:List UInt8}(Y:aa.op=.convert src o x)(Z:dA st x=some ⟨.str,s⟩)(la:cx.P.underlying src=some .string)(af:ed cx.P o=some (e,.int .i32))
  {orc:List aj}{ob:List Prop}(lc:s.length<=lim):eR cx T w aa ⟨.row d,st.dv d ⟨e,.int .i32,gi s⟩,orc,ob⟩:=by
 obtain⟨ld,_⟩:=eS.1 (df h Z)
 obtain⟨lf,lg,_⟩:=jz af
 have lh:cx.P.underlying e=some (.int .i32):=by
  obtain⟨i,_,_,li⟩:=dn lg
  exact li
 have U:Conv.runesFrom (bytesOf s) (bytesOf s).size 0 #[]=((gi s).map (Value.int .i32)).toArray:=by
  rw[HH,jm]
  simp[gi]
 have lj:(gi s).length<=s.length:=JA s s.length 0
 have lp:lim<=70368744177664:=by decide
 have lk:(gi s).length<=maxLen:=Nat.le_trans lj (Nat.le_trans lc tF)
 have O:=run_runes_of_string (P:=cx.P) w src o e (bytesOf s) la lf lh (by rw[U];simp only[List.size_toArray,List.length_map];omega)
 rw[U]at O
 simp only[List.size_toArray,List.length_map]at O
 have ll:=grownCap_ge w (gi s).length 0 e
 have lm:=grownCap_le_maxLen w (gi s).length 0 e lk
 refine⟨_,_,_,ct (s:=convert src o (.string (bytesOf s))) (by simp only[execOp,Y,ld];rfl) O,
  zC h d (.inl W) (xs:=gi s) (cells:=(gi s).map (Value.int .i32)) (u:=.int .i32) (e:=e) _ {os:=rfl,tape:=rfl,output:=rfl,size:=by simp,drawn:=by first|exact fun _=>Nat.le_refl _|exact fun _=>Nat.le_succ _,block:=fun b ln=>Below.heap_alloc w.drew _ b ln} (heap_alloc_new w.drew _) ll lm ?_ ?_ ?_,(b9 _ _ _).symm⟩
 ·simp only[Array.size_append,List.size_toArray,List.length_map,Array.size_replicate,ag.cells]
  omega
 ·simp only[Array.toList_append,ag.cells,Nat.mul_one]
  rw[List.take_append_of_le_length (by rw[List.length_map];exact Nat.le_refl _)]
  rw[List.take_of_length_le (by rw[List.length_map];exact Nat.le_refl _)]
 ·have:∀(l:List Int),bD (aF w (ap cx m st.ids) (.int .i32)) (l.map (Value.int .i32)) l:=by
   intro l
   induction l with
   |nil=>rfl
   |cons b s lo=>exact⟨[_],_,rfl,rfl,lo⟩
  exact this _
theorem UO(h:am cx m st T w){aa:Oper}{src o e:TypeId}{x:Operand}{s:List UInt8}(Y:aa.op=.convert src o x)(Z:dA st x=some ⟨.str,s⟩)(la:cx.P.underlying src=some .string)(af:ed cx.P o=some (e,.int .u8))
  {orc:List aj}{ob:List Prop}:eR cx T w aa ⟨.val (.ab (.int .u8)) (dF s),st,orc,ob⟩:=by
 obtain⟨lc,ld⟩:=eS.1 (df h Z)
 obtain⟨lf,lg,_⟩:=jz af
 have lh:cx.P.underlying e=some (.int .u8):=by
  obtain⟨i,_,_,li⟩:=dn lg
  exact li
 have U:=run_bytes_of_string (P:=cx.P) w src o e (bytesOf s) la lf lh
 have lj:(bytesOf s).size=s.length:=jm s
 rw[lj]at U
 have lk:=grownCap_ge w s.length 0 e
 have ll:=grownCap_le_maxLen w s.length 0 e ld
 have W:(dF s).length=s.length:=by simp[dF]
 refine⟨_,_,m,ct (s:=convert src o (.string (bytesOf s))) (by simp only[execOp,Y,lc];rfl) U,h.ext {os:=rfl,tape:=rfl,output:=rfl,size:=by simp,drawn:=by first|exact fun _=>Nat.le_refl _|exact fun _=>Nat.le_succ _,block:=fun b lm=>Below.heap_alloc w.drew _ b lm},
  (bZ (t:=.ab (.int .u8)) rfl).2 ⟨some ⟨w.heap.size,0,none⟩,grownCap w s.length 0 e,(dF s).map (Value.int .u8),congrArg (fun n=>[Value.slice _ n _]) W.symm,Nat.le_trans (Nat.le_of_eq W) lk,ll,(fun h=>by cases h),?_,?_⟩⟩
 ·have:∀(w:World) (M:Nat->Prop) (l:List Int),bD (aF w M (.int .u8)) (l.map (Value.int .u8)) l:=by
   intro w M l
   induction l with
   |nil=>rfl
   |cons b s ln=>exact⟨[_],_,rfl,rfl,ln⟩
  exact this _ _ _
 ·intro j u O
  refine⟨_,rfl,?_,fun lo=>Nat.lt_irrefl _ (h.Ej lo)⟩
  have lp:j<s.length:=by have:=(List.getElem?_eq_some_iff.1 O).1;simpa[dF]using this
  have lq:(⟨w.heap.size,0,none⟩:Addr).add j=⟨w.heap.size,0+j,none⟩:=by unfold Addr.add;split<;>simp_all
  have lr:=vo (heap_alloc_new w.drew (.cells (bytesRow (bytesOf s) (grownCap w s.length 0 e)) e ((bytesRow (bytesOf s) (grownCap w s.length 0 e)).size,(bytesRow (bytesOf s) (grownCap w s.length 0 e)).size+1))) (0+j)
  rw[lq]
  refine Eq.trans lr ?_
  rw[Nat.zero_add]
  unfold bytesRow
  rw[Array.getElem?_append_left (by simp[bytesOf];exact lp)]
  rw[<-Array.getElem?_toList,Array.toList_map]
  simp only[dF,List.map_map,List.getElem?_map]at O
  simp only[bytesOf,List.getElem?_map]
  exact O
theorem Bp{M:Nat->Prop}{t:ag}:∀{xs:List t.el} {cs:List Value} (n:Nat),bD (aF w M t) cs xs->n<=xs.length->bD (aF w M t) (cs.drop (n*t.cells)) (xs.drop n)
 |xs,cs,0,h,_=>by rw[Nat.zero_mul];exact h
 |[],_,n+1,_,o=>by simp at o
 |x::xs,cs,n+1,⟨c1,c2,e,h1,O⟩,o=>by
  have U:=ch t h1
  have W:cs.drop ((n+1)*t.cells)=c2.drop (n*t.cells):=by
   rw[e,Nat.succ_mul,Nat.add_comm,<-List.drop_drop,<-U,List.drop_left]
  rw[W]
  exact Bp n O (by simpa using o)
theorem U1(h:am cx m st T w){aa:Oper}{t:TypeId}{u:ag}{len:Nat}{x la:Operand}{r lm ln:Nat}{i0 n:Int}{c:cw}{lc:List c.t.el}(ly:aa.op=.slice t x (some la) none none)(lz:aP st x=some (.dV r i0 lm ln))(lA:eG (aP st la)=some n)
  (U:uY cx.P t=some (len,u))(lo:look st.rw r=some c)(O:(c.t.beq u&&(i0==0&&(Nat.beq lm 0&&Nat.beq ln c.t.cells)))=true)(lB:dK c.xs n (c.xs.length:Int)=some lc)(lp:c.xs.length=len){orc:List aj}{ob:List Prop}:
  eR cx T w aa ⟨.val (.ab c.t) lc,st.freeze r c,orc,ob⟩:=by
 simp only[Bool.and_eq_true,beq_iff_eq]at O
 obtain⟨ld,lf,Y,lS⟩:=O
 have Y:=Nat.eq_of_beq_eq_true Y
 obtain rfl:=ag.eq_of_beq ld
 obtain⟨k,hk⟩:=fN h lA
 obtain⟨lC,h1,_,lg⟩:=w9 lB
 rw[Int.toNat_natCast,List.take_length]at lg
 unfold uY at U
 split at U
 case h_2=>cases U
 rename_i lT e lD
 split at U
 case h_2=>cases U
 rename_i lU lE
 cases U
 obtain⟨g,lV,lW,lF,lh⟩:=aW h lz
 have lh:Act.eval ⟨T,[]⟩ x=.pointer (some ⟨g,0,none⟩):=by rw[lh,lf,Y];simp
 have lG:=h.freeze (aX lo)
 have li:=aX lo
 have lq:r∈st.ids:=List.mem_append.2 (.inr (List.mem_map.2 ⟨_,li,rfl⟩))
 have lH:aF w (ap cx m (st.freeze r c).ids) (.ab c.t) [m r] c.xs:=by
  have lI:∀c',(r,c')∉st.ad:=fun c' O=>(List.nodup_append.1 h.keys).2.2 r (List.mem_map.2 ⟨_,O,rfl⟩) r (List.mem_map.2 ⟨_,li,rfl⟩) rfl
  have lr:∀i,i∈(st.freeze r c).ids->i∈st.ids/\i≠r:=by
   intro i o
   rcases List.mem_append.1 o with o|o
   ·obtain⟨⟨b,s⟩,lj,rfl⟩:=List.mem_map.1 o
    obtain⟨⟨lX,lJ⟩,lt,Z⟩:=List.mem_map.1 lj
    cases Z
    exact⟨List.mem_append.2 (.inl (List.mem_map.2 ⟨_,lt,rfl⟩)),fun e=>lI lJ (by simp only at e;rw[<-e];exact lt)⟩
   ·obtain⟨⟨b,s⟩,lj,rfl⟩:=List.mem_map.1 o
    obtain⟨h1,W⟩:=cP.1 lj
    exact⟨List.mem_append.2 (.inr (List.mem_map.2 ⟨_,h1,rfl⟩)),W⟩
  refine h.yM li (fun b _ O=>mz (fun i o=>(lr i o).1) O) fun lu lv=>?_
  rintro(lK|⟨i,o,lL⟩)
  ·have h1:=h.outer lu lK
   rcases(h.lt lq lv).2 with W|W
   ·omega
   ·exact h1.2 W
  ·obtain⟨h1,W⟩:=lr i o
   exact h.apart i r h1 lq W lu lL lv
 obtain⟨a,cap,cells,lk,lY,lZ,l0,lw,lM⟩:=lH
 rw[lF]at lk
 simp only[List.cons.injEq,and_true,Value.slice.injEq]at lk
 obtain⟨lN,l3,l4⟩:=lk
 subst lN
 have lO:n.toNat<=c.xs.length:=by omega
 have lP:=jq (fun _ _=>ch c.t) _ _ lw
 have lx:lc.length=c.xs.length-n.toNat:=by rw[lg,List.length_drop]
 refine⟨.slice (some (if c.xs.length=n.toNat then⟨g,0,none⟩else(⟨g,0,none⟩:Addr).add (n.toNat*c.t.cells))) (c.xs.length-n.toNat) (c.xs.length-n.toNat),w,m,
  ct (s:=Instr.sliceAt t (Act.eval ⟨T,[]⟩ x) (some (Act.eval ⟨T,[]⟩ la)) none none) (by simp only[execOp,ly];rfl) ?_,lG,?_⟩
 ·simp only[lh,hk,Instr.sliceAt,Sem.run_bind,run_underlying lD,Result.andThen_ok,Instr.sureAddr,Sem.run_pure]
  have O:(Instr.sliceBounds false len len (some (.int k n)) none none).run cx.P w=.ok (n.toNat,len,len) w:=by
   have lQ:n<=(len:Int):=by rw[<-lp];exact h1
   simp[Instr.sliceBounds,Instr.sliceBound,asIntOf,lC,lQ]
  rw[O]
  simp only[Result.andThen_ok,Sem.run_bind,ff lE,Sem.run_pure,lp]
 ·refine(bZ (t:=.ab c.t) rfl).2 ⟨_,c.xs.length-n.toNat,cells.drop (n.toNat*c.t.cells),by rw[lx],by rw[lx];exact Nat.le_refl _,by omega,(fun e=>by cases e),?_,?_⟩
  ·rw[lg];exact Bp _ lw lO
  ·intro j u ll
   rw[List.getElem?_drop]at ll
   obtain⟨b,ld,lf,Y⟩:=lM _ _ ll
   cases ld
   have lR:=(List.getElem?_eq_some_iff.1 ll).1
   by_cases Z:c.xs.length=n.toNat
   ·rw[lP,Z]at lR
    omega
   ·refine⟨_,rfl,?_,?_⟩
    ·rw[if_neg Z,add_add]
     exact lf
    ·rw[if_neg Z,kg]
     exact Y
theorem GZ(h:am cx m st T w){aa:Oper}{d:Nat}(af:d<cx.n){orc:List aj}{r:BC}(o:mY cx.P st aa d orc=some r)(la:bJ r.ob):eR cx T w aa r:=by
 unfold mY at o
 split at o
 ·rename_i O
  split at o
  ·cases o;exact KP h af (.inl O)
  ·cases o
 ·rename_i O
  split at o
  ·cases o;exact KP h af (.inr O)
  ·cases o
 ·rename_i t O
  split at o
  ·rename_i n u Y;cases o;exact Ui h af O Y
  ·split at o
   ·rename_i e u Y
    cases az:Nat.blt (d+1000000) eM with
    |false=>rw[az]at o;cases o
    |true=>rw[az]at o;cases o;exact Pw h af (cG az) O Y
   ·split at o
    ·rename_i e Y
     cases az:Nat.blt (d+1000000) eM with
     |false=>rw[az]at o;cases o
     |true=>rw[az]at o;cases o;exact Ud h af (cG az) O Y
    ·split at o
     ·rename_i u Y
      cases lf:yZ u<;>rw[lf]at o<;>cases o
      ·exact Tn h af O Y
      ·exact OT h af O Y
     ·cases o
 ·rename_i t x O
  split at o
  ·rename_i u s W U
   split at o
   ·rename_i l lh lq;cases o;exact V9 h af O U lh lq
   ·cases o
  ·cases o
 ·rename_i t n parts O
  split at o
  ·rename_i e u lg
   split at o
   ·rename_i xs U
    split at o
    ·rename_i li h1 lj lk
     cases o
     exact N2 h af O lg U (Nat.eq_of_beq_eq_true h1) (Nat.le_of_ble_eq_true lj) lk
    ·cases o
   ·cases o
  ·cases o
 ·rename_i t parts O
  split at o
  ·rename_i n u lG e i ld W lo
   split at o
   ·rename_i xs li z U lr Y
    split at o
    ·rename_i lf
     cases o
     simp only[Bool.and_eq_true]at lf
     obtain⟨⟨lt,lu⟩,lv⟩:=lf
     obtain rfl:=ag.eq_of_beq lu
     obtain⟨_,_,_,lH,d2,lp,_⟩:=dn ld
     have lw:cx.P.underlying t=some (.array n e):=by rw[W]at lp;cases lp;exact W
     exact RC h O ld lo Y lw lr U (Nat.eq_of_beq_eq_true lt) (Nat.eq_of_beq_eq_true lv)
    ·cases o
   ·cases o
  ·cases o
 ·rename_i t l c O
  split at o
  ·rename_i e u n k lg lh lc
   split at o
   ·rename_i li Z Y
    cases W:u.beq li with
    |false=>rw[W]at o;cases o
    |true=>
     rw[W]at o
     cases o
     obtain rfl:=ag.eq_of_beq W
     exact Ws h af O lg lh lc Z Y la.1
   ·cases o
  ·cases o
 ·rename_i t x O
  split at o
  ·rename_i s U ld;cases o;exact QE h af O U ld
  ·rename_i k v y lx ly U ld;cases o;exact Q6 h af O U ld
  ·cases o
 ·rename_i t r O
  split at o
  ·rename_i lx ly ld
   split at o
   ·rename_i k v hk lI
    split at o
    ·rename_i lf
     cases o
     simp only[Bool.and_eq_true]at lf
     exact Sm h af O ld lf.2
    ·cases o
   ·cases o
  ·cases o
 ·rename_i x O
  split at o
  ·rename_i b U
   split at o
   ·rename_i k v left last Z
    cases o
    exact Ik h O U Z la.1
   ·cases o
  ·cases o
 ·rename_i x O
  split at o
  ·rename_i b U
   split at o
   ·rename_i k v left p Z
    cases o
    exact Su h O U Z
   ·cases o
  ·cases o
 ·rename_i x O
  split at o
  ·rename_i b lJ orc' U
   split at o
   ·rename_i s p Z
    split at o
    ·cases o;exact(KY h O U Z).1 la.1
    ·cases o;exact(KY h O U Z).2 la.1
   ·cases o
  ·cases o
 ·rename_i src lK x O
  split at o
  ·rename_i s e U ll lz;cases o;exact Vr h af O U ll lz la.1
  ·rename_i s e U ll af;cases o;exact UO h O U ll af
  ·cases o
 ·rename_i f first gF O
  split at o
  ·rename_i lL lm lc;cases o;exact Ts h O lm lc
  ·rename_i x lm lc
   split at o
   ·rename_i b U;cases o;exact PL h O lm lc U
   ·cases o
  ·cases o
 ·rename_i t x lo O
  split at o
  ·rename_i r e u n U lg lA
   split at o
   ·rename_i c lc
    split at o
    ·rename_i h1 lj lk
     cases o
     exact P2 h O U lg lA lc (Nat.eq_of_beq_eq_true h1) (ag.eq_of_beq lj) (cG lk) la.1
    ·cases o
   ·cases o
  ·cases o
 ·rename_i t x lM O
  split at o
  ·rename_i r i0 lN lO n len u v orc' U lh ln
   split at o
   ·rename_i c lc
    split at o
    ·rename_i lB Z lP
     cases o
     exact U1 h O U lh ln lc Z la.1 la.2.1
    ·cases o
   ·cases o
  ·cases o
 ·rename_i c O
  split at o
  ·rename_i args lQ
   split at o
   ·rename_i s x t lR ln lC
    split at o
    ·rename_i e u r c lg lD
     split at o
     ·rename_i li lB h1 lj lk lE lF
      cases W:u.beq li&&Nat.blt r eM with
      |false=>rw[W]at o;cases o
      |true=>
       rw[W]at o
       cases o
       rw[Bool.and_eq_true]at W
       obtain rfl:=ag.eq_of_beq W.1
       exact RD h O ln lC lg lD (Nat.eq_of_beq_eq_true h1) (ag.eq_of_beq lj) lk lE lF (cG W.2) la.1
     ·cases o
    ·cases o
   ·cases o
  ·cases o
 ·cases o
end Go.Ev
