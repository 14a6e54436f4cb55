/- Plain laws: what a law makes of a word from the left on. -/
import Derived.Test.YtgkgdfmldioddaaGreatDoorMM9
import Derived.Test.YtgkgdfmldioddaaGreatDoorMM4
import Derived.Test.YtgkgdfmldioddaaGreatDoorMM8
import Derived.OpenShut
import Derived.WideShapes
import Derived.Test.YtgkgdfmldioddaaGreatDoorTyA
set_option linter.unusedSectionVars false
set_option linter.unusedVariables false
set_option linter.unusedSimpArgs false
namespace Go.Ev
open Go
set_option linter.unusedVariables false
theorem J8(k:Nat)(x y:ca):bY (oH k x y):=by
 unfold oH
 obtain⟨v,e,_⟩:=JT k _ (xA (BitVec.toNat (BitVec.ofInt 32 (dN (BitVec.toNat (BitVec.ofInt 32 x.2.1^^^BitVec.ofInt 32 y.2.1)))|||BitVec.ofInt 32 (dN (BitVec.toNat (BitVec.ofInt 32 x.2.2.1^^^BitVec.ofInt 32 y.2.2.1)))):Int)).1 (xA _).2
 rw[e]
 exact⟨v,rfl⟩
theorem OX{o:List ca}(c:ca×Unit)(U:o.length<=128):∀n (i:Nat) (m1 m2 m3:Int),i<=o.length->o.length-i<n->Has (si 80000 o c n (i:Int) m1 m2 m3) fun _=>True:=by
 intro n
 induction n with
 |zero=>intro i _ _ _ _ h;omega
 |succ n O=>
  intro i m1 m2 m3 h1 W
  unfold si Iv
  refine bU (fun Y=>?_) fun _=>aC trivial
  refine bH (by omega) fun Z _=>?_
  unfold DC vP
  rw[bu (by omega)]
  refine bk (Q:=fun _=>True) (bk (gW (J8 ..)) fun _ _=>bk (gW (J8 ..)) fun _ _=>aC trivial) fun v _=>?_
  exact bU (fun _=>O (i+1) _ _ _ (by omega) (by omega)) fun _=>O (i+1) _ _ _ (by omega) (by omega)
theorem Ot(a:aU)(O:cL a=true)(r p m:Int):Has (vM 80000 a r p m) fun _=>True:=by
 have o:=sv O
 unfold vM
 refine bk (gW (rN ..)) fun v1 _=>?_
 refine aH (fun _=>aC trivial) fun _=>?_
 refine bk (gW (wy ..)) fun v2 _=>?_
 refine aH (fun _=>aC trivial) fun _=>?_
 refine bk (Q:=fun _=>True) ?_ fun _ _=>aC trivial
 unfold Fl
 refine bU (fun h=>by omega) fun _=>?_
 exact bH (i:=0) (by omega) fun x _=>OX _ o.2.2 80000 1 _ _ _ o.2.1 (by omega)
theorem RS{c3:List fq}{found:List Int}{c8:List (List UInt8)}{c9:List ca}(W:cL (c8,c9,())=true)(ld:c3.length<=8)(Y:∀s∈c3,s.1=0->0<=s.2.1/\s.2.1<(found.length:Int)):
  ∀n (i:Nat) (o:List Int),i<=c3.length->c3.length-i<n->o.length<=i->Has (sM 80000 c3 found c8 c9 n (i:Int) o) fun aa=>aa.length<=8:=by
 have lf:=gh
 intro n
 induction n with
 |zero=>intro i _ _ h;omega
 |succ n O=>
  intro i o h1 lg lh
  unfold sM G3
  refine bU (fun li=>?_) fun _=>aC (by omega)
  refine bH (by omega) fun Z la=>?_
  unfold yl
  rw[bu (by omega)]
  refine aH (fun _=>?_) fun lc=>?_
  ·refine bT (by simp only[List.length_cons,List.length_nil];omega) ?_
   exact O (i+1) _ (by omega) (by omega) (by simp only[List.length_append,List.length_cons,List.length_nil];omega)
  ·have U:=Y Z (la▸List.getElem_mem _) (by simpa using lc)
   refine V7 U.1 U.2 fun lj _=>?_
   unfold Bw
   refine bk (Q:=fun _=>True) (bk (Ot _ W ..) fun _ _=>aC trivial) fun v _=>?_
   refine bT (by simp only[List.length_cons,List.length_nil];omega) ?_
   exact O (i+1) _ (by omega) (by omega) (by simp only[List.length_append,List.length_cons,List.length_nil];omega)
theorem IP{c3:List fq}{found:List Int}{c8:List (List UInt8)}{c9:List ca}(o:cL (c8,c9,())=true)(O:c3.length<=8)(U:∀s∈c3,s.1=0->0<=s.2.1/\s.2.1<(found.length:Int))
  (c1:List UInt8)(c2:List ca)(c4 c5:List Node)(c6:Int)(c7:Bool)(m1:ft):Has (pH 80000 found c1 c2 c3 c4 c5 c6 c7 m1 c8 c9) fun aa=>aa.length<=8:=by
 unfold pH
 exact RS o O U 80000 0 [] (Nat.zero_le _) (by omega) (Nat.zero_le _)
theorem wv(x:Int):(Utf8.encode x).data.toList.length<=4:=by
 rw[Array.length_toList]
 exact encode_size_le x
theorem sY(xs:List Int):(cM xs).length<=4*xs.length:=by
 have:=foldl_size_le xs ByteArray.empty
 unfold cM runesBytes
 rw[Array.length_toList]
 rw[show ByteArray.empty.size=0 from rfl,Nat.zero_add]at this
 exact this
theorem Ij(s:List UInt8):(gi s).length<=s.length:=by
 have:∀n i,(iI s n i).length<=n:=by
  intro n
  induction n with
  |zero=>intro i;exact Nat.le_refl _
  |succ n o=>
   intro i
   unfold iI
   split
   ·have:=o (i+(Utf8.decode (bytesOf s) i).2)
    simp only[List.length_cons]
    omega
   ·exact Nat.zero_le _
 exact this _ _
theorem PN{s:List UInt8}(U:s.length<=70000):∀n p (c:Nat),p<=s.length->s.length-p<n->c<=p->Has (uE s n (c:Int) p) fun v=>∃m:Nat,v=(m:Int)/\m<=70000:=by
 intro n
 induction n with
 |zero=>intro p c _ h;omega
 |succ n o=>
  intro p c h1 W Y
  unfold uE HV
  refine bU (fun O=>?_) fun _=>aC ⟨c,rfl,by omega⟩
  have:=oa s p O
  rw[bu (by omega),mg]
  exact o _ (c+1) (by omega) (by omega) (by omega)
theorem xN{s:List UInt8}(o:s.length<=70000):Has (ph 80000 s) fun v=>∃m:Nat,v=(m:Int)/\m<=70000:=by
 unfold ph
 exact PN o 80000 0 0 (Nat.zero_le _) (by omega) (Nat.le_refl _)
abbrev ir:Type:=List eO
def Fr(n i:Nat)(S:ir):Prop:=S.length=n+2/\∃j w,i<=j/\j<=n+1/\w.length<=40*j/\S[j]? =some (some (some [(w,true)]))/\∀o,i<=o->o<=n+1->o≠j->S[o]? =some (some (some []))
theorem pC{S:ir}{i:Nat}{y:Option bP}(h:S[i]? =some (some y)):gw S (i:Int)=some y:=by
 unfold gw
 rw[Int.toNat_natCast,h]
theorem EN{S:ir}{i:Nat}{y:List bv}(h:S[i]? =some (some (some y))):iE S (i:Int)=some y:=by
 unfold iE
 rw[Int.toNat_natCast,h]
theorem nO{S:ir}{i j:Nat}{x}(h:i≠j):(S.set i x)[j]? =S[j]? :=by rw[List.getElem?_set,if_neg h]
theorem Fr.take{n i:Nat}{S:ir}(h:Fr n i S)(ld:i<=n+1):∃l,S[i]? =some (some (some l))/\((l=[]/\Fr n (i+1) (S.set i none))\/
  ∃w:List UInt8,l=[(w,true)]/\w.length<=40*i/\∀o,i<o->o<=n+1->gw (S.set i none) (o:Int)=some (some [])/\iE (S.set i none) (o:Int)=some []/\(S.set i none).length=n+2/\
   ∀O:List UInt8,O.length<=40*o->Fr n (i+1) ((S.set i none).set o (some (some [(O,true)])))):=by
 obtain⟨W,j,w,h1,lf,Z,la,U⟩:=h
 by_cases e:j=i
 ·subst e
  refine⟨[(w,true)],la,.inr ⟨w,rfl,Z,fun o lg lc=>?_⟩⟩
  have q:(S.set j none)[o]? =some (some (some [])):=by rw[nO (by omega)];exact U o (by omega) lc (by omega)
  refine⟨pC q,EN q,by rw[List.length_set];exact W,fun O lh=>⟨by rw[List.length_set,List.length_set];exact W,o,O,lg,lc,lh,?_,?_⟩⟩
  ·rw[List.getElem?_set_self (by rw[List.length_set];omega)]
  ·intro Y a b c
   rw[nO (Ne.symm c),nO (by omega)]
   exact U Y (by omega) b (by omega)
 ·refine⟨[],U i (Nat.le_refl _) ld (Ne.symm e),.inl ⟨rfl,by rw[List.length_set];exact W,j,w,by omega,lf,Z,by rw[nO (Ne.symm e)];exact la,?_⟩⟩
  intro Y a b c
  rw[nO (by omega)]
  exact U Y (by omega) b c
theorem Fr.first{n:Nat}{S:ir}(o:S.length=n+2)(h:∀j,j<n+2->S[j]? =some (some (some []))):Fr n 0 (S.set 0 (some (some [(([]:List UInt8),true)]))):=by
 refine⟨by rw[List.length_set];exact o,0,[],Nat.le_refl _,by omega,Nat.zero_le _,by rw[List.getElem?_set_self (by omega)],fun O a b c=>?_⟩
 rw[nO (Ne.symm c)]
 exact h O (by omega)
abbrev qj:Type:=Int×List UInt8×List ca×List fq×List Node×List Node×Int×Bool×ft×List (List UInt8)×List ca×List (List UInt8)
def dM(v:qj):Prop:=(v.1=0->v.2.2.2.2.2.2.2.2.2.2.2.length=1)/\v.2.2.2.2.2.2.2.2.2.2.2.length<=1/\∀w∈v.2.2.2.2.2.2.2.2.2.2.2,w.length<=10400
theorem dM.err{e:Int}(o:e≠0){a b c d f g h i j k}:dM (e,a,b,c,d,f,g,h,i,j,k,[]):=⟨fun q=>absurd q o,Nat.zero_le _,fun w O=>by cases O⟩
end Go.Ev
namespace Go.Ev
open Go
set_option linter.unusedVariables false
theorem qx{α β:Type}{a:Option β}{f:α->Option β}:nt [] a f=a:=rfl
theorem xc{α β:Type}{p:α}{a:Option β}{f:α->Option β}:nt [p] a f=f p:=rfl
theorem D2{α:Type}{s:List α}{a b:Nat}(h:a<=b)(o:b<=s.length):∃r,dK s (a:Int) (b:Int)=some r/\r.length=b-a:=by
 refine⟨_,if_pos ⟨by omega,by omega,by omega⟩,?_⟩
 rw[Int.toNat_natCast,Int.toNat_natCast,List.length_drop,List.length_take]
 omega
theorem xJ{a b:Nat}(h:a+b<1000000):ai ((a:Int)+(b:Int))=((a+b:Nat):Int):=by rw[dl (by omega)];omega
def Left(N i:Nat)(S:ir)(l:List bv):Prop:=
 (l=[]/\Fr N (i+1) S)\/∃w:List UInt8,l=[(w,true)]/\w.length<=40*i/\∀o,i<o->o<=N+1->gw S (o:Int)=some (some [])/\iE S (o:Int)=some []/\S.length=N+2/\
  ∀O:List UInt8,O.length<=40*o->Fr N (i+1) (S.set o (some (some [(O,true)])))
section all
variable {l1:List Int} {N:Nat} {c1:List UInt8} {c2:List ca} {c3:List fq} {c4 c5:List Node} {c6:Int} {c7:Bool} {m1:ft} {c8:List (List UInt8)} {c9:List ca} {iU:List Bool}
abbrev zK:Type:=List UInt8×List ca×List fq×List Node×List Node×Int×Bool×ft×List (List UInt8)×List ca×List Bool
abbrev P9:Type:=Int->ir->List UInt8->List ca->List fq->List Node->List Node->Int->Bool->ft->List (List UInt8)->List ca->List Bool->Option qj
theorem TD(lg:l1.length=N)(lh:N<=256)(Y:dT c4)(Z:dT c5)(la:c2.length<=8):∀n (i:Nat) (t:List Bool),N+1-i<n->i<=1000->t.length=N+1->(∀j:Nat,t[j]? =some true->j+c2.length<=N)->
  Has (rs 80000 l1 n (i:Int) c1 c2 c3 c4 c5 c6 c7 m1 c8 c9 t) fun v=>∃t,v=(c1,c2,c3,c4,c5,c6,c7,m1,c8,c9,t)/\t.length=N+1/\∀j:Nat,t[j]? =some true->j+c2.length<=N:=by
 intro n
 induction n with
 |zero=>intro i t h;omega
 |succ n U=>
  intro i t h1 li o O
  unfold rs LY
  refine bU (fun lj=>?_) fun _=>aC ⟨t,rfl,o,O⟩
  refine bk (CW (by omega) Y Z la (by omega)) ?_
  rintro v ⟨b,rfl,lc⟩
  refine aH (fun ld=>?_) fun _=>?_
  ·refine bH (by omega) fun _ _=>?_
   have lk:=lc ld
   obtain⟨m,lf,ll⟩:∃m:Nat,ai ((i:Int)+(mu 0 (ai ((c2.length:Int)-1))))=(m:Int)/\i<=m/\m<=i+8:=by
    refine⟨i+(c2.length-1),?_,by omega,by omega⟩
    rw[dl (x:=(c2.length:Int)-1) (by omega)]
    unfold mu
    split
    ·rw[dl (by omega)];omega
    ·rw[dl (by omega)];omega
   unfold vB
   show Has (rs 80000 l1 n (ai ((ai ((i:Int)+(mu 0 (ai ((c2.length:Int)-1)))))+1)) c1 c2 c3 c4 c5 c6 c7 m1 c8 c9 (t.set ((i:Int)).toNat true)) _
   rw[lf,bu (by omega),Int.toNat_natCast]
   refine U (m+1) _ (by omega) (by omega) (by rw[List.length_set];exact o) fun j W=>?_
   by_cases e:i=j
   ·subst e;omega
   ·rw[List.getElem?_set,if_neg e]at W
    exact O j W
  ·unfold vB
   rw[bu (by omega)]
   exact U (i+1) t (by omega) (by omega) o O
theorem VG(lG:l1.length=N)(lH:N<=256){v1:zK}(lI:v1.2.1.length<=8)(ln:cL (c8,c9,())=true)(U:c3.length<=8)(lo:∀s∈c3,s.1=0->0<=s.2.1/\s.2.1<(v1.2.1.length:Int))
  (lJ:iU.length=N+1)(lp:∀j:Nat,iU[j]? =some true->j+v1.2.1.length<=N){go2:P9}{i:Nat}(lK:i<=N)
  (lh:∀be,Fr N (i+1) be->Has (go2 (ai ((i:Int)+1)) be c1 c2 c3 c4 c5 c6 c7 m1 c8 c9 iU) dM):
  ∀n S l li,Left N i S l->Has (gQ 80000 go2 (i:Int) c1 c2 c3 c4 c5 c6 c7 m1 c8 c9 iU l1 v1 false (n+2) S l li) dM:=by
 have lL:=gh
 intro n S l li lq
 have fin:∀be p,Fr N (i+1) be->Has (gQ 80000 go2 (i:Int) c1 c2 c3 c4 c5 c6 c7 m1 c8 c9 iU l1 v1 false (n+1) be [] p) dM:=fun be p h=>by
  unfold gQ tE
  rw[qx]
  exact lh be h
 unfold gQ tE
 rcases lq with ⟨rfl,la⟩|⟨w,rfl,lM,la⟩
 ·rw[qx]
  exact lh S la
 rw[xc]
 refine bk (xN (s:=w) (by omega)) ?_
 rintro v2 ⟨m,rfl,lc⟩
 refine bU (fun _=>aC (dM.err (by decide))) fun _=>?_
 refine bk (Q:=fun b=>iU[i]? =some b) ?_ fun v3 lr=>?_
 ·unfold Cc
  exact bH (by omega) fun x lt=>aC (by rw[List.getElem?_eq_getElem (by omega),lt])
 have put:∀(o:List UInt8) (O:Nat),i<O->O<=N+1->o.length<=40*O->∀(F:ir->Option qj),(∀be,Fr N (i+1) be->Has (F be) dM)->
   Has (Option.bind (aG (0<=(O:Int)/\(O:Int)<(S.length:Int))) fun _=>Option.bind (gw S (O:Int)) fun lN=>Option.bind (iE S (O:Int)) fun lu=>F (List.set S ((O:Int)).toNat (some (some (cb (aD .str) lu o true))))) dM:=by
  intro o O h1 ld U F lv
  obtain⟨lw,lx,lO,ly⟩:=la O h1 ld
  refine bT ⟨by omega,by omega⟩ ?_
  rw[lw,Option.bind_some,lx,Option.bind_some,Int.toNat_natCast]
  exact lv _ (ly o U)
 have one:ai ((i:Int)+1)=((i+1:Nat):Int):=bu (by omega)
 have lj:∀(o:List UInt8) (O:Nat),v3=true->i<O->O<=N+1->o.length<=40*O->Has (qo S (i:Int) l1 (w,true) (gQ 80000 go2 (i:Int) c1 c2 c3 c4 c5 c6 c7 m1 c8 c9 iU l1 v1 false (n+1)) v3 false o (O:Int)) dM:=by
  intro o O lf h1 ld U
  subst lf
  unfold qo
  refine put o O h1 ld U (fun be=>qa (i:Int) l1 (w,true) _ true false be) fun be lg=>?_
  unfold qa tO
  exact aH (fun q=>nomatch q) fun _=>fin be _ lg
 have Y:∀v4:List Int,v4.length<=8->(w++cM v4).length<=40*i+32:=fun v4 h=>by
  have:=sY v4
  rw[List.length_append]
  omega
 refine aH (fun W=>?_) fun W=>?_
 ·have lP:=lp i (by rw[lr,W])
  rw[xJ (by omega)]
  obtain⟨lQ,es,lz⟩:=D2 (s:=l1) (a:=i) (b:=i+v1.2.1.length) (by omega) (by omega)
  rw[es,Option.bind_some]
  refine bk (IP ln U (by rw[lz];intro s lA lf;have:=lo s lA lf;omega) ..) fun v4 Z=>?_
  have:=Y v4 Z
  have lR:=sY v4
  refine bT (by omega) ?_
  rw[List.length_append]at this
  refine bT (by show w.length+_<=_;omega) ?_
  refine aH (fun hk=>?_) fun hk=>?_
  ·have lB:v1.2.1.length=0:=by simpa using hk
   have lk:∀o:List UInt8,o.length<=40*(i+1)->Has (ra S (i:Int) l1 (w,true) (gQ 80000 go2 (i:Int) c1 c2 c3 c4 c5 c6 c7 m1 c8 c9 iU l1 v1 false (n+1)) v3 false v1 o) dM:=by
    intro o lc
    unfold ra
    rw[xJ (by omega),bu (by omega)]
    exact lj o _ W (by omega) (by omega) (by omega)
   refine bU (fun lC=>?_) fun _=>?_
   ·refine bH (by omega) fun lD _=>?_
    have lE:=wv lD
    have ll:(w++cM v4).length<=40*i+32:=Y v4 Z
    refine bT (by show(w++cM v4).length+_<=_;omega) ?_
    exact lk _ (by rw[List.length_append];show(w++cM v4).length+_<=_;omega)
   ·exact lk _ (by have ll:(w++cM v4).length<=40*i+32:=Y v4 Z;show(w++cM v4).length<=_;omega)
  ·have lB:v1.2.1.length≠0:=by
    intro q
    rw[q]at hk
    simp at hk
   exact lj _ _ W (by omega) (by omega) (by have ll:(w++cM v4).length<=40*i+32:=Y v4 Z;show(w++cM v4).length<=_;omega)
 ·subst W
  unfold qa tO
  refine aH (fun _=>?_) fun q=>nomatch q
  have lm:∀o:List UInt8,o.length<=40*(i+1)->Has (qS (i:Int) S (gQ 80000 go2 (i:Int) c1 c2 c3 c4 c5 c6 c7 m1 c8 c9 iU l1 v1 false (n+1)) (w,true) o) dM:=by
   intro o lc
   unfold qS
   rw[one]
   exact put o (i+1) (by omega) (by omega) lc (fun be=>gQ 80000 go2 (i:Int) c1 c2 c3 c4 c5 c6 c7 m1 c8 c9 iU l1 v1 false (n+1) be [] [(w,true)]) fun be lg=>fin be _ lg
  refine bU (fun lC=>?_) fun _=>lm w (by omega)
  refine bH (by omega) fun lF _=>?_
  have lE:=wv lF
  refine bT (by show w.length+_<=_;omega) ?_
  exact lm _ (by rw[List.length_append];show w.length+_<=_;omega)
theorem To:∀n (w:List UInt8) o,w.length<=10400->Has (oR 80000 c1 c2 c3 c4 c5 c6 c7 m1 c8 c9 (n+2) [(w,true)] o []) dM:=by
 intro n w o U
 unfold oR vn
 rw[xc]
 refine bk (xN (s:=w) (by omega)) ?_
 rintro v2 ⟨m,rfl,W⟩
 refine bU (fun _=>aC (dM.err (by decide))) fun _=>?_
 refine bT (by have:=gh;simp only[List.length_cons,List.length_nil];omega) ?_
 unfold oR vn
 rw[qx]
 refine aC ⟨fun _=>rfl,Nat.le_refl _,fun x O=>?_⟩
 simp at O
 rw[O]
 exact U
theorem TN(O:l1.length=N)(Y:N<=256){v1:zK}(Z:v1.2.1.length<=8)(la:cL (c8,c9,())=true)(lc:c3.length<=8)(ld:∀s∈c3,s.1=0->0<=s.2.1/\s.2.1<(v1.2.1.length:Int))
  (lf:iU.length=N+1)(lg:∀j:Nat,iU[j]? =some true->j+v1.2.1.length<=N):
  ∀n (i:Nat) (S:ir),i<=N+1->N+1-i<n->Fr N i S->Has (iB 80000 l1 v1 false n (i:Int) S c1 c2 c3 c4 c5 c6 c7 m1 c8 c9 iU) dM:=by
 intro n
 induction n with
 |zero=>intro i S _ h;omega
 |succ n lh=>
  intro i S h1 lk U
  have ll:=U.1
  obtain⟨l,W,o⟩:=U.take h1
  have lm:l.length<=1:=by
   rcases o with ⟨rfl,_⟩|⟨w,rfl,_⟩<;>simp
  unfold iB xt
  rw[bu (by omega)]
  refine bU (fun ln=>?_) fun lo=>?_
  ·refine bT ⟨by omega,by omega⟩ ?_
   rw[pC W,Option.bind_some]
   refine bU (fun q=>absurd q (by show¬(1024:Int)<(l.length:Int);omega)) fun _=>?_
   refine bT ⟨by omega,by omega⟩ ?_
   rw[Int.toNat_natCast]
   refine VG O Y Z la lc ld lf lg (by omega) (fun be li=>?_) 79998 (S.set i none) l [] o
   rw[bu (by omega)]
   exact lh (i+1) be (by omega) (by omega) li
  ·obtain rfl:i=N+1:=by omega
   rw[O]
   refine bT ⟨by omega,by omega⟩ ?_
   rw[pC W,Option.bind_some]
   refine bU (fun q=>absurd q (by show¬(1024:Int)<(l.length:Int);omega)) fun _=>?_
   rcases o with ⟨rfl,lj⟩|⟨w,rfl,lp,_⟩
   ·obtain⟨_,j,_,a,b,_⟩:=lj
    omega
   ·exact To 79998 w [] (by omega)
theorem NA(W:l1.length=N)(Y:N<=256){v1:zK}(Z:v1.2.1.length<=8)(la:cL (v1.2.2.2.2.2.2.2.2.1,v1.2.2.2.2.2.2.2.2.2.1,())=true)(lc:v1.2.2.1.length<=8)(ld:∀s∈v1.2.2.1,s.1=0->0<=s.2.1/\s.2.1<(v1.2.1.length:Int))
  (lf:v1.2.2.2.2.2.2.2.2.2.2.length=N+1)(lg:∀j:Nat,v1.2.2.2.2.2.2.2.2.2.2[j]? =some true->j+v1.2.1.length<=N):
  ∀n (i:Nat) (S:ir),i<=N+2->N+2-i<n->S.length=N+2->(∀j,j<i->S[j]? =some (some (some [])))->Has (qY 80000 l1 v1 false n (i:Int) S) dM:=by
 intro n
 induction n with
 |zero=>intro i S _ h;omega
 |succ n lh=>
  intro i S h1 lk O o
  unfold qY yU
  have li:(List.map some (List.replicate (ai ((l1.length:Int)+2)).toNat (none:Option bP))).length=N+2:=by
   rw[List.length_map,List.length_replicate,dl (by omega)]
   omega
  rw[li]
  refine bU (fun ll=>?_) fun lm=>?_
  ·refine bT ⟨by omega,by omega⟩ ?_
   refine bT ⟨by omega,by omega⟩ ?_
   rw[bu (by omega),Int.toNat_natCast]
   refine lh (i+1) _ (by omega) (by omega) (by rw[List.length_set];exact O) fun j lj=>?_
   by_cases e:i=j
   ·subst e
    rw[List.getElem?_set_self (by omega)]
   ·rw[nO e]
    exact o j (by omega)
  ·refine bT ⟨by omega,by omega⟩ ?_
   have U:=o 0 (by omega)
   rw[show(0:Int)=((0:Nat):Int)from rfl,pC U,Option.bind_some,EN U,Option.bind_some,Int.toNat_natCast]
   exact TN W Y Z la lc ld lf lg 80000 0 _ (by omega) (by omega) (Fr.first O fun j lj=>o j (by omega))
theorem NS(O:l1.length<=256)(W:dT c4)(Y:dT c5)(U:c2.length<=8)(Z:cL (c8,c9,())=true)(la:c3.length<=8)(lc:∀s∈c3,s.1=0->0<=s.2.1/\s.2.1<(c2.length:Int)):
  Has (o7 80000 l1 false c1 c2 c3 c4 c5 c6 c7 m1 c8 c9) dM:=by
 have lh:=pI
 unfold o7 vE
 rw[bu (by omega)]
 refine bk (Q:=fun v=>∃t,v=(c1,c2,c3,c4,c5,c6,c7,m1,c8,c9,t)/\t.length=l1.length+1/\∀j:Nat,t[j]? =some true->j+c2.length<=l1.length) ?_ ?_
 ·refine bT ⟨by omega,by omega,by omega⟩ ?_
  refine TD rfl O W Y U 80000 0 _ (by omega) (by omega) (by simp) fun j o=>?_
  rw[Int.toNat_natCast,List.getElem?_replicate]at o
  split at o
  ·cases o
  ·cases o
 ·rintro v ⟨t,rfl,ld,lf⟩
  have lg:ai ((l1.length:Int)+2)=((l1.length+2:Nat):Int):=by rw[dl (by omega)];omega
  rw[lg]
  refine bT (by omega) ?_
  refine bT ⟨by omega,by omega,by omega⟩ ?_
  exact NA (v1:=(c1,c2,c3,c4,c5,c6,c7,m1,c8,c9,t)) rfl O U Z la lc ld lf 80000 0 _ (Nat.zero_le _) (by omega) (by rw[List.length_map,List.length_replicate,Int.toNat_natCast]) (fun j o=>by omega)
end all
end Go.Ev
namespace Go.Ev
open Go
set_option linter.unusedVariables false
section right
variable {l1:List Int} {N:Nat} {c1:List UInt8} {c2:List ca} {c3:List fq} {c4 c5:List Node} {c6:Int} {c7:Bool} {m1:ft} {c8:List (List UInt8)} {c9:List ca}
abbrev R5:Type:=Int->ir->List Int->List UInt8->List ca->List fq->List Node->List Node->Int->Bool->ft->List (List UInt8)->List ca->Option qj
theorem Vu{made:List UInt8}(Z:made.length<=20000)(la:l1.length<=256)(o:dT c4)(O:dT c5)(U:c2.length<=8){i:Nat}(W:i<=l1.length):
  Has (qC 80000 made (i:Int) c1 c2 c3 c4 c5 c6 c7 m1 c8 c9 l1) fun v=>∃b,v=(b,c1,c2,c3,c4,c5,c6,c7,m1,c8,c9)/\(b=true->i+c2.length<=l1.length):=by
 have lc:=gh
 have ld:=Ij made
 unfold qC
 refine bT (by omega) ?_
 rw[na W,Option.bind_some]
 have af:(l1.drop i).length=l1.length-i:=List.length_drop
 refine bT (by omega) ?_
 refine bk (CW (by rw[List.length_append];omega) o O U (by omega)) ?_
 rintro v ⟨b,rfl,Y⟩
 refine aC ⟨b,rfl,fun q=>?_⟩
 have:=Y q
 rw[List.length_append]at this
 omega
theorem P8(lI:l1.length=N)(lJ:N<=256)(ln:dT c4)(lo:dT c5)(lp:c2.length<=8)(lq:cL (c8,c9,())=true)(U:c3.length<=8)(lr:∀s∈c3,s.1=0->0<=s.2.1/\s.2.1<(c2.length:Int))
  {go2:R5}{i:Nat}(lK:i<=N)
  (lh:∀be,Fr N (i+1) be->Has (go2 (ai ((i:Int)+1)) be l1 c1 c2 c3 c4 c5 c6 c7 m1 c8 c9) dM):
  ∀n S l li,Left N i S l->Has (gM 80000 go2 (i:Int) l1 l1 c2 false (n+2) S l li c1 c2 c3 c4 c5 c6 c7 m1 c8 c9) dM:=by
 have lL:=gh
 intro n S l li lt
 have fin:∀be p,Fr N (i+1) be->Has (gM 80000 go2 (i:Int) l1 l1 c2 false (n+1) be [] p c1 c2 c3 c4 c5 c6 c7 m1 c8 c9) dM:=fun be p h=>by
  unfold gM vD
  rw[qx]
  exact lh be h
 unfold gM vD
 rcases lt with ⟨rfl,la⟩|⟨w,rfl,lM,la⟩
 ·rw[qx]
  exact lh S la
 rw[xc]
 refine bk (xN (s:=w) (by omega)) ?_
 rintro v2 ⟨m,rfl,lc⟩
 refine bU (fun _=>aC (dM.err (by decide))) fun _=>?_
 refine bk (Vu (made:=w) (by omega) (by omega) ln lo lp (by omega)) ?_
 rintro v ⟨b,rfl,lu⟩
 have put:∀(o:List UInt8) (O:Nat),i<O->O<=N+1->o.length<=40*O->∀(F:ir->Option qj),(∀be,Fr N (i+1) be->Has (F be) dM)->
   Has (Option.bind (aG (0<=(O:Int)/\(O:Int)<(S.length:Int))) fun _=>Option.bind (gw S (O:Int)) fun lN=>Option.bind (iE S (O:Int)) fun lv=>F (List.set S ((O:Int)).toNat (some (some (cb (aD .str) lv o true))))) dM:=by
  intro o O h1 ld U F lw
  obtain⟨lx,ly,lO,lz⟩:=la O h1 ld
  refine bT ⟨by omega,by omega⟩ ?_
  rw[lx,Option.bind_some,ly,Option.bind_some,Int.toNat_natCast]
  exact lw _ (lz o U)
 have one:ai ((i:Int)+1)=((i+1:Nat):Int):=bu (by omega)
 have lj:∀(o:List UInt8) (O:Nat),b=true->i<O->O<=N+1->o.length<=40*O->Has (ru S (i:Int) l1 (w,true) (gM 80000 go2 (i:Int) l1 l1 c2 false (n+1)) (b,c1,c2,c3,c4,c5,c6,c7,m1,c8,c9) false o (O:Int)) dM:=by
  intro o O lf h1 ld U
  subst lf
  unfold ru
  refine put o O h1 ld U (fun be=>pQ (i:Int) l1 (w,true) _ (true,c1,c2,c3,c4,c5,c6,c7,m1,c8,c9) false be) fun be lg=>?_
  unfold pQ uX
  exact aH (fun q=>nomatch q) fun _=>fin be _ lg
 have Y:∀v4:List Int,v4.length<=8->(w++cM v4).length<=40*i+32:=fun v4 h=>by
  have:=sY v4
  rw[List.length_append]
  omega
 refine aH (fun W=>?_) fun W=>?_
 ·have lP:=lu W
  rw[xJ (by omega)]
  obtain⟨lQ,es,lA⟩:=D2 (s:=l1) (a:=i) (b:=i+c2.length) (by omega) (by omega)
  rw[es,Option.bind_some]
  refine bk (IP lq U (by rw[lA];intro s lB lf;have:=lr s lB lf;omega) ..) fun v4 Z=>?_
  have:=Y v4 Z
  have lR:=sY v4
  refine bT (by omega) ?_
  rw[List.length_append]at this
  refine bT (by show w.length+_<=_;omega) ?_
  refine aH (fun hk=>?_) fun hk=>?_
  ·have lC:c2.length=0:=by simpa using hk
   have lk:∀o:List UInt8,o.length<=40*(i+1)->Has (qX S (i:Int) l1 (w,true) (gM 80000 go2 (i:Int) l1 l1 c2 false (n+1)) (b,c1,c2,c3,c4,c5,c6,c7,m1,c8,c9) false c2 o) dM:=by
    intro o lc
    unfold qX
    rw[xJ (by omega),bu (by omega)]
    exact lj o _ W (by omega) (by omega) (by omega)
   refine bU (fun lD=>?_) fun _=>?_
   ·refine bH (by omega) fun lE _=>?_
    have lF:=wv lE
    have ll:(w++cM v4).length<=40*i+32:=Y v4 Z
    refine bT (by show(w++cM v4).length+_<=_;omega) ?_
    exact lk _ (by rw[List.length_append];show(w++cM v4).length+_<=_;omega)
   ·exact lk _ (by have ll:(w++cM v4).length<=40*i+32:=Y v4 Z;show(w++cM v4).length<=_;omega)
  ·have lC:c2.length≠0:=by
    intro q
    rw[q]at hk
    simp at hk
   exact lj _ _ W (by omega) (by omega) (by have ll:(w++cM v4).length<=40*i+32:=Y v4 Z;show(w++cM v4).length<=_;omega)
 ·have lG:b=false:=W
  subst lG
  unfold pQ uX
  refine aH (fun _=>?_) fun q=>nomatch q
  have lm:∀o:List UInt8,o.length<=40*(i+1)->Has (qr (i:Int) S (gM 80000 go2 (i:Int) l1 l1 c2 false (n+1)) (w,true) (false,c1,c2,c3,c4,c5,c6,c7,m1,c8,c9) o) dM:=by
   intro o lc
   unfold qr
   rw[one]
   exact put o (i+1) (by omega) (by omega) lc (fun be=>gM 80000 go2 (i:Int) l1 l1 c2 false (n+1) be [] [(w,true)] c1 c2 c3 c4 c5 c6 c7 m1 c8 c9) fun be lg=>fin be _ lg
  refine bU (fun lD=>?_) fun _=>lm w (by omega)
  refine bH (by omega) fun lH _=>?_
  have lF:=wv lH
  refine bT (by show w.length+_<=_;omega) ?_
  exact lm _ (by rw[List.length_append];show w.length+_<=_;omega)
theorem Tg:∀n (w:List UInt8) o,w.length<=10400->Has (oF 80000 c1 c2 c3 c4 c5 c6 c7 m1 c8 c9 (n+2) [(w,true)] o []) dM:=by
 intro n w o U
 unfold oF uL
 rw[xc]
 refine bk (xN (s:=w) (by omega)) ?_
 rintro v2 ⟨m,rfl,W⟩
 refine bU (fun _=>aC (dM.err (by decide))) fun _=>?_
 refine bT (by have:=gh;simp only[List.length_cons,List.length_nil];omega) ?_
 unfold oF uL
 rw[qx]
 refine aC ⟨fun _=>rfl,Nat.le_refl _,fun x O=>?_⟩
 simp at O
 rw[O]
 exact U
theorem PM(O:l1.length=N)(Y:N<=256)(Z:dT c4)(la:dT c5)(lc:c2.length<=8)(ld:cL (c8,c9,())=true)(lf:c3.length<=8)(lg:∀s∈c3,s.1=0->0<=s.2.1/\s.2.1<(c2.length:Int)):
  ∀n (i:Nat) (S:ir),i<=N+1->N+1-i<n->Fr N i S->Has (iH 80000 l1 c2 false n (i:Int) S l1 c1 c2 c3 c4 c5 c6 c7 m1 c8 c9) dM:=by
 intro n
 induction n with
 |zero=>intro i S _ h;omega
 |succ n lh=>
  intro i S h1 lk U
  have ll:=U.1
  obtain⟨l,W,o⟩:=U.take h1
  have lm:l.length<=1:=by
   rcases o with ⟨rfl,_⟩|⟨w,rfl,_⟩<;>simp
  unfold iH xL
  rw[bu (by omega)]
  refine bU (fun ln=>?_) fun lo=>?_
  ·refine bT ⟨by omega,by omega⟩ ?_
   rw[pC W,Option.bind_some]
   refine bU (fun q=>absurd q (by show¬(1024:Int)<(l.length:Int);omega)) fun _=>?_
   refine bT ⟨by omega,by omega⟩ ?_
   rw[Int.toNat_natCast]
   refine P8 O Y Z la lc ld lf lg (by omega) (fun be li=>?_) 79998 (S.set i none) l [] o
   rw[bu (by omega)]
   exact lh (i+1) be (by omega) (by omega) li
  ·obtain rfl:i=N+1:=by omega
   rw[O]
   refine bT ⟨by omega,by omega⟩ ?_
   rw[pC W,Option.bind_some]
   refine bU (fun q=>absurd q (by show¬(1024:Int)<(l.length:Int);omega)) fun _=>?_
   rcases o with ⟨rfl,lj⟩|⟨w,rfl,lp,_⟩
   ·obtain⟨_,j,_,a,b,_⟩:=lj
    omega
   ·exact Tg 79998 w [] (by omega)
theorem JX(Z:l1.length<=256)(la:dT c4)(lc:dT c5)(ld:c2.length<=8)(lf:cL (c8,c9,())=true)(lg:c3.length<=8)(lh:∀s∈c3,s.1=0->0<=s.2.1/\s.2.1<(c2.length:Int)):
  Has (ol 80000 l1 false c1 c2 c3 c4 c5 c6 c7 m1 c8 c9) dM:=by
 have ll:=pI
 unfold ol uD
 rw[Option.bind_some]
 have O:ai ((l1.length:Int)+2)=((l1.length+2:Nat):Int):=by rw[dl (by omega)];omega
 rw[O]
 refine bT (by omega) ?_
 refine bT ⟨by omega,by omega,by omega⟩ ?_
 have li:∀n (i:Nat) (S:ir),i<=l1.length+2->l1.length+2-i<n->S.length=l1.length+2->(∀j,j<i->S[j]? =some (some (some [])))->Has (rp 80000 l1 c2 false l1 c1 c3 c4 c5 c6 c7 m1 c8 c9 n (i:Int) S) dM:=by
  intro n
  induction n with
  |zero=>intro i S _ h;omega
  |succ n lj=>
   intro i S h1 lm U o
   unfold rp zF
   have lk:(List.map some (List.replicate (ai ((l1.length:Int)+2)).toNat (none:Option bP))).length=l1.length+2:=by
    rw[List.length_map,List.length_replicate,O,Int.toNat_natCast]
   rw[lk]
   refine bU (fun ln=>?_) fun lo=>?_
   ·refine bT ⟨by omega,by omega⟩ ?_
    refine bT ⟨by omega,by omega⟩ ?_
    rw[bu (by omega),Int.toNat_natCast]
    refine lj (i+1) _ (by omega) (by omega) (by rw[List.length_set];exact U) fun j W=>?_
    by_cases e:i=j
    ·subst e
     rw[List.getElem?_set_self (by omega)]
    ·rw[nO e]
     exact o j (by omega)
   ·refine bT ⟨by omega,by omega⟩ ?_
    have Y:=o 0 (by omega)
    rw[show(0:Int)=((0:Nat):Int)from rfl,pC Y,Option.bind_some,EN Y,Option.bind_some,Int.toNat_natCast]
    exact PM rfl Z la lc ld lf lg lh 80000 0 _ (by omega) (by omega) (Fr.first U fun j W=>o j (by omega))
 exact li 80000 0 _ (Nat.zero_le _) (by omega) (by rw[List.length_map,List.length_replicate,Int.toNat_natCast]) (fun j W=>by omega)
end right
end Go.Ev
namespace Go.Ev
open Go
set_option linter.unusedVariables false
theorem OK(f:Nat->Nat):∀(l o:List Nat),l.Nodup->(∀x∈l,x∈o)->(l.map f).sum<=(o.map f).sum:=by
 intro l
 induction l with
 |nil=>intro o _ _;exact Nat.zero_le _
 |cons x t Y=>
  intro o O U
  rw[List.nodup_cons]at O
  have Z:o.Perm (x::o.erase x):=List.perm_cons_erase (U x List.mem_cons_self)
  have:=Y (o.erase x) O.2 fun y W=>(List.mem_erase_of_ne (fun e=>O.1 (by rw[<-e];exact W))).2 (U y (List.mem_cons_of_mem _ W))
  rw[(Z.map f).sum_nat,List.map_cons,List.sum_cons,List.map_cons,List.sum_cons]
  omega
def Fb(o:List Node)(i:Nat):List Int:=(o[i]?).elim [] fun x=>x.2.2.2.2.1
def qn(o:List Node):Nat->Nat->Nat
 |0,_=>0
 |d+1,i=>1+((Fb o i).map fun k=>qn o d k.toNat).sum
theorem JF{o:List Node}{i:Nat}(h:i<o.length):Fb o i=(o[i]'h).2.2.2.2.1:=by
 unfold Fb
 rw[List.getElem?_eq_getElem h]
 rfl
theorem Nn{o:List Node}(O:dT o):∀d d' i,i<o.length->o.length-i<=d->o.length-i<=d'->qn o d i=qn o d' i:=by
 intro d
 induction d with
 |zero=>intro d' i h1 U;omega
 |succ d W=>
  intro d' i h1 U Y
  obtain⟨d',rfl⟩:∃m,d'=m+1:=⟨d'-1,by omega⟩
  unfold qn
  congr 2
  refine List.map_congr_left fun k hk=>?_
  rw[JF h1]at hk
  have:=(O.2.2 i h1).1 k hk
  exact W d' k.toNat (by omega) (by omega) (by omega)
def wt(o:List Node)(i:Nat):Nat:=qn o o.length i
theorem Hq{o:List Node}(O:dT o){i:Nat}(h:i<o.length):wt o i=1+((o[i]'h).2.2.2.2.1.map fun k=>wt o k.toNat).sum:=by
 unfold wt
 rw[Nn O o.length (o.length+1) i h (by omega) (by omega),qn,JF h]
theorem Na{o:List Node}(W:dT o):∀m,m<=o.length->((List.range' (o.length-m) m).map (wt o)).sum=m+(((o.drop (o.length-m)).flatMap fun x=>x.2.2.2.2.1).map fun k=>wt o k.toNat).sum:=by
 intro m
 induction m with
 |zero=>intro _;simp
 |succ m Y=>
  intro h
  have O:o.length-(m+1)<o.length:=by omega
  have U:o.length-(m+1)+1=o.length-m:=by omega
  rw[List.range'_succ,List.map_cons,List.sum_cons,U,Y (by omega),List.drop_eq_getElem_cons O,U,List.flatMap_cons,List.map_append,List.sum_append,Hq W O]
  omega
theorem Qw{o:List Node}(O:iY o):wt o 0<=o.length:=by
 have h1:=O.1.1
 have W:=Na O.1 o.length (Nat.le_refl _)
 rw[Nat.sub_self,List.drop_zero]at W
 have hk:(o.flatMap fun x=>x.2.2.2.2.1)=gp o o.length:=by unfold gp;rw[List.take_length]
 rw[hk]at W
 have Y:∀k∈gp o o.length,1<=k/\k<(o.length:Int):=by
  intro k U
  rw[<-hk]at U
  obtain⟨x,Z,la⟩:=List.mem_flatMap.1 U
  obtain⟨i,lc,rfl⟩:=List.getElem_of_mem Z
  have:=(O.1.2.2 i lc).1 k la
  omega
 have ld:=OK (wt o) ((gp o o.length).map Int.toNat) (List.range' 1 (o.length-1)) ?_ ?_
 ·have e:List.range' 0 o.length=0::List.range' 1 (o.length-1):=by
   rw[show o.length=(o.length-1)+1 by omega,List.range'_succ]
   rfl
  rw[e,List.map_cons,List.sum_cons]at W
  rw[List.map_map]at ld
  have:((gp o o.length).map (wt o∘Int.toNat)).sum=((gp o o.length).map fun k=>wt o k.toNat).sum:=rfl
  omega
 ·rw[List.nodup_iff_pairwise_ne,List.pairwise_map]
  refine List.Pairwise.imp_of_mem ?_ (List.nodup_iff_pairwise_ne.1 O.2.2)
  intro a b lf lg lh e
  have:=Y a lf
  have:=Y b lg
  omega
 ·intro x Z
  obtain⟨k,U,rfl⟩:=List.mem_map.1 Z
  have:=Y k U
  rw[List.mem_range'_1]
  omega
def qz(b:Nat)(cv:List Node):Prop:=∀j (h:j<cv.length),(∀k∈(cv[j]'h).2.2.2.2.1,((b+j:Nat):Int)<k/\k<((b+cv.length:Nat):Int))/\((cv[j]'h).1=8\/(cv[j]'h).1=9->(cv[j]'h).2.2.2.2.1≠[])/\(cv[j]'h).2.2.2.2.1.length<=1000
theorem qz.append{b:Nat}{s t:List Node}(h1:qz b s)(o:qz (b+s.length) t):qz b (s++t):=by
 intro j h
 by_cases e:j<s.length
 ·rw[List.getElem_append_left e]
  obtain⟨a,c,d⟩:=h1 j e
  refine⟨fun k hk=>?_,c,d⟩
  have:=a k hk
  rw[List.length_append]
  omega
 ·rw[List.length_append]at h
  have O:j-s.length<t.length:=by omega
  rw[List.getElem_append_right (by omega)]
  obtain⟨a,c,d⟩:=o (j-s.length) O
  refine⟨fun k hk=>?_,c,d⟩
  have:=a k hk
  rw[List.length_append]
  omega
theorem Lk{α:Type}(o:List α)(x y:α)(B:List α):(o++x::B).set o.length y=o++y::B:=by
 rw[List.set_append_right _ _ (Nat.le_refl _),Nat.sub_self]
 rfl
theorem Mt{α:Type}(o:List α)(x:α)(B:List α):ao (o++x::B) (o.length:Int)=some x:=by
 rw[rA,List.getElem?_append_right (Nat.le_refl _),Nat.sub_self]
 rfl
abbrev TW:Type:=Int->List Node->Bool->List Node->Option (List Node)
def re(rows:List Node)(n:Nat)(v:List Node):Prop:=∃cv,v=rows++cv/\qz rows.length cv/\1<=cv.length/\cv.length<=n
theorem Rv{O:List Node}{Z:Bool}{o:List Int}{rows:List Node}{la:TW}{x:Node}(hk:o.length<=1000)(li:x.1=8\/x.1=9->o≠[])
  (lq:rows.length+1+(o.map fun k=>wt O k.toNat).sum<=1000)
  (lj:∀k∈o,∀R:List Node,R.length+wt O k.toNat<=1000->Has (la k O Z R) (re R (wt O k.toNat))):
  ∀n (i:Nat) (W:List Int) (U:List Node),i<=o.length->o.length-i<n->W.length=i->(∀k∈W,(rows.length:Int)<k/\k<((rows.length+1+U.length:Nat):Int))->qz (rows.length+1) U->U.length<=((o.take i).map fun k=>wt O k.toNat).sum->
   Has (uy o rows la O Z n (i:Int) (rows++(x.1,x.2.1,x.2.2.1,x.2.2.2.1,W,())::U)) (re rows (1+(o.map fun k=>wt O k.toNat).sum)):=by
 have lr:=gh
 intro n
 induction n with
 |zero=>intro i _ _ _ h;omega
 |succ n lk=>
  intro i W U h1 lt lc ld lf ll
  unfold uy HZ
  refine bU (fun lu=>?_) fun lv=>?_
  ·have Y:i<o.length:=by omega
   refine bH Y fun y lg=>?_
   have lw:((o.take (i+1)).map fun k=>wt O k.toNat).sum=((o.take i).map fun k=>wt O k.toNat).sum+wt O y.toNat:=by
    rw[List.take_succ_eq_append_getElem Y,lg,List.map_append,List.sum_append]
    simp
   have lx:((o.take (i+1)).map fun k=>wt O k.toNat).sum<=(o.map fun k=>wt O k.toNat).sum:=by
    have:(o.map fun k=>wt O k.toNat).sum=((o.take (i+1)).map fun k=>wt O k.toNat).sum+((o.drop (i+1)).map fun k=>wt O k.toNat).sum:=by
     rw[<-List.sum_append,<-List.map_append,List.take_append_drop]
    omega
   have lm:(rows++(x.1,x.2.1,x.2.2.1,x.2.2.2.1,W,())::U).length=rows.length+1+U.length:=by
    simp only[List.length_append,List.length_cons]
    omega
   rw[lm]
   refine bT ⟨by omega,by omega⟩ ?_
   rw[Mt,Option.bind_some]
   refine bT (by show W.length+_<=_;simp only[List.length_cons,List.length_nil];omega) ?_
   refine bT ⟨by omega,by omega⟩ ?_
   rw[Int.toNat_natCast,Lk]
   refine bk (lj y (lg▸List.getElem_mem _) _ ?_) ?_
   ·simp only[List.length_append,List.length_cons]
    omega
   ·rintro v ⟨cv,rfl,lh,ly,lz⟩
    simp only[List.length_append,List.length_cons]at lh
    rw[bu (by omega),List.append_assoc,List.cons_append]
    refine lk (i+1) (W++[((rows.length+1+U.length:Nat):Int)]) (U++cv) (by omega) (by omega) (by simp[lc]) ?_ ?_ (by rw[List.length_append];omega)
    ·intro k hk
     rw[List.length_append]
     rcases List.mem_append.1 hk with hk|hk
     ·have:=ld k hk
      omega
     ·simp only[List.mem_cons,List.not_mem_nil,or_false]at hk
      omega
    ·refine lf.append ?_
     rw[show rows.length+1+U.length=rows.length+(U.length+1) by omega]
     exact lh
  ·have Y:i=o.length:=by omega
   rw[Y,List.take_length]at ll
   refine aC ⟨(x.1,x.2.1,x.2.2.1,x.2.2.2.1,W,())::U,rfl,?_,by simp,by rw[List.length_cons];omega⟩
   intro j h
   match j,h with
   |0,h=>
    refine⟨fun k hk=>?_,fun q e=>?_,by show W.length<=_;omega⟩
    ·have:=ld k hk
     rw[List.length_cons]
     omega
    ·have ln:W=[]:=e
     have lo:o.length=0:=by rw[<-Y,<-lc,ln];rfl
     exact li q (List.length_eq_zero_iff.1 lo)
   |j+1,h=>
    have lp:j<U.length:=by simpa using h
    obtain⟨a,c,d⟩:=lf j lp
    refine⟨fun k hk=>?_,c,d⟩
    have:=a k hk
    rw[List.length_cons]
    omega
theorem M6{o:List Node}(la:dT o)(Z:Bool):∀d k (O:Nat),O<o.length->o.length-O<=d->60000+d<=k->∀R:List Node,R.length+wt o O<=1000->Has (jV k (O:Int) o Z R) (re R (wt o O)):=by
 have ln:=gh
 have lo:=pI
 intro d
 induction d with
 |zero=>intro k O h1 lh;omega
 |succ d li=>
  intro k O h1 lh lp R lc
  obtain⟨k,rfl⟩:∃m,k=m+1:=⟨k-1,by omega⟩
  have W:=la.2.2 O h1
  have ld:=Hq la h1
  unfold jV
  refine bH h1 fun x lj=>?_
  rw[lj]at W ld
  have lk:∀y∈x.2.2.2.2.1,∀R:List Node,R.length+wt o y.toNat<=1000->Has (jV k y o Z R) (re R (wt o y.toNat)):=by
   intro y U R lc
   have:=W.1 y U
   obtain⟨m,rfl⟩:∃m:Nat,y=(m:Int):=⟨y.toNat,by omega⟩
   exact li k m (by omega) (by omega) (by omega) R lc
  unfold qK
  refine bk (Q:=fun v=>v=x.2.2.2.2.1) (bT (by have:=W.2.2;simp only[List.length_nil];omega) (aC (List.nil_append _))) ?_
  rintro v rfl
  have lf:∀Y:List Int,Y.length=x.2.2.2.2.1.length->(∀y∈Y,y∈x.2.2.2.2.1)->(Y.map fun k=>wt o k.toNat).sum=(x.2.2.2.2.1.map fun k=>wt o k.toNat).sum->Has (tn k R x (jV k) o Z Y) (re R (wt o O)):=by
   intro Y lg ll lm
   have lq:=W.2.2
   unfold tn
   refine bT ⟨by omega,by omega,by omega⟩ ?_
   refine bT (by simp only[List.length_cons,List.length_nil];omega) ?_
   rw[ld,<-lm]
   refine Rv (x:=x) (by omega) (fun q e=>?_) (by omega) (fun y U=>lk y (ll y U)) k 0 [] [] (Nat.zero_le _) (by omega) rfl (fun k hk=>by cases hk) (fun j h=>by cases h) (Nat.zero_le _)
   rw[e]at lg
   exact W.2.1 q (List.length_eq_zero_iff.1 lg.symm)
  unfold Lo
  refine aH (fun _=>lf _ List.length_reverse (fun y U=>List.mem_reverse.1 U) ?_) fun _=>lf _ rfl (fun y U=>U) rfl
  rw[List.map_reverse]
  exact(List.reverse_perm _).sum_nat
theorem F2(p:jB)(o:iY p.1)(O:kr 80000 (p.1,())=some true):Has (vd 80000 p) fun v=>dT v.1.1:=by
 have Y:=Qw o
 have Z:=o.2.1
 unfold vd vb
 rw[O,Option.bind_some]
 refine aH (fun q=>nomatch q) fun _=>?_
 refine bk (Q:=re [] (wt p.1 0)) (bk (M6 o.1 true 1000 80000 0 o.1.1 (by omega) (by omega) [] (by simp only[List.length_nil];omega)) fun v U=>aC U) ?_
 rintro v ⟨cv,e,h1,W,la⟩
 rw[List.nil_append]at e
 subst e
 refine aC ?_
 show dT v
 refine⟨W,by omega,fun i h=>?_⟩
 have:=h1 i h
 simp only[List.length_nil,Nat.zero_add]at this
 exact this
structure Ew(r:fA):Prop where
 target:r.2.1.length<=8
 rP:r.2.2.1.length<=8
 from_:∀s∈r.2.2.1,s.1=0->0<=s.2.1/\s.2.1<(r.2.1.length:Int)
 left:dT r.2.2.2.1.1
 right:dT r.2.2.2.2.1.1
theorem rB.run{a:aU}{r:fA}(h:rB a r):Ew r:=⟨h.target,h.rP,h.from_,h.left.1,h.right.1⟩
theorem SN{a:aU}{r:fA}(h:rB a r):Has (wP 80000 r) fun v=>Ew v:=by
 have li:=gh
 have Z:=h.target
 have lj:=h.rP
 unfold wP ql qg
 refine bk (Q:=fun v=>v=r.2.1) (bT (by simp only[List.length_nil];omega) (aC (List.nil_append _))) ?_
 rintro v1 rfl
 refine bk (Q:=fun v=>v=r.2.2.1) (bT (by simp only[List.length_nil];omega) (aC (List.nil_append _))) ?_
 rintro v2 rfl
 have la:∀n (i:Nat) (t:List fq),i<=r.2.2.1.length->r.2.2.1.length-i<n->t.length=r.2.2.1.length->(∀s∈t,s.1=0->0<=s.2.1/\s.2.1<(r.2.1.length:Int))->Has (tD 80000 r.2.2.1 r.2.1 r n (i:Int) t) fun v=>Ew v:=by
  intro n
  induction n with
  |zero=>intro i t _ h;omega
  |succ n W=>
   intro i t h1 lk Y O
   unfold tD Gs ym
   rw[List.length_reverse,List.length_reverse]
   refine bU (fun ll=>?_) fun lm=>?_
   ·refine bH (by omega) fun x lc=>?_
    rw[bu (by omega)]
    refine aH (fun U=>?_) fun _=>W (i+1) t (by omega) (by omega) Y O
    have ld:x.1=0:=by simpa using U
    have ln:=O x (lc▸List.getElem_mem _) ld
    refine W (i+1) _ (by omega) (by omega) (by rw[List.length_set];exact Y) fun s o lf=>?_
    rcases List.mem_or_eq_of_mem_set o with o|rfl
    ·exact O s o lf
    ·have e:ai ((ai ((r.2.1.length:Int)-1))-x.2.1)=(r.2.1.length:Int)-1-x.2.1:=by
      rw[dl (x:=(r.2.1.length:Int)-1) (by omega),dl (by omega)]
     show 0<=ai ((ai ((r.2.1.length:Int)-1))-x.2.1)/\ai ((ai ((r.2.1.length:Int)-1))-x.2.1)<_
     rw[e]
     omega
   ·refine bk (F2 (r.2.2.2.2.1.1,()) h.right h.NL) fun v3 lg=>?_
    refine bk (F2 (r.2.2.2.1.1,()) h.left h.Qh) fun v4 lh=>aC ?_
    refine⟨?_,?_,?_,lg,lh⟩
    ·show(List.reverse r.2.1).length<=8
     rw[List.length_reverse];exact Z
    ·show t.length<=8
     omega
    ·intro s o U
     show _/\_<((List.reverse r.2.1).length:Int)
     rw[List.length_reverse]
     exact O s o U
 exact la 80000 0 _ (Nat.zero_le _) (by omega) List.length_reverse fun s o=>h.from_ s (List.mem_reverse.1 o)
end Go.Ev
namespace Go.Ev
open Go
set_option linter.unusedVariables false
def Iw(v:List (List UInt8)×Int):Prop:=(v.2=0->v.1.length=1)/\∀w∈v.1,w.length<=50000
theorem OZ{v9:qj}(O:dM v9):∀n (i:Nat) (t:List (List UInt8)),i<=v9.2.2.2.2.2.2.2.2.2.2.2.length->v9.2.2.2.2.2.2.2.2.2.2.2.length-i<n->t.length=v9.2.2.2.2.2.2.2.2.2.2.2.length->(∀w∈t,w.length<=10400)->
  Has (qh v9 n (i:Int) t) Iw:=by
 have la:=gh
 have lc:=O.2.1
 intro n
 induction n with
 |zero=>intro i t _ h;omega
 |succ n ld=>
  intro i t h1 lf W U
  unfold qh DI
  refine bU (fun lg=>?_) fun _=>aC ⟨fun q=>?_,fun w o=>?_⟩
  ·refine bH (by omega) fun x Y=>?_
   have lh:=U x (Y▸List.getElem_mem _)
   have li:=Ij x
   have Z:=sY (List.reverse (gi x))
   rw[List.length_reverse]at Z
   refine bT (by omega) ?_
   refine bT (by omega) ?_
   by_cases lj:i+1<v9.2.2.2.2.2.2.2.2.2.2.2.length
   ·omega
   rw[bu (by omega)]
   unfold qh
   obtain⟨n,rfl⟩:∃m,n=m+1:=⟨n-1,by omega⟩
   unfold DI
   refine bU (fun q=>by omega) fun _=>aC ⟨fun q=>?_,fun w o=>?_⟩
   ·show(List.set t _ _).length=1
    rw[List.length_set,W]
    exact O.1 q
   ·rcases List.mem_or_eq_of_mem_set o with o|rfl
    ·have:=U w o
     omega
    ·omega
  ·show t.length=1
   rw[W]
   exact O.1 q
  ·have:=U w o
   omega
theorem Ua(a:aU)(r:fA)(w:List UInt8):Has (uR 80000 a r w) Iw:=by
 unfold uR
 refine bk (JP a r) fun v1 lc=>?_
 refine aH (fun h=>aC ⟨fun q=>(by rw[show v1=0 from q]at h;cases h),fun w U=>by cases U⟩) fun ld=>?_
 have W:=lc (by simpa using ld)
 have o:=W.run
 refine bk (WY a w) fun v2 Z=>?_
 refine aH (fun h=>aC ⟨fun q=>(by rw[show v2.1=0 from q]at h;cases h),fun w U=>by cases U⟩) fun _=>?_
 refine aH (fun _=>?_) fun _=>?_
 ·refine bk (xO a o.target o.left.2.1 o.right.2.1) ?_
  rintro v ⟨m,rfl⟩
  refine bk (NS Z o.left o.right o.target W.DP o.rP o.from_) fun v4 Y=>aC ⟨Y.1,fun w U=>?_⟩
  have:=Y.2.2 w U
  omega
 refine aH (fun _=>?_) fun _=>?_
 ·refine bk (xO a o.target o.left.2.1 o.right.2.1) ?_
  rintro v ⟨m,rfl⟩
  refine bk (JX Z o.left o.right o.target W.DP o.rP o.from_) fun v4 Y=>aC ⟨Y.1,fun w U=>?_⟩
  have:=Y.2.2 w U
  omega
 ·refine bk (SN W) fun lf O=>?_
  refine bk (xO a O.target O.left.2.1 O.right.2.1) ?_
  rintro v ⟨m,rfl⟩
  refine bk (JX (by rw[List.length_reverse];exact Z) O.left O.right O.target W.DP O.rP O.from_) fun v9 la=>?_
  have lg:=la.2.1
  exact OZ la 80000 0 _ (Nat.zero_le _) (by omega) rfl la.2.2
theorem Rg(a:aU)(r:fA)(w:List UInt8):Has (yH 80000 a r w) fun v=>v.1.length<=50000:=by
 unfold yH
 refine bk (Ua a r w) fun v1 o=>?_
 refine aH (fun _=>aC (Nat.zero_le _)) fun O=>?_
 have:=o.1 (by simpa using O)
 exact bH (i:=0) (by omega) fun x U=>aC (o.2 x (U▸List.getElem_mem _))
theorem Vs(a:aU)(l:List fA):Has (oD 80000 a l) fun e=>e=0->cL a=true/\l.length<=64:=by
 unfold oD
 rw[show fL 80000 ((a.1,a.2.1,()):aU)=some (if cL a then 0 else 7)from r6 a,Option.bind_some]
 refine aH (fun h=>aC fun q=>by rw[q]at h;cases h) fun h=>?_
 have O:cL a=true:=by
  cases az:cL a with
  |true=>rfl
  |false=>rw[az]at h;cases h
 refine bU (fun _=>aC fun q=>nomatch q) fun Y=>?_
 have U:∀n (i:Nat),i<=l.length->l.length-i<n->Has (p7 80000 l a n (i:Int)) fun e=>e=0->cL a=true/\l.length<=64:=by
  intro n
  induction n with
  |zero=>intro i _ h;omega
  |succ n W=>
   intro i h1 Z
   unfold p7 BJ
   refine bU (fun la=>?_) fun _=>aC fun _=>⟨O,by omega⟩
   refine bH (by omega) fun x lc=>?_
   refine bk (gW (MI ..)) fun v _=>?_
   refine aH (fun o=>aC fun q=>by rw[q]at o;cases o) fun _=>?_
   rw[bu (by omega)]
   exact W (i+1) (by omega) (by omega)
 exact U 80000 0 (Nat.zero_le _) (by omega)
theorem Sy(a:aU)(w:List UInt8)(l:List fA):Has (vW 80000 a w l) fun e=>e=0->l.length<=64:=by
 unfold vW
 refine bk (Vs a l) fun v1 h1=>?_
 refine aH (fun h=>aC fun q=>by rw[q]at h;cases h) fun o=>?_
 have:=h1 (by simpa using o)
 exact bk (PE a this.1 w) fun v2 _=>aC fun _=>this.2
theorem Np(a:aU){l:List fA}(W:l.length<=64):∀n (i:Nat) (w:List UInt8) (st:List (Int×List UInt8×List UInt8×Unit)),i<=l.length->l.length-i<n->st.length<=i->Has (tG 80000 l a n w (i:Int) st) fun v=>w.length<=50000->v.1.length<=50000:=by
 have Y:=gh
 intro n
 induction n with
 |zero=>intro i _ _ _ h;omega
 |succ n O=>
  intro i w st h1 Z la
  unfold tG Ji
  refine bU (fun lc=>?_) fun _=>aC fun q=>q
  refine bH (by omega) fun x _=>?_
  refine bk (Rg ..) fun v1 U=>?_
  refine aH (fun _=>aC fun _=>Nat.zero_le _) fun _=>?_
  unfold wc
  rw[bu (by omega)]
  refine aH (fun _=>?_) fun _=>sf (O (i+1) _ _ (by omega) (by omega) (by omega)) fun v o _=>o U
  refine bT (by simp only[List.length_cons,List.length_nil];omega) ?_
  exact sf (O (i+1) _ _ (by omega) (by omega) (by simp only[List.length_append,List.length_cons,List.length_nil];omega)) fun v o _=>o U
theorem B1(a:aU)(l:List fA)(w:List UInt8):Has (oU 80000 a l w) fun v=>(v.2=0->l=[]->v.1=w)/\(w.length<=50000->v.1.length<=50000):=by
 unfold oU Fa
 refine bk (Sy a w l) fun v1 h1=>?_
 refine aH (fun h=>aC ⟨fun q=>(by rw[show v1=0 from q]at h;cases h),fun _=>Nat.zero_le _⟩) fun o=>?_
 have O:=h1 (by simpa using o)
 cases l with
 |nil=>exact aC ⟨fun _ _=>rfl,fun h=>h⟩
 |cons x l=>exact bk (Np a O 80000 0 w [] (Nat.zero_le _) (by omega) (Nat.zero_le _)) fun v2 U=>aC ⟨fun _ q=>(nomatch q),U⟩
def cU(a:aU)(l:List fA)(w:List UInt8):List UInt8×Int:=(oU 80000 a l w).getD ([],0)
theorem AY(a:aU)(l:List fA)(w:List UInt8):oU 80000 a l w=some (cU a l w):=by
 obtain⟨v,e,_⟩:=B1 a l w
 unfold cU
 rw[e]
 rfl
theorem NJ(a:aU)(w:List UInt8)(h:(cU a [] w).2=0):(cU a [] w).1=w:=by
 obtain⟨v,e,o⟩:=B1 a [] w
 rw[AY]at e
 cases e
 exact o.1 h rfl
theorem Nh(a:aU)(l:List fA){w:List UInt8}(h:w.length<=50000):(cU a l w).1.length<=50000:=by
 obtain⟨v,e,o⟩:=B1 a l w
 rw[AY]at e
 cases e
 exact o.2 h
end Go.Ev
namespace Go.Ev
set_option linter.unusedVariables false
def kV(p:Nat->Nat)(x:Nat):List Nat:=x::(if h:0<x/\p x<x then kV p (p x)else[])
termination_by x
decreasing_by exact h.2
variable {p:Nat->Nat}
theorem CQ:kV p 0=[0]:=by rw[kV,dif_neg (by omega)]
theorem LA{x:Nat}(h:0<x)(o:p x<x):kV p x=x::kV p (p x):=by rw[kV,dif_pos ⟨h,o⟩]
theorem MK:∀(x:Nat) {w:Nat},w∈kV p x->w<=x:=by
 intro x
 induction x using Nat.strongRecOn with
 |_ x O=>
  intro w h
  rw[kV]at h
  rcases List.mem_cons.1 h with rfl|h
  ·exact Nat.le_refl _
  ·split at h
   ·rename_i o
    exact Nat.le_trans (O _ o.2 h) (Nat.le_of_lt o.2)
   ·cases h
end Go.Ev
namespace Go.Ev
open Go
set_option linter.unusedVariables false
abbrev gr:Type:=List UInt8×Int×List fA×Unit
abbrev cK:Type:=aU×List gr×Unit
structure il(l:List gr):Prop where
 pos:1<=l.length
 le:l.length<=32
 root:∀h:0<l.length,(l[0]'h).2.1=-1
 parent:∀i (h:i<l.length),0<i->0<=(l[i]'h).2.1/\(l[i]'h).2.1<(i:Int)
 name:∀i (h:i<l.length),(l[i]'h).1.length<=32/\∀j,j<(l[i]'h).1.length->eF (l[i]'h).1 j≠10
theorem N7(l:List gr)(ln:l.length<=32):∀n i m,i<=l.length->l.length-i<n->∃b,nG 80000 l n (i:Int) m=some b/\
  (b=true->∀j (h:j<l.length),i<=j->((l[j]'h).1.length<=32/\∀q,q<(l[j]'h).1.length->eF (l[j]'h).1 q≠10)/\(0<j->0<=(l[j]'h).2.1/\(l[j]'h).2.1<(j:Int))):=by
 intro n
 induction n with
 |zero=>intro i m _ h;omega
 |succ n Y=>
  intro i m h1 lo
  unfold nG IK
  by_cases o:i<l.length
  ·rw[if_pos (by simp only[decide_eq_true_eq];omega),dt o]
   simp only[Option.bind_some]
   have Z:∀t,t=true->∃b,pW (nG 80000 l n) (i:Int) m (l[i]'o) t=some b/\b=false:=by
    intro t O
    subst O
    exact⟨false,rfl,rfl⟩
   have U:∀t,t=true->∃b,pW (nG 80000 l n) (i:Int) m (l[i]'o) t=some b/\
     (b=true->∀j (h:j<l.length),i<=j->((l[j]'h).1.length<=32/\∀q,q<(l[j]'h).1.length->eF (l[j]'h).1 q≠10)/\(0<j->0<=(l[j]'h).2.1/\(l[j]'h).2.1<(j:Int))):=by
    intro t O
    obtain⟨b,la,lc⟩:=Z t O
    exact⟨b,la,fun q=>by rw[lc]at q;cases q⟩
   split
   ·exact U true rfl
   ·obtain⟨v,ld,lf⟩:=QX (l[i]'o).1
    rw[ld]
    simp only[Option.bind_some]
    unfold wC
    cases v with
    |false=>exact U true rfl
    |true=>
     rw[if_neg (by simp)]
     have mO:((0<i->0<=(l[i]'o).2.1/\(l[i]'o).2.1<(i:Int)))->∀t,t=false->∃b,pW (nG 80000 l n) (i:Int) m (l[i]'o) t=some b/\
       (b=true->∀j (h:j<l.length),i<=j->((l[j]'h).1.length<=32/\∀q,q<(l[j]'h).1.length->eF (l[j]'h).1 q≠10)/\(0<j->0<=(l[j]'h).2.1/\(l[j]'h).2.1<(j:Int))):=by
      intro lg t O
      subst O
      unfold pW
      rw[if_neg (by simp),bu (by omega)]
      obtain⟨b,lh,li⟩:=Y (i+1) (cb (aD .str) m (l[i]'o).1 ()) (by omega) (by omega)
      refine⟨b,lh,fun q j lj lk=>?_⟩
      by_cases ll:j=i
      ·subst ll
       exact⟨lf rfl,lg⟩
      ·exact li q j lj (by omega)
     by_cases lm:0<i
     ·rw[if_pos (by simp only[decide_eq_true_eq];omega)]
      unfold ML sd
      by_cases W:(decide ((l[i]'o).2.1<0)||decide ((i:Int)<=(l[i]'o).2.1))=true
      ·exact U _ W
      ·refine mO (fun _=>?_) _ (Bool.eq_false_iff.2 W)
       simp only[Bool.or_eq_true,decide_eq_true_eq]at W
       omega
     ·rw[if_neg (by simp only[decide_eq_true_eq];omega)]
      unfold sd
      exact mO (fun h=>absurd h lm) false rfl
  ·rw[if_neg (by simp only[decide_eq_true_eq];omega)]
   exact⟨true,rfl,fun _ j h lk=>by omega⟩
theorem LC(l:List gr):∃b,oG 80000 l=some b/\(b=true->il l):=by
 unfold oG
 have Y:∃b,wN 80000 l true=some b/\(b=true->il l):=⟨false,rfl,fun q=>by cases q⟩
 by_cases o:(((l.length:Int)==0)||decide ((32:Int)<(l.length:Int)))=true
 ·rw[o];exact Y
 ·rw[Bool.eq_false_iff.2 o]
  simp only[Bool.or_eq_true,beq_iff_eq,decide_eq_true_eq]at o
  have h1:1<=l.length:=by omega
  have U:l.length<=32:=by omega
  unfold wN
  rw[if_neg (by simp),show(0:Int)=((0:Nat):Int)from rfl,dt (by omega)]
  simp only[Option.bind_some]
  unfold r9
  by_cases O:((l[0]'(by omega)).2.1 !=-1)=true
  ·rw[O];exact⟨false,rfl,fun q=>by cases q⟩
  ·rw[Bool.eq_false_iff.2 O,if_neg (by simp),show(0:Int)=((0:Nat):Int)from rfl,dt (by omega)]
   simp only[Option.bind_some]
   unfold rL
   split
   ·exact⟨false,rfl,fun q=>by cases q⟩
   ·obtain⟨b,Z,W⟩:=N7 l U 80000 0 [] (Nat.zero_le _) (by omega)
    refine⟨b,Z,fun q=>⟨h1,U,fun _=>by simpa using O,fun i h la=>(W q i h (Nat.zero_le _)).2 la,fun i h=>(W q i h (Nat.zero_le _)).1⟩⟩
theorem BK(f:cK):∃e,ge 80000 f=some e/\(e=0->il f.2.1):=by
 unfold ge
 obtain⟨e,O,_⟩:=mM (f.1.1,f.1.2.1,())
 rw[O]
 simp only[Option.bind_some]
 by_cases h:(e !=0)=true
 ·rw[if_pos h]
  exact⟨e,rfl,fun q=>by rw[q]at h;cases h⟩
 ·rw[if_neg h]
  obtain⟨b,U,W⟩:=LC f.2.1
  rw[U]
  simp only[Option.bind_some]
  cases b with
  |false=>exact⟨270,rfl,fun q=>by cases q⟩
  |true=>
   rw[if_neg (by simp)]
   have o:=W rfl
   have lc:=o.le
   obtain⟨Y,Z⟩:bY (rD 80000 f 80000 0):=by
    refine nJ (L:=rD 80000 f) (len:=f.2.1.length) (by omega) ?_ 80000 0 (Nat.zero_le _) (by omega)
    intro n i ld la
    unfold rD J3
    exact fO (fun lf=>cS (jx (by omega)) fun x _=>cS (TI _ _) fun _ _=>cu (fun _=>bR _) fun _=>la (by omega)) fun _=>bR _
   exact⟨Y,Z,fun _=>o⟩
def jo(f:cK)(x:Int):Bool:=decide (0<=x)&&decide (x<(f.2.1.length:Int))
theorem Wz(f:cK)(o:List Int)(Y:o.length<=10):∀n i,i<=o.length->o.length-i<n->sX o f n (i:Int)=some (if(o.drop i).all (jo f)then 0 else 8):=by
 intro n
 induction n with
 |zero=>intro i _ h;omega
 |succ n W=>
  intro i h1 Z
  unfold sX Hf
  by_cases O:i<o.length
  ·rw[if_pos (by simp only[decide_eq_true_eq];omega),dt O,List.drop_eq_getElem_cons O,List.all_cons]
   simp only[Option.bind_some]
   unfold FQ
   by_cases U:(decide ((o[i]'O)<0)||decide ((f.2.1.length:Int)<=(o[i]'O)))=true
   ·rw[if_pos U]
    have:jo f (o[i]'O)=false:=by
     unfold jo
     simp only[Bool.or_eq_true,decide_eq_true_eq]at U
     rw[Bool.eq_false_iff]
     intro q
     simp only[Bool.and_eq_true,decide_eq_true_eq]at q
     omega
    rw[this]
    rfl
   ·rw[if_neg U,bu (by omega),W (i+1) (by omega) (by omega)]
    have:jo f (o[i]'O)=true:=by
     unfold jo
     simp only[Bool.or_eq_true,decide_eq_true_eq]at U
     simp only[Bool.and_eq_true,decide_eq_true_eq]
     omega
    rw[this,Bool.true_and]
  ·rw[if_neg (by simp only[decide_eq_true_eq];omega),List.drop_eq_nil_of_le (by omega)]
   rfl
theorem Jo{f:cK}{e:Int}(O:ge 80000 f=some e)(o:List Int)(U:o.length<=10):o3 80000 f o=some (if e≠0 then e else if o.all (jo f)then 0 else 8):=by
 unfold o3
 have W:ge 80000 ((f.1.1,f.1.2.1,()),f.2.1,())=some e:=O
 rw[W]
 simp only[Option.bind_some]
 by_cases h:e=0
 ·rw[if_neg (by simp[h]),if_neg (by simp[h])]
  have:=Wz f o U 80000 0 (Nat.zero_le _) (by omega)
  rw[List.drop_zero]at this
  exact this
 ·rw[if_pos (by simpa using h),if_pos h]
def par(l:List gr)(i:Nat):Nat:=((l[i]?).elim 0 fun b=>b.2.1.toNat)
theorem My{l:List gr}(h:il l):∀i,0<i->par l i<i:=by
 intro i o
 unfold par
 by_cases O:i<l.length
 ·have:=h.parent i O o
  rw[List.getElem?_eq_getElem O]
  simp only[Option.elim_some]
  omega
 ·rw[List.getElem?_eq_none (by omega)]
  exact o
theorem Rz{l:List gr}(h:il l){i:Nat}(o:i<l.length)(O:0<i):(l[i]'o).2.1=(par l i:Int):=by
 have:=h.parent i o O
 unfold par
 rw[List.getElem?_eq_getElem o]
 simp only[Option.elim_some]
 omega
def gV(p:Nat->Nat)(x:Nat):List Nat:=(kV p x).reverse
def ints(l:List Nat):List Int:=l.map Int.ofNat
theorem MM(l:List Nat):(ints l).length=l.length:=List.length_map _
theorem Nu(l:List Nat)(t:Nat):ints l++[(t:Int)]=ints (l++[t]):=by simp[ints]
theorem QJ{f:cK}(h:il f.2.1):∀n t (o:List Nat),t<f.2.1.length->t+1<n->o.length+t<=1000->qU f n (t:Int) (ints o)=some (ints ((o++kV (par f.2.1) t).reverse)):=by
 intro n
 induction n with
 |zero=>intro t o _ h;omega
 |succ n U=>
  intro t o h1 Y Z
  unfold qU Da
  rw[if_pos (by simp),cO (by unfold lim;rw[MM];simp;omega),dt h1]
  simp only[Option.bind_some]
  rw[Nu]
  rcases Nat.eq_zero_or_pos t with rfl|O
  ·rw[h.root h1,CQ]
   obtain⟨n,rfl⟩:∃m,n=m+1:=⟨n-1,by omega⟩
   unfold qU Da
   rw[if_neg (by simp)]
   unfold ints
   rw[List.map_reverse]
  ·have W:=My h t O
   rw[Rz h h1 O,U (par f.2.1 t) (o++[t]) (by omega) (by omega) (by simp;omega),LA O W]
   simp
theorem Hy{f:cK}(h:il f.2.1){t:Nat}(o:t<f.2.1.length):ro 80000 f (t:Int)=some (ints (gV (par f.2.1) t)):=by
 have O:=h.le
 unfold ro
 have:=QJ h 80000 t [] o (by omega) (by simp;omega)
 rw[List.nil_append]at this
 exact this
end Go.Ev
namespace Go.Ev
open Go
set_option linter.unusedVariables false
/-! A word of any length is read to its end. -/
theorem Qz{s:List UInt8}(U:s.length<=65536):∀n p (t:List kS),p<=s.length->s.length-p<n->t.length<=p->Has (nj 80000 s n p t) fun v=>v.length<=65536:=by
 have W:=uQ
 intro n
 induction n with
 |zero=>intro p t _ h;omega
 |succ n O=>
  intro p t Y Z la
  unfold nj Fq
  refine bU (fun h=>?_) fun _=>aC (by omega)
  have lc:=oa s p h
  have o:∀a b,Has (nT 80000 s p t (nj 80000 s n) a b) fun v=>v.length<=65536:=by
   intro a b
   unfold nT qu
   refine bk (Q:=fun v=>v.1=true/\v.2.length=t.length+1) (bT (by simp only[List.length_cons,List.length_nil];omega) (aC ⟨rfl,by simp⟩)) ?_
   rintro v ⟨h1,ld⟩
   rw[h1]
   refine aH (fun q=>nomatch q) fun _=>?_
   exact O (p+kH s p) v.2 (by rw[mg];omega) (by rw[mg];omega) (by rw[mg];omega)
  refine bk (gW (FK 80000 (im s p))) fun l _=>?_
  split
  ·rw[na (by omega),Option.bind_some]
   unfold utf8_DecodeRuneInString
   rw[Option.bind_some]
   split
   ·exact o _ _
   ·exact o _ _
  ·exact o _ _
theorem VB{s:List UInt8}(o:s.length<=65536):Has (sL 80000 s) fun v=>v.1.length<=65536:=by
 unfold sL yt
 rw[if_neg (by simp only[decide_eq_true_eq];omega),Option.bind_some]
 refine aH (fun _=>aC (Nat.zero_le _)) fun _=>?_
 unfold rW
 exact bk (Qz o 80000 0 [] (Nat.zero_le _) (by omega) (Nat.zero_le _)) fun v O=>aC O
theorem MU{v:List kS×Int}(U:v.1.length<=65536)(m:Option gq):∀n (i:Nat) (o:List Int),i<=v.1.length->v.1.length-i<n->o.length<=i->Has (nN v m n (i:Int) o) fun _=>True:=by
 have W:=uQ
 intro n
 induction n with
 |zero=>intro i o _ h;omega
 |succ n O=>
  intro i o Y Z la
  unfold nN Ab
  refine bU (fun h=>?_) fun _=>aC trivial
  refine bH (by omega) fun x _=>?_
  refine aH (fun _=>aC trivial) fun _=>?_
  refine aH (fun _=>aC trivial) fun _=>?_
  refine aH (fun _=>aC trivial) fun _=>?_
  refine bT (by simp only[List.length_cons,List.length_nil];omega) ?_
  rw[bu (by omega)]
  exact O (i+1) _ (by omega) (by omega) (by simp only[List.length_append,List.length_cons,List.length_nil];omega)
theorem DL(a:aU)(w:List UInt8):Has (kD 80000 a w) fun _=>True:=by
 unfold kD gS xC
 refine bk (Q:=fun _=>True) ?_ fun _ _=>aC trivial
 rw[show fL 80000 ((a.1,a.2.1,()):aU)=some (if cL a then 0 else 7)from r6 a,Option.bind_some]
 have rd:∀m,Has (sZ 80000 m w) fun _=>True:=by
  intro m
  have O:∀s:List UInt8,s.length<=65536->Has (qW 80000 m s) fun _=>True:=by
   intro s U
   unfold qW
   refine bk (VB U) fun v o=>?_
   refine aH (fun _=>aC trivial) fun _=>?_
   exact MU o m 80000 0 [] (Nat.zero_le _) (by omega) (Nat.zero_le _)
  unfold sZ
  refine bU (fun h=>?_) fun h=>O w (by omega)
  obtain⟨s,e,U⟩:=D2 (s:=w) (a:=0) (b:=65536) (Nat.zero_le _) (by omega)
  rw[show(0:Int)=((0:Nat):Int)from rfl,show(65536:Int)=((65536:Nat):Int)from rfl,e,Option.bind_some]
  exact O s (by omega)
 cases W:cL a with
 |false=>
  refine bk (Q:=fun v=>v.2≠0) (aH (fun _=>aC (by decide)) fun q=>nomatch q) fun v o=>?_
  refine aH (fun _=>aC trivial) fun q=>?_
  simp at q
  exact absurd q o
 |true=>
  have Y:=sv W
  refine bk (Q:=fun _=>True) (aH (fun _=>aC trivial) fun _=>?_) fun v _=>?_
  ·obtain⟨m,Z,lc⟩:=Of (a.1,a.2.1,()) Y.2.2 80000 0 [] (Nat.zero_le _) (by show a.2.1.length-0<80000;omega) (fun r la=>by simp[bn]at la)
   exact⟨_,Z,trivial⟩
  refine aH (fun _=>aC trivial) fun _=>?_
  exact bk (rd _) fun _ _=>aC trivial
/-! The first of a family's languages has no laws. -/
theorem U9{l:List gr}(h:oG 80000 l=some true)(o:0<l.length):(l[0]'o).2.2.1=[]:=by
 refine Classical.byContradiction fun O=>?_
 have:Has (oG 80000 l) fun b=>b=false:=by
  unfold oG wN
  refine aH (fun _=>?_) fun _=>?_
  ·unfold r9 rL
   rw[if_pos rfl,if_pos rfl]
   exact aC rfl
  ·refine bH (i:=0) o fun Y _=>?_
   unfold r9 rL
   refine aH (fun _=>?_) fun _=>?_
   ·rw[if_pos rfl]
    exact aC rfl
   ·refine bH (i:=0) o fun Z U=>?_
    refine bU (fun _=>aC rfl) fun q=>?_
    rw[U]at O
    have:=List.length_pos_iff.2 O
    omega
 obtain⟨b,e,W⟩:=this
 rw[h]at e
 cases e
 cases W
theorem QM{f:cK}(h:ge 80000 f=some 0)(o:0<f.2.1.length):(f.2.1[0]'o).2.2.1=[]:=by
 unfold ge at h
 obtain⟨e,U,_⟩:=mM (f.1.1,f.1.2.1,())
 rw[U,Option.bind_some]at h
 split at h
 ·rename_i q
  cases h
  cases q
 obtain⟨b,O,_⟩:=LC f.2.1
 rw[O,Option.bind_some]at h
 cases b with
 |true=>exact U9 O o
 |false=>cases h
/-! The table. -/
def nB(f:cK)(i:Nat):List fA:=((f.2.1[i]?).elim [] fun b=>b.2.2.1)
theorem Ma{f:cK}{i:Nat}(h:i<f.2.1.length):nB f i=(f.2.1[i]'h).2.2.1:=by
 unfold nB
 rw[List.getElem?_eq_getElem h]
 rfl
abbrev al(f:cK):aU:=(f.1.1,f.1.2.1,())
/-! Down a path. -/
def ow(f:cK):List Nat->List UInt8->List UInt8×Int
 |[],w=>(w,0)
 |x::xs,w=>if(cU (al f) (nB f x) w).2=0 then ow f xs (cU (al f) (nB f x) w).1 else([],(cU (al f) (nB f x) w).2)
theorem Ja(f:cK):∀(xs:List Nat) {w:List UInt8},w.length<=50000->(ow f xs w).1.length<=50000
 |[],w,h=>h
 |x::xs,w,h=>by
  rw[ow]
  split
  ·exact Ja f xs (Nh _ _ h)
  ·exact Nat.zero_le _
theorem LD{f:cK}{v3:List Nat}(la:v3.length<=1000)(W:∀x∈v3,x<f.2.1.length):∀n (i:Nat) (w:List UInt8),i<=v3.length->v3.length-i<n->pY 80000 (ints v3) f n w (i:Int)=some (ow f (v3.drop i) w):=by
 have lc:=MM v3
 intro n
 induction n with
 |zero=>intro i w _ h;omega
 |succ n Y=>
  intro i w h1 ld
  unfold pY Jq
  by_cases o:i<v3.length
  ·have U:=W _ (List.getElem_mem o)
   have Z:ao (ints v3) (i:Int)=some ((v3[i]'o:Nat):Int):=by
    rw[dt (by omega)]
    unfold ints
    rw[List.getElem_map]
    rfl
   rw[if_pos (by simp only[decide_eq_true_eq];omega),Z,Option.bind_some,dt U,Option.bind_some,List.drop_eq_getElem_cons o,ow,<-Ma U]
   rw[show oU 80000 ((f.1.1,f.1.2.1,()):aU) (nB f (v3[i]'o)) w=some (cU (al f) (nB f (v3[i]'o)) w)from AY _ _ _,Option.bind_some]
   by_cases O:(cU (al f) (nB f (v3[i]'o)) w).2=0
   ·rw[if_neg (by rw[O];simp),if_pos O,bu (by omega)]
    exact Y (i+1) _ o (by omega)
   ·rw[if_pos (by simpa using O),if_neg O]
  ·rw[if_neg (by simp only[decide_eq_true_eq];omega),List.drop_of_length_le (by omega)]
   rfl
theorem Kb{f:cK}(h:il f.2.1):∀t,(gV (par f.2.1) t).length<=t+1:=by
 intro t
 induction t using Nat.strongRecOn with
 |_ t O=>
  by_cases U:t=0
  ·subst U
   unfold gV
   rw[CQ]
   exact Nat.le_refl _
  ·have o:=My h t (by omega)
   have:=O _ o
   unfold gV at this⊢
   rw[LA (by omega) o,List.reverse_cons,List.length_append]
   simp only[List.length_cons,List.length_nil]
   omega
/-! The law. -/
end Go.Ev
namespace Go.Ev
open Go
set_option linter.unusedVariables false
theorem Mc(a:aU)(x:Int):gt a x x=0:=by
 unfold gt jn
 rw[if_pos (by simp)]
 rfl
theorem DU(a:aU):∀l:List Int,bI a l l=0
 |[]=>by unfold bI;rfl
 |x::xs=>by
  have h:=DU a xs
  have h1:=wL a _ xs (x::xs) (Nat.le_refl _)
  have o:=wL a _ (x::xs) xs (Nat.le_refl _)
  unfold bI
  rw[h,Mc]
  unfold cC
  split<;>split<;>omega
theorem C4(a:aU):∀l:List Int,di a l l=l.map fun r=>(r,r,())
 |[]=>by unfold di;rfl
 |x::xs=>by
  have h:=C4 a xs
  unfold di
  rw[DU,DU,Mc,if_pos (show(0:Int)=0+0 from rfl),h]
  rfl
def eL(ps:List bS):List Int:=(ps.filter fun p=>p.1 !=0).map fun p=>p.2.1
theorem qd(p:bS)(ps:List bS):eL (p::ps)=if p.1 !=0 then p.2.1::eL ps else eL ps:=by
 unfold eL
 rw[List.filter_cons]
 split<;>rfl
theorem Ks(a:aU):∀n (x y:List Int),x.length+y.length<=n->(0:Int)∉x->(0:Int)∉y->(eL (di a x y)).length=x.length/\((eL (di a x y)).filter (· !=0)).Sublist y:=by
 intro n
 induction n with
 |zero=>
  intro x y h _ _
  have o:x=[]:=List.length_eq_zero_iff.1 (by omega)
  have O:y=[]:=List.length_eq_zero_iff.1 (by omega)
  subst o;subst O
  unfold di
  exact⟨rfl,List.Sublist.refl _⟩
 |succ n W=>
  intro x y h o O
  have U:∀{z:Int} {Z:List Int},(0:Int)∉z::Z->(z !=0)=true/\(0:Int)∉Z:=fun{z Z} la=>by
   rw[List.mem_cons,not_or]at la
   exact⟨by simpa using Ne.symm la.1,la.2⟩
  match x,y,h,o,O with
  |[],[],_,_,_=>unfold di;exact⟨rfl,List.Sublist.refl _⟩
  |x::xs,[],h,o,O=>
   obtain⟨i1,i2⟩:=W xs [] (by simp only[List.length_cons,List.length_nil]at h⊢;omega) (U o).2 O
   unfold di
   rw[qd,if_pos (U o).1,List.length_cons,List.length_cons,i1,List.filter_cons,if_neg (by simp)]
   exact⟨rfl,i2⟩
  |[],y::Y,h,o,O=>
   obtain⟨i1,i2⟩:=W [] Y (by simp only[List.length_cons,List.length_nil]at h⊢;omega) o (U O).2
   unfold di
   rw[qd,if_neg (by simp)]
   exact⟨i1,i2.cons _⟩
  |x::xs,y::Y,h,o,O=>
   unfold di
   split
   ·obtain⟨i1,i2⟩:=W xs Y (by simp only[List.length_cons]at h⊢;omega) (U o).2 (U O).2
    rw[qd,if_pos (U o).1,List.length_cons,List.length_cons,i1,List.filter_cons,if_pos (U O).1]
    exact⟨rfl,i2.cons_cons _⟩
   ·split
    ·obtain⟨i1,i2⟩:=W xs (y::Y) (by simp only[List.length_cons]at h⊢;omega) (U o).2 O
     rw[qd,if_pos (U o).1,List.length_cons,List.length_cons,i1,List.filter_cons,if_neg (by simp)]
     exact⟨rfl,i2⟩
    ·obtain⟨i1,i2⟩:=W (x::xs) Y (by simp only[List.length_cons]at h⊢;omega) o (U O).2
     rw[qd,if_neg (by simp)]
     exact⟨i1,i2.cons _⟩
theorem Po(M:Int->Bool)(s:List UInt8):∀n p m O,s.length-p<n->s.length-p<=m->(jZ M s n p O).2=0->(jZ M s n p O).1=O++iI s m p:=by
 intro n
 induction n with
 |zero=>intro p m O h;omega
 |succ n W=>
  intro p m O h1 lc o
  unfold jZ at o⊢
  by_cases U:p<s.length
  ·obtain⟨m,rfl⟩:∃q,m=q+1:=⟨m-1,by omega⟩
   have ld:=oa s p U
   have af:Utf8.decode (bytesOf s) p=g s p:=uw s p
   unfold iI
   rw[if_pos U]at o⊢
   rw[if_pos U,af]
   split at o
   ·cases o
   rename_i Y
   rw[if_neg Y]
   split at o
   ·cases o
   rename_i Z
   rw[if_neg Z]
   split at o
   ·cases o
   rename_i la
   rw[if_neg la,W _ m _ (by omega) (by omega) o,List.append_assoc]
   rfl
  ·rw[if_neg U]at o⊢
   cases m with
   |zero=>simp[iI]
   |succ m=>unfold iI;rw[if_neg U];simp
theorem WR(a:aU){w:List UInt8}(O:w.length<=65536)(h:(wl a w).2=0):(wl a w).1=gi w:=by
 have o:=(jh a w h).1
 unfold wl at h⊢
 rw[if_pos o]at h⊢
 have:=Po (vm a) w 65537 0 w.length [] (by omega) (by omega) h
 rw[this]
 rfl
end Go.Ev
namespace Go.Ev
open Go
set_option linter.unusedVariables false
def fM(R:List (List Int))(B:List Int):List (List Int):=List.zipWith (fun r b=>r++[b]) R B
abbrev S5:Type:=Int->List (List UInt8)->List ca->List gr->List (List Int)->Option (List (List Int)×Int)
theorem SJ{v4:Int×List bS×Int}{R:List (List Int)}(la:∀r∈R,r.length<=1000)(W:(eL v4.2.1).length=R.length)(lk:v4.2.1.length<=70000)(go1:S5)(t1:Int)(f2:List (List UInt8))(f3:List ca)(f4:List gr):
  ∀n (j:Nat),j<=v4.2.1.length->v4.2.1.length-j<n->
   tS v4 go1 t1 f2 f3 f4 n ((eL (v4.2.1.take j)).length:Int) (j:Int) (fM (R.take (eL (v4.2.1.take j)).length) (eL (v4.2.1.take j))++R.drop (eL (v4.2.1.take j)).length)=go1 (ai (t1+1)) f2 f3 f4 (fM R (eL v4.2.1)):=by
 have ll:=gh
 have lm:R.length<=v4.2.1.length:=by
  rw[<-W]
  unfold eL
  rw[List.length_map]
  exact List.length_filter_le _ _
 intro n
 induction n with
 |zero=>intro j _ h;omega
 |succ n lc=>
  intro j h1 ln
  unfold tS FX
  by_cases O:j<v4.2.1.length
  ·rw[if_pos (by simp only[decide_eq_true_eq];omega),dt O,Option.bind_some]
   have ld:v4.2.1.take (j+1)=v4.2.1.take j++[v4.2.1[j]'O]:=List.take_succ_eq_append_getElem O
   have lf:eL (v4.2.1.take (j+1))=eL (v4.2.1.take j)++(if(v4.2.1[j]'O).1 !=0 then[(v4.2.1[j]'O).2.1]else[]):=by
    rw[ld]
    unfold eL
    rw[List.filter_append,List.map_append,List.filter_cons]
    split<;>rfl
   have U:(eL (v4.2.1.take (j+1))).length<=R.length:=by
    rw[<-W]
    have:eL v4.2.1=eL (v4.2.1.take (j+1))++eL (v4.2.1.drop (j+1)):=by
     unfold eL
     rw[<-List.map_append,<-List.filter_append,List.take_append_drop]
    rw[this,List.length_append]
    omega
   have:=lc (j+1) O (by omega)
   rw[lf]at this U
   by_cases Z:((v4.2.1[j]'O).1 !=0)=true
   ·rw[if_pos Z]at this U⊢
    rw[List.length_append,List.length_cons,List.length_nil]at U
    generalize lo:eL (v4.2.1.take j)=C at this U⊢
    have o:C.length<R.length:=by omega
    have Y:(fM (R.take C.length) C).length=C.length:=by
     unfold fM
     rw[List.length_zipWith,List.length_take]
     omega
    have af:R.drop C.length=R[C.length]'o::R.drop (C.length+1):=List.drop_eq_getElem_cons o
    have lg:(fM (R.take C.length) C++R.drop C.length).length=R.length:=by
     rw[List.length_append,Y,List.length_drop]
     omega
    rw[lg,cO (by omega),Option.bind_some,af]
    have lh:ao (fM (R.take C.length) C++R[C.length]'o::R.drop (C.length+1)) (C.length:Int)=some (R[C.length]'o):=by
     have:=Mt (fM (R.take C.length) C) (R[C.length]'o) (R.drop (C.length+1))
     rw[Y]at this
     exact this
    rw[lh,Option.bind_some]
    have lp:=la _ (List.getElem_mem o)
    rw[cO (by simp only[List.length_cons,List.length_nil];omega),Option.bind_some,Option.bind_some]
    have li:List.set (fM (R.take C.length) C++R[C.length]'o::R.drop (C.length+1)) C.length (R[C.length]'o++[(v4.2.1[j]'O).2.1])=fM (R.take C.length) C++(R[C.length]'o++[(v4.2.1[j]'O).2.1])::R.drop (C.length+1):=by
     have:=Lk (fM (R.take C.length) C) (R[C.length]'o) (R[C.length]'o++[(v4.2.1[j]'O).2.1]) (R.drop (C.length+1))
     rw[Y]at this
     exact this
    unfold tH
    rw[bu (by omega),bu (by omega),Int.toNat_natCast,li]
    rw[List.length_append,List.length_cons,List.length_nil]at this
    have lj:fM (R.take (C.length+1)) (C++[(v4.2.1[j]'O).2.1])=fM (R.take C.length) C++[R[C.length]'o++[(v4.2.1[j]'O).2.1]]:=by
     unfold fM
     rw[List.take_succ_eq_append_getElem o,List.zipWith_append (by rw[List.length_take];omega)]
     rfl
    rw[lj,List.append_assoc]at this
    exact this
   ·rw[if_neg Z]at this⊢
    rw[List.append_nil]at this
    unfold tH
    rw[bu (by omega)]
    exact this
  ·have e:v4.2.1.take j=v4.2.1:=List.take_of_length_le (by omega)
   rw[if_neg (by simp only[decide_eq_true_eq];omega),e,W,List.take_length,List.drop_length,List.append_nil]
def ng(B:Nat->List Int)(L i:Nat)(R:List (List Int)):Prop:=R.length=L/\∀k (h:k<R.length),(R[k]'h).length=i/\∀j,j<i->(R[k]'h)[j]? =(B j)[k]?
theorem ng.fM{B:Nat->List Int}{L i:Nat}{R:List (List Int)}(h:ng B L i R)(Z:(B i).length=L):ng B L (i+1) (Ev.fM R (B i)):=by
 have la:=h.1
 have U:(Ev.fM R (B i)).length=L:=by
  unfold Ev.fM
  rw[List.length_zipWith]
  omega
 refine⟨U,fun k hk=>?_⟩
 have o:k<R.length:=by omega
 have O:k<(B i).length:=by omega
 have e:(Ev.fM R (B i))[k]'hk=R[k]'o++[(B i)[k]'O]:=List.getElem_zipWith
 obtain⟨h1,W⟩:=h.2 k o
 rw[e]
 refine⟨by rw[List.length_append,h1];rfl,fun j lc=>?_⟩
 by_cases Y:j=i
 ·subst Y
  rw[List.getElem?_append_right (by omega),h1,Nat.sub_self,List.getElem?_eq_getElem O]
  rfl
 ·rw[List.getElem?_append_left (by omega)]
  exact W j (by omega)
end Go.Ev
namespace Go.Ev
open Go
set_option linter.unusedVariables false
theorem Lt(f:cK)(x:Int)(w:List UInt8):Has (jk 80000 f x w) fun v=>w.length<=50000->v.1.length<=50000:=by
 obtain⟨e,W,Y⟩:=BK f
 have Z:=Jo W [x] (by simp)
 unfold jk
 rw[show o3 80000 (((f.1.1,f.1.2.1,()),f.2.1,()):cK) [x]=_ from Z,Option.bind_some]
 refine aH (fun _=>aC fun _=>Nat.zero_le _) fun o=>?_
 have h1:e=0/\jo f x=true:=by
  by_cases h:e=0
  ·refine⟨h,?_⟩
   rw[if_neg (by simpa using h)]at o
   cases O:jo f x with
   |true=>rfl
   |false=>
    rw[if_neg (by simp[O])]at o
    cases o
  ·rw[if_pos h]at o
   simp at o
   exact absurd o h
 have U:=Y h1.1
 have ld:=U.le
 have O:=h1.2
 simp only[jo,Bool.and_eq_true,decide_eq_true_eq]at O
 obtain⟨t,rfl⟩:∃t:Nat,x=(t:Int):=⟨x.toNat,by omega⟩
 have la:t<f.2.1.length:=by omega
 refine bk (DL (al f) w) fun v2 _=>?_
 refine aH (fun _=>aC fun _=>Nat.zero_le _) fun _=>?_
 rw[show ro 80000 (((f.1.1,f.1.2.1,()),f.2.1,()):cK) (t:Int)=some (ints (gV (par f.2.1) t))from Hy U la,Option.bind_some]
 have lf:=Kb U t
 have:=LD (f:=f) (v3:=gV (par f.2.1) t) (by omega) (fun x O=>by unfold gV at O;have:=MK t (List.mem_reverse.1 O);omega) 80000 0 w (Nat.zero_le _) (by omega)
 rw[show pY 80000 (ints (gV (par f.2.1) t)) f 80000 w (0:Int)=_ from this,List.drop_zero]
 exact aC fun lc=>Ja f _ lc
def eU(f:cK)(w:List UInt8)(i:Int):List UInt8×Int:=(jk 80000 f i w).getD ([],0)
theorem uW(f:cK)(w:List UInt8)(i:Int):jk 80000 f i w=some (eU f w i):=by
 obtain⟨v,e,_⟩:=Lt f i w
 unfold eU
 rw[e]
 rfl
theorem vO(f:cK){w:List UInt8}(h:w.length<=50000)(i:Int):(eU f w i).1.length<=50000:=by
 obtain⟨v,e,o⟩:=Lt f i w
 rw[uW]at e
 cases e
 exact o h
theorem BA(f:cK)(w:List UInt8)(i:Int):Has (oC 80000 f i w) fun v=>(v.2≠0->v.1=[])/\(v.2=0->eU f w i=(v.1,0)):=by
 unfold oC
 rw[show jk 80000 (((f.1.1,f.1.2.1,()),f.2.1,()):cK) i w=some (eU f w i)from uW f w i,Option.bind_some]
 refine aH (fun h=>aC ⟨fun _=>rfl,fun q=>?_⟩) fun h=>aC ⟨fun q=>absurd rfl q,fun _=>?_⟩
 ·rw[show(eU f w i).2=0 from q]at h
  cases h
 ·have:(eU f w i).2=0:=by simpa using h
  rw[<-this]
def iP(f:cK)(w:List UInt8)(i:Nat):List Int:=eL (di (al f) (wl (al f) w).1 (wl (al f) (eU f w i).1).1)
def nR(f:cK)(w:List UInt8)(i:Nat):Prop:=(eU f w i).2=0/\(wl (al f) (eU f w i).1).2=0
theorem Cu{a:aU}{x y:List UInt8}(h:(ww a x y).2.2=0):(ww a x y).2.1=di a (wl a x).1 (wl a y).1:=by
 obtain⟨h1,o⟩:=y9 a x y h
 unfold ww
 rw[if_neg (by simp[h1]),if_neg (by simp[o])]
theorem ui{a:aU}{w:List UInt8}(h:(wl a w).2=0):(0:Int)∉(wl a w).1:=fun q=>by
 obtain⟨h1,_,o⟩:=jh a w h
 exact TK h1 (o 0 q)
theorem Gu{f:cK}{w:List UInt8}(o:(wl (al f) w).2=0){i:Nat}(O:nR f w i):(iP f w i).length=(wl (al f) w).1.length:=
 (Ks (al f) _ _ _ (Nat.le_refl _) (ui o) (ui O.2)).1
theorem Tv{f:cK}(lf:il f.2.1){w:List UInt8}(lp:w.length<=1000)(W:(wl (al f) w).2=0):
  ∀n (i:Nat) (R:List (List Int)),i<=f.2.1.length->f.2.1.length-i<n->ng (iP f w) (wl (al f) w).1.length i R->(∀j,j<i->nR f w j)->
   Has (rC 80000 f w n (i:Int) f.1.1 f.1.2.1 f.2.1 R) fun v=>(v.2≠0->v.1=[])/\(v.2=0->ng (iP f w) (wl (al f) w).1.length f.2.1.length v.1/\∀j,j<f.2.1.length->nR f w j):=by
 have lq:=lf.le
 have lr:=(jh _ _ W).2.1
 intro n
 induction n with
 |zero=>intro i R _ h;omega
 |succ n lg=>
  intro i R h1 lt o Y
  unfold rC In
  refine bU (fun lu=>?_) fun lv=>?_
  ·have U:i<f.2.1.length:=by omega
   refine bk (BA f w i) fun v3 lh=>?_
   refine aH (fun h=>aC ⟨fun _=>rfl,fun q=>?_⟩) fun h=>?_
   ·rw[show v3.2=0 from q]at h
    cases h
   have li:v3.2=0:=by simpa using h
   have af:=lh.2 li
   have Z:=vO f (w:=w) (by omega) i
   rw[af]at Z
   rw[show mc 80000 ((f.1.1,f.1.2.1,()):aU) w v3.1=some (ww (al f) w v3.1)from L5 (al f) (by omega) (by have:v3.1.length<=50000:=Z;omega),Option.bind_some]
   refine aH (fun h=>aC ⟨fun _=>rfl,fun q=>?_⟩) fun h=>?_
   ·rw[show(ww (al f) w v3.1).2.2=0 from q]at h
    cases h
   have O:(ww (al f) w v3.1).2.2=0:=by simpa using h
   have la:nR f w i:=by
    refine⟨by rw[af],?_⟩
    rw[af]
    exact(y9 _ _ _ O).2
   have lc:eL (ww (al f) w v3.1).2.1=iP f w i:=by
    rw[Cu O]
    unfold iP
    rw[af]
   have ld:=Gu W la
   have lw:(ww (al f) w v3.1).2.1.length<=128:=by
    rw[Cu O]
    have:=NY (al f) _ (wl (al f) w).1 (wl (al f) v3.1).1 (Nat.le_refl _)
    have lx:=(jh _ _ (y9 _ _ _ O).2).2.1
    omega
   have e:=SJ (v4:=ww (al f) w v3.1) (R:=R) (fun r lj=>by obtain⟨k,hk,rfl⟩:=List.getElem_of_mem lj;have:=(o.2 k hk).1;omega) (by rw[lc,ld,o.1]) (by omega) (rC 80000 f w n) (i:Int) f.1.1 f.1.2.1 f.2.1 80000 0 (Nat.zero_le _) (by omega)
   have lk:eL ((ww (al f) w v3.1).2.1.take 0)=[]:=rfl
   rw[lk,lc]at e
   have ll:fM (R.take ([]:List Int).length) []++R.drop ([]:List Int).length=R:=rfl
   rw[ll,bu (by omega)]at e
   have:=lg (i+1) (fM R (iP f w i)) U (by omega) (o.fM ld) fun j ly=>by
    by_cases lm:j=i
    ·subst lm;exact la
    ·exact Y j (by omega)
   obtain⟨v,ln,lo⟩:=this
   exact⟨v,by rw[<-ln];exact e,lo⟩
  ·have U:i=f.2.1.length:=by omega
   subst U
   exact aC ⟨fun q=>absurd rfl q,fun _=>⟨o,Y⟩⟩
theorem Pl(f:cK){w:List UInt8}(W:w.length<=1000):Has (xW 80000 f w) fun v=>(v.2≠0->v.1=[])/\(v.2=0->ge 80000 f=some 0/\il f.2.1/\(wl (al f) w).2=0/\ng (iP f w) (wl (al f) w).1.length f.2.1.length v.1/\∀j,j<f.2.1.length->nR f w j):=by
 have ld:=pI
 obtain⟨e,Y,Z⟩:=BK f
 unfold xW
 rw[show ge 80000 (((f.1.1,f.1.2.1,()),f.2.1,()):cK)=some e from Y,Option.bind_some]
 refine aH (fun h=>aC ⟨fun _=>rfl,fun q=>?_⟩) fun h=>?_
 ·rw[show e=0 from q]at h
  cases h
 have la:e=0:=by simpa using h
 subst la
 have o:=Z rfl
 rw[show gS 80000 ((f.1.1,f.1.2.1,()):aU) w=some (wl (al f) w)from rG (al f) (by omega),Option.bind_some]
 refine aH (fun h=>aC ⟨fun _=>rfl,fun q=>?_⟩) fun h=>?_
 ·rw[show(wl (al f) w).2=0 from q]at h
  cases h
 have O:(wl (al f) w).2=0:=by simpa using h
 have lf:=(jh _ _ O).2.1
 have lg:=o.le
 refine bT ⟨by omega,by omega,by omega⟩ ?_
 rw[Int.toNat_natCast]
 refine sf (Tv o W O 80000 0 _ (Nat.zero_le _) (by omega) ⟨by simp,fun k hk=>⟨by simp,fun j lc=>by omega⟩⟩ (fun j lc=>by omega)) fun v U=>⟨U.1,fun q=>⟨rfl,o,O,(U.2 q).1,(U.2 q).2⟩⟩
end Go.Ev
namespace Go.Ev
open Go
set_option linter.unusedVariables false
abbrev vG:Type:=bS×Int×Unit
abbrev Ix(β:Type):Type:=Int->List (List UInt8)->List ca->List (bS×Int)->β
theorem Pv{α β o:Type}{x:Option α}{f:α->Option o}{g:α->Option β}{M:β->o}(h:∀u,f u=(g u).map M):Option.bind x f=(Option.bind x g).map M:=by
 cases x with
 |none=>rfl
 |some u=>exact h u
theorem Qb(o:List bS){al:List (List bS)}{G:Ix (List (List bS)->Option (List vG×List (List bS)))}{go:Ix (Option (List vG))}(O:∀i b c m,G i b c m al=(go i b c m).map fun aa=>(aa,al))(t2:Int)(a2:List (List UInt8))(a3:List ca):∀n t m,
  sU o G t2 a2 a3 al n t m=(oK o go t2 a2 a3 n t m).map fun aa=>(aa,al):=by
 intro n
 induction n with
 |zero=>intro t m;rfl
 |succ n U=>
  intro t m
  unfold sU oK Kl C9
  split
  ·cases ao o t with
   |none=>rfl
   |some y=>exact U _ _
  ·exact O _ _ _ _
theorem WQ(v2:List bS)(m1:List (bS×Int))(al:List (List bS)):∀n t aa,vg v2 m1 al n t aa=(oh v2 m1 n t aa).map fun aa=>(aa,al):=by
 intro n
 induction n with
 |zero=>intro t m;rfl
 |succ n o=>
  intro t aa
  unfold vg oh IQ Cr
  split
  ·cases ao v2 t with
   |none=>rfl
   |some y=>
    rw[Option.bind_some,Option.bind_some]
    exact Pv fun u=>o _ _
  ·rfl
theorem SM(k:Nat)(a3:List ca)(m1:List (bS×Int))(al:List (List bS)):∀n t m,tV k a3 m1 al n t m=(mP k a3 m1 n t m).map fun aa=>(aa,al):=by
 intro n
 induction n with
 |zero=>intro t m;rfl
 |succ n o=>
  intro t m
  unfold tV mP J1 Bl
  split
  ·cases ao a3 t with
   |none=>rfl
   |some y=>exact o _ _
  ·cases r7 k m1 with
   |none=>rfl
   |some y=>
    rw[Option.bind_some,Option.bind_some]
    cases k8 k m1 m with
    |none=>rfl
    |some z=>exact WQ z m1 al k 0 []
theorem PT(k:Nat)(al:List (List bS)):∀n t a2 a3 m,sh k al n t a2 a3 m al=(o6 k al n t a2 a3 m).map fun aa=>(aa,al):=by
 intro n
 induction n with
 |zero=>intro t a2 a3 m;rfl
 |succ n o=>
  intro t a2 a3 m
  unfold sh o6 Jg zM
  split
  ·cases ao al t with
   |none=>rfl
   |some y=>exact Qb y o t a2 a3 k 0 m
  ·exact SM k a3 m al k 0 []
theorem VS(k:Nat)(a:aU)(al:List (List bS)):pp k a al=(rE k a al).map fun aa=>(aa,al):=by
 unfold pp rE
 exact PT k al k 0 a.1 a.2.1 []
def yr(a:aU)(v:List UInt8)(r:Int×List vG):Prop:=r.1=0->(wl a v).2=0/\(∀c∈r.2,c.1.1=c.1.2.1/\0<=c.2.1)/\eJ (r.2.map fun c=>c.2.1)=(wl a v).1.length/\r.2.length<=64
theorem OF(a:aU){v:List UInt8}(o:v.length<=65536):∀n,oJ 80000 [[v,v]] a (n+2) (0:Int) []=some (if(ww a v v).2.2=0 then(0,[(ww a v v).2.1])else((ww a v v).2.2,[])):=by
 intro n
 have O:=gh
 unfold oJ As
 rw[if_pos (by rfl),show ao [[v,v]] (0:Int)=some [v,v]from rfl,Option.bind_some,cO (by decide),Option.bind_some,show ao [v,v] (0:Int)=some v from rfl,Option.bind_some,cO (by decide),Option.bind_some,show ao [v,v] (1:Int)=some v from rfl,Option.bind_some]
 rw[show mc 80000 ((a.1,a.2.1,()):aU) v v=some (ww a v v)from L5 a o o,Option.bind_some]
 by_cases h:(ww a v v).2.2=0
 ·rw[if_neg (by simpa using h),if_pos h,cO (by simp only[List.length_cons,List.length_nil];omega),Option.bind_some]
  unfold oJ As
  rw[show((([[v,v]]:List aS).length:Nat):Int)=1 from rfl,if_neg (by decide)]
  rfl
 ·rw[if_pos (by simpa using h),if_neg h]
theorem Sq(a:aU)(W:cL a=true){v:List UInt8}(ld:v.length<=65536):Has (oP 80000 a [[v,v]]) (yr a v):=by
 unfold oP sq
 rw[show fL 80000 ((a.1,a.2.1,()):aU)=some (if cL a then 0 else 7)from r6 a,W,Option.bind_some]
 rw[show(if true=true then(0:Int)else 7)=0 from rfl,if_neg (by decide),show((([[v,v]]:List aS).length:Nat):Int)=1 from rfl,if_neg (by decide)]
 rw[show oJ 80000 [[v,v]] ((a.1,a.2.1,()):aU) 80000 (0:Int) []=_ from OF a ld 79998,Option.bind_some]
 by_cases h:(ww a v v).2.2=0
 ·rw[if_pos h]
  refine aH (fun q=>nomatch q) fun _=>?_
  have Y:=(y9 a v v h).1
  have Z:=jh a v Y
  have o:(ww a v v).2.1=(wl a v).1.map fun r=>(r,r,()):=by rw[Cu h,C4]
  rw[show pp 80000 ((a.1,a.2.1,()):aU) [(ww a v v).2.1]=_ from VS 80000 a _]
  obtain⟨u,lf,O⟩:=Xc a W (al:=[(ww a v v).2.1]) (by simp) (fun x la=>by
   simp only[List.mem_cons,List.not_mem_nil,or_false]at la
   subst la
   rw[o]
   refine⟨by rw[List.length_map];omega,fun p U=>?_⟩
   obtain⟨r,lc,rfl⟩:=List.mem_map.1 U
   exact⟨.inr (Z.2.2 r lc),.inr (Z.2.2 r lc)⟩) (by simp only[List.flatten_cons,List.flatten_nil,List.append_nil];rw[o,List.length_map];omega)
  rw[lf]
  refine aC fun _=>⟨Y,fun c lg=>?_,?_,?_⟩
  ·obtain⟨p,U,rfl⟩:=List.mem_map.1 lg
   have:=(O.mem p).1 U
   simp only[List.flatten_cons,List.flatten_nil,List.append_nil]at this
   rw[o]at this
   obtain⟨r,_,rfl⟩:=List.mem_map.1 this
   exact⟨rfl,((kT.nil.fold (([(ww a v v).2.1]:List (List bS)).flatten) (by simp only[List.flatten_cons,List.flatten_nil,List.append_nil,List.length_nil];rw[o,List.length_map];omega)).rT _).1⟩
  ·have:=O.sum
   simp only[List.flatten_cons,List.flatten_nil,List.append_nil]at this
   show eJ (List.map (fun c:vG=>c.2.1) (List.map (fun p=>(p,de (([(ww a v v).2.1]:List (List bS)).flatten.foldl bump []) p,())) u))=_
   rw[List.map_map]
   simp only[List.flatten_cons,List.flatten_nil,List.append_nil]
   rw[o,List.length_map]at this
   rw[o]
   exact this
  ·have:=O.len
   simp only[List.flatten_cons,List.flatten_nil,List.append_nil]at this
   rw[o,List.length_map]at this
   show(List.map _ u).length<=64
   rw[List.length_map]
   omega
 ·rw[if_neg h]
  refine aH (fun _=>aC fun q=>absurd q h) fun q=>?_
  simp at q
  exact absurd q h
end Go.Ev
namespace Go.Ev
open Go
set_option linter.unusedVariables false
theorem UD{f:cK}(W:cL (al f)=true)(x:Int){w:List UInt8}(lc:w.length<=1000):∀n,Has (pi 80000 [w] f x x (n+2) (0:Int) []) fun v4=>v4.1=0->(eU f w x).2=0/\yr (al f) (eU f w x).1 v4:=by
 intro n
 unfold pi FD
 rw[show((([w]:List (List UInt8)).length:Nat):Int)=1 from rfl,if_pos (by decide),show ao [w] (0:Int)=some w from rfl,Option.bind_some]
 refine bk (BA f w x) fun v2 Y=>?_
 refine aH (fun h=>aC fun q=>(by rw[show v2.2=0 from q]at h;cases h)) fun h=>?_
 have af:=Y.2 (by simpa using h)
 refine bk (BA f w x) fun v3 Z=>?_
 refine aH (fun h=>aC fun q=>(by rw[show v3.2=0 from q]at h;cases h)) fun h=>?_
 have o:=Z.2 (by simpa using h)
 have e:v3.1=v2.1:=by
  rw[af]at o
  exact(congrArg Prod.fst o).symm
 have O:=vO f (w:=w) (by omega) x
 rw[af]at O
 have ld:v2.1.length<=50000:=O
 refine bk (DL (al f) v2.1) fun v4 _=>?_
 have U:∀b,Has (vf [] v2 v3 (pi 80000 [w] f x x (n+1)) 0 b) fun v4=>v4.1=0->(eU f w x).2=0/\yr (al f) (eU f w x).1 v4:=by
  intro b
  unfold vf
  refine aH (fun _=>aC fun q=>nomatch q) fun _=>?_
  refine bT (by have:=gh;simp only[List.length_cons,List.length_nil];omega) ?_
  unfold pi FD
  rw[show((([w]:List (List UInt8)).length:Nat):Int)=1 from rfl,if_neg (by decide),e]
  refine bk (Sq (al f) W (v:=v2.1) (by omega)) fun lf la=>aC fun q=>⟨by rw[af],by rw[af];exact la⟩
 exact aH (fun _=>U _) fun _=>bk (DL (al f) v3.1) fun v5 _=>U _
theorem UJ(f:cK)(x:Int){w:List UInt8}(O:w.length<=1000):Has (sa 80000 f x x [w]) fun v4=>v4.1=0->(eU f w x).2=0/\yr (al f) (eU f w x).1 v4:=by
 unfold sa
 obtain⟨e,o,_⟩:=BK f
 have U:e=0->cL (al f)=true:=fun h=>by
  subst h
  unfold ge at o
  rw[show fL 80000 ((f.1.1,f.1.2.1,()):aU)=some (if cL (al f)then 0 else 7)from r6 (al f),Option.bind_some]at o
  cases W:cL (al f)with
  |true=>rfl
  |false=>rw[W]at o;cases o
 rw[show ge 80000 (((f.1.1,f.1.2.1,()),f.2.1,()):cK)=some e from o,Option.bind_some]
 refine aH (fun h=>aC fun q=>(by rw[show e=0 from q]at h;cases h)) fun h=>?_
 unfold Io
 refine aH (fun _=>aC fun q=>nomatch q) fun _=>?_
 refine aH (fun _=>aC fun q=>nomatch q) fun _=>?_
 exact UD (U (by simpa using h)) x O 79998
theorem T5{o:gr}(la:o.2.2.1.length<=200){go1:Int->List (List UInt8)->List ca->List gr->Option Bool}{i1:Int}{f2:List (List UInt8)}{f3:List ca}{f4:List gr}(Y:Has (go1 (ai (i1+1)) f2 f3 f4) fun _=>True):
  ∀n (k:Nat),k<=o.2.2.1.length->o.2.2.1.length-k<n->Has (jb o go1 i1 f2 f3 f4 n (k:Int)) fun _=>True:=by
 intro n
 induction n with
 |zero=>intro k _ h;omega
 |succ n Z=>
  intro k h1 lc
  unfold jb yA
  refine bU (fun ld=>?_) fun _=>Y
  refine bH (by omega) fun lf _=>?_
  have O:∀b,Has (rf (jb o go1 i1 f2 f3 f4 n) (k:Int) b) fun _=>True:=fun b=>by
   unfold rf
   rw[bu (by omega)]
   exact aH (fun _=>aC trivial) fun _=>Z (k+1) (by omega) (by omega)
  have U:∀b,Has (qZ (jb o go1 i1 f2 f3 f4 n) (k:Int) o b) fun _=>True:=fun b=>by
   unfold qZ
   exact aH (fun _=>O _) fun _=>bH (by omega) fun _ _=>O _
  have W:∀b,Has (rQ (jb o go1 i1 f2 f3 f4 n) (k:Int) o b) fun _=>True:=fun b=>by
   unfold rQ
   exact aH (fun _=>U _) fun _=>bH (by omega) fun _ _=>U _
  unfold vH
  exact aH (fun _=>W _) fun _=>bH (by omega) fun _ _=>W _
theorem PP(f2:List (List UInt8))(f3:List ca){f4:List gr}(U:f4.length<=100):∀n (i:Nat),i<=f4.length->f4.length-i<n->Has (hZ 80000 n (i:Int) f2 f3 f4) fun _=>True:=by
 intro n
 induction n with
 |zero=>intro i _ h;omega
 |succ n o=>
  intro i h1 W
  unfold hZ zp
  refine bU (fun Y=>?_) fun _=>aC trivial
  refine bH (by omega) fun Z _=>?_
  unfold zr we uu
  refine aH (fun _=>aH (fun _=>aC trivial) fun q=>nomatch q) fun O=>?_
  simp only[Bool.or_eq_false_iff,decide_eq_false_iff_not]at O
  refine bH (by omega) fun la _=>?_
  refine aH (fun _=>aC trivial) fun _=>?_
  refine T5 (by omega) ?_ 80000 0 (Nat.zero_le _) (by omega)
  rw[bu (by omega)]
  exact o (i+1) (by omega) (by omega)
theorem TA(f:cK):Has (r8 80000 f) fun _=>True:=by
 unfold r8 xX yq sV
 refine aH (fun _=>aH (fun _=>aC trivial) fun q=>nomatch q) fun h=>?_
 simp only[Bool.or_eq_false_iff,decide_eq_false_iff_not]at h
 obtain⟨b,o,_⟩:=Qc (al f) (l:=[]) (fun g O=>by cases O)
 rw[show uJ 80000 ((f.1.1,f.1.2.1,()):aU) []=some b from o,Option.bind_some]
 refine aH (fun _=>aC trivial) fun _=>?_
 exact PP _ _ (by omega) 80000 0 (Nat.zero_le _) (by omega)
/-! The law's loops. -/
theorem RG{z:List Int}{v3:List (List Int)×Int}{k i:Nat}{b:Int}{row:List Int}(Y:v3.1[k]? =some row)(Z:row[i]? =some b)(ll:z.length<=70000){U:List Int}
  {W:Int->Int->List (List UInt8)->List ca->List gr->List Int->Option Bool}{f8:List (List UInt8)}{f9:List ca}{f10:List gr}{v6:List UInt8×Int}(la:v6.2=0)
  (lc:∀a:Nat,a<=z.length->U.Sublist (z.drop a)->Has (W (a:Int) (ai ((k:Int)+1)) f8 f9 f10 z) fun r=>r=true):
  ∀n (a:Nat),a<=z.length->z.length-a<n->(b::U).Sublist (z.drop a)->Has (vq z v3 (k:Int) (i:Int) W f8 f9 f10 v6 n (a:Int)) fun r=>r=true:=by
 intro n
 induction n with
 |zero=>intro a _ h;omega
 |succ n ld=>
  intro a h1 lm o
  have O:a<z.length:=by
   refine Nat.lt_of_not_le fun lf=>?_
   rw[List.drop_eq_nil_of_le lf]at o
   cases o
  unfold vq Mv
  refine bU (fun _=>?_) fun q=>absurd (by omega) q
  refine bH O fun lg lh=>?_
  rw[rA,Y,Option.bind_some,rA,Z,Option.bind_some]
  rw[List.drop_eq_getElem_cons O,lh]at o
  unfold yw
  refine aH (fun li=>?_) fun lj=>?_
  ·rw[bu (by omega)]
   refine ld (a+1) O (by omega) ?_
   cases o with
   |cons _ h=>exact h
   |cons_cons _ h=>simp at li
  ·have lk:lg=b:=by simpa using lj
   subst lk
   unfold J7
   refine aH (fun q=>?_) fun _=>?_
   ·rw[la]at q
    simp at q
    omega
   unfold sm
   rw[bu (n:=a) (by omega)]
   exact lc (a+1) O (List.cons_sublist_cons.1 o)
theorem VV{z:List Int}{v3:List (List Int)×Int}{ls:List Int}{i:Nat}{B:List Int}(lo:ls.length<=64)(lp:B.length=ls.length)(lf:z.length<=70000)(lq:v3.1.length=ls.length)
  (lg:∀k (h:k<v3.1.length),(v3.1[k]'h)[i]? =B[k]?) {v5:List Int×Int} (lh:v5.1=ls)
  {go2:Int->List (List UInt8)->List ca->List gr->Option Bool} {v6:List UInt8×Int} (li:v6.2=0) {f8:List (List UInt8)} {f9:List ca} {f10:List gr} (lj:Has (go2 (ai ((i:Int)+1)) f8 f9 f10) fun r=>r=true):
  ∀n (a k:Nat),k<=ls.length->ls.length-k<n->a<=z.length->((B.drop k).filter (· !=0)).Sublist (z.drop a)->Has (tm 80000 v5 v3 (i:Int) v6 go2 n (a:Int) (k:Int) f8 f9 f10 z) fun r=>r=true:=by
 intro n
 induction n with
 |zero=>intro a k _ h;omega
 |succ n la=>
  intro a k h1 lr lc o
  unfold tm KW
  rw[lh]
  refine bU (fun lt=>?_) fun _=>lj
  have hk:k<ls.length:=by omega
  have U:k<v3.1.length:=by omega
  have O:k<B.length:=by omega
  refine bH U fun lk ld=>?_
  have W:=lg k U
  rw[ld,List.getElem?_eq_getElem O]at W
  rw[rA,W,Option.bind_some]
  rw[List.drop_eq_getElem_cons O,List.filter_cons]at o
  refine aH (fun Y=>?_) fun Y=>?_
  ·have Z:B[k]'O=0:=by simpa using Y
   rw[if_neg (by simp[Z])]at o
   unfold sm
   rw[bu (by omega)]
   exact la a (k+1) hk (by omega) lc o
  ·have Z:((B[k]'O)!=0)=true:=by simpa using Y
   rw[if_pos Z]at o
   refine RG (row:=lk) (by rw[List.getElem?_eq_getElem U,ld]) W lf li (fun ll lm ln=>?_) 80000 a lc (by omega) o
   rw[bu (by omega)]
   exact la ll (k+1) hk (by omega) lm ln
end Go.Ev
namespace Go.Ev
open Go
set_option linter.unusedVariables false
theorem WJ(a:aU){w:List UInt8}(o:w.length<=65536):kD 80000 a w=some (wl a w).2:=by
 unfold kD
 rw[show gS 80000 ((a.1,a.2.1,()):aU) w=some (wl a w)from rG a o,Option.bind_some]
theorem Vg{f:cK}(O:ge 80000 f=some 0)(h:il f.2.1){w:List UInt8}(Z:w.length<=65536)(la:(wl (al f) w).2=0)(o:(eU f w 0).2=0):(eU f w 0).1=w:=by
 have ld:=h.le
 have lf:=h.pos
 have e:jk 80000 f (0:Int) w=some (ow f (gV (par f.2.1) 0) w):=by
  unfold jk
  have lc:o3 80000 f [(0:Int)]=some 0:=by
   rw[Jo O [(0:Int)] (by simp),if_neg (by simp),if_pos]
   simp only[List.all_cons,List.all_nil,Bool.and_true,jo,Bool.and_eq_true,decide_eq_true_eq]
   omega
  rw[show o3 80000 (((f.1.1,f.1.2.1,()),f.2.1,()):cK) [(0:Int)]=some 0 from lc,Option.bind_some,if_neg (by simp)]
  rw[show kD 80000 ((f.1.1,f.1.2.1,()):aU) w=some 0 from(WJ (al f) Z).trans (by rw[la]),Option.bind_some,if_neg (by simp)]
  rw[show ro 80000 (((f.1.1,f.1.2.1,()),f.2.1,()):cK) (0:Int)=some (ints (gV (par f.2.1) 0))from Hy h (t:=0) (by omega),Option.bind_some]
  have U:=Kb h 0
  have:=LD (f:=f) (v3:=gV (par f.2.1) 0) (by omega) (fun x W=>by unfold gV at W;have:=MK 0 (List.mem_reverse.1 W);omega) 80000 0 w (Nat.zero_le _) (by omega)
  rw[show pY 80000 (ints (gV (par f.2.1) 0)) f 80000 w (0:Int)=_ from this,List.drop_zero]
 rw[uW]at e
 have Y:eU f w 0=ow f (gV (par f.2.1) 0) w:=Option.some.inj e
 have U:gV (par f.2.1) 0=[0]:=by unfold gV;rw[CQ];rfl
 rw[U,ow,Ma (by omega),QM O (by omega)]at Y
 rw[Y]at o⊢
 split
 ·rename_i q
  show(cU (al f) [] w).1=w
  exact NJ _ _ q
 ·rename_i q
  rw[if_neg q]at o
  exact absurd o q
theorem GR:∀{l:List Int},(0:Int)∉l->eL (l.map fun r=>(r,r,()))=l
 |[],_=>rfl
 |x::xs,h=>by
  rw[List.mem_cons,not_or]at h
  rw[List.map_cons,qd,if_pos (by simpa using Ne.symm h.1),GR h.2]
theorem Nz{f:cK}(O:ge 80000 f=some 0)(h:il f.2.1){w:List UInt8}(U:w.length<=65536)(o:(wl (al f) w).2=0)(W:(eU f w 0).2=0):iP f w 0=(wl (al f) w).1:=by
 unfold iP
 rw[show((0:Nat):Int)=0 from rfl,Vg O h U o W,C4,GR (ui o)]
theorem T9{f:cK}(Y:il f.2.1){w:List UInt8}(lh:w.length<=1000)(O:(wl (al f) w).2=0){v3:List (List Int)×Int}(W:ng (iP f w) (wl (al f) w).1.length f.2.1.length v3.1)(Z:∀j,j<f.2.1.length->nR f w j){v5:List Int×Int}(la:v5.1=(wl (al f) w).1):
  ∀n (i:Nat),i<=f.2.1.length->f.2.1.length-i<n->Has (rZ 80000 w v5 v3 true n (i:Int) f.1.1 f.1.2.1 f.2.1) fun r=>r=true:=by
 have li:=gh
 have lj:=Y.le
 have lc:=(jh _ _ O).2.1
 intro n
 induction n with
 |zero=>intro i _ h;omega
 |succ n ld=>
  intro i h1 lk
  unfold rZ HU
  refine bU (fun ll=>?_) fun _=>aC rfl
  have U:i<f.2.1.length:=by omega
  have o:=Z i U
  have lm:=vO f (w:=w) (by omega) (i:Int)
  rw[show jk 80000 (((f.1.1,f.1.2.1,()),f.2.1,()):cK) (i:Int) w=some (eU f w i)from uW f w i,Option.bind_some]
  refine bT (by omega) ?_
  rw[<-WR (al f) (by omega) o.2]
  have ln:=(jh _ _ o.2).2.1
  have lf:=Gu O o
  have hk:=(Ks (al f) _ (wl (al f) w).1 (wl (al f) (eU f w i).1).1 (Nat.le_refl _) (ui O) (ui o.2)).2
  have lg:Has (rZ 80000 w v5 v3 true n (ai ((i:Int)+1)) f.1.1 f.1.2.1 f.2.1) fun r=>r=true:=by
   rw[bu (by omega)]
   exact ld (i+1) U (by omega)
  exact VV (ls:=(wl (al f) w).1) (B:=iP f w i) lc lf (by omega) W.1 (fun k hk=>(W.2 k hk).2 i U) la o.1 lg 80000 0 0 (Nat.zero_le _) (by omega) (Nat.zero_le _) hk
theorem RN{f:cK}(lg:ge 80000 f=some 0)(o:il f.2.1){w:List UInt8}(lh:w.length<=1000)(O:(wl (al f) w).2=0){v3:List (List Int)×Int}(U:ng (iP f w) (wl (al f) w).1.length f.2.1.length v3.1)(W:∀j,j<f.2.1.length->nR f w j){v5:List Int×Int}(Y:v5.1=(wl (al f) w).1):
  ∀n (k:Nat),k<=(wl (al f) w).1.length->(wl (al f) w).1.length-k<n->Has (so 80000 v5 v3 f.2.1 w true f.1.1 f.1.2.1 n (k:Int)) fun r=>r=true:=by
 have lp:=o.le
 have Z:=o.pos
 have lq:=(jh _ _ O).2.1
 intro n
 induction n with
 |zero=>intro i _ h;omega
 |succ n li=>
  intro k h1 lr
  unfold so MT
  rw[Y]
  refine bU (fun lt=>?_) fun _=>T9 o lh O U W Y 80000 0 (Nat.zero_le _) (by omega)
  have hk:k<(wl (al f) w).1.length:=by omega
  have la:k<v3.1.length:=by rw[U.1];exact hk
  refine bH la fun lu lj=>?_
  obtain⟨lc,ld⟩:=U.2 k la
  rw[lj]at lc ld
  refine aH (fun q=>?_) fun _=>?_
  ·rw[lc]at q
   simp at q
  refine bH (i:=0) (by omega) fun lk ll=>?_
  refine bH hk fun lm ln=>?_
  have lf:=ld 0 Z
  rw[Nz lg o (by omega) O (W 0 Z).1,List.getElem?_eq_getElem (by omega),List.getElem?_eq_getElem hk,ll,ln]at lf
  have lo:lk=lm:=Option.some.inj lf
  subst lo
  unfold xZ
  refine aH (fun q=>?_) fun _=>?_
  ·simp at q
  rw[bu (by omega)]
  exact li (k+1) hk (by omega)
theorem It(f:cK){w:List UInt8}(W:w.length<=1000){v3:List (List Int)×Int}
  (O:(v3.2≠0->v3.1=[])/\(v3.2=0->ge 80000 f=some 0/\il f.2.1/\(wl (al f) w).2=0/\ng (iP f w) (wl (al f) w).1.length f.2.1.length v3.1/\∀j,j<f.2.1.length->nR f w j)):
  Has (ut 80000 v3 true w f.1.1 f.1.2.1 f.2.1) fun r=>r=true:=by
 unfold ut
 refine aH (fun h=>?_) fun h=>?_
 ·have:v3.1=[]:=O.1 (by simpa using h)
  unfold JO
  rw[this]
  exact aC rfl
 obtain⟨Y,Z,o,U,la⟩:=O.2 (by simpa using h)
 have lc:=(jh _ _ o).2.1
 rw[show gS 80000 ((f.1.1,f.1.2.1,()):aU) w=some (wl (al f) w)from rG (al f) (by omega),Option.bind_some]
 unfold GB
 refine aH (fun q=>?_) fun _=>?_
 ·rw[o,U.1]at q
  simp at q
 exact RN Y Z W o U la rfl 80000 0 (Nat.zero_le _) (by omega)
theorem Wx{v4:Int×List vG}{v3:List (List Int)×Int}{w:List UInt8}{f:cK}{O:List Int×Int}{W:List UInt8×Int}{m:Nat}(lh:m<=64)(li:v4.2.length<=64)(Y:∀c∈v4.2,c.1.1=c.1.2.1/\0<=c.2.1)
  (la:Has (EL 80000 v3 true w f (m:Int) O ((W.2 !=0)||(O.2 !=0))) fun r=>r=true):
  ∀n (k:Nat) (o:Int),k<=v4.2.length->v4.2.length-k<n->0<=o->o+eJ ((v4.2.drop k).map fun c=>c.2.1)=(m:Int)->Has (tw 80000 v4 v3 true w f O W n o (k:Int)) fun r=>r=true:=by
 intro n
 induction n with
 |zero=>intro k o _ h;omega
 |succ n lc=>
  intro k o h1 lj lk U
  unfold tw JJ
  refine bU (fun ll=>?_) fun lm=>?_
  ·have hk:k<v4.2.length:=by omega
   refine bH hk fun x Z=>?_
   obtain⟨ld,ln⟩:=Y x (Z▸List.getElem_mem _)
   refine aH (fun q=>?_) fun _=>?_
   ·rw[ld]at q
    simp at q
   rw[List.drop_eq_getElem_cons hk,Z,List.map_cons,eJ]at U
   have lo:0<=eJ ((v4.2.drop (k+1)).map fun c=>c.2.1):=Jw fun y lf=>by
    obtain⟨c,lg,rfl⟩:=List.mem_map.1 lf
    exact(Y c (List.mem_of_mem_drop lg)).2
   rw[dl (x:=o+x.2.1) (by omega),bu (by omega)]
   exact lc (k+1) _ hk (by omega) (by omega) (by omega)
  ·rw[List.drop_eq_nil_of_le (by omega)]at U
   have:o=(m:Int):=by
    simp only[List.map_nil,eJ]at U
    omega
   rw[this]
   exact la
theorem QF(f:cK)(x:Int)(w:List UInt8):ud 80000 f x w=some true:=by
 have:Has (ud 80000 f x w) fun r=>r=true:=by
  unfold ud
  rw[Uy,Option.bind_some]
  refine bk (TA f) fun b _=>?_
  unfold KX
  refine aH (fun _=>aC rfl) fun Y=>?_
  simp only[Bool.or_eq_false_iff,decide_eq_false_iff_not]at Y
  have o:w.length<=1000:=by omega
  refine bk (Pl f o) fun v3 O=>?_
  refine bk (UJ f x o) fun v4 Z=>?_
  refine aH (fun h=>?_) fun _=>It f o O
  have U:v4.1=0:=by simpa using h
  obtain⟨af,la⟩:=Z U
  obtain⟨W,lc,ld,lf⟩:=la U
  have lh:=vO f (w:=w) (by omega) x
  rw[show jk 80000 (((f.1.1,f.1.2.1,()),f.2.1,()):cK) x w=some (eU f w x)from uW f w x,Option.bind_some]
  rw[show gS 80000 ((f.1.1,f.1.2.1,()):aU) (eU f w x).1=some (wl (al f) (eU f w x).1)from rG (al f) (by omega),Option.bind_some]
  refine Wx (jh _ _ W).2.1 lf lc ?_ 80000 0 0 (Nat.zero_le _) (by omega) (Int.le_refl _) (by rw[List.drop_zero,ld];omega)
  unfold EL Gb
  refine aH (fun q=>?_) fun _=>It f o O
  rw[af,W]at q
  simp at q
 obtain⟨b,e,lg⟩:=this
 rw[e,lg]
def LQ:Nat:=80000
theorem S4(o:cK)(O:Int)(U:List UInt8):ud LQ o O U=some true:=QF o O U
end Go.Ev
namespace Go.Ev
open Go Go.RowKit Go.WideShapes
variable [b6]
def mf:(t:ag)->t.el->Prop
 |.int k,n=>(Lit.int k n).wf=true
 |.str,s=>List.length (α:=UInt8) s<=maxLen
 |.ab t,xs=>List.length (α:=t.el) xs<=maxLen/\∀x∈(show List t.el from xs),mf t x
 |.pair a b,x=>mf a x.1/\mf b x.2
 |.arr n t,xs=>List.length (α:=t.el) xs=n/\∀x∈(show List t.el from xs),mf t x
 |_,_=>True
def nd:ag->Bool
 |.int _=>true
 |.bool=>true
 |.str=>true
 |.ab t=>nd t
 |.unit=>true
 |.pair a b=>nd a&&nd b
 |.arr _ t=>nd t
 |_=>false
theorem TX{w:World}{a:Addr}{n:Nat}{c:List Value}(h:w.cells? 0 a n=some c):c.length=n/\∀j v,c[j]? =some v->w.cell? (a.add j)=some v:=by
 unfold World.cells? at h
 rw[if_pos (Nat.zero_le _)]at h
 have o:c.length=n:=by simpa using mapM_some_length h
 refine⟨o,fun j v O=>?_⟩
 have U:j<n:=by rw[<-o];exact(List.getElem?_eq_some_iff.1 O).1
 have:=mapM_some_get h j j (by simp[U])
 rw[this,O]
theorem zS{α:Type}{f:List Value->α->Prop}:∀{xs:List α} {cs c:List Value} {x:α},bD f cs xs->f c x->bD f (cs++c) (xs++[x])
 |[],cs,c,x,h,o=>by cases h;exact⟨c,[],by simp,o,rfl⟩
 |y::U,cs,c,x,⟨c1,c2,e,h1,O⟩,o=>⟨c1,c2++c,by simp[e],h1,zS O o⟩
theorem Je{α:Type}{p:α->Prop}{xs:List α}{y:α}(h:∀x∈xs,p x)(O:p y):∀x∈xs++[y],p x:=by
 intro x o
 rcases List.mem_append.1 o with o|o
 ·exact h x o
 ·simp at o;subst o;exact O
theorem HX{H:Type}{enc:TypeId×Value->H}{P:Program}{w:World}{spare:Nat->Bool}{held:Bool}{d n:Nat}
  (Z:∀(t:TypeId) (u:ag),cD P d t=some u->nd u=true->∀(o:List Value) (x:DataW H×List MemPlace),DataW.trod enc P w 0 spare held n t o=some x->∃y:u.el,aF w (fun _=>False) u o y/\mf u y):
  ∀(O:List Field) (off:Nat) (u:ag),fieldsOf (cD P d) off O=some u->nd u=true->∀(o:List Value),o.length=off+u.cells->(∀f∈O,∃x,DataW.trod enc P w 0 spare held n f.type ((o.drop f.offset).take (P.cellsOf f.type))=some x)->
   ∃y:u.el,aF w (fun _=>False) u (o.drop off) y/\mf u y
 |[],off,u,h,_,o,U,_=>by
  simp only[fieldsOf,Option.some.injEq]at h
  subst h
  refine⟨(),?_,trivial⟩
  show o.drop off=[]
  exact List.drop_eq_nil_of_le (by rw[U];exact Nat.le_refl _)
 |fd::O,off,u,h,W,o,U,la=>by
  unfold fieldsOf at h
  cases Y:Nat.beq fd.offset off with
  |false=>rw[Y]at h;cases h
  |true=>
   have ld:=Nat.eq_of_beq_eq_true Y
   rw[Y,cond_true]at h
   split at h
   ·rename_i a lc
    split at h
    ·rename_i b lf
     cases h
     simp only[nd,Bool.and_eq_true]at W
     obtain⟨x,lg⟩:=la fd List.mem_cons_self
     obtain⟨y,h1,lh⟩:=Z fd.type a lc W.1 _ x lg
     have li:o.length=(off+a.cells)+b.cells:=by rw[U];show off+(a.cells+b.cells)=_;omega
     obtain⟨z,lj,lk⟩:=HX Z O (off+a.cells) b lf W.2 o li fun f ll=>la f (List.mem_cons_of_mem _ ll)
     refine⟨(y,z),⟨(o.drop off).take a.cells,o.drop (off+a.cells),?_,?_,lj⟩,lh,lk⟩
     ·rw[<-List.drop_drop,List.take_append_drop]
     ·rw[ld,xz lc]at h1;exact h1
    ·cases h
   ·cases h
theorem yS{H:Type}{enc:TypeId×Value->H}{P:Program}{w:World}{spare:Nat->Bool}{held:Bool}:∀(d:Nat) (t:TypeId) (u:ag),cD P d t=some u->nd u=true->∀(lr:Nat) (Z:List Value) (x:DataW H×List MemPlace),
  DataW.trod enc P w 0 spare held lr t Z=some x->∃y:u.el,aF w (fun _=>False) u Z y/\mf u y
 |0,_,_,h=>by cases h
 |d+1,t,u,h=>by
  intro ld lr Z x la
  unfold cD at h
  split at h
  ·rename_i i k Y O
   cases o:Nat.beq i.size 1<;>rw[o]at h<;>cases h
   obtain⟨n,rfl,_,lm⟩:=DataW.trod_int O la
   exact⟨n,rfl,lm⟩
  ·rename_i i Y O
   cases o:Nat.beq i.size 1<;>rw[o]at h<;>cases h
   obtain⟨b,rfl,_⟩:=DataW.trod_bool O la
   exact⟨b,rfl,trivial⟩
  ·rename_i i Y O
   cases o:Nat.beq i.size 1<;>rw[o]at h<;>cases h
   obtain⟨s,rfl,_,lm⟩:=DataW.trod_string O la
   have lh:List.length s.data.toList<=maxLen:=by rw[Array.length_toList];exact lm
   exact⟨s.data.toList,⟨rfl,lh⟩,lh⟩
  ·rename_i i e Y O
   cases o:Nat.beq i.size 1<;>rw[o]at h
   ·cases h
   rw[cond_true]at h
   split at h
   case h_2=>cases h
   rename_i v lf
   cases h
   rcases DataW.trod_slice O la with ⟨rfl,_⟩|⟨a,len,cap,ly,rest,n,_,rfl,_,_,lt,lu,lM,li,_⟩
   ·exact⟨[],⟨none,0,[],rfl,Nat.le_refl _,by decide,fun _=>rfl,rfl,fun j u W=>by simp at W⟩,Nat.zero_le _,fun x la=>by cases la⟩
   ·have key:∀k,k<=len->∃(U:List v.el) (cells:List Value),U.length=k/\bD (aF w (fun _=>False) v) cells U/\(∀y∈U,mf v y)/\cells.length=k*v.cells/\∀j u,cells[j]? =some u->w.cell? (a.add j)=some u:=by
     intro k
     induction k with
     |zero=>intro _;exact⟨[],[],rfl,rfl,(fun y ln=>by cases ln),by simp,fun j u W=>by simp at W⟩
     |succ k lo=>
      intro hk
      obtain⟨U,cells,h1,lc,lg,lk,lp⟩:=lo (by omega)
      have lj:=li k (by omega)
      have:∃z,ly[k]? =some z:=⟨_,List.getElem?_eq_getElem (by omega)⟩
      obtain⟨z,lq⟩:=this
      rw[lq,Option.bind_eq_some_iff]at lj
      obtain⟨c,lz,lA⟩:=lj
      obtain⟨c1,c2⟩:=TX lz
      obtain⟨y,ll,cY⟩:=yS d e v lf ld n c z lA
      rw[xz lf]at c1 c2
      refine⟨U++[y],cells++c,by simp[h1],zS lc ll,Je lg cY,by rw[List.length_append,lk,c1,Nat.succ_mul],fun j u W=>?_⟩
      by_cases lv:j<cells.length
      ·rw[List.getElem?_append_left lv]at W;exact lp j u W
      ·rw[List.getElem?_append_right (by omega)]at W
       have:=c2 _ u W
       rw[add_add,lk]at this
       rw[lk]at lv
       rwa [show k*v.cells+(j-k*v.cells)=j by omega]at this
    obtain⟨U,cells,h1,lc,lg,lk,lp⟩:=key len (Nat.le_refl _)
    refine⟨U,⟨some a,cap,cells,by rw[h1],by rw[h1];exact lt,lu,(fun lB:some a=none=>by cases lB),lc,fun j u W=>⟨a,rfl,lp j u W,fun h=>h⟩⟩,by rw[h1];exact Nat.le_trans lt lu,lg⟩
  ·rename_i i lw Y O
   split at h
   case h_2=>cases h
   rename_i v lf
   cases o:Nat.beq i.size v.cells<;>rw[o]at h<;>cases h
   obtain⟨xs,n,_,_,lh,lC,li⟩:=DataW.trod_struct O la
   have lx:Z.length=u.cells:=by
    rw[lh]
    simp[Program.cellsOf,Y,Nat.eq_of_beq_eq_true o]
   have:=HX (n:=n) (fun lD lE lF lG lH x' lI=>yS d lD lE lF lG n lH x' lI) lw.toList 0 u lf ld Z (by rw[lx,Nat.zero_add]) (by
    intro f lJ
    obtain⟨j,W,e⟩:=List.getElem_of_mem lJ
    have lK:j<lw.size:=by simpa using W
    have:=li j f (by rw[Array.getElem?_eq_getElem lK,<-e];simp)
    rw[this]
    exact⟨_,List.getElem?_eq_getElem (by omega)⟩)
   rw[List.drop_zero]at this
   exact this
  ·rename_i i lN Y O
   cases o:Nat.beq i.size 1<;>rw[o]at h<;>cases h
   cases ld
  ·rename_i i n e Y O
   split at h
   case h_2=>cases h
   rename_i v lf
   cases o:Nat.beq i.size (n*v.cells)<;>rw[o]at h<;>cases h
   obtain⟨xs,m,_,_,lh,lC,li⟩:=DataW.trod_array O la
   have lx:Z.length=n*v.cells:=by
    rw[lh]
    simp[Program.cellsOf,Y,Nat.eq_of_beq_eq_true o]
   have key:∀k,k<=n->∃U:List v.el,U.length=k/\bD (aF w (fun _=>False) v) (Z.take (k*v.cells)) U/\∀y∈U,mf v y:=by
    intro k
    induction k with
    |zero=>intro _;exact⟨[],rfl,by simp[bD],fun y ln=>by cases ln⟩
    |succ k lo=>
     intro hk
     obtain⟨U,h1,lc,lg⟩:=lo (by omega)
     have lj:=li k (by omega)
     obtain⟨z,lq⟩:∃z,xs[k]? =some z:=⟨_,List.getElem?_eq_getElem (by omega)⟩
     rw[lq]at lj
     obtain⟨y,ll,cY⟩:=yS d e v lf ld m _ z lj
     rw[xz lf]at ll
     refine⟨U++[y],by simp[h1],?_,Je lg cY⟩
     have lL:Z.take ((k+1)*v.cells)=Z.take (k*v.cells)++(Z.drop (k*v.cells)).take v.cells:=by
      rw[Nat.succ_mul,List.take_add]
     rw[lL]
     exact zS lc ll
   obtain⟨U,h1,lc,lg⟩:=key n (Nat.le_refl _)
   rw[List.take_of_length_le (by omega)]at lc
   exact⟨U,⟨h1,lc⟩,h1,lg⟩
  ·rename_i i k e Y O
   cases o:Nat.beq i.size 1<;>rw[o]at h
   ·cases h
   rw[cond_true]at h
   split at h
   ·cases h;cases ld
   ·cases h
  ·rename_i i a b c Y O
   cases o:Nat.beq i.size 1<;>rw[o]at h<;>cases h
   cases ld
  ·rename_i i e Y O
   cases o:Nat.beq i.size 1<;>rw[o]at h<;>cases h
   cases ld
  ·cases h
theorem A9{H:Type}{enc:TypeId×Value->H}{P:Program}{w:World}{spare:Nat->Bool}{held:Bool}{r:Reach}{ld:Nat}{t:TypeId}{u:ag}(la:ty P t=some u)(lc:nd u=true){v:Value}{d:DataW H}{ps:List MemPlace}
  (o:Value.okWide P w r ld t v)(af:DataW.Trod enc P w 0 spare held t v d ps):∃x:u.el,a8 w (fun _=>False) v u x/\mf u x:=by
 obtain⟨lf,lg⟩:=af
 obtain⟨x,h1,lh⟩:=yS jp t u la lc lf _ _ lg
 refine⟨x,?_,lh⟩
 obtain⟨i,lj,lk,O⟩:=dn la
 cases W:u.agg with
 |true=>
  have:∃U,v=.agg U:=by
   have Z:(∃Y,P.underlying t=some (.struct Y))\/∃n e,P.underlying t=some (.array n e):=by
    cases u with
    |unit=>obtain⟨Y,_,h,_⟩:=O;exact .inl ⟨Y,h⟩
    |pair a b=>obtain⟨Y,_,h,_⟩:=O;exact .inl ⟨Y,h⟩
    |arr n t=>obtain⟨e,_,h,_⟩:=O;exact .inr ⟨n,e,h⟩
    |_=>cases W
   unfold Value.okWide at o
   rcases Z with ⟨Y,h⟩|⟨n,e,h⟩
   ·rw[h]at o;obtain⟨U,e,_⟩:=o;exact⟨U,e⟩
   ·rw[h]at o;obtain⟨U,e,_⟩:=o;exact⟨U,e⟩
  obtain⟨U,rfl⟩:=this
  exact(eA W).2 ⟨U.toList,by simp,h1⟩
 |false=>
  refine(bZ W).2 ?_
  have li:v.cells.toList=[v]:=by
   cases u with
   |int k=>obtain⟨n,rfl⟩:=okWide_int O o;rfl
   |bool=>obtain⟨n,rfl⟩:=okWide_bool O o;rfl
   |str=>obtain⟨n,rfl⟩:=okWide_string O o;rfl
   |ab e=>obtain⟨ll,_,Z,_⟩:=O;obtain⟨a,l,c,rfl⟩:=okWide_slice Z o;rfl
   |unit=>cases W
   |pair a b=>cases W
   |arr n t=>cases W
   |_=>cases lc
  rw[li]at h1
  exact h1
end Go.Ev
