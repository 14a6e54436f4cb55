/- Plain laws: checks come to an end: patterns, rules, laws; languages' names. -/
import Derived.Test.YteopobecmacgdaaGreatDoorMM8
import Derived.Test.YteopobecmacgdaaGreatDoorMM7
import Derived.Test.YteopobecmacgdaaGreatDoorMM6
import Derived.Test.YteopobecmacgdaaGreatDoorMM4
import Derived.Test.YteopobecmacgdaaGreatDoorTyA
set_option linter.unusedSectionVars false
set_option linter.unusedVariables false
set_option linter.unusedSimpArgs false
namespace Go.Ev
open Go
set_option linter.unusedVariables false
abbrev Node:Type:=Int×Int×Int×Int×List Int×Unit
abbrev jy:Type:=List Node×Unit
theorem KE(l:List Bool)(q:l.length<=1000)(v:Bool):cj (pt 80000 l v):=by
 unfold pt zr
 refine dp (ql (L:=px l v) (len:=l.length) (by omega) ?_ 80000 0 (Nat.zero_le _) (by omega)) fun _ _=>cd _
 intro n i hi o
 unfold px DG
 exact gL (fun h=>dp (kP (by omega)) fun _ _=>cL (fun _=>cd _) fun _=>o (by omega)) fun _=>cd _
theorem wL{l:List Bool}{i:Nat}(h:i<l.length)(o:l[i]=false):(l.set i true).count false+1=l.count false:=by
 rw[List.count_set h,o]
 have:0<l.count false:=List.count_pos_iff.2 (o▸List.getElem_mem h)
 simp
 omega
theorem SN(x:Node)(i:Nat)(p:jy)(q:Int->List Bool->Option Bool)(Y:p.1.length<=256)(U:∀t,t.length=p.1.length->cj (q (am ((i:Int)+1)) t)):
  ∀n j (t:List Bool),t.length=p.1.length->t.count false<n->j+t.count false<=1000->cj (pc x (i:Int) p q n (j:Int) t):=by
 intro n
 induction n with
 |zero=>intro j t _ h;omega
 |succ n W=>
  intro j t O Z la
  unfold pc Ch
  refine gL (fun lb=>?_) fun _=>U t O
  refine dp (kP (by omega)) fun y _=>?_
  unfold B9
  refine cL (fun _=>⟨false,rfl⟩) fun R=>?_
  have lc:(i:Int)<y/\y<(p.1.length:Int):=by
   simp only[Bool.or_eq_false_iff,decide_eq_false_iff_not]at R
   omega
  obtain⟨m,rfl⟩:∃m:Nat,y=(m:Int):=⟨y.toNat,by omega⟩
  have o:m<t.length:=by omega
  rw[fh o]
  simp only[Option.bind_some]
  unfold sj
  refine cL (fun _=>cd _) fun X=>?_
  have R:=wL o X
  rw[bB (by omega),Int.toNat_natCast,fh o]
  simp only[Option.bind_some]
  exact W (j+1) (t.set m true) (by rw[List.length_set];exact O) (by omega) (by omega)
theorem O9(p:jy):∃b,ka 80000 p=some b/\(b=true->p.1.length<=256):=by
 unfold ka
 by_cases q:(decide ((p.1.length:Int)<1)||decide ((256:Int)<(p.1.length:Int)))=true
 ·rw[q]
  exact⟨false,rfl,fun Y=>by cases Y⟩
 ·rw[Bool.eq_false_iff.2 q]
  simp only[Bool.or_eq_true,decide_eq_true_eq]at q
  have le:1<=p.1.length:=by omega
  have R:p.1.length<=256:=by omega
  have key:cj (xN 80000 p false):=by
   unfold xN
   rw[if_neg (by simp)]
   refine dp (tq (by unfold bC;omega)) fun _ _=>?_
   rw[Int.toNat_natCast]
   refine Ky (L:=gB 80000 p) (len:=p.1.length) (by omega) (fun _ t=>t.length=p.1.length) ?_ 80000 0 _ (Nat.zero_le _) (by omega) (by simp)
   intro n i t Z hi la
   unfold gB De
   refine gL (fun lf=>?_) fun _=>?_
   ·refine dp (kP (by omega)) fun x _=>?_
    have U:∀b,cj (pa 80000 x (i:Int) p (gB 80000 p n) t b):=fun b=>by
     unfold pa
     refine cL (fun _=>cd _) fun _=>?_
     have lg:t.count false<=t.length:=List.count_le_length
     exact SN x i p _ R (fun lb lc=>la lb (by omega) lc) 80000 0 t Z (by omega) (by omega)
    have O:cj (nM 80000 x (i:Int) p (gB 80000 p n) t):=by
     unfold nM Eh
     exact cL (fun _=>U _) fun _=>U _
    have o:∀b,cj (kX 80000 x (i:Int) p (gB 80000 p n) t b):=fun b=>by
     unfold kX
     exact cL (fun _=>cL (fun _=>cd _) fun _=>O) fun _=>cd _
    have W:∀b,cj (oK 80000 x (i:Int) p (gB 80000 p n) t b):=fun b=>by
     unfold oK
     exact cL (fun _=>cL (fun _=>cd _) fun _=>O) fun _=>cL (fun _=>o _) fun _=>cL (fun _=>o _) fun _=>cL (fun _=>o _) fun _=>cL (fun _=>o _) fun _=>o _
    have X:∀b,cj (pm 80000 x (i:Int) p (gB 80000 p n) t b):=fun b=>by
     unfold pm
     exact cL (fun _=>O) fun _=>cL (fun _=>W _) fun _=>W _
    exact cL (fun _=>X _) fun _=>X _
   ·rw[show(1:Int)=((1:Nat):Int)from rfl,k9 (by omega)]
    simp only[Option.bind_some]
    exact dp (KE _ (by rw[List.length_drop];omega) _) fun _ _=>cd _
  obtain⟨b,ld⟩:=key
  exact⟨b,ld,fun _=>R⟩
theorem G4(a:bj)(p:jy):cj (pK 80000 a p):=by
 unfold pK
 obtain⟨e,q,_⟩:=q0 (a.1,a.2.1,())
 rw[q]
 simp only[Option.bind_some]
 refine cL (fun _=>cd _) fun _=>?_
 obtain⟨b,O,R⟩:=O9 (p.1,())
 rw[O]
 simp only[Option.bind_some]
 refine cL (fun _=>cd _) fun h=>?_
 have U:p.1.length<=256:=R (by simpa using h)
 refine ql (L:=mY 80000 p a) (len:=p.1.length) (by omega) ?_ 80000 0 (Nat.zero_le _) (by omega)
 intro n i hi o
 unfold mY Ds rI
 exact gL (fun W=>dp (kP (by omega)) fun x _=>cL (fun _=>dp (sM _ _) fun _ _=>cL (fun _=>cd _) fun _=>o (by omega))
  fun _=>cL (fun _=>dp (Fq _ _ _) fun _ _=>cL (fun _=>cd _) fun _=>o (by omega)) fun _=>o (by omega)) fun _=>cd _
abbrev fe:Type:=List UInt8×List dO×List nB×jy×jy×Int×Bool×Unit
theorem Xb(a:bj)(r:fe):cj (nY 80000 a r):=by
 unfold nY
 obtain⟨e,O,_⟩:=q0 (a.1,a.2.1,())
 rw[O]
 simp only[Option.bind_some]
 refine cL (fun _=>cd _) fun _=>dp (KH _) fun v _=>?_
 unfold D1 Ao Fj C4 Bm
 refine cL (fun _=>cd _) fun R=>?_
 simp only[Bool.or_eq_false_iff,decide_eq_false_iff_not]at R
 have W:r.2.1.length<=8:=by omega
 have X:r.2.2.1.length<=8:=by omega
 have q:∀t,cj (rb t):=fun t=>by
  unfold rb
  exact cL (fun _=>cd _) fun _=>cd _
 have l2:cj (nX 80000 r a 80000 0):=by
  refine ql (L:=nX 80000 r a) (len:=r.2.2.1.length) (by omega) ?_ 80000 0 (Nat.zero_le _) (by omega)
  intro n i hi o
  unfold nX CG
  exact gL (fun U=>dp (kP (by omega)) fun x _=>dp (V5 _ _ _) fun _ _=>cL (fun _=>cd _) fun _=>o (by omega))
   fun _=>dp (G4 _ _) fun _ _=>cL (fun _=>q _) fun _=>dp (G4 _ _) fun _ _=>q _
 refine ql (L:=pM 80000 r a) (len:=r.2.1.length) (by omega) ?_ 80000 0 (Nat.zero_le _) (by omega)
 intro n i hi o
 unfold pM D0
 exact gL (fun U=>dp (kP (by omega)) fun x _=>dp (tO _ _ _ _) fun _ _=>cL (fun _=>cd _) fun _=>o (by omega)) fun _=>l2
end Go.Ev
namespace Go.Ev
open Go
set_option linter.unusedVariables false
def Has{α:Type}(x:Option α)(P:α->Prop):Prop:=∃v,x=some v/\P v
theorem aw{α:Type}{P:α->Prop}{v:α}(h:P v):Has (some v) P:=⟨v,rfl,h⟩
theorem aR{α β:Type}{x:Option α}{f:α->Option β}{Q:α->Prop}{P:β->Prop}(o:Has x Q)(q:∀v,Q v->Has (f v) P):Has (Option.bind x f) P:=by
 obtain⟨v,rfl,O⟩:=o
 exact q v O
theorem aD{α:Type}{P:α->Prop}{c:Bool}{a b:Option α}(o:c=true->Has a P)(q:c=false->Has b P):Has (if c then a else b) P:=by
 cases c with
 |true=>rw[if_pos rfl];exact o rfl
 |false=>rw[if_neg (by simp)];exact q rfl
theorem bt{α:Type}{P:α->Prop}{p:Prop}[Decidable p]{a b:Option α}(o:p->Has a P)(q:¬p->Has b P):Has (if decide p then a else b) P:=
 aD (fun h=>o (of_decide_eq_true h)) (fun h=>q (of_decide_eq_false h))
theorem bO{β:Type}{p:Prop}[Decidable p]{f:Unit->Option β}{P:β->Prop}(h:p)(o:Has (f ()) P):Has (Option.bind (bk p) f) P:=by
 rw[jt h]
 exact o
theorem bz{α β:Type}{l:List α}{i:Nat}{f:α->Option β}{P:β->Prop}(h:i<l.length)(o:∀x,l[i]'h=x->Has (f x) P):Has (Option.bind (aB l (i:Int)) f) P:=by
 rw[fh h]
 exact o _ rfl
theorem Ex{α β:Type}{l:List α}{i:Int}{f:α->Option β}{P:β->Prop}(o:0<=i)(h:i<l.length)(q:∀x,x∈l->Has (f x) P):Has (Option.bind (aB l i) f) P:=by
 rw[BI o h]
 exact q _ (List.getElem_mem _)
theorem jn{α:Type}{x:Option α}{P Q:α->Prop}(h:Has x P)(aM:∀v,P v->Q v):Has x Q:=by
 obtain⟨v,e,o⟩:=h
 exact⟨v,e,aM v o⟩
theorem gy{α:Type}{x:Option α}(h:cj x):Has x fun _=>True:=by
 obtain⟨v,e⟩:=h
 exact⟨v,e,trivial⟩
abbrev fj:Type:=List (List Int×Option iq)
abbrev cJ:Type:=Int×Int×Int×Unit
abbrev fb:Type:=Int×Int×Int×Int×Unit
abbrev oG:Type:=List Node×List Int×List UInt8×List cJ×List fb×List Node×List Node×Int×Bool×fj×List (List UInt8)×List cJ×List Bool×List Bool
abbrev FV:Type:=Int->List Node->List Int->List UInt8->List cJ->List fb->List Node->List Node->Int->Bool->fj->List (List UInt8)->List cJ->List Bool->Option oG
theorem ma:(1000000:Int)<=(bC:Int):=by decide
theorem e0:(1000000:Nat)<=bC:=by decide
def dN(o:List Node):Prop:=1<=o.length/\o.length<=1000/\∀i (h:i<o.length),(∀k∈(o[i]'h).2.2.2.2.1,(i:Int)<k/\k<(o.length:Int))/\((o[i]'h).1=8\/(o[i]'h).1=9->(o[i]'h).2.2.2.2.1≠[])/\(o[i]'h).2.2.2.2.1.length<=1000
section ends
variable {c1:List Node} {c2:List Int} {c3:List UInt8} {c4:List cJ} {c5:List fb} {c6 c7:List Node} {c8:Int} {c9:Bool} {m1:fj} {c10:List (List UInt8)} {c11:List cJ}
variable {L:Nat}
theorem K5(k:Nat)(x r p m:Int)(a:List UInt8)(b:List cJ)(c:List fb)(d e:List Node)(f:Int)(g:Bool)(m1:fj)(h:List (List UInt8))(i:List cJ):Has (ov k x r p m a b c d e f g m1 h i) fun _=>True:=by
 unfold ov
 exact aD (fun _=>aw trivial) fun _=>aw trivial
theorem XR(k:Nat)(q:Node){l1:List Bool}(U:L<=40000)(W:c2.length+1=L)(X:l1.length=L):∀n (i:Nat) (t:List Bool),i+1<=L->L-i<n->t.length=L->
  Has (qK k c2 l1 q c3 c4 c5 c6 c7 c8 c9 m1 c10 c11 c1 n (i:Int) t) fun v=>∃aa,v=(c1,c2,c3,c4,c5,c6,c7,c8,c9,m1,c10,c11,aa,l1)/\aa.length=L:=by
 intro n
 induction n with
 |zero=>intro i t _ h;omega
 |succ n R=>
  intro i t Y Z O
  unfold qK Jz
  refine bt (fun la=>?_) fun _=>?_
  ·refine bz (by omega) fun lb _=>?_
   refine bz (by omega) fun lc _=>?_
   have o:∀b,Has (vg t (i:Int) (qK k c2 l1 q c3 c4 c5 c6 c7 c8 c9 m1 c10 c11 c1 n) b) fun v=>∃aa,v=(c1,c2,c3,c4,c5,c6,c7,c8,c9,m1,c10,c11,aa,l1)/\aa.length=L:=by
    intro b
    unfold vg
    rw[bB (by omega)]
    refine bz (by omega) fun _ _=>?_
    exact R (i+1) _ (by omega) (by omega) (by rw[List.length_set];exact O)
   refine aD (fun _=>?_) fun _=>o _
   refine aD (fun _=>o _) fun _=>?_
   exact aR (K5 ..) fun _ _=>o _
  ·unfold gA
   exact aw ⟨t,rfl,O⟩
theorem OA{o:Node}{q:FV}{l1:List Bool}(Z:l1.length=L)(la:o.2.2.2.2.1.length<=1000)
  (R:∀x∈o.2.2.2.2.1,∀l:List Bool,l.length=L->Has (q x c1 c2 c3 c4 c5 c6 c7 c8 c9 m1 c10 c11 l) fun v=>∃aa,v=(c1,c2,c3,c4,c5,c6,c7,c8,c9,m1,c10,c11,aa,l)/\aa.length=L):
  ∀n (i:Nat) (t:List Bool),i<=o.2.2.2.2.1.length->o.2.2.2.2.1.length-i<n->t.length=L->
  Has (ta o q l1 n (i:Int) c1 c2 c3 c4 c5 c6 c7 c8 c9 m1 c10 c11 t) fun v=>∃aa,v=(c1,c2,c3,c4,c5,c6,c7,c8,c9,m1,c10,c11,aa,l1)/\aa.length=L:=by
 intro n
 induction n with
 |zero=>intro i t _ h;omega
 |succ n U=>
  intro i t lb lc O
  unfold ta IK
  refine bt (fun ld=>?_) fun _=>?_
  ·refine bz (by omega) fun W X=>?_
   refine aR (R W (X▸List.getElem_mem _) t O) ?_
   rintro v ⟨aa,rfl,Y⟩
   rw[bB (by omega)]
   exact U (i+1) aa (by omega) (by omega) Y
  ·unfold gA
   exact aw ⟨t,rfl,O⟩
theorem NX{v3:oG}{aa l:List Bool}(O:v3=(c1,c2,c3,c4,c5,c6,c7,c8,c9,m1,c10,c11,aa,l))(X:L<=40000)(Y:aa.length=L){P:oG->Prop}
  (o:Int->List Node->List Int->List UInt8->List cJ->List fb->List Node->List Node->Int->Bool->fj->List (List UInt8)->List cJ->List Bool->List Bool->Option oG)(t45:Int)
  (R:∀t:List Bool,t.length=L->Has (o (am (t45+1)) c1 c2 c3 c4 c5 c6 c7 c8 c9 m1 c10 c11 t l) P):
  ∀n (i:Nat) (t:List Bool),i<=L->L-i<n->t.length=L->Has (vG v3 o t45 n (i:Int) t) P:=by
 subst O
 intro n
 induction n with
 |zero=>intro i t _ h;omega
 |succ n U=>
  intro i t Z la q
  unfold vG J9
  refine bt (fun W=>?_) fun _=>R t q
  have lb:i<L:=by
   have:(i:Int)<(aa.length:Int):=W
   omega
  refine bz (l:=aa) (by omega) fun lc _=>?_
  refine bz (by omega) fun ld _=>?_
  unfold HV
  refine bz (by omega) fun _ _=>?_
  rw[bB (by omega)]
  exact U (i+1) _ (by omega) (by omega) (by rw[List.length_set];exact q)
theorem Nz{k:Nat}{o:Node}{q:FV}{l1:List Bool}(R:L<=40000)(ld:L<k)(U:l1.length=L)(le:o.2.2.2.2.1.length<=1000)
  (W:∀x∈o.2.2.2.2.1,∀l:List Bool,l.length=L->Has (q x c1 c2 c3 c4 c5 c6 c7 c8 c9 m1 c10 c11 l) fun v=>∃aa,v=(c1,c2,c3,c4,c5,c6,c7,c8,c9,m1,c10,c11,aa,l)/\aa.length=L):
  ∀n (i:Nat) (t:List Bool),i<=o.2.2.2.2.1.length->o.2.2.2.2.1.length-i<n->t.length=L->
  Has (uO k o q n (i:Int) c1 c2 c3 c4 c5 c6 c7 c8 c9 m1 c10 c11 t l1) fun v=>∃aa,v=(c1,c2,c3,c4,c5,c6,c7,c8,c9,m1,c10,c11,aa,l1)/\aa.length=L:=by
 intro n
 induction n with
 |zero=>intro i t _ h;omega
 |succ n X=>
  intro i t lf lg O
  unfold uO L1
  refine bt (fun lh=>?_) fun _=>?_
  ·refine bz (by omega) fun Y Z=>?_
   refine aR (W Y (Z▸List.getElem_mem _) l1 U) ?_
   rintro v ⟨aa,rfl,la⟩
   refine NX (c1:=c1) (c2:=c2) (c3:=c3) (c4:=c4) (c5:=c5) (c6:=c6) (c7:=c7) (c8:=c8) (c9:=c9) (m1:=m1) (c10:=c10) (c11:=c11) rfl R la _ _ (fun lb lc=>?_) k 0 t (Nat.zero_le _) (by omega) O
   rw[bB (by omega)]
   exact X (i+1) lb (by omega) (by omega) lc
  ·unfold gA
   exact aw ⟨t,rfl,O⟩
theorem Rn{v4:oG}{aa l:List Bool}(q:v4=(c1,c2,c3,c4,c5,c6,c7,c8,c9,m1,c10,c11,aa,l))(U:L<=40000)(W:l.length=L):
  ∀n (i:Nat) (t:List Bool),i<=L->L-i<n->t.length=L->Has (tw v4 n (i:Int) t) fun v=>∃aa,v=(c1,c2,c3,c4,c5,c6,c7,c8,c9,m1,c10,c11,aa,l)/\aa.length=L:=by
 subst q
 intro n
 induction n with
 |zero=>intro i t _ h;omega
 |succ n O=>
  intro i t X Y o
  unfold tw Hp
  refine bt (fun R=>?_) fun _=>?_
  ·have Z:i<L:=by
    have:(i:Int)<(l.length:Int):=R
    omega
   refine bz (l:=l) (by omega) fun _ _=>?_
   refine bz (by omega) fun _ _=>?_
   unfold KO
   refine bz (by omega) fun _ _=>?_
   rw[bB (by omega)]
   exact O (i+1) _ (by omega) (by omega) (by rw[List.length_set];exact o)
  ·unfold gA
   exact aw ⟨t,rfl,o⟩
abbrev UP:Type:=Int->Int->Int->Int->List Int->List Node->List Int->List UInt8->List cJ->List fb->List Node->List Node->Int->Bool->fj->List (List UInt8)->List cJ->List Bool->List Bool->Option oG
theorem OE{v5:oG}{aa X l:List Bool}(la:v5=(c1,c2,c3,c4,c5,c6,c7,c8,c9,m1,c10,c11,aa,X))(lg:L<=40000)(lh:aa.length=L)(O:UP)(R U n3 n4:Int)(W:List Int){f0:Nat}
  (lb:∀t:List Bool,t.length=L->t.count false<f0->Has (O R U n3 n4 W c1 c2 c3 c4 c5 c6 c7 c8 c9 m1 c10 c11 t l) fun v=>∃aa,v=(c1,c2,c3,c4,c5,c6,c7,c8,c9,m1,c10,c11,aa,l)/\aa.length=L):
  ∀n o (i:Nat) (t:List Bool),i<=L->L-i<n->t.length=L->(t.count false<=f0/\(o=true->t.count false<f0))->
   Has (qY v5 l O R U n3 n4 W n o (i:Int) t) fun v=>∃aa,v=(c1,c2,c3,c4,c5,c6,c7,c8,c9,m1,c10,c11,aa,l)/\aa.length=L:=by
 subst la
 intro n
 induction n with
 |zero=>intro o i t _ h;omega
 |succ n Y=>
  intro o i t li lj q Z
  unfold qY IG
  refine bt (fun lc=>?_) fun _=>?_
  ·have lk:i<L:=by
    have:(i:Int)<(aa.length:Int):=lc
    omega
   refine bz (l:=aa) (by omega) fun _ _=>?_
   have no:Has (o4 t (i:Int) (qY (c1,c2,c3,c4,c5,c6,c7,c8,c9,m1,c10,c11,aa,X) l O R U n3 n4 W n) o false) fun v=>∃aa,v=(c1,c2,c3,c4,c5,c6,c7,c8,c9,m1,c10,c11,aa,l)/\aa.length=L:=by
    unfold o4 tH
    rw[if_neg (by simp),bB (by omega)]
    exact Y o (i+1) t (by omega) (by omega) q Z
   refine aD (fun _=>?_) fun _=>no
   refine bz (by omega) fun ld le=>?_
   cases ld with
   |true=>exact no
   |false=>
    show Has (o4 _ _ _ _ true) _
    unfold o4 tH
    rw[if_pos rfl]
    refine bz (by omega) fun _ _=>?_
    rw[bB (by omega)]
    have ll:=wL (l:=t) (i:=i) (by omega) le
    rw[Int.toNat_natCast]
    exact Y true (i+1) _ (by omega) (by omega) (by rw[List.length_set];exact q) ⟨by omega,fun _=>by omega⟩
  ·refine aD (fun _=>?_) fun lf=>lb t q (Z.2 (by simpa using lf))
   unfold gA
   exact aw ⟨t,rfl,q⟩
theorem Po{k:Nat}{o:FV}{l1:List Bool}(R:L<=40000)(ld:L<k)(le:l1.length=L){U W n3 n4 x:Int}{q:List Int}
  (X:∀l:List Bool,l.length=L->Has (o x c1 c2 c3 c4 c5 c6 c7 c8 c9 m1 c10 c11 l) fun v=>∃aa,v=(c1,c2,c3,c4,c5,c6,c7,c8,c9,m1,c10,c11,aa,l)/\aa.length=L):
  ∀n (t:List Bool),t.count false<n->t.length=L->
  Has (sg k o n U W n3 n4 (x::q) c1 c2 c3 c4 c5 c6 c7 c8 c9 m1 c10 c11 t l1) fun v=>∃aa,v=(c1,c2,c3,c4,c5,c6,c7,c8,c9,m1,c10,c11,aa,l1)/\aa.length=L:=by
 intro n
 induction n with
 |zero=>intro t h;omega
 |succ n Y=>
  intro t lf O
  unfold sg KR
  refine bz (l:=x::q) (i:=0) (by simp) fun y Z=>?_
  obtain rfl:x=y:=Z
  refine aR (X t O) ?_
  rintro v ⟨aa,rfl,la⟩
  refine OE (c1:=c1) (c2:=c2) (c3:=c3) (c4:=c4) (c5:=c5) (c6:=c6) (c7:=c7) (c8:=c8) (c9:=c9) (m1:=m1) (c10:=c10) (c11:=c11) rfl R la _ _ _ _ _ _ (f0:=t.count false) (fun lb lc lg=>?_) k false 0 t (Nat.zero_le _) (by omega) O ⟨Nat.le_refl _,fun h=>nomatch h⟩
  exact Y lb (by omega) lc
theorem tQ{l1:List Bool}(o:l1.length=L):(l1++List.drop l1.length (List.replicate L false)).length=L:=by
 rw[List.length_append,List.length_drop,List.length_replicate]
 omega
theorem RC(le:dN c1)(R:L<=40000)(lb:c2.length+1=L):∀d k (O:Nat),O<c1.length->c1.length-O<=d->60000+d<=k->∀l:List Bool,l.length=L->
  Has (hd k (O:Int) c1 c2 c3 c4 c5 c6 c7 c8 c9 m1 c10 c11 l) fun v=>∃aa,v=(c1,c2,c3,c4,c5,c6,c7,c8,c9,m1,c10,c11,aa,l)/\aa.length=L:=by
 intro d
 induction d with
 |zero=>intro k O Y lf;omega
 |succ d lg=>
  intro k O Y lf lp l o
  obtain⟨k,rfl⟩:∃m,k=m+1:=⟨k-1,by omega⟩
  have q:=le.2.2 O Y
  have lc:am ((c2.length:Int)+1)=(L:Int):=by rw[bB (by omega),lb]
  have lq:=ma
  unfold hd
  refine bz Y fun U lh=>?_
  rw[lh]at q
  have W:∀x∈U.2.2.2.2.1,∀l:List Bool,l.length=L->Has (hd k x c1 c2 c3 c4 c5 c6 c7 c8 c9 m1 c10 c11 l) fun v=>∃aa,v=(c1,c2,c3,c4,c5,c6,c7,c8,c9,m1,c10,c11,aa,l)/\aa.length=L:=by
   intro x li l o
   have:=q.1 x li
   obtain⟨m,rfl⟩:∃m:Nat,x=(m:Int):=⟨x.toNat,by omega⟩
   exact lg k m (by omega) (by omega) (by omega) l o
  rw[lc]
  refine bO ⟨by omega,by omega,by omega⟩ ?_
  have X:(List.replicate ((L:Int)).toNat false).length=L:=by simp
  have Z:∀b,Has (qc k c2 l U c3 c4 c5 c6 c7 c8 c9 m1 c10 c11 c1 (hd k) b) fun v=>∃aa,v=(c1,c2,c3,c4,c5,c6,c7,c8,c9,m1,c10,c11,aa,l)/\aa.length=L:=by
   intro b
   unfold qc
   rw[lc]
   refine aD (fun _=>XR k U R lb o k 0 _ (by omega) (by omega) X) fun _=>?_
   refine aD (fun _=>?_) fun _=>?_
   ·refine bz (i:=0) (by omega) fun _ _=>?_
    refine bz (i:=0) (by omega) fun _ _=>?_
    refine bz (by omega) fun _ _=>?_
    refine bz (by rw[List.length_set];omega) fun _ _=>?_
    unfold gA
    exact aw ⟨_,rfl,by rw[List.length_set,List.length_set];exact X⟩
   refine aD (fun _=>?_) fun _=>?_
   ·refine bO (by omega) ?_
    rw[Int.toNat_natCast]
    exact OA o q.2.2 W k 0 _ (Nat.zero_le _) (by have:=q.2.2;omega) (tQ o)
   refine aD (fun _=>?_) fun _=>?_
   ·exact Nz R (by omega) o q.2.2 W k 0 _ (Nat.zero_le _) (by have:=q.2.2;omega) X
   refine aD (fun lj=>?_) fun _=>?_
   ·have la:=q.2.1 (Or.inr (by simpa using lj))
    have lk:0<U.2.2.2.2.1.length:=List.length_pos_iff.2 la
    refine bz (i:=0) lk fun ll lm=>?_
    refine aR (W ll (lm▸List.getElem_mem _) l o) ?_
    rintro v ⟨aa,rfl,ln⟩
    refine bO (by show aa.length<=_;omega) ?_
    rw[Int.toNat_natCast]
    exact Rn (c1:=c1) (c2:=c2) (c3:=c3) (c4:=c4) (c5:=c5) (c6:=c6) (c7:=c7) (c8:=c8) (c9:=c9) (m1:=m1) (c10:=c10) (c11:=c11) rfl R o k 0 _ (Nat.zero_le _) (by omega) (tQ ln)
   refine aD (fun lo=>?_) fun _=>?_
   ·have la:=q.2.1 (Or.inl (by simpa using lo))
    obtain⟨y,lr,ld⟩:=List.exists_cons_of_ne_nil la
    refine bO (by omega) ?_
    rw[Int.toNat_natCast,ld]
    refine Po R (by omega) o (W y (by rw[ld];exact List.mem_cons_self)) k _ ?_ (tQ o)
    have:=List.count_le_length (a:=false) (l:=l++List.drop l.length (List.replicate L false))
    rw[tQ o]at this
    omega
   ·unfold gA
    exact aw ⟨_,rfl,X⟩
  refine aD (fun _=>?_) fun _=>?_
  ·refine bO (by omega) ?_
   unfold gA
   rw[Int.toNat_natCast]
   exact aw ⟨_,rfl,tQ o⟩
  ·exact aD (fun _=>Z _) fun _=>aD (fun _=>Z _) fun _=>Z _
theorem Ng(o:dN c1)(q:c2.length+1=L)(O:L<=40000){l:List Bool}(R:l.length=L):
  Has (pz 80000 (c1,()) c2 c3 c4 c5 c6 c7 c8 c9 m1 c10 c11 l) fun v=>∃aa,v=(c3,c4,c5,c6,c7,c8,c9,m1,c10,c11,aa,l)/\aa.length=L:=by
 unfold pz
 refine aR (RC o O q 1000 80000 0 (by have:=o.1;omega) (by have:=o.2.1;omega) (by omega) l R) ?_
 rintro v ⟨aa,rfl,U⟩
 exact aw ⟨aa,rfl,U⟩
end ends
end Go.Ev
namespace Go.Ev
open Go
set_option linter.unusedVariables false
/-! What one letter over another one costs. -/
theorem GU{t:List UInt8}{n:Int}(o:0<=n)(h:n<t.length):cj (ft t n):=by
 unfold ft
 rw[BI o h]
 exact⟨_,rfl⟩
theorem XJ(x:Int):0<=nW x/\nW x<256:=by
 unfold nW IntKind.wrap
 simp[IntKind.bits,IntKind.signed]
 omega
theorem Kn(x:Int):0<=dm x/\dm x<4294967296:=by
 unfold dm IntKind.wrap
 simp[IntKind.bits,IntKind.signed]
 omega
theorem M6(x:BitVec 32):0<=dm (BitVec.toNat (x&&&BitVec.ofInt 32 (255:Int)):Int)/\dm (BitVec.toNat (x&&&BitVec.ofInt 32 (255:Int)):Int)<256:=by
 have h:BitVec.toNat (x&&&BitVec.ofInt 32 (255:Int))<=255:=by
  rw[BitVec.toNat_and]
  exact Nat.and_le_right
 rw[FK (by omega)]
 omega
set_option maxRecDepth 100000 in
theorem Qp(k:Nat)(x:Int)(X:0<=x)(h:x<4294967296):∃v,xq k x=some v/\0<=v/\v<256:=by
 unfold xq
 rw[jt (by omega)]
 simp only[Option.bind_some]
 have e:(2:Int)^min ((24:Int)).toNat 32=16777216:=by decide
 obtain⟨o,ae⟩:=GU (t:=([0,1,1,2,1,2,2,3,1,2,2,3,2,3,3,4,1,2,2,3,2,3,3,4,2,3,3,4,3,4,4,5,1,2,2,3,2,3,3,4,2,3,3,4,3,4,4,5,2,3,3,4,3,4,4,5,3,4,4,5,4,5,5,6,1,2,2,3,2,3,3,4,2,3,3,4,3,4,4,5,2,3,3,4,3,4,4,5,3,4,4,5,4,5,5,6,2,3,3,4,3,4,4,5,3,4,4,5,4,5,5,6,3,4,4,5,4,5,5,6,4,5,5,6,5,6,6,7,1,2,2,3,2,3,3,4,2,3,3,4,3,4,4,5,2,3,3,4,3,4,4,5,3,4,4,5,4,5,5,6,2,3,3,4,3,4,4,5,3,4,4,5,4,5,5,6,3,4,4,5,4,5,5,6,4,5,5,6,5,6,6,7,2,3,3,4,3,4,4,5,3,4,4,5,4,5,5,6,3,4,4,5,4,5,5,6,4,5,5,6,5,6,6,7,3,4,4,5,4,5,5,6,4,5,5,6,5,6,6,7,4,5,5,6,5,6,6,7,5,6,6,7,6,7,7,8]:List UInt8)) (n:=Int.fdiv x (2^min ((24:Int)).toNat 32)) (by rw[e,Int.fdiv_eq_ediv_of_nonneg _ (by omega)];omega) (by rw[e,Int.fdiv_eq_ediv_of_nonneg _ (by omega)];show _<(256:Int);omega)
 rw[ae]
 simp only[Option.bind_some]
 rw[jt (by omega)]
 simp only[Option.bind_some]
 have key:=fun y:BitVec 32=>GU (t:=([0,1,1,2,1,2,2,3,1,2,2,3,2,3,3,4,1,2,2,3,2,3,3,4,2,3,3,4,3,4,4,5,1,2,2,3,2,3,3,4,2,3,3,4,3,4,4,5,2,3,3,4,3,4,4,5,3,4,4,5,4,5,5,6,1,2,2,3,2,3,3,4,2,3,3,4,3,4,4,5,2,3,3,4,3,4,4,5,3,4,4,5,4,5,5,6,2,3,3,4,3,4,4,5,3,4,4,5,4,5,5,6,3,4,4,5,4,5,5,6,4,5,5,6,5,6,6,7,1,2,2,3,2,3,3,4,2,3,3,4,3,4,4,5,2,3,3,4,3,4,4,5,3,4,4,5,4,5,5,6,2,3,3,4,3,4,4,5,3,4,4,5,4,5,5,6,3,4,4,5,4,5,5,6,4,5,5,6,5,6,6,7,2,3,3,4,3,4,4,5,3,4,4,5,4,5,5,6,3,4,4,5,4,5,5,6,4,5,5,6,5,6,6,7,3,4,4,5,4,5,5,6,4,5,5,6,5,6,6,7,4,5,5,6,5,6,6,7,5,6,6,7,6,7,7,8]:List UInt8)) (n:=dm (BitVec.toNat (y&&&BitVec.ofInt 32 (255:Int)):Int)) (M6 y).1 (M6 y).2
 obtain⟨q,O⟩:=key (BitVec.ofInt 32 (Int.fdiv x (2^min ((16:Int)).toNat 32)))
 rw[O]
 simp only[Option.bind_some]
 rw[jt (by omega)]
 simp only[Option.bind_some]
 obtain⟨R,U⟩:=key (BitVec.ofInt 32 (Int.fdiv x (2^min ((8:Int)).toNat 32)))
 rw[U]
 simp only[Option.bind_some]
 obtain⟨W,e4⟩:=key (BitVec.ofInt 32 x)
 rw[e4]
 have:=XJ ((nW ((nW (o+q))+R))+W)
 exact⟨_,rfl,by rw[fL (by omega)];omega,by rw[fL (by omega)];omega⟩
/-! The least cost of two lists of letters; the first alignment. -/
/-! Square tables. -/
def sf(C:List (List Int)):Prop:=C.length=65/\∀r∈C,r.length=65
def Hh(C:List (List Int))(p o:Nat)(v:Int):List (List Int):=C.set p ((C.getD p []).set o v)
theorem sf.row{C:List (List Int)}(h:sf C){p:Nat}(q:p<65):(C.getD p []).length=65/\aB C (p:Int)=some (C.getD p []):=by
 have o:p<C.length:=by rw[h.1];exact q
 have e:C.getD p []=C[p]'o:=by simp[List.getD_eq_getElem?_getD,o]
 rw[e]
 exact⟨h.2 _ (List.getElem_mem o),fh o⟩
theorem sf.set{C:List (List Int)}(h:sf C){p q:Nat}(O:p<65)(v:Int):sf (Hh C p q v):=by
 unfold Hh
 refine⟨by rw[List.length_set];exact h.1,fun r o=>?_⟩
 rcases List.mem_or_eq_of_mem_set o with o|o
 ·exact h.2 r o
 ·rw[o,List.length_set];exact(h.row O).1
/-! The table filled. -/
abbrev Cl:Type:=List Int×List Int×List (List Int)×List (List Int)×Unit
variable {bF:Int->Cl->Option Cl} {x y:List Int} {i k:Nat} {b:Cl}
theorem Rb{α:Type}{l:List α}{i:Nat}(h:i<l.length):l.drop i=l[i]'h::l.drop (i+1):=List.drop_eq_getElem_cons h
end Go.Ev
namespace Go.Ev
open Go
set_option linter.unusedVariables false
theorem Gf(k:Nat)(r:Int):cj (vO k r):=by
 unfold vO G3
 exact gL (fun _=>cd _) fun _=>gL (fun _=>cd _) fun _=>gL (fun _=>cd _) fun _=>cL (fun _=>cd _) fun _=>gL (fun _=>cd _) fun _=>gL (fun _=>cd _) fun _=>cd _
theorem wh:(1000000:Nat)<=bC:=by decide
theorem VO(a:bj)(h:a.2.1.length<=128):∀n i (m:List (Int×Int)),i<=a.2.1.length->a.2.1.length-i<n->(∀r:Int,(bS (aV (.int .i32)) m r).isSome=true->r∈a.2.1.map (·.1))->
  ∃aI,nl a n (i:Int) m=some (some aI,0)/\∀r:Int,(bS (aV (.int .i32)) aI r).isSome=true->r∈a.2.1.map (·.1):=by
 intro n
 induction n with
 |zero=>intro i m _ h;omega
 |succ n q=>
  intro i m hi R o
  unfold nl A6
  by_cases h:i<a.2.1.length
  ·rw[if_pos (by simp only[decide_eq_true_eq];omega),fh h];simp only[Option.bind_some]
   rw[bB (by omega)]
   refine q (i+1) _ (by omega) (by omega) fun r O=>?_
   have:=rx A9 (a.2.1[i]'h).1 r (i:Int) m
   by_cases e:r=(a.2.1[i]'h).1
   ·rw[e];exact List.mem_map.2 ⟨_,List.getElem_mem h,rfl⟩
   ·exact o r ((congrArg Option.isSome (this.2 e)).symm.trans O)
  ·rw[if_neg (by simp only[decide_eq_true_eq];omega)]
   exact⟨m,rfl,o⟩
theorem yK{a:bj}(h:cv a=true):a.1.length<=24/\1<=a.2.1.length/\a.2.1.length<=128:=by
 refine Classical.byContradiction fun o=>?_
 rw[Ix o]at h
 cases h
end Go.Ev
namespace Go.Ev
open Go
set_option linter.unusedVariables false
theorem Ux(l:List Bool)(q:l.length<=70000)(v:Bool):cj (pt 80000 l v):=by
 unfold pt zr
 refine dp (ql (L:=px l v) (len:=l.length) (by omega) ?_ 80000 0 (Nat.zero_le _) (by omega)) fun _ _=>cd _
 intro n i hi o
 unfold px DG
 exact gL (fun h=>dp (kP (by omega)) fun _ _=>cL (fun _=>cd _) fun _=>o (by omega)) fun _=>cd _
section lies
variable {c1:List UInt8} {c2:List cJ} {c3:List fb} {c4 c5:List Node} {c6:Int} {c7:Bool} {m1:fj} {c8:List (List UInt8)} {c9:List cJ}
theorem PY{l1:List Int}(Y:l1.length<=39000)(O:dN c4)(R:dN c5){o:Nat}(Z:o+c2.length<=l1.length):
  ∀n (i:Nat) (t:List Bool),i<=l1.length+1->l1.length+1-i<n->t.length=l1.length+1->Has (vj 80000 l1 c4 c1 c2 c3 c5 c6 c7 m1 c8 c9 (o:Int) n (i:Int) t) fun v=>∃b,v=(b,c1,c2,c3,c4,c5,c6,c7,m1,c8,c9):=by
 have U:am ((l1.length:Int)+1)=((l1.length+1:Nat):Int):=bB (by omega)
 intro n
 induction n with
 |zero=>intro i t _ h;omega
 |succ n W=>
  intro i t la lb q
  unfold vj GH
  rw[U,Int.toNat_natCast,List.length_replicate]
  refine bt (fun lc=>?_) fun _=>?_
  ·refine bz (by omega) fun _ _=>?_
   rw[bB (by omega)]
   exact W (i+1) _ (by omega) (by omega) (by rw[List.length_set];exact q)
  ·refine aR (Ng O rfl (by omega) q) ?_
   rintro v ⟨aa,rfl,ld⟩
   refine bz (l:=aa) (by omega) fun _ _=>?_
   refine aD (fun _=>aw ⟨false,rfl⟩) fun _=>?_
   have X:am ((o:Int)+(c2.length:Int))=((o+c2.length:Nat):Int):=by rw[fL (by omega)];omega
   rw[X]
   refine bz (l:=List.replicate t.length false) (by rw[List.length_replicate];omega) fun _ _=>?_
   refine aR (Ng (c1:=c5) (c2:=l1) (L:=l1.length+1) R rfl (by omega) (l:=List.set (List.replicate t.length false) ((o+c2.length:Nat):Int).toNat true) (by rw[List.length_set,List.length_replicate];exact q)) ?_
   rintro v ⟨bd,rfl,le⟩
   refine aR (gy (Ux bd (by omega) true)) fun b _=>?_
   exact aw ⟨b,rfl⟩
theorem RT{l1:List Int}(q:l1.length<=39000)(O:dN c4)(R:dN c5)(Y:c2.length<=8){o:Nat}(U:o+c2.length<=l1.length):
  ∀n (i:Nat),i<=c2.length->c2.length-i<n->Has (vf 80000 c2 l1 (o:Int) c1 c3 c4 c5 c6 c7 m1 c8 c9 n (i:Int)) fun v=>∃b,v=(b,c1,c2,c3,c4,c5,c6,c7,m1,c8,c9):=by
 have Z:=ma
 have W:am ((l1.length:Int)+1)=((l1.length+1:Nat):Int):=bB (by omega)
 intro n
 induction n with
 |zero=>intro i _ h;omega
 |succ n X=>
  intro i la lb
  unfold vf J7
  refine bt (fun lc=>?_) fun _=>?_
  ·refine bz (by omega) fun ld _=>?_
   rw[show am ((o:Int)+(i:Int))=((o+i:Nat):Int) by rw[fL (by omega)];omega]
   refine bz (by omega) fun le _=>?_
   refine aR (K5 ..) fun b _=>?_
   refine aD (fun _=>aw ⟨false,rfl⟩) fun _=>?_
   rw[bB (by omega)]
   exact X (i+1) (by omega) (by omega)
  ·rw[W]
   refine bO ⟨by omega,by omega,by omega⟩ ?_
   exact PY q O R U 80000 0 _ (Nat.zero_le _) (by omega) (by simp)
theorem Ca{l1:List Int}(O:l1.length<=39000)(R:dN c4)(U:dN c5)(W:c2.length<=8){o:Nat}(X:o<=100000):
  Has (nJ 80000 l1 (o:Int) c1 c2 c3 c4 c5 c6 c7 m1 c8 c9) fun v=>∃b,v=(b,c1,c2,c3,c4,c5,c6,c7,m1,c8,c9)/\(b=true->o+c2.length<=l1.length):=by
 unfold nJ
 rw[show am ((o:Int)+(c2.length:Int))=((o+c2.length:Nat):Int) by rw[fL (by omega)];omega]
 refine bt (fun _=>aw ⟨false,rfl,fun h=>nomatch h⟩) fun h=>?_
 have q:o+c2.length<=l1.length:=by omega
 exact jn (RT O R U W q 80000 0 (Nat.zero_le _) (by omega)) fun v ⟨b,e⟩=>⟨b,e,fun _=>q⟩
end lies
theorem R3(s:List UInt8)(p i:Nat):bw (s.drop p) i=bw s (p+i):=by
 unfold bw
 simp[List.getD_eq_getElem?_getD]
theorem Nu(s:List UInt8)(p i:Nat):g (s.drop p) i=g s (p+i):=by
 unfold g
 simp only[R3,List.length_drop,<-Nat.add_assoc,Nat.sub_sub]
theorem Tl{s:List UInt8}{p:Nat}(h:p<s.length):Lib.decodeGo ⟨(s.drop p).toArray⟩=g s p:=by
 unfold Lib.decodeGo
 rw[if_neg (by simp[ByteArray.size];omega),xh,Nu]
 rfl
theorem Nb{w:List UInt8}(h:w≠[]):∃r n:Nat,utf8_DecodeRuneInString 80000 w=some ((r:Int),(n:Int))/\1<=n/\n<=w.length:=by
 have o:0<w.length:=List.length_pos_iff.2 h
 refine⟨(Lib.decodeGo ⟨w.toArray⟩).1,(Lib.decodeGo ⟨w.toArray⟩).2,rfl,?_⟩
 have e:Lib.decodeGo ⟨w.toArray⟩=g w 0:=by simpa using Tl (s:=w) (p:=0) o
 rw[e]
 have:=jG w 0 o
 omega
theorem OO(a:bj):∀n (w:List UInt8) (o:List Int),o.length<=256->257-o.length<n->Has (ve 80000 a n w o) fun v=>v.1.length<=256:=by
 have Z:=e0
 intro n
 induction n with
 |zero=>intro w o _ h;omega
 |succ n q=>
  intro w o O la
  unfold ve Lh
  refine aD (fun R=>?_) fun _=>aw O
  have U:w≠[]:=by rintro rfl;simp at R
  obtain⟨r,m,e,lb,W⟩:=Nb U
  rw[e,Option.bind_some]
  unfold MR
  refine aD (fun _=>aw (Nat.zero_le _)) fun _=>?_
  refine aR (gy (Eu _ _)) fun v _=>?_
  refine aD (fun _=>aw (Nat.zero_le _)) fun _=>?_
  refine aD (fun _=>aw (Nat.zero_le _)) fun X=>?_
  have lc:o.length≠256:=by
   intro Y
   simp[Y]at X
  refine bO (by simp only[List.length_cons,List.length_nil];omega) ?_
  rw[k9 W,Option.bind_some]
  exact q _ _ (by simp only[List.length_append,List.length_cons,List.length_nil];omega) (by simp only[List.length_append,List.length_cons,List.length_nil];omega)
theorem NG(a:bj)(w:List UInt8):Has (zT 80000 a w) fun v=>v.1.length<=256:=by
 unfold zT
 exact OO a 80000 w [] (Nat.zero_le _) (by simp)
theorem XV(a:bj):∀n (w:List UInt8) (o:List Int),o.length<=256->257-o.length<n->Has (u5 80000 a n w o) fun v=>v.2.length<=256:=by
 have Z:=e0
 intro n
 induction n with
 |zero=>intro w o _ h;omega
 |succ n q=>
  intro w o O la
  unfold u5 M3
  refine aD (fun R=>?_) fun _=>aw O
  have U:w≠[]:=by rintro rfl;simp at R
  obtain⟨r,m,e,lb,W⟩:=Nb U
  rw[e,Option.bind_some]
  unfold Lw
  refine aD (fun _=>aw (Nat.zero_le _)) fun _=>?_
  refine aR (gy (Eu _ _)) fun v _=>?_
  refine aD (fun _=>aw (Nat.zero_le _)) fun _=>?_
  refine aD (fun _=>aw (Nat.zero_le _)) fun X=>?_
  have lc:o.length≠256:=by
   intro Y
   simp[Y]at X
  refine bO (by simp only[List.length_cons,List.length_nil];omega) ?_
  rw[k9 W,Option.bind_some]
  exact q _ _ (by simp only[List.length_append,List.length_cons,List.length_nil];omega) (by simp only[List.length_append,List.length_cons,List.length_nil];omega)
theorem Px(a:bj)(w:List UInt8):Has (qG 80000 a w) fun v=>v.2.length<=256:=by
 unfold qG
 exact XV a 80000 w [] (Nat.zero_le _) (by simp)
theorem W0(a:bj)(p m:Int)(h:a.2.1.length<=128):∀n (i:Nat) (o:List Int),i<=a.2.1.length->a.2.1.length-i<n->o.length<=i->Has (su 80000 a p m n (i:Int) o) fun v=>v.1.length<=128:=by
 have O:=e0
 intro n
 induction n with
 |zero=>intro i o _ h;omega
 |succ n q=>
  intro i o R U W
  unfold su GK
  refine bt (fun X=>?_) fun _=>aw (by show o.length<=128;omega)
  refine bz (by omega) fun Y _=>?_
  unfold Be Jh zU
  rw[Option.bind_some,bB (by omega)]
  refine aD (fun _=>?_) fun _=>q (i+1) _ (by omega) (by omega) (by omega)
  refine bO (by simp only[List.length_cons,List.length_nil];omega) ?_
  exact q (i+1) _ (by omega) (by omega) (by simp only[List.length_append,List.length_cons,List.length_nil];omega)
theorem JH(a:bj)(p m:Int):Has (oW 80000 a p m) fun v=>v.1.length<=128:=by
 unfold oW
 obtain⟨e,q,O⟩:=q0 (a.1,a.2.1,())
 rw[q,Option.bind_some]
 refine aD (fun _=>aw (Nat.zero_le _)) fun R=>?_
 have o:=(O (by simpa using R)).2.1
 refine aR (gy (zu ..)) fun v _=>?_
 refine aD (fun _=>aw (Nat.zero_le _)) fun _=>?_
 exact W0 a p m o 80000 0 [] (Nat.zero_le _) (by have:a.2.1.length<=128:=o;omega) (Nat.zero_le _)
theorem Iq(p m:Int)(c1:List (List UInt8))(c2:List cJ)(c3:List UInt8)(c4:List cJ)(c5:List fb)(c6 c7:List Node)(c8:Int)(c9:Bool)(m1:fj):Has (o0 80000 p m c1 c2 c3 c4 c5 c6 c7 c8 c9 m1) fun _=>True:=by
 unfold o0
 refine aR (JH _ _ _) fun v1 q=>?_
 have:∀n (i:Nat) (s:List (Int×Bool)),i<=v1.1.length->v1.1.length-i<n->Has (sO v1 m1 p m n (i:Int) s) fun _=>True:=by
  intro n
  induction n with
  |zero=>intro i s _ h;omega
  |succ n o=>
   intro i s O R
   unfold sO HM
   refine bt (fun U=>?_) fun _=>aw trivial
   refine bz (by omega) fun W _=>?_
   rw[bB (by omega)]
   exact o (i+1) _ (by omega) (by omega)
 exact this 80000 0 [] (Nat.zero_le _) (by omega)
abbrev Kx:Type:=List (List UInt8)×List cJ×fj×List UInt8×List cJ×List fb×List Node×List Node×Int×Bool
theorem VU{o:jy}(R:o.1.length<=1000){a4:List (List UInt8)}{a5:List cJ}{t10:List UInt8}{t11:List cJ}{t12:List fb}{t13 t14:List Node}{t15:Int}{t16:Bool}
  {bF:Int->List (List UInt8)->List cJ->fj->List UInt8->List cJ->List fb->List Node->List Node->Int->Bool->List jy->Option Kx}{t9:Int}{t17:List jy}{P:Kx->Prop}
  (q:∀m:fj,Has (bF (am (t9+1)) a4 a5 m t10 t11 t12 t13 t14 t15 t16 t17) P):
  ∀n (i:Nat) (m:fj),i<=o.1.length->o.1.length-i<n->Has (tN 80000 o a4 a5 t10 t11 t12 t13 t14 t15 t16 bF t9 t17 n (i:Int) m) P:=by
 intro n
 induction n with
 |zero=>intro i s _ h;omega
 |succ n O=>
  intro i m U W
  unfold tN I4
  refine bt (fun X=>?_) fun _=>q m
  refine bz (by omega) fun Y _=>?_
  refine aR (Iq ..) fun v2 _=>?_
  rw[bB (by omega)]
  exact O (i+1) _ (by omega) (by omega)
theorem VW{r:fe}(O:r.2.2.2.1.1.length<=1000)(R:r.2.2.2.2.1.1.length<=1000){a4:List (List UInt8)}{a5:List cJ}{t10:List UInt8}{t11:List cJ}{t12:List fb}{t13 t14:List Node}{t15:Int}{t16:Bool}:
  ∀n (i:Nat) (m:fj),i<=2->2-i<n->Has (sU 80000 r n (i:Int) a4 a5 m t10 t11 t12 t13 t14 t15 t16 [(r.2.2.2.1.1,()),(r.2.2.2.2.1.1,())]) fun v=>∃m,v=(a4,a5,m,t10,t11,t12,t13,t14,t15,t16):=by
 intro n
 induction n with
 |zero=>intro i s _ h;omega
 |succ n U=>
  intro i m Z la
  unfold sU HA
  refine bt (fun W=>?_) fun _=>aw ⟨m,rfl⟩
  have lb:i<2:=by simp only[List.length_cons,List.length_nil]at W;omega
  refine bz (by simp only[List.length_cons,List.length_nil];omega) fun o X=>?_
  have Y:o.1.length<=1000:=by
   have q:o∈[(r.2.2.2.1.1,()),(r.2.2.2.2.1.1,())]:=X▸List.getElem_mem _
   simp only[List.mem_cons,List.not_mem_nil,or_false]at q
   rcases q with rfl|rfl
   ·exact O
   ·exact R
  refine VU Y (fun aI=>?_) 80000 0 m (Nat.zero_le _) (by omega)
  rw[bB (by omega)]
  exact U (i+1) aI (by omega) (by omega)
theorem zS(a:bj){r:fe}(R:r.2.1.length<=8)(o:r.2.2.2.1.1.length<=1000)(q:r.2.2.2.2.1.1.length<=1000):
  Has (mG 80000 a r) fun v=>∃m,v=(a.1,a.2.1,m,r.1,r.2.1,r.2.2.1,r.2.2.2.1.1,r.2.2.2.2.1.1,r.2.2.2.2.2.1,r.2.2.2.2.2.2.1):=by
 unfold mG
 have:∀n (i:Nat) (m:fj),i<=r.2.1.length->r.2.1.length-i<n->Has (uN 80000 r a n (i:Int) m) fun v=>∃m,v=(a.1,a.2.1,m,r.1,r.2.1,r.2.2.1,r.2.2.2.1.1,r.2.2.2.2.1.1,r.2.2.2.2.2.1,r.2.2.2.2.2.2.1):=by
  intro n
  induction n with
  |zero=>intro i s _ h;omega
  |succ n O=>
   intro i m U W
   unfold uN IW
   refine bt (fun X=>?_) fun _=>VW o q 80000 0 m (Nat.zero_le _) (by omega)
   refine bz (by omega) fun Y _=>?_
   refine aR (Iq ..) fun v _=>?_
   rw[bB (by omega)]
   exact O (i+1) _ (by omega) (by omega)
 exact this 80000 0 [] (Nat.zero_le _) (by omega)
end Go.Ev
namespace Go.Ev
open Go
set_option linter.unusedVariables false
def gt(o:List Node)(n:Nat):List Int:=(o.take n).flatMap fun x=>x.2.2.2.2.1
def iS(o:List Node):Prop:=dN o/\o.length<=256/\(gt o o.length).Nodup
def PU(o:List Node)(i:Nat):Prop:=∀(h:i<o.length),(∀k∈(o[i]'h).2.2.2.2.1,(i:Int)<k/\k<(o.length:Int))/\((o[i]'h).1=8\/(o[i]'h).1=9->(o[i]'h).2.2.2.2.1.length=1)
structure Seen(N:Nat)(V:List Int)(t:List Bool):Prop where
 len:t.length=N
 tl:V.Nodup
 flag:∀k∈V,0<=k/\t[k.toNat]? =some true
 count:V.length+t.count false=N
theorem Seen.add{N:Nat}{V:List Int}{t:List Bool}(h:Seen N V t){m:Nat}(q:m<t.length)(O:t[m]'q=false):Seen N (V++[(m:Int)]) (t.set m true):=by
 have U:((m:Nat):Int)∉V:=fun W=>by
  have:=(h.flag _ W).2
  rw[Int.toNat_natCast,List.getElem?_eq_getElem q,O]at this
  cases this
 refine⟨by rw[List.length_set];exact h.len,?_,?_,?_⟩
 ·rw[List.nodup_append]
  exact⟨h.tl,by simp,fun a X b R e=>by simp at R;exact U (by rw[<-R,<-e];exact X)⟩
 ·intro k o
  rcases List.mem_append.1 o with o|o
  ·have:=h.flag k o
   refine⟨this.1,?_⟩
   rw[List.getElem?_set]
   by_cases e:m=k.toNat
   ·rw[if_pos e,if_pos q]
   ·rw[if_neg e];exact this.2
  ·simp at o
   subst o
   exact⟨by omega,by rw[Int.toNat_natCast,List.getElem?_set_self q]⟩
 ·have:=wL q O
  have:=h.count
  simp only[List.length_append,List.length_cons,List.length_nil]
  omega
theorem VK{o:List Node}{i:Nat}(h:i<o.length):gt o (i+1)=gt o i++(o[i]'h).2.2.2.2.1:=by
 unfold gt
 rw[List.take_succ_eq_append_getElem h,List.flatMap_append]
 simp
theorem Of{p:jy}{i:Nat}(hi:i<p.1.length){x:Node}(Z:p.1[i]'hi=x) (lh:p.1.length<=256) {go:Int->List Bool->Option Bool} {Q:Bool->Prop} (W:Q false)
  (la:∀t,Seen p.1.length (gt p.1 (i+1)) t->(∀k∈x.2.2.2.2.1,(i:Int)<k/\k<(p.1.length:Int))->Has (go (am ((i:Int)+1)) t) Q):
  ∀n (j:Nat) (t:List Bool),j<=x.2.2.2.2.1.length->t.count false<n->Seen p.1.length (gt p.1 i++x.2.2.2.2.1.take j) t->(∀k∈x.2.2.2.2.1.take j,(i:Int)<k/\k<(p.1.length:Int))->
   Has (pc x (i:Int) p go n (j:Int) t) Q:=by
 intro n
 induction n with
 |zero=>intro j t _ h;omega
 |succ n lb=>
  intro j t li lj q U
  have lc:=q.count
  simp only[List.length_append,List.length_take]at lc
  unfold pc Ch
  refine bt (fun lk=>?_) fun ll=>?_
  ·have O:j<x.2.2.2.2.1.length:=by omega
   refine bz O fun y ld=>?_
   unfold B9 sj
   refine aD (fun _=>aD (fun _=>aw W) fun le=>nomatch le) fun lf=>?_
   simp only[Bool.or_eq_false_iff,decide_eq_false_iff_not]at lf
   obtain⟨m,rfl⟩:∃m:Nat,y=(m:Int):=⟨y.toNat,by omega⟩
   have R:m<t.length:=by have:=q.len;omega
   refine bz R fun f X=>?_
   refine aD (fun _=>aw W) fun lg=>?_
   refine bz R fun _ _=>?_
   subst lg
   rw[bB (by omega),Int.toNat_natCast]
   have Y:x.2.2.2.2.1.take (j+1)=x.2.2.2.2.1.take j++[(m:Int)]:=by rw[List.take_succ_eq_append_getElem O,ld]
   have lm:=wL R X
   refine lb (j+1) (t.set m true) O (by omega) (by rw[Y,<-List.append_assoc];exact q.add R X) ?_
   intro k o
   rw[Y]at o
   rcases List.mem_append.1 o with o|o
   ·exact U k o
   ·simp at o
    omega
  ·have O:j=x.2.2.2.2.1.length:=by omega
   subst O
   rw[List.take_length]at q U
   refine la t ?_ U
   rw[VK hi,Z]
   exact q
theorem Qf(p:jy):Has (ka 80000 p) fun b=>b=true->iS p.1:=by
 unfold ka
 by_cases W:(decide ((p.1.length:Int)<1)||decide ((256:Int)<(p.1.length:Int)))=true
 ·rw[W]
  exact⟨false,rfl,fun o=>by cases o⟩
 ·rw[Bool.eq_false_iff.2 W]
  simp only[Bool.or_eq_true,decide_eq_true_eq]at W
  have le:1<=p.1.length:=by omega
  have Y:p.1.length<=256:=by omega
  have lr:=ma
  unfold xN
  rw[if_neg (by simp)]
  refine bO ⟨by omega,by omega,by omega⟩ ?_
  rw[Int.toNat_natCast]
  have lf:∀n (i:Nat) (t:List Bool),i<=p.1.length->p.1.length-i<n->Seen p.1.length (gt p.1 i) t->(∀j,j<i->PU p.1 j)->Has (gB 80000 p n (i:Int) t) fun b=>b=true->iS p.1:=by
   intro n
   induction n with
   |zero=>intro i t _ h;omega
   |succ n lg=>
    intro i t hi ls q Z
    have lt:=q.count
    unfold gB De
    refine bt (fun lu=>?_) fun lv=>?_
    ·have O:i<p.1.length:=by omega
     refine bz O fun x la=>?_
     have lb:(x.1=8\/x.1=9->x.2.2.2.2.1.length=1)->∀b,Has (pa 80000 x (i:Int) p (gB 80000 p n) t b) fun b=>b=true->iS p.1:=fun U b=>by
      unfold pa
      refine aD (fun _=>aw fun o=>nomatch o) fun _=>?_
      have lw:t.count false<=t.length:=List.count_le_length
      have lh:=q.len
      refine Of O la Y (fun o=>nomatch o) (fun li lj lk=>?_) 80000 0 t (Nat.zero_le _) (by omega) (by simpa using q) (by simp)
      rw[bB (by omega)]
      refine lg (i+1) li O (by omega) lj fun j ll=>?_
      by_cases e:j=i
      ·subst e
       intro lx
       rw[la]
       exact⟨lk,U⟩
      ·exact Z j (by omega)
     have X:(x.1=8\/x.1=9->x.2.2.2.2.1.length=1)->Has (nM 80000 x (i:Int) p (gB 80000 p n) t) fun b=>b=true->iS p.1:=fun U=>by
      unfold nM Eh
      exact aD (fun _=>lb U _) fun _=>lb U _
     have R:∀c:Int,c≠8->c≠9->Has (kX 80000 x (i:Int) p (gB 80000 p n) t (x.1==c)) fun b=>b=true->iS p.1:=fun c lm ln=>by
      unfold kX
      refine aD (fun e=>aD (fun _=>aw fun o=>nomatch o) fun _=>X fun o=>?_) fun _=>aw fun o=>nomatch o
      have:x.1=c:=by simpa using e
      omega
     have lc:∀c:Int,Has (oK 80000 x (i:Int) p (gB 80000 p n) t (x.1==c)) fun b=>b=true->iS p.1:=fun c=>by
      unfold oK
      refine aD (fun _=>aD (fun _=>aw fun o=>nomatch o) fun lo=>X fun _=>?_) fun _=>?_
      ·have:¬((x.2.2.2.2.1.length:Int)≠1):=by simpa using lo
       omega
      ·exact aD (fun _=>R 1 (by decide) (by decide)) fun _=>aD (fun _=>R 2 (by decide) (by decide)) fun _=>aD (fun _=>R 3 (by decide) (by decide)) fun _=>aD (fun _=>R 4 (by decide) (by decide)) fun _=>R 5 (by decide) (by decide)
     have ld:∀c:Int,c≠8->c≠9->Has (pm 80000 x (i:Int) p (gB 80000 p n) t (x.1==c)) fun b=>b=true->iS p.1:=fun c lm ln=>by
      unfold pm
      refine aD (fun e=>X fun o=>?_) fun _=>aD (fun _=>lc 8) fun _=>lc 9
      have:x.1=c:=by simpa using e
      omega
     exact aD (fun _=>ld 6 (by decide) (by decide)) fun _=>ld 7 (by decide) (by decide)
    ·have O:i=p.1.length:=by omega
     subst O
     have lh:=q.len
     rw[show(1:Int)=((1:Nat):Int)from rfl,k9 (by omega),Option.bind_some]
     refine aR (gy (KE _ (by rw[List.length_drop];omega) _)) fun b _=>aw fun _=>?_
     have lp:∀(j:Nat) (h:j<p.1.length),(p.1[j]'h).2.2.2.2.1.length<=1000:=by
      intro j h
      have ly:(p.1[j]'h).2.2.2.2.1.length<=(gt p.1 p.1.length).length:=by
       unfold gt
       rw[List.take_length]
       have hm:p.1[j]'h∈p.1:=List.getElem_mem _
       generalize p.1[j]'h=y at hm
       generalize p.1=l at hm
       induction l with
       |nil=>cases hm
       |cons z l lq=>
        rw[List.flatMap_cons,List.length_append]
        rcases List.mem_cons.1 hm with rfl|hm
        ·omega
        ·have:=lq hm
         omega
      omega
     refine⟨⟨le,by omega,fun j h=>?_⟩,Y,q.tl⟩
     have:=Z j h h
     refine⟨this.1,fun o=>?_,lp j h⟩
     have:=this.2 o
     intro e
     rw[e]at this
     cases this
  refine lf 80000 0 _ (Nat.zero_le _) (by omega) ?_ (fun j ll=>by omega)
  refine⟨by simp,by simp[gt],by simp[gt],?_⟩
  simp[gt,List.count_replicate]
theorem GM(a:bj)(p:jy):Has (pK 80000 a p) fun e=>e=0->iS p.1/\ka 80000 (p.1,())=some true:=by
 unfold pK
 obtain⟨e,U,_⟩:=q0 (a.1,a.2.1,())
 rw[U,Option.bind_some]
 refine aD (fun h=>aw fun o=>?_) fun _=>?_
 ·subst o
  simp at h
 obtain⟨b,W,X⟩:=Qf (p.1,())
 rw[W,Option.bind_some]
 refine aD (fun _=>aw fun o=>nomatch o) fun h=>?_
 have O:b=true:=by simpa using h
 have R:iS p.1:=X O
 have Y:=R.2.1
 have:cj (mY 80000 p a 80000 0):=by
  refine ql (L:=mY 80000 p a) (len:=p.1.length) (by omega) ?_ 80000 0 (Nat.zero_le _) (by omega)
  intro n i hi q
  unfold mY Ds rI
  exact gL (fun Z=>dp (kP (by omega)) fun x _=>cL (fun _=>dp (sM _ _) fun _ _=>cL (fun _=>cd _) fun _=>q (by omega))
   fun _=>cL (fun _=>dp (Fq _ _ _) fun _ _=>cL (fun _=>cd _) fun _=>q (by omega)) fun _=>q (by omega)) fun _=>cd _
 exact jn (gy this) fun _ _ _=>⟨R,by rw[O]⟩
theorem XI(a:bj)(s:fb)(n:Int):Has (rg 80000 a s n) fun b=>b=true->s.1=0->0<=s.2.1/\s.2.1<n:=by
 unfold rg Ee nN
 refine aD (fun _=>?_) fun _=>?_
 ·rw[if_pos rfl]
  exact aw fun o=>nomatch o
 refine aD (fun q=>?_) fun q=>?_
 ·unfold Md th nN
  refine aD (fun _=>aw fun o=>nomatch o) fun O=>?_
  simp only[Bool.or_eq_false_iff,decide_eq_false_iff_not]at O
  refine aR (gy (tO ..)) fun b _=>aw fun _ _=>?_
  omega
 ·unfold th nN
  rw[if_neg (by simp)]
  refine aR (gy (tO ..)) fun b _=>aw fun _ o=>?_
  rw[o]at q
  cases q
structure qV(a:bj)(r:fe):Prop where
 Ep:cv a=true
 target:r.2.1.length<=8
 ro:r.2.2.1.length<=8
 from_:∀s∈r.2.2.1,s.1=0->0<=s.2.1/\s.2.1<(r.2.1.length:Int)
 left:iS r.2.2.2.1.1
 right:iS r.2.2.2.2.1.1
 Q8:ka 80000 (r.2.2.2.1.1,())=some true
 TP:ka 80000 (r.2.2.2.2.1.1,())=some true
theorem JI(a:bj)(r:fe):Has (nY 80000 a r) fun e=>e=0->qV a r:=by
 unfold nY
 rw[show eP 80000 ((a.1,a.2.1,()):bj)=some (if cv a then 0 else 7)from kB a,Option.bind_some]
 refine aD (fun h=>aw fun o=>?_) fun h=>?_
 ·rw[o]at h
  cases h
 have lb:cv a=true:=by
  cases aM:cv a with
  |true=>rfl
  |false=>rw[aM]at h;cases h
 refine aR (gy (KH _)) fun v _=>?_
 unfold D1 Ao Fj C4 Bm
 refine aD (fun _=>aw fun o=>nomatch o) fun lc=>?_
 simp only[Bool.or_eq_false_iff,decide_eq_false_iff_not]at lc
 have ld:r.2.1.length<=8:=by omega
 have le:r.2.2.1.length<=8:=by omega
 have l2:∀n (i:Nat),i<=r.2.2.1.length->r.2.2.1.length-i<n->(∀s∈r.2.2.1.take i,s.1=0->0<=s.2.1/\s.2.1<(r.2.1.length:Int))->Has (nX 80000 r a n (i:Int)) fun e=>e=0->qV a r:=by
  intro n
  induction n with
  |zero=>intro i _ h;omega
  |succ n O=>
   intro i hi lf R
   unfold nX CG
   refine bt (fun lg=>?_) fun lj=>?_
   ·have U:i<r.2.2.1.length:=by omega
    refine bz U fun x W=>?_
    refine aR (XI _ _ _) fun b lh=>?_
    refine aD (fun _=>aw fun o=>nomatch o) fun li=>?_
    rw[bB (by omega)]
    refine O (i+1) U (by omega) fun s q=>?_
    rw[List.take_succ_eq_append_getElem U,W]at q
    rcases List.mem_append.1 q with q|q
    ·exact R s q
    ·simp only[List.mem_cons,List.not_mem_nil,or_false]at q
     subst q
     exact lh (by simpa using li)
   ·have:i=r.2.2.1.length:=by omega
    subst this
    rw[List.take_length]at R
    refine aR (GM a (r.2.2.2.1.1,())) fun v5 X=>?_
    unfold rb
    refine aD (fun _=>?_) fun Y=>?_
    ·rw[if_pos rfl]
     exact aw fun o=>nomatch o
    refine aR (GM a (r.2.2.2.2.1.1,())) fun lk Z=>?_
    refine aD (fun _=>aw fun o=>nomatch o) fun la=>aw fun _=>?_
    exact⟨lb,ld,le,R,(X (by simpa using Y)).1,(Z (by simpa using la)).1,(X (by simpa using Y)).2,(Z (by simpa using la)).2⟩
 have l1:∀n (i:Nat),i<=r.2.1.length->r.2.1.length-i<n->Has (pM 80000 r a n (i:Int)) fun e=>e=0->qV a r:=by
  intro n
  induction n with
  |zero=>intro i _ h;omega
  |succ n O=>
   intro i hi lf
   unfold pM D0
   refine bt (fun lg=>?_) fun _=>l2 80000 0 (Nat.zero_le _) (by omega) (by simp)
   refine bz (by omega) fun x W=>?_
   refine aR (gy (tO ..)) fun b _=>?_
   refine aD (fun _=>aw fun o=>nomatch o) fun _=>?_
   rw[bB (by omega)]
   exact O (i+1) (by omega) (by omega)
 exact l1 80000 0 (Nat.zero_le _) (by omega)
/-! A word's places, and what is wrong with laws and a word. -/
theorem Nn{v2:List Int×Int}{O:fe}(X:v2.1.length<=256){t2:List (List UInt8)}{t3:List cJ}{t4:List UInt8}{t5:List cJ}{t6:List fb}{t7 t8:List Node}{t9:Int}{t10:Bool}(R:dN t7)(U:dN t8)(W:t5.length<=8)(m:fj):
  ∀n (i:Nat) (o:List (Int×Int×Unit)),i<=v2.1.length+1->v2.1.length+1-i<n->o.length<=i->Has (sS 80000 v2 O n (i:Int) t2 t3 t4 t5 t6 t7 t8 t9 t10 m o) fun _=>True:=by
 have Y:=e0
 intro n
 induction n with
 |zero=>intro i o _ h;omega
 |succ n q=>
  intro i o Z la lb
  unfold sS Ip
  rw[bB (by omega)]
  refine bt (fun lc=>?_) fun _=>aw trivial
  refine aR (Ca (by omega) R U W (by omega)) ?_
  rintro v ⟨b,rfl,_⟩
  unfold xU
  rw[bB (by omega)]
  refine aD (fun _=>?_) fun _=>q (i+1) _ (by omega) (by omega) (by omega)
  refine bO (by simp only[List.length_cons,List.length_nil];omega) ?_
  exact q (i+1) _ (by omega) (by omega) (by simp only[List.length_append,List.length_cons,List.length_nil];omega)
theorem Ul(a:bj)(r:fe)(w:List UInt8):Has (xp 80000 a r w) fun _=>True:=by
 unfold xp
 refine aR (JI a r) fun v1 q=>?_
 refine aD (fun _=>aw trivial) fun O=>?_
 have o:=q (by simpa using O)
 refine aR (NG a w) fun v2 R=>?_
 refine aD (fun _=>aw trivial) fun _=>?_
 refine aR (zS a o.target o.left.1.2.1 o.right.1.2.1) ?_
 rintro v ⟨m,rfl⟩
 exact Nn R o.left.1 o.right.1 o.target m 80000 0 [] (Nat.zero_le _) (by omega) (Nat.zero_le _)
theorem P1(a:bj)(o:cv a=true)(w:List UInt8):Has (zZ 80000 a w) fun _=>True:=by
 unfold zZ Cp
 have q:=yK o
 refine aR (Q:=fun _=>True) ?_ fun v _=>aR (Ul a v w) fun _ _=>aw trivial
 exact bz (i:=0) (by show 0<a.2.1.length;omega) fun x _=>aw trivial
end Go.Ev
namespace Go.Ev
open Go
set_option linter.unusedVariables false
theorem LJ(k:Nat)(x y:cJ):cj (uw k x y):=by
 unfold uw
 obtain⟨v,e,_⟩:=Qp k _ (Kn (BitVec.toNat (BitVec.ofInt 32 (dm (BitVec.toNat (BitVec.ofInt 32 x.2.1^^^BitVec.ofInt 32 y.2.1)))|||BitVec.ofInt 32 (dm (BitVec.toNat (BitVec.ofInt 32 x.2.2.1^^^BitVec.ofInt 32 y.2.2.1)))):Int)).1 (Kn _).2
 rw[e]
 exact⟨v,rfl⟩
theorem T6{o:List cJ}(c:cJ×Unit)(O:o.length<=128):∀n (i:Nat) (m1 m2 m3:Int),i<=o.length->o.length-i<n->Has (uX 80000 o c n (i:Int) m1 m2 m3) fun _=>True:=by
 intro n
 induction n with
 |zero=>intro i _ _ _ _ h;omega
 |succ n q=>
  intro i m1 m2 m3 R U
  unfold uX I8
  refine bt (fun W=>?_) fun _=>aw trivial
  refine bz (by omega) fun X _=>?_
  unfold EV zC
  rw[bB (by omega)]
  refine aR (Q:=fun _=>True) (aR (gy (LJ ..)) fun _ _=>aR (gy (LJ ..)) fun _ _=>aw trivial) fun v _=>?_
  exact bt (fun _=>q (i+1) _ _ _ (by omega) (by omega)) fun _=>q (i+1) _ _ _ (by omega) (by omega)
theorem LO(a:bj)(q:cv a=true)(r p m:Int):Has (uY 80000 a r p m) fun _=>True:=by
 have o:=yK q
 unfold uY
 refine aR (gy (sM ..)) fun v1 _=>?_
 refine aD (fun _=>aw trivial) fun _=>?_
 refine aR (gy (zu ..)) fun v2 _=>?_
 refine aD (fun _=>aw trivial) fun _=>?_
 refine aR (Q:=fun _=>True) ?_ fun _ _=>aw trivial
 unfold E6
 refine bt (fun h=>by omega) fun _=>?_
 exact bz (i:=0) (by omega) fun x _=>T6 _ o.2.2 80000 1 _ _ _ o.2.1 (by omega)
theorem WM{c3:List fb}{found:List Int}{c8:List (List UInt8)}{c9:List cJ}(R:cv (c8,c9,())=true)(Z:c3.length<=8)(U:∀s∈c3,s.1=0->0<=s.2.1/\s.2.1<(found.length:Int)):
  ∀n (i:Nat) (o:List Int),i<=c3.length->c3.length-i<n->o.length<=i->Has (uC 80000 c3 found c8 c9 n (i:Int) o) fun aa=>aa.length<=8:=by
 have la:=e0
 intro n
 induction n with
 |zero=>intro i _ _ h;omega
 |succ n q=>
  intro i o lb lc ld
  unfold uC JC
  refine bt (fun le=>?_) fun _=>aw (by omega)
  refine bz (by omega) fun W X=>?_
  unfold yL
  rw[bB (by omega)]
  refine aD (fun _=>?_) fun Y=>?_
  ·refine bO (by simp only[List.length_cons,List.length_nil];omega) ?_
   exact q (i+1) _ (by omega) (by omega) (by simp only[List.length_append,List.length_cons,List.length_nil];omega)
  ·have O:=U W (X▸List.getElem_mem _) (by simpa using Y)
   refine Ex O.1 O.2 fun lf _=>?_
   unfold FA
   refine aR (Q:=fun _=>True) (aR (LO _ R ..) fun _ _=>aw trivial) fun v _=>?_
   refine bO (by simp only[List.length_cons,List.length_nil];omega) ?_
   exact q (i+1) _ (by omega) (by omega) (by simp only[List.length_append,List.length_cons,List.length_nil];omega)
theorem Ks{c3:List fb}{found:List Int}{c8:List (List UInt8)}{c9:List cJ}(o:cv (c8,c9,())=true)(q:c3.length<=8)(O:∀s∈c3,s.1=0->0<=s.2.1/\s.2.1<(found.length:Int))
  (c1:List UInt8)(c2:List cJ)(c4 c5:List Node)(c6:Int)(c7:Bool)(m1:fj):Has (pv 80000 found c1 c2 c3 c4 c5 c6 c7 m1 c8 c9) fun aa=>aa.length<=8:=by
 unfold pv
 exact WM o q O 80000 0 [] (Nat.zero_le _) (by omega) (Nat.zero_le _)
theorem wa(x:Int):(Utf8.encode x).data.toList.length<=4:=by
 rw[Array.length_toList]
 exact encode_size_le x
theorem nL(xs:List Int):(cz xs).length<=4*xs.length:=by
 have:=foldl_size_le xs ByteArray.empty
 unfold cz runesBytes
 rw[Array.length_toList]
 rw[show ByteArray.empty.size=0 from rfl,Nat.zero_add]at this
 exact this
theorem vY(s:List UInt8):(dS s).length<=s.length:=by
 have:∀n i,(k1 s n i).length<=n:=by
  intro n
  induction n with
  |zero=>intro i;exact Nat.le_refl _
  |succ n o=>
   intro i
   unfold k1
   split
   ·have:=o (i+(Utf8.decode (bytesOf s) i).2)
    simp only[List.length_cons]
    omega
   ·exact Nat.zero_le _
 exact this _ _
theorem VY{s:List UInt8}(O:s.length<=70000):∀n p (c:Nat),p<=s.length->s.length-p<n->c<=p->Has (o5 s n (c:Int) p) fun v=>∃m:Nat,v=(m:Int)/\m<=70000:=by
 intro n
 induction n with
 |zero=>intro p c _ h;omega
 |succ n o=>
  intro p c R U W
  unfold o5 Ft
  refine bt (fun q=>?_) fun _=>aw ⟨c,rfl,by omega⟩
  have:=jG s p q
  rw[bB (by omega),jl]
  exact o _ (c+1) (by omega) (by omega) (by omega)
theorem yu{s:List UInt8}(o:s.length<=70000):Has (jV 80000 s) fun v=>∃m:Nat,v=(m:Int)/\m<=70000:=by
 unfold jV uu
 exact VY o _ 0 0 (Nat.zero_le _) (by omega) (Nat.le_refl _)
abbrev hY:Type:=List eL
def Fr(n i:Nat)(S:hY):Prop:=S.length=n+2/\∃j w,i<=j/\j<=n+1/\w.length<=40*j/\S[j]? =some (some (some [(w,true)]))/\∀o,i<=o->o<=n+1->o≠j->S[o]? =some (some (some []))
theorem o8{S:hY}{i:Nat}{y:Option bT}(h:S[i]? =some (some y)):gm S (i:Int)=some y:=by
 unfold gm
 rw[Int.toNat_natCast,h]
theorem B2{S:hY}{i:Nat}{y:List bH}(h:S[i]? =some (some (some y))):iB S (i:Int)=some y:=by
 unfold iB
 rw[Int.toNat_natCast,h]
theorem nb{S:hY}{i j:Nat}{x}(h:i≠j):(S.set i x)[j]? =S[j]? :=by rw[List.getElem?_set,if_neg h]
theorem Fr.take{n i:Nat}{S:hY}(h:Fr n i S)(hi:i<=n+1):∃l,S[i]? =some (some (some l))/\((l=[]/\Fr n (i+1) (S.set i none))\/
  ∃w:List UInt8,l=[(w,true)]/\w.length<=40*i/\∀o,i<o->o<=n+1->gm (S.set i none) (o:Int)=some (some [])/\iB (S.set i none) (o:Int)=some []/\(S.set i none).length=n+2/\
   ∀q:List UInt8,q.length<=40*o->Fr n (i+1) ((S.set i none).set o (some (some [(q,true)])))):=by
 obtain⟨R,j,w,ld,la,W,X,O⟩:=h
 by_cases e:j=i
 ·subst e
  refine⟨[(w,true)],X,.inr ⟨w,rfl,W,fun o lb Y=>?_⟩⟩
  have Z:(S.set j none)[o]? =some (some (some [])):=by rw[nb (by omega)];exact O o (by omega) Y (by omega)
  refine⟨o8 Z,B2 Z,by rw[List.length_set];exact R,fun q lc=>⟨by rw[List.length_set,List.length_set];exact R,o,q,lb,Y,lc,?_,?_⟩⟩
  ·rw[List.getElem?_set_self (by rw[List.length_set];omega)]
  ·intro U a b c
   rw[nb (Ne.symm c),nb (by omega)]
   exact O U (by omega) b (by omega)
 ·refine⟨[],O i (Nat.le_refl _) hi (Ne.symm e),.inl ⟨rfl,by rw[List.length_set];exact R,j,w,by omega,la,W,by rw[nb (Ne.symm e)];exact X,?_⟩⟩
  intro U a b c
  rw[nb (by omega)]
  exact O U (by omega) b c
theorem Fr.first{n:Nat}{S:hY}(o:S.length=n+2)(h:∀j,j<n+2->S[j]? =some (some (some []))):Fr n 0 (S.set 0 (some (some [(([]:List UInt8),true)]))):=by
 refine⟨by rw[List.length_set];exact o,0,[],Nat.le_refl _,by omega,Nat.zero_le _,by rw[List.getElem?_set_self (by omega)],fun q a b c=>?_⟩
 rw[nb (Ne.symm c)]
 exact h q (by omega)
abbrev rS:Type:=Int×List UInt8×List cJ×List fb×List Node×List Node×Int×Bool×fj×List (List UInt8)×List cJ×List (List UInt8)
def dP(v:rS):Prop:=(v.1=0->v.2.2.2.2.2.2.2.2.2.2.2.length=1)/\v.2.2.2.2.2.2.2.2.2.2.2.length<=1/\∀w∈v.2.2.2.2.2.2.2.2.2.2.2,w.length<=10400
theorem dP.err{e:Int}(o:e≠0){a b c d f g h i j k}:dP (e,a,b,c,d,f,g,h,i,j,k,[]):=⟨fun q=>absurd q o,Nat.zero_le _,fun w O=>by cases O⟩
end Go.Ev
namespace Go.Ev
open Go
set_option linter.unusedVariables false
theorem qE{α β:Type}{a:Option β}{f:α->Option β}:mX [] a f=a:=rfl
theorem yA{α β:Type}{p:α}{a:Option β}{f:α->Option β}:mX [p] a f=f p:=rfl
theorem Ad{α:Type}{s:List α}{a b:Nat}(h:a<=b)(o:b<=s.length):∃r,dz s (a:Int) (b:Int)=some r/\r.length=b-a:=by
 refine⟨_,if_pos ⟨by omega,by omega,by omega⟩,?_⟩
 rw[Int.toNat_natCast,Int.toNat_natCast,List.length_drop,List.length_take]
 omega
theorem wJ{a b:Nat}(h:a+b<1000000):am ((a:Int)+(b:Int))=((a+b:Nat):Int):=by rw[fL (by omega)];omega
def Left(N i:Nat)(S:hY)(l:List bH):Prop:=
 (l=[]/\Fr N (i+1) S)\/∃w:List UInt8,l=[(w,true)]/\w.length<=40*i/\∀o,i<o->o<=N+1->gm S (o:Int)=some (some [])/\iB S (o:Int)=some []/\S.length=N+2/\
  ∀q:List UInt8,q.length<=40*o->Fr N (i+1) (S.set o (some (some [(q,true)])))
section all
variable {l1:List Int} {N:Nat} {c1:List UInt8} {c2:List cJ} {c3:List fb} {c4 c5:List Node} {c6:Int} {c7:Bool} {m1:fj} {c8:List (List UInt8)} {c9:List cJ} {iQ:List Bool}
abbrev Bk:Type:=List UInt8×List cJ×List fb×List Node×List Node×Int×Bool×fj×List (List UInt8)×List cJ×List Bool
abbrev Q9:Type:=Int->hY->List UInt8->List cJ->List fb->List Node->List Node->Int->Bool->fj->List (List UInt8)->List cJ->List Bool->Option rS
theorem Uo(lb:l1.length=N)(lc:N<=256)(U:dN c4)(W:dN c5)(X:c2.length<=8):∀n (i:Nat) (t:List Bool),N+1-i<n->i<=1000->t.length=N+1->(∀j:Nat,t[j]? =some true->j+c2.length<=N)->
  Has (qb 80000 l1 n (i:Int) c1 c2 c3 c4 c5 c6 c7 m1 c8 c9 t) fun v=>∃t,v=(c1,c2,c3,c4,c5,c6,c7,m1,c8,c9,t)/\t.length=N+1/\∀j:Nat,t[j]? =some true->j+c2.length<=N:=by
 intro n
 induction n with
 |zero=>intro i t h;omega
 |succ n O=>
  intro i t ld le o q
  unfold qb Jg
  refine bt (fun lf=>?_) fun _=>aw ⟨t,rfl,o,q⟩
  refine aR (Ca (by omega) U W X (by omega)) ?_
  rintro v ⟨b,rfl,Y⟩
  refine aD (fun Z=>?_) fun _=>?_
  ·refine bz (by omega) fun _ _=>?_
   have lg:=Y Z
   obtain⟨m,la,lh⟩:∃m:Nat,am ((i:Int)+(pi 0 (am ((c2.length:Int)-1))))=(m:Int)/\i<=m/\m<=i+8:=by
    refine⟨i+(c2.length-1),?_,by omega,by omega⟩
    rw[fL (x:=(c2.length:Int)-1) (by omega)]
    unfold pi
    split
    ·rw[fL (by omega)];omega
    ·rw[fL (by omega)];omega
   unfold tz
   show Has (qb 80000 l1 n (am ((am ((i:Int)+(pi 0 (am ((c2.length:Int)-1)))))+1)) c1 c2 c3 c4 c5 c6 c7 m1 c8 c9 (t.set ((i:Int)).toNat true)) _
   rw[la,bB (by omega),Int.toNat_natCast]
   refine O (m+1) _ (by omega) (by omega) (by rw[List.length_set];exact o) fun j R=>?_
   by_cases e:i=j
   ·subst e;omega
   ·rw[List.getElem?_set,if_neg e]at R
    exact q j R
  ·unfold tz
   rw[bB (by omega)]
   exact O (i+1) t (by omega) (by omega) o q
theorem V6(lB:l1.length=N)(lC:N<=256){v1:Bk}(lD:v1.2.1.length<=8)(ll:cv (c8,c9,())=true)(O:c3.length<=8)(lm:∀s∈c3,s.1=0->0<=s.2.1/\s.2.1<(v1.2.1.length:Int))
  (lE:iQ.length=N+1)(ln:∀j:Nat,iQ[j]? =some true->j+v1.2.1.length<=N){bF:Q9}{i:Nat}(hi:i<=N)
  (lf:∀bq,Fr N (i+1) bq->Has (bF (am ((i:Int)+1)) bq c1 c2 c3 c4 c5 c6 c7 m1 c8 c9 iQ) dP):
  ∀n S l lg,Left N i S l->Has (gz 80000 bF (i:Int) c1 c2 c3 c4 c5 c6 c7 m1 c8 c9 iQ l1 v1 false (n+2) S l lg) dP:=by
 have lF:=e0
 intro n S l lg lo
 have fin:∀bq p,Fr N (i+1) bq->Has (gz 80000 bF (i:Int) c1 c2 c3 c4 c5 c6 c7 m1 c8 c9 iQ l1 v1 false (n+1) bq [] p) dP:=fun bq p h=>by
  unfold gz tS
  rw[qE]
  exact lf bq h
 unfold gz tS
 rcases lo with ⟨rfl,Z⟩|⟨w,rfl,lG,Z⟩
 ·rw[qE]
  exact lf S Z
 rw[yA]
 refine aR (yu (s:=w) (by omega)) ?_
 rintro v2 ⟨m,rfl,la⟩
 refine bt (fun _=>aw (dP.err (by decide))) fun _=>?_
 refine aR (Q:=fun b=>iQ[i]? =some b) ?_ fun v3 lp=>?_
 ·unfold Bd
  exact bz (by omega) fun x lq=>aw (by rw[List.getElem?_eq_getElem (by omega),lq])
 have put:∀(o:List UInt8) (q:Nat),i<q->q<=N+1->o.length<=40*q->∀(F:hY->Option rS),(∀bq,Fr N (i+1) bq->Has (F bq) dP)->
   Has (Option.bind (bk (0<=(q:Int)/\(q:Int)<(S.length:Int))) fun _=>Option.bind (gm S (q:Int)) fun lH=>Option.bind (iB S (q:Int)) fun lr=>F (List.set S ((q:Int)).toNat (some (some (cl (aV .str) lr o true))))) dP:=by
  intro o q lb lc O F ls
  obtain⟨ae,lt,lI,e4⟩:=Z q lb lc
  refine bO ⟨by omega,by omega⟩ ?_
  rw[ae,Option.bind_some,lt,Option.bind_some,Int.toNat_natCast]
  exact ls _ (e4 o O)
 have one:am ((i:Int)+1)=((i+1:Nat):Int):=bB (by omega)
 have lh:∀(o:List UInt8) (q:Nat),v3=true->i<q->q<=N+1->o.length<=40*q->Has (qD S (i:Int) l1 (w,true) (gz 80000 bF (i:Int) c1 c2 c3 c4 c5 c6 c7 m1 c8 c9 iQ l1 v1 false (n+1)) v3 false o (q:Int)) dP:=by
  intro o q ld lb lc O
  subst ld
  unfold qD
  refine put o q lb lc O (fun bq=>pF (i:Int) l1 (w,true) _ true false bq) fun bq le=>?_
  unfold pF ud
  exact aD (fun R=>nomatch R) fun _=>fin bq _ le
 have W:∀v4:List Int,v4.length<=8->(w++cz v4).length<=40*i+32:=fun v4 h=>by
  have:=nL v4
  rw[List.length_append]
  omega
 refine aD (fun U=>?_) fun U=>?_
 ·have lJ:=ln i (by rw[lp,U])
  rw[wJ (by omega)]
  obtain⟨lK,es,lu⟩:=Ad (s:=l1) (a:=i) (b:=i+v1.2.1.length) (by omega) (by omega)
  rw[es,Option.bind_some]
  refine aR (Ks ll O (by rw[lu];intro s lv ld;have:=lm s lv ld;omega) ..) fun v4 X=>?_
  have:=W v4 X
  have lL:=nL v4
  refine bO (by omega) ?_
  rw[List.length_append]at this
  refine bO (by show w.length+_<=_;omega) ?_
  refine aD (fun Y=>?_) fun Y=>?_
  ·have lw:v1.2.1.length=0:=by simpa using Y
   have li:∀o:List UInt8,o.length<=40*(i+1)->Has (qd S (i:Int) l1 (w,true) (gz 80000 bF (i:Int) c1 c2 c3 c4 c5 c6 c7 m1 c8 c9 iQ l1 v1 false (n+1)) v3 false v1 o) dP:=by
    intro o la
    unfold qd
    rw[wJ (by omega),bB (by omega)]
    exact lh o _ U (by omega) (by omega) (by omega)
   refine bt (fun lx=>?_) fun _=>?_
   ·refine bz (by omega) fun ly _=>?_
    have lz:=wa ly
    have lj:(w++cz v4).length<=40*i+32:=W v4 X
    refine bO (by show(w++cz v4).length+_<=_;omega) ?_
    exact li _ (by rw[List.length_append];show(w++cz v4).length+_<=_;omega)
   ·exact li _ (by have lj:(w++cz v4).length<=40*i+32:=W v4 X;show(w++cz v4).length<=_;omega)
  ·have lw:v1.2.1.length≠0:=by
    intro R
    rw[R]at Y
    simp at Y
   exact lh _ _ U (by omega) (by omega) (by have lj:(w++cz v4).length<=40*i+32:=W v4 X;show(w++cz v4).length<=_;omega)
 ·subst U
  unfold pF ud
  refine aD (fun _=>?_) fun R=>nomatch R
  have lk:∀o:List UInt8,o.length<=40*(i+1)->Has (qh (i:Int) S (gz 80000 bF (i:Int) c1 c2 c3 c4 c5 c6 c7 m1 c8 c9 iQ l1 v1 false (n+1)) (w,true) o) dP:=by
   intro o la
   unfold qh
   rw[one]
   exact put o (i+1) (by omega) (by omega) la (fun bq=>gz 80000 bF (i:Int) c1 c2 c3 c4 c5 c6 c7 m1 c8 c9 iQ l1 v1 false (n+1) bq [] [(w,true)]) fun bq le=>fin bq _ le
  refine bt (fun lx=>?_) fun _=>lk w (by omega)
  refine bz (by omega) fun lA _=>?_
  have lz:=wa lA
  refine bO (by show w.length+_<=_;omega) ?_
  exact lk _ (by rw[List.length_append];show w.length+_<=_;omega)
theorem TR:∀n (w:List UInt8) o,w.length<=10400->Has (pP 80000 c1 c2 c3 c4 c5 c6 c7 m1 c8 c9 (n+2) [(w,true)] o []) dP:=by
 intro n w o O
 unfold pP sJ
 rw[yA]
 refine aR (yu (s:=w) (by omega)) ?_
 rintro v2 ⟨m,rfl,R⟩
 refine bt (fun _=>aw (dP.err (by decide))) fun _=>?_
 refine bO (by have:=e0;simp only[List.length_cons,List.length_nil];omega) ?_
 unfold pP sJ
 rw[qE]
 refine aw ⟨fun _=>rfl,Nat.le_refl _,fun x q=>?_⟩
 simp at q
 rw[q]
 exact O
theorem St(O:l1.length=N)(W:N<=256){v1:Bk}(X:v1.2.1.length<=8)(Y:cv (c8,c9,())=true)(Z:c3.length<=8)(la:∀s∈c3,s.1=0->0<=s.2.1/\s.2.1<(v1.2.1.length:Int))
  (lb:iQ.length=N+1)(lc:∀j:Nat,iQ[j]? =some true->j+v1.2.1.length<=N):
  ∀n (i:Nat) (S:hY),i<=N+1->N+1-i<n->Fr N i S->Has (io 80000 l1 v1 false n (i:Int) S c1 c2 c3 c4 c5 c6 c7 m1 c8 c9 iQ) dP:=by
 intro n
 induction n with
 |zero=>intro i S _ h;omega
 |succ n ld=>
  intro i S le lh R
  have li:=R.1
  obtain⟨l,U,o⟩:=R.take le
  have lj:l.length<=1:=by
   rcases o with ⟨rfl,_⟩|⟨w,rfl,_⟩<;>simp
  unfold io vQ
  rw[bB (by omega)]
  refine bt (fun lk=>?_) fun ll=>?_
  ·refine bO ⟨by omega,by omega⟩ ?_
   rw[o8 U,Option.bind_some]
   refine bt (fun q=>absurd q (by show¬(1024:Int)<(l.length:Int);omega)) fun _=>?_
   refine bO ⟨by omega,by omega⟩ ?_
   rw[Int.toNat_natCast]
   refine V6 O W X Y Z la lb lc (by omega) (fun bq lf=>?_) 79998 (S.set i none) l [] o
   rw[bB (by omega)]
   exact ld (i+1) bq (by omega) (by omega) lf
  ·obtain rfl:i=N+1:=by omega
   rw[O]
   refine bO ⟨by omega,by omega⟩ ?_
   rw[o8 U,Option.bind_some]
   refine bt (fun q=>absurd q (by show¬(1024:Int)<(l.length:Int);omega)) fun _=>?_
   rcases o with ⟨rfl,lg⟩|⟨w,rfl,lm,_⟩
   ·obtain⟨_,j,_,a,b,_⟩:=lg
    omega
   ·exact TR 79998 w [] (by omega)
theorem Wj(R:l1.length=N)(U:N<=256){v1:Bk}(W:v1.2.1.length<=8)(X:cv (v1.2.2.2.2.2.2.2.2.1,v1.2.2.2.2.2.2.2.2.2.1,())=true)(Y:v1.2.2.1.length<=8)(Z:∀s∈v1.2.2.1,s.1=0->0<=s.2.1/\s.2.1<(v1.2.1.length:Int))
  (la:v1.2.2.2.2.2.2.2.2.2.2.length=N+1)(lb:∀j:Nat,v1.2.2.2.2.2.2.2.2.2.2[j]? =some true->j+v1.2.1.length<=N):
  ∀n (i:Nat) (S:hY),i<=N+2->N+2-i<n->S.length=N+2->(∀j,j<i->S[j]? =some (some (some [])))->Has (rj 80000 l1 v1 false n (i:Int) S) dP:=by
 intro n
 induction n with
 |zero=>intro i S _ h;omega
 |succ n lc=>
  intro i S lf lg q o
  unfold rj xQ
  have ld:(List.map some (List.replicate (am ((l1.length:Int)+2)).toNat (none:Option bT))).length=N+2:=by
   rw[List.length_map,List.length_replicate,fL (by omega)]
   omega
  rw[ld]
  refine bt (fun lh=>?_) fun li=>?_
  ·refine bO ⟨by omega,by omega⟩ ?_
   refine bO ⟨by omega,by omega⟩ ?_
   rw[bB (by omega),Int.toNat_natCast]
   refine lc (i+1) _ (by omega) (by omega) (by rw[List.length_set];exact q) fun j le=>?_
   by_cases e:i=j
   ·subst e
    rw[List.getElem?_set_self (by omega)]
   ·rw[nb e]
    exact o j (by omega)
  ·refine bO ⟨by omega,by omega⟩ ?_
   have O:=o 0 (by omega)
   rw[show(0:Int)=((0:Nat):Int)from rfl,o8 O,Option.bind_some,B2 O,Option.bind_some,Int.toNat_natCast]
   exact St R U W X Y Z la lb 80000 0 _ (by omega) (by omega) (Fr.first q fun j le=>o j (by omega))
theorem Ot(q:l1.length<=256)(R:dN c4)(U:dN c5)(O:c2.length<=8)(W:cv (c8,c9,())=true)(X:c3.length<=8)(Y:∀s∈c3,s.1=0->0<=s.2.1/\s.2.1<(c2.length:Int)):
  Has (pj 80000 l1 false c1 c2 c3 c4 c5 c6 c7 m1 c8 c9) dP:=by
 have lc:=ma
 unfold pj vh
 rw[bB (by omega)]
 refine aR (Q:=fun v=>∃t,v=(c1,c2,c3,c4,c5,c6,c7,m1,c8,c9,t)/\t.length=l1.length+1/\∀j:Nat,t[j]? =some true->j+c2.length<=l1.length) ?_ ?_
 ·refine bO ⟨by omega,by omega,by omega⟩ ?_
  refine Uo rfl q R U O 80000 0 _ (by omega) (by omega) (by simp) fun j o=>?_
  rw[Int.toNat_natCast,List.getElem?_replicate]at o
  split at o
  ·cases o
  ·cases o
 ·rintro v ⟨t,rfl,Z,la⟩
  have lb:am ((l1.length:Int)+2)=((l1.length+2:Nat):Int):=by rw[fL (by omega)];omega
  rw[lb]
  refine bO (by omega) ?_
  refine bO ⟨by omega,by omega,by omega⟩ ?_
  exact Wj (v1:=(c1,c2,c3,c4,c5,c6,c7,m1,c8,c9,t)) rfl q O W X Y Z la 80000 0 _ (Nat.zero_le _) (by omega) (by rw[List.length_map,List.length_replicate,Int.toNat_natCast]) (fun j o=>by omega)
end all
end Go.Ev
namespace Go.Ev
open Go
set_option linter.unusedVariables false
section right
variable {l1:List Int} {N:Nat} {c1:List UInt8} {c2:List cJ} {c3:List fb} {c4 c5:List Node} {c6:Int} {c7:Bool} {m1:fj} {c8:List (List UInt8)} {c9:List cJ}
abbrev Ql:Type:=Int->hY->List Int->List UInt8->List cJ->List fb->List Node->List Node->Int->Bool->fj->List (List UInt8)->List cJ->Option rS
theorem TC{made:List UInt8}(W:made.length<=20000)(X:l1.length<=256)(o:dN c4)(q:dN c5)(O:c2.length<=8){i:Nat}(hi:i<=l1.length):
  Has (pU 80000 made (i:Int) c1 c2 c3 c4 c5 c6 c7 m1 c8 c9 l1) fun v=>∃b,v=(b,c1,c2,c3,c4,c5,c6,c7,m1,c8,c9)/\(b=true->i+c2.length<=l1.length):=by
 have Y:=e0
 have Z:=vY made
 unfold pU
 rw[k9 hi,Option.bind_some]
 have ai:(l1.drop i).length=l1.length-i:=List.length_drop
 refine bO (by omega) ?_
 refine aR (Ca (by rw[List.length_append];omega) o q O (by omega)) ?_
 rintro v ⟨b,rfl,R⟩
 refine aw ⟨b,rfl,fun U=>?_⟩
 have:=R U
 rw[List.length_append]at this
 omega
theorem OJ(lD:l1.length=N)(lE:N<=256)(ll:dN c4)(lm:dN c5)(ln:c2.length<=8)(lo:cv (c8,c9,())=true)(O:c3.length<=8)(lp:∀s∈c3,s.1=0->0<=s.2.1/\s.2.1<(c2.length:Int))
  {bF:Ql}{i:Nat}(hi:i<=N)
  (lf:∀bq,Fr N (i+1) bq->Has (bF (am ((i:Int)+1)) bq l1 c1 c2 c3 c4 c5 c6 c7 m1 c8 c9) dP):
  ∀n S l lg,Left N i S l->Has (gD 80000 bF (i:Int) l1 l1 c2 false (n+2) S l lg c1 c2 c3 c4 c5 c6 c7 m1 c8 c9) dP:=by
 have lF:=e0
 intro n S l lg lq
 have fin:∀bq p,Fr N (i+1) bq->Has (gD 80000 bF (i:Int) l1 l1 c2 false (n+1) bq [] p c1 c2 c3 c4 c5 c6 c7 m1 c8 c9) dP:=fun bq p h=>by
  unfold gD vw
  rw[qE]
  exact lf bq h
 unfold gD vw
 rcases lq with ⟨rfl,Z⟩|⟨w,rfl,lG,Z⟩
 ·rw[qE]
  exact lf S Z
 rw[yA]
 refine aR (yu (s:=w) (by omega)) ?_
 rintro v2 ⟨m,rfl,la⟩
 refine bt (fun _=>aw (dP.err (by decide))) fun _=>?_
 refine aR (TC (made:=w) (by omega) (by omega) ll lm ln (by omega)) ?_
 rintro v ⟨b,rfl,lr⟩
 have put:∀(o:List UInt8) (q:Nat),i<q->q<=N+1->o.length<=40*q->∀(F:hY->Option rS),(∀bq,Fr N (i+1) bq->Has (F bq) dP)->
   Has (Option.bind (bk (0<=(q:Int)/\(q:Int)<(S.length:Int))) fun _=>Option.bind (gm S (q:Int)) fun lH=>Option.bind (iB S (q:Int)) fun ls=>F (List.set S ((q:Int)).toNat (some (some (cl (aV .str) ls o true))))) dP:=by
  intro o q lb lc O F lt
  obtain⟨ae,lu,lI,e4⟩:=Z q lb lc
  refine bO ⟨by omega,by omega⟩ ?_
  rw[ae,Option.bind_some,lu,Option.bind_some,Int.toNat_natCast]
  exact lt _ (e4 o O)
 have one:am ((i:Int)+1)=((i+1:Nat):Int):=bB (by omega)
 have lh:∀(o:List UInt8) (q:Nat),b=true->i<q->q<=N+1->o.length<=40*q->Has (qz S (i:Int) l1 (w,true) (gD 80000 bF (i:Int) l1 l1 c2 false (n+1)) (b,c1,c2,c3,c4,c5,c6,c7,m1,c8,c9) false o (q:Int)) dP:=by
  intro o q ld lb lc O
  subst ld
  unfold qz
  refine put o q lb lc O (fun bq=>pA (i:Int) l1 (w,true) _ (true,c1,c2,c3,c4,c5,c6,c7,m1,c8,c9) false bq) fun bq le=>?_
  unfold pA uV
  exact aD (fun R=>nomatch R) fun _=>fin bq _ le
 have W:∀v4:List Int,v4.length<=8->(w++cz v4).length<=40*i+32:=fun v4 h=>by
  have:=nL v4
  rw[List.length_append]
  omega
 refine aD (fun U=>?_) fun U=>?_
 ·have lJ:=lr U
  rw[wJ (by omega)]
  obtain⟨lK,es,lv⟩:=Ad (s:=l1) (a:=i) (b:=i+c2.length) (by omega) (by omega)
  rw[es,Option.bind_some]
  refine aR (Ks lo O (by rw[lv];intro s lw ld;have:=lp s lw ld;omega) ..) fun v4 X=>?_
  have:=W v4 X
  have lL:=nL v4
  refine bO (by omega) ?_
  rw[List.length_append]at this
  refine bO (by show w.length+_<=_;omega) ?_
  refine aD (fun Y=>?_) fun Y=>?_
  ·have lx:c2.length=0:=by simpa using Y
   have li:∀o:List UInt8,o.length<=40*(i+1)->Has (qB S (i:Int) l1 (w,true) (gD 80000 bF (i:Int) l1 l1 c2 false (n+1)) (b,c1,c2,c3,c4,c5,c6,c7,m1,c8,c9) false c2 o) dP:=by
    intro o la
    unfold qB
    rw[wJ (by omega),bB (by omega)]
    exact lh o _ U (by omega) (by omega) (by omega)
   refine bt (fun ly=>?_) fun _=>?_
   ·refine bz (by omega) fun lz _=>?_
    have lA:=wa lz
    have lj:(w++cz v4).length<=40*i+32:=W v4 X
    refine bO (by show(w++cz v4).length+_<=_;omega) ?_
    exact li _ (by rw[List.length_append];show(w++cz v4).length+_<=_;omega)
   ·exact li _ (by have lj:(w++cz v4).length<=40*i+32:=W v4 X;show(w++cz v4).length<=_;omega)
  ·have lx:c2.length≠0:=by
    intro R
    rw[R]at Y
    simp at Y
   exact lh _ _ U (by omega) (by omega) (by have lj:(w++cz v4).length<=40*i+32:=W v4 X;show(w++cz v4).length<=_;omega)
 ·have lB:b=false:=U
  subst lB
  unfold pA uV
  refine aD (fun _=>?_) fun R=>nomatch R
  have lk:∀o:List UInt8,o.length<=40*(i+1)->Has (qy (i:Int) S (gD 80000 bF (i:Int) l1 l1 c2 false (n+1)) (w,true) (false,c1,c2,c3,c4,c5,c6,c7,m1,c8,c9) o) dP:=by
   intro o la
   unfold qy
   rw[one]
   exact put o (i+1) (by omega) (by omega) la (fun bq=>gD 80000 bF (i:Int) l1 l1 c2 false (n+1) bq [] [(w,true)] c1 c2 c3 c4 c5 c6 c7 m1 c8 c9) fun bq le=>fin bq _ le
  refine bt (fun ly=>?_) fun _=>lk w (by omega)
  refine bz (by omega) fun lC _=>?_
  have lA:=wa lC
  refine bO (by show w.length+_<=_;omega) ?_
  exact lk _ (by rw[List.length_append];show w.length+_<=_;omega)
theorem UF:∀n (w:List UInt8) o,w.length<=10400->Has (o6 80000 c1 c2 c3 c4 c5 c6 c7 m1 c8 c9 (n+2) [(w,true)] o []) dP:=by
 intro n w o O
 unfold o6 uH
 rw[yA]
 refine aR (yu (s:=w) (by omega)) ?_
 rintro v2 ⟨m,rfl,R⟩
 refine bt (fun _=>aw (dP.err (by decide))) fun _=>?_
 refine bO (by have:=e0;simp only[List.length_cons,List.length_nil];omega) ?_
 unfold o6 uH
 rw[qE]
 refine aw ⟨fun _=>rfl,Nat.le_refl _,fun x q=>?_⟩
 simp at q
 rw[q]
 exact O
theorem Wl(O:l1.length=N)(W:N<=256)(X:dN c4)(Y:dN c5)(Z:c2.length<=8)(la:cv (c8,c9,())=true)(lb:c3.length<=8)(lc:∀s∈c3,s.1=0->0<=s.2.1/\s.2.1<(c2.length:Int)):
  ∀n (i:Nat) (S:hY),i<=N+1->N+1-i<n->Fr N i S->Has (ik 80000 l1 c2 false n (i:Int) S l1 c1 c2 c3 c4 c5 c6 c7 m1 c8 c9) dP:=by
 intro n
 induction n with
 |zero=>intro i S _ h;omega
 |succ n ld=>
  intro i S le lh R
  have li:=R.1
  obtain⟨l,U,o⟩:=R.take le
  have lj:l.length<=1:=by
   rcases o with ⟨rfl,_⟩|⟨w,rfl,_⟩<;>simp
  unfold ik wW
  rw[bB (by omega)]
  refine bt (fun lk=>?_) fun ll=>?_
  ·refine bO ⟨by omega,by omega⟩ ?_
   rw[o8 U,Option.bind_some]
   refine bt (fun q=>absurd q (by show¬(1024:Int)<(l.length:Int);omega)) fun _=>?_
   refine bO ⟨by omega,by omega⟩ ?_
   rw[Int.toNat_natCast]
   refine OJ O W X Y Z la lb lc (by omega) (fun bq lf=>?_) 79998 (S.set i none) l [] o
   rw[bB (by omega)]
   exact ld (i+1) bq (by omega) (by omega) lf
  ·obtain rfl:i=N+1:=by omega
   rw[O]
   refine bO ⟨by omega,by omega⟩ ?_
   rw[o8 U,Option.bind_some]
   refine bt (fun q=>absurd q (by show¬(1024:Int)<(l.length:Int);omega)) fun _=>?_
   rcases o with ⟨rfl,lg⟩|⟨w,rfl,lm,_⟩
   ·obtain⟨_,j,_,a,b,_⟩:=lg
    omega
   ·exact UF 79998 w [] (by omega)
theorem MZ(W:l1.length<=256)(X:dN c4)(Y:dN c5)(Z:c2.length<=8)(la:cv (c8,c9,())=true)(lb:c3.length<=8)(lc:∀s∈c3,s.1=0->0<=s.2.1/\s.2.1<(c2.length:Int)):
  Has (nr 80000 l1 false c1 c2 c3 c4 c5 c6 c7 m1 c8 c9) dP:=by
 have lg:=ma
 unfold nr tn
 rw[Option.bind_some]
 have q:am ((l1.length:Int)+2)=((l1.length+2:Nat):Int):=by rw[fL (by omega)];omega
 rw[q]
 refine bO (by omega) ?_
 refine bO ⟨by omega,by omega,by omega⟩ ?_
 have ld:∀n (i:Nat) (S:hY),i<=l1.length+2->l1.length+2-i<n->S.length=l1.length+2->(∀j,j<i->S[j]? =some (some (some [])))->Has (re 80000 l1 c2 false l1 c1 c3 c4 c5 c6 c7 m1 c8 c9 n (i:Int) S) dP:=by
  intro n
  induction n with
  |zero=>intro i S _ h;omega
  |succ n le=>
   intro i S lh li O o
   unfold re wk
   have lf:(List.map some (List.replicate (am ((l1.length:Int)+2)).toNat (none:Option bT))).length=l1.length+2:=by
    rw[List.length_map,List.length_replicate,q,Int.toNat_natCast]
   rw[lf]
   refine bt (fun lj=>?_) fun lk=>?_
   ·refine bO ⟨by omega,by omega⟩ ?_
    refine bO ⟨by omega,by omega⟩ ?_
    rw[bB (by omega),Int.toNat_natCast]
    refine le (i+1) _ (by omega) (by omega) (by rw[List.length_set];exact O) fun j R=>?_
    by_cases e:i=j
    ·subst e
     rw[List.getElem?_set_self (by omega)]
    ·rw[nb e]
     exact o j (by omega)
   ·refine bO ⟨by omega,by omega⟩ ?_
    have U:=o 0 (by omega)
    rw[show(0:Int)=((0:Nat):Int)from rfl,o8 U,Option.bind_some,B2 U,Option.bind_some,Int.toNat_natCast]
    exact Wl rfl W X Y Z la lb lc 80000 0 _ (by omega) (by omega) (Fr.first O fun j R=>o j (by omega))
 exact ld 80000 0 _ (Nat.zero_le _) (by omega) (by rw[List.length_map,List.length_replicate,Int.toNat_natCast]) (fun j R=>by omega)
end right
end Go.Ev
namespace Go.Ev
open Go
set_option linter.unusedVariables false
theorem Wf(f:Nat->Nat):∀(l o:List Nat),l.Nodup->(∀x∈l,x∈o)->(l.map f).sum<=(o.map f).sum:=by
 intro l
 induction l with
 |nil=>intro o _ _;exact Nat.zero_le _
 |cons x t U=>
  intro o q O
  rw[List.nodup_cons]at q
  have W:o.Perm (x::o.erase x):=List.perm_cons_erase (O x List.mem_cons_self)
  have:=U (o.erase x) q.2 fun y R=>(List.mem_erase_of_ne (fun e=>q.1 (by rw[<-e];exact R))).2 (O y (List.mem_cons_of_mem _ R))
  rw[(W.map f).sum_nat,List.map_cons,List.sum_cons,List.map_cons,List.sum_cons]
  omega
def AY(o:List Node)(i:Nat):List Int:=(o[i]?).elim [] fun x=>x.2.2.2.2.1
def rV(o:List Node):Nat->Nat->Nat
 |0,_=>0
 |d+1,i=>1+((AY o i).map fun k=>rV o d k.toNat).sum
theorem M4{o:List Node}{i:Nat}(h:i<o.length):AY o i=(o[i]'h).2.2.2.2.1:=by
 unfold AY
 rw[List.getElem?_eq_getElem h]
 rfl
theorem On{o:List Node}(R:dN o):∀d d' i,i<o.length->o.length-i<=d->o.length-i<=d'->rV o d i=rV o d' i:=by
 intro d
 induction d with
 |zero=>intro d' i q U;omega
 |succ d W=>
  intro d' i q U X
  obtain⟨d',rfl⟩:∃m,d'=m+1:=⟨d'-1,by omega⟩
  unfold rV
  congr 2
  refine List.map_congr_left fun k O=>?_
  rw[M4 q]at O
  have:=(R.2.2 i q).1 k O
  exact W d' k.toNat (by omega) (by omega) (by omega)
def wt(o:List Node)(i:Nat):Nat:=rV o o.length i
theorem JY{o:List Node}(q:dN o){i:Nat}(h:i<o.length):wt o i=1+((o[i]'h).2.2.2.2.1.map fun k=>wt o k.toNat).sum:=by
 unfold wt
 rw[On q o.length (o.length+1) i h (by omega) (by omega),rV,M4 h]
theorem Tm{o:List Node}(O:dN o):∀m,m<=o.length->((List.range' (o.length-m) m).map (wt o)).sum=m+(((o.drop (o.length-m)).flatMap fun x=>x.2.2.2.2.1).map fun k=>wt o k.toNat).sum:=by
 intro m
 induction m with
 |zero=>intro _;simp
 |succ m R=>
  intro h
  have hi:o.length-(m+1)<o.length:=by omega
  have q:o.length-(m+1)+1=o.length-m:=by omega
  rw[List.range'_succ,List.map_cons,List.sum_cons,q,R (by omega),List.drop_eq_getElem_cons hi,q,List.flatMap_cons,List.map_append,List.sum_append,JY O hi]
  omega
theorem Qh{o:List Node}(q:iS o):wt o 0<=o.length:=by
 have lc:=q.1.1
 have R:=Tm q.1 o.length (Nat.le_refl _)
 rw[Nat.sub_self,List.drop_zero]at R
 have X:(o.flatMap fun x=>x.2.2.2.2.1)=gt o o.length:=by unfold gt;rw[List.take_length]
 rw[X]at R
 have U:∀k∈gt o o.length,1<=k/\k<(o.length:Int):=by
  intro k O
  rw[<-X]at O
  obtain⟨x,W,Y⟩:=List.mem_flatMap.1 O
  obtain⟨i,hi,rfl⟩:=List.getElem_of_mem W
  have:=(q.1.2.2 i hi).1 k Y
  omega
 have Z:=Wf (wt o) ((gt o o.length).map Int.toNat) (List.range' 1 (o.length-1)) ?_ ?_
 ·have e:List.range' 0 o.length=0::List.range' 1 (o.length-1):=by
   rw[show o.length=(o.length-1)+1 by omega,List.range'_succ]
   rfl
  rw[e,List.map_cons,List.sum_cons]at R
  rw[List.map_map]at Z
  have:((gt o o.length).map (wt o∘Int.toNat)).sum=((gt o o.length).map fun k=>wt o k.toNat).sum:=rfl
  omega
 ·rw[List.nodup_iff_pairwise_ne,List.pairwise_map]
  refine List.Pairwise.imp_of_mem ?_ (List.nodup_iff_pairwise_ne.1 q.2.2)
  intro a b la lb ld e
  have:=U a la
  have:=U b lb
  omega
 ·intro x W
  obtain⟨k,O,rfl⟩:=List.mem_map.1 W
  have:=U k O
  rw[List.mem_range'_1]
  omega
def p7(b:Nat)(b6:List Node):Prop:=∀j (h:j<b6.length),(∀k∈(b6[j]'h).2.2.2.2.1,((b+j:Nat):Int)<k/\k<((b+b6.length:Nat):Int))/\((b6[j]'h).1=8\/(b6[j]'h).1=9->(b6[j]'h).2.2.2.2.1≠[])/\(b6[j]'h).2.2.2.2.1.length<=1000
theorem p7.append{b:Nat}{s t:List Node}(q:p7 b s)(O:p7 (b+s.length) t):p7 b (s++t):=by
 intro j h
 by_cases e:j<s.length
 ·rw[List.getElem_append_left e]
  obtain⟨a,c,d⟩:=q j e
  refine⟨fun k o=>?_,c,d⟩
  have:=a k o
  rw[List.length_append]
  omega
 ·rw[List.length_append]at h
  have R:j-s.length<t.length:=by omega
  rw[List.getElem_append_right (by omega)]
  obtain⟨a,c,d⟩:=O (j-s.length) R
  refine⟨fun k o=>?_,c,d⟩
  have:=a k o
  rw[List.length_append]
  omega
theorem XH{α:Type}(o:List α)(x y:α)(q:List α):(o++x::q).set o.length y=o++y::q:=by
 rw[List.set_append_right _ _ (Nat.le_refl _),Nat.sub_self]
 rfl
theorem Vk{α:Type}(o:List α)(x:α)(q:List α):aB (o++x::q) (o.length:Int)=some x:=by
 rw[Av,List.getElem?_append_right (Nat.le_refl _),Nat.sub_self]
 rfl
abbrev Tr:Type:=Int->List Node->Bool->List Node->Option (List Node)
def r4(rows:List Node)(n:Nat)(v:List Node):Prop:=∃b6,v=rows++b6/\p7 rows.length b6/\1<=b6.length/\b6.length<=n
theorem Vr{q:List Node}{W:Bool}{o:List Int}{rows:List Node}{X:Tr}{x:Node}(R:o.length<=1000)(ld:x.1=8\/x.1=9->o≠[])
  (lm:rows.length+1+(o.map fun k=>wt q k.toNat).sum<=1000)
  (le:∀k∈o,∀ak:List Node,ak.length+wt q k.toNat<=1000->Has (X k q W ak) (r4 ak (wt q k.toNat))):
  ∀n (i:Nat) (U:List Int) (O:List Node),i<=o.length->o.length-i<n->U.length=i->(∀k∈U,(rows.length:Int)<k/\k<((rows.length+1+O.length:Nat):Int))->p7 (rows.length+1) O->O.length<=((o.take i).map fun k=>wt q k.toNat).sum->
   Has (vD o rows X q W n (i:Int) (rows++(x.1,x.2.1,x.2.2.1,x.2.2.2.1,U,())::O)) (r4 rows (1+(o.map fun k=>wt q k.toNat).sum)):=by
 have ln:=e0
 intro n
 induction n with
 |zero=>intro i _ _ _ h;omega
 |succ n lf=>
  intro i U O lo lp Y Z la lg
  unfold vD HJ
  refine bt (fun lq=>?_) fun lr=>?_
  ·have hi:i<o.length:=by omega
   refine bz hi fun y lb=>?_
   have ls:((o.take (i+1)).map fun k=>wt q k.toNat).sum=((o.take i).map fun k=>wt q k.toNat).sum+wt q y.toNat:=by
    rw[List.take_succ_eq_append_getElem hi,lb,List.map_append,List.sum_append]
    simp
   have lt:((o.take (i+1)).map fun k=>wt q k.toNat).sum<=(o.map fun k=>wt q k.toNat).sum:=by
    have:(o.map fun k=>wt q k.toNat).sum=((o.take (i+1)).map fun k=>wt q k.toNat).sum+((o.drop (i+1)).map fun k=>wt q k.toNat).sum:=by
     rw[<-List.sum_append,<-List.map_append,List.take_append_drop]
    omega
   have lh:(rows++(x.1,x.2.1,x.2.2.1,x.2.2.2.1,U,())::O).length=rows.length+1+O.length:=by
    simp only[List.length_append,List.length_cons]
    omega
   rw[lh]
   refine bO ⟨by omega,by omega⟩ ?_
   rw[Vk,Option.bind_some]
   refine bO (by show U.length+_<=_;simp only[List.length_cons,List.length_nil];omega) ?_
   refine bO ⟨by omega,by omega⟩ ?_
   rw[Int.toNat_natCast,XH]
   refine aR (le y (lb▸List.getElem_mem _) _ ?_) ?_
   ·simp only[List.length_append,List.length_cons]
    omega
   ·rintro v ⟨b6,rfl,lc,lu,lv⟩
    simp only[List.length_append,List.length_cons]at lc
    rw[bB (by omega),List.append_assoc,List.cons_append]
    refine lf (i+1) (U++[((rows.length+1+O.length:Nat):Int)]) (O++b6) (by omega) (by omega) (by simp[Y]) ?_ ?_ (by rw[List.length_append];omega)
    ·intro k R
     rw[List.length_append]
     rcases List.mem_append.1 R with R|R
     ·have:=Z k R
      omega
     ·simp only[List.mem_cons,List.not_mem_nil,or_false]at R
      omega
    ·refine la.append ?_
     rw[show rows.length+1+O.length=rows.length+(O.length+1) by omega]
     exact lc
  ·have hi:i=o.length:=by omega
   rw[hi,List.take_length]at lg
   refine aw ⟨(x.1,x.2.1,x.2.2.1,x.2.2.2.1,U,())::O,rfl,?_,by simp,by rw[List.length_cons];omega⟩
   intro j h
   match j,h with
   |0,h=>
    refine⟨fun k R=>?_,fun li e=>?_,by show U.length<=_;omega⟩
    ·have:=Z k R
     rw[List.length_cons]
     omega
    ·have lj:U=[]:=e
     have lk:o.length=0:=by rw[<-hi,<-Y,lj];rfl
     exact ld li (List.length_eq_zero_iff.1 lk)
   |j+1,h=>
    have ll:j<O.length:=by simpa using h
    obtain⟨a,c,d⟩:=la j ll
    refine⟨fun k R=>?_,c,d⟩
    have:=a k R
    rw[List.length_cons]
    omega
theorem Um{o:List Node}(Y:dN o)(X:Bool):∀d k (q:Nat),q<o.length->o.length-q<=d->60000+d<=k->∀ak:List Node,ak.length+wt o q<=1000->Has (jW k (q:Int) o X ak) (r4 ak (wt o q)):=by
 have lk:=e0
 have ll:=ma
 intro d
 induction d with
 |zero=>intro k q W lc;omega
 |succ d ld=>
  intro k q W lc lm ak Z
  obtain⟨k,rfl⟩:∃m,k=m+1:=⟨k-1,by omega⟩
  have R:=Y.2.2 q W
  have la:=JY Y W
  unfold jW
  refine bz W fun x le=>?_
  rw[le]at R la
  have lf:∀y∈x.2.2.2.2.1,∀ak:List Node,ak.length+wt o y.toNat<=1000->Has (jW k y o X ak) (r4 ak (wt o y.toNat)):=by
   intro y O ak Z
   have:=R.1 y O
   obtain⟨m,rfl⟩:∃m:Nat,y=(m:Int):=⟨y.toNat,by omega⟩
   exact ld k m (by omega) (by omega) (by omega) ak Z
  unfold qU
  refine aR (Q:=fun v=>v=x.2.2.2.2.1) (bO (by have:=R.2.2;simp only[List.length_nil];omega) (aw (List.nil_append _))) ?_
  rintro v rfl
  have lb:∀U:List Int,U.length=x.2.2.2.2.1.length->(∀y∈U,y∈x.2.2.2.2.1)->(U.map fun k=>wt o k.toNat).sum=(x.2.2.2.2.1.map fun k=>wt o k.toNat).sum->Has (sq k ak x (jW k) o X U) (r4 ak (wt o q)):=by
   intro U ae lg lh
   have ln:=R.2.2
   unfold sq
   refine bO ⟨by omega,by omega,by omega⟩ ?_
   refine bO (by simp only[List.length_cons,List.length_nil];omega) ?_
   rw[la,<-lh]
   refine Vr (x:=x) (by omega) (fun li e=>?_) (by omega) (fun y O=>lf y (lg y O)) k 0 [] [] (Nat.zero_le _) (by omega) rfl (fun k lj=>by cases lj) (fun j h=>by cases h) (Nat.zero_le _)
   rw[e]at ae
   exact R.2.1 li (List.length_eq_zero_iff.1 ae.symm)
  unfold IR
  refine aD (fun _=>lb _ List.length_reverse (fun y O=>List.mem_reverse.1 O) ?_) fun _=>lb _ rfl (fun y O=>O) rfl
  rw[List.map_reverse]
  exact(List.reverse_perm _).sum_nat
theorem Mj(p:jy)(o:iS p.1)(q:ka 80000 (p.1,())=some true):Has (s9 80000 p) fun v=>dN v.1.1:=by
 have X:=Qh o
 have Y:=o.2.1
 unfold s9 um
 rw[q,Option.bind_some]
 refine aD (fun O=>nomatch O) fun _=>?_
 refine aR (Q:=r4 [] (wt p.1 0)) (aR (Um o.1 true 1000 80000 0 o.1.1 (by omega) (by omega) [] (by simp only[List.length_nil];omega)) fun v R=>aw R) ?_
 rintro v ⟨b6,e,U,W,Z⟩
 rw[List.nil_append]at e
 subst e
 refine aw ?_
 show dN v
 refine⟨W,by omega,fun i h=>?_⟩
 have:=U i h
 simp only[List.length_nil,Nat.zero_add]at this
 exact this
structure BO(r:fe):Prop where
 target:r.2.1.length<=8
 ro:r.2.2.1.length<=8
 from_:∀s∈r.2.2.1,s.1=0->0<=s.2.1/\s.2.1<(r.2.1.length:Int)
 left:dN r.2.2.2.1.1
 right:dN r.2.2.2.2.1.1
theorem qV.run{a:bj}{r:fe}(h:qV a r):BO r:=⟨h.target,h.ro,h.from_,h.left.1,h.right.1⟩
theorem Sf{a:bj}{r:fe}(h:qV a r):Has (ww 80000 r) fun v=>BO v:=by
 have ld:=e0
 have W:=h.target
 have hi:=h.ro
 unfold ww p9 qf
 refine aR (Q:=fun v=>v=r.2.1) (bO (by simp only[List.length_nil];omega) (aw (List.nil_append _))) ?_
 rintro v1 rfl
 refine aR (Q:=fun v=>v=r.2.2.1) (bO (by simp only[List.length_nil];omega) (aw (List.nil_append _))) ?_
 rintro v2 rfl
 have X:∀n (i:Nat) (t:List fb),i<=r.2.2.1.length->r.2.2.1.length-i<n->t.length=r.2.2.1.length->(∀s∈t,s.1=0->0<=s.2.1/\s.2.1<(r.2.1.length:Int))->Has (uW 80000 r.2.2.1 r.2.1 r n (i:Int) t) fun v=>BO v:=by
  intro n
  induction n with
  |zero=>intro i t _ h;omega
  |succ n R=>
   intro i t le lf U q
   unfold uW JQ zm
   rw[List.length_reverse,List.length_reverse]
   refine bt (fun lg=>?_) fun lh=>?_
   ·refine bz (by omega) fun x Y=>?_
    rw[bB (by omega)]
    refine aD (fun O=>?_) fun _=>R (i+1) t (by omega) (by omega) U q
    have Z:x.1=0:=by simpa using O
    have li:=q x (Y▸List.getElem_mem _) Z
    refine R (i+1) _ (by omega) (by omega) (by rw[List.length_set];exact U) fun s o la=>?_
    rcases List.mem_or_eq_of_mem_set o with o|rfl
    ·exact q s o la
    ·have e:am ((am ((r.2.1.length:Int)-1))-x.2.1)=(r.2.1.length:Int)-1-x.2.1:=by
      rw[fL (x:=(r.2.1.length:Int)-1) (by omega),fL (by omega)]
     show 0<=am ((am ((r.2.1.length:Int)-1))-x.2.1)/\am ((am ((r.2.1.length:Int)-1))-x.2.1)<_
     rw[e]
     omega
   ·refine aR (Mj (r.2.2.2.2.1.1,()) h.right h.TP) fun v3 lb=>?_
    refine aR (Mj (r.2.2.2.1.1,()) h.left h.Q8) fun v4 lc=>aw ?_
    refine⟨?_,?_,?_,lb,lc⟩
    ·show(List.reverse r.2.1).length<=8
     rw[List.length_reverse];exact W
    ·show t.length<=8
     omega
    ·intro s o O
     show _/\_<((List.reverse r.2.1).length:Int)
     rw[List.length_reverse]
     exact q s o O
 exact X 80000 0 _ (Nat.zero_le _) (by omega) List.length_reverse fun s o=>h.from_ s (List.mem_reverse.1 o)
end Go.Ev
namespace Go.Ev
open Go
set_option linter.unusedVariables false
def GO(v:List (List UInt8)×Int):Prop:=(v.2=0->v.1.length=1)/\∀w∈v.1,w.length<=50000
theorem PE{v9:rS}(O:dP v9):∀n (i:Nat) (t:List (List UInt8)),i<=v9.2.2.2.2.2.2.2.2.2.2.2.length->v9.2.2.2.2.2.2.2.2.2.2.2.length-i<n->t.length=v9.2.2.2.2.2.2.2.2.2.2.2.length->(∀w∈t,w.length<=10400)->
  Has (pT v9 n (i:Int) t) GO:=by
 have Y:=e0
 have Z:=O.2.1
 intro n
 induction n with
 |zero=>intro i t _ h;omega
 |succ n la=>
  intro i t lb lc U R
  unfold pT D7
  refine bt (fun ld=>?_) fun _=>aw ⟨fun q=>?_,fun w o=>?_⟩
  ·refine bz (by omega) fun x W=>?_
   have le:=R x (W▸List.getElem_mem _)
   have lf:=vY x
   have X:=nL (List.reverse (dS x))
   rw[List.length_reverse]at X
   refine bO (by omega) ?_
   by_cases hi:i+1<v9.2.2.2.2.2.2.2.2.2.2.2.length
   ·omega
   rw[bB (by omega)]
   unfold pT
   obtain⟨n,rfl⟩:∃m,n=m+1:=⟨n-1,by omega⟩
   unfold D7
   refine bt (fun q=>by omega) fun _=>aw ⟨fun q=>?_,fun w o=>?_⟩
   ·show(List.set t _ _).length=1
    rw[List.length_set,U]
    exact O.1 q
   ·rcases List.mem_or_eq_of_mem_set o with o|rfl
    ·have:=R w o
     omega
    ·omega
  ·show t.length=1
   rw[U]
   exact O.1 q
  ·have:=R w o
   omega
theorem RZ(a:bj)(r:fe)(w:List UInt8):Has (tA 80000 a r w) GO:=by
 unfold tA
 refine aR (JI a r) fun v1 Z=>?_
 refine aD (fun h=>aw ⟨fun W=>(by rw[show v1=0 from W]at h;cases h),fun w O=>by cases O⟩) fun la=>?_
 have R:=Z (by simpa using la)
 have o:=R.run
 refine aR (Px a w) fun v2 X=>?_
 refine aD (fun h=>aw ⟨fun W=>(by rw[show v2.1=0 from W]at h;cases h),fun w O=>by cases O⟩) fun _=>?_
 refine aD (fun _=>?_) fun _=>?_
 ·refine aR (zS a o.target o.left.2.1 o.right.2.1) ?_
  rintro v ⟨m,rfl⟩
  refine aR (Ot X o.left o.right o.target R.Ep o.ro o.from_) fun v4 U=>aw ⟨U.1,fun w O=>?_⟩
  have:=U.2.2 w O
  omega
 refine aD (fun _=>?_) fun _=>?_
 ·refine aR (zS a o.target o.left.2.1 o.right.2.1) ?_
  rintro v ⟨m,rfl⟩
  refine aR (MZ X o.left o.right o.target R.Ep o.ro o.from_) fun v4 U=>aw ⟨U.1,fun w O=>?_⟩
  have:=U.2.2 w O
  omega
 ·refine aR (Sf R) fun lb q=>?_
  refine aR (zS a q.target q.left.2.1 q.right.2.1) ?_
  rintro v ⟨m,rfl⟩
  refine aR (MZ (by rw[List.length_reverse];exact X) q.left q.right q.target R.Ep q.ro q.from_) fun v9 Y=>?_
  have lc:=Y.2.1
  exact PE Y 80000 0 _ (Nat.zero_le _) (by omega) rfl Y.2.2
theorem Gp(a:bj)(r:fe)(w:List UInt8):Has (wo 80000 a r w) fun v=>v.1.length<=50000:=by
 unfold wo
 refine aR (RZ a r w) fun v1 o=>?_
 refine aD (fun _=>aw (Nat.zero_le _)) fun q=>?_
 have:=o.1 (by simpa using q)
 exact bz (i:=0) (by omega) fun x O=>aw (o.2 x (O▸List.getElem_mem _))
theorem Kj(a:bj)(l:List fe):Has (uS 80000 a l) fun e=>e=0->cv a=true/\l.length<=64:=by
 unfold uS
 rw[show eP 80000 ((a.1,a.2.1,()):bj)=some (if cv a then 0 else 7)from kB a,Option.bind_some]
 refine aD (fun h=>aw fun o=>by rw[o]at h;cases h) fun h=>?_
 have O:cv a=true:=by
  cases aM:cv a with
  |true=>rfl
  |false=>rw[aM]at h;cases h
 refine bt (fun _=>aw fun o=>nomatch o) fun W=>?_
 have R:∀n (i:Nat),i<=l.length->l.length-i<n->Has (sN 80000 l a n (i:Int)) fun e=>e=0->cv a=true/\l.length<=64:=by
  intro n
  induction n with
  |zero=>intro i _ h;omega
  |succ n U=>
   intro i X Y
   unfold sN KT
   refine bt (fun Z=>?_) fun _=>aw fun _=>⟨O,by omega⟩
   refine bz (by omega) fun x la=>?_
   refine aR (gy (Xb ..)) fun v _=>?_
   refine aD (fun q=>aw fun o=>by rw[o]at q;cases q) fun _=>?_
   rw[bB (by omega)]
   exact U (i+1) (by omega) (by omega)
 exact R 80000 0 (Nat.zero_le _) (by omega)
theorem Hg(a:bj)(w:List UInt8)(l:List fe):Has (rn 80000 a w l) fun e=>e=0->l.length<=64:=by
 unfold rn
 refine aR (Kj a l) fun v1 o=>?_
 refine aD (fun h=>aw fun q=>by rw[q]at h;cases h) fun O=>?_
 have:=o (by simpa using O)
 exact aR (P1 a this.1 w) fun v2 _=>aw fun _=>this.2
theorem XX(a:bj){l:List fe}(U:l.length<=64):∀n (i:Nat) (w:List UInt8) (st:List (Int×List UInt8×List UInt8×Unit)),i<=l.length->l.length-i<n->st.length<=i->Has (oF 80000 l a n w (i:Int) st) fun v=>w.length<=50000->v.1.length<=50000:=by
 have W:=e0
 intro n
 induction n with
 |zero=>intro i _ _ _ h;omega
 |succ n q=>
  intro i w st X Y Z
  unfold oF Fo
  refine bt (fun la=>?_) fun _=>aw fun R=>R
  refine bz (by omega) fun x _=>?_
  refine aR (Gp ..) fun v1 O=>?_
  refine aD (fun _=>aw fun _=>Nat.zero_le _) fun _=>?_
  unfold sn
  rw[bB (by omega)]
  refine aD (fun _=>?_) fun _=>jn (q (i+1) _ _ (by omega) (by omega) (by omega)) fun v o _=>o O
  refine bO (by simp only[List.length_cons,List.length_nil];omega) ?_
  exact jn (q (i+1) _ _ (by omega) (by omega) (by simp only[List.length_append,List.length_cons,List.length_nil];omega)) fun v o _=>o O
theorem Nt(a:bj)(l:List fe)(w:List UInt8):Has (kH 80000 a l w) fun v=>(v.2=0->l=[]->v.1=w)/\(w.length<=50000->v.1.length<=50000):=by
 unfold kH sA
 refine aR (Hg a w l) fun v1 q=>?_
 refine aD (fun h=>aw ⟨fun o=>(by rw[show v1=0 from o]at h;cases h),fun _=>Nat.zero_le _⟩) fun O=>?_
 have R:=q (by simpa using O)
 cases l with
 |nil=>exact aw ⟨fun _ _=>rfl,fun h=>h⟩
 |cons x l=>exact aR (XX a R 80000 0 w [] (Nat.zero_le _) (by omega) (Nat.zero_le _)) fun v2 U=>aw ⟨fun _ o=>(nomatch o),U⟩
def dl(a:bj)(l:List fe)(w:List UInt8):List UInt8×Int:=(kH 80000 a l w).getD ([],0)
theorem DE(a:bj)(l:List fe)(w:List UInt8):kH 80000 a l w=some (dl a l w):=by
 obtain⟨v,e,_⟩:=Nt a l w
 unfold dl
 rw[e]
 rfl
end Go.Ev
namespace Go.Ev
set_option linter.unusedVariables false
variable {p:Nat->Nat}
end Go.Ev
namespace Go.Ev
open Go
set_option linter.unusedVariables false
abbrev N1:Type:=List UInt8×Int×List fe×Unit
structure X8(l:List N1):Prop where
 pos:1<=l.length
 le:l.length<=32
 root:∀h:0<l.length,(l[0]'h).2.1=-1
 parent:∀i (h:i<l.length),0<i->0<=(l[i]'h).2.1/\(l[i]'h).2.1<(i:Int)
 name:∀i (h:i<l.length),(l[i]'h).1.length<=32/\∀j,j<(l[i]'h).1.length->bw (l[i]'h).1 j≠10
end Go.Ev
namespace Go.Ev
open Go
set_option linter.unusedVariables false
/-! A word of any length is read to0 its end. -/
theorem Xn{s:List UInt8}(U:s.length<=65536):∀n p (t:List kF),p<=s.length->s.length-p<n->t.length<=p->Has (mf 80000 s n p t) fun v=>v.length<=65536:=by
 have W:=wh
 intro n
 induction n with
 |zero=>intro p t _ h;omega
 |succ n q=>
  intro p t X Y Z
  unfold mf D4
  refine bt (fun h=>?_) fun _=>aw (by omega)
  have la:=jG s p h
  have o:∀a b,Has (nU 80000 s p t (mf 80000 s n) a b) fun v=>v.length<=65536:=by
   intro a b
   unfold nU rQ
   refine aR (Q:=fun v=>v.1=true/\v.2.length=t.length+1) (bO (by simp only[List.length_cons,List.length_nil];omega) (aw ⟨rfl,by simp⟩)) ?_
   rintro v ⟨O,lb⟩
   rw[O]
   refine aD (fun R=>nomatch R) fun _=>?_
   exact q (p+ji s p) v.2 (by rw[jl];omega) (by rw[jl];omega) (by rw[jl];omega)
  refine aR (gy (Gf 80000 (gE s p))) fun l _=>?_
  split
  ·rw[k9 (by omega),Option.bind_some]
   unfold utf8_DecodeRuneInString
   rw[Option.bind_some]
   split
   ·exact o _ _
   ·exact o _ _
  ·exact o _ _
theorem Te{s:List UInt8}(o:s.length<=65536):Has (sT 80000 s) fun v=>v.1.length<=65536:=by
 unfold sT y2
 rw[if_neg (by simp only[decide_eq_true_eq];omega),Option.bind_some]
 refine aD (fun _=>aw (Nat.zero_le _)) fun _=>?_
 unfold rF
 exact aR (Xn o 80000 0 [] (Nat.zero_le _) (by omega) (Nat.zero_le _)) fun v q=>aw q
theorem Pw{v:List kF×Int}(O:v.1.length<=65536)(m:Option iP):∀n (i:Nat) (o:List Int),i<=v.1.length->v.1.length-i<n->o.length<=i->Has (ni v m n (i:Int) o) fun _=>True:=by
 have R:=wh
 intro n
 induction n with
 |zero=>intro i o _ h;omega
 |succ n q=>
  intro i o hi U W
  unfold ni CO
  refine bt (fun h=>?_) fun _=>aw trivial
  refine bz (by omega) fun x _=>?_
  refine aD (fun _=>aw trivial) fun _=>?_
  refine aD (fun _=>aw trivial) fun _=>?_
  refine aD (fun _=>aw trivial) fun _=>?_
  refine bO (by simp only[List.length_cons,List.length_nil];omega) ?_
  rw[bB (by omega)]
  exact q (i+1) _ (by omega) (by omega) (by simp only[List.length_append,List.length_cons,List.length_nil];omega)
theorem Bg(a:bj)(w:List UInt8):Has (kS 80000 a w) fun _=>True:=by
 unfold kS jO wV
 refine aR (Q:=fun _=>True) ?_ fun _ _=>aw trivial
 rw[show eP 80000 ((a.1,a.2.1,()):bj)=some (if cv a then 0 else 7)from kB a,Option.bind_some]
 have U:∀m,Has (nd 80000 m w) fun _=>True:=by
  intro m
  have O:∀s:List UInt8,s.length<=65536->Has (qT 80000 m s) fun _=>True:=by
   intro s R
   unfold qT
   refine aR (Te R) fun v q=>?_
   refine aD (fun _=>aw trivial) fun _=>?_
   exact Pw q m 80000 0 [] (Nat.zero_le _) (by omega) (Nat.zero_le _)
  unfold nd
  refine bt (fun h=>?_) fun h=>O w (by omega)
  obtain⟨s,e,R⟩:=Ad (s:=w) (a:=0) (b:=65536) (Nat.zero_le _) (by omega)
  rw[show(0:Int)=((0:Nat):Int)from rfl,show(65536:Int)=((65536:Nat):Int)from rfl,e,Option.bind_some]
  exact O s (by omega)
 cases W:cv a with
 |false=>
  refine aR (Q:=fun v=>v.2≠0) (aD (fun _=>aw (by decide)) fun o=>nomatch o) fun v q=>?_
  refine aD (fun _=>aw trivial) fun o=>?_
  simp at o
  exact absurd o q
 |true=>
  have X:=yK W
  refine aR (Q:=fun _=>True) (aD (fun _=>aw trivial) fun _=>?_) fun v _=>?_
  ·obtain⟨m,Y,la⟩:=VO (a.1,a.2.1,()) X.2.2 80000 0 [] (Nat.zero_le _) (by show a.2.1.length-0<80000;omega) (fun r Z=>by simp[bS]at Z)
   exact⟨_,Y,trivial⟩
  refine aD (fun _=>aw trivial) fun _=>?_
  exact aR (U _) fun _ _=>aw trivial
/-! The first of a family's languages has no laws. -/
/-! The table. -/
/-! Down a path. -/
/-! The law. -/
end Go.Ev
namespace Go.Ev
open Go
set_option linter.unusedVariables false
abbrev uG:Type:=Int×List UInt8×List UInt8×Int×Unit
abbrev W7:Type:=Int×List uG×Unit
abbrev np:Type:=List UInt8×List W7×Unit
abbrev sY:Type:=List UInt8×Int×List UInt8×Int×Unit
abbrev gG:Type:=bj×Int×Int×List np×List sY×List fe×List (List UInt8)×Unit
theorem XL{s:List UInt8}(O:s.length<=9223372036854775807):∀n (i:Nat),i<=s.length->s.length-i<n->Has (uJ s n (i:Int)) fun _=>True:=by
 intro n
 induction n with
 |zero=>intro i _ h;omega
 |succ n o=>
  intro i R U
  unfold uJ It
  refine bt (fun q=>?_) fun _=>aw trivial
  rw[vX]at q
  refine bz (by rw[vX];omega) fun x _=>?_
  unfold J6 Gz yU Ls
  rw[bB (by omega)]
  have:=o (i+1) (by omega) (by omega)
  refine aD (fun _=>?_) fun _=>?_<;>exact aD (fun _=>aw trivial) fun _=>this
theorem I5{s:List UInt8}(o:s.length<=9223372036854775807):Has (zI 80000 s) fun _=>True:=by
 unfold zI yp
 exact XL o _ 0 (Nat.zero_le _) (by omega)
theorem PF{s:List UInt8}(O:s.length<=9223372036854775807):∀n p (c:Nat),p<=s.length->s.length-p<n->c<=p->Has (o5 s n (c:Int) p) fun v=>∃m:Nat,v=(m:Int)/\s.length+4*c<=4*m+p:=by
 intro n
 induction n with
 |zero=>intro p c _ h;omega
 |succ n o=>
  intro p c R U W
  unfold o5 Ft
  refine bt (fun q=>?_) fun _=>aw ⟨c,rfl,by omega⟩
  have X:=jG s p q
  rw[bB (by omega),jl]
  refine jn (o _ (c+1) (by omega) (by omega) (by omega)) ?_
  rintro v ⟨m,e,Y⟩
  exact⟨m,e,by omega⟩
theorem JE{s:List UInt8}(o:s.length<=9223372036854775807):Has (jV 80000 s) fun v=>∃m:Nat,v=(m:Int)/\s.length<=4*m:=by
 unfold jV uu
 refine jn (PF o _ 0 0 (Nat.zero_le _) (by omega) (Nat.le_refl _)) ?_
 rintro v ⟨m,e,q⟩
 exact⟨m,e,by omega⟩
theorem SU(s:List UInt8×List UInt8×Unit)(a:bj)(O:s.2.1.length<=256):∀n p,p<=s.2.1.length->s.2.1.length-p<n->Has (ug 80000 s a n p) fun _=>True:=by
 intro n
 induction n with
 |zero=>intro p _ h;omega
 |succ n o=>
  intro p R U
  unfold ug Jr
  refine bt (fun q=>?_) fun _=>aw trivial
  have W:=jG s.2.1 p q
  refine aR (gy (sM _ _)) fun v _=>?_
  unfold G1
  refine aD (fun _=>aw trivial) fun _=>?_
  rw[jl]
  exact o _ (by omega) (by omega)
theorem Et(s:List UInt8×List UInt8×Unit)(a:bj){t:Bool}(o:t=false->s.2.1.length<=256):Has (qt 80000 s a t) fun _=>True:=by
 unfold qt
 refine aD (fun _=>aw trivial) fun h=>?_
 have:=o h
 exact SU s a this 80000 0 (Nat.zero_le _) (by omega)
theorem KS(s:List UInt8×List UInt8×Unit)(a:bj)(o:s.2.1.length<=9223372036854775807)(t:Bool):Has (oZ 80000 s a t) fun _=>True:=by
 unfold oZ
 refine aD (fun _=>aw trivial) fun _=>?_
 refine aR (Q:=fun _=>True) (aw trivial) fun v _=>?_
 refine aD (fun _=>Et s a fun h=>nomatch h) fun _=>?_
 refine aR (JE o) ?_
 rintro v ⟨m,rfl,q⟩
 exact Et s a fun h=>by have:=of_decide_eq_false h;omega
theorem Nv(a:bj){w:List UInt8}(o:w.length<=9223372036854775807):Has (qP 80000 a ([],w,())) fun _=>True:=by
 unfold qP
 rw[show eP 80000 ((a.1,a.2.1,()):bj)=some (if cv a then 0 else 7)from kB a,Option.bind_some]
 refine aD (fun _=>aw trivial) fun _=>?_
 refine bt (fun _=>KS _ a o true) fun _=>?_
 refine aR (Q:=fun _=>True) ⟨[],rfl,trivial⟩ fun v _=>KS _ a o _
theorem KI(a:bj){x:uG}(o:x.2.1.length<=9223372036854775807)(t1 t2:Bool):Has (oB 80000 x t1 a t2) fun _=>True:=by
 unfold oB
 refine aD (fun _=>?_) fun _=>aD (fun _=>?_) fun _=>aD (fun _=>?_) fun _=>aD (fun _=>?_) fun _=>aD (fun _=>?_) fun _=>aD (fun _=>?_) fun _=>aw trivial
 ·unfold Cf CI tv
  exact aD (fun _=>aw trivial) fun _=>aw trivial
 ·unfold Db Bn u6
  exact aD (fun _=>aw trivial) fun _=>aw trivial
 ·unfold Cu AG tY
  exact aD (fun _=>aw trivial) fun _=>aw trivial
 ·exact aw trivial
 ·refine aR (Nv (a.1,a.2.1,()) o) fun v _=>aw trivial
 ·exact aw trivial
theorem Xa(a:bj){x:uG}(o:x.2.1.length<=9223372036854775807):Has (jb 80000 a x) fun _=>True:=by
 unfold jb yR
 refine aR (Bg _ _) fun v1 _=>?_
 refine aD (fun _=>aR (Bg _ _) fun v3 _=>KI a o _ _) fun _=>KI a o _ _
def sW(p:np):Prop:=p.1.length<=9223372036854775807/\∀c∈p.2.1,∀x∈c.2.1,x.2.1.length<=9223372036854775807
theorem VQ{p:np}(o:sW p)(Y:p.2.1.length<=256):∀n (i:Nat) a2 a3,i<=p.2.1.length->p.2.1.length-i<n->Has (mh 80000 p n (i:Int) a2 a3) fun _=>True:=by
 intro n
 induction n with
 |zero=>intro i _ _ _ h;omega
 |succ n q=>
  intro i a2 a3 Z la
  unfold mh FF
  refine bt (fun lb=>?_) fun _=>aw trivial
  refine bz (by omega) fun x O=>?_
  have R:x∈p.2.1:=O▸List.getElem_mem _
  refine bt (fun _=>aw trivial) fun lc=>?_
  have U:∀m (j:Nat),j<=x.2.1.length->x.2.1.length-j<m->Has (pn 80000 x a2 a3 (mh 80000 p n) (i:Int) m (j:Int)) fun _=>True:=by
   intro m
   induction m with
   |zero=>intro j _ h;omega
   |succ m W=>
    intro j g1 g2
    unfold pn CT
    refine bt (fun ld=>?_) fun _=>?_
    ·refine bz (by omega) fun y X=>?_
     refine aR (Xa _ (o.2 x R y (X▸List.getElem_mem _))) fun v _=>?_
     refine aD (fun _=>aw trivial) fun _=>?_
     rw[bB (by omega)]
     exact W (j+1) (by omega) (by omega)
    ·rw[bB (by omega)]
     exact q (i+1) a2 a3 (by omega) (by omega)
  exact U 80000 0 (Nat.zero_le _) (by omega)
theorem NZ(a:bj){p:np}(q:sW p):Has (pw 80000 a p) fun e=>e=0->p.2.1.length<=256:=by
 unfold pw
 rw[show eP 80000 ((a.1,a.2.1,()):bj)=some (if cv a then 0 else 7)from kB a,Option.bind_some]
 refine aD (fun h=>aw fun o=>by rw[o]at h;cases h) fun _=>?_
 refine aR (I5 q.1) fun v _=>?_
 unfold FR Ey
 refine aD (fun _=>aw fun o=>nomatch o) fun h=>?_
 simp only[Bool.or_eq_false_iff,decide_eq_false_iff_not]at h
 exact jn (VQ q (by omega) 80000 0 _ _ (Nat.zero_le _) (by omega)) fun _ _ _=>by omega
end Go.Ev
namespace Go.Ev
open Go
set_option linter.unusedVariables false
theorem W2(t:gG)(x:sY):Has (yY 80000 t x) fun e=>e=0->0<=x.2.1/\x.2.1<(t.2.2.2.1.length:Int):=by
 unfold yY
 refine aR (Bg _ _) fun v1 _=>?_
 refine aD (fun h=>aw fun o=>by rw[o]at h;cases h) fun _=>?_
 have q:∀b,Has (tF x b) fun _=>True:=by
  intro b
  unfold tF Lr HU
  exact aD (fun _=>aw trivial) fun _=>aw trivial
 unfold Lu
 refine aD (fun _=>aw fun o=>nomatch o) fun h=>?_
 simp only[Bool.or_eq_false_iff,decide_eq_false_iff_not]at h
 refine jn (P:=fun _=>True) ?_ fun _ _ _=>by omega
 refine bt (fun _=>q _) fun _=>?_
 exact aR (Q:=fun _=>True) (aw trivial) fun v2 _=>q _
theorem NO{s:List UInt8}(O:s.length<=70000):Has (vP 80000 s ()) fun _=>True:=by
 have l1:∀n p,p<=s.length->s.length-p<n->Has (tG 80000 s true n p) fun _=>True:=by
  intro n
  induction n with
  |zero=>intro p _ h;omega
  |succ n o=>
   intro p R U
   unfold tG IV
   refine bt (fun q=>?_) fun _=>aw trivial
   have W:=jG s p q
   refine aR (Q:=fun _=>True) (aw trivial) fun v _=>?_
   refine aD (fun _=>aw trivial) fun _=>?_
   rw[jl]
   exact o _ (by omega) (by omega)
 unfold vP Cz Ae
 refine aR (Q:=fun _=>True) ?_ fun _ _=>aw trivial
 refine aR (Q:=fun _=>True) ?_ fun _ _=>aw trivial
 exact l1 80000 0 (Nat.zero_le _) (by omega)
theorem T8(l:List (List UInt8)):Has (vV 80000 l) fun _=>True:=by
 unfold vV
 refine bt (fun _=>aw trivial) fun O=>?_
 have l1:∀n (i:Nat) m,i<=l.length->l.length-i<n->Has (rW 80000 l n (i:Int) m) fun _=>True:=by
  intro n
  induction n with
  |zero=>intro i _ _ h;omega
  |succ n q=>
   intro i m R U
   unfold rW I0
   refine bt (fun W=>?_) fun _=>aw trivial
   refine bz (by omega) fun x X=>?_
   have o:∀b,Has (sD (rW 80000 l n) (i:Int) m x b) fun _=>True:=by
    intro b
    unfold sD
    refine aD (fun _=>aw trivial) fun _=>?_
    rw[bB (by omega)]
    exact q (i+1) _ (by omega) (by omega)
   unfold JK LP
   refine aD (fun _=>o _) fun h=>?_
   simp only[Bool.or_eq_false_iff,decide_eq_false_iff_not]at h
   exact aR (NO (by omega)) fun v _=>o _
 exact l1 80000 0 _ (Nat.zero_le _) (by omega)
def p0(t:gG):Prop:=∀p∈t.2.2.2.1,sW p
theorem XF(t:gG)(W:t.2.2.2.1.length<=4096)(o:∀p∈t.2.2.2.1,p.2.1.length<=256)(t6:List (List UInt8))(t7:List cJ)(t8 t9:Int)(t10:List np)(t11:List sY)(t12:List fe)(t13:List (List UInt8)):
  ∀n (i:Nat),i<=t.2.2.2.1.length->t.2.2.2.1.length-i<n->Has (r5 80000 t n (i:Int) t6 t7 t8 t9 t10 t11 t12 t13) fun _=>True:=by
 intro n
 induction n with
 |zero=>intro i _ h;omega
 |succ n q=>
  intro i g1 g2
  unfold r5 Ik
  refine bt (fun X=>?_) fun _=>aw trivial
  refine bz (by omega) fun x O=>?_
  have Y:=o x (O▸List.getElem_mem _)
  have R:∀m (j:Nat),j<=x.2.1.length->x.2.1.length-j<m->Has (ux x t13 (r5 80000 t n) (i:Int) t6 t7 t8 t9 t10 t11 t12 m (j:Int)) fun _=>True:=by
   intro m
   induction m with
   |zero=>intro j _ h;omega
   |succ m U=>
    intro j f1 f2
    unfold ux IJ
    refine bt (fun Z=>?_) fun _=>?_
    ·refine bz (by omega) fun y la=>?_
     refine bO (by omega) ?_
     refine aD (fun _=>aw trivial) fun _=>?_
     rw[bB (by omega)]
     exact U (j+1) (by omega) (by omega)
    ·rw[bB (by omega)]
     exact q (i+1) (by omega) (by omega)
  exact R 80000 0 (Nat.zero_le _) (by omega)
def yC(t:gG):Prop:=∀x∈t.2.2.2.2.1,0<=x.2.1/\x.2.1<(t.2.2.2.1.length:Int)
theorem Pq(t:gG)(W:t.2.2.2.1.length<=4096)(lb:t.2.2.2.2.1.length<=4096)(X:∀p∈t.2.2.2.1,p.2.1.length<=256):
  ∀n (i:Nat),i<=t.2.2.2.2.1.length->t.2.2.2.2.1.length-i<n->(∀j x,j<i->t.2.2.2.2.1[j]? =some x->0<=x.2.1/\x.2.1<(t.2.2.2.1.length:Int))->Has (sV 80000 t n (i:Int)) fun e=>e=0->yC t:=by
 intro n
 induction n with
 |zero=>intro i _ h;omega
 |succ n Y=>
  intro i g1 g2 g3
  unfold sV IZ
  refine bt (fun lc=>?_) fun ld=>?_
  ·refine bz (by omega) fun x o=>?_
   refine aR (W2 _ _) fun v Z=>?_
   refine aD (fun h=>aw fun q=>by rw[q]at h;cases h) fun h=>?_
   have la:=Z (by simpa using h)
   rw[bB (by omega)]
   refine Y (i+1) (by omega) (by omega) fun j y U O=>?_
   rcases Nat.lt_or_ge j i with q|q
   ·exact g3 j y q O
   ·have:j=i:=by omega
    subst this
    rw[List.getElem?_eq_getElem (by omega),o]at O
    cases O
    exact la
  ·have R:yC t:=fun x o=>by
    obtain⟨j,U,e⟩:=List.getElem_of_mem o
    exact g3 j x (by omega) (by rw[List.getElem?_eq_getElem U,e])
   refine aR (Kj _ _) fun v4 _=>?_
   refine aD (fun _=>aw fun _=>R) fun _=>?_
   refine aR (T8 _) fun v5 _=>?_
   refine aD (fun _=>aw fun _=>R) fun _=>?_
   exact jn (XF t W X _ _ _ _ _ _ _ _ 80000 0 (Nat.zero_le _) (by omega)) fun _ _ _=>R
theorem SD{t:gG}(U:p0 t)(W:t.2.2.2.1.length<=4096):
  ∀n (i:Nat),i<=t.2.2.2.1.length->t.2.2.2.1.length-i<n->(∀j p,j<i->t.2.2.2.1[j]? =some p->p.2.1.length<=256)->Has (td 80000 t n (i:Int)) fun e=>e=0->yC t:=by
 intro n
 induction n with
 |zero=>intro i _ h;omega
 |succ n X=>
  intro i g1 g2 g3
  unfold td L7
  refine bt (fun lb=>?_) fun lc=>?_
  ·refine bz (by omega) fun x R=>?_
   refine aR (NZ _ (U x (R▸List.getElem_mem _))) fun v Y=>?_
   refine aD (fun h=>aw fun q=>by rw[q]at h;cases h) fun Z=>?_
   have la:=Y (by simpa using Z)
   rw[bB (by omega)]
   refine X (i+1) (by omega) (by omega) fun j p O o=>?_
   rcases Nat.lt_or_ge j i with q|q
   ·exact g3 j p q o
   ·have:j=i:=by omega
    subst this
    rw[List.getElem?_eq_getElem (by omega),R]at o
    cases o
    exact la
  ·refine bt (fun _=>aw fun q=>nomatch q) fun ld=>?_
   refine Pq t W (by omega) (fun p o=>?_) 80000 0 (Nat.zero_le _) (by omega) fun j _ O=>by omega
   obtain⟨j,O,e⟩:=List.getElem_of_mem o
   exact g3 j p (by omega) (by rw[List.getElem?_eq_getElem O,e])
theorem Ud{t:gG}(q:p0 t):Has (xL 80000 t) fun e=>e=0->cv t.1=true/\yC t:=by
 unfold xL
 rw[show eP 80000 ((t.1.1,t.1.2.1,()):bj)=some (if cv t.1 then 0 else 7)from kB t.1,Option.bind_some]
 refine aD (fun h=>aw fun o=>by rw[o]at h;cases h) fun h=>?_
 have O:cv t.1=true:=by
  cases aM:cv t.1 with
  |true=>rfl
  |false=>rw[aM]at h;cases h
 refine bO (by omega) ?_
 unfold Kq
 refine aD (fun _=>aw fun o=>nomatch o) fun _=>?_
 refine bt (fun _=>aw fun o=>nomatch o) fun U=>?_
 exact jn (SD q (by omega) 80000 0 (Nat.zero_le _) (by omega) fun j _ W=>by omega) fun _ R o=>⟨O,R o⟩
end Go.Ev
namespace Go.Ev
open Go
set_option linter.unusedVariables false
abbrev eW:Type:=Int×Int×Unit
abbrev s8:eW->eW->Bool:=aV (.pair (.int .i32) (.pair (.int .i32) .unit))
theorem Hq(x y:eW):s8 x y=true↔x=y:=by
 obtain⟨a,b,_⟩:=x
 obtain⟨c,d,_⟩:=y
 show((a==c)&&((b==d)&&true))=true↔_
 simp
/-! Maps as0 lists. -/
section
variable {α β:Type} {eq:α->α->Bool}
theorem IC(q:∀x y,eq x y=true↔x=y)(k:α)(v:β):∀l:List (α×β),(l.map (·.1)).Nodup->((cl eq l k v).map (·.1)).Nodup/\∀x,x∈(cl eq l k v).map (·.1)↔x=k\/x∈l.map (·.1)
 |[],_=>by simp[cl]
 |p::l,o=>by
  rw[List.map_cons,List.nodup_cons]at o
  obtain⟨i1,i2⟩:=IC q k v l o.2
  unfold cl
  by_cases h:eq k p.1=true
  ·rw[if_pos h]
   have e:=(q _ _).1 h
   subst e
   simp only[List.map_cons,List.nodup_cons,List.mem_cons]
   exact⟨o,fun x=>by simp⟩
  ·rw[if_neg h]
   have O:k≠p.1:=fun e=>h ((q _ _).2 e)
   simp only[List.map_cons,List.nodup_cons,List.mem_cons]
   refine⟨⟨fun R=>?_,i1⟩,fun x=>by rw[i2];constructor<;>(intro h;rcases h with h|h|h<;>simp[h])⟩
   rcases(i2 p.1).1 R with e|e
   ·exact O e.symm
   ·exact o.1 e
end
def mN:List Int->Int
 |[]=>0
 |x::l=>x+mN l
theorem Gh{α:Type}{eq:α->α->Bool}(k:α)(v:Int):∀l:List (α×Int),mN ((cl eq l k v).map (·.2))=mN (l.map (·.2))-(bS eq l k).getD 0+v
 |[]=>by simp[cl,bS,mN]
 |p::l=>by
  unfold cl bS
  by_cases h:eq k p.1=true
  ·rw[if_pos h,if_pos h]
   simp only[List.map_cons,mN,Option.getD_some]
   omega
  ·rw[if_neg h,if_neg h]
   have:=Gh (eq:=eq) k v l
   simp only[List.map_cons,mN]
   omega
/-! Counting. -/
def gh(m:List (eW×Int))(p:eW):Int:=(bS s8 m p).getD 0
def bump(m:List (eW×Int))(p:eW):List (eW×Int):=cl s8 m p (am (gh m p+1))
structure vp(m:List (eW×Int))(ps:List eW):Prop where
 tl:(m.map (·.1)).Nodup
 keys:∀p,p∈m.map (·.1)↔p∈ps
 pos:∀p∈ps,1<=gh m p
 Mx:∀p,0<=gh m p/\gh m p<=ps.length
 sum:mN (m.map (·.2))=ps.length
theorem vp.nil:vp [] []:=⟨by simp,fun p=>by simp,fun p o=>(by cases o),fun p=>by simp[gh,bS],rfl⟩
theorem vp.bump{m:List (eW×Int)}{ps:List eW}(h:vp m ps)(p:eW)(U:ps.length<1000000):vp (bump m p) (ps++[p]):=by
 obtain⟨aC,aA⟩:=IC Hq p (am (gh m p+1)) m h.tl
 have W:=h.Mx p
 have q:am (gh m p+1)=gh m p+1:=fL (by omega)
 have O:∀o,gh (Ev.bump m p) o=if o=p then gh m p+1 else gh m o:=by
  intro o
  obtain⟨g1,g2⟩:=rx Hq p o (am (gh m p+1)) m
  unfold Ev.bump
  unfold gh at*
  by_cases e:o=p
  ·rw[if_pos e,g1 e,q];rfl
  ·rw[if_neg e,g2 e]
 refine⟨aC,fun o=>?_,fun o aM=>?_,fun o=>?_,?_⟩
 ·show o∈(cl s8 m p _).map (·.1)↔_
  rw[aA o,h.keys o,List.mem_append,List.mem_singleton]
  exact Or.comm
 ·rw[O]
  split
  ·omega
  ·rename_i R
   rcases List.mem_append.1 aM with aM|aM
   ·exact h.pos o aM
   ·exact absurd (by simpa using aM) R
 ·rw[O]
  simp only[List.length_append,List.length_cons,List.length_nil]
  have:=h.Mx o
  split<;>omega
 ·show mN ((cl s8 m p _).map (·.2))=_
  rw[Gh,h.sum,q]
  simp only[List.length_append,List.length_cons,List.length_nil]
  unfold gh
  omega
/-! Places of letters. -/
def pos(o:List Int)(r:Int):Int:=if r∈o then(o.idxOf r:Int)+1 else 0
/-! The comparison. -/
def OL(f aa:eW->Int)(bd:eW->Int)(x y:eW):Prop:=f y<f x\/f y=f x/\(aa x<aa y\/aa x=aa y/\bd x<bd y)
end Go.Ev
namespace Go.Ev
open Go
set_option linter.unusedVariables false
structure Yi(a:bj)(ps:List eW)(v:List eW):Prop where
 tl:v.Nodup
 mem:∀p,p∈v↔p∈ps
 Q5:v.Pairwise (fun x y=>gh (ps.foldl bump []) y<=gh (ps.foldl bump []) x)
 sum:mN (v.map (gh (ps.foldl bump [])))=ps.length
 len:v.length<=ps.length
 perm:v.Perm ((ps.foldl bump []).map (·.1))
 ord:v.Pairwise (fun x y=>¬OL (gh (ps.foldl bump [])) (fun p=>pos (a.2.1.map (·.1)) p.1) (fun p=>pos (a.2.1.map (·.1)) p.2.1) y x)
end Go.Ev
namespace Go.Ev
open Go
set_option linter.unusedVariables false
def Func(ps:List eW):Prop:=∀p∈ps,∀o∈ps,p.1≠0->p.1=o.1->p.2.1=o.2.1
structure Hr(m:List (Int×Int))(seen:List eW):Prop where
 has:∀p∈seen,p.1≠0->bS (aV (.int .i32)) m p.1=some p.2.1
 from_:∀(r v:Int),bS (aV (.int .i32)) m r=some v->∃p∈seen,p.1=r/\p.2.1=v/\r≠0
theorem Hr.func{m:List (Int×Int)}{ps:List eW}(h:Hr m ps):Func ps:=fun p O R aM o e=>by
 have q:=h.has p O o
 have U:=h.has R aM (e▸o)
 rw[e]at q
 exact Option.some.inj (q.symm.trans U)
def DL(ps:List eW):Prop:=∃p∈ps,∃o∈ps,p.1≠0/\p.1=o.1/\p.2.1≠o.2.1
theorem DL.mono{ps o:List eW}(h:DL ps)(q:∀p∈ps,p∈o):DL o:=by
 obtain⟨p,R,O,aM,r⟩:=h
 exact⟨p,q p R,O,q O aM,r⟩
/-! The odd ones. -/
structure X2(m:List (Int×Int))(seen:List eW):Prop where
 has:∀p∈seen,(bS (aV (.int .i32)) m p.1).isSome=true
 from_:∀(r v:Int),bS (aV (.int .i32)) m r=some v->∃p∈seen,p.1=r/\p.2.1=v
end Go.Ev
namespace Go.Ev
open Go
set_option linter.unusedVariables false
end Go.Ev
namespace Go.Ev
open Go
set_option linter.unusedVariables false
theorem Uw(s:List UInt8)(p i:Nat):bw (s.drop p) i=bw s (p+i):=by
 unfold bw
 simp[List.getD_eq_getElem?_getD]
theorem PJ(s:List UInt8)(p i:Nat):g (s.drop p) i=g s (p+i):=by
 unfold g
 simp only[Uw,List.length_drop,<-Nat.add_assoc,Nat.sub_sub]
theorem Wm{s:List UInt8}{p:Nat}(h:p<s.length):Lib.decodeGo ⟨(s.drop p).toArray⟩=g s p:=by
 unfold Lib.decodeGo
 rw[if_neg (by simp[ByteArray.size];omega),xh,PJ]
 rfl
theorem FQ{s:List UInt8}{p:Nat}:bad s p=true↔(g s p).1=65533/\(g s p).2=1:=by
 unfold bad
 simp
def rr(s:List UInt8)(n p:Nat)(v:List kF):Prop:=
 match n,v with
 |_,[]=>s.length<=p
 |0,_::_=>False
 |n+1,x::v=>p<s.length/\x.1=((g s p).1:Int)/\x.2.2.2.1=bad s p/\rr s n (p+(g s p).2) v
theorem Xj{s:List UInt8}(Z:s.length<=65536):∀n p (t:List kF),p<=s.length->s.length-p<n->t.length+(s.length-p)<=200000->∃v,mf 80000 s n p t=some (t++v)/\rr s n p v/\v.length<=s.length-p:=by
 intro n
 induction n with
 |zero=>intro p t _ h;omega
 |succ n X=>
  intro p t la lb lc
  have ld:=wh
  unfold mf D4
  by_cases h:p<s.length
  ·rw[if_pos (by simpa using h)]
   have o:∀a b,b=bad s p->∃v,nU 80000 s p t (mf 80000 s n) a b=some (t++v)/\rr s (n+1) p v/\v.length<=s.length-p:=by
    intro a b Y
    unfold nU rQ
    rw[jt (by simp only[List.length_cons,List.length_nil];omega)];simp only[Option.bind_some]
    rw[if_neg (by simp)]
    have le:=jG s p h
    obtain⟨v,e,W,q⟩:=X (p+ji s p) (t++[(gE s p,(p:Int),a,b,())]) (by rw[jl];omega) (by rw[jl];omega) (by rw[jl];simp only[List.length_append,List.length_cons,List.length_nil];omega)
    refine⟨(gE s p,(p:Int),a,b,())::v,?_,⟨h,MA s p,Y,?_⟩,?_⟩
    ·rw[e,List.append_assoc];rfl
    ·rw[jl]at W;exact W
    ·rw[jl]at q
     simp only[List.length_cons]
     omega
   obtain⟨l,q⟩:=Gf 80000 (gE s p)
   rw[q];simp only[Option.bind_some]
   rw[MA]
   by_cases O:(g s p).1=65533
   ·rw[if_pos (by rw[O];rfl),k9 (by omega)];simp only[Option.bind_some]
    unfold utf8_DecodeRuneInString
    simp only[Option.bind_some]
    rw[Wm h]
    by_cases R:(g s p).2=1
    ·rw[if_pos (by rw[R];rfl)]
     exact o _ _ (FQ.2 ⟨O,R⟩).symm
    ·rw[if_neg (by simp only[beq_iff_eq];omega)]
     refine o _ _ (Eq.symm ?_)
     rw[<-Bool.not_eq_true,FQ]
     exact fun U=>R U.2
   ·rw[if_neg (by simp only[beq_iff_eq];omega)]
    refine o _ _ (Eq.symm ?_)
    rw[<-Bool.not_eq_true,FQ]
    exact fun U=>O U.1
  ·rw[if_neg (by simpa using h)]
   exact⟨[],by simp,(by show s.length<=p;omega),by simp⟩
def jN(M:Int->Bool)(s:List UInt8):Nat->Nat->List Int->List Int×Int
 |0,_,o=>(o,0)
 |n+1,p,o=>
  if p<s.length then
   if bad s p then([],6)else if !M ((g s p).1:Int)then([],5)else if(o.length:Int)==(64:Int)then([],4)
   else jN M s n (p+(g s p).2) (o++[((g s p).1:Int)])
  else(o,0)
theorem PQ{V:List kF}(m:Option iP)(M:Int->Bool)(W:∀r:Int,(bS (aV (.int .i32)) (m.getD []) r).isSome=M r)(s:List UInt8)(lc:V.length<=65536):
  ∀n i p o (q:List Int),i<=V.length->V.length-i<n->s.length-p<o->q.length<=64->p<=s.length->rr s o p (V.drop i)->ni (V,0) m n (i:Int) q=some (jN M s o p q):=by
 intro n
 induction n with
 |zero=>intro i p o q _ h;omega
 |succ n X=>
  intro i p o q hi ld aM le lf O
  have lg:=wh
  obtain⟨o,rfl⟩:∃Y,o=Y+1:=⟨o-1,by omega⟩
  unfold ni CO jN
  by_cases h:i<V.length
  ·rw[Rb h]at O
   obtain⟨R,Z,la,lb⟩:=O
   rw[if_pos (by simp only[decide_eq_true_eq];omega),if_pos R,fh h]
   simp only[Option.bind_some]
   rw[la,Z,W]
   cases lh:bad s p with
   |true=>rfl
   |false=>
    simp only[Bool.false_eq_true,if_false]
    cases li:M ((g s p).1:Int)with
    |false=>rfl
    |true=>
     simp only[Bool.not_true,Bool.false_eq_true,if_false]
     by_cases U:q.length=64
     ·rw[if_pos (by rw[U];rfl),if_pos (by rw[U];rfl)]
     ·rw[if_neg (by simp only[beq_iff_eq];omega),if_neg (by simp only[beq_iff_eq];omega)]
      rw[jt (by simp only[List.length_cons,List.length_nil];omega)]
      simp only[Option.bind_some]
      have lj:=jG s p R
      rw[bB (by omega)]
      exact X (i+1) _ o _ (by omega) (by omega) (by omega) (by simp only[List.length_append,List.length_cons,List.length_nil];omega) (by omega) lb
  ·rw[List.drop_eq_nil_of_le (by omega)]at O
   have lk:s.length<=p:=O
   rw[if_neg (by simp only[decide_eq_true_eq];omega),if_neg (by omega)]
abbrev oH(a:bj):List Int:=a.2.1.map fun l:Int×Int×Int×Unit=>l.1
def qm(a:bj)(r:Int):Bool:=decide (r∈oH a)
theorem Sd(a:bj)(h:a.2.1.length<=128):∀n i (m:List (Int×Int)),i<=a.2.1.length->a.2.1.length-i<n->(∀r:Int,(bS (aV (.int .i32)) m r).isSome=decide (r∈(oH a).take i))->
  ∃aI,nl a n (i:Int) m=some (some aI,0)/\∀r:Int,(bS (aV (.int .i32)) aI r).isSome=qm a r:=by
 intro n
 induction n with
 |zero=>intro i m _ h;omega
 |succ n q=>
  intro i m hi U o
  unfold nl A6
  by_cases h:i<a.2.1.length
  ·rw[if_pos (by simp only[decide_eq_true_eq];omega),fh h];simp only[Option.bind_some]
   rw[bB (by omega)]
   refine q (i+1) _ (by omega) (by omega) fun r=>?_
   have O:(oH a).take (i+1)=(oH a).take i++[(a.2.1[i]'h).1]:=by
    rw[List.take_succ_eq_append_getElem (by simpa using h)]
    simp
   have:=rx (α:=Int) (β:=Int) A9 (a.2.1[i]'h).1 r (i:Int) m
   rw[O]
   by_cases e:r=(a.2.1[i]'h).1
   ·refine(congrArg Option.isSome (this.1 e)).trans ?_
    rw[decide_eq_true (by rw[e];simp)]
    rfl
   ·refine(congrArg Option.isSome (this.2 e)).trans ((o r).trans ?_)
    rw[Bool.eq_iff_iff]
    simp only[decide_eq_true_eq,List.mem_append,List.mem_singleton]
    exact⟨.inl,fun R=>R.resolve_right e⟩
  ·rw[if_neg (by simp only[decide_eq_true_eq];omega)]
   refine⟨m,rfl,fun r=>?_⟩
   rw[o r,List.take_of_length_le (by simp;omega)]
   rfl
def wl(a:bj)(w:List UInt8):List Int×Int:=if cv a then jN (qm a) w 65537 0 []else([],7)
theorem K9(a:bj){w:List UInt8}(R:w.length<=65536):jO 80000 a w=some (wl a w):=by
 unfold jO wV wl
 rw[show eP 80000 ((a.1,a.2.1,()):bj)=some (if cv a then 0 else 7)from kB a]
 simp only[Option.bind_some]
 cases U:cv a with
 |false=>rfl
 |true=>
  have W:=yK U
  rw[if_neg (by simp),if_pos rfl]
  obtain⟨m,X,Y⟩:=Sd (a.1,a.2.1,()) W.2.2 80000 0 [] (Nat.zero_le _) (by show a.2.1.length-0<80000;omega) (fun r=>by simp[bS])
  rw[show nl (a.1,a.2.1,()) 80000 (0:Int) []=some (some m,0)from X]
  simp only[Option.bind_some]
  rw[if_neg (by simp)]
  unfold nd
  rw[if_neg (by simp only[decide_eq_true_eq];omega)]
  unfold qT sT y2
  rw[if_neg (by simp only[decide_eq_true_eq];omega)]
  simp only[Option.bind_some]
  rw[if_neg (by simp)]
  unfold rF
  obtain⟨v,e,Z,lf⟩:=Xj R 80000 0 [] (Nat.zero_le _) (by omega) (by simp;omega)
  rw[e,List.nil_append]
  simp only[Option.bind_some]
  rw[if_neg (by simp)]
  have la:∀q n p (v:List kF),rr w n p v->w.length-p<q->rr w q p v:=by
   intro q
   induction q with
   |zero=>intro n p v _ h;omega
   |succ q lb=>
    intro n p v o aM
    match n,v,o with
    |0,[],o=>exact o
    |n+1,[],o=>exact o
    |0,_::_,o=>exact o.elim
    |n+1,x::v,⟨O,lc,ld,le⟩=>
     have:=jG w p O
     exact⟨O,lc,ld,lb n _ v le (by omega)⟩
  have:=PQ (V:=v) (some m) (qm a) Y w (by omega) 80000 0 0 65537 [] (Nat.zero_le _) (by omega) (by omega) (by simp) (Nat.zero_le _) (la 65537 80000 0 v Z (by omega))
  rw[show ni (v,0) (some m) 80000 (0:Int) []=_ from this]
  rfl
theorem UD(M:Int->Bool)(s:List UInt8):∀n p q,q.length<=64->(∀r∈q,M r=true)->(jN M s n p q).2=0->(jN M s n p q).1.length<=64/\∀r∈(jN M s n p q).1,M r=true:=by
 intro n
 induction n with
 |zero=>intro p q U R _;exact⟨U,R⟩
 |succ n Z=>
  intro p q U R o
  unfold jN at o⊢
  split at o
  ·rename_i W
   rw[if_pos W]
   split at o
   ·cases o
   rename_i la
   rw[if_neg la]
   split at o
   ·cases o
   rename_i X
   rw[if_neg X]
   split at o
   ·cases o
   rename_i Y
   rw[if_neg Y]
   have lb:q.length≠64:=fun e=>Y (by rw[e];rfl)
   refine Z _ _ (by simp only[List.length_append,List.length_cons,List.length_nil];omega) (fun r O=>?_) o
   rcases List.mem_append.1 O with O|O
   ·exact R r O
   ·have:r=((g s p).1:Int):=by simpa using O
    rw[this]
    simpa using X
  ·rename_i W
   rw[if_neg W]
   exact⟨U,R⟩
theorem Ku(a:bj)(w:List UInt8)(h:(wl a w).2=0):cv a=true/\(wl a w).1.length<=64/\∀r∈(wl a w).1,r∈oH a:=by
 unfold wl at h⊢
 cases o:cv a with
 |false=>rw[o]at h;cases h
 |true=>
  rw[o,if_pos rfl]at h
  rw[if_pos rfl]
  have:=UD (qm a) w 65537 0 [] (by simp) (by simp) h
  exact⟨rfl,this.1,fun r q=>of_decide_eq_true (this.2 r q)⟩
end Go.Ev
namespace Go.Ev
open Go
set_option maxRecDepth 100000
end Go.Ev
namespace Go.Ev
open Go
set_option maxRecDepth 100000
section
variable (a:bj) (r:Int)
end
/-! One letter and another one. -/
end Go.Ev
namespace Go.Ev
open Go
set_option maxRecDepth 100000
end Go.Ev
namespace Go.Ev
open Go
set_option maxRecDepth 100000
end Go.Ev
namespace Go.Ev
open Go
set_option maxRecDepth 100000
end Go.Ev
namespace Go.Ev
open Go
set_option maxRecDepth 100000
theorem Lf{a:bj}(h:cv a=true):a.1.length<=24/\1<=a.2.1.length/\a.2.1.length<=128/\a.1.Nodup/\(oH a).Nodup/\∀l∈a.2.1,me l.1=true/\mC a.1.length l.2.1 l.2.2.1=true:=by
 unfold cv at h
 simp only[Bool.and_eq_true,decide_eq_true_eq,List.all_eq_true]at h
 exact⟨h.1.1.1,h.1.1.2.1,h.1.1.2.2,h.1.2.2,h.2.2,h.2.1⟩
end Go.Ev
namespace Go.Ev
open Go
set_option maxRecDepth 100000
end Go.Ev
namespace Go.Ev
open Go
set_option maxRecDepth 100000
set_option linter.unusedVariables false
def dX(r:Int):List UInt8:=(Utf8.encode r).data.toList
def mQ(c:Nat):List UInt8:=
 if c<128 then[UInt8.ofNat c]else if c<2048 then[UInt8.ofNat (192+c/64),UInt8.ofNat (128+c %64)]
 else if c<65536 then[UInt8.ofNat (224+c/4096),UInt8.ofNat (128+c/64 %64),UInt8.ofNat (128+c %64)]
 else[UInt8.ofNat (240+c/262144),UInt8.ofNat (128+c/4096 %64),UInt8.ofNat (128+c/64 %64),UInt8.ofNat (128+c %64)]
theorem VE(r:Int):dX r=mQ (if Utf8.valid r then r.toNat else 65533):=by
 have key:∀c:Nat,(if c<128 then(⟨#[UInt8.ofNat c]⟩:ByteArray)else if c<2048 then⟨#[UInt8.ofNat (192+c/64),UInt8.ofNat (128+c %64)]⟩
   else if c<65536 then⟨#[UInt8.ofNat (224+c/4096),UInt8.ofNat (128+c/64 %64),UInt8.ofNat (128+c %64)]⟩
   else⟨#[UInt8.ofNat (240+c/262144),UInt8.ofNat (128+c/4096 %64),UInt8.ofNat (128+c/64 %64),UInt8.ofNat (128+c %64)]⟩).data.toList=mQ c:=by
  intro c
  unfold mQ
  repeat' split
  all_goals rfl
 exact key _
theorem WJ(xs:List Int):cz xs=xs.flatMap dX:=by
 have key:∀(xs:List Int) (a:List UInt8),(xs.foldl (fun r n=>r++Utf8.encode n) (bytesOf a))=bytesOf (a++xs.flatMap dX):=by
  intro xs
  induction xs with
  |nil=>intro a;simp
  |cons x xs o=>
   intro a
   rw[List.foldl_cons]
   have e:Utf8.encode x=bytesOf (dX x):=by unfold dX bytesOf;simp
   rw[e,Hd,o]
   simp
 have h:=key xs []
 unfold cz runesBytes
 have eC:ByteArray.empty=bytesOf []:=rfl
 rw[eC,h]
 simp[bytesOf]
def xm(c:Nat):Prop:=c<55296\/(57344<=c/\c<=1114111)
theorem QM{c:Nat}(h:xm c):dX (c:Int)=mQ c:=by
 unfold xm at h
 rw[VE]
 have:Utf8.valid (c:Int)=true:=by unfold Utf8.valid;simp;omega
 rw[this,if_pos rfl,Int.toNat_natCast]
end Go.Ev
namespace Go.Ev
open Go
set_option maxRecDepth 100000
end Go.Ev
namespace Go.Ev
open Go
set_option maxRecDepth 100000
end Go.Ev
namespace Go.Ev
open Go
set_option maxRecDepth 100000
end Go.Ev
namespace Go.Ev
open Go
set_option maxRecDepth 100000
set_option linter.unusedVariables false
def b6(s:List UInt8)(a b:Nat):List UInt8:=(s.take b).drop a
theorem Sb{s:List UInt8}{a b:Nat}(o:b<=s.length):(b6 s a b).length=b-a:=by
 unfold b6
 rw[List.length_drop,List.length_take]
 omega
theorem OB(s:List UInt8)(p:Nat):((g s p).1=65533/\(g s p).2=1)\/((g s p).1<=127/\(g s p).2=1)\/(128<=(g s p).1/\(g s p).1<=2047/\(g s p).2=2)\/
  (2048<=(g s p).1/\(g s p).1<=65535/\((g s p).1<55296\/57344<=(g s p).1)/\(g s p).2=3)\/(65536<=(g s p).1/\(g s p).1<=1114111/\(g s p).2=4):=by
 have o:=nz s p;have q:=nz s (p+1);have O:=nz s (p+2);have R:=nz s (p+3)
 unfold g Lib.decodeN
 repeat' split
 all_goals (dsimp only;omega)
theorem Qy(s:List UInt8)(i:Nat):s.getD i 0=UInt8.ofNat (bw s i):=by unfold bw;simp
theorem VC{s:List UInt8}{p n:Nat}(h:p+n<=s.length):b6 s p (p+n)=(List.range n).map fun j=>UInt8.ofNat (bw s (p+j)):=by
 apply List.ext_getElem
 ·rw[Sb h];simp
 ·intro i q o
  have hi:i<n:=by simpa using o
  have:s[p+i]'(by omega)=UInt8.ofNat (bw s (p+i)):=by
   rw[<-Qy,List.getD_eq_getElem?_getD,List.getElem?_eq_getElem (by omega)];rfl
  simp only[b6,List.getElem_drop,List.getElem_take,List.getElem_map,List.getElem_range,this]
theorem Pc{s:List UInt8}{p:Nat}(h:p<s.length)(O:bad s p=false):b6 s p (p+(g s p).2)=mQ (g s p).1:=by
 have W:=jG s p h
 rw[VC W.2.1]
 have X:=nz s p;have Y:=nz s (p+1);have Z:=nz s (p+2);have la:=nz s (p+3)
 have o:¬((g s p).1=65533/\(g s p).2=1):=fun U=>by unfold bad at O;simp[U.1,U.2]at O
 clear O
 unfold g Lib.decodeN at*
 split
 ·rename_i c1
  simp[mQ,c1]
 ·rename_i c1
  rw[if_neg c1]at o
  split
  ·rename_i c2
   rw[if_pos c2]at o
   split
   ·rename_i c3
    have ae:¬(bw s p %32*64+bw s (p+1) %64<128):=by omega
    have q:bw s p %32*64+bw s (p+1) %64<2048:=by omega
    simp only[mQ,if_neg ae,if_pos q,List.range,List.range.loop,List.map,Nat.add_zero]
    rw[show 192+(bw s p %32*64+bw s (p+1) %64)/64=bw s p by omega,show 128+(bw s p %32*64+bw s (p+1) %64) %64=bw s (p+1) by omega]
   ·rename_i c3;rw[if_neg c3]at o;exact absurd ⟨rfl,rfl⟩ o
  ·rename_i c2
   rw[if_neg c2]at o
   split
   ·rename_i c3
    rw[if_pos c3]at o
    split
    ·rename_i c4
     have ae:¬(bw s p %16*4096+bw s (p+1) %64*64+bw s (p+2) %64<128):=by omega
     have q:¬(bw s p %16*4096+bw s (p+1) %64*64+bw s (p+2) %64<2048):=by omega
     have R:bw s p %16*4096+bw s (p+1) %64*64+bw s (p+2) %64<65536:=by omega
     simp only[mQ,if_neg ae,if_neg q,if_pos R,List.range,List.range.loop,List.map,Nat.add_zero]
     rw[show 224+(bw s p %16*4096+bw s (p+1) %64*64+bw s (p+2) %64)/4096=bw s p by omega,
      show 128+(bw s p %16*4096+bw s (p+1) %64*64+bw s (p+2) %64)/64 %64=bw s (p+1) by omega,
      show 128+(bw s p %16*4096+bw s (p+1) %64*64+bw s (p+2) %64) %64=bw s (p+2) by omega]
    ·rename_i c4;rw[if_neg c4]at o;exact absurd ⟨rfl,rfl⟩ o
   ·rename_i c3
    rw[if_neg c3]at o
    split
    ·rename_i c4
     rw[if_pos c4]at o
     split
     ·rename_i c5
      have ae:¬(bw s p %8*262144+bw s (p+1) %64*4096+bw s (p+2) %64*64+bw s (p+3) %64<128):=by omega
      have q:¬(bw s p %8*262144+bw s (p+1) %64*4096+bw s (p+2) %64*64+bw s (p+3) %64<2048):=by omega
      have R:¬(bw s p %8*262144+bw s (p+1) %64*4096+bw s (p+2) %64*64+bw s (p+3) %64<65536):=by omega
      simp only[mQ,if_neg ae,if_neg q,if_neg R,List.range,List.range.loop,List.map,Nat.add_zero]
      rw[show 240+(bw s p %8*262144+bw s (p+1) %64*4096+bw s (p+2) %64*64+bw s (p+3) %64)/262144=bw s p by omega,
       show 128+(bw s p %8*262144+bw s (p+1) %64*4096+bw s (p+2) %64*64+bw s (p+3) %64)/4096 %64=bw s (p+1) by omega,
       show 128+(bw s p %8*262144+bw s (p+1) %64*4096+bw s (p+2) %64*64+bw s (p+3) %64)/64 %64=bw s (p+2) by omega,
       show 128+(bw s p %8*262144+bw s (p+1) %64*4096+bw s (p+2) %64*64+bw s (p+3) %64) %64=bw s (p+3) by omega]
     ·rename_i c5;rw[if_neg c5]at o;exact absurd ⟨rfl,rfl⟩ o
    ·rename_i c4;rw[if_neg c4]at o;exact absurd ⟨rfl,rfl⟩ o
theorem Sv(s:List UInt8)(p:Nat):xm (g s p).1:=by
 unfold xm
 rcases OB s p with h|h|h|h|h<;>omega
theorem Tq(M:Int->Bool)(s:List UInt8):∀n p o aa,s.length<n+p->p<=s.length->jN M s n p o=(aa,0)->aa.flatMap dX=o.flatMap dX++s.drop p:=by
 intro n
 induction n with
 |zero=>intro p o aa R U h;omega
 |succ n W=>
  intro p o aa R U h
  unfold jN at h
  by_cases q:p<s.length
  ·rw[if_pos q]at h
   have X:=jG s p q
   cases O:bad s p
   ·rw[O]at h
    simp only[Bool.false_eq_true,if_false]at h
    split at h
    ·cases h
    ·split at h
     ·cases h
     ·have:=W _ _ aa (by omega) X.2.1 h
      rw[this,List.flatMap_append,List.append_assoc]
      refine congrArg (fun z=>o.flatMap dX++z) ?_
      have e:dX ((g s p).1:Int)=b6 s p (p+(g s p).2):=by rw[QM (Sv s p),Pc q O]
      simp only[List.flatMap_cons,List.flatMap_nil,List.append_nil]
      rw[e]
      unfold b6
      rw[<-List.drop_append_of_le_length (by rw[List.length_take];omega),List.take_append_drop]
   ·rw[O]at h
    simp at h
  ·rw[if_neg q]at h
   cases h
   rw[List.drop_of_length_le (by omega),List.append_nil]
theorem Uk{a:bj}{w:List UInt8}(O:w.length<=65536)(h:(wl a w).2=0):cz (wl a w).1=w:=by
 have q:=(Ku a w h).1
 unfold wl at h⊢
 rw[if_pos q]at h⊢
 rw[WJ]
 have o:w.length<65537+0:=by omega
 revert h o
 generalize (65537:Nat)=N
 intro h o
 have e:=Tq (qm a) w N 0 [] (jN (qm a) w N 0 []).1 o (Nat.zero_le _) (by rw[<-h])
 simpa using e
end Go.Ev
namespace Go.Ev
open Go
set_option linter.unusedVariables false
def ig(a:bj)(w:List UInt8):List Int×Int:=wl a (w.take 65536)
theorem Cn(a:bj)(w:List UInt8):jO 80000 a w=some (ig a w):=by
 unfold ig
 by_cases h:w.length<=65536
 ·rw[List.take_of_length_le h,K9 a h]
 ·have q:(w.take 65536).length=65536:=by rw[List.length_take];omega
  rw[<-K9 a (by omega)]
  have o:∀m,nd 80000 m w=nd 80000 m (w.take 65536):=by
   intro m
   unfold nd
   rw[if_pos (by simp only[decide_eq_true_eq];omega),if_neg (by simp only[decide_eq_true_eq];omega)]
   rw[show(65536:Int)=((65536:Nat):Int)from rfl,Cx (by omega),Option.bind_some]
  unfold jO
  simp only[o]
theorem yJ{a:bj}{w:List UInt8}(h:(ig a w).2=0):cv a=true/\w.length<=256/\(ig a w).1.length<=64/\∀r∈(ig a w).1,r∈oH a:=by
 unfold ig at h⊢
 have o:=Ku a _ h
 have O:(w.take 65536).length<=65536:=by rw[List.length_take];omega
 have R:=Uk O h
 have q:=nL (wl a (w.take 65536)).1
 rw[R]at q
 rw[List.length_take]at q
 exact⟨o.1,by omega,o.2.1,o.2.2⟩
theorem JP(a:bj)(w:List UInt8):kS 80000 a w=some (ig a w).2:=by
 unfold kS
 rw[show((a.1,a.2.1,()):bj)=a from rfl,Cn a w]
 rfl
theorem OM{s:List UInt8}(o:s.length<=9223372036854775807):Has (jV 80000 s) fun v=>v<=64->s.length<=256:=by
 refine jn (JE o) ?_
 rintro v ⟨m,rfl,q⟩ h
 omega
theorem QU(a:bj){w:List UInt8}(U:w.length<=9223372036854775807):Has (qP 80000 a ([],w,())) fun e=>e=0->w.length<=256:=by
 unfold qP
 rw[show eP 80000 ((a.1,a.2.1,()):bj)=some (if cv a then 0 else 7)from kB a,Option.bind_some]
 refine aD (fun h=>aw fun o=>by rw[o]at h;cases h) fun _=>?_
 have q:∀t:Bool,(t=false->w.length<=256)->Has (qt 80000 ([],w,()) a t) fun e=>e=0->w.length<=256:=by
  intro t O
  cases t with
  |true=>exact aw fun o=>nomatch o
  |false=>exact jn (Et _ a O) fun _ _ _=>O rfl
 have R:∀t,Has (oZ 80000 ([],w,()) a t) fun e=>e=0->w.length<=256:=by
  intro t
  unfold oZ
  refine aD (fun _=>aw fun o=>nomatch o) fun _=>?_
  refine aR (Q:=fun _=>True) (aw trivial) fun v _=>?_
  refine aD (fun _=>q true fun h=>nomatch h) fun _=>?_
  refine aR (OM U) fun v W=>?_
  exact q _ fun h=>W (by have:=of_decide_eq_false h;omega)
 refine bt (fun _=>R true) fun _=>?_
 exact aR (Q:=fun _=>True) ⟨[],rfl,trivial⟩ fun v _=>R _
abbrev Sq:Type:=Sum (List Int×List Int×Unit) (Sum (List Int×Int×Unit) (Sum (List Int×Unit) (Sum (Int×Unit) Unit)))
def rN:Sq->Prop
 |.inl (f,b,_)=>f.length<=256/\b.length<=256
 |.inr (.inl (f,t,_))=>f.length<=256/\0<=t
 |.inr (.inr (.inl (f,_)))=>f.length<=256
 |.inr (.inr (.inr (.inl (t,_))))=>0<=t
 |.inr (.inr (.inr (.inr _)))=>False
theorem Qw(a:bj){x:uG}(U:x.2.1.length<=9223372036854775807):Has (jb 80000 a x) fun v=>v.2=true->rN v.1:=by
 unfold jb yR
 rw[show kS 80000 ((a.1,a.2.1,()):bj) x.2.1=_ from JP a _,Option.bind_some]
 have Y:=vY x.2.1
 have Z:=vY x.2.2.1
 have O:∀b:Bool,b=(decide ((0:Int)<=x.2.2.2.1)&&(decide (x.2.2.2.1<=(64:Int))))->b=true->0<=x.2.2.2.1:=by
  intro b q h
  rw[h]at q
  simp only[Bool.true_eq,Bool.and_eq_true,decide_eq_true_eq]at q
  exact q.1
 have R:∀t1 t2:Bool,(t1=true->0<=x.2.2.2.1)->(t2=true->(ig a x.2.1).2=0/\(ig a x.2.2.1).2=0)->Has (oB 80000 x t1 a t2) fun v=>v.2=true->rN v.1:=by
  intro t1 t2 ar W
  have e:∀b:Bool,(b=true->t2=true)->b=true->(dS x.2.1).length<=256/\(dS x.2.2.1).length<=256:=by
   intro b q h
   have:=W (q h)
   have aC:=yJ this.1
   have aA:=yJ this.2
   omega
  unfold oB
  refine aD (fun _=>?_) fun _=>aD (fun _=>?_) fun _=>aD (fun _=>?_) fun _=>aD (fun _=>?_) fun _=>aD (fun _=>?_) fun _=>aD (fun _=>?_) fun _=>aw fun o=>nomatch o
  ·unfold Cf CI tv
   refine aD (fun h=>aw fun _=>?_) fun _=>aw fun o=>nomatch o
   exact⟨(e _ (fun h=>by simp only[Bool.and_eq_true]at h;exact h.1) h).1,Nat.zero_le _⟩
  ·unfold Db Bn u6
   refine aD (fun h=>aw fun _=>?_) fun _=>aw fun o=>nomatch o
   exact⟨Nat.zero_le _,(e _ (fun h=>by simp only[Bool.and_eq_true]at h;exact h.1) h).1⟩
  ·unfold Cu AG tY
   refine aD (fun h=>aw fun _=>?_) fun _=>aw fun o=>nomatch o
   exact e _ (fun h=>by simp only[Bool.and_eq_true]at h;exact h.1) h
  ·unfold Kz Je
   refine aw fun h=>?_
   simp only[Bool.and_eq_true]at h
   exact⟨(e true (fun _=>h.1.1) rfl).1,ar h.1.2⟩
  ·refine aR (QU (a.1,a.2.1,()) U) fun v X=>?_
   unfold IQ Ge
   refine aw fun h=>?_
   simp only[Bool.and_eq_true,beq_iff_eq]at h
   have:=X h.1.1
   show(dS x.2.1).length<=256
   omega
  ·unfold Jc J1
   refine aw fun h=>?_
   simp only[Bool.and_eq_true]at h
   exact ar h.1.1
 refine aD (fun h=>?_) fun h=>?_
 ·rw[show kS 80000 ((a.1,a.2.1,()):bj) x.2.2.1=_ from JP a _,Option.bind_some]
  exact R _ _ (O _ rfl) fun o=>⟨by simpa using h,by simpa using o⟩
 ·exact R _ _ (O _ rfl) fun o=>nomatch o
end Go.Ev
namespace Go.Ev
open Go
set_option linter.unusedVariables false
abbrev rT:Type:=bj×Option iq×Unit
def vW(a:bj)(p:np):Prop:=p.2.1.length<=256/\∀c∈p.2.1,c.2.1.length<=8/\∀x∈c.2.1,∃v,jb 80000 a x=some v/\rN v.1
theorem Pz(a:bj){p:np}(X:sW p):Has (pw 80000 a p) fun e=>e=0->vW a p:=by
 unfold pw
 rw[show eP 80000 ((a.1,a.2.1,()):bj)=some (if cv a then 0 else 7)from kB a,Option.bind_some]
 refine aD (fun h=>aw fun q=>by rw[q]at h;cases h) fun _=>?_
 refine aR (I5 X.1) fun v _=>?_
 unfold FR Ey
 refine aD (fun _=>aw fun q=>nomatch q) fun h=>?_
 simp only[Bool.or_eq_false_iff,decide_eq_false_iff_not]at h
 have lc:p.2.1.length<=256:=by omega
 have l1:∀n (i:Nat),i<=p.2.1.length->p.2.1.length-i<n->(∀j c,j<i->p.2.1[j]? =some c->c.2.1.length<=8/\∀x∈c.2.1,∃v,jb 80000 a x=some v/\rN v.1)->
   Has (mh 80000 p n (i:Int) a.1 a.2.1) fun e=>e=0->vW a p:=by
  intro n
  induction n with
  |zero=>intro i _ h;omega
  |succ n ld=>
   intro i lk ll Y
   unfold mh FF
   refine bt (fun lm=>?_) fun ln=>aw fun _=>⟨lc,fun c R=>?_⟩
   ·refine bz (by omega) fun c R=>?_
    have le:c∈p.2.1:=R▸List.getElem_mem _
    refine bt (fun _=>aw fun q=>nomatch q) fun lo=>?_
    have lf:∀m (j:Nat),j<=c.2.1.length->c.2.1.length-j<m->(∀t x,t<j->c.2.1[t]? =some x->∃v,jb 80000 a x=some v/\rN v.1)->
      Has (pn 80000 c a.1 a.2.1 (mh 80000 p n) (i:Int) m (j:Int)) fun e=>e=0->vW a p:=by
     intro m
     induction m with
     |zero=>intro j _ h;omega
     |succ m lg=>
      intro j g1 g2 g3
      unfold pn CT
      refine bt (fun Z=>?_) fun Z=>?_
      ·refine bz (by omega) fun y la=>?_
       have lh:y∈c.2.1:=la▸List.getElem_mem _
       obtain⟨v,lb,li⟩:=Qw a (x:=y) (X.2 c le y lh)
       rw[show jb 80000 ((a.1,a.2.1,()):bj) (y.1,y.2.1,y.2.2.1,y.2.2.2.1,())=some v from lb,Option.bind_some]
       refine aD (fun _=>aw fun q=>nomatch q) fun lj=>?_
       rw[bB (by omega)]
       refine lg (j+1) (by omega) (by omega) fun t x o O=>?_
       rcases Nat.lt_or_ge t j with q|q
       ·exact g3 t x q O
       ·have:t=j:=by omega
        subst this
        rw[List.getElem?_eq_getElem (by omega),la]at O
        cases O
        exact⟨v,lb,li (by simpa using lj)⟩
      ·rw[bB (by omega)]
       refine ld (i+1) (by omega) (by omega) fun U c' lp W=>?_
       rcases Nat.lt_or_ge U i with q|q
       ·exact Y U c' q W
       ·have:U=i:=by omega
        subst this
        rw[List.getElem?_eq_getElem (by omega),R]at W
        cases W
        refine⟨by omega,fun x O=>?_⟩
        obtain⟨t,o,e⟩:=List.getElem_of_mem O
        exact g3 t x (by omega) (by rw[List.getElem?_eq_getElem o,e])
    exact lf 80000 0 (Nat.zero_le _) (by omega) fun t x o _=>by omega
   ·obtain⟨t,o,e⟩:=List.getElem_of_mem R
    exact Y t c (by omega) (by rw[List.getElem?_eq_getElem o,e])
 exact l1 80000 0 (Nat.zero_le _) (by omega) fun j c Z _=>by omega
theorem Bl{l:List (List Int)}(Y:l.length<=3)(h:∀x∈l,x.length<=70000):Has (oY 80000 l) fun r=>r.length<=210000:=by
 have Z:=e0
 have la:=ma
 have R:∀(i:Nat) (hi:i<l.length),(l[i]'hi).length<=70000:=fun i hi=>h _ (List.getElem_mem _)
 have l2:∀n (i:Nat) (t:List Int),i<=l.length->l.length-i<n->t.length<=70000*i->Has (sZ l n (i:Int) t) fun r=>r.length<=210000:=by
  intro n
  induction n with
  |zero=>intro i _ _ h;omega
  |succ n o=>
   intro i t U W lb
   unfold sZ Ll
   refine bt (fun X=>?_) fun _=>aw (by omega)
   refine bz (by omega) fun x q=>?_
   have O:=R i (by omega)
   rw[q]at O
   refine bO (by omega) ?_
   rw[bB (by omega)]
   exact o (i+1) _ (by omega) (by omega) (by rw[List.length_append];omega)
 have l1:∀n (i s:Nat),i<=l.length->l.length-i<n->s<=70000*i->Has (uk 80000 l n (s:Int) (i:Int)) fun r=>r.length<=210000:=by
  intro n
  induction n with
  |zero=>intro i _ _ h;omega
  |succ n o=>
   intro i s U W lc
   unfold uk GA
   refine bt (fun X=>?_) fun _=>?_
   ·refine bz (by omega) fun x q=>?_
    have O:=R i (by omega)
    rw[q]at O
    have e:am ((s:Int)+(List.length x:Int))=((s+x.length:Nat):Int):=by rw[fL (by omega)];omega
    rw[e]
    refine bt (fun ld=>by omega) fun _=>?_
    rw[bB (by omega)]
    exact o (i+1) _ (by omega) (by omega) (by omega)
   ·refine bO (by omega) ?_
    exact l2 80000 0 [] (Nat.zero_le _) (by omega) (Nat.zero_le _)
 exact l1 80000 0 0 (Nat.zero_le _) (by omega) (Nat.le_refl _)
theorem V3{f b l:List Int}(s:rT)(q:f.length<=256)(O:b.length<=256)(R:l.length<=256):Has (yH 80000 (f,b,()) s l) fun _=>True:=by
 unfold yH
 refine aR (Bl (by simp) fun x o=>?_) fun v _=>aw trivial
 simp only[List.mem_cons,List.not_mem_nil,or_false]at o
 rcases o with rfl|rfl|rfl<;>omega
theorem Bi{α:Type}{s:List α}{a b:Int}(o:0<=a)(q:a<=b)(O:b<=s.length):∃r,dz s a b=some r/\r.length<=s.length:=by
 obtain⟨i,rfl⟩:=Int.eq_ofNat_of_zero_le o
 obtain⟨j,rfl⟩:=Int.eq_ofNat_of_zero_le (a:=b) (by omega)
 obtain⟨r,e,R⟩:=Ad (s:=s) (a:=i) (b:=j) (by omega) (by omega)
 exact⟨r,e,by omega⟩
theorem XP{f l:List Int}{t:Int}(s:rT)(R:f.length<=256)(U:0<=t)(W:l.length<=256):Has (wj 80000 (f,t,()) s l) fun _=>True:=by
 unfold wj
 have o:0<=iT t (List.length l:Int)/\iT t (List.length l:Int)<=l.length:=by
  unfold iT
  split<;>omega
 obtain⟨X,ae,Y⟩:=Bi (s:=l) (Int.le_refl 0) o.1 o.2
 obtain⟨cS,O,Z⟩:=Bi (s:=l) o.1 o.2 (Int.le_refl _)
 rw[ae,Option.bind_some,O,Option.bind_some]
 refine aR (Bl (by simp) fun x q=>?_) fun v _=>aw trivial
 simp only[List.mem_cons,List.not_mem_nil,or_false]at q
 rcases q with rfl|rfl|rfl<;>omega
theorem VL{l:List Int}{t:Int}(s:rT)(O:0<=t)(W:l.length<=256):Has (xG 80000 (t,()) s l) fun _=>True:=by
 have o:∀i:Int,0<=i->i<=l.length->Has (sl 80000 l i) fun _=>True:=by
  intro i R U
  unfold sl
  obtain⟨X,ae,Y⟩:=Bi (s:=l) (Int.le_refl 0) R U
  rw[ae,Option.bind_some]
  refine aR (Bl (by simp) fun x q=>?_) fun v _=>aw trivial
  simp only[List.mem_cons,List.not_mem_nil,or_false]at q
  rcases q with rfl|rfl<;>omega
 unfold xG
 refine bt (fun _=>aw trivial) fun h=>?_
 exact aD (fun _=>o _ (by omega) (Int.le_refl _)) fun _=>o _ O (by omega)
theorem W1{f l:List Int}(s:rT)(la:f.length<=256)(lb:l.length<=256):Has (zV 80000 (f,()) s l) fun _=>True:=by
 have lc:=e0
 unfold zV r3
 refine aR (Q:=fun v=>v=f) (bO (by simp only[List.length_nil];omega) (aw rfl)) fun v U=>?_
 subst U
 have l2:∀(o:List Int) n (i h:Nat) (t:List Int),i<=v.length->v.length-i<n->h<=i->t.length=v.length->Has (sy v o n (h:Int) (i:Int) t) fun _=>True:=by
  intro o n
  induction n with
  |zero=>intro i _ _ _ h;omega
  |succ n q=>
   intro i O t W X Y R
   unfold sy Hy
   refine bt (fun Z=>?_) fun _=>aD (fun _=>aw trivial) fun _=>aw trivial
   refine bz (by omega) fun x _=>?_
   unfold xY yd
   rw[bB (n:=i) (by omega),bB (n:=O) (by omega)]
   refine aD (fun _=>q (i+1) O t (by omega) (by omega) (by omega) R) fun _=>?_
   refine bt (fun ld=>?_) fun _=>q (i+1) (O+1) t (by omega) (by omega) (by omega) R
   refine bz (by omega) fun y _=>?_
   exact q (i+1) (O+1) _ (by omega) (by omega) (by omega) (by rw[List.length_set];exact R)
 have l1:∀n (i:Nat) (o:List Int),i<=l.length->l.length-i<n->o.length<=i->Has (tD 80000 l s v n (i:Int) o) fun _=>True:=by
  intro n
  induction n with
  |zero=>intro i _ _ h;omega
  |succ n q=>
   intro i o W X Y
   unfold tD Ml
   refine bt (fun Z=>?_) fun _=>l2 o 80000 0 0 v (Nat.zero_le _) (by omega) (Nat.le_refl _) rfl
   refine bz (by omega) fun x _=>?_
   unfold xX
   rw[bB (by omega)]
   refine aD (fun _=>?_) fun _=>q (i+1) o (by omega) (by omega) (by omega)
   refine bO (by simp only[List.length_cons,List.length_nil];omega) ?_
   exact q (i+1) _ (by omega) (by omega) (by simp only[List.length_append,List.length_cons,List.length_nil];omega)
 exact l1 80000 0 [] (Nat.zero_le _) (by omega) (Nat.le_refl _)
theorem Th{s:rT}{all:List uG}(Y:all.length<=8)(R:∀x∈all,∃v,jb 80000 s.1 x=some v/\rN v.1):∀n (i:Nat) (l:List Int),i<=all.length->all.length-i<n->l.length<=256->Has (qW 80000 all s n l (i:Int)) fun _=>True:=by
 have Z:=e0
 intro n
 induction n with
 |zero=>intro i _ _ h;omega
 |succ n U=>
  intro i l la lb q
  unfold qW H3
  refine bt (fun lc=>?_) fun _=>?_
  ·refine bz (by omega) fun x W=>?_
   obtain⟨v,X,o⟩:=R x (W▸List.getElem_mem _)
   rw[show jb 80000 ((s.1.1,s.1.2.1,()):bj) (x.1,x.2.1,x.2.2.1,x.2.2.2.1,())=some v from X,Option.bind_some]
   have O:∀(m:List Int) (e:Int),Has (o7 (qW 80000 all s n) (i:Int) m e) fun _=>True:=by
    intro m e
    unfold o7
    refine aD (fun _=>aw trivial) fun _=>?_
    refine bt (fun _=>aw trivial) fun ld=>?_
    rw[bB (by omega)]
    exact U (i+1) m (by omega) (by omega) (by omega)
   obtain⟨a,b⟩:=v
   match a,o with
   |.inl (f,le,()),o=>exact aR (V3 _ o.1 o.2 q) fun v _=>O _ _
   |.inr (.inl (f,t,())),o=>exact aR (XP _ o.1 o.2 q) fun v _=>O _ _
   |.inr (.inr (.inl (f,()))),o=>exact aR (W1 _ o q) fun v _=>O _ _
   |.inr (.inr (.inr (.inl (t,())))),o=>exact aR (VL _ o q) fun v _=>O _ _
   |.inr (.inr (.inr (.inr ()))),o=>exact o.elim
  ·have:=nL l
   exact bO (by omega) (aw trivial)
theorem XY(l:List Int)(q:l.length<=70000)(v:Int):Has (yg 80000 l v) fun _=>True:=by
 have l1:∀n (i:Nat),i<=l.length->l.length-i<n->Has (vB l v n (i:Int)) fun _=>True:=by
  intro n
  induction n with
  |zero=>intro i _ h;omega
  |succ n o=>
   intro i O R
   unfold vB JW
   refine bt (fun U=>?_) fun _=>aw trivial
   refine bz (by omega) fun x _=>?_
   refine aD (fun _=>aw trivial) fun _=>?_
   rw[bB (by omega)]
   exact o (i+1) (by omega) (by omega)
 unfold yg A2
 exact aR (l1 80000 0 (Nat.zero_le _) (by omega)) fun _ _=>aw trivial
end Go.Ev
