/- Plain laws: a stem's form with its affixes; vowels agree: each comes to an end. -/
import Derived.Test.YteopobecmacgdaaGreatDoorMM9
import Derived.Test.YteopobecmacgdaaGreatDoorMM5
import Derived.OpenShut
import Derived.WideShapes
import Derived.Test.YteopobecmacgdaaGreatDoorTyA
set_option linter.unusedSectionVars false
set_option linter.unusedVariables false
set_option linter.unusedSimpArgs false
namespace Go.Ev
open Go
set_option linter.unusedVariables false
theorem Vb(a:bj)(q:Int):Has (w8 80000 a q) fun v=>v.2=0->v.1.1=a:=by
 unfold w8
 refine aR (Q:=fun v=>v.1.length<=128/\(v.2=0->a.2.1.length<=128)) ?_ fun v1 R=>?_
 ·obtain⟨v,e,U⟩:=JH a q 0
  refine⟨v,e,U,fun W=>?_⟩
  cases O:cv a with
  |true=>exact(Lf O).2.2.1
  |false=>
   exfalso
   have o:oW 80000 a q 0=some v:=e
   unfold oW at o
   rw[show eP 80000 ((a.1,a.2.1,()):bj)=some (if cv a then 0 else 7)from kB a,O]at o
   simp only[Option.bind_some]at o
   rw[if_pos (by decide)]at o
   cases o
   cases W
 refine aD (fun h=>aw fun X=>?_) fun h=>?_
 ·rw[show v1.2=0 from X]at h;cases h
 have Z:=R.2 (by simpa using h)
 have l1:∀n (i:Nat) m,i<=a.2.1.length->a.2.1.length-i<n->Has (tW 80000 a v1 n (i:Int) m) fun v=>v.2=0->v.1.1=a:=by
  intro n
  induction n with
  |zero=>intro i _ _ h;omega
  |succ n Y=>
   intro i m g1 g2
   unfold tW Kr
   refine bt (fun la=>?_) fun _=>aw fun _=>rfl
   refine bz (by omega) fun x _=>?_
   refine aR (XY v1.1 (by omega) x.1) fun v2 _=>?_
   rw[bB (by omega)]
   exact Y (i+1) _ (by omega) (by omega)
 exact l1 80000 0 [] (Nat.zero_le _) (by omega)
theorem R8(a:bj)(q:Int){p:np}(R:sW p)(n:Int)(w:List UInt8):Has (nG 80000 a q p n w) fun _=>True:=by
 unfold nG
 refine aR (Q:=fun v=>v.2.2=0->v.1.1=a/\v.2.1.length<=64/\vW a p/\0<=n/\n<p.2.1.length) ?_ fun v1 U=>?_
 ·unfold Do
  refine aR (Vb (a.1,a.2.1,()) q) fun b W=>?_
  refine aD (fun h=>aw fun o=>?_) fun X=>?_
  ·rw[show b.2=0 from o]at h;cases h
  have Y:=W (by simpa using X)
  refine aR (Pz (a.1,a.2.1,()) (p:=(p.1,p.2.1,())) R) fun e Z=>?_
  refine aD (fun h=>aw fun o=>?_) fun h=>?_
  ·rw[show e=0 from o]at h;cases h
  have la:=Z (by simpa using h)
  unfold K4
  refine aD (fun _=>aw fun o=>nomatch o) fun lb=>?_
  simp only[Bool.or_eq_false_iff,decide_eq_false_iff_not]at lb
  rw[Cn,Option.bind_some]
  refine aw fun o=>⟨Y,(yJ o).2.2.1,la,by omega,by omega⟩
 refine aD (fun _=>aw trivial) fun h=>?_
 obtain⟨lc,lh,ld,le,lf⟩:=U (by simpa using h)
 refine Ex le lf fun c lg=>?_
 have O:=ld.2 c lg
 refine aR (Q:=fun _=>True) ?_ fun v2 _=>aw trivial
 unfold AP
 exact Th (s:=((v1.1.1.1,v1.1.1.2.1,()),v1.1.2.1,())) O.1 (by rw[show(((v1.1.1.1,v1.1.1.2.1,()),v1.1.2.1,()):rT).1=a from lc];exact O.2) 80000 0 v1.2.1 (Nat.zero_le _) (by omega) (by omega)
theorem XO(a:bj)(w:List UInt8)(l:List Int)(U:l.length<=100):Has (rl 80000 a w l) fun v=>v.1=0->cv a=true/\v.2.length<=64:=by
 have W:=e0
 have X:=ma
 unfold rl
 rw[show jO 80000 ((a.1,a.2.1,()):bj) w=_ from Cn a w,Option.bind_some]
 refine aD (fun h=>aw fun q=>?_) fun h=>?_
 ·rw[show(ig a w).2=0 from q]at h;cases h
 obtain⟨aC,aA,bW,Y⟩:=yJ (a:=a) (w:=w) (by simpa using h)
 have Z:=Lf aC
 have R:∀n (i:Nat),i<=l.length->l.length-i<n->Has (tp l (a.1,a.2.1,()) n (i:Int)) fun _=>True:=by
  intro n
  induction n with
  |zero=>intro i _ h;omega
  |succ n o=>
   intro i g1 g2
   unfold tp IB
   refine bt (fun O=>?_) fun _=>aw trivial
   refine bz (by omega) fun x _=>?_
   refine bO (by omega) ?_
   refine aD (fun _=>aw trivial) fun _=>?_
   rw[bB (by omega)]
   exact o (i+1) (by omega) (by omega)
 refine aR (show Has (wO 80000 (a.1,a.2.1,()) l) fun _=>True from R 80000 0 (Nat.zero_le _) (by omega)) fun v2 _=>?_
 refine aD (fun h=>aw fun q=>?_) fun _=>?_
 ·rw[show v2=0 from q]at h;cases h
 have l2:∀m n (i:Nat) (t:List cJ),i<=(ig a w).1.length->(ig a w).1.length-i<n->t.length=(ig a w).1.length->Has (u4 (ig a w) m n (i:Int) t) fun v=>v.1=0->cv a=true/\v.2.length<=64:=by
  intro m n
  induction n with
  |zero=>intro i _ _ h;omega
  |succ n o=>
   intro i t g1 g2 g3
   unfold u4 HR
   refine bt (fun O=>?_) fun _=>aw fun _=>⟨aC,by show t.length<=64;omega⟩
   refine bz (by omega) fun x _=>?_
   refine bz (by omega) fun y _=>?_
   rw[bB (by omega)]
   exact o (i+1) _ (by omega) (by omega) (by rw[List.length_set];exact g3)
 have l1:∀n (i:Nat) m,i<=a.2.1.length->a.2.1.length-i<n->Has (sF 80000 a (ig a w) n (i:Int) m) fun v=>v.1=0->cv a=true/\v.2.length<=64:=by
  intro n
  induction n with
  |zero=>intro i _ _ h;omega
  |succ n o=>
   intro i m g1 g2
   unfold sF Jf
   refine bt (fun O=>?_) fun _=>?_
   ·refine bz (by omega) fun x _=>?_
    rw[bB (by omega)]
    exact o (i+1) _ (by omega) (by omega)
   ·refine bO (by omega) ?_
    exact l2 m 80000 0 _ (Nat.zero_le _) (by omega) (by simp)
 exact l1 80000 0 [] (Nat.zero_le _) (by omega)
theorem S3(a:bj)(o:cv a=true)(l f:cJ)(q:Int):Has (zO 80000 a l f q) fun _=>True:=by
 unfold zO Mu
 refine aD (fun _=>aw trivial) fun _=>?_
 exact aR (LO (a.1,a.2.1,()) o _ _ _) fun v _=>aw trivial
theorem Vx(a:bj)(U:cv a=true){l:List cJ}(W:l.length<=64)(q o:Int){fr:Nat}(X:fr<l.length):Has (wB 80000 a l q o (fr:Int)) fun _=>True:=by
 have Y:=e0
 have Z:=ma
 unfold wB
 refine bO (by omega) ?_
 have l1:∀n (i:Nat) (t:List Int),i<=l.length->l.length-i<n->t.length=l.length->Has (rp 80000 l (fr:Int) q a o n (i:Int) t) fun _=>True:=by
  intro n
  induction n with
  |zero=>intro i _ _ h;omega
  |succ n O=>
   intro i t g1 g2 g3
   unfold rp Ko
   refine bt (fun la=>?_) fun _=>?_
   ·refine bz (by omega) fun x _=>?_
    refine bz (by omega) fun y _=>?_
    have R:∀b,Has (tf 80000 l (fr:Int) a x o t (i:Int) (rp 80000 l (fr:Int) q a o n) b) fun _=>True:=by
     intro b
     unfold tf wG
     rw[bB (by omega)]
     refine aD (fun _=>?_) fun _=>O (i+1) _ (by omega) (by omega) (by rw[List.length_set];exact g3)
     refine bz (by omega) fun z _=>?_
     refine aR (S3 (a.1,a.2.1,()) U _ _ _) fun v _=>?_
     refine bz (by rw[List.length_set];omega) fun u _=>?_
     exact O (i+1) _ (by omega) (by omega) (by rw[List.length_set,List.length_set];exact g3)
    refine aD (fun _=>?_) fun _=>R _
    exact aR (Q:=fun _=>True) (aw trivial) fun v _=>R _
   ·have:=nL t
    exact bO (by omega) (aw trivial)
 exact l1 80000 0 _ (Nat.zero_le _) (by omega) (by simp)
theorem Wp(a:bj)(w:List UInt8)(o q:Int):Has (mW 80000 a w o q) fun _=>True:=by
 unfold mW
 refine aR (XO (a.1,a.2.1,()) w [o,q] (by simp)) fun v1 O=>?_
 refine aD (fun _=>aw trivial) fun h=>?_
 obtain⟨aC,aA⟩:=O (by simpa using h)
 have l1:∀n (i:Nat),i<=v1.2.length->v1.2.length-i<n->Has (tM 80000 v1 o a q w n (i:Int)) fun _=>True:=by
  intro n
  induction n with
  |zero=>intro i _ h;omega
  |succ n R=>
   intro i g1 g2
   unfold tM Jl
   refine bt (fun U=>?_) fun _=>aw trivial
   refine bz (by omega) fun x _=>?_
   refine aR (Q:=fun _=>True) (aw trivial) fun v2 _=>?_
   refine aD (fun _=>?_) fun _=>?_
   ·exact aR (Vx (a.1,a.2.1,()) aC aA o q (fr:=i) (by omega)) fun v3 _=>aw trivial
   ·rw[bB (by omega)]
    exact R (i+1) (by omega) (by omega)
 exact l1 80000 0 (Nat.zero_le _) (by omega)
end Go.Ev
namespace Go.Ev
open Go
set_option linter.unusedVariables false
abbrev gV:Type:=Int×List UInt8×List UInt8×Unit
def Way(hi:Int):Int->List UInt8->List gV->List UInt8->Prop
 |_,w,[],v=>w=v
 |o,w,s::l,v=>s.2.1=w/\s.2.2.1≠w/\o<=s.1/\s.1<hi/\Way hi (s.1+1) s.2.2.1 l v
theorem Lp{hi:Int}:∀{l:List gV} {o:Int} {w u:List UInt8} {mid:Int} {s:gV},Way mid o w l u->o<=mid->mid<=s.1->s.1<hi->s.2.1=u->s.2.2.1≠u->Way hi o w (l++[s]) s.2.2.1
 |[],o,w,u,mid,s,h,W,U,q,O,R=>by
  have h:w=u:=h
  subst h
  exact⟨O,R,by omega,q,rfl⟩
 |x::l,o,w,u,mid,s,⟨aC,aA,bW,Y,X⟩,W,U,q,O,R=>⟨aC,aA,bW,by omega,Lp X (by omega) U q O R⟩
theorem Er{hi o:Int}(h:hi<=o):∀{l:List gV} {q:Int} {w v:List UInt8},Way hi q w l v->Way o q w l v
 |[],_,_,_,k=>k
 |_::_,_,_,_,⟨aC,aA,bW,R,O⟩=>⟨aC,aA,bW,by omega,Er h O⟩
theorem Ww{hi o q:Int}(h:q<=o){l:List gV}{w v:List UInt8}(k:Way hi o w l v):Way hi q w l v:=by
 match l,k with
 |[],k=>exact k
 |_::_,⟨aC,aA,bW,O,R⟩=>exact⟨aC,aA,by omega,O,R⟩
theorem F0{hi mid:Int}(R:mid<=hi):∀{l1:List gV} {o:Int} {w u:List UInt8} {l2:List gV} {v:List UInt8},Way mid o w l1 u->o<=mid->Way hi mid u l2 v->Way hi o w (l1++l2) v
 |[],o,w,u,l2,v,h,O,q=>by
  have h:w=u:=h
  subst h
  exact Ww O q
 |x::l,o,w,u,l2,v,⟨aC,aA,bW,W,U⟩,O,q=>⟨aC,aA,bW,by omega,F0 R U (by omega) q⟩
theorem Pf(a:bj){l:List fe}(R:l.length<=64)(w0:List UInt8):∀n (i:Nat) (w:List UInt8) (st:List gV),i<=l.length->l.length-i<n->st.length<=i->Way i 0 w0 st w->
  Has (oF 80000 l a n w (i:Int) st) fun v=>v.2.1.length<=64/\(v.2.2=0->Way l.length 0 w0 v.2.1 v.1)/\(v.2.2≠0->v.2.1=[]):=by
 have U:=e0
 intro n
 induction n with
 |zero=>intro i _ _ _ h;omega
 |succ n O=>
  intro i w st W X Y o
  unfold oF Fo
  refine bt (fun Z=>?_) fun la=>aw ⟨by show st.length<=64;omega,fun _=>Er (by omega) o,fun q=>absurd rfl q⟩
  refine bz (by omega) fun x _=>?_
  refine aR (Gp ..) fun v1 _=>?_
  refine aD (fun h=>aw ⟨Nat.zero_le _,fun q=>?_,fun _=>rfl⟩) fun _=>?_
  ·rw[show v1.2=0 from q]at h;cases h
  unfold sn
  rw[bB (by omega)]
  refine aD (fun aM=>?_) fun aM=>?_
  ·refine bO (by simp only[List.length_cons,List.length_nil];omega) ?_
   refine O (i+1) _ _ (by omega) (by omega) (by simp only[List.length_append,List.length_cons,List.length_nil];omega) ?_
   exact Lp (s:=((i:Int),w,v1.1,())) o (by omega) (Int.le_refl _) (by show(i:Int)<((i+1:Nat):Int);omega) rfl (by simpa using aM)
  ·refine O (i+1) _ _ (by omega) (by omega) (by omega) ?_
   have e:v1.1=w:=by simpa using aM
   rw[e]
   exact Er (by omega) o
theorem Rw(a:bj)(l:List fe)(w:List UInt8):Has (zd 80000 a l w) fun s=>s.1.length<=64/\s.2=(dl a l w).2/\(s.2≠0->s.1=[]/\True)/\(s.2=0->Way l.length 0 w s.1 (dl a l w).1):=by
 have o:=DE a l w
 unfold zd
 unfold kH at o
 obtain⟨v1,ae,O⟩:=Hg a w l
 rw[show rn 80000 ((a.1,a.2.1,()):bj) w l=some v1 from ae,Option.bind_some]at o⊢
 by_cases h:(v1 !=0)=true
 ·rw[if_pos h]at o⊢
  have o:=Option.some.inj o
  rw[<-o]
  refine aw ⟨Nat.zero_le _,rfl,fun _=>⟨rfl,trivial⟩,fun q=>?_⟩
  rw[show v1=0 from q]at h;cases h
 ·rw[if_neg h]at o⊢
  have R:=O (by simpa using h)
  obtain⟨v2,U,W,X,Y⟩:=Pf a R w 80000 0 w [] (Nat.zero_le _) (by omega) (Nat.zero_le _) rfl
  have Z:sA 80000 ((a.1,a.2.1,()):bj) w l=some v2:=U
  rw[Z,Option.bind_some]at o⊢
  have o:=Option.some.inj o
  rw[<-o]
  exact aw ⟨W,rfl,fun q=>⟨Y q,trivial⟩,fun q=>X q⟩
end Go.Ev
namespace Go.Ev
open Go
set_option linter.unusedVariables false
set_option maxRecDepth 100000
abbrev r2:Type:=gG×sY×Int×Unit
structure Bx(t:gG)(en ce:Int)(s:r2):Prop where
 bk:cv t.1=true
 eC:0<=en
 ae:en<(t.2.2.2.2.1.length:Int)
 ny:0<=s.2.1.2.1
 ar:s.2.1.2.1<(t.2.2.2.1.length:Int)
 Xs:s.1=t
 x:t.2.2.2.2.1[en.toNat]? =some s.2.1
 c:s.2.2.1=ce
theorem Sn{t:gG}(X:p0 t)(en ce:Int):Has (iw 80000 t en ce) fun v=>v.2=0->Bx t en ce v.1:=by
 unfold iw
 refine aR (Ud (t:=((t.1.1,t.1.2.1,()),t.2.1,t.2.2.1,t.2.2.2.1,t.2.2.2.2.1,t.2.2.2.2.2.1,t.2.2.2.2.2.2.1,())) X) fun e Y=>?_
 refine aD (fun h=>aw fun o=>?_) fun h=>?_
 ·rw[show e=0 from o]at h;cases h
 obtain⟨aC,aA⟩:=Y (by simpa using h)
 unfold Mb
 refine aD (fun _=>aw fun o=>nomatch o) fun h=>?_
 simp only[Bool.or_eq_false_iff,decide_eq_false_iff_not]at h
 obtain⟨i,rfl⟩:=Int.eq_ofNat_of_zero_le (a:=en) (by omega)
 refine bz (by omega) fun x q=>?_
 have Z:x∈t.2.2.2.2.1:=q▸List.getElem_mem _
 have O:=aA x Z
 have R:0<=x.2.1:=O.1
 have U:x.2.1<(t.2.2.2.1.length:Int):=O.2
 have W:∀b,Has (uE t x ce b) fun v=>v.2=0->Bx t (i:Int) ce v.1:=by
  intro b
  unfold uE
  refine aD (fun _=>aw fun o=>nomatch o) fun _=>aw fun _=>?_
  exact⟨aC,by omega,by omega,R,U,rfl,by rw[Int.toNat_natCast,List.getElem?_eq_getElem (by omega),q],rfl⟩
 refine bt (fun _=>W _) fun _=>?_
 exact Ex R U fun y _=>W _
structure r6(s:r2)(w:List UInt8)(f g h:List UInt8×Int):Prop where
 aC:nT 80000 s w=some f
 aA:my 80000 s f.1=some g
 bW:qJ 80000 s g.1=some h
abbrev hU:Option Nat:=some 74
abbrev fR:Option Nat:=some 75
abbrev qw:Option Nat:=some 41
theorem Pv{s:r2}{w:List UInt8}{f g h:List UInt8×Int}(k:r6 s w f g h)(n:Nat):im 80000 [hU,fR] s (n+3) w 0=some (if f.2=0 then(if g.2=0 then(g.1,0)else([],g.2))else([],f.2)):=by
 obtain⟨aC,aA,bW⟩:=k
 unfold im om mJ
 rw[if_pos (by decide),show aB [hU,fR] (0:Int)=some hU from rfl,Option.bind_some,if_pos (by decide)]
 rw[show nT 80000 _ w=some f from aC,Option.bind_some]
 by_cases o:f.2=0
 ·rw[if_neg (by simp[o]),if_pos o,show am ((0:Int)+1)=1 from by decide]
  unfold im om mJ
  rw[if_pos (by decide),show aB [hU,fR] (1:Int)=some fR from rfl,Option.bind_some,if_neg (by decide),if_pos (by decide)]
  rw[show my 80000 _ f.1=some g from aA,Option.bind_some]
  by_cases q:g.2=0
  ·rw[if_neg (by simp[q]),if_pos q,show am ((1:Int)+1)=2 from by decide]
   unfold im om
   rw[if_neg (by decide)]
  ·rw[if_pos (by simp[q]),if_neg q]
 ·rw[if_pos (by simp[o]),if_neg o]
theorem SH{s:r2}{w:List UInt8}{f g h:List UInt8×Int}(k:r6 s w f g h)(n:Nat):im 80000 [hU,fR,qw] s (n+4) w 0=some (if f.2=0 then(if g.2=0 then(if h.2=0 then(h.1,0)else([],h.2))else([],g.2))else([],f.2)):=by
 obtain⟨aC,aA,bW⟩:=k
 unfold im om mJ
 rw[if_pos (by decide),show aB [hU,fR,qw] (0:Int)=some hU from rfl,Option.bind_some,if_pos (by decide)]
 rw[show nT 80000 _ w=some f from aC,Option.bind_some]
 by_cases o:f.2=0
 ·rw[if_neg (by simp[o]),if_pos o,show am ((0:Int)+1)=1 from by decide]
  unfold im om mJ
  rw[if_pos (by decide),show aB [hU,fR,qw] (1:Int)=some fR from rfl,Option.bind_some,if_neg (by decide),if_pos (by decide)]
  rw[show my 80000 _ f.1=some g from aA,Option.bind_some]
  by_cases q:g.2=0
  ·rw[if_neg (by simp[q]),if_pos q,show am ((1:Int)+1)=2 from by decide]
   unfold im om mJ
   rw[if_pos (by decide),show aB [hU,fR,qw] (2:Int)=some qw from rfl,Option.bind_some,if_neg (by decide),if_neg (by decide),if_pos (by decide)]
   rw[show qJ 80000 _ g.1=some h from bW,Option.bind_some]
   by_cases O:h.2=0
   ·rw[if_neg (by simp[O]),if_pos O,show am ((2:Int)+1)=3 from by decide]
    unfold im om
    rw[if_neg (by decide)]
   ·rw[if_pos (by simp[O]),if_neg O]
  ·rw[if_pos (by simp[q]),if_neg q]
 ·rw[if_pos (by simp[o]),if_neg o]
theorem VV{t:gG}(lb:p0 t){en ce:Int}{s:r2}(O:Bx t en ce s):∃f g h,r6 s s.2.1.1 f g h/\(∃p,t.2.2.2.1[s.2.1.2.1.toNat]? =some p/\nG 80000 t.1 t.2.1 p ce s.2.1.1=some f)/\
  (if t.2.2.1=0 then g=(f.1,0)else mW 80000 t.1 f.1 t.2.1 t.2.2.1=some g)/\h=dl t.1 t.2.2.2.2.2.1 g.1:=by
 have W:=O.Xs
 have X:=O.c
 have ny:=O.ny
 have ar:=O.ar
 obtain⟨o,q,U,lc⟩:=s
 simp only at W X ny ar
 subst W
 subst X
 obtain⟨i,hi⟩:=Int.eq_ofNat_of_zero_le ny
 have Y:i<o.2.2.2.1.length:=by omega
 have ld:o.2.2.2.1[i]∈o.2.2.2.1:=List.getElem_mem _
 obtain⟨f,Z,_⟩:=R8 o.1 o.2.1 (lb _ ld) U q.1
 obtain⟨g,la⟩:∃g,my 80000 (o,q,U,lc) f.1=some g/\(if o.2.2.1=0 then g=(f.1,0)else mW 80000 o.1 f.1 o.2.1 o.2.2.1=some g):=by
  unfold my
  by_cases R:o.2.2.1=0
  ·exact⟨(f.1,0),by rw[if_pos (by simpa using R)],by rw[if_pos R]⟩
  ·obtain⟨g,e,_⟩:=Wp o.1 f.1 o.2.1 o.2.2.1
   refine⟨g,?_,by rw[if_neg R];exact e⟩
   rw[if_neg (by simpa using R),show mW 80000 _ f.1 o.2.1 o.2.2.1=some g from e]
   rfl
 refine⟨f,g,dl o.1 o.2.2.2.2.2.1 g.1,⟨?_,la.1,?_⟩,⟨o.2.2.2.1[i],?_,Z⟩,la.2,rfl⟩
 ·unfold nT
  show Option.bind (aB o.2.2.2.1 q.2.1) _=_
  rw[hi,fh Y,Option.bind_some,show nG 80000 _ o.2.1 o.2.2.2.1[i] U q.1=some f from Z]
  rfl
 ·unfold qJ
  rw[show kH 80000 _ o.2.2.2.2.2.1 g.1=_ from DE _ _ _]
  rfl
 ·show o.2.2.2.1[q.2.1.toNat]? =_
  rw[hi,Int.toNat_natCast,List.getElem?_eq_getElem Y]
end Go.Ev
namespace Go.Ev
open Go Go.RowKit Go.WideShapes
variable [b8]
def gF:(t:ag)->t.el->Prop
 |.int k,n=>(Lit.int k n).wf=true
 |.str,s=>List.length (α:=UInt8) s<=maxLen
 |.ab t,xs=>List.length (α:=t.el) xs<=maxLen/\∀x∈(show List t.el from xs),gF t x
 |.pair a b,x=>gF a x.1/\gF b x.2
 |.arr n t,xs=>List.length (α:=t.el) xs=n/\∀x∈(show List t.el from xs),gF t x
 |_,_=>True
def mV:ag->Bool
 |.int _=>true
 |.bool=>true
 |.str=>true
 |.ab t=>mV t
 |.unit=>true
 |.pair a b=>mV a&&mV b
 |.arr _ t=>mV t
 |_=>false
theorem Tc{w:World}{a:Addr}{n:Nat}{c:List Value}(h:w.cells? 0 a n=some c):c.length=n/\∀j v,c[j]? =some v->w.cell? (a.add j)=some v:=by
 unfold World.cells? at h
 rw[if_pos (Nat.zero_le _)]at h
 have o:c.length=n:=by simpa using mapM_some_length h
 refine⟨o,fun j v q=>?_⟩
 have O:j<n:=by rw[<-o];exact(List.getElem?_eq_some_iff.1 q).1
 have:=mapM_some_get h j j (by simp[O])
 rw[this,q]
theorem FU{α:Type}{f:List Value->α->Prop}:∀{xs:List α} {cs c:List Value} {x:α},bL f cs xs->f c x->bL f (cs++c) (xs++[x])
 |[],cs,c,x,h,o=>by cases h;exact⟨c,[],by simp,o,rfl⟩
 |y::R,cs,c,x,⟨c1,c2,e,q,O⟩,o=>⟨c1,c2++c,by simp[e],q,FU O o⟩
theorem L9{α:Type}{p:α->Prop}{xs:List α}{y:α}(h:∀x∈xs,p x)(q:p y):∀x∈xs++[y],p x:=by
 intro x o
 rcases List.mem_append.1 o with o|o
 ·exact h x o
 ·simp at o;subst o;exact q
theorem Mk{H:Type}{dX:TypeId×Value->H}{P:Program}{w:World}{spare:Nat->Bool}{held:Bool}{d n:Nat}
  (R:∀(t:TypeId) (u:ag),cN P d t=some u->mV u=true->∀(cs:List Value) (x:DataW H×List MemPlace),DataW.trod dX P w 0 spare held n t cs=some x->∃y:u.el,aJ w (fun _=>False) u cs y/\gF u y):
  ∀(ap:List Field) (off:Nat) (u:ag),fieldsOf (cN P d) off ap=some u->mV u=true->∀(cs:List Value),cs.length=off+u.cells->(∀f∈ap,∃x,DataW.trod dX P w 0 spare held n f.type ((cs.drop f.offset).take (P.cellsOf f.type))=some x)->
   ∃y:u.el,aJ w (fun _=>False) u (cs.drop off) y/\gF u y
 |[],off,u,h,_,cs,o,_=>by
  simp only[fieldsOf,Option.some.injEq]at h
  subst h
  refine⟨(),?_,trivial⟩
  show cs.drop off=[]
  exact List.drop_eq_nil_of_le (by rw[o];exact Nat.le_refl _)
 |fd::ap,off,u,h,q,cs,o,U=>by
  unfold fieldsOf at h
  cases O:Nat.beq fd.offset off with
  |false=>rw[O]at h;cases h
  |true=>
   have Y:=Nat.eq_of_beq_eq_true O
   rw[O,cond_true]at h
   split at h
   ·rename_i a W
    split at h
    ·rename_i b Z
     cases h
     simp only[mV,Bool.and_eq_true]at q
     obtain⟨x,la⟩:=U fd List.mem_cons_self
     obtain⟨y,X,lb⟩:=R fd.type a W q.1 _ x la
     have lc:cs.length=(off+a.cells)+b.cells:=by rw[o];show off+(a.cells+b.cells)=_;omega
     obtain⟨z,ld,le⟩:=Mk R ap (off+a.cells) b Z q.2 cs lc fun f lf=>U f (List.mem_cons_of_mem _ lf)
     refine⟨(y,z),⟨(cs.drop off).take a.cells,cs.drop (off+a.cells),?_,?_,ld⟩,lb,le⟩
     ·rw[<-List.drop_drop,List.take_append_drop]
     ·rw[Y,vU W]at X;exact X
    ·cases h
   ·cases h
theorem xk{H:Type}{dX:TypeId×Value->H}{P:Program}{w:World}{spare:Nat->Bool}{held:Bool}:∀(d:Nat) (t:TypeId) (u:ag),cN P d t=some u->mV u=true->∀(lm:Nat) (cs:List Value) (x:DataW H×List MemPlace),
  DataW.trod dX P w 0 spare held lm t cs=some x->∃y:u.el,aJ w (fun _=>False) u cs y/\gF u y
 |0,_,_,h=>by cases h
 |d+1,t,u,h=>by
  intro Y lm cs x W
  unfold cN at h
  split at h
  ·rename_i i k hi q
   cases o:Nat.beq i.size 1<;>rw[o]at h<;>cases h
   obtain⟨n,rfl,_,lg⟩:=DataW.trod_int q W
   exact⟨n,rfl,lg⟩
  ·rename_i i hi q
   cases o:Nat.beq i.size 1<;>rw[o]at h<;>cases h
   obtain⟨b,rfl,_⟩:=DataW.trod_bool q W
   exact⟨b,rfl,trivial⟩
  ·rename_i i hi q
   cases o:Nat.beq i.size 1<;>rw[o]at h<;>cases h
   obtain⟨s,rfl,_,lg⟩:=DataW.trod_string q W
   have lb:List.length s.data.toList<=maxLen:=by rw[Array.length_toList];exact lg
   exact⟨s.data.toList,⟨rfl,lb⟩,lb⟩
  ·rename_i i e hi q
   cases o:Nat.beq i.size 1<;>rw[o]at h
   ·cases h
   rw[cond_true]at h
   split at h
   case h_2=>cases h
   rename_i v Z
   cases h
   rcases DataW.trod_slice q W with ⟨rfl,_⟩|⟨a,len,cap,lr,rest,n,_,rfl,_,_,ln,lo,lE,lc,_⟩
   ·exact⟨[],⟨none,0,[],rfl,Nat.le_refl _,by decide,fun _=>rfl,rfl,fun j u R=>by simp at R⟩,Nat.zero_le _,fun x W=>by cases W⟩
   ·have key:∀k,k<=len->∃(O:List v.el) (cells:List Value),O.length=k/\bL (aJ w (fun _=>False) v) cells O/\(∀y∈O,gF v y)/\cells.length=k*v.cells/\∀j u,cells[j]? =some u->w.cell? (a.add j)=some u:=by
     intro k
     induction k with
     |zero=>intro _;exact⟨[],[],rfl,rfl,(fun y lh=>by cases lh),by simp,fun j u R=>by simp at R⟩
     |succ k li=>
      intro ls
      obtain⟨O,cells,U,X,la,le,lj⟩:=li (by omega)
      have ld:=lc k (by omega)
      have:∃z,lr[k]? =some z:=⟨_,List.getElem?_eq_getElem (by omega)⟩
      obtain⟨z,lk⟩:=this
      rw[lk,Option.bind_eq_some_iff]at ld
      obtain⟨c,lt,lu⟩:=ld
      obtain⟨c1,c2⟩:=Tc lt
      obtain⟨y,lf,cS⟩:=xk d e v Z Y n c z lu
      rw[vU Z]at c1 c2
      refine⟨O++[y],cells++c,by simp[U],FU X lf,L9 la cS,by rw[List.length_append,le,c1,Nat.succ_mul],fun j u R=>?_⟩
      by_cases lp:j<cells.length
      ·rw[List.getElem?_append_left lp]at R;exact lj j u R
      ·rw[List.getElem?_append_right (by omega)]at R
       have:=c2 _ u R
       rw[add_add,le]at this
       rw[le]at lp
       rwa [show k*v.cells+(j-k*v.cells)=j by omega]at this
    obtain⟨O,cells,U,X,la,le,lj⟩:=key len (Nat.le_refl _)
    refine⟨O,⟨some a,cap,cells,by rw[U],by rw[U];exact ln,lo,(fun ll:some a=none=>by cases ll),X,fun j u R=>⟨a,rfl,lj j u R,fun h=>h⟩⟩,by rw[U];exact Nat.le_trans ln lo,la⟩
  ·rename_i i ap hi q
   split at h
   case h_2=>cases h
   rename_i v Z
   cases o:Nat.beq i.size v.cells<;>rw[o]at h<;>cases h
   obtain⟨xs,n,_,_,lb,lv,lc⟩:=DataW.trod_struct q W
   have lq:cs.length=u.cells:=by
    rw[lb]
    simp[Program.cellsOf,hi,Nat.eq_of_beq_eq_true o]
   have:=Mk (n:=n) (fun lw lx ly lz lA x' lB=>xk d lw lx ly lz n lA x' lB) ap.toList 0 u Z Y cs (by rw[lq,Nat.zero_add]) (by
    intro f lC
    obtain⟨j,R,e⟩:=List.getElem_of_mem lC
    have lD:j<ap.size:=by simpa using R
    have:=lc j f (by rw[Array.getElem?_eq_getElem lD,<-e];simp)
    rw[this]
    exact⟨_,List.getElem?_eq_getElem (by omega)⟩)
   rw[List.drop_zero]at this
   exact this
  ·rename_i i lF hi q
   cases o:Nat.beq i.size 1<;>rw[o]at h<;>cases h
   cases Y
  ·rename_i i n e hi q
   split at h
   case h_2=>cases h
   rename_i v Z
   cases o:Nat.beq i.size (n*v.cells)<;>rw[o]at h<;>cases h
   obtain⟨xs,m,_,_,lb,lv,lc⟩:=DataW.trod_array q W
   have lq:cs.length=n*v.cells:=by
    rw[lb]
    simp[Program.cellsOf,hi,Nat.eq_of_beq_eq_true o]
   have key:∀k,k<=n->∃O:List v.el,O.length=k/\bL (aJ w (fun _=>False) v) (cs.take (k*v.cells)) O/\∀y∈O,gF v y:=by
    intro k
    induction k with
    |zero=>intro _;exact⟨[],rfl,by simp[bL],fun y lh=>by cases lh⟩
    |succ k li=>
     intro ls
     obtain⟨O,U,X,la⟩:=li (by omega)
     have ld:=lc k (by omega)
     obtain⟨z,lk⟩:∃z,xs[k]? =some z:=⟨_,List.getElem?_eq_getElem (by omega)⟩
     rw[lk]at ld
     obtain⟨y,lf,cS⟩:=xk d e v Z Y m _ z ld
     rw[vU Z]at lf
     refine⟨O++[y],by simp[U],?_,L9 la cS⟩
     have ae:cs.take ((k+1)*v.cells)=cs.take (k*v.cells)++(cs.drop (k*v.cells)).take v.cells:=by
      rw[Nat.succ_mul,List.take_add]
     rw[ae]
     exact FU X lf
   obtain⟨O,U,X,la⟩:=key n (Nat.le_refl _)
   rw[List.take_of_length_le (by omega)]at X
   exact⟨O,⟨U,X⟩,U,la⟩
  ·rename_i i k e hi q
   cases o:Nat.beq i.size 1<;>rw[o]at h
   ·cases h
   rw[cond_true]at h
   split at h
   ·cases h;cases Y
   ·cases h
  ·rename_i i a b c hi q
   cases o:Nat.beq i.size 1<;>rw[o]at h
   ·cases h
   rw[cond_true]at h
   cases ll:(isNamed i.desc&&!Nat.beq b.size 0)<;>rw[ll]at h<;>cases h<;>cases Y
  ·rename_i i e hi q
   cases o:Nat.beq i.size 1<;>rw[o]at h<;>cases h
   cases Y
  ·cases h
theorem DP{H:Type}{dX:TypeId×Value->H}{P:Program}{w:World}{spare:Nat->Bool}{held:Bool}{r:Reach}{Y:Nat}{t:TypeId}{u:ag}(W:ty P t=some u)(X:mV u=true){v:Value}{d:DataW H}{ps:List MemPlace}
  (o:Value.okWide P w r Y t v)(ai:DataW.Trod dX P w 0 spare held t v d ps):∃x:u.el,ba w (fun _=>False) v u x/\gF u x:=by
 obtain⟨Z,la⟩:=ai
 obtain⟨x,R,lb⟩:=xk jA t u W X Z _ _ la
 refine⟨x,?_,lb⟩
 obtain⟨i,hi,ld,q⟩:=dk W
 cases O:u.agg with
 |true=>
  have:∃cs,v=.agg cs:=by
   have U:(∃ap,P.underlying t=some (.struct ap))\/∃n e,P.underlying t=some (.array n e):=by
    cases u with
    |unit=>obtain⟨ap,_,h,_⟩:=q;exact .inl ⟨ap,h⟩
    |pair a b=>obtain⟨ap,_,h,_⟩:=q;exact .inl ⟨ap,h⟩
    |arr n t=>obtain⟨e,_,h,_⟩:=q;exact .inr ⟨n,e,h⟩
    |_=>cases O
   unfold Value.okWide at o
   rcases U with ⟨ap,h⟩|⟨n,e,h⟩
   ·rw[h]at o;obtain⟨cs,e,_⟩:=o;exact⟨cs,e⟩
   ·rw[h]at o;obtain⟨cs,e,_⟩:=o;exact⟨cs,e⟩
  obtain⟨cs,rfl⟩:=this
  exact(eh O).2 ⟨cs.toList,by simp,R⟩
 |false=>
  refine(bA O).2 ?_
  have lc:v.cells.toList=[v]:=by
   cases u with
   |int k=>obtain⟨n,rfl⟩:=okWide_int q o;rfl
   |bool=>obtain⟨n,rfl⟩:=okWide_bool q o;rfl
   |str=>obtain⟨n,rfl⟩:=okWide_string q o;rfl
   |ab e=>obtain⟨le,_,U,_⟩:=q;obtain⟨a,l,c,rfl⟩:=okWide_slice U o;rfl
   |unit=>cases O
   |pair a b=>cases O
   |arr n t=>cases O
   |_=>cases X
  rw[lc]at R
  exact R
end Go.Ev
namespace Go.Ev
open Go
set_option linter.unusedVariables false
set_option maxRecDepth 100000
section
variable {t:gG} {en ce:Int} {s:r2} {f g h:List UInt8×Int}
theorem RL(o:iw 80000 t en ce=some (s,0))(k:r6 s s.2.1.1 f g h):mD 80000 t en ce=some (if f.2=0 then(if g.2=0 then(if h.2=0 then(h.1,0)else([],h.2))else([],g.2))else([],f.2)):=by
 have q:=e0
 unfold mD
 rw[show iw 80000 _ en ce=some (s,0)from o,Option.bind_some,if_neg (by simp)]
 unfold tk
 rw[Option.bind_some,jt (by simp only[List.length_cons,List.length_nil];omega),Option.bind_some]
 unfold tJ
 have:=SH k 79996
 show Option.bind (im 80000 [hU,fR,qw] s (79996+4) s.2.1.1 0) (fun v3=>some (v3.1,v3.2))=_
 rw[this]
 rfl
theorem Qe(o:iw 80000 t en ce=some (s,0))(k:r6 s s.2.1.1 f g h):uh 80000 t en ce=some (if f.2=0 then(if g.2=0 then(g.1,0)else([],g.2))else([],f.2)):=by
 unfold uh
 rw[show iw 80000 _ en ce=some (s,0)from o,Option.bind_some,if_neg (by simp)]
 unfold tB
 rw[Option.bind_some]
 unfold tJ
 have:=Pv k 79997
 show Option.bind (im 80000 [hU,fR] s (79997+3) s.2.1.1 0) (fun v3=>some (v3.1,v3.2))=_
 rw[this]
 rfl
def one(r:Int)(w v:List UInt8):List gV:=if v=w then[]else[(r,w,v,())]
theorem H0{r hi:Int}(w v:List UInt8)(o:r<hi):Way hi r w (one r w v) v:=by
 unfold one
 by_cases h:v=w
 ·rw[if_pos h];exact h.symm
 ·rw[if_neg h];exact⟨rfl,h,Int.le_refl _,o,rfl⟩
theorem I3(r:Int)(w v:List UInt8):(one r w v).length<=1:=by
 unfold one
 split<;>simp
theorem Mr{w:List UInt8}{out:List gV}{i:Int}{go:List UInt8->Int->List gV->Option (List gV×Int)}{v:List UInt8}(o:out.length<=10):nx w out i go v 0=go v (am (i+1)) (out++one (am (i-2)) w v):=by
 have q:=e0
 unfold nx yl one
 rw[if_neg (by simp)]
 by_cases h:v=w
 ·rw[if_neg (by simp[h]),if_pos h,List.append_nil]
 ·rw[if_pos (by simpa using h),if_neg h,jt (by simp only[List.length_cons,List.length_nil];omega),Option.bind_some]
theorem GV{w:List UInt8}{out:List gV}{i:Int}{go:List UInt8->Int->List gV->Option (List gV×Int)}{v:List UInt8}{e:Int}(o:e≠0):nx w out i go v e=some ([],e):=by
 unfold nx
 rw[if_pos (by simpa using o)]
theorem Ra(Z:iw 80000 t en ce=some (s,0))(k:r6 s s.2.1.1 f g h)(Y:h=dl t.1 t.2.2.2.2.2.1 g.1):Has (nt 80000 t en ce) fun v=>
  (f.2≠0->v=([],f.2))/\(f.2=0->g.2≠0->v=([],g.2))/\(f.2=0->g.2=0->h.2≠0->v=([],h.2))/\
  (f.2=0->g.2=0->h.2=0->v.2=0/\v.1.length<=100/\Way t.2.2.2.2.2.1.length (-2) s.2.1.1 v.1 h.1):=by
 have le:=e0
 obtain⟨aC,aA,bW⟩:=k
 unfold nt
 rw[show iw 80000 _ en ce=some (s,0)from Z,Option.bind_some,if_neg (by simp)]
 unfold tB
 rw[Option.bind_some]
 have la:∀n,Has (pf 80000 [hU,fR] (s,0) t (n+3) s.2.1.1 0 []) fun v=>
   (f.2≠0->v=([],f.2))/\(f.2=0->g.2≠0->v=([],g.2))/\(f.2=0->g.2=0->h.2≠0->v=([],h.2))/\
   (f.2=0->g.2=0->h.2=0->v.2=0/\v.1.length<=100/\Way t.2.2.2.2.2.1.length (-2) s.2.1.1 v.1 h.1):=by
  intro n
  unfold pf wY
  rw[if_pos (by decide),show aB [hU,fR] (0:Int)=some hU from rfl,Option.bind_some,if_pos (by decide)]
  rw[show nT 80000 _ s.2.1.1=some f from aC,Option.bind_some]
  by_cases O:f.2=0
  ·rw[O,Mr (by simp),show am ((0:Int)+1)=1 from by decide,show am ((0:Int)-2)=-2 from by decide]
   unfold pf wY
   rw[if_pos (by decide),show aB [hU,fR] (1:Int)=some fR from rfl,Option.bind_some,if_neg (by decide),if_pos (by decide)]
   rw[show my 80000 _ f.1=some g from aA,Option.bind_some]
   have lf:=I3 (-2) s.2.1.1 f.1
   by_cases U:g.2=0
   ·rw[U,Mr (by rw[List.nil_append];omega),show am ((1:Int)+1)=2 from by decide,show am ((1:Int)-2)=-1 from by decide]
    have bd:=I3 (-1) f.1 g.1
    unfold pf wY
    rw[if_neg (by decide)]
    refine aR (Rw (t.1.1,t.1.2.1,()) t.2.2.2.2.2.1 g.1) ?_
    rintro W ⟨lg,q,lh,lb⟩
    have q:W.2=h.2:=by rw[Y];exact q
    by_cases R:h.2=0
    ·rw[if_neg (by simp[q,R])]
     refine bO (by simp only[List.nil_append,List.length_append];omega) (aw ⟨fun o=>absurd rfl o,fun _ o=>absurd rfl o,fun _ _ o=>absurd R o,fun _ _ _=>⟨rfl,?_,?_⟩⟩)
     ·show(([]++one (-2) s.2.1.1 f.1++one (-1) f.1 g.1)++W.1).length<=100
      simp only[List.nil_append,List.length_append];omega
     ·show Way _ _ _ (([]++one (-2) s.2.1.1 f.1++one (-1) f.1 g.1)++W.1) _
      have X:=lb (by rw[q,R])
      have X:Way t.2.2.2.2.2.1.length 0 g.1 W.1 h.1:=by rw[Y];exact X
      have lc:=H0 (hi:=0) f.1 g.1 (r:=-1) (by omega)
      have ld:=H0 (hi:=-1) s.2.1.1 f.1 (r:=-2) (by omega)
      exact F0 (by omega) (F0 (by omega) ld (by omega) lc) (by omega) X
    ·rw[if_pos (by simp[q,R])]
     exact aw ⟨fun o=>absurd rfl o,fun _ o=>absurd rfl o,fun _ _ _=>by rw[q],fun _ _ o=>absurd o R⟩
   ·rw[GV U]
    exact aw ⟨fun o=>absurd rfl o,fun _ _=>rfl,fun _ o=>absurd o U,fun _ o=>absurd o U⟩
  ·rw[GV O]
   exact aw ⟨fun _=>rfl,fun o=>absurd o O,fun o=>absurd o O,fun o=>absurd o O⟩
 exact la 79997
end
theorem UQ{t:gG}{x:sY}{ce en:Int}{v3:List UInt8×Int}{L:List gV}{e4:Int}{fin:List UInt8}(le:L.length<=100):∀n (i:Nat) (O:Int) (o:List UInt8),i<=L.length->L.length-i<n->Way t.2.2.2.2.2.1.length O o (L.drop i) fin->-2<=O->(∀s,0<i->L[i-1]? =some s->s.1<O)->
  jD 80000 (L,e4) t x ce en v3 n o (i:Int)=pY 80000 t x ce en v3 ((!(fin==v3.1))||(decide (x.2.1<(0:Int)))):=by
 intro n
 induction n with
 |zero=>intro i _ _ _ h;omega
 |succ n X=>
  intro i O o lf lg q lh Y
  unfold jD wu
  by_cases h:i<L.length
  ·rw[if_pos (by simp only[decide_eq_true_eq];omega),fh h,Option.bind_some]
   rw[List.drop_eq_getElem_cons h]at q
   obtain⟨Z,la,li,lj,lb⟩:=q
   rw[show(!(L[i].2.1==o)||L[i].2.2.1==o)=false from by simp[Z,la]]
   unfold zj
   rw[if_neg (by simp),fh h,Option.bind_some,decide_eq_false (by omega)]
   unfold tP
   rw[if_neg (by simp),fh h,Option.bind_some,decide_eq_false (by omega)]
   unfold sP
   rw[if_neg (by simp)]
   have R:qr (L,e4) (i:Int) (jD 80000 (L,e4) t x ce en v3 n) false=pY 80000 t x ce en v3 ((!(fin==v3.1))||(decide (x.2.1<(0:Int)))):=by
    unfold qr
    rw[if_neg (by simp),fh h,Option.bind_some,bB (by omega)]
    refine X (i+1) (L[i].1+1) _ (by omega) (by omega) lb (by omega) fun s _ U=>?_
    rw[Nat.add_sub_cancel,List.getElem?_eq_getElem h]at U
    cases U
    omega
   unfold tt
   by_cases lc:0<i
   ·rw[if_pos (by simp only[decide_eq_true_eq];omega),fh h,Option.bind_some]
    have ld:am ((i:Int)-1)=((i-1:Nat):Int):=by rw[fL (by omega)];omega
    have W:i-1<L.length:=by omega
    rw[ld,fh W,Option.bind_some]
    have:=Y L[i-1] lc (by rw[List.getElem?_eq_getElem W])
    rw[decide_eq_false (by omega)]
    exact R
   ·rw[if_neg (by simp only[decide_eq_true_eq];omega)]
    exact R
  ·rw[if_neg (by simp only[decide_eq_true_eq];omega)]
   rw[List.drop_of_length_le (by omega)]at q
   have q:o=fin:=q
   rw[q]
theorem SV(t:gG):Has (yc 80000 t) fun _=>True:=by
 have o:∀b,Has (sc t b) fun _=>True:=by
  intro b
  unfold sc GS wb
  exact aD (fun _=>aw trivial) fun _=>aw trivial
 have q:∀b,Has (sG t b) fun _=>True:=by
  intro b
  unfold sG L3
  exact aD (fun _=>o _) fun _=>o _
 have l1:∀n (c:Int) (i:Nat),i<=60->60-i<n->Has (tK t n c (i:Int)) fun _=>True:=by
  intro n
  induction n with
  |zero=>intro _ i _ h;omega
  |succ n O=>
   intro c i R U
   unfold tK Kf Ht
   refine aD (fun h=>?_) fun _=>?_
   ·simp only[Bool.and_eq_true,decide_eq_true_eq]at h
    refine bz (by omega) fun x _=>?_
    rw[bB (by omega)]
    exact O _ (i+1) (by omega) (by omega)
   ·unfold GI
    exact bt (fun _=>q _) fun _=>q _
 exact l1 80000 0 0 (Nat.zero_le _) (by omega)
def AW:Nat:=80000
theorem Qg:zL AW=some true:=by decide+kernel
theorem TZ{t:gG}(lc:p0 t)(en ce:Int):oJ 80000 t en ce=some true:=by
 unfold oJ
 rw[show zL 80000=_ from Qg,Option.bind_some,if_neg (by simp)]
 obtain⟨v2,lh,_⟩:=SV t
 rw[show yc 80000 _=_ from lh,Option.bind_some]
 by_cases o:v2=true
 ·rw[if_pos o]
 rw[if_neg o]
 obtain⟨⟨s,e⟩,U,O⟩:=Sn lc en ce
 by_cases W:e=0
 ·subst W
  have O:=O rfl
  obtain⟨f,g,h,k,⟨p,X,li⟩,Y,ld⟩:=VV lc O
  obtain⟨v4,e4,lj,lk,ll,lm⟩:=Ra U k ld
  rw[show mD 80000 _ en ce=_ from RL U k,Option.bind_some,show nt 80000 _ en ce=_ from e4,Option.bind_some]
  by_cases q:f.2=0
  ·by_cases o:g.2=0
   ·by_cases R:h.2=0
    ·rw[if_pos q,if_pos o,if_pos R,if_neg (by simp)]
     obtain⟨ln,cS,eU⟩:=lm q o R
     have eC:=O.eC
     have ae:=O.ae
     have ny:0<=s.2.1.2.1:=O.ny
     have ar:s.2.1.2.1<(t.2.2.2.1.length:Int):=O.ar
     rw[show((v4.2 !=(0:Int))||decide (en<(0:Int)))=false from by simp[ln];omega]
     unfold wT yN
     rw[if_neg (by simp only[Bool.or_eq_true,decide_eq_true_eq,Bool.false_eq_true,false_or];omega)]
     obtain⟨i,hi⟩:=Int.eq_ofNat_of_zero_le eC
     have Z:=O.x
     have le:i<t.2.2.2.2.1.length:=by omega
     rw[hi,Int.toNat_natCast,List.getElem?_eq_getElem le]at Z
     have Z:=Option.some.inj Z
     rw[hi,fh le,Option.bind_some,Z]
     have:=UQ (t:=t) (x:=s.2.1) (ce:=ce) (en:=en) (v3:=(h.1,0)) (e4:=v4.2) cS 80000 0 (-2) s.2.1.1 (Nat.zero_le _) (by omega) eU (Int.le_refl _) (fun s lq=>by omega)
     rw[hi]at this
     refine Eq.trans this ?_
     rw[show(!(h.1==(h.1,(0:Int)).1)||decide (s.2.1.2.1<(0:Int)))=false from by simp;omega]
     unfold pY xw
     rw[if_neg (by simp only[Bool.or_eq_true,decide_eq_true_eq,Bool.false_eq_true,false_or];omega)]
     obtain⟨j,lf⟩:=Int.eq_ofNat_of_zero_le ny
     have lg:j<t.2.2.2.1.length:=by omega
     rw[lf,Int.toNat_natCast,List.getElem?_eq_getElem lg]at X
     have X:=Option.some.inj X
     rw[lf,fh lg,Option.bind_some,X,show nG 80000 _ t.2.1 p ce s.2.1.1=some f from li,Option.bind_some]
     have lb:qL 80000 t (i:Int) ce (h.1,0) 0 g.1=some true:=by
      unfold qL
      rw[<-hi,show uh 80000 _ en ce=_ from Qe U k,Option.bind_some,if_pos q,if_pos o]
      rw[show kH 80000 _ t.2.2.2.2.2.1 g.1=_ from DE t.1 _ _,Option.bind_some,<-ld]
      unfold zo Ab zy xi
      simp[R]
     unfold za
     by_cases la:t.2.2.1=0
     ·rw[if_pos la]at Y
      rw[if_neg (by simp[la]),q]
      rw[Y]at lb
      exact lb
     ·rw[if_neg la]at Y
      rw[if_pos (by simp[q,la]),show mW 80000 _ f.1 t.2.1 t.2.2.1=some g from Y,Option.bind_some,o]
      exact lb
    ·rw[if_pos q,if_pos o,if_neg R,ll q o R,if_pos (by simpa using R)]
     unfold pO ph
     simp
   ·rw[if_pos q,if_neg o,lk q o,if_pos (by simpa using o)]
    unfold pO ph
    simp
  ·rw[if_neg q,lj q,if_pos (by simpa using q)]
   unfold pO ph
   simp
 ·have lo:mD 80000 t en ce=some ([],e):=by
   unfold mD
   rw[show iw 80000 _ en ce=some (s,e)from U,Option.bind_some,if_pos (by simpa using W)]
  have lp:nt 80000 t en ce=some ([],e):=by
   unfold nt
   rw[show iw 80000 _ en ce=some (s,e)from U,Option.bind_some,if_pos (by simpa using W)]
  rw[show mD 80000 _ en ce=_ from lo,Option.bind_some,show nt 80000 _ en ce=_ from lp,Option.bind_some,if_pos (by simpa using W)]
  unfold pO ph
  simp
theorem Xp{t:gG}(k:gF js t):p0 t:=by
 intro p q
 have o:=k.2.2.2.1.2 p q
 refine⟨o.1,fun c O x R=>?_⟩
 have U:=o.2.1.2 c O
 have W:=U.2.1.2 x R
 exact W.2.1
theorem R1(O:gG)(o q:Int)(R:gF js O)(aC:gF (.int .i64) o)(aA:gF (.int .i64) q):oJ AW O o q=some true:=TZ (Xp R) o q
end Go.Ev
