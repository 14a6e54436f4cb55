/- Plain laws: names, runes counted, patterns of roots, affixes, paradigms: each check comes to an end. -/
import Derived.Test.YteopobecmacgdaaGreatDoorMM9
import Derived.Test.YteopobecmacgdaaGreatDoorMM10
import Derived.Test.YteopobecmacgdaaGreatDoorMM5
import Derived.OpenShut
import Derived.WideShapes
import Derived.Test.YteopobecmacgdaaGreatDoorTyA
set_option linter.unusedSectionVars false
set_option linter.unusedVariables false
set_option linter.unusedSimpArgs false
namespace Go.Ev
open Go
set_option linter.unusedVariables false
abbrev GJ:Type:=Int×List UInt8×List UInt8×Int×Unit
abbrev WL:Type:=Int×List GJ×Unit
abbrev py:Type:=List UInt8×List WL×Unit
abbrev rV:Type:=List UInt8×Int×List UInt8×Int×Unit
abbrev hZ:Type:=br×Int×Int×List py×List rV×List fl×List (List UInt8)×Unit
theorem PN{s:List UInt8}(O:s.length<=9223372036854775807):∀n (i:Nat),i<=s.length->s.length-i<n->Has (ul s n (i:Int)) fun _=>True:=by
 intro n
 induction n with
 |zero=>intro i _ h;omega
 |succ n o=>
  intro i R U
  unfold ul HQ
  refine bO (fun q=>?_) fun _=>az trivial
  rw[yC]at q
  refine bX (by rw[yC];omega) fun x _=>?_
  unfold Ni M4 zm MG
  rw[bG (by omega)]
  have:=o (i+1) (by omega) (by omega)
  refine aQ (fun _=>?_) fun _=>?_<;>exact aQ (fun _=>az trivial) fun _=>this
theorem PX{s:List UInt8}(o:s.length<=9223372036854775807):Has (w6 80000 s) fun _=>True:=by
 unfold w6 xG
 exact PN o _ 0 (Nat.zero_le _) (by omega)
theorem acl{s:List UInt8}(O:s.length<=9223372036854775807):∀n p (c:Nat),p<=s.length->s.length-p<n->c<=p->Has (pc s n (c:Int) p) fun v=>∃m:Nat,v=(m:Int)/\s.length+4*c<=4*m+p:=by
 intro n
 induction n with
 |zero=>intro p c _ h;omega
 |succ n o=>
  intro p c R U W
  unfold pc Ey
  refine bO (fun q=>?_) fun _=>az ⟨c,rfl,by omega⟩
  have Y:=ju s p q
  rw[bG (by omega),iR]
  refine jZ (o _ (c+1) (by omega) (by omega) (by omega)) ?_
  rintro v ⟨m,e,Z⟩
  exact⟨m,e,by omega⟩
theorem PR{s:List UInt8}(o:s.length<=9223372036854775807):Has (ma 80000 s) fun v=>∃m:Nat,v=(m:Int)/\s.length<=4*m:=by
 unfold ma tr
 refine jZ (acl o _ 0 0 (Nat.zero_le _) (by omega) (Nat.le_refl _)) ?_
 rintro v ⟨m,e,q⟩
 exact⟨m,e,by omega⟩
theorem Qz(s:List UInt8×List UInt8×Unit)(a:br)(O:s.2.1.length<=256):∀n p,p<=s.2.1.length->s.2.1.length-p<n->Has (sM 80000 s a n p) fun _=>True:=by
 intro n
 induction n with
 |zero=>intro p _ h;omega
 |succ n o=>
  intro p R U
  unfold sM IK
  refine bO (fun q=>?_) fun _=>az trivial
  have W:=ju s.2.1 p q
  refine bn (gC (sw _ _)) fun v _=>?_
  unfold MM
  refine aQ (fun _=>az trivial) fun _=>?_
  rw[iR]
  exact o _ (by omega) (by omega)
theorem MB(s:List UInt8×List UInt8×Unit)(a:br){t:Bool}(o:t=false->s.2.1.length<=256):Has (sa 80000 s a t) fun _=>True:=by
 unfold sa
 refine aQ (fun _=>az trivial) fun h=>?_
 have:=o h
 exact Qz s a this 80000 0 (Nat.zero_le _) (by omega)
theorem NN(s:List UInt8×List UInt8×Unit)(a:br)(o:s.2.1.length<=9223372036854775807)(t:Bool):Has (uE 80000 s a t) fun _=>True:=by
 unfold uE
 refine aQ (fun _=>az trivial) fun _=>?_
 refine bn (Q:=fun _=>True) (az trivial) fun v _=>?_
 refine aQ (fun _=>MB s a fun h=>nomatch h) fun _=>?_
 refine bn (PR o) ?_
 rintro v ⟨m,rfl,q⟩
 exact MB s a fun h=>by have:=of_decide_eq_false h;omega
theorem RG(a:br){w:List UInt8}(o:w.length<=9223372036854775807):Has (wg 80000 a ([],w,())) fun _=>True:=by
 unfold wg
 rw[show eK 80000 ((a.1,a.2.1,()):br)=some (if cI a then 0 else 7)from kb a,Option.bind_some]
 refine aQ (fun _=>az trivial) fun _=>?_
 refine bO (fun _=>NN _ a o true) fun _=>?_
 refine bn (Q:=fun _=>True) ⟨[],rfl,trivial⟩ fun v _=>NN _ a o _
theorem Md(a:br){x:GJ}(o:x.2.1.length<=9223372036854775807)(t1 t2:Bool):Has (uQ 80000 x t1 a t2) fun _=>True:=by
 unfold uQ
 refine aQ (fun _=>?_) fun _=>aQ (fun _=>?_) fun _=>aQ (fun _=>?_) fun _=>aQ (fun _=>?_) fun _=>aQ (fun _=>?_) fun _=>aQ (fun _=>?_) fun _=>az trivial
 ·unfold JV Nn zx
  exact aQ (fun _=>az trivial) fun _=>az trivial
 ·unfold LV Mh yY
  exact aQ (fun _=>az trivial) fun _=>az trivial
 ·unfold IS J7 xl
  exact aQ (fun _=>az trivial) fun _=>az trivial
 ·exact az trivial
 ·refine bn (RG (a.1,a.2.1,()) o) fun v _=>az trivial
 ·exact az trivial
theorem PA(a:br){x:GJ}(o:x.2.1.length<=9223372036854775807):Has (yH 80000 a x) fun _=>True:=by
 unfold yH A4
 refine bn (B5 _ _) fun v1 _=>?_
 refine aQ (fun _=>bn (B5 _ _) fun v3 _=>Md a o _ _) fun _=>Md a o _ _
def EE(p:py):Prop:=p.1.length<=9223372036854775807/\∀c∈p.2.1,∀x∈c.2.1,x.2.1.length<=9223372036854775807
theorem Vg{p:py}(o:EE p)(Z:p.2.1.length<=256):∀n (i:Nat) a2 a3,i<=p.2.1.length->p.2.1.length-i<n->Has (qx 80000 p n (i:Int) a2 a3) fun _=>True:=by
 intro n
 induction n with
 |zero=>intro i _ _ _ h;omega
 |succ n q=>
  intro i a2 a3 la lb
  unfold qx Oi
  refine bO (fun lc=>?_) fun _=>az trivial
  refine bX (by omega) fun x O=>?_
  have R:x∈p.2.1:=O▸List.getElem_mem _
  refine bO (fun _=>az trivial) fun ld=>?_
  have U:∀m (j:Nat),j<=x.2.1.length->x.2.1.length-j<m->Has (ut 80000 x a2 a3 (qx 80000 p n) (i:Int) m (j:Int)) fun _=>True:=by
   intro m
   induction m with
   |zero=>intro j _ h;omega
   |succ m W=>
    intro j g1 g2
    unfold ut HT
    refine bO (fun le=>?_) fun _=>?_
    ·refine bX (by omega) fun y Y=>?_
     refine bn (PA _ (o.2 x R y (Y▸List.getElem_mem _))) fun v _=>?_
     refine aQ (fun _=>az trivial) fun _=>?_
     rw[bG (by omega)]
     exact W (j+1) (by omega) (by omega)
    ·rw[bG (by omega)]
     exact q (i+1) a2 a3 (by omega) (by omega)
  exact U 80000 0 (Nat.zero_le _) (by omega)
theorem abA(a:br){p:py}(q:EE p):Has (vN 80000 a p) fun e=>e=0->p.2.1.length<=256:=by
 unfold vN
 rw[show eK 80000 ((a.1,a.2.1,()):br)=some (if cI a then 0 else 7)from kb a,Option.bind_some]
 refine aQ (fun h=>az fun o=>by rw[o]at h;cases h) fun _=>?_
 refine bn (PX q.1) fun v _=>?_
 unfold IT KM
 refine aQ (fun _=>az fun o=>nomatch o) fun h=>?_
 simp only[Bool.or_eq_false_iff,decide_eq_false_iff_not]at h
 exact jZ (Vg q (by omega) 80000 0 _ _ (Nat.zero_le _) (by omega)) fun _ _ _=>by omega
end Go.Ev
namespace Go.Ev
open Go
set_option linter.unusedVariables false
theorem SV(t:hZ)(x:rV):Has (wu 80000 t x) fun _=>True:=by
 unfold wu
 refine bn (B5 _ _) fun v1 _=>?_
 refine aQ (fun _=>az trivial) fun _=>?_
 have o:∀b,Has (sv x b) fun _=>True:=by
  intro b
  unfold sv IZ Kb
  exact aQ (fun _=>az trivial) fun _=>az trivial
 unfold LS
 refine aQ (fun _=>az trivial) fun _=>?_
 refine bO (fun _=>o _) fun _=>?_
 exact bn (Q:=fun _=>True) (az trivial) fun v2 _=>o _
theorem VO{s:List UInt8}(O:s.length<=70000):Has (yS 80000 s ()) fun _=>True:=by
 have l1:∀n p,p<=s.length->s.length-p<n->Has (tY 80000 s true n p) fun _=>True:=by
  intro n
  induction n with
  |zero=>intro p _ h;omega
  |succ n o=>
   intro p R U
   unfold tY NE
   refine bO (fun q=>?_) fun _=>az trivial
   have W:=ju s p q
   refine bn (Q:=fun _=>True) (az trivial) fun v _=>?_
   refine aQ (fun _=>az trivial) fun _=>?_
   rw[iR]
   exact o _ (by omega) (by omega)
 unfold yS CS FC
 refine bn (Q:=fun _=>True) ?_ fun _ _=>az trivial
 refine bn (Q:=fun _=>True) ?_ fun _ _=>az trivial
 exact l1 80000 0 (Nat.zero_le _) (by omega)
theorem P8(l:List (List UInt8)):Has (zk 80000 l) fun _=>True:=by
 unfold zk
 refine bO (fun _=>az trivial) fun O=>?_
 have l1:∀n (i:Nat) m,i<=l.length->l.length-i<n->Has (pP 80000 l n (i:Int) m) fun _=>True:=by
  intro n
  induction n with
  |zero=>intro i _ _ h;omega
  |succ n q=>
   intro i m R U
   unfold pP L1
   refine bO (fun W=>?_) fun _=>az trivial
   refine bX (by omega) fun x Y=>?_
   have o:∀b,Has (tm (pP 80000 l n) (i:Int) m x b) fun _=>True:=by
    intro b
    unfold tm
    refine aQ (fun _=>az trivial) fun _=>?_
    rw[bG (by omega)]
    exact q (i+1) _ (by omega) (by omega)
   unfold No H0
   refine aQ (fun _=>o _) fun h=>?_
   simp only[Bool.or_eq_false_iff,decide_eq_false_iff_not]at h
   exact bn (VO (by omega)) fun v _=>o _
 exact l1 80000 0 _ (Nat.zero_le _) (by omega)
def xp(t:hZ):Prop:=∀p∈t.2.2.2.1,EE p
theorem PI(t:hZ)(W:t.2.2.2.1.length<=4096)(o:∀p∈t.2.2.2.1,p.2.1.length<=256)(t6:List (List UInt8))(t7:List cZ)(t8 t9:Int)(t10:List py)(t11:List rV)(t12:List fl)(t13:List (List UInt8)):
  ∀n (i:Nat),i<=t.2.2.2.1.length->t.2.2.2.1.length-i<n->Has (rE 80000 t n (i:Int) t6 t7 t8 t9 t10 t11 t12 t13) fun _=>True:=by
 intro n
 induction n with
 |zero=>intro i _ h;omega
 |succ n q=>
  intro i g1 g2
  unfold rE I7
  refine bO (fun Y=>?_) fun _=>az trivial
  refine bX (by omega) fun x O=>?_
  have Z:=o x (O▸List.getElem_mem _)
  have R:∀m (j:Nat),j<=x.2.1.length->x.2.1.length-j<m->Has (tg x t13 (rE 80000 t n) (i:Int) t6 t7 t8 t9 t10 t11 t12 m (j:Int)) fun _=>True:=by
   intro m
   induction m with
   |zero=>intro j _ h;omega
   |succ m U=>
    intro j f1 f2
    unfold tg Mv
    refine bO (fun la=>?_) fun _=>?_
    ·refine bX (by omega) fun y lb=>?_
     refine cf (by omega) ?_
     refine aQ (fun _=>az trivial) fun _=>?_
     rw[bG (by omega)]
     exact U (j+1) (by omega) (by omega)
    ·rw[bG (by omega)]
     exact q (i+1) (by omega) (by omega)
  exact R 80000 0 (Nat.zero_le _) (by omega)
theorem Xa(t:hZ)(o:t.2.2.2.1.length<=4096)(R:t.2.2.2.2.1.length<=4096)(q:∀p∈t.2.2.2.1,p.2.1.length<=256):
  ∀n (i:Nat),i<=t.2.2.2.2.1.length->t.2.2.2.2.1.length-i<n->Has (uc 80000 t n (i:Int)) fun _=>True:=by
 intro n
 induction n with
 |zero=>intro i _ h;omega
 |succ n O=>
  intro i g1 g2
  unfold uc Mx
  refine bO (fun U=>?_) fun _=>?_
  ·refine bX (by omega) fun x W=>?_
   refine bn (SV _ _) fun v _=>?_
   refine aQ (fun _=>az trivial) fun _=>?_
   rw[bG (by omega)]
   exact O (i+1) (by omega) (by omega)
  ·refine bn (Kf _ _) fun v4 _=>?_
   refine aQ (fun _=>az trivial) fun _=>?_
   refine bn (P8 _) fun v5 _=>?_
   refine aQ (fun _=>az trivial) fun _=>?_
   exact PI t o q _ _ _ _ _ _ _ _ 80000 0 (Nat.zero_le _) (by omega)
theorem Ud{t:hZ}(U:xp t)(W:t.2.2.2.1.length<=4096):
  ∀n (i:Nat),i<=t.2.2.2.1.length->t.2.2.2.1.length-i<n->(∀j p,j<i->t.2.2.2.1[j]? =some p->p.2.1.length<=256)->Has (ud 80000 t n (i:Int)) fun _=>True:=by
 intro n
 induction n with
 |zero=>intro i _ h;omega
 |succ n Y=>
  intro i g1 g2 g3
  unfold ud Ma
  refine bO (fun lc=>?_) fun ld=>?_
  ·refine bX (by omega) fun x O=>?_
   refine bn (abA _ (U x (O▸List.getElem_mem _))) fun v Z=>?_
   refine aQ (fun _=>az trivial) fun la=>?_
   have lb:=Z (by simpa using la)
   rw[bG (by omega)]
   refine Y (i+1) (by omega) (by omega) fun j p R o=>?_
   rcases Nat.lt_or_ge j i with q|q
   ·exact g3 j p q o
   ·have:j=i:=by omega
    subst this
    rw[List.getElem?_eq_getElem (by omega),O]at o
    cases o
    exact lb
  ·refine bO (fun _=>az trivial) fun le=>?_
   refine Xa t W (by omega) (fun p o=>?_) 80000 0 (Nat.zero_le _) (by omega)
   obtain⟨j,R,e⟩:=List.getElem_of_mem o
   exact g3 j p (by omega) (by rw[List.getElem?_eq_getElem R,e])
theorem TS{t:hZ}(q:xp t):Has (kH 80000 t) fun e=>e=0->cI t.1=true:=by
 unfold kH
 rw[show eK 80000 ((t.1.1,t.1.2.1,()):br)=some (if cI t.1 then 0 else 7)from kb t.1,Option.bind_some]
 refine aQ (fun h=>az fun o=>by rw[o]at h;cases h) fun h=>?_
 have O:cI t.1=true:=by
  cases aJ:cI t.1 with
  |true=>rfl
  |false=>rw[aJ]at h;cases h
 refine cf (by omega) ?_
 unfold Js
 refine aQ (fun _=>az fun o=>nomatch o) fun _=>?_
 refine bO (fun _=>az fun o=>nomatch o) fun R=>?_
 exact jZ (Ud q (by omega) 80000 0 (Nat.zero_le _) (by omega) fun j _ U=>by omega) fun _ _ _=>O
end Go.Ev
namespace Go.Ev
open Go
set_option linter.unusedVariables false
abbrev fg:Type:=Int×Int×Unit
abbrev s6:fg->fg->Bool:=aR mJ
theorem Mq(x y:fg):s6 x y=true↔x=y:=by
 obtain⟨a,b,_⟩:=x
 obtain⟨c,d,_⟩:=y
 show((a==c)&&((b==d)&&true))=true↔_
 simp
/-! Maps as0 lists. -/
section
variable {α β:Type} {eq:α->α->Bool}
theorem Ok(q:∀x y,eq x y=true↔x=y)(k:α)(v:β):∀l:List (α×β),(l.map (·.1)).Nodup->((cn eq l k v).map (·.1)).Nodup/\∀x,x∈(cn eq l k v).map (·.1)↔x=k\/x∈l.map (·.1)
 |[],_=>by simp[cn]
 |p::l,o=>by
  rw[List.map_cons,List.nodup_cons]at o
  obtain⟨i1,i2⟩:=Ok q k v l o.2
  unfold cn
  by_cases h:eq k p.1=true
  ·rw[if_pos h]
   have e:=(q _ _).1 h
   subst e
   simp only[List.map_cons,List.nodup_cons,List.mem_cons]
   exact⟨o,fun x=>by simp⟩
  ·rw[if_neg h]
   have O:k≠p.1:=fun e=>h ((q _ _).2 e)
   simp only[List.map_cons,List.nodup_cons,List.mem_cons]
   refine⟨⟨fun R=>?_,i1⟩,fun x=>by rw[i2];constructor<;>(intro h;rcases h with h|h|h<;>simp[h])⟩
   rcases(i2 p.1).1 R with e|e
   ·exact O e.symm
   ·exact o.1 e
end
def mU:List Int->Int
 |[]=>0
 |x::l=>x+mU l
theorem JK{α:Type}{eq:α->α->Bool}(k:α)(v:Int):∀l:List (α×Int),mU ((cn eq l k v).map (·.2))=mU (l.map (·.2))-(bM eq l k).getD 0+v
 |[]=>by simp[cn,bM,mU]
 |p::l=>by
  unfold cn bM
  by_cases h:eq k p.1=true
  ·rw[if_pos h,if_pos h]
   simp only[List.map_cons,mU,Option.getD_some]
   omega
  ·rw[if_neg h,if_neg h]
   have:=JK (eq:=eq) k v l
   simp only[List.map_cons,mU]
   omega
/-! Counting. -/
def gn(m:List (fg×Int))(p:fg):Int:=(bM s6 m p).getD 0
def bump(m:List (fg×Int))(p:fg):List (fg×Int):=cn s6 m p (ag (gn m p+1))
structure uA(m:List (fg×Int))(ps:List fg):Prop where
 sk:(m.map (·.1)).Nodup
 keys:∀p,p∈m.map (·.1)↔p∈ps
 pos:∀p∈ps,1<=gn m p
 Iy:∀p,0<=gn m p/\gn m p<=ps.length
 sum:mU (m.map (·.2))=ps.length
theorem uA.nil:uA [] []:=⟨by simp,fun p=>by simp,fun p o=>(by cases o),fun p=>by simp[gn,bM],rfl⟩
theorem uA.bump{m:List (fg×Int)}{ps:List fg}(h:uA m ps)(p:fg)(Y:ps.length<1000000):uA (bump m p) (ps++[p]):=by
 obtain⟨R,U⟩:=Ok Mq p (ag (gn m p+1)) m h.sk
 have Z:=h.Iy p
 have q:ag (gn m p+1)=gn m p+1:=fO (by omega)
 have O:∀o,gn (Ev.bump m p) o=if o=p then gn m p+1 else gn m o:=by
  intro o
  obtain⟨g1,g2⟩:=nG Mq p o (ag (gn m p+1)) m
  unfold Ev.bump
  unfold gn at*
  by_cases e:o=p
  ·rw[if_pos e,g1 e,q];rfl
  ·rw[if_neg e,g2 e]
 refine⟨R,fun o=>?_,fun o aJ=>?_,fun o=>?_,?_⟩
 ·show o∈(cn s6 m p _).map (·.1)↔_
  rw[U o,h.keys o,List.mem_append,List.mem_singleton]
  exact Or.comm
 ·rw[O]
  split
  ·omega
  ·rename_i W
   rcases List.mem_append.1 aJ with aJ|aJ
   ·exact h.pos o aJ
   ·exact absurd (by simpa using aJ) W
 ·rw[O]
  simp only[List.length_append,List.length_cons,List.length_nil]
  have:=h.Iy o
  split<;>omega
 ·show mU ((cn s6 m p _).map (·.2))=_
  rw[JK,h.sum,q]
  simp only[List.length_append,List.length_cons,List.length_nil]
  unfold gn
  omega
/-! Places of letters. -/
def pos(o:List Int)(r:Int):Int:=if r∈o then(o.idxOf r:Int)+1 else 0
/-! The comparison. -/
def aaf(f aa:fg->Int)(ba:fg->Int)(x y:fg):Prop:=f y<f x\/f y=f x/\(aa x<aa y\/aa x=aa y/\ba x<ba y)
end Go.Ev
namespace Go.Ev
open Go
set_option linter.unusedVariables false
structure acr(a:br)(ps:List fg)(v:List fg):Prop where
 sk:v.Nodup
 mem:∀p,p∈v↔p∈ps
 TU:v.Pairwise (fun x y=>gn (ps.foldl bump []) y<=gn (ps.foldl bump []) x)
 sum:mU (v.map (gn (ps.foldl bump [])))=ps.length
 len:v.length<=ps.length
 perm:v.Perm ((ps.foldl bump []).map (·.1))
 ord:v.Pairwise (fun x y=>¬aaf (gn (ps.foldl bump [])) (fun p=>pos (a.2.1.map (·.1)) p.1) (fun p=>pos (a.2.1.map (·.1)) p.2.1) y x)
end Go.Ev
namespace Go.Ev
open Go
set_option linter.unusedVariables false
def Func(ps:List fg):Prop:=∀p∈ps,∀o∈ps,p.1≠0->p.1=o.1->p.2.1=o.2.1
structure Kv(m:List (Int×Int))(seen:List fg):Prop where
 has:∀p∈seen,p.1≠0->bM (aR (.int .i32)) m p.1=some p.2.1
 from_:∀(r v:Int),bM (aR (.int .i32)) m r=some v->∃p∈seen,p.1=r/\p.2.1=v/\r≠0
theorem Kv.func{m:List (Int×Int)}{ps:List fg}(h:Kv m ps):Func ps:=fun p O R aJ o e=>by
 have q:=h.has p O o
 have U:=h.has R aJ (e▸o)
 rw[e]at q
 exact Option.some.inj (q.symm.trans U)
def Dp(ps:List fg):Prop:=∃p∈ps,∃o∈ps,p.1≠0/\p.1=o.1/\p.2.1≠o.2.1
theorem Dp.mono{ps o:List fg}(h:Dp ps)(q:∀p∈ps,p∈o):Dp o:=by
 obtain⟨p,R,O,aJ,r⟩:=h
 exact⟨p,q p R,O,q O aJ,r⟩
/-! The odd ones. -/
structure acn(m:List (Int×Int))(seen:List fg):Prop where
 has:∀p∈seen,(bM (aR (.int .i32)) m p.1).isSome=true
 from_:∀(r v:Int),bM (aR (.int .i32)) m r=some v->∃p∈seen,p.1=r/\p.2.1=v
end Go.Ev
namespace Go.Ev
open Go
set_option linter.unusedVariables false
end Go.Ev
namespace Go.Ev
open Go
set_option linter.unusedVariables false
theorem Uz(s:List UInt8)(p i:Nat):bx (s.drop p) i=bx s (p+i):=by
 unfold bx
 simp[List.getD_eq_getElem?_getD]
theorem Sh(s:List UInt8)(p i:Nat):g (s.drop p) i=g s (p+i):=by
 unfold g
 simp only[Uz,List.length_drop,<-Nat.add_assoc,Nat.sub_sub]
theorem Td{s:List UInt8}{p:Nat}(h:p<s.length):Lib.decodeGo ⟨(s.drop p).toArray⟩=g s p:=by
 unfold Lib.decodeGo
 rw[if_neg (by simp[ByteArray.size];omega),xm,Sh]
 rfl
theorem EW{s:List UInt8}{p:Nat}:bad s p=true↔(g s p).1=65533/\(g s p).2=1:=by
 unfold bad
 simp
def pQ(s:List UInt8)(n p:Nat)(v:List kW):Prop:=
 match n,v with
 |_,[]=>s.length<=p
 |0,_::_=>False
 |n+1,x::v=>p<s.length/\x.1=((g s p).1:Int)/\x.2.2.2.1=bad s p/\pQ s n (p+(g s p).2) v
theorem aaA{s:List UInt8}(la:s.length<=65536):∀n p (t:List kW),p<=s.length->s.length-p<n->t.length+(s.length-p)<=200000->∃v,mX 80000 s n p t=some (t++v)/\pQ s n p v/\v.length<=s.length-p:=by
 intro n
 induction n with
 |zero=>intro p t _ h;omega
 |succ n Y=>
  intro p t lb lc ld
  have le:=wE
  unfold mX Dl
  by_cases h:p<s.length
  ·rw[if_pos (by simpa using h)]
   have o:∀a b,b=bad s p->∃v,nn 80000 s p t (mX 80000 s n) a b=some (t++v)/\pQ s (n+1) p v/\v.length<=s.length-p:=by
    intro a b Z
    unfold nn qL
    rw[gz (by simp only[List.length_cons,List.length_nil];omega)];simp only[Option.bind_some]
    rw[if_neg (by simp)]
    have lf:=ju s p h
    obtain⟨v,e,W,q⟩:=Y (p+jd s p) (t++[(gJ s p,(p:Int),a,b,())]) (by rw[iR];omega) (by rw[iR];omega) (by rw[iR];simp only[List.length_append,List.length_cons,List.length_nil];omega)
    refine⟨(gJ s p,(p:Int),a,b,())::v,?_,⟨h,Ps s p,Z,?_⟩,?_⟩
    ·rw[e,List.append_assoc];rfl
    ·rw[iR]at W;exact W
    ·rw[iR]at q
     simp only[List.length_cons]
     omega
   obtain⟨l,q⟩:=Ks 80000 (gJ s p)
   rw[q];simp only[Option.bind_some]
   rw[Ps]
   by_cases O:(g s p).1=65533
   ·rw[if_pos (by rw[O];rfl),kh (by omega)];simp only[Option.bind_some]
    unfold utf8_DecodeRuneInString
    simp only[Option.bind_some]
    rw[Td h]
    by_cases R:(g s p).2=1
    ·rw[if_pos (by rw[R];rfl)]
     exact o _ _ (EW.2 ⟨O,R⟩).symm
    ·rw[if_neg (by simp only[beq_iff_eq];omega)]
     refine o _ _ (Eq.symm ?_)
     rw[<-Bool.not_eq_true,EW]
     exact fun U=>R U.2
   ·rw[if_neg (by simp only[beq_iff_eq];omega)]
    refine o _ _ (Eq.symm ?_)
    rw[<-Bool.not_eq_true,EW]
    exact fun U=>O U.1
  ·rw[if_neg (by simpa using h)]
   exact⟨[],by simp,(by show s.length<=p;omega),by simp⟩
def kj(M:Int->Bool)(s:List UInt8):Nat->Nat->List Int->List Int×Int
 |0,_,o=>(o,0)
 |n+1,p,o=>
  if p<s.length then
   if bad s p then([],6)else if !M ((g s p).1:Int)then([],5)else if(o.length:Int)==(64:Int)then([],4)
   else kj M s n (p+(g s p).2) (o++[((g s p).1:Int)])
  else(o,0)
theorem Tm{V:List kW}(m:Option dz)(M:Int->Bool)(W:∀r:Int,(bM (aR (.int .i32)) (m.getD []) r).isSome=M r)(s:List UInt8)(ld:V.length<=65536):
  ∀n i p o (q:List Int),i<=V.length->V.length-i<n->s.length-p<o->q.length<=64->p<=s.length->pQ s o p (V.drop i)->nH (V,0) m n (i:Int) q=some (kj M s o p q):=by
 intro n
 induction n with
 |zero=>intro i p o q _ h;omega
 |succ n Y=>
  intro i p o q le lf aJ lg lh O
  have li:=wE
  obtain⟨o,rfl⟩:∃Z,o=Z+1:=⟨o-1,by omega⟩
  unfold nH Gl kj
  by_cases h:i<V.length
  ·rw[RN h]at O
   obtain⟨R,la,lb,lc⟩:=O
   rw[if_pos (by simp only[decide_eq_true_eq];omega),if_pos R,ff h]
   simp only[Option.bind_some]
   rw[lb,la,W]
   cases lj:bad s p with
   |true=>rfl
   |false=>
    simp only[Bool.false_eq_true,if_false]
    cases lk:M ((g s p).1:Int)with
    |false=>rfl
    |true=>
     simp only[Bool.not_true,Bool.false_eq_true,if_false]
     by_cases U:q.length=64
     ·rw[if_pos (by rw[U];rfl),if_pos (by rw[U];rfl)]
     ·rw[if_neg (by simp only[beq_iff_eq];omega),if_neg (by simp only[beq_iff_eq];omega)]
      rw[gz (by simp only[List.length_cons,List.length_nil];omega)]
      simp only[Option.bind_some]
      have ll:=ju s p R
      rw[bG (by omega)]
      exact Y (i+1) _ o _ (by omega) (by omega) (by omega) (by simp only[List.length_append,List.length_cons,List.length_nil];omega) (by omega) lc
  ·rw[List.drop_eq_nil_of_le (by omega)]at O
   have lm:s.length<=p:=O
   rw[if_neg (by simp only[decide_eq_true_eq];omega),if_neg (by omega)]
abbrev js(a:br):List Int:=a.2.1.map fun l:Int×Int×Int×Unit=>l.1
def qN(a:br)(r:Int):Bool:=decide (r∈js a)
theorem YE(a:br)(h:a.2.1.length<=128):∀n i (m:List (Int×Int)),i<=a.2.1.length->a.2.1.length-i<n->(∀r:Int,(bM (aR (.int .i32)) m r).isSome=decide (r∈(js a).take i))->
  ∃aA,nK a n (i:Int) m=some (some aA,0)/\∀r:Int,(bM (aR (.int .i32)) aA r).isSome=qN a r:=by
 intro n
 induction n with
 |zero=>intro i m _ h;omega
 |succ n q=>
  intro i m U W o
  unfold nK HM
  by_cases h:i<a.2.1.length
  ·rw[if_pos (by simp only[decide_eq_true_eq];omega),ff h];simp only[Option.bind_some]
   rw[bG (by omega)]
   refine q (i+1) _ (by omega) (by omega) fun r=>?_
   have O:(js a).take (i+1)=(js a).take i++[(a.2.1[i]'h).1]:=by
    rw[List.take_succ_eq_append_getElem (by simpa using h)]
    simp
   have:=nG (α:=Int) (β:=Int) wA (a.2.1[i]'h).1 r (i:Int) m
   rw[O]
   by_cases e:r=(a.2.1[i]'h).1
   ·refine(congrArg Option.isSome (this.1 e)).trans ?_
    rw[decide_eq_true (by rw[e];simp)]
    rfl
   ·refine(congrArg Option.isSome (this.2 e)).trans ((o r).trans ?_)
    rw[Bool.eq_iff_iff]
    simp only[decide_eq_true_eq,List.mem_append,List.mem_singleton]
    exact⟨.inl,fun R=>R.resolve_right e⟩
  ·rw[if_neg (by simp only[decide_eq_true_eq];omega)]
   refine⟨m,rfl,fun r=>?_⟩
   rw[o r,List.take_of_length_le (by simp;omega)]
   rfl
def wl(a:br)(w:List UInt8):List Int×Int:=if cI a then kj (qN a) w 65537 0 []else([],7)
theorem F0(a:br){w:List UInt8}(R:w.length<=65536):kY 80000 a w=some (wl a w):=by
 unfold kY yJ wl
 rw[show eK 80000 ((a.1,a.2.1,()):br)=some (if cI a then 0 else 7)from kb a]
 simp only[Option.bind_some]
 cases U:cI a with
 |false=>rfl
 |true=>
  have W:=yZ U
  rw[if_neg (by simp),if_pos rfl]
  obtain⟨m,Y,Z⟩:=YE (a.1,a.2.1,()) W.2.2 80000 0 [] (Nat.zero_le _) (by show a.2.1.length-0<80000;omega) (fun r=>by simp[bM])
  rw[show nK (a.1,a.2.1,()) 80000 (0:Int) []=some (some m,0)from Y]
  simp only[Option.bind_some]
  rw[if_neg (by simp)]
  unfold tc
  rw[if_neg (by simp only[decide_eq_true_eq];omega)]
  unfold qS r4 wb
  rw[if_neg (by simp only[decide_eq_true_eq];omega)]
  simp only[Option.bind_some]
  rw[if_neg (by simp)]
  unfold pX
  obtain⟨v,e,la,lg⟩:=aaA R 80000 0 [] (Nat.zero_le _) (by omega) (by simp;omega)
  rw[e,List.nil_append]
  simp only[Option.bind_some]
  rw[if_neg (by simp)]
  have lb:∀q n p (v:List kW),pQ w n p v->w.length-p<q->pQ w q p v:=by
   intro q
   induction q with
   |zero=>intro n p v _ h;omega
   |succ q lc=>
    intro n p v o aJ
    match n,v,o with
    |0,[],o=>exact o
    |n+1,[],o=>exact o
    |0,_::_,o=>exact o.elim
    |n+1,x::v,⟨O,ld,le,lf⟩=>
     have:=ju w p O
     exact⟨O,ld,le,lc n _ v lf (by omega)⟩
  have:=Tm (V:=v) (some m) (qN a) Z w (by omega) 80000 0 0 65537 [] (Nat.zero_le _) (by omega) (by omega) (by simp) (Nat.zero_le _) (lb 65537 80000 0 v la (by omega))
  rw[show nH (v,0) (some m) 80000 (0:Int) []=_ from this]
  rfl
theorem ZP(M:Int->Bool)(s:List UInt8):∀n p q,q.length<=64->(∀r∈q,M r=true)->(kj M s n p q).2=0->(kj M s n p q).1.length<=64/\∀r∈(kj M s n p q).1,M r=true:=by
 intro n
 induction n with
 |zero=>intro p q U R _;exact⟨U,R⟩
 |succ n la=>
  intro p q U R o
  unfold kj at o⊢
  split at o
  ·rename_i W
   rw[if_pos W]
   split at o
   ·cases o
   rename_i lb
   rw[if_neg lb]
   split at o
   ·cases o
   rename_i Y
   rw[if_neg Y]
   split at o
   ·cases o
   rename_i Z
   rw[if_neg Z]
   have lc:q.length≠64:=fun e=>Z (by rw[e];rfl)
   refine la _ _ (by simp only[List.length_append,List.length_cons,List.length_nil];omega) (fun r O=>?_) o
   rcases List.mem_append.1 O with O|O
   ·exact R r O
   ·have:r=((g s p).1:Int):=by simpa using O
    rw[this]
    simpa using Y
  ·rename_i W
   rw[if_neg W]
   exact⟨U,R⟩
theorem AZ(a:br)(w:List UInt8)(h:(wl a w).2=0):cI a=true/\(wl a w).1.length<=64/\∀r∈(wl a w).1,r∈js a:=by
 unfold wl at h⊢
 cases o:cI a with
 |false=>rw[o]at h;cases h
 |true=>
  rw[o,if_pos rfl]at h
  rw[if_pos rfl]
  have:=ZP (qN a) w 65537 0 [] (by simp) (by simp) h
  exact⟨rfl,this.1,fun r q=>of_decide_eq_true (this.2 r q)⟩
end Go.Ev
namespace Go.Ev
open Go
set_option maxRecDepth 100000
def vq(o:List (List UInt8))(i:Nat)(m:List bh):Prop:=∀x:List UInt8,bM (aR .str) m x=if x∈o.take i then some ((o.idxOf x:Nat):Int)else none
theorem Tk(o bB:br)(h:o.1.length<=24)(W:o.1.Nodup):∀n i (m:List bh),i<=o.1.length->o.1.length-i<n->vq o.1 i m->
  ∃aA,tJ 80000 o bB n (i:Int) m=pt 80000 bB 80000 0 bB.1 bB.2.1 o.1 o.2.1 () aA []/\vq o.1 o.1.length aA:=by
 intro n
 induction n with
 |zero=>intro i m _ h;omega
 |succ n Y=>
  intro i m la lb R
  unfold tJ Kl
  by_cases q:i<o.1.length
  ·rw[if_pos (by simp only[decide_eq_true_eq];omega),ff q];simp only[Option.bind_some]
   rw[bG (by omega)]
   refine Y (i+1) _ (by omega) (by omega) fun x=>?_
   have Z:o.1.take (i+1)=o.1.take i++[o.1[i]'q]:=List.take_succ_eq_append_getElem q
   have U:=nG (α:=List UInt8) (β:=Int) LM (o.1[i]'q) x (i:Int) m
   rw[Z]
   by_cases e:x=o.1[i]'q
   ·refine(U.1 e).trans ?_
    rw[if_pos (List.mem_append.2 (.inr (List.mem_singleton.2 e)))]
    have:o.1.idxOf x=i:=by rw[e];exact List.Nodup.idxOf_getElem W i q
    rw[this]
   ·refine(U.2 e).trans ((R x).trans ?_)
    by_cases aJ:x∈o.1.take i
    ·rw[if_pos aJ,if_pos (List.mem_append.2 (.inl aJ))]
    ·rw[if_neg aJ,if_neg fun O=>(List.mem_append.1 O).elim aJ fun O=>e (List.mem_singleton.1 O)]
  ·rw[if_neg (by simp only[decide_eq_true_eq];omega)]
   have:i=o.1.length:=by omega
   subst this
   exact⟨m,rfl,R⟩
end Go.Ev
namespace Go.Ev
open Go
set_option maxRecDepth 100000
section
variable (a:br) (r:Int)
end
def eQ(z:Nat):Nat->Nat
 |0=>0
 |n+1=>eQ z n+(z.testBit n).toNat
def nB:List UInt8:=[0,1,1,2,1,2,2,3,1,2,2,3,2,3,3,4,1,2,2,3,2,3,3,4,2,3,3,4,3,4,4,5,1,2,2,3,2,3,3,4,2,3,3,4,3,4,4,5,2,3,3,4,3,4,4,5,3,4,4,5,4,5,5,6,1,2,2,3,2,3,3,4,2,3,3,4,3,4,4,5,2,3,3,4,3,4,4,5,3,4,4,5,4,5,5,6,2,3,3,4,3,4,4,5,3,4,4,5,4,5,5,6,3,4,4,5,4,5,5,6,4,5,5,6,5,6,6,7,1,2,2,3,2,3,3,4,2,3,3,4,3,4,4,5,2,3,3,4,3,4,4,5,3,4,4,5,4,5,5,6,2,3,3,4,3,4,4,5,3,4,4,5,4,5,5,6,3,4,4,5,4,5,5,6,4,5,5,6,5,6,6,7,2,3,3,4,3,4,4,5,3,4,4,5,4,5,5,6,3,4,4,5,4,5,5,6,4,5,5,6,5,6,6,7,3,4,4,5,4,5,5,6,4,5,5,6,5,6,6,7,4,5,5,6,5,6,6,7,5,6,6,7,6,7,7,8]
set_option maxRecDepth 100000 in
theorem O1:nB.length=256:=by decide+kernel
set_option maxRecDepth 100000 in
theorem abE:∀i:Fin 256,(nB.getD i.val 0).toNat=eQ i.val 8:=by decide+kernel
theorem wc{n:Nat}(h:n<256):eE nB (n:Int)=some ((eQ n 8:Nat):Int):=by
 rw[so (by rw[O1];exact h)]
 have:=abE ⟨n,h⟩
 simp only[List.getD_eq_getElem?_getD,List.getElem?_eq_getElem (show n<nB.length by rw[O1];exact h),Option.getD_some]at this
 rw[this]
theorem TI(k:Nat)(x:Int):oq k x=Option.bind (aP (0<=(24:Int))) fun _=>
 Option.bind (eE nB (Int.fdiv x (2^min ((24:Int)).toNat 32))) fun o=>
 Option.bind (aP (0<=(16:Int))) fun _=>
 Option.bind (eE nB (cH (BitVec.toNat (BitVec.ofInt 32 (Int.fdiv x (2^min ((16:Int)).toNat 32))&&&BitVec.ofInt 32 (255:Int))))) fun q=>
 Option.bind (aP (0<=(8:Int))) fun _=>
 Option.bind (eE nB (cH (BitVec.toNat (BitVec.ofInt 32 (Int.fdiv x (2^min ((8:Int)).toNat 32))&&&BitVec.ofInt 32 (255:Int))))) fun O=>
 Option.bind (eE nB (cH (BitVec.toNat (BitVec.ofInt 32 x&&&BitVec.ofInt 32 (255:Int))))) fun R=>
 some (ag (iv ((iv ((iv (o+q))+O))+R))):=rfl
theorem MF(z n:Nat):eQ z n<=n:=by
 induction n with
 |zero=>exact Nat.le_refl _
 |succ n o=>
  unfold eQ
  have:(z.testBit n).toNat<=1:=Bool.toNat_le _
  omega
theorem EM{y:Nat}(h:y<4294967296):cH (BitVec.toNat (BitVec.ofInt 32 (y:Int)&&&BitVec.ofInt 32 (255:Int)):Int)=((y %256:Nat):Int):=by
 have e:BitVec.toNat (BitVec.ofInt 32 (y:Int)&&&BitVec.ofInt 32 (255:Int))=y %256:=by
  rw[BitVec.toNat_and,BitVec.toNat_ofInt,BitVec.toNat_ofInt]
  have o:((y:Int) %((2^32:Nat):Int)).toNat=y:=by
   rw[Int.emod_eq_of_lt (by omega) (by show(y:Int)<4294967296;omega)]
   omega
  rw[o,show((255:Int) %((2^32:Nat):Int)).toNat=2^8-1 from by decide,Nat.and_two_pow_sub_one_eq_mod]
 rw[e,mm (by omega)]
theorem FA(z n:Nat):eQ z (n+1)=eQ z n+(z.testBit n).toNat:=rfl
theorem Br(z s:Nat):∀m,eQ z s<=eQ z (s+m)
 |0=>Nat.le_refl _
 |m+1=>Nat.le_trans (Br z s m) (by rw[<-Nat.add_assoc,FA];omega)
theorem wB(z s:Nat):∀n,n<=8->eQ (z/2^s %256) n=eQ z (s+n)-eQ z s:=by
 intro n
 induction n with
 |zero=>intro _;simp[eQ]
 |succ n o=>
  intro h
  have mono:=Br z s
  rw[<-Nat.add_assoc,FA,FA,o (by omega)]
  have e:(z/2^s %256).testBit n=z.testBit (s+n):=by
   rw[show(256:Nat)=2^8 from rfl,Nat.testBit_mod_two_pow,Nat.testBit_div_two_pow,decide_eq_true (by omega),Bool.true_and,Nat.add_comm]
  have:=mono n
  rw[e]
  omega
theorem aak(k:Nat){z:Nat}(h:z<4294967296):oq k (z:Int)=some ((eQ z 32:Nat):Int):=by
 rw[TI,gz (by omega),gz (by omega),gz (by omega)]
 have d:∀s:Nat,(2:Int)^s=((2^s:Nat):Int):=fun s=>by simp
 have d24:Int.fdiv (z:Int) (2^min ((24:Int)).toNat 32)=((z/2^24:Nat):Int):=by
  rw[show min ((24:Int)).toNat 32=24 from by decide,Int.fdiv_eq_ediv_of_nonneg _ (by decide)]
  simp
 have d16:Int.fdiv (z:Int) (2^min ((16:Int)).toNat 32)=((z/2^16:Nat):Int):=by
  rw[show min ((16:Int)).toNat 32=16 from by decide,Int.fdiv_eq_ediv_of_nonneg _ (by decide)]
  simp
 have d8:Int.fdiv (z:Int) (2^min ((8:Int)).toNat 32)=((z/2^8:Nat):Int):=by
  rw[show min ((8:Int)).toNat 32=8 from by decide,Int.fdiv_eq_ediv_of_nonneg _ (by decide)]
  simp
 have o:z/2^24<256:=by omega
 rw[d24,d16,d8,EM (by omega),EM (by omega),EM h,wc o,wc (by omega),wc (by omega),wc (by omega)]
 simp only[Option.bind_some]
 have q:=wB z 0 8 (by omega)
 have R:=wB z 8 8 (by omega)
 have U:=wB z 16 8 (by omega)
 have O:=wB z 24 8 (by omega)
 rw[Nat.mod_eq_of_lt o]at O
 rw[show z/2^0=z from by simp]at q
 have l:∀m,eQ m 8<=8:=fun m=>MF m 8
 have l1:=l (z/2^24)
 have l2:=l (z/2^16 %256)
 have lb:=l (z/2^8 %256)
 have lc:=l (z %256)
 have m1:eQ z 0=0:=rfl
 have mono:=fun s=>Br z s 8
 have W:=mono 0
 have Y:=mono 8
 have Z:=mono 16
 have la:=mono 24
 simp only[Nat.zero_add,show 8+8=16 from rfl,show 16+8=24 from rfl,show 24+8=32 from rfl]at q R U O W Y Z la
 rw[Gn (x:=((eQ (z/2^24) 8:Nat):Int)+((eQ (z/2^16 %256) 8:Nat):Int)) (by omega),
  Gn (x:=((eQ (z/2^24) 8:Nat):Int)+((eQ (z/2^16 %256) 8:Nat):Int)+((eQ (z/2^8 %256) 8:Nat):Int)) (by omega),
  Gn (x:=((eQ (z/2^24) 8:Nat):Int)+((eQ (z/2^16 %256) 8:Nat):Int)+((eQ (z/2^8 %256) 8:Nat):Int)+((eQ (z %256) 8:Nat):Int)) (by omega),fO (by omega)]
 congr 1
 omega
/-! One letter and another one. -/
theorem Ae(v:BitVec 32):BitVec.ofInt 32 (cH (BitVec.toNat v:Int))=v:=by
 have:=v.isLt
 rw[mm (by omega)]
 apply BitVec.eq_of_toNat_eq
 rw[BitVec.toNat_ofInt,Int.emod_eq_of_lt (by omega) (by show(v.toNat:Int)<4294967296;omega)]
 omega
end Go.Ev
namespace Go.Ev
open Go
set_option maxRecDepth 100000
theorem ZA(p:Int){t:Nat}(Y:t<32):((BitVec.ofInt 32 p).getLsbD t).toNat=((p/2^t) %2).toNat:=by
 rw[BitVec.getLsbD,BitVec.toNat_ofInt,Nat.toNat_testBit]
 have e:p=p %(2^32:Nat)+2^t*(2*(2^(31-t)*(p/(2^32:Nat)))):=by
  have q:(2:Int)^t*(2*(2^(31-t)*(p/(2^32:Nat))))=(2^32:Nat)*(p/(2^32:Nat)):=by
   rw[<-Int.mul_assoc,<-Int.mul_assoc,<-Int.pow_succ,<-Int.pow_add,show t+1+(31-t)=32 from by omega]
   rfl
  rw[q];omega
 have O:p/2^t=p %(2^32:Nat)/2^t+2*(2^(31-t)*(p/(2^32:Nat))):=by
  conv=>lhs;rw[e]
  rw[Int.add_mul_ediv_left _ _ (Int.ne_of_gt (Int.pow_pos (by omega)))]
 have R:(p/2^t) %2=(p %(2^32:Nat)/2^t) %2:=by rw[O];omega
 rw[R]
 have U:0<=p %(2^32:Nat):=Int.emod_nonneg _ (by decide)
 obtain⟨o,aJ⟩:=Int.eq_ofNat_of_zero_le U
 rw[aJ]
 have W:((o:Int)/2^t) %2=(((o/2^t) %2:Nat):Int):=by push_cast;rfl
 rw[W];rfl
theorem MV(p:Int){t:Nat}(o:t<32):cH (BitVec.toNat (BitVec.ofInt 32 (Int.fdiv p (2^min ((t:Int)).toNat 32))&&&BitVec.ofInt 32 (1:Int)):Int)=(((BitVec.ofInt 32 p).getLsbD t).toNat:Int):=by
 rw[ZA p o,Int.toNat_natCast,Nat.min_eq_left (by omega),Int.fdiv_eq_ediv_of_nonneg _ (Int.le_of_lt (Int.pow_pos (by omega)))]
 generalize p/2^t=q
 rw[BitVec.toNat_and,show BitVec.toNat (BitVec.ofInt 32 (1:Int))=2^1-1 from by decide,Nat.and_two_pow_sub_one_eq_mod,BitVec.toNat_ofInt]
 rw[mm (by omega)]
 omega
theorem OW(b:Bool){j:Nat}(q:j<32):BitVec.ofInt 32 (cH ((b.toNat:Int)*2^min ((j:Int)).toNat 32))=if b then BitVec.twoPow 32 j else 0#32:=by
 rw[Int.toNat_natCast,Nat.min_eq_left (by omega)]
 have o:2^j<2^32:=Nat.pow_lt_pow_right (by omega) q
 cases b
 ·simp;decide
 ·have e:((true.toNat:Nat):Int)*2^j=((2^j:Nat):Int):=by simp
  rw[e,mm (by generalize 2^j=P at o⊢;omega)]
  apply BitVec.eq_of_toNat_eq
  rw[if_pos rfl,BitVec.toNat_ofInt,BitVec.toNat_twoPow,Nat.mod_eq_of_lt o]
  generalize 2^j=P at o⊢
  rw[Int.emod_eq_of_lt (by omega) (by omega)]
  omega
theorem zM(v:BitVec 32):BitVec.ofInt 32 (v.toNat:Int)=v:=by
 have:=Ae v
 rwa [mm (by have:=v.isLt;omega)]at this
theorem Av(v:BitVec 32):cH (v.toNat:Int)=(v.toNat:Int):=mm (by have:=v.isLt;omega)
end Go.Ev
namespace Go.Ev
open Go
set_option maxRecDepth 100000
def mZ(fns o:List (List UInt8))(i:Nat)(v w:BitVec 32):Prop:=∀j,w.getLsbD j=if h:j<o.length then decide (o[j]∈fns.take i)&&v.getLsbD (fns.idxOf o[j])else false
abbrev Z2:Type:=Int->aD->aK->aD->aK->Unit->ov->dz->Option gf
theorem I5{fns o:List (List UInt8)}(Y:fns.Nodup)(Z:o.Nodup)(ld:o.length<=24){i:Nat}(U:i<fns.length){v w:BitVec 32}(la:mZ fns o i v w):
  mZ fns o (i+1) v (if fns[i]∈o then w|||(if v.getLsbD i then BitVec.twoPow 32 (o.idxOf fns[i])else 0#32)else w):=by
 intro j
 have lb:fns.idxOf fns[i]=i:=List.Nodup.idxOf_getElem Y i U
 have lc:∀x:List UInt8,decide (x∈fns.take (i+1))=(decide (x∈fns.take i)||decide (x=fns[i])):=fun x=>by
  rw[List.take_succ_eq_append_getElem U,Bool.eq_iff_iff]
  simp only[decide_eq_true_eq,Bool.or_eq_true,List.mem_append,List.mem_singleton]
 have key:(if fns[i]∈o then w|||(if v.getLsbD i then BitVec.twoPow 32 (o.idxOf fns[i])else 0#32)else w).getLsbD j=(w.getLsbD j||(decide (j<o.length)&&decide (o[j]? =some fns[i])&&v.getLsbD i)):=by
  by_cases R:fns[i]∈o
  ·rw[if_pos R,BitVec.getLsbD_or]
   congr 1
   have W:=List.idxOf_lt_length_of_mem R
   cases le:v.getLsbD i
   ·simp
   ·rw[if_pos rfl,BitVec.getLsbD_twoPow]
    by_cases e:j=o.idxOf fns[i]
    ·subst e
     rw[List.getElem?_eq_getElem W]
     simp only[List.getElem_idxOf]
     simp[W];omega
    ·have:o[j]? ≠some fns[i]:=by
      intro O
      obtain⟨q,O⟩:=List.getElem?_eq_some_iff.1 O
      exact e (by rw[<-O];exact(List.Nodup.idxOf_getElem Z j q).symm)
     simp[this,Ne.symm e]
  ·rw[if_neg R]
   have:o[j]? ≠some fns[i]:=by
    intro O
    exact R (List.mem_of_getElem? O)
   simp[this]
 rw[key,la j]
 by_cases q:j<o.length
 ·rw[dif_pos q,dif_pos q,lc,List.getElem?_eq_getElem q]
  by_cases e:o[j]=fns[i]
  ·rw[e,lb];simp[q]
  ·simp[q,e]
 ·rw[dif_neg q,dif_neg q];simp[q]
theorem RW{fns o:List (List UInt8)}(W:fns.Nodup)(Y:o.Nodup)(Z:o.length<=24)(li:fns.length<=24){m2:List bh}(lh:vq o o.length m2)(x:Int×Int×Int×Unit)(jN:List cK)(aC:Z2)(t2:Int)(wQ:List cK)(la:List (List UInt8))(m3:List (Int×Int)):
  ∀n i (q O:BitVec 32),i<=fns.length->fns.length-i<n->mZ fns o i (BitVec.ofInt 32 x.2.1) q->mZ fns o i (BitVec.ofInt 32 x.2.2.1) O->
  ∃lb lc:BitVec 32,mZ fns o fns.length (BitVec.ofInt 32 x.2.1) lb/\mZ fns o fns.length (BitVec.ofInt 32 x.2.2.1) lc/\
   sP 80000 fns m2 x jN aC t2 wQ la () m3 n (i:Int) (q.toNat:Int) (O.toNat:Int)=
    Option.bind (pG 80000 jN x.1 x.2.1 x.2.2.1 (0:Int) (lb.toNat:Int) (lc.toNat:Int)) fun v1=>
    aC (ag (t2+(1:Int))) fns wQ la jN () m2 (cn (aR (.int .i32)) m3 x.1 v1.1):=by
 intro n
 induction n with
 |zero=>intro i _ _ _ h;omega
 |succ n ld=>
  intro i q O lj lk le lf
  unfold sP JR xq
  by_cases h:i<fns.length
  ·rw[if_pos (by simp only[decide_eq_true_eq];omega),ff h]
   simp only[Option.bind_some]
   have lg:=lh fns[i]
   rw[List.take_length]at lg
   rw[lg,bG (by omega)]
   have R:=I5 W Y Z h le
   have U:=I5 W Y Z h lf
   by_cases aJ:fns[i]∈o
   ·rw[if_pos aJ]at R U
    rw[if_pos aJ]
    have ll:=List.idxOf_lt_length_of_mem aJ
    simp only[Option.isSome_some,Bool.not_true,Bool.false_eq_true,if_false,Option.getD_some]
    rw[gz (by omega),gz (by omega)]
    simp only[Option.bind_some]
    rw[MV _ (by omega),MV _ (by omega),OW _ (by omega),OW _ (by omega),zM,zM,Av,Av]
    exact ld (i+1) _ _ (by omega) (by omega) R U
   ·rw[if_neg aJ]at R U
    rw[if_neg aJ]
    simp only[Option.isSome_none,Bool.not_false,if_true]
    exact ld (i+1) _ _ (by omega) (by omega) R U
  ·rw[if_neg (by simp only[decide_eq_true_eq];omega)]
   have:i=fns.length:=by omega
   subst this
   exact⟨q,O,le,lf,rfl⟩
end Go.Ev
namespace Go.Ev
open Go
set_option maxRecDepth 100000
abbrev gy:Type:=Int×Int×Int×Unit
def yx(o q:BitVec 32)(y:gy):BitVec 32:=(BitVec.ofInt 32 y.2.1^^^o)|||(BitVec.ofInt 32 y.2.2.1^^^q)
def fm(r:Int)(o q:BitVec 32)(y:gy):Int:=if y.1=r then-1 else((eQ (yx o q y).toNat 32:Nat):Int)
theorem Ly(r:Int)(o q:BitVec 32)(y:gy):-1<=fm r o q y/\fm r o q y<=32:=by
 unfold fm
 have:=MF (yx o q y).toNat 32
 split<;>omega
theorem OR(r p m z:Int)(o q:BitVec 32)(y:gy):se 80000 y (r,p,m,()) (z,(o.toNat:Int),(q.toNat:Int),())=some (fm r o q y):=by
 unfold se fm
 by_cases h:y.1=r
 ·rw[if_pos (by simpa using h),if_pos h]
 ·rw[if_neg (by simpa using h),if_neg h]
  rw[zM,zM,Ae,Ae]
  have:=(yx o q y).isLt
  have e:cH (BitVec.toNat (BitVec.ofInt 32 y.2.1^^^o|||BitVec.ofInt 32 y.2.2.1^^^q):Int)=(((yx o q y).toNat:Nat):Int):=Av _
  rw[e,aak 80000 this]
  rfl
theorem aaq(r p m z:Int)(o q:BitVec 32)(y O:gy):qw 80000 y O r p m z (o.toNat:Int) (q.toNat:Int)=some (fm r o q y-fm r o q O):=by
 unfold qw
 have R:=OR r p m z o q (y.1,y.2.1,y.2.2.1,())
 have U:=OR r p m z o q (O.1,O.2.1,O.2.2.1,())
 rw[R,U]
 simp only[Option.bind_some]
 have W:=Ly r o q y
 have Y:=Ly r o q O
 rw[show fm r o q (y.1,y.2.1,y.2.2.1,())=fm r o q y from rfl,show fm r o q (O.1,O.2.1,O.2.2.1,())=fm r o q O from rfl,fO (by omega)]
def o7(d:gy->Int)(l:List gy)(i j:Nat)(y:gy):Prop:=j<i/\l[j]? =some y/\∀t z,t<i->l[t]? =some z->d y<=d z/\(t<j->d y<d z)
theorem QP{d:gy->Int}{l:List gy}{i j:Nat}{y z:gy}(O:l[i]? =some z)(h:o7 d l i j y):if d z<d y then o7 d l (i+1) i z else o7 d l (i+1) j y:=by
 obtain⟨Y,U,R⟩:=h
 by_cases c:d z<d y
 ·rw[if_pos c]
  refine⟨by omega,O,fun t u W o=>?_⟩
  rcases Nat.lt_or_ge t i with q|q
  ·have:=(R t u q o).1
   omega
  ·have:t=i:=by omega
   subst this
   rw[O]at o
   cases o
   omega
 ·rw[if_neg c]
  refine⟨by omega,U,fun t u W o=>?_⟩
  rcases Nat.lt_or_ge t i with q|q
  ·exact R t u q o
  ·have:t=i:=by omega
   subst this
   rw[O]at o
   cases o
   omega
theorem R3(r p m z:Int)(o q:BitVec 32)(l:List gy)(Y:l.length<=128):∀n i j (y:gy),i<=l.length->l.length-i<n->o7 (fm r o q) l i j y->
  ∃j O,o7 (fm r o q) l l.length j O/\tZ 80000 l r p m z (o.toNat:Int) (q.toNat:Int) n (i:Int) y.1 y.2.1 y.2.2.1=some O:=by
 intro n
 induction n with
 |zero=>intro i _ _ _ h;omega
 |succ n R=>
  intro i j y Z la U
  unfold tZ IG wd
  by_cases h:i<l.length
  ·rw[if_pos (by simp only[decide_eq_true_eq];omega),ff h]
   simp only[Option.bind_some]
   have W:=aaq r p m z o q l[i] (y.1,y.2.1,y.2.2.1,())
   rw[W]
   simp only[Option.bind_some]
   rw[bG (by omega)]
   have s:=QP (List.getElem?_eq_getElem h) U
   by_cases c:fm r o q l[i]<fm r o q y
   ·rw[if_pos c]at s
    rw[if_pos (by simp only[decide_eq_true_eq];have:fm r o q (y.1,y.2.1,y.2.2.1,())=fm r o q y:=rfl;omega)]
    exact R (i+1) i _ (by omega) (by omega) s
   ·rw[if_neg c]at s
    rw[if_neg (by simp only[decide_eq_true_eq];have:fm r o q (y.1,y.2.1,y.2.2.1,())=fm r o q y:=rfl;omega)]
    exact R (i+1) j _ (by omega) (by omega) s
  ·rw[if_neg (by simp only[decide_eq_true_eq];omega)]
   have:i=l.length:=by omega
   subst this
   exact⟨j,y,U,rfl⟩
theorem TZ(r p m z:Int)(q O:BitVec 32)(l:List gy)(o:1<=l.length)(W:l.length<=128):
  ∃j R,o7 (fm r q O) l l.length j R/\pG 80000 l r p m z (q.toNat:Int) (O.toNat:Int)=some R:=by
 unfold pG
 rw[if_neg (by simp only[decide_eq_true_eq];omega)]
 have Y:ar l (0:Int)=some (l[0]'o):=ff (i:=0) o
 rw[Y]
 simp only[Option.bind_some]
 exact R3 r p m z q O l W 80000 1 0 _ o (by omega) ⟨by omega,List.getElem?_eq_getElem o,fun t u Z U=>by
  have:t=0:=by omega
  subst this
  rw[List.getElem?_eq_getElem o]at U
  cases U
  omega⟩
end Go.Ev
namespace Go.Ev
open Go
set_option maxRecDepth 100000
def Fg(bB o:br)(x:gy)(r:Int):Prop:=∃(q O:BitVec 32) (j:Nat) (y:gy),mZ bB.1 o.1 bB.1.length (BitVec.ofInt 32 x.2.1) q/\mZ bB.1 o.1 bB.1.length (BitVec.ofInt 32 x.2.2.1) O/\o7 (fm x.1 q O) o.2.1 o.2.1.length j y/\y.1=r
def rI(bB o:br)(i:Nat)(m:List (Int×Int)):Prop:=∀t x,t<i->bB.2.1[t]? =some x->∃r,bM (aR (.int .i32)) m x.1=some r/\Fg bB o x r
theorem I8(fns o:List (List UInt8))(v:BitVec 32):mZ fns o 0 v 0#32:=by
 intro j
 simp
theorem Sp(bB o:br)(la:bB.1.Nodup)(R:o.1.Nodup)(lb:bB.1.length<=24)(lc:o.1.length<=24)(ld:1<=o.2.1.length)(le:o.2.1.length<=128)(lr:bB.2.1.length<=128)(lf:(js bB).Nodup){m2:List bh}(lg:vq o.1 o.1.length m2):
  ∀n i (m3:List (Int×Int)),i<=bB.2.1.length->bB.2.1.length-i<n->rI bB o i m3->
  ∃m,rI bB o bB.2.1.length m/\pt 80000 bB n (i:Int) bB.1 bB.2.1 o.1 o.2.1 () m2 m3=some ((some m,()),()):=by
 intro n
 induction n with
 |zero=>intro i _ _ h;omega
 |succ n lh=>
  intro i m3 ls lt U
  unfold pt Ou
  by_cases h:i<bB.2.1.length
  ·rw[if_pos (by simp only[decide_eq_true_eq];omega),ff h]
   simp only[Option.bind_some]
   obtain⟨W,Y,li,lj,e⟩:=RW la R lc lb lg bB.2.1[i] o.2.1 (pt 80000 bB n) (i:Int) bB.2.1 o.1 m3 80000 0 0#32 0#32 (Nat.zero_le _) (by omega) (I8 _ _ _) (I8 _ _ _)
   obtain⟨j,y,lk,ll⟩:=TZ bB.2.1[i].1 bB.2.1[i].2.1 bB.2.1[i].2.2.1 0 W Y o.2.1 ld le
   rw[ll]at e
   simp only[Option.bind_some]at e
   rw[bG (by omega)]at e
   have lm:∀t x,t<i->bB.2.1[t]? =some x->x.1≠bB.2.1[i].1:=by
    intro t x R O q
    obtain⟨ln,O⟩:=List.getElem?_eq_some_iff.1 O
    have:=(List.nodup_iff_pairwise_ne.1 lf)
    have:=(List.pairwise_iff_getElem.1 this) t i (by simpa using ln) (by simpa using h) R
    simp only[List.getElem_map]at this
    exact this (by rw[O];exact q)
   obtain⟨m,lo,em⟩:=lh (i+1) (cn (aR (.int .i32)) m3 bB.2.1[i].1 y.1) (by omega) (by omega) (by
    intro t x R O
    have Z:=nG (α:=Int) (β:=Int) wA bB.2.1[i].1 x.1 y.1 m3
    rcases Nat.lt_or_ge t i with q|q
    ·obtain⟨r,lp,lq⟩:=U t x q O
     exact⟨r,(Z.2 (lm t x q O)).trans lp,lq⟩
    ·have:t=i:=by omega
     subst this
     rw[List.getElem?_eq_getElem h]at O
     cases O
     exact⟨y.1,Z.1 rfl,W,Y,j,y,li,lj,lk,rfl⟩)
   exact⟨m,lo,e.trans em⟩
  ·rw[if_neg (by simp only[decide_eq_true_eq];omega)]
   have:i=bB.2.1.length:=by omega
   subst this
   exact⟨m3,U,rfl⟩
theorem N7{a:br}(h:cI a=true):a.1.length<=24/\1<=a.2.1.length/\a.2.1.length<=128/\a.1.Nodup/\(js a).Nodup/\∀l∈a.2.1,mI l.1=true/\mP a.1.length l.2.1 l.2.2.1=true:=by
 unfold cI at h
 simp only[Bool.and_eq_true,decide_eq_true_eq,List.all_eq_true]at h
 exact⟨h.1.1.1,h.1.1.2.1,h.1.1.2.2,h.1.2.2,h.2.2,h.2.1⟩
theorem JL{bB o:br}(q:cI bB=true)(O:cI o=true):∃m,rI bB o bB.2.1.length m/\xJ 80000 bB o=some ((some m,()),()):=by
 obtain⟨f1,f2,f3,f4,f5,f6⟩:=N7 q
 obtain⟨t1,t2,t3,t4,t5,t6⟩:=N7 O
 unfold xJ
 obtain⟨aA,e,R⟩:=Tk o bB t1 t4 80000 0 [] (Nat.zero_le _) (by omega) (fun x=>by simp[bM])
 rw[show((0:Nat):Int)=0 from rfl]at e
 rw[e]
 exact Sp bB o f4 t4 f1 t1 t2 t3 f3 f5 R 80000 0 [] (Nat.zero_le _) (by omega) (fun t x h _=>by omega)
end Go.Ev
namespace Go.Ev
open Go
set_option maxRecDepth 100000
def cj(m:List (Int×Int))(r:Int):Int:=(bM (aR (.int .i32)) m r).getD 0
theorem TG(xs:List Int):(cz xs).length<=4*xs.length:=by
 have:=foldl_size_le xs ByteArray.empty
 unfold cz runesBytes
 rw[Array.length_toList]
 rw[show ByteArray.empty.size=0 from rfl,Nat.zero_add]at this
 exact this
theorem Zf(m:List (Int×Int))(l:List Int)(R:l.length<=64):∀n i (t2:List Int),i<=l.length->l.length-i<n->t2.length=l.length->t2.take i=(l.take i).map (cj m)->
  rL 80000 l ((some m,()),()) n (i:Int) t2=some (cz (l.map (cj m))):=by
 intro n
 induction n with
 |zero=>intro i _ _ h;omega
 |succ n q=>
  intro i t2 U W O o
  unfold rL Jw
  by_cases h:i<l.length
  ·rw[if_pos (by simp only[decide_eq_true_eq];omega),ff h]
   simp only[Option.bind_some]
   rw[show Fs 80000 l[i] (some m)=some (cj m l[i])from rfl]
   simp only[Option.bind_some]
   rw[ff (by omega)]
   simp only[Option.bind_some]
   rw[bG (by omega),Int.toNat_natCast]
   refine q (i+1) _ (by omega) (by omega) (by simp[O]) ?_
   rw[List.take_succ_eq_append_getElem (by simp;omega),List.take_succ_eq_append_getElem h,List.map_append,List.take_set_of_le (by omega),o]
   simp
  ·rw[if_neg (by simp only[decide_eq_true_eq];omega)]
   have:i=l.length:=by omega
   subst this
   rw[List.take_of_length_le (by omega),List.take_of_length_le (by omega)]at o
   subst o
   have:=TG (l.map (cj m))
   rw[List.length_map]at this
   have Y:(1000000:Nat)<=bF:=by decide
   rw[gz (by omega)]
   rfl
theorem Jp(m:List (Int×Int))(l:List Int)(o:l.length<=64):zJ 80000 ((some m,()),()) l=some (cz (l.map (cj m))):=by
 unfold zJ
 have q:(1000000:Int)<=(bF:Int):=by decide
 rw[gz (by omega)]
 simp only[Option.bind_some]
 exact Zf m l o 80000 0 _ (Nat.zero_le _) (by omega) (by simp) (by simp)
end Go.Ev
namespace Go.Ev
open Go
set_option maxRecDepth 100000
set_option linter.unusedVariables false
def enc(r:Int):List UInt8:=(Utf8.encode r).data.toList
def mf(c:Nat):List UInt8:=
 if c<128 then[UInt8.ofNat c]else if c<2048 then[UInt8.ofNat (192+c/64),UInt8.ofNat (128+c %64)]
 else if c<65536 then[UInt8.ofNat (224+c/4096),UInt8.ofNat (128+c/64 %64),UInt8.ofNat (128+c %64)]
 else[UInt8.ofNat (240+c/262144),UInt8.ofNat (128+c/4096 %64),UInt8.ofNat (128+c/64 %64),UInt8.ofNat (128+c %64)]
theorem UB(r:Int):enc r=mf (if Utf8.valid r then r.toNat else 65533):=by
 have key:∀c:Nat,(if c<128 then(⟨#[UInt8.ofNat c]⟩:ByteArray)else if c<2048 then⟨#[UInt8.ofNat (192+c/64),UInt8.ofNat (128+c %64)]⟩
   else if c<65536 then⟨#[UInt8.ofNat (224+c/4096),UInt8.ofNat (128+c/64 %64),UInt8.ofNat (128+c %64)]⟩
   else⟨#[UInt8.ofNat (240+c/262144),UInt8.ofNat (128+c/4096 %64),UInt8.ofNat (128+c/64 %64),UInt8.ofNat (128+c %64)]⟩).data.toList=mf c:=by
  intro c
  unfold mf
  repeat' split
  all_goals rfl
 exact key _
theorem aaS(xs:List Int):cz xs=xs.flatMap enc:=by
 have key:∀(xs:List Int) (a:List UInt8),(xs.foldl (fun r n=>r++Utf8.encode n) (bytesOf a))=bytesOf (a++xs.flatMap enc):=by
  intro xs
  induction xs with
  |nil=>intro a;simp
  |cons x xs o=>
   intro a
   rw[List.foldl_cons]
   have e:Utf8.encode x=bytesOf (enc x):=by unfold enc bytesOf;simp
   rw[e,Ix,o]
   simp
 have h:=key xs []
 unfold cz runesBytes
 have q:ByteArray.empty=bytesOf []:=rfl
 rw[q,h]
 simp[bytesOf]
def yU(c:Nat):Prop:=c<55296\/(57344<=c/\c<=1114111)
theorem Yu{c:Nat}(h:yU c):enc (c:Int)=mf c:=by
 unfold yU at h
 rw[UB]
 have:Utf8.valid (c:Int)=true:=by unfold Utf8.valid;simp;omega
 rw[this,if_pos rfl,Int.toNat_natCast]
end Go.Ev
namespace Go.Ev
open Go
set_option maxRecDepth 100000
theorem Vm(bB o:br){w:List UInt8}(O:w.length<=65536):
  (∃e:Int,e≠0/\gl 80000 bB o w=some ([],e))\/
  (cI bB=true/\cI o=true/\(wl bB w).2=0/\∃m,rI bB o bB.2.1.length m/\gl 80000 bB o w=some (cz ((wl bB w).1.map (cj m)),0)):=by
 unfold gl
 rw[show((bB.1,bB.2.1,()):br)=bB from rfl,show((o.1,o.2.1,()):br)=o from rfl,kb]
 simp only[Option.bind_some]
 cases R:cI bB
 ·refine .inl ⟨7,by decide,?_⟩
  rfl
 rw[if_neg (by simp)]
 rw[kb]
 simp only[Option.bind_some]
 cases U:cI o
 ·refine .inl ⟨7,by decide,?_⟩
  rfl
 rw[if_neg (by simp),F0 bB O]
 simp only[Option.bind_some]
 by_cases q:(wl bB w).2=0
 ·rw[if_neg (by simp[q])]
  obtain⟨m,W,e⟩:=JL R U
  rw[e]
  simp only[Option.bind_some]
  rw[Jp m _ (AZ bB w q).2.1,q]
  exact .inr ⟨trivial,trivial,rfl,m,W,rfl⟩
 ·rw[if_pos (by simp[q])]
  refine .inl ⟨(wl bB w).2,q,?_⟩
  simp only[nQ]
  rw[if_pos (by simp[q])]
  rfl
end Go.Ev
namespace Go.Ev
open Go
set_option maxRecDepth 100000
theorem M5{a:br}{r:Int}(h:r∈js a):∃t x,t<a.2.1.length/\a.2.1[t]? =some x/\x.1=r:=by
 obtain⟨x,q,e⟩:=List.mem_map.1 h
 obtain⟨t,o,O⟩:=List.getElem_of_mem q
 exact⟨t,x,o,by rw[List.getElem?_eq_getElem o,O],e⟩
theorem Wh{bB o:br}{m:List (Int×Int)}(R:rI bB o bB.2.1.length m){r:Int}(h:r∈js bB):∃t x,t<bB.2.1.length/\bB.2.1[t]? =some x/\x.1=r/\Fg bB o x (cj m r):=by
 obtain⟨t,x,q,O,e⟩:=M5 h
 obtain⟨W,aJ,U⟩:=R t x q O
 rw[e]at aJ
 refine⟨t,x,q,O,e,?_⟩
 unfold cj
 rw[aJ]
 exact U
end Go.Ev
namespace Go.Ev
open Go
set_option maxRecDepth 100000
theorem QU{bB o:br}{x:gy}{r:Int}(h:Fg bB o x r)(q:x.1∈js o):r=x.1:=by
 obtain⟨O,R,j,y,_,_,U,e⟩:=h
 obtain⟨t,z,W,Y,Z⟩:=M5 q
 have:=(U.2.2 t z W Y).1
 have ai:fm x.1 O R z=-1:=by unfold fm;rw[if_pos Z]
 rw[ai]at this
 unfold fm at this
 by_cases c:y.1=x.1
 ·rw[<-e];exact c
 ·rw[if_neg c]at this;omega
theorem abp{bB q:br}{m:List (Int×Int)}(R:rI bB q bB.2.1.length m){o:List Int}(U:∀r∈o,r∈js bB)(W:∀r∈o,r∈js q):o.map (cj m)=o:=by
 conv=>rhs;rw[<-List.map_id o]
 refine List.map_congr_left fun r O=>?_
 obtain⟨t,x,_,_,e,Y⟩:=Wh R (U r O)
 rw[QU Y (by rw[e];exact W r O),e];rfl
end Go.Ev
namespace Go.Ev
open Go
set_option maxRecDepth 100000
set_option linter.unusedVariables false
def cd(s:List UInt8)(a b:Nat):List UInt8:=(s.take b).drop a
theorem abX{s:List UInt8}{a b:Nat}(o:b<=s.length):(cd s a b).length=b-a:=by
 unfold cd
 rw[List.length_drop,List.length_take]
 omega
theorem Si(s:List UInt8)(p:Nat):((g s p).1=65533/\(g s p).2=1)\/((g s p).1<=127/\(g s p).2=1)\/(128<=(g s p).1/\(g s p).1<=2047/\(g s p).2=2)\/
  (2048<=(g s p).1/\(g s p).1<=65535/\((g s p).1<55296\/57344<=(g s p).1)/\(g s p).2=3)\/(65536<=(g s p).1/\(g s p).1<=1114111/\(g s p).2=4):=by
 have o:=nT s p;have q:=nT s (p+1);have O:=nT s (p+2);have R:=nT s (p+3)
 unfold g Lib.decodeN
 repeat' split
 all_goals (dsimp only;omega)
theorem YC(s:List UInt8)(i:Nat):s.getD i 0=UInt8.ofNat (bx s i):=by unfold bx;simp
theorem Wf{s:List UInt8}{p n:Nat}(h:p+n<=s.length):cd s p (p+n)=(List.range n).map fun j=>UInt8.ofNat (bx s (p+j)):=by
 apply List.ext_getElem
 ·rw[abX h];simp
 ·intro i q o
  have O:i<n:=by simpa using o
  have:s[p+i]'(by omega)=UInt8.ofNat (bx s (p+i)):=by
   rw[<-YC,List.getD_eq_getElem?_getD,List.getElem?_eq_getElem (by omega)];rfl
  simp only[cd,List.getElem_drop,List.getElem_take,List.getElem_map,List.getElem_range,this]
theorem XC{s:List UInt8}{p:Nat}(h:p<s.length)(R:bad s p=false):cd s p (p+(g s p).2)=mf (g s p).1:=by
 have Y:=ju s p h
 rw[Wf Y.2.1]
 have Z:=nT s p;have la:=nT s (p+1);have lb:=nT s (p+2);have lc:=nT s (p+3)
 have o:¬((g s p).1=65533/\(g s p).2=1):=fun W=>by unfold bad at R;simp[W.1,W.2]at R
 clear R
 unfold g Lib.decodeN at*
 split
 ·rename_i c1
  simp[mf,c1]
 ·rename_i c1
  rw[if_neg c1]at o
  split
  ·rename_i c2
   rw[if_pos c2]at o
   split
   ·rename_i c3
    have q:¬(bx s p %32*64+bx s (p+1) %64<128):=by omega
    have O:bx s p %32*64+bx s (p+1) %64<2048:=by omega
    simp only[mf,if_neg q,if_pos O,List.range,List.range.loop,List.map,Nat.add_zero]
    rw[show 192+(bx s p %32*64+bx s (p+1) %64)/64=bx s p by omega,show 128+(bx s p %32*64+bx s (p+1) %64) %64=bx s (p+1) by omega]
   ·rename_i c3;rw[if_neg c3]at o;exact absurd ⟨rfl,rfl⟩ o
  ·rename_i c2
   rw[if_neg c2]at o
   split
   ·rename_i c3
    rw[if_pos c3]at o
    split
    ·rename_i c4
     have q:¬(bx s p %16*4096+bx s (p+1) %64*64+bx s (p+2) %64<128):=by omega
     have O:¬(bx s p %16*4096+bx s (p+1) %64*64+bx s (p+2) %64<2048):=by omega
     have U:bx s p %16*4096+bx s (p+1) %64*64+bx s (p+2) %64<65536:=by omega
     simp only[mf,if_neg q,if_neg O,if_pos U,List.range,List.range.loop,List.map,Nat.add_zero]
     rw[show 224+(bx s p %16*4096+bx s (p+1) %64*64+bx s (p+2) %64)/4096=bx s p by omega,
      show 128+(bx s p %16*4096+bx s (p+1) %64*64+bx s (p+2) %64)/64 %64=bx s (p+1) by omega,
      show 128+(bx s p %16*4096+bx s (p+1) %64*64+bx s (p+2) %64) %64=bx s (p+2) by omega]
    ·rename_i c4;rw[if_neg c4]at o;exact absurd ⟨rfl,rfl⟩ o
   ·rename_i c3
    rw[if_neg c3]at o
    split
    ·rename_i c4
     rw[if_pos c4]at o
     split
     ·rename_i c5
      have q:¬(bx s p %8*262144+bx s (p+1) %64*4096+bx s (p+2) %64*64+bx s (p+3) %64<128):=by omega
      have O:¬(bx s p %8*262144+bx s (p+1) %64*4096+bx s (p+2) %64*64+bx s (p+3) %64<2048):=by omega
      have U:¬(bx s p %8*262144+bx s (p+1) %64*4096+bx s (p+2) %64*64+bx s (p+3) %64<65536):=by omega
      simp only[mf,if_neg q,if_neg O,if_neg U,List.range,List.range.loop,List.map,Nat.add_zero]
      rw[show 240+(bx s p %8*262144+bx s (p+1) %64*4096+bx s (p+2) %64*64+bx s (p+3) %64)/262144=bx s p by omega,
       show 128+(bx s p %8*262144+bx s (p+1) %64*4096+bx s (p+2) %64*64+bx s (p+3) %64)/4096 %64=bx s (p+1) by omega,
       show 128+(bx s p %8*262144+bx s (p+1) %64*4096+bx s (p+2) %64*64+bx s (p+3) %64)/64 %64=bx s (p+2) by omega,
       show 128+(bx s p %8*262144+bx s (p+1) %64*4096+bx s (p+2) %64*64+bx s (p+3) %64) %64=bx s (p+3) by omega]
     ·rename_i c5;rw[if_neg c5]at o;exact absurd ⟨rfl,rfl⟩ o
    ·rename_i c4;rw[if_neg c4]at o;exact absurd ⟨rfl,rfl⟩ o
theorem UD(s:List UInt8)(p:Nat):yU (g s p).1:=by
 unfold yU
 rcases Si s p with h|h|h|h|h<;>omega
theorem V3(M:Int->Bool)(s:List UInt8):∀n p o aa,s.length<n+p->p<=s.length->kj M s n p o=(aa,0)->aa.flatMap enc=o.flatMap enc++s.drop p:=by
 intro n
 induction n with
 |zero=>intro p o aa R U h;omega
 |succ n W=>
  intro p o aa R U h
  unfold kj at h
  by_cases q:p<s.length
  ·rw[if_pos q]at h
   have Y:=ju s p q
   cases O:bad s p
   ·rw[O]at h
    simp only[Bool.false_eq_true,if_false]at h
    split at h
    ·cases h
    ·split at h
     ·cases h
     ·have:=W _ _ aa (by omega) Y.2.1 h
      rw[this,List.flatMap_append,List.append_assoc]
      refine congrArg (fun z=>o.flatMap enc++z) ?_
      have e:enc ((g s p).1:Int)=cd s p (p+(g s p).2):=by rw[Yu (UD s p),XC q O]
      simp only[List.flatMap_cons,List.flatMap_nil,List.append_nil]
      rw[e]
      unfold cd
      rw[<-List.drop_append_of_le_length (by rw[List.length_take];omega),List.take_append_drop]
   ·rw[O]at h
    simp at h
  ·rw[if_neg q]at h
   cases h
   rw[List.drop_of_length_le (by omega),List.append_nil]
theorem SM{a:br}{w:List UInt8}(O:w.length<=65536)(h:(wl a w).2=0):cz (wl a w).1=w:=by
 have q:=(AZ a w h).1
 unfold wl at h⊢
 rw[if_pos q]at h⊢
 rw[aaS]
 have o:w.length<65537+0:=by omega
 revert h o
 generalize (65537:Nat)=N
 intro h o
 have e:=V3 (qN a) w N 0 [] (kj (qN a) w N 0 []).1 o (Nat.zero_le _) (by rw[<-h])
 simpa using e
end Go.Ev
namespace Go.Ev
open Go
set_option maxRecDepth 100000
theorem Iq:∀(o:List (List UInt8)) (i:Nat) (x:List UInt8),o[i]? =some x->x∉o.take i->o.idxOf x=i
 |[],i,x,h,_=>by simp at h
 |y::o,0,x,h,_=>by simp at h;subst h;simp
 |y::o,i+1,x,h,q=>by
  simp only[List.getElem?_cons_succ]at h
  simp only[List.take_succ_cons,List.mem_cons,not_or]at q
  have:=Iq o i x h q.2
  rw[List.idxOf_cons,show(y==x)=false from by simp[Ne.symm q.1]]
  simp[this]
theorem aaQ(s:List (List UInt8))(v:List UInt8)(U:s.length<=5000):∀n i,i<=s.length->s.length-i<n->v∉s.take i->sU s v n (i:Int)=some (if v∈s then((s.idxOf v:Nat):Int)else-1):=by
 intro n
 induction n with
 |zero=>intro i _ h;omega
 |succ n R=>
  intro i W Y O
  unfold sU J0
  by_cases h:i<s.length
  ·rw[if_pos (by simp only[decide_eq_true_eq];omega),ff h]
   simp only[Option.bind_some]
   by_cases o:v=s[i]
   ·rw[if_pos (by simpa using o),if_pos (by rw[o];exact List.getElem_mem h),Iq s i v (by rw[List.getElem?_eq_getElem h,o]) O]
   ·rw[if_neg (by simpa using o),bG (by omega)]
    refine R (i+1) (by omega) (by omega) ?_
    rw[List.take_succ_eq_append_getElem h]
    intro q
    rcases List.mem_append.1 q with q|q
    ·exact O q
    ·exact o (List.mem_singleton.1 q)
  ·rw[if_neg (by simp only[decide_eq_true_eq];omega)]
   rw[List.take_of_length_le (by omega)]at O
   rw[if_neg O]
theorem ZG(s:List (List UInt8))(v:List UInt8)(o:s.length<=5000):sC 80000 s v=some (if v∈s then((s.idxOf v:Nat):Int)else-1):=by
 unfold sC
 exact aaQ s v o 80000 0 (Nat.zero_le _) (by omega) (by simp)
end Go.Ev
namespace Go.Ev
open Go
set_option maxRecDepth 100000
end Go.Ev
namespace Go.Ev
open Go
set_option maxRecDepth 100000
end Go.Ev
namespace Go.Ev
open Go
def Tf:Nat:=80000
set_option maxRecDepth 100000 in
theorem Uw:qz Tf=some true:=by decide+kernel
end Go.Ev
namespace Go.Ev
open Go
set_option linter.unusedVariables false
theorem Qw(r:fl)(n:Int):Has (wo 80000 r n) fun _=>True:=by
 unfold wo
 refine aQ (fun _=>az trivial) fun h=>?_
 exact cf (by simpa using h) (az trivial)
theorem YM(t:hZ):Has (rN 80000 t) fun _=>True:=by
 have l2:t.2.2.2.2.2.1.length<=200->∀n (i:Nat),i<=t.2.2.2.2.2.1.length->t.2.2.2.2.2.1.length-i<n->Has (vh t n (i:Int)) fun _=>True:=by
  intro q n
  induction n with
  |zero=>intro i _ h;omega
  |succ n o=>
   intro i U W
   unfold vh OH
   refine bO (fun Y=>?_) fun _=>az trivial
   refine bX (by omega) fun x _=>?_
   unfold Kc H2
   refine aQ (fun _=>az trivial) fun _=>?_
   rw[bG (by omega)]
   exact o (i+1) (by omega) (by omega)
 have l1:t.2.2.2.2.2.1.length<=200->∀n (i:Nat),i<=12->12-i<n->Has (ug 80000 t n (i:Int)) fun _=>True:=by
  intro q n
  induction n with
  |zero=>intro i _ h;omega
  |succ n o=>
   intro i U W
   unfold ug N6 Kr
   refine aQ (fun h=>?_) fun _=>l2 q 80000 0 (Nat.zero_le _) (by omega)
   simp only[Bool.and_eq_true,decide_eq_true_eq]at h
   refine bX (by omega) fun x _=>?_
   refine bO (fun _=>az trivial) fun _=>?_
   rw[bG (by omega)]
   exact o (i+1) (by omega) (by omega)
 have O:∀b,Has (vm 80000 t b) fun _=>True:=by
  intro b
  unfold vm L9 Lf
  refine aQ (fun _=>az trivial) fun h=>?_
  simp only[Bool.or_eq_false_iff,decide_eq_false_iff_not]at h
  exact l1 (by omega) 80000 0 (Nat.zero_le _) (by omega)
 have R:∀b,Has (Hq 80000 t b) fun _=>True:=by
  intro b
  unfold Hq JS
  exact aQ (fun _=>O _) fun _=>O _
 unfold rN Ia Oo MQ yE
 exact aQ (fun _=>R _) fun _=>R _
theorem aaj(t:hZ)(w:List UInt8):Has (uJ 80000 t w) fun b=>b=false->w.length<=2000:=by
 unfold uJ
 refine bO (fun _=>az fun U=>nomatch U) fun Z=>?_
 have l2:t.2.2.2.2.2.1.length<=64->∀n (q m:Int) (i:Nat),i<=t.2.2.2.2.2.1.length->t.2.2.2.2.2.1.length-i<n->Has (rl 80000 t n q m (i:Int)) fun _=>True:=by
  intro la n
  induction n with
  |zero=>intro _ _ i _ h;omega
  |succ n O=>
   intro q m i W Y
   have R:i<t.2.2.2.2.2.1.length->∀m,Has (uP 80000 t (i:Int) q (rl 80000 t n) m) fun _=>True:=by
    intro o m
    unfold uP
    refine bX o fun x _=>?_
    refine bn (Qw _ _) fun v _=>?_
    rw[bG (by omega)]
    exact O _ _ (i+1) (by omega) (by omega)
   unfold rl ME
   refine bO (fun o=>?_) fun _=>az trivial
   refine bX (by omega) fun x _=>?_
   refine aQ (fun _=>?_) fun _=>R (by omega) _
   exact bO (fun _=>az trivial) fun _=>R (by omega) _
 have l1:∀n (c:Int) p,p<=w.length->w.length-p<n->Has (su 80000 w t n c p) fun _=>True:=by
  intro n
  induction n with
  |zero=>intro _ p _ h;omega
  |succ n O=>
   intro c p W Y
   unfold su Np
   refine bO (fun o=>?_) fun _=>?_
   ·have lb:=ju w p o
    rw[iR]
    exact O _ _ (by omega) (by omega)
   ·unfold NM
    refine aQ (fun _=>az trivial) fun h=>?_
    simp only[Bool.or_eq_false_iff,decide_eq_false_iff_not]at h
    exact l2 (by omega) 80000 _ _ 0 (Nat.zero_le _) (by omega)
 exact jZ (l1 80000 0 0 (Nat.zero_le _) (by omega)) fun _ _ _=>by omega
theorem ack(a:br){w:List UInt8}(o:w.length<=65536):je 80000 a w=some (wl a w).2:=by
 unfold je
 rw[show((a.1,a.2.1,()):br)=a from rfl,F0 a o]
 rfl
theorem Yt{a:br}(q:cI a=true){w:List UInt8}(O:w.length<=65536)(o:(wl a w).2=0):gl 80000 a a w=some (w,0):=by
 have U:=SM O o
 obtain⟨_,W,R⟩:=AZ a w o
 rcases Vm a a O with ⟨e,Y,h'⟩|⟨_,_,_,aA,Z,h'⟩
 ·exfalso
  unfold gl at h'
  rw[show((a.1,a.2.1,()):br)=a from rfl,kb,q]at h'
  simp only[Option.bind_some,if_true]at h'
  rw[if_neg (by simp),if_neg (by simp),F0 a O]at h'
  simp only[Option.bind_some]at h'
  rw[if_neg (by simp[o])]at h'
  obtain⟨m2,lb,la⟩:=JL q q
  rw[la]at h'
  simp only[Option.bind_some]at h'
  rw[Jp m2 _ W,o]at h'
  simp only[Option.bind_some]at h'
  injection h' with h'
  injection h' with _ h'
  exact Y h'.symm
 ·rw[h',abp Z R R,U]
theorem UN{t:hZ}(q:kH 80000 t=some 0)(o:cI t.1=true){w:List UInt8}(O:w.length<=65536)(R:(wl t.1 w).2=0){i:Nat}(U:i<=t.2.2.2.2.2.1.length):jJ 80000 t.1 t w (i:Int)=some (cT t.1 (t.2.2.2.2.2.1.drop i) w):=by
 have W:px 80000 t.1 t w=some (w,0):=by
  unfold px
  rw[show eK 80000 ((t.1.1,t.1.2.1,()):br)=some (if cI t.1 then 0 else 7)from kb t.1,o,Option.bind_some]
  rw[if_neg (by simp),show kH 80000 ((t.1.1,t.1.2.1,()),t.2.1,t.2.2.1,t.2.2.2.1,t.2.2.2.2.1,t.2.2.2.2.2.1,t.2.2.2.2.2.2.1,())=_ from q,Option.bind_some,if_neg (by simp)]
  rw[show gl 80000 ((t.1.1,t.1.2.1,()):br) (t.1.1,t.1.2.1,()) w=_ from Yt o O R]
  rfl
 unfold jJ
 rw[show px 80000 ((t.1.1,t.1.2.1,()):br) ((t.1.1,t.1.2.1,()),t.2.1,t.2.2.1,t.2.2.2.1,t.2.2.2.2.1,t.2.2.2.2.2.1,t.2.2.2.2.2.2.1,()) w=_ from W,Option.bind_some,if_neg (by simp)]
 unfold Kw
 rw[if_neg (by simp only[Bool.or_eq_true,decide_eq_true_eq];omega),kh U,Option.bind_some]
 rw[show mq 80000 ((t.1.1,t.1.2.1,()):br) (t.2.2.2.2.2.1.drop i) w=_ from Pp _ _ _]
 rfl
theorem aaF{l:List (List UInt8)}(o:l.length<=5000)(v:List UInt8):tG 80000 l v=some (decide (v∈l)):=by
 unfold tG
 rw[ZG l v o]
 simp only[Option.bind_some]
 by_cases h:v∈l
 ·rw[if_pos h,decide_eq_true h,decide_eq_true (by omega)]
 ·rw[if_neg h,decide_eq_false h,decide_eq_false (by omega)]
def da(f:Nat->List UInt8):Nat->List (List UInt8)
 |0=>[]
 |i+1=>if f i∈da f i then da f i else da f i++[f i]
theorem A2(f:Nat->List UInt8):∀i,(da f i).length<=i
 |0=>Nat.le_refl _
 |i+1=>by
  have:=A2 f i
  unfold da
  split
  ·omega
  ·simp only[List.length_append,List.length_cons,List.length_nil];omega
theorem Hh(f:Nat->List UInt8)(i:Nat):∀m,da f i<+:da f (i+m)
 |0=>List.prefix_refl _
 |m+1=>by
  refine List.IsPrefix.trans (Hh f i m) ?_
  rw[<-Nat.add_assoc]
  show da f (i+m)<+:(if f (i+m)∈da f (i+m)then da f (i+m)else da f (i+m)++[f (i+m)])
  split
  ·exact List.prefix_refl _
  ·exact List.prefix_append _ _
end Go.Ev
namespace Go.Ev
open Go Go.RowKit Go.WideShapes
variable [cm]
def ip:(t:ah)->t.el->Prop
 |.int k,n=>(Lit.int k n).wf=true
 |.str,s=>List.length (α:=UInt8) s<=maxLen
 |.ab t,xs=>List.length (α:=t.el) xs<=maxLen/\∀x∈(show List t.el from xs),ip t x
 |.pair a b,x=>ip a x.1/\ip b x.2
 |.arr n t,xs=>List.length (α:=t.el) xs=n/\∀x∈(show List t.el from xs),ip t x
 |_,_=>True
def mQ:ah->Bool
 |.int _=>true
 |.bool=>true
 |.str=>true
 |.ab t=>mQ t
 |.unit=>true
 |.pair a b=>mQ a&&mQ b
 |.arr _ t=>mQ t
 |_=>false
theorem P2{w:World}{a:Addr}{n:Nat}{c:List Value}(h:w.cells? 0 a n=some c):c.length=n/\∀j v,c[j]? =some v->w.cell? (a.add j)=some v:=by
 unfold World.cells? at h
 rw[if_pos (Nat.zero_le _)]at h
 have o:c.length=n:=by simpa using mapM_some_length h
 refine⟨o,fun j v q=>?_⟩
 have O:j<n:=by rw[<-o];exact(List.getElem?_eq_some_iff.1 q).1
 have:=mapM_some_get h j j (by simp[O])
 rw[this,q]
theorem Cw{α:Type}{f:List Value->α->Prop}:∀{xs:List α} {cs c:List Value} {x:α},bT f cs xs->f c x->bT f (cs++c) (xs++[x])
 |[],cs,c,x,h,o=>by cases h;exact⟨c,[],by simp,o,rfl⟩
 |y::R,cs,c,x,⟨c1,c2,e,q,O⟩,o=>⟨c1,c2++c,by simp[e],q,Cw O o⟩
theorem MY{α:Type}{p:α->Prop}{xs:List α}{y:α}(h:∀x∈xs,p x)(q:p y):∀x∈xs++[y],p x:=by
 intro x o
 rcases List.mem_append.1 o with o|o
 ·exact h x o
 ·simp at o;subst o;exact q
theorem K8{H:Type}{enc:TypeId×Value->H}{P:Program}{w:World}{spare:Nat->Bool}{held:Bool}{d n:Nat}
  (R:∀(t:TypeId) (u:ah),dc P d t=some u->mQ u=true->∀(cs:List Value) (x:DataW H×List MemPlace),DataW.trod enc P w 0 spare held n t cs=some x->∃y:u.el,aL w (fun _=>False) u cs y/\ip u y):
  ∀(an:List Field) (off:Nat) (u:ah),fieldsOf (dc P d) off an=some u->mQ u=true->∀(cs:List Value),cs.length=off+u.cells->(∀f∈an,∃x,DataW.trod enc P w 0 spare held n f.type ((cs.drop f.offset).take (P.cellsOf f.type))=some x)->
   ∃y:u.el,aL w (fun _=>False) u (cs.drop off) y/\ip u y
 |[],off,u,h,_,cs,o,_=>by
  simp only[fieldsOf,Option.some.injEq]at h
  subst h
  refine⟨(),?_,trivial⟩
  show cs.drop off=[]
  exact List.drop_eq_nil_of_le (by rw[o];exact Nat.le_refl _)
 |fd::an,off,u,h,q,cs,o,U=>by
  unfold fieldsOf at h
  cases O:Nat.beq fd.offset off with
  |false=>rw[O]at h;cases h
  |true=>
   have Z:=Nat.eq_of_beq_eq_true O
   rw[O,cond_true]at h
   split at h
   ·rename_i a W
    split at h
    ·rename_i b la
     cases h
     simp only[mQ,Bool.and_eq_true]at q
     obtain⟨x,lb⟩:=U fd List.mem_cons_self
     obtain⟨y,Y,lc⟩:=R fd.type a W q.1 _ x lb
     have ld:cs.length=(off+a.cells)+b.cells:=by rw[o];show off+(a.cells+b.cells)=_;omega
     obtain⟨z,le,lf⟩:=K8 R an (off+a.cells) b la q.2 cs ld fun f lg=>U f (List.mem_cons_of_mem _ lg)
     refine⟨(y,z),⟨(cs.drop off).take a.cells,cs.drop (off+a.cells),?_,?_,le⟩,lc,lf⟩
     ·rw[<-List.drop_drop,List.take_append_drop]
     ·rw[Z,wL W]at Y;exact Y
    ·cases h
   ·cases h
theorem xK{H:Type}{enc:TypeId×Value->H}{P:Program}{w:World}{spare:Nat->Bool}{held:Bool}:∀(d:Nat) (t:TypeId) (u:ah),dc P d t=some u->mQ u=true->∀(lo:Nat) (cs:List Value) (x:DataW H×List MemPlace),
  DataW.trod enc P w 0 spare held lo t cs=some x->∃y:u.el,aL w (fun _=>False) u cs y/\ip u y
 |0,_,_,h=>by cases h
 |d+1,t,u,h=>by
  intro la lo cs x Y
  unfold dc at h
  split at h
  ·rename_i i k U q
   cases o:Nat.beq i.size 1<;>rw[o]at h<;>cases h
   obtain⟨n,rfl,_,li⟩:=DataW.trod_int q Y
   exact⟨n,rfl,li⟩
  ·rename_i i U q
   cases o:Nat.beq i.size 1<;>rw[o]at h<;>cases h
   obtain⟨b,rfl,_⟩:=DataW.trod_bool q Y
   exact⟨b,rfl,trivial⟩
  ·rename_i i U q
   cases o:Nat.beq i.size 1<;>rw[o]at h<;>cases h
   obtain⟨s,rfl,_,li⟩:=DataW.trod_string q Y
   have ld:List.length s.data.toList<=maxLen:=by rw[Array.length_toList];exact li
   exact⟨s.data.toList,⟨rfl,ld⟩,ld⟩
  ·rename_i i e U q
   cases o:Nat.beq i.size 1<;>rw[o]at h
   ·cases h
   rw[cond_true]at h
   split at h
   case h_2=>cases h
   rename_i v lb
   cases h
   rcases DataW.trod_slice q Y with ⟨rfl,_⟩|⟨a,len,cap,lt,rest,n,_,rfl,_,_,lp,lq,lH,le,_⟩
   ·exact⟨[],⟨none,0,[],rfl,Nat.le_refl _,by decide,fun _=>rfl,rfl,fun j u R=>by simp at R⟩,Nat.zero_le _,fun x Y=>by cases Y⟩
   ·have key:∀k,k<=len->∃(O:List v.el) (cells:List Value),O.length=k/\bT (aL w (fun _=>False) v) cells O/\(∀y∈O,ip v y)/\cells.length=k*v.cells/\∀j u,cells[j]? =some u->w.cell? (a.add j)=some u:=by
     intro k
     induction k with
     |zero=>intro _;exact⟨[],[],rfl,rfl,(fun y lj=>by cases lj),by simp,fun j u R=>by simp at R⟩
     |succ k lk=>
      intro lu
      obtain⟨O,cells,W,Z,lc,lg,ll⟩:=lk (by omega)
      have lf:=le k (by omega)
      have:∃z,lt[k]? =some z:=⟨_,List.getElem?_eq_getElem (by omega)⟩
      obtain⟨z,lm⟩:=this
      rw[lm,Option.bind_eq_some_iff]at lf
      obtain⟨c,lv,lw⟩:=lf
      obtain⟨c1,c2⟩:=P2 lv
      obtain⟨y,lh,cy⟩:=xK d e v lb la n c z lw
      rw[wL lb]at c1 c2
      refine⟨O++[y],cells++c,by simp[W],Cw Z lh,MY lc cy,by rw[List.length_append,lg,c1,Nat.succ_mul],fun j u R=>?_⟩
      by_cases lr:j<cells.length
      ·rw[List.getElem?_append_left lr]at R;exact ll j u R
      ·rw[List.getElem?_append_right (by omega)]at R
       have:=c2 _ u R
       rw[add_add,lg]at this
       rw[lg]at lr
       rwa [show k*v.cells+(j-k*v.cells)=j by omega]at this
    obtain⟨O,cells,W,Z,lc,lg,ll⟩:=key len (Nat.le_refl _)
    refine⟨O,⟨some a,cap,cells,by rw[W],by rw[W];exact lp,lq,(fun ln:some a=none=>by cases ln),Z,fun j u R=>⟨a,rfl,ll j u R,fun h=>h⟩⟩,by rw[W];exact Nat.le_trans lp lq,lc⟩
  ·rename_i i an U q
   split at h
   case h_2=>cases h
   rename_i v lb
   cases o:Nat.beq i.size v.cells<;>rw[o]at h<;>cases h
   obtain⟨xs,n,_,_,ld,lx,le⟩:=DataW.trod_struct q Y
   have ls:cs.length=u.cells:=by
    rw[ld]
    simp[Program.cellsOf,U,Nat.eq_of_beq_eq_true o]
   have:=K8 (n:=n) (fun ly lz lA lB lC x' lD=>xK d ly lz lA lB n lC x' lD) an.toList 0 u lb la cs (by rw[ls,Nat.zero_add]) (by
    intro f lE
    obtain⟨j,R,e⟩:=List.getElem_of_mem lE
    have lF:j<an.size:=by simpa using R
    have:=le j f (by rw[Array.getElem?_eq_getElem lF,<-e];simp)
    rw[this]
    exact⟨_,List.getElem?_eq_getElem (by omega)⟩)
   rw[List.drop_zero]at this
   exact this
  ·rename_i i lI U q
   cases o:Nat.beq i.size 1<;>rw[o]at h<;>cases h
   cases la
  ·rename_i i n e U q
   split at h
   case h_2=>cases h
   rename_i v lb
   cases o:Nat.beq i.size (n*v.cells)<;>rw[o]at h<;>cases h
   obtain⟨xs,m,_,_,ld,lx,le⟩:=DataW.trod_array q Y
   have ls:cs.length=n*v.cells:=by
    rw[ld]
    simp[Program.cellsOf,U,Nat.eq_of_beq_eq_true o]
   have key:∀k,k<=n->∃O:List v.el,O.length=k/\bT (aL w (fun _=>False) v) (cs.take (k*v.cells)) O/\∀y∈O,ip v y:=by
    intro k
    induction k with
    |zero=>intro _;exact⟨[],rfl,by simp[bT],fun y lj=>by cases lj⟩
    |succ k lk=>
     intro lu
     obtain⟨O,W,Z,lc⟩:=lk (by omega)
     have lf:=le k (by omega)
     obtain⟨z,lm⟩:∃z,xs[k]? =some z:=⟨_,List.getElem?_eq_getElem (by omega)⟩
     rw[lm]at lf
     obtain⟨y,lh,cy⟩:=xK d e v lb la m _ z lf
     rw[wL lb]at lh
     refine⟨O++[y],by simp[W],?_,MY lc cy⟩
     have lG:cs.take ((k+1)*v.cells)=cs.take (k*v.cells)++(cs.drop (k*v.cells)).take v.cells:=by
      rw[Nat.succ_mul,List.take_add]
     rw[lG]
     exact Cw Z lh
   obtain⟨O,W,Z,lc⟩:=key n (Nat.le_refl _)
   rw[List.take_of_length_le (by omega)]at Z
   exact⟨O,⟨W,Z⟩,W,lc⟩
  ·rename_i i k e U q
   cases o:Nat.beq i.size 1<;>rw[o]at h
   ·cases h
   rw[cond_true]at h
   split at h
   ·cases h;cases la
   ·cases h
  ·rename_i i a b c U q
   cases o:Nat.beq i.size 1<;>rw[o]at h
   ·cases h
   rw[cond_true]at h
   cases ln:(isNamed i.desc&&!Nat.beq b.size 0)<;>rw[ln]at h<;>cases h<;>cases la
  ·rename_i i e U q
   cases o:Nat.beq i.size 1<;>rw[o]at h<;>cases h
   cases la
  ·cases h
theorem NJ{H:Type}{enc:TypeId×Value->H}{P:Program}{w:World}{spare:Nat->Bool}{held:Bool}{r:Reach}{Z:Nat}{t:TypeId}{u:ah}(W:ty P t=some u)(Y:mQ u=true){v:Value}{d:DataW H}{ps:List MemPlace}
  (o:Value.okWide P w r Z t v)(ai:DataW.Trod enc P w 0 spare held t v d ps):∃x:u.el,bf w (fun _=>False) v u x/\ip u x:=by
 obtain⟨la,lb⟩:=ai
 obtain⟨x,R,lc⟩:=xK jn t u W Y la _ _ lb
 refine⟨x,?_,lc⟩
 obtain⟨i,le,lf,q⟩:=dw W
 cases O:u.agg with
 |true=>
  have:∃cs,v=.agg cs:=by
   have U:(∃an,P.underlying t=some (.struct an))\/∃n e,P.underlying t=some (.array n e):=by
    cases u with
    |unit=>obtain⟨an,_,h,_⟩:=q;exact .inl ⟨an,h⟩
    |pair a b=>obtain⟨an,_,h,_⟩:=q;exact .inl ⟨an,h⟩
    |arr n t=>obtain⟨e,_,h,_⟩:=q;exact .inr ⟨n,e,h⟩
    |_=>cases O
   unfold Value.okWide at o
   rcases U with ⟨an,h⟩|⟨n,e,h⟩
   ·rw[h]at o;obtain⟨cs,e,_⟩:=o;exact⟨cs,e⟩
   ·rw[h]at o;obtain⟨cs,e,_⟩:=o;exact⟨cs,e⟩
  obtain⟨cs,rfl⟩:=this
  exact(eG O).2 ⟨cs.toList,by simp,R⟩
 |false=>
  refine(bC O).2 ?_
  have ld:v.cells.toList=[v]:=by
   cases u with
   |int k=>obtain⟨n,rfl⟩:=okWide_int q o;rfl
   |bool=>obtain⟨n,rfl⟩:=okWide_bool q o;rfl
   |str=>obtain⟨n,rfl⟩:=okWide_string q o;rfl
   |ab e=>obtain⟨lg,_,U,_⟩:=q;obtain⟨a,l,c,rfl⟩:=okWide_slice U o;rfl
   |unit=>cases O
   |pair a b=>cases O
   |arr n t=>cases O
   |_=>cases Y
  rw[ld]at R
  exact R
end Go.Ev
namespace Go.Ev
open Go
set_option linter.unusedVariables false
def cD(t:hZ)(w:List UInt8)(i:Nat):List UInt8:=(cT t.1 (t.2.2.2.2.2.1.drop i) w).1
theorem Rs(t:hZ)(w:List UInt8)(lc:t.2.2.2.2.2.1.length<=64):∀n (i:Nat),i<=t.2.2.2.2.2.1.length+1->t.2.2.2.2.2.1.length+1-i<n->
  Has (qF 80000 t w n (i:Int) (da (cD t w) i)) fun v=>(v.2≠0->v.1=[])/\(v.2=0->(∀j,i<=j->j<=t.2.2.2.2.2.1.length->(cT t.1 (t.2.2.2.2.2.1.drop j) w).2=0)/\v.1=da (cD t w) (t.2.2.2.2.2.1.length+1)):=by
 have ld:=gN
 intro n
 induction n with
 |zero=>intro i _ h;omega
 |succ n Y=>
  intro i le lf
  unfold qF Mo
  rw[bG (by omega)]
  refine bO (fun lg=>?_) fun lh=>az ⟨fun o=>absurd rfl o,fun _=>⟨fun j Z W=>by omega,?_⟩⟩
  ·rw[kh (by omega),Option.bind_some,show mq 80000 ((t.1.1,t.1.2.1,()):br) (t.2.2.2.2.2.1.drop i) w=_ from Pp _ _ _,Option.bind_some]
   refine aQ (fun h=>az ⟨fun _=>rfl,fun o=>?_⟩) fun h=>?_
   ·rw[show(cT t.1 (t.2.2.2.2.2.1.drop i) w).2=0 from o]at h
    cases h
   have la:(cT t.1 (t.2.2.2.2.2.1.drop i) w).2=0:=by simpa using h
   have li:=A2 (cD t w) i
   rw[aaF (by omega),Option.bind_some]
   have lb:=Y (i+1) (by omega) (by omega)
   have q:Has (qF 80000 t w n ((i+1:Nat):Int) (da (cD t w) (i+1))) fun v=>(v.2≠0->v.1=[])/\(v.2=0->(∀j,i<=j->j<=t.2.2.2.2.2.1.length->(cT t.1 (t.2.2.2.2.2.1.drop j) w).2=0)/\v.1=da (cD t w) (t.2.2.2.2.2.1.length+1)):=by
    refine jZ lb fun v O=>⟨O.1,fun o=>⟨fun j Z W=>?_,(O.2 o).2⟩⟩
    by_cases e:j=i
    ·rw[e];exact la
    ·exact(O.2 o).1 j (by omega) W
   unfold zd
   rw[bG (by omega)]
   refine aQ (fun aJ=>?_) fun aJ=>?_
   ·have R:(!decide (cD t w i∈da (cD t w) i))=true:=aJ
    have U:cD t w i∉da (cD t w) i:=by simpa using R
    refine cf (by simp only[List.length_cons,List.length_nil];omega) ?_
    have e:da (cD t w) (i+1)=da (cD t w) i++[cD t w i]:=by
     show(if cD t w i∈da (cD t w) i then _ else _)=_
     rw[if_neg U]
    rw[e]at q
    exact q
   ·have R:(!decide (cD t w i∈da (cD t w) i))=false:=aJ
    have U:cD t w i∈da (cD t w) i:=by simpa using R
    have e:da (cD t w) (i+1)=da (cD t w) i:=by
     show(if cD t w i∈da (cD t w) i then _ else _)=_
     rw[if_pos U]
    rw[e]at q
    exact q
  ·have:i=t.2.2.2.2.2.1.length+1:=by omega
   rw[this]
abbrev aaK:Type:=Int->Int->List (List UInt8)->List cZ->Int->Int->List py->List rV->List fl->List (List UInt8)->Option Bool
theorem T4{l:List (List UInt8)}{o:Nat}(lc:o<=l.length)(ld:o<=1000)(U W:Int)(v:List UInt8)(O:aaK)(i:Int)(t4:List (List UInt8))(t5:List cZ)(t6 t7:Int)(t8:List py)(t9:List rV)(t10:List fl)(t11:List (List UInt8)):
  ∀n (j:Nat),j<=o->o-j<n->rp (o:Int) (l,U) (v,W) O i t4 t5 t6 t7 t8 t9 t10 t11 n (decide (v∈l.take j)) (j:Int)=
   if v∈l.take o then O (o:Int) (ag (i+1)) t4 t5 t6 t7 t8 t9 t10 t11
   else if h:o<l.length then(if l[o]=v then O (ag ((o:Int)+1)) (ag (i+1)) t4 t5 t6 t7 t8 t9 t10 t11 else some false)else some false:=by
 intro n
 induction n with
 |zero=>intro j _ h;omega
 |succ n la=>
  intro j le lf
  unfold rp Iv xc
  by_cases h:j<o
  ·rw[if_pos (by simp only[decide_eq_true_eq];omega),bG (by omega)]
   have Y:j<l.length:=by omega
   have Z:l.take (j+1)=l.take j++[l[j]]:=List.take_succ_eq_append_getElem Y
   have ai:∀b:Bool,decide (v∈l.take (j+1))=b->rp (o:Int) (l,U) (v,W) O i t4 t5 t6 t7 t8 t9 t10 t11 n b ((j+1:Nat):Int)=_:=fun b lb=>lb▸la (j+1) (by omega) (by omega)
   by_cases c:v∈l.take j
   ·rw[if_pos (by simpa using c)]
    exact ai true (decide_eq_true (by rw[Z];exact List.mem_append.2 (.inl c)))
   ·rw[if_neg (by simpa using c),ff Y]
    simp only[Option.bind_some]
    refine ai _ ?_
    rw[Z,Bool.eq_iff_iff]
    simp only[decide_eq_true_eq,List.mem_append,List.mem_singleton,beq_iff_eq]
    exact⟨fun q=>(q.resolve_left c).symm,fun q=>.inr q.symm⟩
  ·rw[if_neg (by simp only[decide_eq_true_eq];omega)]
   have:j=o:=by omega
   subst this
   unfold tV yA tV
   by_cases c:v∈l.take j
   ·rw[if_pos (by simpa using c),if_pos c]
   ·rw[if_neg (by simpa using c),if_neg c]
    by_cases R:j<l.length
    ·rw[if_neg (by simp only[decide_eq_true_eq];omega),dif_pos R,ff R]
     simp only[Option.bind_some]
     by_cases q:l[j]=v
     ·rw[if_pos q,if_neg (by simp[q])]
     ·rw[if_neg q,if_pos (by simpa using q)]
    ·rw[if_pos (by simp only[decide_eq_true_eq];omega),dif_neg R,if_pos rfl]
theorem Yx{t:hZ}(W:kH 80000 t=some 0)(Y:cI t.1=true){w:List UInt8}(Z:w.length<=65536)(la:(wl t.1 w).2=0)(lg:t.2.2.2.2.2.1.length<=64)
  (lb:∀j,j<=t.2.2.2.2.2.1.length->(cT t.1 (t.2.2.2.2.2.1.drop j) w).2=0)(q:Int):∀n (i:Nat),i<=t.2.2.2.2.2.1.length+1->t.2.2.2.2.2.1.length+1-i<n->
  qe 80000 w (da (cD t w) (t.2.2.2.2.2.1.length+1),q) n ((da (cD t w) i).length:Int) (i:Int) t.1.1 t.1.2.1 t.2.1 t.2.2.1 t.2.2.2.1 t.2.2.2.2.1 t.2.2.2.2.2.1 t.2.2.2.2.2.2.1=some true:=by
 intro n
 induction n with
 |zero=>intro i _ h;omega
 |succ n lc=>
  intro i lh li
  unfold qe Lr
  by_cases h:i<=t.2.2.2.2.2.1.length
  ·rw[if_pos (by simp only[decide_eq_true_eq];omega)]
   rw[show jJ 80000 ((t.1.1,t.1.2.1,()):br) ((t.1.1,t.1.2.1,()),t.2.1,t.2.2.1,t.2.2.2.1,t.2.2.2.2.1,t.2.2.2.2.2.1,t.2.2.2.2.2.2.1,()) w (i:Int)=_ from UN W Y Z la h,Option.bind_some]
   rw[lb i h,if_neg (by simp)]
   obtain⟨r,O⟩:=Hh (cD t w) i (t.2.2.2.2.2.1.length+1-i)
   rw[show i+(t.2.2.2.2.2.1.length+1-i)=t.2.2.2.2.2.1.length+1 by omega]at O
   have lj:=A2 (cD t w) i
   have ld:(da (cD t w) i).length<=(da (cD t w) (t.2.2.2.2.2.1.length+1)).length:=by rw[<-O,List.length_append];omega
   have le:(da (cD t w) (t.2.2.2.2.2.1.length+1)).take (da (cD t w) i).length=da (cD t w) i:=by rw[<-O,List.take_left]
   have:=T4 ld (by omega) q (cT t.1 (t.2.2.2.2.2.1.drop i) w).2 (cD t w i) (qe 80000 w (da (cD t w) (t.2.2.2.2.2.1.length+1),q) n) (i:Int) t.1.1 t.1.2.1 t.2.1 t.2.2.1 t.2.2.2.1 t.2.2.2.2.1 t.2.2.2.2.2.1 t.2.2.2.2.2.2.1 80000 0 (Nat.zero_le _) (by omega)
   rw[List.take_zero,decide_eq_false (by simp),le]at this
   refine this.trans ?_
   rw[bG (by omega)]
   have o:=lc (i+1) (by omega) (by omega)
   by_cases c:cD t w i∈da (cD t w) i
   ·rw[if_pos c]
    have e:da (cD t w) (i+1)=da (cD t w) i:=by
     show(if cD t w i∈da (cD t w) i then _ else _)=_
     rw[if_pos c]
    rw[e]at o
    exact o
   ·rw[if_neg c]
    have e:da (cD t w) (i+1)=da (cD t w) i++[cD t w i]:=by
     show(if cD t w i∈da (cD t w) i then _ else _)=_
     rw[if_neg c]
    obtain⟨lk,R⟩:=Hh (cD t w) (i+1) (t.2.2.2.2.2.1.length-i)
    rw[show i+1+(t.2.2.2.2.2.1.length-i)=t.2.2.2.2.2.1.length+1 by omega,e]at R
    have U:(da (cD t w) i).length<(da (cD t w) (t.2.2.2.2.2.1.length+1)).length:=by rw[<-R];simp only[List.length_append,List.length_cons,List.length_nil];omega
    have lf:(da (cD t w) (t.2.2.2.2.2.1.length+1))[(da (cD t w) i).length]'U=cD t w i:=by
     have:(da (cD t w) (t.2.2.2.2.2.1.length+1))[(da (cD t w) i).length]? =some (cD t w i):=by
      rw[<-R,List.append_assoc,List.getElem?_append_right (Nat.le_refl _)]
      simp
     rw[List.getElem?_eq_getElem U]at this
     exact Option.some.inj this
    rw[dif_pos U,if_pos lf,bG (by omega)]
    rw[e,List.length_append]at o
    exact o
  ·rw[if_neg (by simp only[decide_eq_true_eq];omega)]
   have:i=t.2.2.2.2.2.1.length+1:=by omega
   rw[this]
   simp
theorem WR{t:hZ}(W:xp t)(w:List UInt8):u6 80000 t w=some true:=by
 unfold u6
 rw[show qz 80000=_ from Uw,Option.bind_some,if_neg (by simp)]
 obtain⟨v2,Y,_⟩:=YM t
 rw[show rN 80000 ((t.1.1,t.1.2.1,()),t.2.1,t.2.2.1,t.2.2.2.1,t.2.2.2.2.1,t.2.2.2.2.2.1,t.2.2.2.2.2.2.1,())=_ from Y,Option.bind_some]
 unfold Mn
 by_cases R:(v2||decide ((5:Int)<(List.length t.2.2.2.2.2.1:Int)))=true
 ·rw[if_pos R];rfl
 rw[if_neg R]
 simp only[Bool.or_eq_true,decide_eq_true_eq,not_or]at R
 obtain⟨v5,Z,la⟩:=aaj t w
 rw[show uJ 80000 ((t.1.1,t.1.2.1,()),t.2.1,t.2.2.1,t.2.2.2.1,t.2.2.2.2.1,t.2.2.2.2.2.1,t.2.2.2.2.2.2.1,()) w=_ from Z,Option.bind_some]
 unfold vr
 by_cases o:v5=true
 ·rw[if_pos o]
 rw[if_neg o]
 have lo:=la (by simpa using o)
 obtain⟨e,lb,lc⟩:=TS W
 have ld:Has (oR 80000 t w) fun v=>(v.2≠0->v.1=[])/\(v.2=0->kH 80000 t=some 0/\cI t.1=true/\(wl t.1 w).2=0/\(∀j,j<=t.2.2.2.2.2.1.length->(cT t.1 (t.2.2.2.2.2.1.drop j) w).2=0)/\v.1=da (cD t w) (t.2.2.2.2.2.1.length+1)):=by
  unfold oR
  rw[show kH 80000 ((t.1.1,t.1.2.1,()),t.2.1,t.2.2.1,t.2.2.2.1,t.2.2.2.2.1,t.2.2.2.2.2.1,t.2.2.2.2.2.2.1,())=_ from lb,Option.bind_some]
  refine aQ (fun h=>az ⟨fun _=>rfl,fun q=>?_⟩) fun h=>?_
  ·rw[show e=0 from q]at h;cases h
  have U:e=0:=by simpa using h
  rw[show je 80000 ((t.1.1,t.1.2.1,()):br) w=_ from ack t.1 (by omega),Option.bind_some]
  refine aQ (fun h=>az ⟨fun _=>rfl,fun q=>?_⟩) fun h=>?_
  ·rw[show(wl t.1 w).2=0 from q]at h;cases h
  have le:(wl t.1 w).2=0:=by simpa using h
  refine jZ (Rs t w (by omega) 80000 0 (Nat.zero_le _) (by omega)) fun v o=>⟨o.1,fun q=>?_⟩
  exact⟨by rw[U],lc U,le,fun j lf=>(o.2 q).1 j (Nat.zero_le _) lf,(o.2 q).2⟩
 obtain⟨v3,lg,lh,li⟩:=ld
 rw[show oR 80000 ((t.1.1,t.1.2.1,()),t.2.1,t.2.2.1,t.2.2.2.1,t.2.2.2.2.1,t.2.2.2.2.2.1,t.2.2.2.2.2.2.1,()) w=_ from lg,Option.bind_some]
 by_cases O:v3.2=0
 ·rw[if_neg (by simpa using O)]
  obtain⟨lj,lk,ll,lm,ln⟩:=li O
  have:=Yx lj lk (w:=w) (by omega) ll (by omega) lm v3.2 80000 0 (Nat.zero_le _) (by omega)
  rw[<-ln]at this
  exact this
 ·rw[if_pos (by simpa using O),lh O];rfl
def Pb:Nat:=80000
theorem aaL{t:hZ}(k:ip iG t):xp t:=by
 intro p q
 have o:=k.2.2.2.1.2 p q
 refine⟨o.1,fun c O x R=>?_⟩
 have U:=o.2.1.2 c O
 have W:=U.2.1.2 x R
 exact W.2.1
end Go.Ev
namespace Go.Ev
open Go
theorem aay(q:hZ)(o:List UInt8)(O:ip iG q)(R:ip .str o):u6 Pb q o=some true:=WR (aaL O) o
end Go.Ev
