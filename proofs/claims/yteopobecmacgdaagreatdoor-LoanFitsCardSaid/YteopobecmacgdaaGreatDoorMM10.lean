/- Plain laws: an alphabet that may be: the program's check and the reference's answer alike. -/
import Derived.Test.YteopobecmacgdaaGreatDoorMM9
import Derived.Test.YteopobecmacgdaaGreatDoorMM6
import Derived.Test.YteopobecmacgdaaGreatDoorMM7
import Derived.Test.YteopobecmacgdaaGreatDoorMM5
import Derived.OpenShut
import Derived.WideShapes
import Derived.Test.YteopobecmacgdaaGreatDoorTyA
set_option linter.unusedSectionVars false
set_option linter.unusedVariables false
set_option linter.unusedSimpArgs false
namespace Go.Ev
open Go
set_option linter.unusedVariables false
theorem nF{α β:Type}{eq:α->α->Bool}(o:∀x y,eq x y=true↔x=y)(k k':α)(v:β):∀l:List (α×β),(k'=k->bL eq (cm eq l k v) k'=some v)/\(k'≠k->bL eq (cm eq l k v) k'=bL eq l k')
 |[]=>by
  simp only[cm,bL]
  exact⟨fun h=>if_pos ((o _ _).2 h),fun h=>if_neg (fun q=>h ((o _ _).1 q))⟩
 |p::l=>by
  obtain⟨i1,i2⟩:=nF o k k' v l
  simp only[cm]
  by_cases L:eq k p.1=true
  ·have R:=(o _ _).1 L
   rw[if_pos L]
   simp only[bL]
   exact⟨fun h=>if_pos ((o _ _).2 h),fun h=>by rw[if_neg (fun q=>h ((o _ _).1 q)),if_neg (fun q=>h (((o _ _).1 q).trans R.symm))]⟩
  ·rw[if_neg L]
   simp only[bL]
   by_cases O:eq k' p.1=true
   ·have U:=(o _ _).1 O
    simp only[if_pos O]
    exact⟨fun h=>absurd ((o _ _).2 (h.symm.trans U)) L,fun _=>trivial⟩
   ·simp only[if_neg O]
    exact⟨i1,i2⟩
theorem Lj(x y:List UInt8):aQ .str x y=true↔x=y:=by
 show(x==y)=true↔_
 simp
theorem wL(x y:Int):aQ (.int .i32) x y=true↔x=y:=by
 show(x==y)=true↔_
 simp
def vP(b:UInt8):Bool:=decide (97<=b.toNat)&&decide (b.toNat<=122)
def ma(s:List UInt8):Bool:=(decide (1<=s.length)&&decide (s.length<=32))&&s.all vP
theorem Qe(b:UInt8):mK.contains b=vP b:=by
 have key:∀n:Fin 256,mK.contains (UInt8.ofNat n.1)=vP (UInt8.ofNat n.1):=by decide+kernel
 have:=key ⟨b.toNat,UInt8.toNat_lt b⟩
 simpa using this
theorem I5(o:List UInt8)(k:Nat)(b:UInt8):pw k (oK o) (b.toNat:Int)=some (o.contains b):=by
 unfold pw
 rw[ym]
 unfold oK
 rw[List.getElem?_map,List.getElem?_range (UInt8.toNat_lt b)]
 simp
theorem R9{s:List UInt8}(h:0<s.length):s=s.take (s.length-1)++[s[s.length-1]'(by omega)]:=by
 have:=List.take_succ_eq_append_getElem (l:=s) (i:=s.length-1) (by omega)
 rw[<-this,List.take_of_length_le (by omega)]
theorem M9(o:List UInt8):∀n (s:List UInt8),s.length<n->s.length<4611686018427387904->qR 80000 (oK o) n s=some (s.reverse.dropWhile o.contains).reverse:=by
 intro n
 induction n with
 |zero=>intro s h;omega
 |succ n O=>
  intro s h U
  unfold qR G9 vj
  by_cases R:0<s.length
  ·rw[if_pos (by simp only[decide_eq_true_eq];omega),show aj ((s.length:Int)-1)=((s.length-1:Nat):Int) by rw[rD (by omega)];omega,Bm (by omega)]
   simp only[Option.bind_some]
   rw[I5]
   simp only[Option.bind_some]
   have q:s.reverse=s[s.length-1]'(by omega)::(s.take (s.length-1)).reverse:=by
    conv=>lhs;rw[R9 R]
    simp
   cases L:o.contains (s[s.length-1]'(by omega))with
   |false=>
    rw[if_pos (by rfl),q,List.dropWhile_cons,L,if_neg (by simp),<-q,List.reverse_reverse]
   |true=>
    rw[if_neg (by simp),T5 (by omega)]
    simp only[Option.bind_some]
    rw[O (s.take (s.length-1)) (by rw[List.length_take];omega) (by rw[List.length_take];omega),q,List.dropWhile_cons,L,if_pos rfl]
  ·rw[if_neg (by simp only[decide_eq_true_eq];omega)]
   have:s=[]:=List.length_eq_zero_iff.1 (by omega)
   subst this
   rfl
theorem W2(o:List UInt8):∀n (s:List UInt8),s.length<n->ph 80000 (oK o) n s=some (s.dropWhile o.contains):=by
 intro n
 induction n with
 |zero=>intro s h;omega
 |succ n q=>
  intro s h
  unfold ph I3 uD
  cases s with
  |nil=>rfl
  |cons b r=>
   rw[if_pos (by simp only[decide_eq_true_eq,List.length_cons];omega),show(0:Int)=((0:Nat):Int)from rfl,Bm (by simp)]
   simp only[Option.bind_some,List.getElem_cons_zero]
   rw[I5]
   simp only[Option.bind_some]
   rw[List.dropWhile_cons]
   cases L:o.contains b with
   |false=>rw[if_pos (by rfl),if_neg (by simp)]
   |true=>
    rw[if_neg (by simp),if_pos rfl,show(1:Int)=((1:Nat):Int)from rfl,Fq (by simp)]
    simp only[Option.bind_some]
    exact q r (by simpa using h)
theorem zx{p:UInt8->Bool}{l:List UInt8}:l.dropWhile p=[]↔l.all p=true:=by
 induction l with
 |nil=>simp
 |cons a l o=>
  rw[List.dropWhile_cons,List.all_cons]
  cases h:p a with
  |true=>rw[if_pos rfl,o,Bool.true_and]
  |false=>simp
theorem PI{p:UInt8->Bool}{l:List UInt8}{a:UInt8}{r:List UInt8}(h:l.dropWhile p=a::r):p a=false:=by
 induction l with
 |nil=>cases h
 |cons b l o=>
  rw[List.dropWhile_cons]at h
  split at h
  ·exact o h
  ·rename_i q
   cases h
   simpa using q
theorem PL{cut:List UInt8}(L:tG 80000 cut=some (oK cut,true))(W:cut.length≠1)(O:cut≠[]){s:List UInt8}(R:s.length<80000):∃v,oB 80000 s cut=some v/\(v==([]:List UInt8))=s.all cut.contains:=by
 unfold oB LJ
 by_cases q:s=[]
 ·subst q
  rw[if_pos (by simp)]
  exact⟨[],rfl,rfl⟩
 ·rw[if_neg (by simp[q,O]),if_neg (by simp only[beq_iff_eq];omega)]
  unfold uH
  rw[if_neg (by simp),L]
  simp only[Option.bind_some,if_true]
  unfold B5 Ah
  rw[M9 cut 80000 s R (by omega)]
  simp only[Option.bind_some]
  have Y:((s.reverse.dropWhile cut.contains).reverse).length<=s.length:=by
   rw[List.length_reverse]
   exact Nat.le_trans (List.Sublist.length_le (List.dropWhile_sublist _)) (by rw[List.length_reverse];exact Nat.le_refl _)
  rw[W2 cut 80000 _ (by omega)]
  refine⟨_,rfl,?_⟩
  rw[Bool.eq_iff_iff,beq_iff_eq,zx]
  constructor
  ·intro o
   cases ah:s.reverse.dropWhile cut.contains with
   |nil=>
    have:=zx.1 ah
    rwa [List.all_reverse]at this
   |cons a r=>
    have U:=PI ah
    rw[ah,List.all_reverse,List.all_cons,U]at o
    cases o
  ·intro o
   have:s.reverse.dropWhile cut.contains=[]:=zx.2 (by rw[List.all_reverse];exact o)
   rw[this]
   rfl
theorem Mz(s:List UInt8):uR 80000 s=some (ma s):=by
 unfold uR
 by_cases h:s≠[]/\s.length<=32
 ·rw[show((!(s==([]:List UInt8)))&&decide ((s.length:Int)<=32))=true by simp[h.1];omega]
  unfold Gs
  rw[if_pos rfl]
  obtain⟨v,L,O⟩:=PL Sx (by simp[mK]) (by simp[mK]) (s:=s) (by omega)
  rw[show([97,98,99,100,101,102,103,104,105,106,107,108,109,110,111,112,113,114,115,116,117,118,119,120,121,122]:List UInt8)=mK from rfl,L]
  simp only[Option.bind_some]
  unfold rP
  rw[O]
  have o:1<=s.length:=by
   cases s with
   |nil=>exact absurd rfl h.1
   |cons _ _=>simp
  unfold ma
  rw[decide_eq_true o,decide_eq_true h.2,Bool.and_true,Bool.true_and,show(mK.contains:UInt8->Bool)=vP from funext Qe]
 ·rw[show((!(s==([]:List UInt8)))&&decide ((s.length:Int)<=32))=false by
   rw[Bool.eq_false_iff]
   intro q
   simp only[Bool.and_eq_true,Bool.not_eq_true',beq_eq_false_iff_ne,ne_eq,decide_eq_true_eq]at q
   exact h ⟨q.1,by omega⟩]
  show some false=_
  unfold ma
  by_cases o:s=[]
  ·subst o;rfl
  ·rw[decide_eq_false (show¬s.length<=32 from fun q=>h ⟨o,q⟩),Bool.and_false,Bool.false_and]
def iQ(r:Int):Bool:=((decide (97<=r)&&decide (r<=122))||(decide (65<=r)&&decide (r<=90)))||((decide (161<=r)&&decide (r<=1114111))&&(decide (r≠65533)&&(decide (r<55296)||decide (57343<r))))
theorem Mu{α:Type}{x y:α}(h:x=y):some x=some y:=by rw[h]
theorem LY(r:Int):(Int.fdiv r (2^min ((11:Int)).toNat 32)==(27:Int))=(decide (55296<=r)&&decide (r<=57343)):=by
 have e:(2:Int)^min ((11:Int)).toNat 32=2048:=by decide
 rw[e,Int.fdiv_eq_ediv_of_nonneg _ (by omega),Bool.eq_iff_iff]
 simp
 omega
theorem M7(k:Nat)(r:Int):ul k r=some (iQ r):=by
 unfold ul Hp Kg so oA iQ
 rw[LY,iJ (by decide)]
 simp only[Option.bind_some]
 have o:decide (r<161)=!decide (161<=r):=by rw[Bool.eq_iff_iff];simp
 have q:decide (1114111<r)=!decide (r<=1114111):=by rw[Bool.eq_iff_iff];simp
 have L:decide (55296<=r)=!decide (r<55296):=by rw[Bool.eq_iff_iff];simp
 have O:decide (r<=57343)=!decide (57343<r):=by rw[Bool.eq_iff_iff];simp
 rw[o,q,L,O]
 cases decide (97<=r)<;>cases decide (r<=122)<;>cases decide (65<=r)<;>cases decide (r<=90)<;>cases U:decide (161<=r)<;>cases W:decide (r<=1114111)<;>cases Y:decide (r<55296)<;>cases Z:decide (57343<r)<;>(by_cases R:r=65533<;>simp[R])
def Ep(p m:Int):Nat:=BitVec.toNat (BitVec.ofInt 32 p|||BitVec.ofInt 32 m)
def jh(n:Nat)(p m:Int):Bool:=decide (Ep p m<2^n)&&decide (BitVec.toNat (BitVec.ofInt 32 p&&&BitVec.ofInt 32 m)=0)
theorem ji{x:Int}(h:0<=x/\x<4294967296):cA x=x:=by
 unfold cA IntKind.wrap
 simp[IntKind.bits,IntKind.signed]
 omega
theorem G0(x:BitVec 32):x.toNat<4294967296:=x.isLt
theorem RP(k:Nat)(a:ch)(p m:Int)(h:a.1.length<=24):kV k a p m=some (jh a.1.length p m):=by
 unfold kV Fz
 rw[iJ (by omega)]
 simp only[Option.bind_some]
 have U:=G0 (BitVec.ofInt 32 p|||BitVec.ofInt 32 m)
 have W:=G0 (BitVec.ofInt 32 p&&&BitVec.ofInt 32 m)
 rw[ji (by omega),ji (by omega)]
 refine Mu ?_
 have e:(2:Int)^min ((a.1.length:Int)).toNat 32=((2^a.1.length:Nat):Int):=by
  rw[Int.toNat_natCast,Nat.min_eq_left (by omega)]
  simp
 have o:0<2^a.1.length:=Nat.two_pow_pos _
 rw[e]
 unfold jh Ep
 rw[Int.fdiv_eq_ediv_of_nonneg _ (by omega),Bool.eq_iff_iff]
 simp only[Bool.and_eq_true,beq_iff_eq,decide_eq_true_eq]
 have L:((BitVec.toNat (BitVec.ofInt 32 p|||BitVec.ofInt 32 m):Int)/((2^a.1.length:Nat):Int))=((BitVec.toNat (BitVec.ofInt 32 p|||BitVec.ofInt 32 m)/2^a.1.length:Nat):Int):=rfl
 rw[L]
 constructor
 ·rintro⟨q,O⟩
  have R:BitVec.toNat (BitVec.ofInt 32 p|||BitVec.ofInt 32 m)/2^a.1.length=0:=by omega
  exact⟨(Nat.div_eq_zero_iff_lt o).1 R,by omega⟩
 ·rintro⟨q,O⟩
  exact⟨by rw[(Nat.div_eq_zero_iff_lt o).2 q];rfl,by omega⟩
def dE(a:ch):Bool:=((decide (a.1.length<=24)&&(decide (1<=a.2.1.length)&&decide (a.2.1.length<=128)))&&(a.1.all ma&&decide a.1.Nodup))&&((a.2.1.all fun l=>iQ l.1&&jh a.1.length l.2.1 l.2.2.1)&&decide (a.2.1.map (·.1)).Nodup)
def sT{β:Type}[DecidableEq β](x:β)(l:List β):Bool:=decide (x∈l)
theorem Af{β:Type}[DecidableEq β]{x:β}{l:List β}(h:x∈l):sT x l=true:=decide_eq_true h
theorem Be{β:Type}[DecidableEq β]{x:β}{l:List β}(h:¬x∈l):sT x l=false:=decide_eq_false h
def gV{α β:Type}[DecidableEq β](key:α->β)(o:α->Bool):List α->List α->Bool
 |_,[]=>true
 |seen,x::xs=>(o x&&!sT (key x) (seen.map key))&&gV key o (seen++[x]) xs
theorem wd{α β:Type}[DecidableEq β](key:α->β)(q:α->Bool):∀(xs seen:List α),(seen.map key).Nodup->gV key q seen xs=(xs.all q&&decide ((seen++xs).map key).Nodup)
 |[],seen,h=>by simp[gV,h]
 |x::xs,seen,h=>by
  unfold gV
  by_cases o:key x∈seen.map key
  ·rw[Af o]
   have:¬((seen++x::xs).map key).Nodup:=by
    intro L
    rw[List.map_append,List.nodup_append]at L
    exact L.2.2 _ o _ (by simp) rfl
   rw[decide_eq_false this]
   simp
  ·rw[Be o]
   have R:((seen++[x]).map key).Nodup:=by
    rw[List.map_append,List.nodup_append]
    refine⟨h,by simp,fun a U b O=>?_⟩
    simp at O
    subst O
    exact fun e=>o (e▸U)
   rw[wd key q xs (seen++[x]) R,List.append_assoc,List.all_cons]
   simp[Bool.and_assoc]
theorem Qn{a:ch}(o:a.1.length<=24)(q:1<=a.2.1.length)(L:a.2.1.length<=128):dE a=(gV id ma [] a.1&&gV (·.1) (fun l=>iQ l.1&&jh a.1.length l.2.1 l.2.2.1) [] a.2.1):=by
 unfold dE
 rw[wd id ma a.1 [] (by simp),wd (·.1) _ a.2.1 [] (by simp),decide_eq_true o,decide_eq_true q,decide_eq_true L]
 simp
theorem IG{a:ch}(h:¬(a.1.length<=24/\1<=a.2.1.length/\a.2.1.length<=128)):dE a=false:=by
 rw[Bool.eq_false_iff]
 intro o
 unfold dE at o
 simp only[Bool.and_eq_true,decide_eq_true_eq]at o
 exact h ⟨o.1.1.1,o.1.1.2.1,o.1.1.2.2⟩
theorem LA{α β:Type}[DecidableEq β](key:α->β)(o:α->Bool)(seen:List α)(x:α)(xs:List α):gV key o seen (x::xs)=((o x&&!sT (key x) (seen.map key))&&gV key o (seen++[x]) xs):=rfl
theorem Gy{β:Type}{r x:β}(l:List β)[Decidable (r∈l++[x])](h:r=x):true=decide (r∈l++[x]):=by rw[decide_eq_true (by rw[h];simp)]
theorem Ky{β:Type}{r x:β}(l:List β)[Decidable (r∈l)][Decidable (r∈l++[x])](h:r≠x):decide (r∈l)=decide (r∈l++[x]):=by
 rw[Bool.eq_iff_iff,decide_eq_true_eq,decide_eq_true_eq,List.mem_append,List.mem_singleton]
 exact⟨.inl,fun o=>o.resolve_right h⟩
theorem LZ(a:ch)(O:a.1.length<=24)(h:a.2.1.length<=128):∀n i (m:List (Int×Bool)),i<=a.2.1.length->a.2.1.length-i<n->(∀r:Int,(bL (aQ (.int .i32)) m r).getD false=decide (r∈(a.2.1.take i).map fun l=>l.1))->
  oG 80000 a n (i:Int) m=some (if gV (·.1) (fun l=>iQ l.1&&jh a.1.length l.2.1 l.2.2.1) (a.2.1.take i) (a.2.1.drop i)then 0 else 7):=by
 intro n
 induction n with
 |zero=>intro i m _ h;omega
 |succ n R=>
  intro i m Z la L
  unfold oG Ho
  by_cases o:i<a.2.1.length
  ·rw[if_pos (by simp only[decide_eq_true_eq];omega),fg o,List.drop_eq_getElem_cons o]
   simp only[Option.bind_some]
   rw[M7,L]
   simp only[Option.bind_some]
   rw[LA]
   unfold IN vM
   have step:oG 80000 a n (aj ((i:Int)+1)) (cm (aQ (.int .i32)) m (a.2.1[i]'o).1 true)=some (if gV (·.1) (fun l=>iQ l.1&&jh a.1.length l.2.1 l.2.2.1) (a.2.1.take i++[a.2.1[i]'o]) (a.2.1.drop (i+1))then 0 else 7):=by
    rw[gm (by omega),R (i+1) _ (by omega) (by omega),List.take_succ_eq_append_getElem o]
    intro r
    obtain⟨U,W⟩:=nF wL (a.2.1[i]'o).1 r true m
    rw[List.take_succ_eq_append_getElem o,List.map_append]
    by_cases q:r=(a.2.1[i]'o).1
    ·exact(congrArg (fun aa:Option Bool=>aa.getD false) (U q)).trans (Gy _ q)
    ·exact(congrArg (fun aa:Option Bool=>aa.getD false) (W q)).trans ((L r).trans (Ky _ q))
   cases lb:iQ (a.2.1[i]'o).1 with
   |false=>rfl
   |true=>
    by_cases ah:(a.2.1[i]'o).1∈(a.2.1.take i).map fun l=>l.1
    ·rw[decide_eq_true ah,Af ah,if_pos (by simp)]
     simp
    ·rw[decide_eq_false ah,Be ah,if_neg (by simp)]
     have Y:kV 80000 (a.1,a.2.1,()) (a.2.1[i]'o).2.1 (a.2.1[i]'o).2.2.1=_:=RP 80000 a _ _ O
     rw[Y]
     simp only[Option.bind_some]
     cases lc:jh a.1.length (a.2.1[i]'o).2.1 (a.2.1[i]'o).2.2.1 with
     |false=>rfl
     |true=>
      rw[if_neg (by simp),step]
      simp
  ·rw[if_neg (by simp only[decide_eq_true_eq];omega),List.drop_eq_nil_of_le (by omega)]
   rfl
theorem Wu(a:ch)(O:a.1.length<=24)(R:a.2.1.length<=128):∀n i (m:List bw),i<=a.1.length->a.1.length-i<n->(∀r:List UInt8,(bL (aQ .str) m r).getD false=decide (r∈(a.1.take i).map id))->
  qF 80000 a n (i:Int) m=some (if gV id ma (a.1.take i) (a.1.drop i)&&gV (·.1) (fun l=>iQ l.1&&jh a.1.length l.2.1 l.2.2.1) [] a.2.1 then 0 else 7):=by
 intro n
 induction n with
 |zero=>intro i m _ h;omega
 |succ n U=>
  intro i m Z la L
  unfold qF Jv
  by_cases o:i<a.1.length
  ·rw[if_pos (by simp only[decide_eq_true_eq];omega),fg o,List.drop_eq_getElem_cons o]
   simp only[Option.bind_some]
   rw[Mz,L]
   simp only[Option.bind_some]
   rw[LA]
   unfold FB
   cases lb:ma (a.1[i]'o)with
   |false=>rfl
   |true=>
    by_cases ah:(a.1[i]'o)∈(a.1.take i).map id
    ·rw[decide_eq_true ah,Af (show id (a.1[i]'o)∈(a.1.take i).map id from ah)]
     rfl
    ·rw[decide_eq_false ah,Be (show¬id (a.1[i]'o)∈(a.1.take i).map id from ah),if_neg (by simp),gm (by omega),U (i+1) _ (by omega) (by omega),List.take_succ_eq_append_getElem o]
     ·simp
     ·intro r
      obtain⟨W,Y⟩:=nF Lj (a.1[i]'o) r true m
      rw[List.take_succ_eq_append_getElem o,List.map_append]
      by_cases q:r=a.1[i]'o
      ·exact(congrArg (fun aa:Option Bool=>aa.getD false) (W q)).trans (Gy _ q)
      ·exact(congrArg (fun aa:Option Bool=>aa.getD false) (Y q)).trans ((L r).trans (Ky _ q))
  ·rw[if_neg (by simp only[decide_eq_true_eq];omega),List.drop_eq_nil_of_le (by omega)]
   have:=LZ a O R 80000 0 [] (Nat.zero_le _) (by omega) (fun r=>by simp[bL])
   simp only[List.take_zero,List.drop_zero]at this
   refine Eq.trans this ?_
   simp[gV]
theorem kT(a:ch):fR 80000 a=some (if dE a then 0 else 7):=by
 unfold fR Gf E9
 by_cases o:a.1.length<=24/\1<=a.2.1.length/\a.2.1.length<=128
 ·rw[if_neg (by simp only[Bool.or_eq_true,decide_eq_true_eq];omega),Qn o.1 o.2.1 o.2.2]
  have:=Wu a o.1 o.2.2 80000 0 [] (Nat.zero_le _) (by omega) (fun r=>by simp[bL])
  simp only[List.take_zero,List.drop_zero]at this
  exact this
 ·rw[if_pos (by simp only[Bool.or_eq_true,decide_eq_true_eq];omega),IG o]
  rfl
end Go.Ev
namespace Go.Ev
open Go
set_option linter.unusedVariables false
/-! What one letter over another one costs. -/
/-! The least cost of two lists of letters; the first alignment. -/
/-! Square tables. -/
/-! The table filled. -/
abbrev CW:Type:=List Int×List Int×List (List Int)×List (List Int)×Unit
variable {aP:Int->CW->Option CW} {x y:List Int} {i k:Nat} {b:CW}
theorem Rp{α:Type}{l:List α}{i:Nat}(h:i<l.length):l.drop i=l[i]'h::l.drop (i+1):=List.drop_eq_getElem_cons h
end Go.Ev
namespace Go.Ev
open Go
set_option linter.unusedVariables false
theorem V0(k:Nat)(r:Int):mM (rL k r):=by
 unfold rL Fm
 exact qM (fun _=>np _) fun _=>qM (fun _=>np _) fun _=>qM (fun _=>np _) fun _=>JZ (fun _=>np _) fun _=>qM (fun _=>np _) fun _=>qM (fun _=>np _) fun _=>np _
theorem Gu:(1000000:Nat)<=br:=by decide
theorem UB{a:ch}(h:dE a=true):a.1.length<=24/\1<=a.2.1.length/\a.2.1.length<=128:=by
 refine Classical.byContradiction fun o=>?_
 rw[IG o]at h
 cases h
end Go.Ev
namespace Go.Ev
open Go
set_option linter.unusedVariables false
abbrev eP:Type:=Int×Int×Unit
abbrev pM:eP->eP->Bool:=aQ kH
theorem Lt(x y:eP):pM x y=true↔x=y:=by
 obtain⟨a,b,_⟩:=x
 obtain⟨c,d,_⟩:=y
 show((a==c)&&((b==d)&&true))=true↔_
 simp
/-! Maps as0 lists. -/
section
variable {α β:Type} {eq:α->α->Bool}
theorem KM(q:∀x y,eq x y=true↔x=y)(k:α)(v:β):∀l:List (α×β),(l.map (·.1)).Nodup->((cm eq l k v).map (·.1)).Nodup/\∀x,x∈(cm eq l k v).map (·.1)↔x=k\/x∈l.map (·.1)
 |[],_=>by simp[cm]
 |p::l,o=>by
  rw[List.map_cons,List.nodup_cons]at o
  obtain⟨i1,i2⟩:=KM q k v l o.2
  unfold cm
  by_cases h:eq k p.1=true
  ·rw[if_pos h]
   have e:=(q _ _).1 h
   subst e
   simp only[List.map_cons,List.nodup_cons,List.mem_cons]
   exact⟨o,fun x=>by simp⟩
  ·rw[if_neg h]
   have L:k≠p.1:=fun e=>h ((q _ _).2 e)
   simp only[List.map_cons,List.nodup_cons,List.mem_cons]
   refine⟨⟨fun O=>?_,i1⟩,fun x=>by rw[i2];constructor<;>(intro h;rcases h with h|h|h<;>simp[h])⟩
   rcases(i2 p.1).1 O with e|e
   ·exact L e.symm
   ·exact o.1 e
end
def jW:List Int->Int
 |[]=>0
 |x::l=>x+jW l
theorem Lo{α:Type}{eq:α->α->Bool}(k:α)(v:Int):∀l:List (α×Int),jW ((cm eq l k v).map (·.2))=jW (l.map (·.2))-(bL eq l k).getD 0+v
 |[]=>by simp[cm,bL,jW]
 |p::l=>by
  unfold cm bL
  by_cases h:eq k p.1=true
  ·rw[if_pos h,if_pos h]
   simp only[List.map_cons,jW,Option.getD_some]
   omega
  ·rw[if_neg h,if_neg h]
   have:=Lo (eq:=eq) k v l
   simp only[List.map_cons,jW]
   omega
/-! Counting. -/
def fQ(m:List (eP×Int))(p:eP):Int:=(bL pM m p).getD 0
def bump(m:List (eP×Int))(p:eP):List (eP×Int):=cm pM m p (aj (fQ m p+1))
structure pJ(m:List (eP×Int))(ps:List eP):Prop where
 Jm:(m.map (·.1)).Nodup
 keys:∀p,p∈m.map (·.1)↔p∈ps
 pos:∀p∈ps,1<=fQ m p
 FN:∀p,0<=fQ m p/\fQ m p<=ps.length
 sum:jW (m.map (·.2))=ps.length
theorem pJ.nil:pJ [] []:=⟨by simp,fun p=>by simp,fun p o=>(by cases o),fun p=>by simp[fQ,bL],rfl⟩
theorem pJ.bump{m:List (eP×Int)}{ps:List eP}(h:pJ m ps)(p:eP)(W:ps.length<1000000):pJ (bump m p) (ps++[p]):=by
 obtain⟨O,R⟩:=KM Lt p (aj (fQ m p+1)) m h.Jm
 have Y:=h.FN p
 have q:aj (fQ m p+1)=fQ m p+1:=rD (by omega)
 have L:∀o,fQ (Ev.bump m p) o=if o=p then fQ m p+1 else fQ m o:=by
  intro o
  obtain⟨g1,g2⟩:=nF Lt p o (aj (fQ m p+1)) m
  unfold Ev.bump
  unfold fQ at*
  by_cases e:o=p
  ·rw[if_pos e,g1 e,q];rfl
  ·rw[if_neg e,g2 e]
 refine⟨O,fun o=>?_,fun o aK=>?_,fun o=>?_,?_⟩
 ·show o∈(cm pM m p _).map (·.1)↔_
  rw[R o,h.keys o,List.mem_append,List.mem_singleton]
  exact Or.comm
 ·rw[L]
  split
  ·omega
  ·rename_i U
   rcases List.mem_append.1 aK with aK|aK
   ·exact h.pos o aK
   ·exact absurd (by simpa using aK) U
 ·rw[L]
  simp only[List.length_append,List.length_cons,List.length_nil]
  have:=h.FN o
  split<;>omega
 ·show jW ((cm pM m p _).map (·.2))=_
  rw[Lo,h.sum,q]
  simp only[List.length_append,List.length_cons,List.length_nil]
  unfold fQ
  omega
/-! Places of letters. -/
def pos(o:List Int)(r:Int):Int:=if r∈o then(o.idxOf r:Int)+1 else 0
/-! The comparison. -/
def No(f aa:eP->Int)(aZ:eP->Int)(x y:eP):Prop:=f y<f x\/f y=f x/\(aa x<aa y\/aa x=aa y/\aZ x<aZ y)
end Go.Ev
namespace Go.Ev
open Go
set_option linter.unusedVariables false
structure X1(a:ch)(ps:List eP)(v:List eP):Prop where
 Jm:v.Nodup
 mem:∀p,p∈v↔p∈ps
 WV:v.Pairwise (fun x y=>fQ (ps.foldl bump []) y<=fQ (ps.foldl bump []) x)
 sum:jW (v.map (fQ (ps.foldl bump [])))=ps.length
 len:v.length<=ps.length
 perm:v.Perm ((ps.foldl bump []).map (·.1))
 ord:v.Pairwise (fun x y=>¬No (fQ (ps.foldl bump [])) (fun p=>pos (a.2.1.map (·.1)) p.1) (fun p=>pos (a.2.1.map (·.1)) p.2.1) y x)
end Go.Ev
namespace Go.Ev
open Go
set_option linter.unusedVariables false
def Func(ps:List eP):Prop:=∀p∈ps,∀o∈ps,p.1≠0->p.1=o.1->p.2.1=o.2.1
structure F6(m:List (Int×Int))(seen:List eP):Prop where
 has:∀p∈seen,p.1≠0->bL (aQ (.int .i32)) m p.1=some p.2.1
 from_:∀(r v:Int),bL (aQ (.int .i32)) m r=some v->∃p∈seen,p.1=r/\p.2.1=v/\r≠0
theorem F6.func{m:List (Int×Int)}{ps:List eP}(h:F6 m ps):Func ps:=fun p L O aK o e=>by
 have q:=h.has p L o
 have R:=h.has O aK (e▸o)
 rw[e]at q
 exact Option.some.inj (q.symm.trans R)
def AB(ps:List eP):Prop:=∃p∈ps,∃o∈ps,p.1≠0/\p.1=o.1/\p.2.1≠o.2.1
theorem AB.mono{ps o:List eP}(h:AB ps)(q:∀p∈ps,p∈o):AB o:=by
 obtain⟨p,O,L,aK,r⟩:=h
 exact⟨p,q p O,L,q L aK,r⟩
/-! The odd ones. -/
structure XX(m:List (Int×Int))(seen:List eP):Prop where
 has:∀p∈seen,(bL (aQ (.int .i32)) m p.1).isSome=true
 from_:∀(r v:Int),bL (aQ (.int .i32)) m r=some v->∃p∈seen,p.1=r/\p.2.1=v
end Go.Ev
namespace Go.Ev
open Go
set_option linter.unusedVariables false
end Go.Ev
namespace Go.Ev
open Go
set_option linter.unusedVariables false
theorem Rx(s:List UInt8)(p i:Nat):bq (s.drop p) i=bq s (p+i):=by
 unfold bq
 simp[List.getD_eq_getElem?_getD]
theorem J0(s:List UInt8)(p i:Nat):g (s.drop p) i=g s (p+i):=by
 unfold g
 simp only[Rx,List.length_drop,<-Nat.add_assoc,Nat.sub_sub]
theorem Tt{s:List UInt8}{p:Nat}(h:p<s.length):Lib.decodeGo ⟨(s.drop p).toArray⟩=g s p:=by
 unfold Lib.decodeGo
 rw[if_neg (by simp[ByteArray.size];omega),xz,J0]
 rfl
theorem tI{s:List UInt8}{p:Nat}:bad s p=true↔(g s p).1=65533/\(g s p).2=1:=by
 unfold bad
 simp
def nV(s:List UInt8)(n p:Nat)(v:List mI):Prop:=
 match n,v with
 |_,[]=>s.length<=p
 |0,_::_=>False
 |n+1,x::v=>p<s.length/\x.1=((g s p).1:Int)/\x.2.2.2.1=bad s p/\nV s n (p+(g s p).2) v
theorem OP{s:List UInt8}(Z:s.length<=65536):∀n p (t:List mI),p<=s.length->s.length-p<n->t.length+(s.length-p)<=200000->∃v,oh 80000 s n p t=some (t++v)/\nV s n p v/\v.length<=s.length-p:=by
 intro n
 induction n with
 |zero=>intro p t _ h;omega
 |succ n W=>
  intro p t la lb lc
  have ld:=Gu
  unfold oh E8
  by_cases h:p<s.length
  ·rw[if_pos (by simpa using h)]
   have o:∀a b,b=bad s p->∃v,oF 80000 s p t (oh 80000 s n) a b=some (t++v)/\nV s (n+1) p v/\v.length<=s.length-p:=by
    intro a b Y
    unfold oF rs
    rw[iJ (by simp only[List.length_cons,List.length_nil];omega)];simp only[Option.bind_some]
    rw[if_neg (by simp)]
    have le:=qp s p h
    obtain⟨v,e,U,q⟩:=W (p+iX s p) (t++[(gd s p,(p:Int),a,b,())]) (by rw[pG];omega) (by rw[pG];omega) (by rw[pG];simp only[List.length_append,List.length_cons,List.length_nil];omega)
    refine⟨(gd s p,(p:Int),a,b,())::v,?_,⟨h,H3 s p,Y,?_⟩,?_⟩
    ·rw[e,List.append_assoc];rfl
    ·rw[pG]at U;exact U
    ·rw[pG]at q
     simp only[List.length_cons]
     omega
   obtain⟨l,q⟩:=V0 80000 (gd s p)
   rw[q];simp only[Option.bind_some]
   rw[H3]
   by_cases L:(g s p).1=65533
   ·rw[if_pos (by rw[L];rfl),Fq (by omega)];simp only[Option.bind_some]
    unfold utf8_DecodeRuneInString
    simp only[Option.bind_some]
    rw[Tt h]
    by_cases O:(g s p).2=1
    ·rw[if_pos (by rw[O];rfl)]
     exact o _ _ (tI.2 ⟨L,O⟩).symm
    ·rw[if_neg (by simp only[beq_iff_eq];omega)]
     refine o _ _ (Eq.symm ?_)
     rw[<-Bool.not_eq_true,tI]
     exact fun R=>O R.2
   ·rw[if_neg (by simp only[beq_iff_eq];omega)]
    refine o _ _ (Eq.symm ?_)
    rw[<-Bool.not_eq_true,tI]
    exact fun R=>L R.1
  ·rw[if_neg (by simpa using h)]
   exact⟨[],by simp,(by show s.length<=p;omega),by simp⟩
def gL(M:Int->Bool)(s:List UInt8):Nat->Nat->List Int->List Int×Int
 |0,_,o=>(o,0)
 |n+1,p,o=>
  if p<s.length then
   if bad s p then([],6)else if !M ((g s p).1:Int)then([],5)else if(o.length:Int)==(64:Int)then([],4)
   else gL M s n (p+(g s p).2) (o++[((g s p).1:Int)])
  else(o,0)
theorem Ng{V:List mI}(m:Option de)(M:Int->Bool)(U:∀r:Int,(bL (aQ (.int .i32)) (m.getD []) r).isSome=M r)(s:List UInt8)(lc:V.length<=65536):
  ∀n i p o (q:List Int),i<=V.length->V.length-i<n->s.length-p<o->q.length<=64->p<=s.length->nV s o p (V.drop i)->nS (V,0) m n (i:Int) q=some (gL M s o p q):=by
 intro n
 induction n with
 |zero=>intro i p o q _ h;omega
 |succ n W=>
  intro i p o q ld le aK lf lg L
  have lh:=Gu
  obtain⟨o,rfl⟩:∃Y,o=Y+1:=⟨o-1,by omega⟩
  unfold nS G1 gL
  by_cases h:i<V.length
  ·rw[Rp h]at L
   obtain⟨O,Z,la,lb⟩:=L
   rw[if_pos (by simp only[decide_eq_true_eq];omega),if_pos O,fg h]
   simp only[Option.bind_some]
   rw[la,Z,U]
   cases li:bad s p with
   |true=>rfl
   |false=>
    simp only[Bool.false_eq_true,if_false]
    cases lj:M ((g s p).1:Int)with
    |false=>rfl
    |true=>
     simp only[Bool.not_true,Bool.false_eq_true,if_false]
     by_cases R:q.length=64
     ·rw[if_pos (by rw[R];rfl),if_pos (by rw[R];rfl)]
     ·rw[if_neg (by simp only[beq_iff_eq];omega),if_neg (by simp only[beq_iff_eq];omega)]
      rw[iJ (by simp only[List.length_cons,List.length_nil];omega)]
      simp only[Option.bind_some]
      have lk:=qp s p O
      rw[gm (by omega)]
      exact W (i+1) _ o _ (by omega) (by omega) (by omega) (by simp only[List.length_append,List.length_cons,List.length_nil];omega) (by omega) lb
  ·rw[List.drop_eq_nil_of_le (by omega)]at L
   have ll:s.length<=p:=L
   rw[if_neg (by simp only[decide_eq_true_eq];omega),if_neg (by omega)]
abbrev dU(a:ch):List Int:=a.2.1.map fun l:Int×Int×Int×Unit=>l.1
def mS(a:ch)(r:Int):Bool:=decide (r∈dU a)
theorem TC(a:ch)(h:a.2.1.length<=128):∀n i (m:List (Int×Int)),i<=a.2.1.length->a.2.1.length-i<n->(∀r:Int,(bL (aQ (.int .i32)) m r).isSome=decide (r∈(dU a).take i))->
  ∃ay,nP a n (i:Int) m=some (some ay,0)/\∀r:Int,(bL (aQ (.int .i32)) ay r).isSome=mS a r:=by
 intro n
 induction n with
 |zero=>intro i m _ h;omega
 |succ n q=>
  intro i m R U o
  unfold nP Fu
  by_cases h:i<a.2.1.length
  ·rw[if_pos (by simp only[decide_eq_true_eq];omega),fg h];simp only[Option.bind_some]
   rw[gm (by omega)]
   refine q (i+1) _ (by omega) (by omega) fun r=>?_
   have L:(dU a).take (i+1)=(dU a).take i++[(a.2.1[i]'h).1]:=by
    rw[List.take_succ_eq_append_getElem (by simpa using h)]
    simp
   have:=nF (α:=Int) (β:=Int) wL (a.2.1[i]'h).1 r (i:Int) m
   rw[L]
   by_cases e:r=(a.2.1[i]'h).1
   ·refine(congrArg Option.isSome (this.1 e)).trans ?_
    rw[decide_eq_true (by rw[e];simp)]
    rfl
   ·refine(congrArg Option.isSome (this.2 e)).trans ((o r).trans ?_)
    rw[Bool.eq_iff_iff]
    simp only[decide_eq_true_eq,List.mem_append,List.mem_singleton]
    exact⟨.inl,fun O=>O.resolve_right e⟩
  ·rw[if_neg (by simp only[decide_eq_true_eq];omega)]
   refine⟨m,rfl,fun r=>?_⟩
   rw[o r,List.take_of_length_le (by simp;omega)]
   rfl
def wl(a:ch)(w:List UInt8):List Int×Int:=if dE a then gL (mS a) w 65537 0 []else([],7)
theorem pm(a:ch){w:List UInt8}(O:w.length<=65536):kK 80000 a w=some (wl a w):=by
 unfold kK yD wl
 rw[show fR 80000 ((a.1,a.2.1,()):ch)=some (if dE a then 0 else 7)from kT a]
 simp only[Option.bind_some]
 cases R:dE a with
 |false=>rfl
 |true=>
  have U:=UB R
  rw[if_neg (by simp),if_pos rfl]
  obtain⟨m,W,Y⟩:=TC (a.1,a.2.1,()) U.2.2 80000 0 [] (Nat.zero_le _) (by show a.2.1.length-0<80000;omega) (fun r=>by simp[bL])
  rw[show nP (a.1,a.2.1,()) 80000 (0:Int) []=some (some m,0)from W]
  simp only[Option.bind_some]
  rw[if_neg (by simp)]
  unfold EB
  rw[if_neg (by simp only[decide_eq_true_eq];omega)]
  unfold rM wB C3
  rw[if_neg (by simp only[decide_eq_true_eq];omega)]
  simp only[Option.bind_some]
  rw[if_neg (by simp)]
  unfold pW
  obtain⟨v,e,Z,lf⟩:=OP O 80000 0 [] (Nat.zero_le _) (by omega) (by simp;omega)
  rw[e,List.nil_append]
  simp only[Option.bind_some]
  rw[if_neg (by simp)]
  have la:∀q n p (v:List mI),nV w n p v->w.length-p<q->nV w q p v:=by
   intro q
   induction q with
   |zero=>intro n p v _ h;omega
   |succ q lb=>
    intro n p v o aK
    match n,v,o with
    |0,[],o=>exact o
    |n+1,[],o=>exact o
    |0,_::_,o=>exact o.elim
    |n+1,x::v,⟨L,lc,ld,le⟩=>
     have:=qp w p L
     exact⟨L,lc,ld,lb n _ v le (by omega)⟩
  have:=Ng (V:=v) (some m) (mS a) Y w (by omega) 80000 0 0 65537 [] (Nat.zero_le _) (by omega) (by omega) (by simp) (Nat.zero_le _) (la 65537 80000 0 v Z (by omega))
  rw[show nS (v,0) (some m) 80000 (0:Int) []=_ from this]
  rfl
theorem Wg(M:Int->Bool)(s:List UInt8):∀n p q,q.length<=64->(∀r∈q,M r=true)->(gL M s n p q).2=0->(gL M s n p q).1.length<=64/\∀r∈(gL M s n p q).1,M r=true:=by
 intro n
 induction n with
 |zero=>intro p q R O _;exact⟨R,O⟩
 |succ n Z=>
  intro p q R O o
  unfold gL at o⊢
  split at o
  ·rename_i U
   rw[if_pos U]
   split at o
   ·cases o
   rename_i la
   rw[if_neg la]
   split at o
   ·cases o
   rename_i W
   rw[if_neg W]
   split at o
   ·cases o
   rename_i Y
   rw[if_neg Y]
   have lb:q.length≠64:=fun e=>Y (by rw[e];rfl)
   refine Z _ _ (by simp only[List.length_append,List.length_cons,List.length_nil];omega) (fun r L=>?_) o
   rcases List.mem_append.1 L with L|L
   ·exact O r L
   ·have:r=((g s p).1:Int):=by simpa using L
    rw[this]
    simpa using W
  ·rename_i U
   rw[if_neg U]
   exact⟨R,O⟩
theorem Eu(a:ch)(w:List UInt8)(h:(wl a w).2=0):dE a=true/\(wl a w).1.length<=64/\∀r∈(wl a w).1,r∈dU a:=by
 unfold wl at h⊢
 cases o:dE a with
 |false=>rw[o]at h;cases h
 |true=>
  rw[o,if_pos rfl]at h
  rw[if_pos rfl]
  have:=Wg (mS a) w 65537 0 [] (by simp) (by simp) h
  exact⟨rfl,this.1,fun r q=>of_decide_eq_true (this.2 r q)⟩
end Go.Ev
namespace Go.Ev
open Go
set_option maxRecDepth 100000
def tY(o:List (List UInt8))(i:Nat)(m:List bc):Prop:=∀x:List UInt8,bL (aQ .str) m x=if x∈o.take i then some ((o.idxOf x:Nat):Int)else none
theorem Mp(o az:ch)(h:o.1.length<=24)(U:o.1.Nodup):∀n i (m:List bc),i<=o.1.length->o.1.length-i<n->tY o.1 i m->
  ∃ay,pR 80000 o az n (i:Int) m=nu 80000 az 80000 0 az.1 az.2.1 o.1 o.2.1 () ay []/\tY o.1 o.1.length ay:=by
 intro n
 induction n with
 |zero=>intro i m _ h;omega
 |succ n W=>
  intro i m Z la O
  unfold pR J3
  by_cases q:i<o.1.length
  ·rw[if_pos (by simp only[decide_eq_true_eq];omega),fg q];simp only[Option.bind_some]
   rw[gm (by omega)]
   refine W (i+1) _ (by omega) (by omega) fun x=>?_
   have Y:o.1.take (i+1)=o.1.take i++[o.1[i]'q]:=List.take_succ_eq_append_getElem q
   have R:=nF (α:=List UInt8) (β:=Int) Lj (o.1[i]'q) x (i:Int) m
   rw[Y]
   by_cases e:x=o.1[i]'q
   ·refine(R.1 e).trans ?_
    rw[if_pos (List.mem_append.2 (.inr (List.mem_singleton.2 e)))]
    have:o.1.idxOf x=i:=by rw[e];exact List.Nodup.idxOf_getElem U i q
    rw[this]
   ·refine(R.2 e).trans ((O x).trans ?_)
    by_cases aK:x∈o.1.take i
    ·rw[if_pos aK,if_pos (List.mem_append.2 (.inl aK))]
    ·rw[if_neg aK,if_neg fun L=>(List.mem_append.1 L).elim aK fun L=>e (List.mem_singleton.1 L)]
  ·rw[if_neg (by simp only[decide_eq_true_eq];omega)]
   have:i=o.1.length:=by omega
   subst this
   exact⟨m,rfl,O⟩
end Go.Ev
namespace Go.Ev
open Go
set_option maxRecDepth 100000
theorem Ff:∀(o:List Int) (i:Nat) (x:Int),o[i]? =some x->x∉o.take i->o.idxOf x=i
 |[],i,x,h,_=>by simp at h
 |y::o,0,x,h,_=>by simp at h;subst h;simp
 |y::o,i+1,x,h,q=>by
  simp only[List.getElem?_cons_succ]at h
  simp only[List.take_succ_cons,List.mem_cons,not_or]at q
  have:=Ff o i x h q.2
  rw[List.idxOf_cons,show(y==x)=false from by simp[Ne.symm q.1]]
  simp[this]
theorem pos_at{o:List Int}{i:Nat}{x:Int}(h:o[i]? =some x)(q:x∉o.take i):pos o x=(i:Int)+1:=by
 unfold pos
 rw[if_pos (List.mem_of_getElem? h),Ff o i x h q]
theorem Gi{o:List Int}{x:Int}(q:x∉o):pos o x=0:=by
 unfold pos
 rw[if_neg q]
section
variable (a:ch) (r:Int)
theorem Mk{o:List cz}{i:Nat}(h:i<o.length)(q:r∉(o.map fun l=>l.1).take i)(L:(o[i]'h).1≠r):r∉(o.map fun l=>l.1).take (i+1):=by
 rw[List.take_succ_eq_append_getElem (by simpa using h)]
 simp only[List.getElem_map,List.mem_append,List.mem_singleton,not_or]
 exact⟨q,Ne.symm L⟩
theorem Uj(O:a.2.1.length<=5000):∀n i,i<=a.2.1.length->a.2.1.length-i<n->r∉(dU a).take i->pn 80000 a.2.1 (r,()) n (i:Int)=some (pos (dU a) r-1):=by
 intro n
 induction n with
 |zero=>intro i _ h;omega
 |succ n L=>
  intro i R U o
  unfold pn F8 Cf
  by_cases h:i<a.2.1.length
  ·rw[if_pos (by simp only[decide_eq_true_eq];omega),fg h]
   simp only[Option.bind_some]
   by_cases q:(a.2.1[i]'h).1=r
   ·rw[if_pos (by simpa using q),pos_at (i:=i) (x:=r) (by rw[List.getElem?_map,List.getElem?_eq_getElem h];simp[q]) o]
    congr 1;omega
   ·rw[if_neg (by simpa using q),gm (by omega)]
    exact L (i+1) (by omega) (by omega) (Mk r h o q)
  ·rw[if_neg (by simp only[decide_eq_true_eq];omega)]
   rw[List.take_of_length_le (by simp;omega)]at o
   rw[Gi o];rfl
theorem Kp(o:a.2.1.length<=5000):sq 80000 a.2.1 (r,())=some (pos (dU a) r-1):=by
 unfold sq
 exact Uj a r o 80000 0 (Nat.zero_le _) (by omega) (by simp)
end
def cZ(z:Nat):Nat->Nat
 |0=>0
 |n+1=>cZ z n+(z.testBit n).toNat
def mB:List UInt8:=[0,1,1,2,1,2,2,3,1,2,2,3,2,3,3,4,1,2,2,3,2,3,3,4,2,3,3,4,3,4,4,5,1,2,2,3,2,3,3,4,2,3,3,4,3,4,4,5,2,3,3,4,3,4,4,5,3,4,4,5,4,5,5,6,1,2,2,3,2,3,3,4,2,3,3,4,3,4,4,5,2,3,3,4,3,4,4,5,3,4,4,5,4,5,5,6,2,3,3,4,3,4,4,5,3,4,4,5,4,5,5,6,3,4,4,5,4,5,5,6,4,5,5,6,5,6,6,7,1,2,2,3,2,3,3,4,2,3,3,4,3,4,4,5,2,3,3,4,3,4,4,5,3,4,4,5,4,5,5,6,2,3,3,4,3,4,4,5,3,4,4,5,4,5,5,6,3,4,4,5,4,5,5,6,4,5,5,6,5,6,6,7,2,3,3,4,3,4,4,5,3,4,4,5,4,5,5,6,3,4,4,5,4,5,5,6,4,5,5,6,5,6,6,7,3,4,4,5,4,5,5,6,4,5,5,6,5,6,6,7,4,5,5,6,5,6,6,7,5,6,6,7,6,7,7,8]
set_option maxRecDepth 100000 in
theorem IU:mB.length=256:=by decide+kernel
set_option maxRecDepth 100000 in
theorem LP:∀i:Fin 256,(mB.getD i.val 0).toNat=cZ i.val 8:=by decide+kernel
theorem sk{n:Nat}(h:n<256):dZ mB (n:Int)=some ((cZ n 8:Nat):Int):=by
 rw[Bm (by rw[IU];exact h)]
 have:=LP ⟨n,h⟩
 simp only[List.getD_eq_getElem?_getD,List.getElem?_eq_getElem (show n<mB.length by rw[IU];exact h),Option.getD_some]at this
 rw[this]
theorem XJ(k:Nat)(x:Int):rB k x=Option.bind (aL (0<=(24:Int))) fun _=>
 Option.bind (dZ mB (Int.fdiv x (2^min ((24:Int)).toNat 32))) fun o=>
 Option.bind (aL (0<=(16:Int))) fun _=>
 Option.bind (dZ mB (cA (BitVec.toNat (BitVec.ofInt 32 (Int.fdiv x (2^min ((16:Int)).toNat 32))&&&BitVec.ofInt 32 (255:Int))))) fun q=>
 Option.bind (aL (0<=(8:Int))) fun _=>
 Option.bind (dZ mB (cA (BitVec.toNat (BitVec.ofInt 32 (Int.fdiv x (2^min ((8:Int)).toNat 32))&&&BitVec.ofInt 32 (255:Int))))) fun L=>
 Option.bind (dZ mB (cA (BitVec.toNat (BitVec.ofInt 32 x&&&BitVec.ofInt 32 (255:Int))))) fun O=>
 some (aj (kB ((kB ((kB (o+q))+L))+O))):=rfl
theorem BH(z n:Nat):cZ z n<=n:=by
 induction n with
 |zero=>exact Nat.le_refl _
 |succ n o=>
  unfold cZ
  have:(z.testBit n).toNat<=1:=Bool.toNat_le _
  omega
theorem Co{y:Nat}(h:y<4294967296):cA (BitVec.toNat (BitVec.ofInt 32 (y:Int)&&&BitVec.ofInt 32 (255:Int)):Int)=((y %256:Nat):Int):=by
 have e:BitVec.toNat (BitVec.ofInt 32 (y:Int)&&&BitVec.ofInt 32 (255:Int))=y %256:=by
  rw[BitVec.toNat_and,BitVec.toNat_ofInt,BitVec.toNat_ofInt]
  have o:((y:Int) %((2^32:Nat):Int)).toNat=y:=by
   rw[Int.emod_eq_of_lt (by omega) (by show(y:Int)<4294967296;omega)]
   omega
  rw[o,show((255:Int) %((2^32:Nat):Int)).toNat=2^8-1 from by decide,Nat.and_two_pow_sub_one_eq_mod]
 rw[e,ji (by omega)]
theorem qz(z n:Nat):cZ z (n+1)=cZ z n+(z.testBit n).toNat:=rfl
theorem yj(z s:Nat):∀m,cZ z s<=cZ z (s+m)
 |0=>Nat.le_refl _
 |m+1=>Nat.le_trans (yj z s m) (by rw[<-Nat.add_assoc,qz];omega)
theorem ud(z s:Nat):∀n,n<=8->cZ (z/2^s %256) n=cZ z (s+n)-cZ z s:=by
 intro n
 induction n with
 |zero=>intro _;simp[cZ]
 |succ n o=>
  intro h
  have mono:=yj z s
  rw[<-Nat.add_assoc,qz,qz,o (by omega)]
  have e:(z/2^s %256).testBit n=z.testBit (s+n):=by
   rw[show(256:Nat)=2^8 from rfl,Nat.testBit_mod_two_pow,Nat.testBit_div_two_pow,decide_eq_true (by omega),Bool.true_and,Nat.add_comm]
  have:=mono n
  rw[e]
  omega
theorem N5(k:Nat){z:Nat}(h:z<4294967296):rB k (z:Int)=some ((cZ z 32:Nat):Int):=by
 rw[XJ,iJ (by omega),iJ (by omega),iJ (by omega)]
 have d:∀s:Nat,(2:Int)^s=((2^s:Nat):Int):=fun s=>by simp
 have d24:Int.fdiv (z:Int) (2^min ((24:Int)).toNat 32)=((z/2^24:Nat):Int):=by
  rw[show min ((24:Int)).toNat 32=24 from by decide,Int.fdiv_eq_ediv_of_nonneg _ (by decide)]
  simp
 have d16:Int.fdiv (z:Int) (2^min ((16:Int)).toNat 32)=((z/2^16:Nat):Int):=by
  rw[show min ((16:Int)).toNat 32=16 from by decide,Int.fdiv_eq_ediv_of_nonneg _ (by decide)]
  simp
 have d8:Int.fdiv (z:Int) (2^min ((8:Int)).toNat 32)=((z/2^8:Nat):Int):=by
  rw[show min ((8:Int)).toNat 32=8 from by decide,Int.fdiv_eq_ediv_of_nonneg _ (by decide)]
  simp
 have o:z/2^24<256:=by omega
 rw[d24,d16,d8,Co (by omega),Co (by omega),Co h,sk o,sk (by omega),sk (by omega),sk (by omega)]
 simp only[Option.bind_some]
 have q:=ud z 0 8 (by omega)
 have O:=ud z 8 8 (by omega)
 have R:=ud z 16 8 (by omega)
 have L:=ud z 24 8 (by omega)
 rw[Nat.mod_eq_of_lt o]at L
 rw[show z/2^0=z from by simp]at q
 have l:∀m,cZ m 8<=8:=fun m=>BH m 8
 have l1:=l (z/2^24)
 have l2:=l (z/2^16 %256)
 have la:=l (z/2^8 %256)
 have lb:=l (z %256)
 have m1:cZ z 0=0:=rfl
 have mono:=fun s=>yj z s 8
 have U:=mono 0
 have W:=mono 8
 have Y:=mono 16
 have Z:=mono 24
 simp only[Nat.zero_add,show 8+8=16 from rfl,show 16+8=24 from rfl,show 24+8=32 from rfl]at q O R L U W Y Z
 rw[wi (x:=((cZ (z/2^24) 8:Nat):Int)+((cZ (z/2^16 %256) 8:Nat):Int)) (by omega),
  wi (x:=((cZ (z/2^24) 8:Nat):Int)+((cZ (z/2^16 %256) 8:Nat):Int)+((cZ (z/2^8 %256) 8:Nat):Int)) (by omega),
  wi (x:=((cZ (z/2^24) 8:Nat):Int)+((cZ (z/2^16 %256) 8:Nat):Int)+((cZ (z/2^8 %256) 8:Nat):Int)+((cZ (z %256) 8:Nat):Int)) (by omega),rD (by omega)]
 congr 1
 omega
/-! One letter and another one. -/
theorem zu(v:BitVec 32):BitVec.ofInt 32 (cA (BitVec.toNat v:Int))=v:=by
 have:=v.isLt
 rw[ji (by omega)]
 apply BitVec.eq_of_toNat_eq
 rw[BitVec.toNat_ofInt,Int.emod_eq_of_lt (by omega) (by show(v.toNat:Int)<4294967296;omega)]
 omega
theorem Lg(v:BitVec 32){j:Nat}(q:j<32):v&&&BitVec.ofInt 32 ((2^j:Nat):Int)=if v.getLsbD j then BitVec.twoPow 32 j else 0#32:=by
 have e:BitVec.ofInt 32 ((2^j:Nat):Int)=BitVec.twoPow 32 j:=by
  apply BitVec.eq_of_toNat_eq
  have o:2^j<2^32:=Nat.pow_lt_pow_right (by omega) q
  rw[BitVec.toNat_ofInt,BitVec.toNat_twoPow,Nat.mod_eq_of_lt o]
  generalize 2^j=P at o⊢
  rw[Int.emod_eq_of_lt (by omega) (by omega)]
  omega
 rw[e,BitVec.and_twoPow]
theorem PT(u v:BitVec 32){j:Nat}(o:j<32):((cA (BitVec.toNat (u&&&BitVec.ofInt 32 ((2^j:Nat):Int)):Int))!=(cA (BitVec.toNat (v&&&BitVec.ofInt 32 ((2^j:Nat):Int)):Int)))=(u.getLsbD j^^v.getLsbD j):=by
 rw[Lg u o,Lg v o]
 have q:(BitVec.twoPow 32 j).toNat=2^j:=by
  rw[BitVec.toNat_twoPow,Nat.mod_eq_of_lt (Nat.pow_lt_pow_right (by omega) o)]
 have U:2^j<2^32:=Nat.pow_lt_pow_right (by omega) o
 have L:0<2^j:=Nat.pow_pos (by omega)
 have O:cA ((2^j:Nat):Int)=((2^j:Nat):Int):=ji (by generalize 2^j=P at U⊢;omega)
 have R:cA ((0:Nat):Int)=0:=ji (by omega)
 cases u.getLsbD j<;>cases v.getLsbD j
 ·simp
 ·simp only[Bool.false_eq_true,if_false,if_true,q,O,BitVec.toNat_zero,R,Bool.false_xor]
  rw[bne_iff_ne];generalize 2^j=P at L⊢;omega
 ·simp only[Bool.false_eq_true,if_false,if_true,q,O,BitVec.toNat_zero,R,Bool.xor_false]
  rw[bne_iff_ne];generalize 2^j=P at L⊢;omega
 ·simp
end Go.Ev
namespace Go.Ev
open Go
set_option maxRecDepth 100000
theorem NY(p:Int){t:Nat}(W:t<32):((BitVec.ofInt 32 p).getLsbD t).toNat=((p/2^t) %2).toNat:=by
 rw[BitVec.getLsbD,BitVec.toNat_ofInt,Nat.toNat_testBit]
 have e:p=p %(2^32:Nat)+2^t*(2*(2^(31-t)*(p/(2^32:Nat)))):=by
  have q:(2:Int)^t*(2*(2^(31-t)*(p/(2^32:Nat))))=(2^32:Nat)*(p/(2^32:Nat)):=by
   rw[<-Int.mul_assoc,<-Int.mul_assoc,<-Int.pow_succ,<-Int.pow_add,show t+1+(31-t)=32 from by omega]
   rfl
  rw[q];omega
 have L:p/2^t=p %(2^32:Nat)/2^t+2*(2^(31-t)*(p/(2^32:Nat))):=by
  conv=>lhs;rw[e]
  rw[Int.add_mul_ediv_left _ _ (Int.ne_of_gt (Int.pow_pos (by omega)))]
 have O:(p/2^t) %2=(p %(2^32:Nat)/2^t) %2:=by rw[L];omega
 rw[O]
 have R:0<=p %(2^32:Nat):=Int.emod_nonneg _ (by decide)
 obtain⟨o,aK⟩:=Int.eq_ofNat_of_zero_le R
 rw[aK]
 have U:((o:Int)/2^t) %2=(((o/2^t) %2:Nat):Int):=by push_cast;rfl
 rw[U];rfl
theorem Io(p:Int){t:Nat}(o:t<32):cA (BitVec.toNat (BitVec.ofInt 32 (Int.fdiv p (2^min ((t:Int)).toNat 32))&&&BitVec.ofInt 32 (1:Int)):Int)=(((BitVec.ofInt 32 p).getLsbD t).toNat:Int):=by
 rw[NY p o,Int.toNat_natCast,Nat.min_eq_left (by omega),Int.fdiv_eq_ediv_of_nonneg _ (Int.le_of_lt (Int.pow_pos (by omega)))]
 generalize p/2^t=q
 rw[BitVec.toNat_and,show BitVec.toNat (BitVec.ofInt 32 (1:Int))=2^1-1 from by decide,Nat.and_two_pow_sub_one_eq_mod,BitVec.toNat_ofInt]
 rw[ji (by omega)]
 omega
theorem HD(b:Bool){j:Nat}(q:j<32):BitVec.ofInt 32 (cA ((b.toNat:Int)*2^min ((j:Int)).toNat 32))=if b then BitVec.twoPow 32 j else 0#32:=by
 rw[Int.toNat_natCast,Nat.min_eq_left (by omega)]
 have o:2^j<2^32:=Nat.pow_lt_pow_right (by omega) q
 cases b
 ·simp;decide
 ·have e:((true.toNat:Nat):Int)*2^j=((2^j:Nat):Int):=by simp
  rw[e,ji (by generalize 2^j=P at o⊢;omega)]
  apply BitVec.eq_of_toNat_eq
  rw[if_pos rfl,BitVec.toNat_ofInt,BitVec.toNat_twoPow,Nat.mod_eq_of_lt o]
  generalize 2^j=P at o⊢
  rw[Int.emod_eq_of_lt (by omega) (by omega)]
  omega
theorem uP(v:BitVec 32):BitVec.ofInt 32 (v.toNat:Int)=v:=by
 have:=zu v
 rwa [ji (by have:=v.isLt;omega)]at this
theorem AO(v:BitVec 32):cA (v.toNat:Int)=(v.toNat:Int):=ji (by have:=v.isLt;omega)
end Go.Ev
namespace Go.Ev
open Go
set_option maxRecDepth 100000
def gC(fns o:List (List UInt8))(i:Nat)(v w:BitVec 32):Prop:=∀j,w.getLsbD j=if h:j<o.length then decide (o[j]∈fns.take i)&&v.getLsbD (fns.idxOf o[j])else false
abbrev VM:Type:=Int->aG->aJ->aG->aJ->Unit->nB->de->Option fP
theorem Kw{fns o:List (List UInt8)}(W:fns.Nodup)(Y:o.Nodup)(lc:o.length<=24){i:Nat}(R:i<fns.length){v w:BitVec 32}(Z:gC fns o i v w):
  gC fns o (i+1) v (if fns[i]∈o then w|||(if v.getLsbD i then BitVec.twoPow 32 (o.idxOf fns[i])else 0#32)else w):=by
 intro j
 have la:fns.idxOf fns[i]=i:=List.Nodup.idxOf_getElem W i R
 have lb:∀x:List UInt8,decide (x∈fns.take (i+1))=(decide (x∈fns.take i)||decide (x=fns[i])):=fun x=>by
  rw[List.take_succ_eq_append_getElem R,Bool.eq_iff_iff]
  simp only[decide_eq_true_eq,Bool.or_eq_true,List.mem_append,List.mem_singleton]
 have key:(if fns[i]∈o then w|||(if v.getLsbD i then BitVec.twoPow 32 (o.idxOf fns[i])else 0#32)else w).getLsbD j=(w.getLsbD j||(decide (j<o.length)&&decide (o[j]? =some fns[i])&&v.getLsbD i)):=by
  by_cases O:fns[i]∈o
  ·rw[if_pos O,BitVec.getLsbD_or]
   congr 1
   have U:=List.idxOf_lt_length_of_mem O
   cases ld:v.getLsbD i
   ·simp
   ·rw[if_pos rfl,BitVec.getLsbD_twoPow]
    by_cases e:j=o.idxOf fns[i]
    ·subst e
     rw[List.getElem?_eq_getElem U]
     simp only[List.getElem_idxOf]
     simp[U];omega
    ·have:o[j]? ≠some fns[i]:=by
      intro L
      obtain⟨q,L⟩:=List.getElem?_eq_some_iff.1 L
      exact e (by rw[<-L];exact(List.Nodup.idxOf_getElem Y j q).symm)
     simp[this,Ne.symm e]
  ·rw[if_neg O]
   have:o[j]? ≠some fns[i]:=by
    intro L
    exact O (List.mem_of_getElem? L)
   simp[this]
 rw[key,Z j]
 by_cases q:j<o.length
 ·rw[dif_pos q,dif_pos q,lb,List.getElem?_eq_getElem q]
  by_cases e:o[j]=fns[i]
  ·rw[e,la];simp[q]
  ·simp[q,e]
 ·rw[dif_neg q,dif_neg q];simp[q]
theorem MU{fns o:List (List UInt8)}(U:fns.Nodup)(W:o.Nodup)(Y:o.length<=24)(lh:fns.length<=24){m2:List bc}(lg:tY o o.length m2)(x:Int×Int×Int×Unit)(je:List cz)(aP:VM)(t2:Int)(se:List cz)(Z:List (List UInt8))(m3:List (Int×Int)):
  ∀n i (q L:BitVec 32),i<=fns.length->fns.length-i<n->gC fns o i (BitVec.ofInt 32 x.2.1) q->gC fns o i (BitVec.ofInt 32 x.2.2.1) L->
  ∃la lb:BitVec 32,gC fns o fns.length (BitVec.ofInt 32 x.2.1) la/\gC fns o fns.length (BitVec.ofInt 32 x.2.2.1) lb/\
   pF 80000 fns m2 x je aP t2 se Z () m3 n (i:Int) (q.toNat:Int) (L.toNat:Int)=
    Option.bind (nH 80000 je x.1 x.2.1 x.2.2.1 (0:Int) (la.toNat:Int) (lb.toNat:Int)) fun v1=>
    aP (aj (t2+(1:Int))) fns se Z je () m2 (cm (aQ (.int .i32)) m3 x.1 v1.1):=by
 intro n
 induction n with
 |zero=>intro i _ _ _ h;omega
 |succ n lc=>
  intro i q L li lj ld le
  unfold pF K7 vn
  by_cases h:i<fns.length
  ·rw[if_pos (by simp only[decide_eq_true_eq];omega),fg h]
   simp only[Option.bind_some]
   have lf:=lg fns[i]
   rw[List.take_length]at lf
   rw[lf,gm (by omega)]
   have O:=Kw U W Y h ld
   have R:=Kw U W Y h le
   by_cases aK:fns[i]∈o
   ·rw[if_pos aK]at O R
    rw[if_pos aK]
    have lk:=List.idxOf_lt_length_of_mem aK
    simp only[Option.isSome_some,Bool.not_true,Bool.false_eq_true,if_false,Option.getD_some]
    rw[iJ (by omega),iJ (by omega)]
    simp only[Option.bind_some]
    rw[Io _ (by omega),Io _ (by omega),HD _ (by omega),HD _ (by omega),uP,uP,AO,AO]
    exact lc (i+1) _ _ (by omega) (by omega) O R
   ·rw[if_neg aK]at O R
    rw[if_neg aK]
    simp only[Option.isSome_none,Bool.not_false,if_true]
    exact lc (i+1) _ _ (by omega) (by omega) O R
  ·rw[if_neg (by simp only[decide_eq_true_eq];omega)]
   have:i=fns.length:=by omega
   subst this
   exact⟨q,L,ld,le,rfl⟩
end Go.Ev
namespace Go.Ev
open Go
set_option maxRecDepth 100000
abbrev dP:Type:=Int×Int×Int×Unit
def fx(o q:BitVec 32)(y:dP):BitVec 32:=(BitVec.ofInt 32 y.2.1^^^o)|||(BitVec.ofInt 32 y.2.2.1^^^q)
def dY(r:Int)(o q:BitVec 32)(y:dP):Int:=if y.1=r then-1 else((cZ (fx o q y).toNat 32:Nat):Int)
theorem LG(r:Int)(o q:BitVec 32)(y:dP):-1<=dY r o q y/\dY r o q y<=32:=by
 unfold dY
 have:=BH (fx o q y).toNat 32
 split<;>omega
theorem KJ(r p m z:Int)(o q:BitVec 32)(y:dP):pH 80000 y (r,p,m,()) (z,(o.toNat:Int),(q.toNat:Int),())=some (dY r o q y):=by
 unfold pH dY
 by_cases h:y.1=r
 ·rw[if_pos (by simpa using h),if_pos h]
 ·rw[if_neg (by simpa using h),if_neg h]
  rw[uP,uP,zu,zu]
  have:=(fx o q y).isLt
  have e:cA (BitVec.toNat (BitVec.ofInt 32 y.2.1^^^o|||BitVec.ofInt 32 y.2.2.1^^^q):Int)=(((fx o q y).toNat:Nat):Int):=AO _
  rw[e,N5 80000 this]
  rfl
theorem UF(r p m z:Int)(o q:BitVec 32)(y L:dP):nN 80000 y L r p m z (o.toNat:Int) (q.toNat:Int)=some (dY r o q y-dY r o q L):=by
 unfold nN
 have O:=KJ r p m z o q (y.1,y.2.1,y.2.2.1,())
 have R:=KJ r p m z o q (L.1,L.2.1,L.2.2.1,())
 rw[O,R]
 simp only[Option.bind_some]
 have U:=LG r o q y
 have W:=LG r o q L
 rw[show dY r o q (y.1,y.2.1,y.2.2.1,())=dY r o q y from rfl,show dY r o q (L.1,L.2.1,L.2.2.1,())=dY r o q L from rfl,rD (by omega)]
def kO(d:dP->Int)(l:List dP)(i j:Nat)(y:dP):Prop:=j<i/\l[j]? =some y/\∀t z,t<i->l[t]? =some z->d y<=d z/\(t<j->d y<d z)
theorem Wt{d:dP->Int}{l:List dP}{i j:Nat}{y z:dP}(L:l[i]? =some z)(h:kO d l i j y):if d z<d y then kO d l (i+1) i z else kO d l (i+1) j y:=by
 obtain⟨W,R,O⟩:=h
 by_cases c:d z<d y
 ·rw[if_pos c]
  refine⟨by omega,L,fun t u U o=>?_⟩
  rcases Nat.lt_or_ge t i with q|q
  ·have:=(O t u q o).1
   omega
  ·have:t=i:=by omega
   subst this
   rw[L]at o
   cases o
   omega
 ·rw[if_neg c]
  refine⟨by omega,R,fun t u U o=>?_⟩
  rcases Nat.lt_or_ge t i with q|q
  ·exact O t u q o
  ·have:t=i:=by omega
   subst this
   rw[L]at o
   cases o
   omega
theorem Se(r p m z:Int)(o q:BitVec 32)(l:List dP)(W:l.length<=128):∀n i j (y:dP),i<=l.length->l.length-i<n->kO (dY r o q) l i j y->
  ∃j L,kO (dY r o q) l l.length j L/\qI 80000 l r p m z (o.toNat:Int) (q.toNat:Int) n (i:Int) y.1 y.2.1 y.2.2.1=some L:=by
 intro n
 induction n with
 |zero=>intro i _ _ _ h;omega
 |succ n O=>
  intro i j y Y Z R
  unfold qI Kq tf
  by_cases h:i<l.length
  ·rw[if_pos (by simp only[decide_eq_true_eq];omega),fg h]
   simp only[Option.bind_some]
   have U:=UF r p m z o q l[i] (y.1,y.2.1,y.2.2.1,())
   rw[U]
   simp only[Option.bind_some]
   rw[gm (by omega)]
   have s:=Wt (List.getElem?_eq_getElem h) R
   by_cases c:dY r o q l[i]<dY r o q y
   ·rw[if_pos c]at s
    rw[if_pos (by simp only[decide_eq_true_eq];have:dY r o q (y.1,y.2.1,y.2.2.1,())=dY r o q y:=rfl;omega)]
    exact O (i+1) i _ (by omega) (by omega) s
   ·rw[if_neg c]at s
    rw[if_neg (by simp only[decide_eq_true_eq];have:dY r o q (y.1,y.2.1,y.2.2.1,())=dY r o q y:=rfl;omega)]
    exact O (i+1) j _ (by omega) (by omega) s
  ·rw[if_neg (by simp only[decide_eq_true_eq];omega)]
   have:i=l.length:=by omega
   subst this
   exact⟨j,y,R,rfl⟩
theorem Qz(r p m z:Int)(q L:BitVec 32)(l:List dP)(o:1<=l.length)(U:l.length<=128):
  ∃j O,kO (dY r q L) l l.length j O/\nH 80000 l r p m z (q.toNat:Int) (L.toNat:Int)=some O:=by
 unfold nH
 rw[if_neg (by simp only[decide_eq_true_eq];omega)]
 have W:aq l (0:Int)=some (l[0]'o):=fg (i:=0) o
 rw[W]
 simp only[Option.bind_some]
 exact Se r p m z q L l U 80000 1 0 _ o (by omega) ⟨by omega,List.getElem?_eq_getElem o,fun t u Y R=>by
  have:t=0:=by omega
  subst this
  rw[List.getElem?_eq_getElem o]at R
  cases R
  omega⟩
end Go.Ev
namespace Go.Ev
open Go
set_option maxRecDepth 100000
def sp(az o:ch)(x:dP)(r:Int):Prop:=∃(q L:BitVec 32) (j:Nat) (y:dP),gC az.1 o.1 az.1.length (BitVec.ofInt 32 x.2.1) q/\gC az.1 o.1 az.1.length (BitVec.ofInt 32 x.2.2.1) L/\kO (dY x.1 q L) o.2.1 o.2.1.length j y/\y.1=r
def nG(az o:ch)(i:Nat)(m:List (Int×Int)):Prop:=∀t x,t<i->az.2.1[t]? =some x->∃r,bL (aQ (.int .i32)) m x.1=some r/\sp az o x r
theorem Lh(fns o:List (List UInt8))(v:BitVec 32):gC fns o 0 v 0#32:=by
 intro j
 simp
theorem Oq(az o:ch)(Z:az.1.Nodup)(O:o.1.Nodup)(la:az.1.length<=24)(lb:o.1.length<=24)(lc:1<=o.2.1.length)(ld:o.2.1.length<=128)(lq:az.2.1.length<=128)(le:(dU az).Nodup){m2:List bc}(lf:tY o.1 o.1.length m2):
  ∀n i (m3:List (Int×Int)),i<=az.2.1.length->az.2.1.length-i<n->nG az o i m3->
  ∃m,nG az o az.2.1.length m/\nu 80000 az n (i:Int) az.1 az.2.1 o.1 o.2.1 () m2 m3=some ((some m,()),()):=by
 intro n
 induction n with
 |zero=>intro i _ _ h;omega
 |succ n lg=>
  intro i m3 lr ls R
  unfold nu Fc
  by_cases h:i<az.2.1.length
  ·rw[if_pos (by simp only[decide_eq_true_eq];omega),fg h]
   simp only[Option.bind_some]
   obtain⟨U,W,lh,li,e⟩:=MU Z O lb la lf az.2.1[i] o.2.1 (nu 80000 az n) (i:Int) az.2.1 o.1 m3 80000 0 0#32 0#32 (Nat.zero_le _) (by omega) (Lh _ _ _) (Lh _ _ _)
   obtain⟨j,y,lj,lk⟩:=Qz az.2.1[i].1 az.2.1[i].2.1 az.2.1[i].2.2.1 0 U W o.2.1 lc ld
   rw[lk]at e
   simp only[Option.bind_some]at e
   rw[gm (by omega)]at e
   have ll:∀t x,t<i->az.2.1[t]? =some x->x.1≠az.2.1[i].1:=by
    intro t x O L q
    obtain⟨lm,L⟩:=List.getElem?_eq_some_iff.1 L
    have:=(List.nodup_iff_pairwise_ne.1 le)
    have:=(List.pairwise_iff_getElem.1 this) t i (by simpa using lm) (by simpa using h) O
    simp only[List.getElem_map]at this
    exact this (by rw[L];exact q)
   obtain⟨m,ln,em⟩:=lg (i+1) (cm (aQ (.int .i32)) m3 az.2.1[i].1 y.1) (by omega) (by omega) (by
    intro t x O L
    have Y:=nF (α:=Int) (β:=Int) wL az.2.1[i].1 x.1 y.1 m3
    rcases Nat.lt_or_ge t i with q|q
    ·obtain⟨r,lo,lp⟩:=R t x q L
     exact⟨r,(Y.2 (ll t x q L)).trans lo,lp⟩
    ·have:t=i:=by omega
     subst this
     rw[List.getElem?_eq_getElem h]at L
     cases L
     exact⟨y.1,Y.1 rfl,U,W,j,y,lh,li,lj,rfl⟩)
   exact⟨m,ln,e.trans em⟩
  ·rw[if_neg (by simp only[decide_eq_true_eq];omega)]
   have:i=az.2.1.length:=by omega
   subst this
   exact⟨m3,R,rfl⟩
theorem hU{a:ch}(h:dE a=true):a.1.length<=24/\1<=a.2.1.length/\a.2.1.length<=128/\a.1.Nodup/\(dU a).Nodup/\∀l∈a.2.1,iQ l.1=true/\jh a.1.length l.2.1 l.2.2.1=true:=by
 unfold dE at h
 simp only[Bool.and_eq_true,decide_eq_true_eq,List.all_eq_true]at h
 exact⟨h.1.1.1,h.1.1.2.1,h.1.1.2.2,h.1.2.2,h.2.2,h.2.1⟩
theorem EK{az o:ch}(q:dE az=true)(L:dE o=true):∃m,nG az o az.2.1.length m/\tw 80000 az o=some ((some m,()),()):=by
 obtain⟨f1,f2,f3,f4,f5,f6⟩:=hU q
 obtain⟨t1,t2,t3,t4,t5,t6⟩:=hU L
 unfold tw
 obtain⟨ay,e,O⟩:=Mp o az t1 t4 80000 0 [] (Nat.zero_le _) (by omega) (fun x=>by simp[bL])
 rw[show((0:Nat):Int)=0 from rfl]at e
 rw[e]
 exact Oq az o f4 t4 f1 t1 t2 t3 f3 f5 O 80000 0 [] (Nat.zero_le _) (by omega) (fun t x h _=>by omega)
end Go.Ev
namespace Go.Ev
open Go
set_option maxRecDepth 100000
def bH(m:List (Int×Int))(r:Int):Int:=(bL (aQ (.int .i32)) m r).getD 0
theorem Lz(xs:List Int):(cS xs).length<=4*xs.length:=by
 have:=foldl_size_le xs ByteArray.empty
 unfold cS runesBytes
 rw[Array.length_toList]
 rw[show ByteArray.empty.size=0 from rfl,Nat.zero_add]at this
 exact this
theorem SD(m:List (Int×Int))(l:List Int)(O:l.length<=64):∀n i (t2:List Int),i<=l.length->l.length-i<n->t2.length=l.length->t2.take i=(l.take i).map (bH m)->
  qZ 80000 l ((some m,()),()) n (i:Int) t2=some (cS (l.map (bH m))):=by
 intro n
 induction n with
 |zero=>intro i _ _ h;omega
 |succ n q=>
  intro i t2 R U L o
  unfold qZ JA
  by_cases h:i<l.length
  ·rw[if_pos (by simp only[decide_eq_true_eq];omega),fg h]
   simp only[Option.bind_some]
   rw[show D9 80000 l[i] (some m)=some (bH m l[i])from rfl]
   simp only[Option.bind_some]
   rw[fg (by omega)]
   simp only[Option.bind_some]
   rw[gm (by omega),Int.toNat_natCast]
   refine q (i+1) _ (by omega) (by omega) (by simp[L]) ?_
   rw[List.take_succ_eq_append_getElem (by simp;omega),List.take_succ_eq_append_getElem h,List.map_append,List.take_set_of_le (by omega),o]
   simp
  ·rw[if_neg (by simp only[decide_eq_true_eq];omega)]
   have:i=l.length:=by omega
   subst this
   rw[List.take_of_length_le (by omega),List.take_of_length_le (by omega)]at o
   subst o
   have:=Lz (l.map (bH m))
   rw[List.length_map]at this
   have W:(1000000:Nat)<=br:=by decide
   rw[iJ (by omega)]
   rfl
theorem xi(m:List (Int×Int))(l:List Int)(o:l.length<=64):tT 80000 ((some m,()),()) l=some (cS (l.map (bH m))):=by
 unfold tT
 have q:(1000000:Int)<=(br:Int):=by decide
 rw[iJ (by omega)]
 simp only[Option.bind_some]
 exact SD m l o 80000 0 _ (Nat.zero_le _) (by omega) (by simp) (by simp)
end Go.Ev
namespace Go.Ev
open Go
set_option maxRecDepth 100000
set_option linter.unusedVariables false
def enc(r:Int):List UInt8:=(Utf8.encode r).data.toList
def fU(c:Nat):List UInt8:=
 if c<128 then[UInt8.ofNat c]else if c<2048 then[UInt8.ofNat (192+c/64),UInt8.ofNat (128+c %64)]
 else if c<65536 then[UInt8.ofNat (224+c/4096),UInt8.ofNat (128+c/64 %64),UInt8.ofNat (128+c %64)]
 else[UInt8.ofNat (240+c/262144),UInt8.ofNat (128+c/4096 %64),UInt8.ofNat (128+c/64 %64),UInt8.ofNat (128+c %64)]
theorem RH(r:Int):enc r=fU (if Utf8.valid r then r.toNat else 65533):=by
 have key:∀c:Nat,(if c<128 then(⟨#[UInt8.ofNat c]⟩:ByteArray)else if c<2048 then⟨#[UInt8.ofNat (192+c/64),UInt8.ofNat (128+c %64)]⟩
   else if c<65536 then⟨#[UInt8.ofNat (224+c/4096),UInt8.ofNat (128+c/64 %64),UInt8.ofNat (128+c %64)]⟩
   else⟨#[UInt8.ofNat (240+c/262144),UInt8.ofNat (128+c/4096 %64),UInt8.ofNat (128+c/64 %64),UInt8.ofNat (128+c %64)]⟩).data.toList=fU c:=by
  intro c
  unfold fU
  repeat' split
  all_goals rfl
 exact key _
theorem FH(xs:List Int):cS xs=xs.flatMap enc:=by
 have key:∀(xs:List Int) (a:List UInt8),(xs.foldl (fun r n=>r++Utf8.encode n) (bytesOf a))=bytesOf (a++xs.flatMap enc):=by
  intro xs
  induction xs with
  |nil=>intro a;simp
  |cons x xs o=>
   intro a
   rw[List.foldl_cons]
   have e:Utf8.encode x=bytesOf (enc x):=by unfold enc bytesOf;simp
   rw[e,I9,o]
   simp
 have h:=key xs []
 unfold cS runesBytes
 have q:ByteArray.empty=bytesOf []:=rfl
 rw[q,h]
 simp[bytesOf]
def kU(c:Nat):Prop:=c<55296\/(57344<=c/\c<=1114111)
theorem GO{c:Nat}(h:kU c):enc (c:Int)=fU c:=by
 unfold kU at h
 rw[RH]
 have:Utf8.valid (c:Int)=true:=by unfold Utf8.valid;simp;omega
 rw[this,if_pos rfl,Int.toNat_natCast]
theorem VZ{c:Nat}(h:kU c)(rest:List UInt8):g (fU c++rest) 0=(c,(fU c).length):=by
 unfold kU at h
 have t:∀n:Nat,(UInt8.ofNat n).toNat=n %256:=fun n=>by simp
 unfold g
 rw[List.length_append,Nat.sub_zero]
 unfold fU
 by_cases o:c<128
 ·simp only[if_pos o,bq,List.cons_append,List.getD_cons_zero,t,Lib.decodeN]
  rw[if_pos (by omega)];simp;omega
 rw[if_neg o]
 by_cases c2:c<2048
 ·simp only[if_pos c2,bq,List.cons_append,List.getD_cons_zero,List.getD_cons_succ,t,Lib.decodeN,List.length_cons,Nat.zero_add]
  rw[if_neg (by omega),if_pos (by omega),if_pos (by omega)]
  simp;omega
 rw[if_neg c2]
 by_cases c3:c<65536
 ·simp only[if_pos c3,bq,List.cons_append,List.getD_cons_zero,List.getD_cons_succ,t,Lib.decodeN,List.length_cons,Nat.zero_add]
  rw[if_neg (by omega),if_neg (by omega),if_pos (by omega),if_pos (by omega)]
  simp;omega
 ·simp only[if_neg c3,bq,List.cons_append,List.getD_cons_zero,List.getD_cons_succ,t,Lib.decodeN,List.length_cons,Nat.zero_add]
  rw[if_neg (by omega),if_neg (by omega),if_neg (by omega),if_pos (by omega),if_pos (by omega)]
  simp;omega
theorem Od(c:Nat):0<(fU c).length:=by
 unfold fU
 repeat' split
 all_goals simp
theorem Rd{r:Int}(h:iQ r=true):∃c:Nat,r=(c:Int)/\kU c/\c≠65533:=by
 unfold iQ at h
 simp only[Bool.or_eq_true,Bool.and_eq_true,decide_eq_true_eq]at h
 refine⟨r.toNat,by omega,?_,by omega⟩
 unfold kU
 omega
theorem TQ(pre t:List UInt8):g (pre++t) pre.length=g t 0:=by
 have:=J0 (pre++t) pre.length 0
 rw[List.drop_left]at this
 rw[this,Nat.add_zero]
theorem E7(M:Int->Bool):∀(xs:List Int) (n:Nat) (pre:List UInt8) (o:List Int),(∀x∈xs,iQ x=true/\M x=true)->o.length+xs.length<=64->xs.length<n->
  gL M (pre++xs.flatMap enc) n pre.length o=(o++xs,0)
 |[],n+1,pre,o,_,_,_=>by
  unfold gL
  rw[if_neg (by simp)]
  simp
 |x::xs,n+1,pre,o,h,R,U=>by
  obtain⟨W,Y⟩:=h x (by simp)
  obtain⟨c,L,ok,Z⟩:=Rd W
  have q:enc x=fU c:=by rw[L];exact GO ok
  have lc:=Od c
  have O:g (pre++(x::xs).flatMap enc) pre.length=(c,(fU c).length):=by
   rw[TQ,List.flatMap_cons,q,VZ ok]
  unfold gL
  rw[if_pos (by rw[List.flatMap_cons,q];simp;omega)]
  rw[if_neg (by rw[tI,O];intro la;exact Z la.1),O]
  simp only
  rw[<-L,Y]
  simp only[Bool.not_true,Bool.false_eq_true,if_false]
  simp only[List.length_cons]at R U
  rw[if_neg (by simp only[beq_iff_eq];omega)]
  have:=E7 M xs n (pre++fU c) (o++[x]) (fun y lb=>h y (by simp[lb])) (by simp;omega) (by omega)
  rw[List.length_append]at this
  rw[List.flatMap_cons,q,<-List.append_assoc,this]
  simp
end Go.Ev
namespace Go.Ev
open Go
set_option maxRecDepth 100000
theorem xh(az o:ch){w:List UInt8}(L:w.length<=65536):
  (∃e:Int,e≠0/\fD 80000 az o w=some ([],e))\/
  (dE az=true/\dE o=true/\(wl az w).2=0/\∃m,nG az o az.2.1.length m/\fD 80000 az o w=some (cS ((wl az w).1.map (bH m)),0)):=by
 unfold fD
 rw[show((az.1,az.2.1,()):ch)=az from rfl,show((o.1,o.2.1,()):ch)=o from rfl,kT]
 simp only[Option.bind_some]
 cases O:dE az
 ·refine .inl ⟨7,by decide,?_⟩
  rfl
 rw[if_neg (by simp)]
 rw[kT]
 simp only[Option.bind_some]
 cases R:dE o
 ·refine .inl ⟨7,by decide,?_⟩
  rfl
 rw[if_neg (by simp),pm az L]
 simp only[Option.bind_some]
 by_cases q:(wl az w).2=0
 ·rw[if_neg (by simp[q])]
  obtain⟨m,U,e⟩:=EK O R
  rw[e]
  simp only[Option.bind_some]
  rw[xi m _ (Eu az w q).2.1,q]
  exact .inr ⟨trivial,trivial,rfl,m,U,rfl⟩
 ·rw[if_pos (by simp[q])]
  refine .inl ⟨(wl az w).2,q,?_⟩
  simp only[kY]
  rw[if_pos (by simp[q])]
  rfl
end Go.Ev
namespace Go.Ev
open Go
set_option maxRecDepth 100000
theorem JP{az o:ch}{x:dP}{r:Int}(h:sp az o x r):r∈dU o:=by
 obtain⟨L,O,j,y,_,_,q,e⟩:=h
 exact List.mem_map.2 ⟨y,List.mem_of_getElem? q.2.1,e⟩
theorem KV{a:ch}{r:Int}(h:r∈dU a):∃t x,t<a.2.1.length/\a.2.1[t]? =some x/\x.1=r:=by
 obtain⟨x,q,e⟩:=List.mem_map.1 h
 obtain⟨t,o,L⟩:=List.getElem_of_mem q
 exact⟨t,x,o,by rw[List.getElem?_eq_getElem o,L],e⟩
theorem DV{az o:ch}{m:List (Int×Int)}(O:nG az o az.2.1.length m){r:Int}(h:r∈dU az):∃t x,t<az.2.1.length/\az.2.1[t]? =some x/\x.1=r/\sp az o x (bH m r):=by
 obtain⟨t,x,q,L,e⟩:=KV h
 obtain⟨U,aK,R⟩:=O t x q L
 rw[e]at aK
 refine⟨t,x,q,L,e,?_⟩
 unfold bH
 rw[aK]
 exact R
theorem Rs{a:ch}(q:dE a=true){o:List Int}(h:∀y∈o,y∈dU a)(O:o.length<=64):wl a (cS o)=(o,0):=by
 unfold wl
 rw[if_pos q,FH]
 have R:=(hU q).2.2.2.2.2
 have:=E7 (mS a) o 65537 [] [] (fun y L=>⟨by
  obtain⟨x,U,e⟩:=List.mem_map.1 (h y L)
  rw[<-e];exact(R x U).1,decide_eq_true (h y L)⟩) (by simpa using O) (by omega)
 simpa using this
end Go.Ev
namespace Go.Ev
open Go
set_option maxRecDepth 100000
theorem Fp{az o:ch}{x:dP}{r:Int}(h:sp az o x r)(q:x.1∈dU o):r=x.1:=by
 obtain⟨L,O,j,y,_,_,R,e⟩:=h
 obtain⟨t,z,U,W,Y⟩:=KV q
 have:=(R.2.2 t z U W).1
 have ah:dY x.1 L O z=-1:=by unfold dY;rw[if_pos Y]
 rw[ah]at this
 unfold dY at this
 by_cases c:y.1=x.1
 ·rw[<-e];exact c
 ·rw[if_neg c]at this;omega
theorem Jk{az q:ch}{m:List (Int×Int)}(O:nG az q az.2.1.length m){o:List Int}(R:∀r∈o,r∈dU az)(U:∀r∈o,r∈dU q):o.map (bH m)=o:=by
 conv=>rhs;rw[<-List.map_id o]
 refine List.map_congr_left fun r L=>?_
 obtain⟨t,x,_,_,e,W⟩:=DV O (R r L)
 rw[Fp W (by rw[e];exact U r L),e];rfl
end Go.Ev
namespace Go.Ev
open Go
set_option maxRecDepth 100000
set_option linter.unusedVariables false
def cP(s:List UInt8)(a b:Nat):List UInt8:=(s.take b).drop a
theorem Mv{s:List UInt8}{a b:Nat}(o:b<=s.length):(cP s a b).length=b-a:=by
 unfold cP
 rw[List.length_drop,List.length_take]
 omega
theorem M8(s:List UInt8)(p:Nat):((g s p).1=65533/\(g s p).2=1)\/((g s p).1<=127/\(g s p).2=1)\/(128<=(g s p).1/\(g s p).1<=2047/\(g s p).2=2)\/
  (2048<=(g s p).1/\(g s p).1<=65535/\((g s p).1<55296\/57344<=(g s p).1)/\(g s p).2=3)\/(65536<=(g s p).1/\(g s p).1<=1114111/\(g s p).2=4):=by
 have o:=mi s p;have q:=mi s (p+1);have L:=mi s (p+2);have O:=mi s (p+3)
 unfold g Lib.decodeN
 repeat' split
 all_goals (dsimp only;omega)
theorem O3(s:List UInt8)(i:Nat):s.getD i 0=UInt8.ofNat (bq s i):=by unfold bq;simp
theorem Nr{s:List UInt8}{p n:Nat}(h:p+n<=s.length):cP s p (p+n)=(List.range n).map fun j=>UInt8.ofNat (bq s (p+j)):=by
 apply List.ext_getElem
 ·rw[Mv h];simp
 ·intro i q o
  have L:i<n:=by simpa using o
  have:s[p+i]'(by omega)=UInt8.ofNat (bq s (p+i)):=by
   rw[<-O3,List.getD_eq_getElem?_getD,List.getElem?_eq_getElem (by omega)];rfl
  simp only[cP,List.getElem_drop,List.getElem_take,List.getElem_map,List.getElem_range,this]
theorem W1{s:List UInt8}{p:Nat}(h:p<s.length)(R:bad s p=false):cP s p (p+(g s p).2)=fU (g s p).1:=by
 have Z:=qp s p h
 rw[Nr Z.2.1]
 have la:=mi s p;have lb:=mi s (p+1);have lc:=mi s (p+2);have ld:=mi s (p+3)
 have o:¬((g s p).1=65533/\(g s p).2=1):=fun Y=>by unfold bad at R;simp[Y.1,Y.2]at R
 clear R
 unfold g Lib.decodeN at*
 split
 ·rename_i U
  simp[fU,U]
 ·rename_i U
  rw[if_neg U]at o
  split
  ·rename_i c2
   rw[if_pos c2]at o
   split
   ·rename_i c3
    have L:¬(bq s p %32*64+bq s (p+1) %64<128):=by omega
    have O:bq s p %32*64+bq s (p+1) %64<2048:=by omega
    simp only[fU,if_neg L,if_pos O,List.range,List.range.loop,List.map,Nat.add_zero]
    rw[show 192+(bq s p %32*64+bq s (p+1) %64)/64=bq s p by omega,show 128+(bq s p %32*64+bq s (p+1) %64) %64=bq s (p+1) by omega]
   ·rename_i c3;rw[if_neg c3]at o;exact absurd ⟨rfl,rfl⟩ o
  ·rename_i c2
   rw[if_neg c2]at o
   split
   ·rename_i c3
    rw[if_pos c3]at o
    split
    ·rename_i q
     have L:¬(bq s p %16*4096+bq s (p+1) %64*64+bq s (p+2) %64<128):=by omega
     have O:¬(bq s p %16*4096+bq s (p+1) %64*64+bq s (p+2) %64<2048):=by omega
     have W:bq s p %16*4096+bq s (p+1) %64*64+bq s (p+2) %64<65536:=by omega
     simp only[fU,if_neg L,if_neg O,if_pos W,List.range,List.range.loop,List.map,Nat.add_zero]
     rw[show 224+(bq s p %16*4096+bq s (p+1) %64*64+bq s (p+2) %64)/4096=bq s p by omega,
      show 128+(bq s p %16*4096+bq s (p+1) %64*64+bq s (p+2) %64)/64 %64=bq s (p+1) by omega,
      show 128+(bq s p %16*4096+bq s (p+1) %64*64+bq s (p+2) %64) %64=bq s (p+2) by omega]
    ·rename_i q;rw[if_neg q]at o;exact absurd ⟨rfl,rfl⟩ o
   ·rename_i c3
    rw[if_neg c3]at o
    split
    ·rename_i q
     rw[if_pos q]at o
     split
     ·rename_i c5
      have L:¬(bq s p %8*262144+bq s (p+1) %64*4096+bq s (p+2) %64*64+bq s (p+3) %64<128):=by omega
      have O:¬(bq s p %8*262144+bq s (p+1) %64*4096+bq s (p+2) %64*64+bq s (p+3) %64<2048):=by omega
      have W:¬(bq s p %8*262144+bq s (p+1) %64*4096+bq s (p+2) %64*64+bq s (p+3) %64<65536):=by omega
      simp only[fU,if_neg L,if_neg O,if_neg W,List.range,List.range.loop,List.map,Nat.add_zero]
      rw[show 240+(bq s p %8*262144+bq s (p+1) %64*4096+bq s (p+2) %64*64+bq s (p+3) %64)/262144=bq s p by omega,
       show 128+(bq s p %8*262144+bq s (p+1) %64*4096+bq s (p+2) %64*64+bq s (p+3) %64)/4096 %64=bq s (p+1) by omega,
       show 128+(bq s p %8*262144+bq s (p+1) %64*4096+bq s (p+2) %64*64+bq s (p+3) %64)/64 %64=bq s (p+2) by omega,
       show 128+(bq s p %8*262144+bq s (p+1) %64*4096+bq s (p+2) %64*64+bq s (p+3) %64) %64=bq s (p+3) by omega]
     ·rename_i c5;rw[if_neg c5]at o;exact absurd ⟨rfl,rfl⟩ o
    ·rename_i q;rw[if_neg q]at o;exact absurd ⟨rfl,rfl⟩ o
theorem VO(s:List UInt8)(p:Nat):kU (g s p).1:=by
 unfold kU
 rcases M8 s p with h|h|h|h|h<;>omega
theorem Ml(M:Int->Bool)(s:List UInt8):∀n p o aa,s.length<n+p->p<=s.length->gL M s n p o=(aa,0)->aa.flatMap enc=o.flatMap enc++s.drop p:=by
 intro n
 induction n with
 |zero=>intro p o aa O R h;omega
 |succ n U=>
  intro p o aa O R h
  unfold gL at h
  by_cases q:p<s.length
  ·rw[if_pos q]at h
   have W:=qp s p q
   cases L:bad s p
   ·rw[L]at h
    simp only[Bool.false_eq_true,if_false]at h
    split at h
    ·cases h
    ·split at h
     ·cases h
     ·have:=U _ _ aa (by omega) W.2.1 h
      rw[this,List.flatMap_append,List.append_assoc]
      refine congrArg (fun z=>o.flatMap enc++z) ?_
      have e:enc ((g s p).1:Int)=cP s p (p+(g s p).2):=by rw[GO (VO s p),W1 q L]
      simp only[List.flatMap_cons,List.flatMap_nil,List.append_nil]
      rw[e]
      unfold cP
      rw[<-List.drop_append_of_le_length (by rw[List.length_take];omega),List.take_append_drop]
   ·rw[L]at h
    simp at h
  ·rw[if_neg q]at h
   cases h
   rw[List.drop_of_length_le (by omega),List.append_nil]
theorem Ph{a:ch}{w:List UInt8}(L:w.length<=65536)(h:(wl a w).2=0):cS (wl a w).1=w:=by
 have q:=(Eu a w h).1
 unfold wl at h⊢
 rw[if_pos q]at h⊢
 rw[FH]
 have o:w.length<65537+0:=by omega
 revert h o
 generalize (65537:Nat)=N
 intro h o
 have e:=Ml (mS a) w N 0 [] (gL (mS a) w N 0 []).1 o (Nat.zero_le _) (by rw[<-h])
 simpa using e
end Go.Ev
namespace Go.Ev
open Go
set_option maxRecDepth 100000
theorem K4:∀(o:List (List UInt8)) (i:Nat) (x:List UInt8),o[i]? =some x->x∉o.take i->o.idxOf x=i
 |[],i,x,h,_=>by simp at h
 |y::o,0,x,h,_=>by simp at h;subst h;simp
 |y::o,i+1,x,h,q=>by
  simp only[List.getElem?_cons_succ]at h
  simp only[List.take_succ_cons,List.mem_cons,not_or]at q
  have:=K4 o i x h q.2
  rw[List.idxOf_cons,show(y==x)=false from by simp[Ne.symm q.1]]
  simp[this]
theorem VT(s:List (List UInt8))(v:List UInt8)(R:s.length<=5000):∀n i,i<=s.length->s.length-i<n->v∉s.take i->pQ s v n (i:Int)=some (if v∈s then((s.idxOf v:Nat):Int)else-1):=by
 intro n
 induction n with
 |zero=>intro i _ h;omega
 |succ n O=>
  intro i U W L
  unfold pQ Fj
  by_cases h:i<s.length
  ·rw[if_pos (by simp only[decide_eq_true_eq];omega),fg h]
   simp only[Option.bind_some]
   by_cases o:v=s[i]
   ·rw[if_pos (by simpa using o),if_pos (by rw[o];exact List.getElem_mem h),K4 s i v (by rw[List.getElem?_eq_getElem h,o]) L]
   ·rw[if_neg (by simpa using o),gm (by omega)]
    refine O (i+1) (by omega) (by omega) ?_
    rw[List.take_succ_eq_append_getElem h]
    intro q
    rcases List.mem_append.1 q with q|q
    ·exact L q
    ·exact o (List.mem_singleton.1 q)
  ·rw[if_neg (by simp only[decide_eq_true_eq];omega)]
   rw[List.take_of_length_le (by omega)]at L
   rw[if_neg L]
theorem Pp(s:List (List UInt8))(v:List UInt8)(o:s.length<=5000):qV 80000 s v=some (if v∈s then((s.idxOf v:Nat):Int)else-1):=by
 unfold qV
 exact VT s v o 80000 0 (Nat.zero_le _) (by omega) (by simp)
theorem Nl{a:ch}(o:dE a=true)(v:List UInt8):uV 80000 a v=some (if v∈a.1 then((2^a.1.idxOf v:Nat):Int)else 0,if v∈a.1 then 0 else 8):=by
 obtain⟨L,a2,a3,a4,a5,O⟩:=hU o
 unfold uV
 rw[show((a.1,a.2.1,()):ch)=a from rfl,kT,o]
 simp only[Option.bind_some,if_true]
 rw[if_neg (by simp),Pp a.1 v (by omega)]
 simp only[Option.bind_some]
 by_cases h:v∈a.1
 ·rw[if_pos h,if_pos h,if_pos h,if_neg (by simp only[decide_eq_true_eq];omega),iJ (by omega)]
  have:=List.idxOf_lt_length_of_mem h
  simp only[Option.bind_some]
  rw[Int.toNat_natCast,Nat.min_eq_left (by omega),Int.one_mul]
  have q:2^a.1.idxOf v<2^32:=Nat.pow_lt_pow_right (by omega) (by omega)
  have e:((2:Int)^a.1.idxOf v)=((2^a.1.idxOf v:Nat):Int):=by simp
  rw[e,ji (by generalize 2^a.1.idxOf v=P at q⊢;omega)]
 ·rw[if_neg h,if_neg h,if_neg h,if_pos (by decide)]
def mg(a b:Bool):Int:=if a then 1 else if b then 2 else 0
theorem J5(u:BitVec 32){j:Nat}(o:j<32):((cA (BitVec.toNat (u&&&BitVec.ofInt 32 ((2^j:Nat):Int)):Int))!=(0:Int))=u.getLsbD j:=by
 have:=PT u 0#32 o
 rw[BitVec.zero_and]at this
 rw[show cA (((0#32:BitVec 32).toNat:Nat):Int)=0 from by decide]at this
 rw[this];simp
theorem JJ{a:ch}(o:dE a=true)(x:dP)(v:List UInt8):pq 80000 a x v=some (mg (decide (v∈a.1)&&(BitVec.ofInt 32 x.2.1).getLsbD (a.1.idxOf v)) (decide (v∈a.1)&&(BitVec.ofInt 32 x.2.2.1).getLsbD (a.1.idxOf v))):=by
 obtain⟨q,a2,a3,a4,a5,L⟩:=hU o
 unfold pq
 rw[show((a.1,a.2.1,()):ch)=a from rfl,Nl o]
 simp only[Option.bind_some]
 by_cases h:v∈a.1
 ·have:=List.idxOf_lt_length_of_mem h
  rw[if_pos h,if_pos h,if_neg (by simp),J5 _ (by omega),J5 _ (by omega),decide_eq_true h]
  unfold mg
  simp only[Bool.true_and]
  cases(BitVec.ofInt 32 x.2.1).getLsbD (a.1.idxOf v)<;>cases(BitVec.ofInt 32 x.2.2.1).getLsbD (a.1.idxOf v)<;>rfl
 ·rw[if_neg h,if_neg h,if_pos (by decide),decide_eq_false h]
  rfl
end Go.Ev
namespace Go.Ev
open Go
set_option maxRecDepth 100000
theorem EV{n:Nat}{p m:Int}(h:jh n p m=true):(∀j,n<=j->(BitVec.ofInt 32 p).getLsbD j=false/\(BitVec.ofInt 32 m).getLsbD j=false)/\∀j,((BitVec.ofInt 32 p).getLsbD j&&(BitVec.ofInt 32 m).getLsbD j)=false:=by
 unfold jh Ep at h
 simp only[Bool.and_eq_true,decide_eq_true_eq]at h
 constructor
 ·intro j o
  have:=Nat.testBit_lt_two_pow (Nat.lt_of_lt_of_le h.1 (Nat.pow_le_pow_right (by omega) o))
  rw[BitVec.toNat_or,Nat.testBit_or]at this
  simp only[Bool.or_eq_false_iff]at this
  exact this
 ·intro j
  have e:(BitVec.ofInt 32 p&&&BitVec.ofInt 32 m).getLsbD j=false:=by rw[BitVec.getLsbD,h.2];simp
  rwa [BitVec.getLsbD_and]at e
theorem Sa(a b c d:Bool)(o:(a&&b)=false)(q:(c&&d)=false):(mg a b !=mg c d)=((c^^a)||(d^^b)):=by
 revert o q;cases a<;>cases b<;>cases c<;>cases d<;>decide
theorem GQ(o q:BitVec 32)(y:dP)(j:Nat):(fx o q y).toNat.testBit j=(((BitVec.ofInt 32 y.2.1).getLsbD j^^o.getLsbD j)||((BitVec.ofInt 32 y.2.2.1).getLsbD j^^q.getLsbD j)):=by
 show(fx o q y).getLsbD j=_
 unfold fx
 rw[BitVec.getLsbD_or,BitVec.getLsbD_xor,BitVec.getLsbD_xor]
theorem Ha(z:Nat){n:Nat}:∀m,n<=m->(∀i,n<=i->i<m->z.testBit i=false)->cZ z m=cZ z n
 |0,h,_=>by
  have:n=0:=by omega
  rw[this]
 |m+1,h,o=>by
  by_cases e:n=m+1
  ·rw[e]
  ·rw[qz,o m (by omega) (by omega),Ha z m (by omega) fun i q L=>o i q (by omega)];rfl
theorem Nx{az o:ch}(W:dE az=true)(Y:dE o=true){x y:dP}(Z:x∈az.2.1)(la:y∈o.2.1){q L:BitVec 32}(lb:gC az.1 o.1 az.1.length (BitVec.ofInt 32 x.2.1) q)(lc:gC az.1 o.1 az.1.length (BitVec.ofInt 32 x.2.2.1) L):
  ∀n i,i<=o.1.length->o.1.length-i<n->pL 80000 o az x y n ((cZ (fx q L y).toNat i:Nat):Int) (i:Int)=some ((cZ (fx q L y).toNat o.1.length:Nat):Int):=by
 obtain⟨f1,f2,f3,f4,f5,f6⟩:=hU W
 obtain⟨t1,t2,t3,t4,t5,t6⟩:=hU Y
 have ld:=EV (f6 x Z).2
 have le:=EV (t6 y la).2
 intro n
 induction n with
 |zero=>intro i _ h;omega
 |succ n lf=>
  intro i li lj
  unfold pL Hh ui
  by_cases h:i<o.1.length
  ·rw[if_pos (by simp only[decide_eq_true_eq];omega),fg h]
   simp only[Option.bind_some]
   rw[show((az.1,az.2.1,()):ch)=az from rfl,show((o.1,o.2.1,()):ch)=o from rfl,show((x.1,x.2.1,x.2.2.1,()):dP)=x from rfl,show((y.1,y.2.1,y.2.2.1,()):dP)=y from rfl]
   rw[JJ W x,JJ Y y]
   simp only[Option.bind_some]
   have lg:o.1.idxOf o.1[i]=i:=List.Nodup.idxOf_getElem t4 i h
   have R:=lb i
   have U:=lc i
   rw[dif_pos h,List.take_length]at R U
   rw[<-R,<-U,lg,decide_eq_true (List.getElem_mem h)]
   simp only[Bool.true_and]
   have lh:(q.getLsbD i&&L.getLsbD i)=false:=by
    rw[R,U]
    have:=ld.2 (az.1.idxOf o.1[i])
    cases decide (o.1[i]∈az.1)<;>simp_all
   have O:cZ (fx q L y).toNat (i+1)=cZ (fx q L y).toNat i+(mg (q.getLsbD i) (L.getLsbD i)!=mg ((BitVec.ofInt 32 y.2.1).getLsbD i) ((BitVec.ofInt 32 y.2.2.1).getLsbD i)).toNat:=by
    rw[qz,GQ,Sa _ _ _ _ lh (le.2 i)]
   have lk:=BH (fx q L y).toNat i
   have:=lf (i+1) (by omega) (by omega)
   rw[gm (n:=i) (by omega)]
   by_cases c:(mg (q.getLsbD i) (L.getLsbD i)!=mg ((BitVec.ofInt 32 y.2.1).getLsbD i) ((BitVec.ofInt 32 y.2.2.1).getLsbD i))=true
   ·rw[if_pos c]
    rw[c]at O
    rw[gm (by omega)]
    rw[O]at this
    exact this
   ·rw[if_neg c]
    rw[Bool.not_eq_true]at c
    rw[c]at O
    rw[O]at this
    exact this
  ·rw[if_neg (by simp only[decide_eq_true_eq];omega)]
   have:i=o.1.length:=by omega
   rw[this]
theorem HQ{az o:ch}(lc:dE az=true)(O:dE o=true){x y:dP}(ld:x∈az.2.1)(R:y∈o.2.1){q L:BitVec 32}(U:gC az.1 o.1 az.1.length (BitVec.ofInt 32 x.2.1) q)(W:gC az.1 o.1 az.1.length (BitVec.ofInt 32 x.2.2.1) L):
  ng 80000 az o x y=some ((cZ (fx q L y).toNat 32:Nat):Int):=by
 obtain⟨t1,t2,t3,t4,t5,t6⟩:=hU O
 have Y:=EV (t6 y R).2
 unfold ng
 have:=Nx lc O ld R U W 80000 0 (Nat.zero_le _) (by omega)
 rw[show((cZ (fx q L y).toNat 0:Nat):Int)=0 from rfl,show((0:Nat):Int)=0 from rfl]at this
 rw[this,Ha (fx q L y).toNat 32 (n:=o.1.length) (by omega)]
 intro i Z _
 have la:=U i
 have lb:=W i
 rw[dif_neg (by omega)]at la lb
 rw[GQ,la,lb,(Y.1 i Z).1,(Y.1 i Z).2]
 rfl
end Go.Ev
namespace Go.Ev
open Go
set_option maxRecDepth 100000
theorem BM{a:ch}(o:dE a=true){r:Int}(h:r∈dU a):∃(t:Nat) (x:dP),a.2.1[t]? =some x/\x.1=r/\fK 80000 a r=some (x,0):=by
 obtain⟨O,a2,a3,a4,a5,R⟩:=hU o
 have q:=List.idxOf_lt_length_of_mem h
 have L:(dU a).idxOf r<a.2.1.length:=by simpa using q
 refine⟨(dU a).idxOf r,a.2.1[(dU a).idxOf r],List.getElem?_eq_getElem L,?_,?_⟩
 ·have:=List.getElem_idxOf q
  rw[List.getElem_map]at this
  exact this
 ·unfold fK
  rw[show((a.1,a.2.1,()):ch)=a from rfl,kT,o]
  simp only[Option.bind_some]
  rw[if_neg (by simp),Kp a r (by omega)]
  simp only[Option.bind_some]
  have e:pos (dU a) r-1=(((dU a).idxOf r:Nat):Int):=by unfold pos;rw[if_pos h];omega
  rw[e,if_neg (by simp only[decide_eq_true_eq];omega),fg L]
  rfl
theorem UE{a:ch}(o:dE a=true){r:Int}(h:r∉dU a):fK 80000 a r=some (((0:Int),(0:Int),(0:Int),()),5):=by
 obtain⟨q,a2,a3,a4,a5,L⟩:=hU o
 unfold fK
 rw[show((a.1,a.2.1,()):ch)=a from rfl,kT,o]
 simp only[Option.bind_some]
 rw[if_neg (by simp),Kp a r (by omega)]
 simp only[Option.bind_some]
 rw[Gi h,if_pos (by decide)]
theorem zW{a:ch}(R:dE a=true){t s:Nat}{x y:dP}(o:a.2.1[t]? =some x)(q:a.2.1[s]? =some y)(h:x.1=y.1):t=s:=by
 obtain⟨Y,a2,a3,a4,a5,Z⟩:=hU R
 obtain⟨U,o⟩:=List.getElem?_eq_some_iff.1 o
 obtain⟨W,q⟩:=List.getElem?_eq_some_iff.1 q
 have L:=List.Nodup.idxOf_getElem a5 t (by simpa using U)
 have O:=List.Nodup.idxOf_getElem a5 s (by simpa using W)
 rw[List.getElem_map]at L O
 rw[o]at L
 rw[q,<-h]at O
 exact L.symm.trans O
abbrev RT:Type:=Int->List (List UInt8)->List dP->List (List UInt8)->List dP->Option Bool
theorem Wb{az o:ch}(lb:dE az=true)(R:dE o=true){x y:dP}(lc:x∈az.2.1){q L:BitVec 32}(ld:gC az.1 o.1 az.1.length (BitVec.ofInt 32 x.2.1) q)(le:gC az.1 o.1 az.1.length (BitVec.ofInt 32 x.2.2.1) L)
  (lf:x.1∉dU o){j:Nat}(O:kO (dY x.1 q L) o.2.1 o.2.1.length j y)(lg:Int)(W:List Int)(lh:Int)(i:Nat)(li:W[i]? =some y.1)(Y:RT):
  ∀n k,k<=o.2.1.length->o.2.1.length-k<n->
  qY 80000 o.2.1 az.1 az.2.1 o.1 (x,lg) ((cZ (fx q L y).toNat 32:Nat):Int) (W,lh) (i:Int) Y n (decide (j<k)) (k:Int)=Y (aj ((i:Int)+1)) az.1 az.2.1 o.1 o.2.1:=by
 obtain⟨t1,t2,t3,t4,t5,t6⟩:=hU R
 have ah:∀z∈o.2.1,dY x.1 q L z=((cZ (fx q L z).toNat 32:Nat):Int):=by
  intro z U
  unfold dY
  rw[if_neg]
  intro e
  exact lf (e▸List.mem_map.2 ⟨z,U,rfl⟩)
 have lj:=List.mem_of_getElem? O.2.1
 intro n
 induction n with
 |zero=>intro k _ h;omega
 |succ n lk=>
  intro k lo lp
  unfold qY I6 su JC sV qh
  by_cases h:k<o.2.1.length
  ·rw[if_pos (by simp only[decide_eq_true_eq];omega),fg h]
   simp only[Option.bind_some]
   have ll:=HQ lb R lc (List.getElem_mem h) ld le
   rw[show ng 80000 (az.1,az.2.1,()) (o.1,o.2.1,()) (x.1,x.2.1,x.2.2.1,()) o.2.1[k]=_ from ll]
   simp only[Option.bind_some]
   have Z:=O.2.2 k o.2.1[k] h (List.getElem?_eq_getElem h)
   rw[ah _ lj,ah _ (List.getElem_mem h)]at Z
   have:=lk (k+1) (by omega) (by omega)
   rw[gm (n:=k) (by omega)]
   by_cases c:j<k
   ·rw[decide_eq_true (show j<k+1 by omega)]at this
    rw[decide_eq_true c,if_pos rfl,if_neg (by simp only[decide_eq_true_eq];omega)]
    simp only[Bool.not_true,Bool.and_false,Bool.false_eq_true,if_false]
    exact this
   ·rw[decide_eq_false c,if_neg (by simp),ym,li]
    simp only[Option.bind_some]
    rw[if_neg (by simp only[decide_eq_true_eq];omega)]
    by_cases la:j=k
    ·subst la
     have U:o.2.1[j]=y:=by
      have:=O.2.1
      rw[List.getElem?_eq_getElem h]at this
      cases this;rfl
     rw[decide_eq_true (show j<j+1 by omega)]at this
     rw[U,show(y.1==y.1)=true from by simp]
     simp only[Bool.not_true,Bool.and_false,Bool.false_eq_true,if_false]
     exact this
    ·have lq:=Z.2 (by omega)
     have lm:(o.2.1[k].1==y.1)=false:=by
      rw[beq_eq_false_iff_ne]
      intro ln
      exact la (zW R (List.getElem?_eq_getElem h) O.2.1 ln).symm
     rw[decide_eq_false (show¬j<k+1 by omega)]at this
     rw[lm,show((((cZ (fx q L o.2.1[k]).toNat 32:Nat):Int))==((cZ (fx q L y).toNat 32:Nat):Int))=false from by rw[beq_eq_false_iff_ne];omega]
     simp only[Bool.false_and,Bool.false_eq_true,if_false]
     exact this
  ·rw[if_neg (by simp only[decide_eq_true_eq];omega)]
theorem NV{az q:ch}(O:dE az=true)(L:dE q=true){m:List (Int×Int)}(lj:nG az q az.2.1.length m){o:List Int}(lk:∀r∈o,r∈dU az)(lc W:Int):
  ∀n i,i<=o.length->o.length-i<n->o6 80000 (o,lc) (o.map (bH m),W) n (i:Int) az.1 az.2.1 q.1 q.2.1=some true:=by
 obtain⟨t1,t2,t3,t4,t5,t6⟩:=hU L
 intro n
 induction n with
 |zero=>intro i _ h;omega
 |succ n ll=>
  intro i lw lx
  unfold o6 Lw E2
  by_cases h:i<o.length/\i<12
  ·rw[if_pos (by simp only[Bool.and_eq_true,decide_eq_true_eq];omega),fg h.1]
   simp only[Option.bind_some]
   have ld:=lk _ (List.getElem_mem h.1)
   obtain⟨s,x,Y,R,lm⟩:=BM O ld
   rw[show fK 80000 (az.1,az.2.1,()) o[i]=_ from lm]
   simp only[Option.bind_some]
   rw[fg (show i<(o.map (bH m)).length by simpa using h.1)]
   simp only[Option.bind_some,List.getElem_map]
   obtain⟨ly,x',lz,Z,ln,la⟩:=DV lj ld
   have lo:x'=x:=by
    have:=zW O Z Y (by rw[ln,R])
    subst this
    rw[Z]at Y
    cases Y;rfl
   subst lo
   obtain⟨lA,lB,j,y,le,lf,lb,lp⟩:=id la
   have lq:=JP la
   obtain⟨lC,U,aK,lg,lr⟩:=BM L lq
   have ls:U=y:=by
    have:=zW L aK lb.2.1 (by rw[lg,lp])
    subst this
    have:=lb.2.1
    rw[aK]at this
    cases this;rfl
   subst ls
   rw[show fK 80000 (q.1,q.2.1,()) (bH m o[i])=_ from lr]
   simp only[Option.bind_some]
   have lh:=List.mem_of_getElem? Z
   have lt:=List.mem_of_getElem? aK
   have li:=ll (i+1) (by omega) (by omega)
   unfold Gr sC s5 qh
   by_cases c:o[i]∈dU q
   ·obtain⟨_,z,_,_,lu⟩:=BM L c
    rw[show fK 80000 (q.1,q.2.1,()) o[i]=_ from lu]
    have lv:bH m o[i]=o[i]:=by rw[Fp la (by rw[R];exact c),R]
    simp only[Option.bind_some,bne_self_eq_false,Bool.or_self,Bool.false_eq_true,if_false,beq_self_eq_true,if_true]
    rw[fg (show i<(o.map (bH m)).length by simpa using h.1),fg h.1]
    simp only[Option.bind_some,List.getElem_map]
    rw[lv]
    simp only[bne_self_eq_false,Bool.false_eq_true,if_false]
    rw[gm (by omega)]
    exact li
   ·rw[show fK 80000 (q.1,q.2.1,()) o[i]=_ from UE L c]
    simp only[Option.bind_some,bne_self_eq_false,Bool.or_self,Bool.false_eq_true,if_false]
    rw[if_neg (by decide),if_neg (by decide)]
    rw[show ng 80000 (az.1,az.2.1,()) (q.1,q.2.1,()) (x'.1,x'.2.1,x'.2.2.1,()) (U.1,U.2.1,U.2.2.1,())=_ from HQ O L lh lt le lf]
    simp only[Option.bind_some]
    have:=Wb O L lh le lf (by rw[R];exact c) lb 0 (o.map (bH m)) W i (by rw[List.getElem?_map,List.getElem?_eq_getElem h.1];simp[lg]) (o6 80000 (o,lc) (o.map (bH m),W) n) 80000 0 (Nat.zero_le _) (by omega)
    rw[gm (by omega)]at this
    exact this.trans li
  ·rw[if_neg (by simp only[Bool.and_eq_true,decide_eq_true_eq];omega)]
end Go.Ev
namespace Go.Ev
open Go
def sE:Nat:=80000
set_option maxRecDepth 100000 in
theorem To:sN sE=some true:=by decide+kernel
theorem Nv(az o:ch)(w:List UInt8):vK sE az o w=some true:=by
 unfold vK
 rw[To]
 rw[Option.bind_some,if_neg (by simp)]
 by_cases lk:w.length<=2000
 ·rw[if_neg (by simp only[decide_eq_true_eq];omega)]
  unfold sE
  rw[show((az.1,az.2.1,()):ch)=az from rfl,show((o.1,o.2.1,()):ch)=o from rfl]
  rcases xh az o (w:=w) (by omega)with ⟨e,q,h⟩|⟨R,L,O,m,ld,h⟩
  ·rw[h]
   simp only[Option.bind_some]
   rw[if_pos (by simpa using q)]
   rfl
  ·rw[h]
   simp only[Option.bind_some]
   rw[if_neg (by simp)]
   obtain⟨_,W,U⟩:=Eu az w O
   have Y:∀y∈(wl az w).1.map (bH m),y∈dU o:=by
    intro y le
    obtain⟨r,lf,e⟩:=List.mem_map.1 le
    obtain⟨_,x,_,_,_,lg⟩:=DV ld (U r lf)
    rw[<-e];exact JP lg
   have ll:(cS ((wl az w).1.map (bH m))).length<=256:=by
    have:=Lz ((wl az w).1.map (bH m))
    rw[List.length_map]at this
    omega
   have Z:=Rs L Y (by rw[List.length_map];exact W)
   have la:∃u,fD 80000 o o (cS ((wl az w).1.map (bH m)))=some (cS ((wl az w).1.map (bH m)),0)/\u=():=by
    refine⟨(),?_,rfl⟩
    rcases xh o o (w:=cS ((wl az w).1.map (bH m))) (by omega)with ⟨e,q,h'⟩|⟨_,_,_,ay,lb,h'⟩
    ·exfalso
     unfold fD at h'
     rw[show((o.1,o.2.1,()):ch)=o from rfl,kT,L]at h'
     simp only[Option.bind_some,if_true]at h'
     rw[if_neg (by simp),if_neg (by simp),pm o (by omega),Z]at h'
     simp only[Option.bind_some]at h'
     rw[if_neg (by simp)]at h'
     obtain⟨m2,lh,lc⟩:=EK L L
     rw[lc]at h'
     simp only[Option.bind_some]at h'
     rw[xi m2 _ (by rw[List.length_map];exact W)]at h'
     simp only[Option.bind_some]at h'
     injection h' with h'
     injection h' with _ h'
     exact q h'.symm
    ·rw[h',Z,Jk lb Y Y]
   have li:fD 80000 az az w=some (w,0):=by
    have lj:=Ph (a:=az) (w:=w) (by omega) O
    rcases xh az az (w:=w) (by omega)with ⟨e,q,h'⟩|⟨_,_,_,ay,lb,h'⟩
    ·exfalso
     unfold fD at h'
     rw[show((az.1,az.2.1,()):ch)=az from rfl,kT,R]at h'
     simp only[Option.bind_some,if_true]at h'
     rw[if_neg (by simp),if_neg (by simp),pm az (by omega)]at h'
     simp only[Option.bind_some]at h'
     rw[if_neg (by simp[O])]at h'
     obtain⟨m2,lh,lc⟩:=EK R R
     rw[lc]at h'
     simp only[Option.bind_some]at h'
     rw[xi m2 _ W,O]at h'
     simp only[Option.bind_some]at h'
     injection h' with h'
     injection h' with _ h'
     exact q h'.symm
    ·rw[h',Jk lb U U,lj]
   obtain⟨_,la,_⟩:=la
   rw[la]
   simp only[Option.bind_some]
   rw[li]
   simp only[Option.bind_some]
   unfold I7 JY JL IK F5
   rw[show((az.1,az.2.1,()):ch)=az from rfl,show((o.1,o.2.1,()):ch)=o from rfl]
   simp only[bne_self_eq_false,Bool.or_self,beq_self_eq_true,Bool.not_true,Bool.or_false,Bool.false_eq_true,if_false]
   rw[pm az (by omega)]
   simp only[Option.bind_some]
   rw[pm o (by omega),Z]
   simp only[Option.bind_some]
   rw[show(((wl az w).2 !=(0:Int)||((((wl az w).1.map (bH m)),(0:Int)).2 !=(0:Int)))||((List.length (wl az w).1:Int)!=(List.length (((wl az w).1.map (bH m)),(0:Int)).1:Int)))=false from by simp[O]]
   simp only[Bool.false_eq_true,if_false]
   have:=NV R L ld U (wl az w).2 0 80000 0 (Nat.zero_le _) (by omega)
   exact this
 ·rw[if_pos (by simp only[decide_eq_true_eq];omega)]
end Go.Ev
namespace Go.Ev
open Go Go.RowKit Go.WideShapes
variable [b8]
def jO:(t:ag)->t.el->Prop
 |.int k,n=>(Lit.int k n).wf=true
 |.str,s=>List.length (α:=UInt8) s<=maxLen
 |.ab t,xs=>List.length (α:=t.el) xs<=maxLen/\∀x∈(show List t.el from xs),jO t x
 |.pair a b,x=>jO a x.1/\jO b x.2
 |.arr n t,xs=>List.length (α:=t.el) xs=n/\∀x∈(show List t.el from xs),jO t x
 |_,_=>True
def ko:ag->Bool
 |.int _=>true
 |.bool=>true
 |.str=>true
 |.ab t=>ko t
 |.unit=>true
 |.pair a b=>ko a&&ko b
 |.arr _ t=>ko t
 |_=>false
theorem Q6{w:World}{a:Addr}{n:Nat}{c:List Value}(h:w.cells? 0 a n=some c):c.length=n/\∀j v,c[j]? =some v->w.cell? (a.add j)=some v:=by
 unfold World.cells? at h
 rw[if_pos (Nat.zero_le _)]at h
 have o:c.length=n:=by simpa using mapM_some_length h
 refine⟨o,fun j v q=>?_⟩
 have L:j<n:=by rw[<-o];exact(List.getElem?_eq_some_iff.1 q).1
 have:=mapM_some_get h j j (by simp[L])
 rw[this,q]
theorem BV{α:Type}{f:List Value->α->Prop}:∀{xs:List α} {cs c:List Value} {x:α},bM f cs xs->f c x->bM f (cs++c) (xs++[x])
 |[],cs,c,x,h,o=>by cases h;exact⟨c,[],by simp,o,rfl⟩
 |y::R,cs,c,x,⟨q,c2,e,L,O⟩,o=>⟨q,c2++c,by simp[e],L,BV O o⟩
theorem Gd{α:Type}{p:α->Prop}{xs:List α}{y:α}(h:∀x∈xs,p x)(q:p y):∀x∈xs++[y],p x:=by
 intro x o
 rcases List.mem_append.1 o with o|o
 ·exact h x o
 ·simp at o;subst o;exact q
theorem Ir{H:Type}{enc:TypeId×Value->H}{P:Program}{w:World}{spare:Nat->Bool}{held:Bool}{d n:Nat}
  (U:∀(t:TypeId) (u:ag),cG P d t=some u->ko u=true->∀(o:List Value) (x:DataW H×List MemPlace),DataW.trod enc P w 0 spare held n t o=some x->∃y:u.el,aH w (fun _=>False) u o y/\jO u y):
  ∀(q:List Field) (off:Nat) (u:ag),fieldsOf (cG P d) off q=some u->ko u=true->∀(o:List Value),o.length=off+u.cells->(∀f∈q,∃x,DataW.trod enc P w 0 spare held n f.type ((o.drop f.offset).take (P.cellsOf f.type))=some x)->
   ∃y:u.el,aH w (fun _=>False) u (o.drop off) y/\jO u y
 |[],off,u,h,_,o,L,_=>by
  simp only[fieldsOf,Option.some.injEq]at h
  subst h
  refine⟨(),?_,trivial⟩
  show o.drop off=[]
  exact List.drop_eq_nil_of_le (by rw[L];exact Nat.le_refl _)
 |fd::q,off,u,h,O,o,L,W=>by
  unfold fieldsOf at h
  cases R:Nat.beq fd.offset off with
  |false=>rw[R]at h;cases h
  |true=>
   have la:=Nat.eq_of_beq_eq_true R
   rw[R,cond_true]at h
   split at h
   ·rename_i a Y
    split at h
    ·rename_i b lb
     cases h
     simp only[ko,Bool.and_eq_true]at O
     obtain⟨x,lc⟩:=W fd List.mem_cons_self
     obtain⟨y,Z,ld⟩:=U fd.type a Y O.1 _ x lc
     have le:o.length=(off+a.cells)+b.cells:=by rw[L];show off+(a.cells+b.cells)=_;omega
     obtain⟨z,lf,lg⟩:=Ir U q (off+a.cells) b lb O.2 o le fun f lh=>W f (List.mem_cons_of_mem _ lh)
     refine⟨(y,z),⟨(o.drop off).take a.cells,o.drop (off+a.cells),?_,?_,lf⟩,ld,lg⟩
     ·rw[<-List.drop_drop,List.take_append_drop]
     ·rw[la,sI Y]at Z;exact Z
    ·cases h
   ·cases h
theorem ux{H:Type}{enc:TypeId×Value->H}{P:Program}{w:World}{spare:Nat->Bool}{held:Bool}:∀(d:Nat) (t:TypeId) (u:ag),cG P d t=some u->ko u=true->∀(ln:Nat) (U:List Value) (x:DataW H×List MemPlace),
  DataW.trod enc P w 0 spare held ln t U=some x->∃y:u.el,aH w (fun _=>False) u U y/\jO u y
 |0,_,_,h=>by cases h
 |d+1,t,u,h=>by
  intro la ln U x Y
  unfold cG at h
  split at h
  ·rename_i i k R q
   cases o:Nat.beq i.size 1<;>rw[o]at h<;>cases h
   obtain⟨n,rfl,_,li⟩:=DataW.trod_int q Y
   exact⟨n,rfl,li⟩
  ·rename_i i R q
   cases o:Nat.beq i.size 1<;>rw[o]at h<;>cases h
   obtain⟨b,rfl,_⟩:=DataW.trod_bool q Y
   exact⟨b,rfl,trivial⟩
  ·rename_i i R q
   cases o:Nat.beq i.size 1<;>rw[o]at h<;>cases h
   obtain⟨s,rfl,_,li⟩:=DataW.trod_string q Y
   have ld:List.length s.data.toList<=maxLen:=by rw[Array.length_toList];exact li
   exact⟨s.data.toList,⟨rfl,ld⟩,ld⟩
  ·rename_i i e R q
   cases o:Nat.beq i.size 1<;>rw[o]at h
   ·cases h
   rw[cond_true]at h
   split at h
   case h_2=>cases h
   rename_i v lb
   cases h
   rcases DataW.trod_slice q Y with ⟨rfl,_⟩|⟨a,lo,cap,lv,rest,n,_,rfl,_,_,lp,lq,lK,le,_⟩
   ·exact⟨[],⟨none,0,[],rfl,Nat.le_refl _,by decide,fun _=>rfl,rfl,fun j u O=>by simp at O⟩,Nat.zero_le _,fun x Y=>by cases Y⟩
   ·have key:∀k,k<=lo->∃(L:List v.el) (cells:List Value),L.length=k/\bM (aH w (fun _=>False) v) cells L/\(∀y∈L,jO v y)/\cells.length=k*v.cells/\∀j u,cells[j]? =some u->w.cell? (a.add j)=some u:=by
     intro k
     induction k with
     |zero=>intro _;exact⟨[],[],rfl,rfl,(fun y lj=>by cases lj),by simp,fun j u O=>by simp at O⟩
     |succ k lk=>
      intro lw
      obtain⟨L,cells,W,Z,lc,lg,ll⟩:=lk (by omega)
      have lf:=le k (by omega)
      have:∃z,lv[k]? =some z:=⟨_,List.getElem?_eq_getElem (by omega)⟩
      obtain⟨z,lm⟩:=this
      rw[lm,Option.bind_eq_some_iff]at lf
      obtain⟨c,lx,ly⟩:=lf
      obtain⟨lr,c2⟩:=Q6 lx
      obtain⟨y,lh,bW⟩:=ux d e v lb la n c z ly
      rw[sI lb]at lr c2
      refine⟨L++[y],cells++c,by simp[W],BV Z lh,Gd lc bW,by rw[List.length_append,lg,lr,Nat.succ_mul],fun j u O=>?_⟩
      by_cases ls:j<cells.length
      ·rw[List.getElem?_append_left ls]at O;exact ll j u O
      ·rw[List.getElem?_append_right (by omega)]at O
       have:=c2 _ u O
       rw[add_add,lg]at this
       rw[lg]at ls
       rwa [show k*v.cells+(j-k*v.cells)=j by omega]at this
    obtain⟨L,cells,W,Z,lc,lg,ll⟩:=key lo (Nat.le_refl _)
    refine⟨L,⟨some a,cap,cells,by rw[W],by rw[W];exact lp,lq,(fun lz:some a=none=>by cases lz),Z,fun j u O=>⟨a,rfl,ll j u O,fun h=>h⟩⟩,by rw[W];exact Nat.le_trans lp lq,lc⟩
  ·rename_i i lt R q
   split at h
   case h_2=>cases h
   rename_i v lb
   cases o:Nat.beq i.size v.cells<;>rw[o]at h<;>cases h
   obtain⟨xs,n,_,_,ld,lA,le⟩:=DataW.trod_struct q Y
   have lu:U.length=u.cells:=by
    rw[ld]
    simp[Program.cellsOf,R,Nat.eq_of_beq_eq_true o]
   have:=Ir (n:=n) (fun lB lC lD lE lF x' lG=>ux d lB lC lD lE n lF x' lG) lt.toList 0 u lb la U (by rw[lu,Nat.zero_add]) (by
    intro f lH
    obtain⟨j,O,e⟩:=List.getElem_of_mem lH
    have lI:j<lt.size:=by simpa using O
    have:=le j f (by rw[Array.getElem?_eq_getElem lI,<-e];simp)
    rw[this]
    exact⟨_,List.getElem?_eq_getElem (by omega)⟩)
   rw[List.drop_zero]at this
   exact this
  ·rename_i i lL R q
   cases o:Nat.beq i.size 1<;>rw[o]at h<;>cases h
   cases la
  ·rename_i i n e R q
   split at h
   case h_2=>cases h
   rename_i v lb
   cases o:Nat.beq i.size (n*v.cells)<;>rw[o]at h<;>cases h
   obtain⟨xs,m,_,_,ld,lA,le⟩:=DataW.trod_array q Y
   have lu:U.length=n*v.cells:=by
    rw[ld]
    simp[Program.cellsOf,R,Nat.eq_of_beq_eq_true o]
   have key:∀k,k<=n->∃L:List v.el,L.length=k/\bM (aH w (fun _=>False) v) (U.take (k*v.cells)) L/\∀y∈L,jO v y:=by
    intro k
    induction k with
    |zero=>intro _;exact⟨[],rfl,by simp[bM],fun y lj=>by cases lj⟩
    |succ k lk=>
     intro lw
     obtain⟨L,W,Z,lc⟩:=lk (by omega)
     have lf:=le k (by omega)
     obtain⟨z,lm⟩:∃z,xs[k]? =some z:=⟨_,List.getElem?_eq_getElem (by omega)⟩
     rw[lm]at lf
     obtain⟨y,lh,bW⟩:=ux d e v lb la m _ z lf
     rw[sI lb]at lh
     refine⟨L++[y],by simp[W],?_,Gd lc bW⟩
     have lJ:U.take ((k+1)*v.cells)=U.take (k*v.cells)++(U.drop (k*v.cells)).take v.cells:=by
      rw[Nat.succ_mul,List.take_add]
     rw[lJ]
     exact BV Z lh
   obtain⟨L,W,Z,lc⟩:=key n (Nat.le_refl _)
   rw[List.take_of_length_le (by omega)]at Z
   exact⟨L,⟨W,Z⟩,W,lc⟩
  ·rename_i i k e R q
   cases o:Nat.beq i.size 1<;>rw[o]at h
   ·cases h
   rw[cond_true]at h
   split at h
   ·cases h;cases la
   ·cases h
  ·rename_i i a b c R q
   cases o:Nat.beq i.size 1<;>rw[o]at h<;>cases h
   cases la
  ·rename_i i e R q
   cases o:Nat.beq i.size 1<;>rw[o]at h<;>cases h
   cases la
  ·cases h
theorem EE{H:Type}{enc:TypeId×Value->H}{P:Program}{w:World}{spare:Nat->Bool}{held:Bool}{r:Reach}{la:Nat}{t:TypeId}{u:ag}(Y:ty P t=some u)(Z:ko u=true){v:Value}{d:DataW H}{ps:List MemPlace}
  (o:Value.okWide P w r la t v)(ah:DataW.Trod enc P w 0 spare held t v d ps):∃x:u.el,ba w (fun _=>False) v u x/\jO u x:=by
 obtain⟨lb,lc⟩:=ah
 obtain⟨x,U,ld⟩:=ux iy t u Y Z lb _ _ lc
 refine⟨x,?_,ld⟩
 obtain⟨i,lf,lg,q⟩:=da Y
 cases O:u.agg with
 |true=>
  have:∃L,v=.agg L:=by
   have W:(∃R,P.underlying t=some (.struct R))\/∃n e,P.underlying t=some (.array n e):=by
    cases u with
    |unit=>obtain⟨R,_,h,_⟩:=q;exact .inl ⟨R,h⟩
    |pair a b=>obtain⟨R,_,h,_⟩:=q;exact .inl ⟨R,h⟩
    |arr n t=>obtain⟨e,_,h,_⟩:=q;exact .inr ⟨n,e,h⟩
    |_=>cases O
   unfold Value.okWide at o
   rcases W with ⟨R,h⟩|⟨n,e,h⟩
   ·rw[h]at o;obtain⟨L,e,_⟩:=o;exact⟨L,e⟩
   ·rw[h]at o;obtain⟨L,e,_⟩:=o;exact⟨L,e⟩
  obtain⟨L,rfl⟩:=this
  exact(dS O).2 ⟨L.toList,by simp,U⟩
 |false=>
  refine(bD O).2 ?_
  have le:v.cells.toList=[v]:=by
   cases u with
   |int k=>obtain⟨n,rfl⟩:=okWide_int q o;rfl
   |bool=>obtain⟨n,rfl⟩:=okWide_bool q o;rfl
   |str=>obtain⟨n,rfl⟩:=okWide_string q o;rfl
   |ab e=>obtain⟨lh,_,W,_⟩:=q;obtain⟨a,l,c,rfl⟩:=okWide_slice W o;rfl
   |unit=>cases O
   |pair a b=>cases O
   |arr n t=>cases O
   |_=>cases Z
  rw[le]at U
  exact U
end Go.Ev
