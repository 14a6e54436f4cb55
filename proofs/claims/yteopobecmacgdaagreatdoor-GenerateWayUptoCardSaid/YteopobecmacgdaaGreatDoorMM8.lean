/- Shallow functions, by program. -/
import Derived.Test.YteopobecmacgdaaGreatDoorMM4
import Derived.Test.YteopobecmacgdaaGreatDoorMM6
import Derived.Test.YteopobecmacgdaaGreatDoorMM7
import Derived.Test.YteopobecmacgdaaGreatDoorProg
import Derived.Test.YteopobecmacgdaaGreatDoorMM5
import Derived.WalkKit
import Derived.KernelRfl
import Derived.Lib.Strings
import Derived.Lib.Walk
import Derived.Lib.Builder
import Derived.Lib.UnsafeStr
import Derived.Laws.Externs
import Derived.Shelf.RegionOpenPlain
import Derived.Shelf.SlicesE.Reverse
import Derived.Shelf.SlicesQ.Reverse
import Derived.Shelf.Unicode.ValidAny
import Derived.Shelf.Spec.SlicesGrow
import Derived.Lib.DecodeN
import Derived.Test.YteopobecmacgdaaGreatDoorTyA
set_option linter.unusedSectionVars false
set_option linter.unusedVariables false
set_option linter.unusedSimpArgs false
namespace Go.Ev
open Go
set_option linter.unusedVariables false
def Ls(o:Int->Option Bool)(t1:Int)(t4:Bool):Option Bool:=
 if t4 then
  some (false)
 else
  o (am (t1+(1:Int)))
def yU(o:Int->Option Bool)(t1:Int)(q:Int)(t3:Bool):Option Bool:=
 Ls o t1 (t3&&(q !=(45:Int)))
def Gz(o:Int->Option Bool)(t1:Int)(q:Int)(t5:Bool):Option Bool:=
 yU o t1 q t5
def J6(q:Int->Option Bool)(t1:Int)(o:Int)(t2:Bool):Option Bool:=
 if t2 then
  Gz q t1 o (decide (o<(48:Int))||(decide ((57:Int)<o)))
 else
  yU q t1 o false
def It(o:List UInt8)(O:Int->Option Bool)(t1:Int):Option Bool:=
 if decide (t1<(List.length (dB o):Int))then
  (
   Option.bind (aB (dB o) t1) fun q=>
   J6 O t1 q (decide (q<(97:Int))||(decide ((122:Int)<q)))
  )
 else
  some (decide ((List.length o:Int)<=(32:Int)))
def uJ(o:List UInt8):Nat->Int->Option Bool
 |0,_=>none
 |n+1,t1=>It o (uJ o n) t1
def yp(k:Nat)(o:List UInt8):Option Bool:=
 uJ o k (0:Int)
def zI(k:Nat)(o:List UInt8):Option Bool:=
 yp (k+List.length o) o
def G1(q:Nat->Option Int)(o:Nat)(O:ri)(t3:Bool):Option Int:=
 if t3 then
  some ((130:Int))
 else
  q (o+ji O.2.1 o)
def Jr(k:Nat)(o:ri)(O:be)(R:Nat->Option Int)(q:Nat):Option Int:=
 if decide (q<List.length o.2.1)then
  (
   Option.bind (pB k (O.1,O.2.1,()) (gE o.2.1 q)) fun v3=>
   G1 R q o ((v3.2 !=(0:Int))&&((gE o.2.1 q)!=(95:Int)))
  )
 else
  some ((0:Int))
def ug(k:Nat)(o:ri)(q:be):Nat->Nat->Option Int
 |0,_=>none
 |n+1,O=>Jr k o q (ug k o q n) O
def qt(k:Nat)(o:ri)(q:be)(t2:Bool):Option Int:=
 if t2 then
  some ((130:Int))
 else
  ug k o q k 0
def oZ(k:Nat)(o:ri)(q:be)(t1:Bool):Option Int:=
 if t1 then
  some ((130:Int))
 else
  (
   Option.bind (utf8_ValidString k o.2.1) fun v2=>
   if !v2 then
    qt k o q true
   else
    (
     Option.bind (jV k o.2.1) fun v4=>
     qt k o q (decide ((64:Int)<v4))
    )
  )
def qP(k:Nat)(o:be)(q:ri):Option Int:=
 Option.bind (eP k (o.1,o.2.1,())) fun v1=>
 if v1 !=(0:Int)then
  some (v1)
 else
  (
   if decide ((32:Int)<(List.length q.1:Int))then
    oZ k q o true
   else
    (
     Option.bind (nP k q.1 ([97,98,99,100,101,102,103,104,105,106,107,108,109,110,111,112,113,114,115,116,117,118,119,120,121,122,48,49,50,51,52,53,54,55,56,57,45]:List UInt8)) fun v5=>
     oZ k q o (!(v5==([]:List UInt8)))
    )
  )
def tv(o:fY)(t4:Bool):Option (Sum gp (Sum gg (Sum gw (Sum ge (Unit))))×Bool):=
 some (Sum.inl (dS o.2.1,([]:List (Int)),()),t4)
def CI(o:fY)(t5:Bool):Option (Sum gp (Sum gg (Sum gw (Sum ge (Unit))))×Bool):=
 tv o t5
def Cf(o:fY)(t3:Bool):Option (Sum gp (Sum gg (Sum gw (Sum ge (Unit))))×Bool):=
 if t3 then
  CI o ((o.1==(3:Int))||((List.length (dS o.2.2.1):Int)==(0:Int)))
 else
  tv o false
def u6(o:fY)(t7:Bool):Option (Sum gp (Sum gg (Sum gw (Sum ge (Unit))))×Bool):=
 some (Sum.inl (([]:List (Int)),dS o.2.1,()),t7)
def Bn(o:fY)(t8:Bool):Option (Sum gp (Sum gg (Sum gw (Sum ge (Unit))))×Bool):=
 u6 o t8
def Db(o:fY)(t6:Bool):Option (Sum gp (Sum gg (Sum gw (Sum ge (Unit))))×Bool):=
 if t6 then
  Bn o ((o.1==(3:Int))||((List.length (dS o.2.2.1):Int)==(0:Int)))
 else
  u6 o false
def tY(o:fY)(t10:Bool):Option (Sum gp (Sum gg (Sum gw (Sum ge (Unit))))×Bool):=
 some (Sum.inl (dS o.2.1,dS o.2.2.1,()),t10)
def AG(o:fY)(t11:Bool):Option (Sum gp (Sum gg (Sum gw (Sum ge (Unit))))×Bool):=
 tY o t11
def Cu(o:fY)(t9:Bool):Option (Sum gp (Sum gg (Sum gw (Sum ge (Unit))))×Bool):=
 if t9 then
  AG o ((o.1==(3:Int))||((List.length (dS o.2.2.1):Int)==(0:Int)))
 else
  tY o false
def Je(o:fY)(t13:Bool):Option (Sum gp (Sum gg (Sum gw (Sum ge (Unit))))×Bool):=
 some (Sum.inr (Sum.inl (dS o.2.1,o.2.2.2.1,())),t13)
def Kz(o:fY)(t12:Bool):Option (Sum gp (Sum gg (Sum gw (Sum ge (Unit))))×Bool):=
 Je o (t12&&((List.length (dS o.2.2.1):Int)==(0:Int)))
def Ge(o:fY)(t15:Bool):Option (Sum gp (Sum gg (Sum gw (Sum ge (Unit))))×Bool):=
 some (Sum.inr (Sum.inr (Sum.inl (dS o.2.1,()))),t15)
def IQ(o:fY)(t14:Bool):Option (Sum gp (Sum gg (Sum gw (Sum ge (Unit))))×Bool):=
 Ge o (t14&&(o.2.2.2.1==(0:Int)))
def J1(o:fY)(t17:Bool):Option (Sum gp (Sum gg (Sum gw (Sum ge (Unit))))×Bool):=
 some (Sum.inr (Sum.inr (Sum.inr (Sum.inl (o.2.2.2.1,())))),t17)
def Jc(o:fY)(t16:Bool):Option (Sum gp (Sum gg (Sum gw (Sum ge (Unit))))×Bool):=
 J1 o (t16&&(o.2.2.1==([]:List UInt8)))
def oB(k:Nat)(o:fY)(t1:Bool)(q:be)(t2:Bool):Option (Sum gp (Sum gg (Sum gw (Sum ge (Unit))))×Bool):=
 if o.1==(1:Int)then
  Cf o (t2&&(o.2.2.2.1==(0:Int)))
 else
  (
   if o.1==(2:Int)then
    Db o (t2&&(o.2.2.2.1==(0:Int)))
   else
    (
     if o.1==(3:Int)then
      Cu o (t2&&(o.2.2.2.1==(0:Int)))
     else
      (
       if o.1==(4:Int)then
        Kz o (t2&&t1)
       else
        (
         if o.1==(5:Int)then
          (
           Option.bind (qP k (q.1,q.2.1,()) (([]:List UInt8),o.2.1,())) fun v2=>
           IQ o ((v2==(0:Int))&&(o.2.2.1==([]:List UInt8)))
          )
         else
          (
           if o.1==(6:Int)then
            Jc o (t1&&(o.2.1==([]:List UInt8)))
           else
            some (Sum.inr (Sum.inr (Sum.inr (Sum.inr ()))),false)
          )
        )
      )
    )
  )
def yR(k:Nat)(o:be)(q:fY)(t1:Bool):Option (Sum gp (Sum gg (Sum gw (Sum ge (Unit))))×Bool):=
 Option.bind (kS k (o.1,o.2.1,()) q.2.1) fun v1=>
 if v1==(0:Int)then
  (
   Option.bind (kS k (o.1,o.2.1,()) q.2.2.1) fun v3=>
   oB k q t1 o (v3==(0:Int))
  )
 else
  oB k q t1 o false
def jb(k:Nat)(q:be)(o:fY):Option (Sum gp (Sum gg (Sum gw (Sum ge (Unit))))×Bool):=
 yR k q o (decide ((0:Int)<=o.2.2.2.1)&&(decide (o.2.2.2.1<=(64:Int))))
def CT(k:Nat)(q:y8)(a2:List (List UInt8))(a3:List aH)(O:Int->bY->bi->Option Int)(t3:Int)(bF:Int->Option Int)(t4:Int):Option Int:=
 if decide (t4<(List.length q.2.1:Int))then
  (
   Option.bind (aB q.2.1 t4) fun o=>
   Option.bind (jb k (a2,a3,()) (o.1,o.2.1,o.2.2.1,o.2.2.2.1,())) fun v3=>
   if !v3.2 then
    some ((170:Int))
   else
    bF (am (t4+(1:Int)))
  )
 else
  O (am (t3+(1:Int))) a2 a3
def pn(k:Nat)(o:y8)(a2:List (List UInt8))(a3:List aH)(q:Int->bY->bi->Option Int)(t3:Int):Nat->Int->Option Int
 |0,_=>none
 |n+1,t4=>CT k o a2 a3 q t3 (pn k o a2 a3 q t3 n) t4
def FF(k:Nat)(ar:kI)(q:Int->bY->bi->Option Int)(t3:Int)(a2:List (List UInt8))(a3:List aH):Option Int:=
 if decide (t3<(List.length ar.2.1:Int))then
  (
   Option.bind (aB ar.2.1 t3) fun o=>
   if decide ((8:Int)<(List.length o.2.1:Int))then
    some ((170:Int))
   else
    pn k o a2 a3 q t3 k (0:Int)
  )
 else
  some ((0:Int))
def mh(k:Nat)(ar:kI):Nat->Int->bY->bi->Option Int
 |0,_,_,_=>none
 |n+1,t3,a2,a3=>FF k ar (mh k ar n) t3 a2 a3
def Ey(k:Nat)(ar:kI)(o:be)(t2:Bool):Option Int:=
 if t2 then
  some ((170:Int))
 else
  mh k ar k (0:Int) o.1 o.2.1
def FR(k:Nat)(ar:kI)(o:be)(t1:Bool):Option Int:=
 Ey k ar o (t1||(decide ((256:Int)<(List.length ar.2.1:Int))))
def pw(k:Nat)(o:be)(ar:kI):Option Int:=
 Option.bind (eP k (o.1,o.2.1,())) fun v1=>
 if v1 !=(0:Int)then
  some (v1)
 else
  (
   Option.bind (zI k ar.1) fun v2=>
   FR k ar o ((!v2)||(decide ((List.length ar.2.1:Int)<(1:Int))))
  )
def HU(t5:Bool):Option Int:=
 if t5 then
  some ((2:Int))
 else
  some ((0:Int))
def Lr(o:jY)(t4:Bool):Option Int:=
 HU (t4||(decide ((1048576:Int)<o.2.2.2.1)))
def tF(o:jY)(t3:Bool):Option Int:=
 Lr o (t3||(decide (o.2.2.2.1<(0:Int))))
def Lu(k:Nat)(o:jY)(t2:Bool):Option Int:=
 if t2 then
  some ((8:Int))
 else
  (
   if decide ((32:Int)<(List.length o.2.2.1:Int))then
    tF o true
   else
    (
     Option.bind (utf8_ValidString k o.2.2.1) fun v2=>
     tF o (!v2)
    )
  )
def yY(k:Nat)(t1:dg)(o:jY):Option Int:=
 Option.bind (kS k (t1.1.1,t1.1.2.1,()) o.1) fun v1=>
 if v1 !=(0:Int)then
  some (v1)
 else
  Lu k o (decide (o.2.1<(0:Int))||(decide ((List.length t1.2.2.2.1:Int)<=o.2.1)))
def N7(t1:Bool):Option Bool:=
 some (t1)
def LA(k:Nat)(o:Int):Option Bool:=
 N7 (decide (o<(97:Int))||(decide ((122:Int)<o)))
def IV(k:Nat)(q:List UInt8)(O:Bool)(R:Nat->Option Int)(o:Nat):Option Int:=
 if decide (o<List.length q)then
  (
   Option.bind (LA k (gE q o)) fun v1=>
   if v1==O then
    some ((o:Int))
   else
    R (o+ji q o)
  )
 else
  some ((-1:Int))
def tG(k:Nat)(o:List UInt8)(q:Bool):Nat->Nat->Option Int
 |0,_=>none
 |n+1,O=>IV k o q (tG k o q n) O
def Ae(k:Nat)(o:List UInt8)(f1:(Unit))(q:Bool):Option Int:=
 tG k o q k 0
def Cz(k:Nat)(o:List UInt8)(f1:(Unit)):Option Int:=
 Option.bind (Ae k o f1 true) fun v1=>
 some (v1)
def vP(k:Nat)(o:List UInt8)(f1:(Unit)):Option Bool:=
 Option.bind (Cz k o f1) fun v1=>
 some (decide ((0:Int)<=v1))
def sD(o:Int->(List kU)->Option Int)(t1:Int)(m1:List kU)(q:List UInt8)(t4:Bool):Option Int:=
 if t4 then
  some ((2:Int))
 else
  o (am (t1+(1:Int))) (cl (aV .str) m1 q (()))
def LP(k:Nat)(q:Int->(List kU)->Option Int)(t1:Int)(m1:List kU)(o:List UInt8)(t3:Bool):Option Int:=
 if t3 then
  sD q t1 m1 o true
 else
  (
   Option.bind (vP k o (())) fun v1=>
   sD q t1 m1 o v1
  )
def JK(k:Nat)(q:Int->(List kU)->Option Int)(t1:Int)(m1:List kU)(o:List UInt8)(t2:Bool):Option Int:=
 LP k q t1 m1 o (t2||(decide ((32:Int)<(List.length o:Int))))
def I0(k:Nat)(l1:List (List UInt8))(q:Int->(List kU)->Option Int)(t1:Int)(m1:List kU):Option Int:=
 if decide (t1<(List.length l1:Int))then
  (
   Option.bind (aB l1 t1) fun o=>
   JK k q t1 m1 o (((bS (aV .str) m1 o).isSome)||(o==([]:List UInt8)))
  )
 else
  some ((0:Int))
def rW(k:Nat)(l1:List (List UInt8)):Nat->Int->(List kU)->Option Int
 |0,_,_=>none
 |n+1,t1,m1=>I0 k l1 (rW k l1 n) t1 m1
def vV(k:Nat)(l1:List (List UInt8)):Option Int:=
 if decide ((64:Int)<(List.length l1:Int))then
  some ((4:Int))
 else
  rW k l1 k (0:Int) ([]:List kU)
def IJ(o:kI)(t13:List (List UInt8))(q:Int->bY->bi->Int->Int->xx->xr->zP->bY->Option Int)(t5:Int)(t6:List (List UInt8))(t7:List aH)(t8:Int)(t9:Int)(t10:List mz)(t11:List mi)(t12:List gl)(O:Int->Option Int)(t14:Int):Option Int:=
 if decide (t14<(List.length o.2.1:Int))then
  (
   Option.bind (aB o.2.1 t14) fun R=>
   Option.bind (bk (0<=(List.length t13:Int))) fun _=>
   if(Int.fdiv R.1 (2^min ((List.length t13:Int)).toNat 64))!=(0:Int)then
    some ((170:Int))
   else
    O (am (t14+(1:Int)))
  )
 else
  q (am (t5+(1:Int))) t6 t7 t8 t9 t10 t11 t12 t13
def ux(o:kI)(t13:List (List UInt8))(q:Int->bY->bi->Int->Int->xx->xr->zP->bY->Option Int)(t5:Int)(t6:List (List UInt8))(t7:List aH)(t8:Int)(t9:Int)(t10:List mz)(t11:List mi)(t12:List gl):Nat->Int->Option Int
 |0,_=>none
 |n+1,t14=>IJ o t13 q t5 t6 t7 t8 t9 t10 t11 t12 (ux o t13 q t5 t6 t7 t8 t9 t10 t11 t12 n) t14
def Ik(k:Nat)(t1:dg)(o:Int->bY->bi->Int->Int->xx->xr->zP->bY->Option Int)(t5:Int)(t6:List (List UInt8))(t7:List aH)(t8:Int)(t9:Int)(t10:List mz)(t11:List mi)(t12:List gl)(t13:List (List UInt8)):Option Int:=
 if decide (t5<(List.length t1.2.2.2.1:Int))then
  (
   Option.bind (aB t1.2.2.2.1 t5) fun q=>
   ux q t13 o t5 t6 t7 t8 t9 t10 t11 t12 k (0:Int)
  )
 else
  some ((0:Int))
def r5(k:Nat)(t1:dg):Nat->Int->bY->bi->Int->Int->xx->xr->zP->bY->Option Int
 |0,_,_,_,_,_,_,_,_,_=>none
 |n+1,t5,t6,t7,t8,t9,t10,t11,t12,t13=>Ik k t1 (r5 k t1 n) t5 t6 t7 t8 t9 t10 t11 t12 t13
def IZ(k:Nat)(t1:dg)(bF:Int->Option Int)(t4:Int):Option Int:=
 if decide (t4<(List.length t1.2.2.2.2.1:Int))then
  (
   Option.bind (aB t1.2.2.2.2.1 t4) fun o=>
   Option.bind (yY k ((t1.1.1,t1.1.2.1,()),t1.2.1,t1.2.2.1,t1.2.2.2.1,t1.2.2.2.2.1,t1.2.2.2.2.2.1,t1.2.2.2.2.2.2.1,()) (o.1,o.2.1,o.2.2.1,o.2.2.2.1,())) fun v3=>
   if v3 !=(0:Int)then
    some (v3)
   else
    bF (am (t4+(1:Int)))
  )
 else
  (
   Option.bind (uS k (t1.1.1,t1.1.2.1,()) t1.2.2.2.2.2.1) fun v4=>
   if v4 !=(0:Int)then
    some (v4)
   else
    (
     Option.bind (vV k t1.2.2.2.2.2.2.1) fun v5=>
     if v5 !=(0:Int)then
      some (v5)
     else
      r5 k t1 k (0:Int) t1.1.1 t1.1.2.1 t1.2.1 t1.2.2.1 t1.2.2.2.1 t1.2.2.2.2.1 t1.2.2.2.2.2.1 t1.2.2.2.2.2.2.1
    )
  )
def sV(k:Nat)(t1:dg):Nat->Int->Option Int
 |0,_=>none
 |n+1,t4=>IZ k t1 (sV k t1 n) t4
def L7(k:Nat)(t1:dg)(q:Int->Option Int)(t3:Int):Option Int:=
 if decide (t3<(List.length t1.2.2.2.1:Int))then
  (
   Option.bind (aB t1.2.2.2.1 t3) fun o=>
   Option.bind (pw k (t1.1.1,t1.1.2.1,()) (o.1,o.2.1,())) fun v2=>
   if v2 !=(0:Int)then
    some (v2)
   else
    q (am (t3+(1:Int)))
  )
 else
  (
   if decide ((4096:Int)<(List.length t1.2.2.2.2.1:Int))then
    some ((4:Int))
   else
    sV k t1 k (0:Int)
  )
def td(k:Nat)(t1:dg):Nat->Int->Option Int
 |0,_=>none
 |n+1,t3=>L7 k t1 (td k t1 n) t3
def Kq(k:Nat)(t1:dg)(t2:Bool):Option Int:=
 if t2 then
  some ((20:Int))
 else
  (
   if decide ((4096:Int)<(List.length t1.2.2.2.1:Int))then
    some ((4:Int))
   else
    td k t1 k (0:Int)
  )
def xL(k:Nat)(t1:dg):Option Int:=
 Option.bind (eP k (t1.1.1,t1.1.2.1,())) fun v1=>
 if v1 !=(0:Int)then
  some (v1)
 else
  (
   Option.bind (bk (0<=(List.length t1.1.1:Int))) fun _=>
   Kq k t1 ((t1.2.1==(0:Int))||((dm (BitVec.toNat (BitVec.ofInt 32 (dm (BitVec.toNat (BitVec.ofInt 32 t1.2.1|||BitVec.ofInt 32 t1.2.2.1)))&&&BitVec.ofInt 32 (dm ((4294967295:Int)*2^min ((List.length t1.1.1:Int)).toNat 32)))))!=(0:Int)))
  )
end Go.Ev
namespace Go.Ev
open Go
set_option linter.unusedVariables false
def Ho(k:Nat):Option dg:=
 some (((([([118]:List UInt8)]:List (List UInt8)),([((97:Int),(1:Int),(0:Int),()),((105:Int),(1:Int),(0:Int),()),((116:Int),(0:Int),(1:Int),()),((107:Int),(0:Int),(1:Int),())]:List aH),()),(1:Int),(0:Int),([(([110]:List UInt8),([((1:Int),([]:List rY),()),((2:Int),([((2:Int),([105]:List UInt8),([]:List UInt8),(0:Int),())]:List rY),())]:List (y8)),())]:List mz),([(([116,97,107]:List UInt8),(0:Int),([]:List UInt8),(0:Int),())]:List mi),([]:List gl),([([115,103]:List UInt8),([112,108]:List UInt8)]:List (List UInt8)),()))
def uE(t1:dg)(o:jY)(q:Int)(t3:Bool):Option vC:=
 if t3 then
  some ((((([]:List (List UInt8)),([]:List aH),()),(0:Int),(0:Int),([]:List mz),([]:List mi),([]:List gl),([]:List (List UInt8)),()),(([]:List UInt8),(0:Int),([]:List UInt8),(0:Int),()),(0:Int),()),(8:Int))
 else
  some ((((t1.1.1,t1.1.2.1,()),t1.2.1,t1.2.2.1,t1.2.2.2.1,t1.2.2.2.2.1,t1.2.2.2.2.2.1,t1.2.2.2.2.2.2.1,()),(o.1,o.2.1,o.2.2.1,o.2.2.2.1,()),q,()),(0:Int))
def Mb(t1:dg)(O:Int)(o:Int)(t2:Bool):Option vC:=
 if t2 then
  some ((((([]:List (List UInt8)),([]:List aH),()),(0:Int),(0:Int),([]:List mz),([]:List mi),([]:List gl),([]:List (List UInt8)),()),(([]:List UInt8),(0:Int),([]:List UInt8),(0:Int),()),(0:Int),()),(8:Int))
 else
  (
   Option.bind (aB t1.2.2.2.2.1 O) fun q=>
   if decide (o<(0:Int))then
    uE t1 q o true
   else
    (
     Option.bind (aB t1.2.2.2.1 q.2.1) fun R=>
     uE t1 q o (decide ((List.length R.2.1:Int)<=o))
    )
  )
def iw(k:Nat)(t1:dg)(o:Int)(q:Int):Option vC:=
 Option.bind (xL k ((t1.1.1,t1.1.2.1,()),t1.2.1,t1.2.2.1,t1.2.2.2.1,t1.2.2.2.2.1,t1.2.2.2.2.2.1,t1.2.2.2.2.2.2.1,())) fun v1=>
 if v1 !=(0:Int)then
  some ((((([]:List (List UInt8)),([]:List aH),()),(0:Int),(0:Int),([]:List mz),([]:List mi),([]:List gl),([]:List (List UInt8)),()),(([]:List UInt8),(0:Int),([]:List UInt8),(0:Int),()),(0:Int),()),v1)
 else
  Mb t1 o q (decide (o<(0:Int))||(decide ((List.length t1.2.2.2.2.1:Int)<=o)))
def tk(k:Nat):Option (List (Option Nat)):=
 some ([(some 74:Option Nat),(some 75:Option Nat)]:List (Option Nat))
def JW(o:List (Int))(v1:Int)(q:Int->Option Int)(t1:Int):Option Int:=
 if decide (t1<(List.length o:Int))then
  (
   Option.bind (aB o t1) fun O=>
   if v1==O then
    some (t1)
   else
    q (am (t1+(1:Int)))
  )
 else
  some ((-1:Int))
def vB(o:List (Int))(v1:Int):Nat->Int->Option Int
 |0,_=>none
 |n+1,t1=>JW o v1 (vB o v1 n) t1
def A2(k:Nat)(o:List (Int))(v1:Int):Option Int:=
 vB o v1 k (0:Int)
def yg(k:Nat)(o:List (Int))(v1:Int):Option Bool:=
 Option.bind (A2 k o v1) fun v2=>
 some (decide ((0:Int)<=v2))
def Kr(k:Nat)(o:be)(v1:cD)(O:Int->iq->Option ut)(t1:Int)(m1:List (Int×Bool)):Option ut:=
 if decide (t1<(List.length o.2.1:Int))then
  (
   Option.bind (aB o.2.1 t1) fun q=>
   Option.bind (yg k v1.1 q.1) fun v2=>
   O (am (t1+(1:Int))) (cl (aV (.int .i32)) m1 q.1 (!v2))
  )
 else
  some (((o.1,o.2.1,()),some m1,()),(0:Int))
def tW(k:Nat)(o:be)(v1:cD):Nat->Int->iq->Option ut
 |0,_,_=>none
 |n+1,t1,m1=>Kr k o v1 (tW k o v1 n) t1 m1
def w8(k:Nat)(o:be)(q:Int):Option ut:=
 Option.bind (oW k (o.1,o.2.1,()) q (0:Int)) fun v1=>
 if v1.2 !=(0:Int)then
  some (((([]:List (List UInt8)),([]:List aH),()),(none:Option iq),()),v1.2)
 else
  tW k o v1 k (0:Int) ([]:List (Int×Bool))
def K4(k:Nat)(v1:ut)(o:be)(q:List UInt8)(t1:Bool):Option LW:=
 if t1 then
  some (((v1.1.1.1,v1.1.1.2.1,()),v1.1.2.1,()),([]:List (Int)),(8:Int))
 else
  (
   Option.bind (jO k (o.1,o.2.1,()) q) fun v3=>
   some (((v1.1.1.1,v1.1.1.2.1,()),v1.1.2.1,()),v3.1,v3.2)
  )
def Do(k:Nat)(o:be)(O:Int)(ar:kI)(q:Int)(R:List UInt8):Option LW:=
 Option.bind (w8 k (o.1,o.2.1,()) O) fun v1=>
 if v1.2 !=(0:Int)then
  some (((v1.1.1.1,v1.1.1.2.1,()),v1.1.2.1,()),([]:List (Int)),v1.2)
 else
  (
   Option.bind (pw k (o.1,o.2.1,()) (ar.1,ar.2.1,())) fun v2=>
   if v2 !=(0:Int)then
    some (((v1.1.1.1,v1.1.1.2.1,()),v1.1.2.1,()),([]:List (Int)),v2)
   else
    K4 k v1 o R (decide (q<(0:Int))||(decide ((List.length ar.2.1:Int)<=q)))
  )
def Vn(o:List (List (Int)))(bF:Int->(List (Int))->Option (List (Int)))(t2:Int)(t3:List (Int)):Option (List (Int)):=
 if decide (t2<(List.length o:Int))then
  (
   Option.bind (aB o t2) fun q=>
   Option.bind (bk (List.length t3+List.length q<=bC)) fun _=>
   bF (am (t2+(1:Int))) (t3++q)
  )
 else
  some (t3)
def CZ(o:List (List (Int))):Nat->Int->(List (Int))->Option (List (Int))
 |0,_,_=>none
 |n+1,t2,t3=>Vn o (CZ o n) t2 t3
def Qr(k:Nat)(q:List (List (Int)))(R:Int->Int->Option (List (Int)))(o:Int)(t1:Int):Option (List (Int)):=
 if decide (t1<(List.length q:Int))then
  (
   Option.bind (aB q t1) fun O=>
   if decide ((am (o+(List.length O:Int)))<(0:Int))then
    none
   else
    R (am (o+(List.length O:Int))) (am (t1+(1:Int)))
  )
 else
  (
   Option.bind (bk (0<=o/\o<=(bC:Int))) fun _=>
   CZ q k (0:Int) ([]:List (Int))
  )
def C6(k:Nat)(o:List (List (Int))):Nat->Int->Int->Option (List (Int))
 |0,_,_=>none
 |n+1,q,t1=>Qr k o (C6 k o n) q t1
def Xu(k:Nat)(o:List (List (Int))):Option (List (Int)):=
 C6 k o k (0:Int) (0:Int)
def Ll(l1:List (List (Int)))(bF:Int->(List (Int))->Option (List (Int)))(t3:Int)(t4:List (Int)):Option (List (Int)):=
 if decide (t3<(List.length l1:Int))then
  (
   Option.bind (aB l1 t3) fun o=>
   Option.bind (bk (List.length t4+List.length o<=bC)) fun _=>
   bF (am (t3+(1:Int))) (t4++o)
  )
 else
  some t4
def sZ(l1:List (List (Int))):Nat->Int->(List (Int))->Option (List (Int))
 |0,_,_=>none
 |n+1,t3,t4=>Ll l1 (sZ l1 n) t3 t4
def GA(k:Nat)(l1:List (List (Int)))(O:Int->Int->Option (List (Int)))(o:Int)(t2:Int):Option (List (Int)):=
 if decide (t2<(List.length l1:Int))then
  (
   Option.bind (aB l1 t2) fun q=>
   if decide ((am (o+(List.length q:Int)))<(0:Int))then
    none
   else
    O (am (o+(List.length q:Int))) (am (t2+(1:Int)))
  )
 else
  (
   Option.bind (bk (0<=o/\o<=(bC:Int))) fun _=>
   sZ l1 k (0:Int) ([]:List (Int))
  )
def uk(k:Nat)(l1:List (List (Int))):Nat->Int->Int->Option (List (Int))
 |0,_,_=>none
 |n+1,o,t2=>GA k l1 (uk k l1 n) o t2
def oY(k:Nat)(l1:List (List (Int))):Option (List (Int)):=
 uk k l1 k (0:Int) (0:Int)
def yH(k:Nat)(o:(List (Int)×List (Int)×Unit))(q:jU)(l1:List (Int)):Option cD:=
 Option.bind (oY k ([o.1,l1,o.2.1]:List (List (Int)))) fun v1=>
 some (v1,(0:Int))
def wj(k:Nat)(o:(List (Int)×Int×Unit))(R:jU)(l1:List (Int)):Option cD:=
 Option.bind (dz l1 (0:Int) (iT o.2.1 (List.length l1:Int))) fun q=>
 Option.bind (dz l1 (iT o.2.1 (List.length l1:Int)) (l1.length:Int)) fun O=>
 Option.bind (oY k ([q,o.1,O]:List (List (Int)))) fun v1=>
 some (v1,(0:Int))
def r3(k:Nat)(o:List (Int)):Option (List (Int)):=
 Option.bind (bk (List.length ([]:List (Int))+List.length o<=bC)) fun _=>
 some (([]:List (Int))++o)
def xX(o:Int->(List (Int))->Option cD)(t1:Int)(q:List (Int)):Option cD:=
 o (am (t1+(1:Int))) q
def yd(bF:Int->Int->(List (Int))->Option cD)(t2:Int)(o:Int)(t4:List (Int)):Option cD:=
 bF o (am (t2+(1:Int))) t4
def xY(bF:Int->Int->(List (Int))->Option cD)(t2:Int)(o:Int)(t5:List (Int)):Option cD:=
 yd bF t2 (am (o+(1:Int))) t5
def Hy(v1:List (Int))(q:List (Int))(bF:Int->Int->(List (Int))->Option cD)(o:Int)(t2:Int)(t3:List (Int)):Option cD:=
 if decide (t2<(List.length v1:Int))then
  (
   Option.bind (aB t3 t2) fun O=>
   if O !=(95:Int)then
    yd bF t2 o t3
   else
    (
     if decide (o<(List.length q:Int))then
      (
       Option.bind (aB q o) fun R=>
       xY bF t2 o (List.set t3 (t2).toNat R)
      )
     else
      xY bF t2 o t3
    )
  )
 else
  (
   if o !=(List.length q:Int)then
    some (([]:List (Int)),(130:Int))
   else
    some (t3,(0:Int))
  )
def sy(v1:List (Int))(o:List (Int)):Nat->Int->Int->(List (Int))->Option cD
 |0,_,_,_=>none
 |n+1,q,t2,t3=>Hy v1 o (sy v1 o n) q t2 t3
def Ml(k:Nat)(l1:List (Int))(R:jU)(v1:List (Int))(O:Int->(List (Int))->Option cD)(t1:Int)(o:List (Int)):Option cD:=
 if decide (t1<(List.length l1:Int))then
  (
   Option.bind (aB l1 t1) fun q=>
   if(bS (aV (.int .i32)) (R.2.1.getD []) q).getD false then
    (
     Option.bind (bk (List.length o+List.length ([q]:List (Int))<=bC)) fun _=>
     xX O t1 (o++([q]:List (Int)))
    )
   else
    xX O t1 o
  )
 else
  sy v1 o k (0:Int) (0:Int) v1
def tD(k:Nat)(l1:List (Int))(o:jU)(v1:List (Int)):Nat->Int->(List (Int))->Option cD
 |0,_,_=>none
 |n+1,t1,q=>Ml k l1 o v1 (tD k l1 o v1 n) t1 q
def zV(k:Nat)(o:(List (Int)×Unit))(q:jU)(l1:List (Int)):Option cD:=
 Option.bind (r3 k o.1) fun v1=>
 tD k l1 q v1 k (0:Int) ([]:List (Int))
def sl(k:Nat)(l1:List (Int))(o:Int):Option cD:=
 Option.bind (dz l1 (0:Int) o) fun q=>
 Option.bind (oY k ([q,l1]:List (List (Int)))) fun v1=>
 some (v1,(0:Int))
def xG(k:Nat)(o:(Int×Unit))(q:jU)(l1:List (Int)):Option cD:=
 if decide ((List.length l1:Int)<o.1)then
  some (([]:List (Int)),(150:Int))
 else
  (
   if o.1==(0:Int)then
    sl k l1 (List.length l1:Int)
   else
    sl k l1 o.1
  )
def o7(o:(List (Int))->Int->Option cw)(t1:Int)(m1:List (Int))(ae:Int):Option cw:=
 if ae !=(0:Int)then
  some (([]:List UInt8),ae)
 else
  (
   if decide ((256:Int)<(List.length m1:Int))then
    some (([]:List UInt8),(9:Int))
   else
    o m1 (am (t1+(1:Int)))
  )
def H3(k:Nat)(R:List rY)(o:jU)(q:(List (Int))->Int->Option cw)(l2:List (Int))(t1:Int):Option cw:=
 if decide (t1<(List.length R:Int))then
  (
   Option.bind (aB R t1) fun O=>
   Option.bind (jb k (o.1.1,o.1.2.1,()) (O.1,O.2.1,O.2.2.1,O.2.2.2.1,())) fun v1=>
   uA v1.1 (fun U=>
    Option.bind (yH k U ((o.1.1,o.1.2.1,()),o.2.1,()) l2) fun v2=>
    o7 q t1 v2.1 v2.2
   ) fun W=>
    uA W (fun a2=>
     Option.bind (wj k a2 ((o.1.1,o.1.2.1,()),o.2.1,()) l2) fun v3=>
     o7 q t1 v3.1 v3.2
    ) fun X=>
     uA X (fun a3=>
      Option.bind (zV k a3 ((o.1.1,o.1.2.1,()),o.2.1,()) l2) fun v4=>
      o7 q t1 v4.1 v4.2
     ) fun Y=>
      uA Y (fun a4=>
       Option.bind (xG k a4 ((o.1.1,o.1.2.1,()),o.2.1,()) l2) fun v5=>
       o7 q t1 v5.1 v5.2
      ) fun Z=>
       none
  )
 else
  (
   Option.bind (bk (List.length (cz l2)<=bC)) fun _=>
   some (cz l2,(0:Int))
  )
def qW(k:Nat)(o:List rY)(q:jU):Nat->(List (Int))->Int->Option cw
 |0,_,_=>none
 |n+1,l2,t1=>H3 k o q (qW k o q n) l2 t1
def AP(k:Nat)(o:jU)(l1:List (Int))(q:List rY):Option cw:=
 qW k q o k l1 (0:Int)
def nG(k:Nat)(o:be)(O:Int)(ar:kI)(q:Int)(R:List UInt8):Option cw:=
 Option.bind (Do k (o.1,o.2.1,()) O (ar.1,ar.2.1,()) q R) fun v1=>
 if v1.2.2 !=(0:Int)then
  some (([]:List UInt8),v1.2.2)
 else
  (
   Option.bind (aB ar.2.1 q) fun U=>
   Option.bind (AP k ((v1.1.1.1,v1.1.1.2.1,()),v1.1.2.1,()) v1.2.1 U.2.1) fun v2=>
   some (v2.1,v2.2)
  )
def nT(k:Nat)(o:o9)(q:List UInt8):Option cw:=
 Option.bind (aB o.1.2.2.2.1 o.2.1.2.1) fun O=>
 Option.bind (nG k (o.1.1.1,o.1.1.2.1,()) o.1.2.1 O o.2.2.1 q) fun v1=>
 some (v1.1,v1.2)
def IB(o:List (Int))(q:be)(O:Int->Option Int)(t1:Int):Option Int:=
 if decide (t1<(List.length o:Int))then
  (
   Option.bind (aB o t1) fun R=>
   Option.bind (bk (0<=(List.length q.1:Int))) fun _=>
   if(Int.fdiv R (2^min ((List.length q.1:Int)).toNat 32))!=(0:Int)then
    some ((20:Int))
   else
    O (am (t1+(1:Int)))
  )
 else
  some ((0:Int))
def tp(o:List (Int))(q:be):Nat->Int->Option Int
 |0,_=>none
 |n+1,t1=>IB o q (tp o q n) t1
def wO(k:Nat)(o:be)(q:List (Int)):Option Int:=
 tp q o k (0:Int)
def Om(v1:cD)(m1:List mw)(bF:Int->bi->Option py)(t2:Int)(t3:List aH):Option py:=
 if decide (t2<(List.length v1.1:Int))then
  (
   Option.bind (aB v1.1 t2) fun o=>
   Option.bind (aB t3 t2) fun q=>
   bF (am (t2+(1:Int))) (List.set t3 (t2).toNat ((bS (aV (.int .i32)) m1 o).getD ((0:Int),(0:Int),(0:Int),())))
  )
 else
  some (t3,(0:Int))
def EY(v1:cD)(m1:List mw):Nat->Int->bi->Option py
 |0,_,_=>none
 |n+1,t2,t3=>Om v1 m1 (EY v1 m1 n) t2 t3
def Rr(k:Nat)(q:be)(v1:cD)(O:Int->xP->Option py)(t1:Int)(m1:List mw):Option py:=
 if decide (t1<(List.length q.2.1:Int))then
  (
   Option.bind (aB q.2.1 t1) fun o=>
   O (am (t1+(1:Int))) (cl (aV (.int .i32)) m1 o.1 (o.1,o.2.1,o.2.2.1,()))
  )
 else
  (
   Option.bind (bk (0<=(List.length v1.1:Int)/\(List.length v1.1:Int)<=(List.length v1.1:Int)/\(List.length v1.1:Int)<=(bC:Int))) fun _=>
   EY v1 m1 k (0:Int) (List.replicate ((List.length v1.1:Int)).toNat ((0:Int),(0:Int),(0:Int),()))
  )
def El(k:Nat)(o:be)(v1:cD):Nat->Int->xP->Option py
 |0,_,_=>none
 |n+1,t1,m1=>Rr k o v1 (El k o v1 n) t1 m1
def Vs(k:Nat)(o:be)(q:List UInt8)(O:List (Int)):Option py:=
 Option.bind (jO k (o.1,o.2.1,()) q) fun v1=>
 if v1.2 !=(0:Int)then
  some (([]:List aH),v1.2)
 else
  (
   Option.bind (wO k (o.1,o.2.1,()) O) fun v2=>
   if v2 !=(0:Int)then
    some (([]:List aH),v2)
   else
    El k o v1 k (0:Int) ([]:List mw)
  )
def HR(v1:cD)(m1:List mw)(bF:Int->bi->Option kh)(t3:Int)(t4:List aH):Option kh:=
 if decide (t3<(List.length v1.1:Int))then
  (
   Option.bind (aB v1.1 t3) fun o=>
   Option.bind (aB t4 t3) fun q=>
   bF (am (t3+(1:Int))) (List.set t4 (t3).toNat ((bS (aV (.int .i32)) m1 o).getD ((0:Int),(0:Int),(0:Int),())))
  )
 else
  some ((0:Int),t4)
def u4(v1:cD)(m1:List mw):Nat->Int->bi->Option kh
 |0,_,_=>none
 |n+1,t3,t4=>HR v1 m1 (u4 v1 m1 n) t3 t4
def Jf(k:Nat)(q:be)(v1:cD)(O:Int->xP->Option kh)(t2:Int)(m1:List mw):Option kh:=
 if decide (t2<(List.length q.2.1:Int))then
  (
   Option.bind (aB q.2.1 t2) fun o=>
   O (am (t2+(1:Int))) (cl (aV (.int .i32)) m1 o.1 (o.1,o.2.1,o.2.2.1,()))
  )
 else
  (
   Option.bind (bk (0<=(List.length v1.1:Int)/\(List.length v1.1:Int)<=(List.length v1.1:Int)/\(List.length v1.1:Int)<=(bC:Int))) fun _=>
   u4 v1 m1 k (0:Int) (List.replicate ((List.length v1.1:Int)).toNat ((0:Int),(0:Int),(0:Int),()))
  )
def sF(k:Nat)(o:be)(v1:cD):Nat->Int->xP->Option kh
 |0,_,_=>none
 |n+1,t2,m1=>Jf k o v1 (sF k o v1 n) t2 m1
def rl(k:Nat)(o:be)(q:List UInt8)(l1:List (Int)):Option kh:=
 Option.bind (jO k (o.1,o.2.1,()) q) fun v1=>
 if v1.2 !=(0:Int)then
  some (v1.2,([]:List aH))
 else
  (
   Option.bind (wO k (o.1,o.2.1,()) l1) fun v2=>
   if v2 !=(0:Int)then
    some (v2,([]:List aH))
   else
    sF k o v1 k (0:Int) ([]:List mw)
  )
def EJ(k:Nat)(l1:dO)(o:Int):Option Bool:=
 some ((dm (BitVec.toNat (BitVec.ofInt 32 o&&&~~~BitVec.ofInt 32 l1.2.1)))==(0:Int))
def Mu(k:Nat)(l1:dO)(o:be)(q:dO)(O:Int)(t1:Bool):Option Int:=
 if t1 then
  some (l1.1)
 else
  (
   Option.bind (uY k (o.1,o.2.1,()) l1.1 (dm (BitVec.toNat (BitVec.ofInt 32 q.2.1&&&BitVec.ofInt 32 O))) (dm (BitVec.toNat (BitVec.ofInt 32 q.2.2.1&&&BitVec.ofInt 32 O)))) fun v1=>
   some (v1.1)
  )
def zO(k:Nat)(O:be)(l1:dO)(o:dO)(q:Int):Option Int:=
 Mu k l1 O o q (((dm (BitVec.toNat (BitVec.ofInt 32 (dm (BitVec.toNat (BitVec.ofInt 32 o.2.1&&&BitVec.ofInt 32 q)))&&&~~~BitVec.ofInt 32 l1.2.1)))==(0:Int))&&((dm (BitVec.toNat (BitVec.ofInt 32 (dm (BitVec.toNat (BitVec.ofInt 32 o.2.2.1&&&BitVec.ofInt 32 q)))&&&~~~BitVec.ofInt 32 l1.2.2.1)))==(0:Int)))
def wG(o:Int->(List (Int))->Option (List UInt8))(t1:Int)(t3:List (Int)):Option (List UInt8):=
 o (am (t1+(1:Int))) t3
def tf(k:Nat)(l1:List aH)(R:Int)(q:be)(o:dO)(U:Int)(t2:List (Int))(t1:Int)(O:Int->(List (Int))->Option (List UInt8))(t4:Bool):Option (List UInt8):=
 if t4 then
  (
   Option.bind (aB l1 R) fun W=>
   Option.bind (zO k (q.1,q.2.1,()) (o.1,o.2.1,o.2.2.1,()) W U) fun v1=>
   Option.bind (aB (List.set t2 (t1).toNat o.1) t1) fun X=>
   wG O t1 (List.set (List.set t2 (t1).toNat o.1) (t1).toNat v1)
  )
 else
  wG O t1 (List.set t2 (t1).toNat o.1)
def Ko(k:Nat)(l1:List aH)(q:Int)(W:Int)(O:be)(R:Int)(U:Int->(List (Int))->Option (List UInt8))(t1:Int)(t2:List (Int)):Option (List UInt8):=
 if decide (t1<(List.length l1:Int))then
  (
   Option.bind (aB l1 t1) fun o=>
   Option.bind (aB t2 t1) fun X=>
   if t1 !=q then
    (
     Option.bind (EJ k (o.1,o.2.1,o.2.2.1,()) W) fun v2=>
     tf k l1 q O o R t2 t1 U v2
    )
   else
    tf k l1 q O o R t2 t1 U false
  )
 else
  (
   Option.bind (bk (List.length (cz t2)<=bC)) fun _=>
   some (cz t2)
  )
def rp(k:Nat)(l1:List aH)(o:Int)(q:Int)(O:be)(R:Int):Nat->Int->(List (Int))->Option (List UInt8)
 |0,_,_=>none
 |n+1,t1,t2=>Ko k l1 o q O R (rp k l1 o q O R n) t1 t2
def wB(k:Nat)(o:be)(l1:List aH)(q:Int)(O:Int)(R:Int):Option (List UInt8):=
 Option.bind (bk (0<=(List.length l1:Int)/\(List.length l1:Int)<=(List.length l1:Int)/\(List.length l1:Int)<=(bC:Int))) fun _=>
 rp k l1 R q o O k (0:Int) (List.replicate ((List.length l1:Int)).toNat (0:Int))
def Jl(k:Nat)(v1:kh)(q:Int)(O:be)(R:Int)(U:List UInt8)(W:Int->Option cw)(t1:Int):Option cw:=
 if decide (t1<(List.length v1.2:Int))then
  (
   Option.bind (aB v1.2 t1) fun o=>
   Option.bind (EJ k (o.1,o.2.1,o.2.2.1,()) q) fun v2=>
   if v2 then
    (
     Option.bind (wB k (O.1,O.2.1,()) v1.2 q R t1) fun v3=>
     some (v3,(0:Int))
    )
   else
    W (am (t1+(1:Int)))
  )
 else
  some (U,(0:Int))
def tM(k:Nat)(v1:kh)(o:Int)(q:be)(O:Int)(R:List UInt8):Nat->Int->Option cw
 |0,_=>none
 |n+1,t1=>Jl k v1 o q O R (tM k v1 o q O R n) t1
def mW(k:Nat)(o:be)(q:List UInt8)(O:Int)(R:Int):Option cw:=
 Option.bind (rl k (o.1,o.2.1,()) q ([O,R]:List (Int))) fun v1=>
 if v1.1 !=(0:Int)then
  some (([]:List UInt8),v1.1)
 else
  tM k v1 O o R q k (0:Int)
def my(k:Nat)(o:o9)(q:List UInt8):Option cw:=
 if o.1.2.2.1==(0:Int)then
  some (q,(0:Int))
 else
  (
   Option.bind (mW k (o.1.1.1,o.1.1.2.1,()) q o.1.2.1 o.1.2.2.1) fun v1=>
   some (v1.1,v1.2)
  )
def qJ(k:Nat)(o:o9)(q:List UInt8):Option cw:=
 Option.bind (kH k (o.1.1.1,o.1.1.2.1,()) o.1.2.2.2.2.2.1 q) fun v1=>
 some (v1.1,v1.2)
def mJ(o:(List UInt8)->Int->Option cw)(t1:Int)(q:List UInt8)(ae:Int):Option cw:=
 if ae !=(0:Int)then
  some (([]:List UInt8),ae)
 else
  o q (am (t1+(1:Int)))
def om(k:Nat)(l1:List (Option Nat))(o:o9)(O:(List UInt8)->Int->Option cw)(q:List UInt8)(t1:Int):Option cw:=
 if decide (t1<(List.length l1:Int))then
  (
   Option.bind (aB l1 t1) fun R=>
   if oX R 74 then
    (
     Option.bind (nT k (((o.1.1.1,o.1.1.2.1,()),o.1.2.1,o.1.2.2.1,o.1.2.2.2.1,o.1.2.2.2.2.1,o.1.2.2.2.2.2.1,o.1.2.2.2.2.2.2.1,()),(o.2.1.1,o.2.1.2.1,o.2.1.2.2.1,o.2.1.2.2.2.1,()),o.2.2.1,()) q) fun v1=>
     mJ O t1 v1.1 v1.2
    )
   else
    (
     if oX R 75 then
      (
       Option.bind (my k (((o.1.1.1,o.1.1.2.1,()),o.1.2.1,o.1.2.2.1,o.1.2.2.2.1,o.1.2.2.2.2.1,o.1.2.2.2.2.2.1,o.1.2.2.2.2.2.2.1,()),(o.2.1.1,o.2.1.2.1,o.2.1.2.2.1,o.2.1.2.2.2.1,()),o.2.2.1,()) q) fun v2=>
       mJ O t1 v2.1 v2.2
      )
     else
      (
       if oX R 41 then
        (
         Option.bind (qJ k (((o.1.1.1,o.1.1.2.1,()),o.1.2.1,o.1.2.2.1,o.1.2.2.2.1,o.1.2.2.2.2.1,o.1.2.2.2.2.2.1,o.1.2.2.2.2.2.2.1,()),(o.2.1.1,o.2.1.2.1,o.2.1.2.2.1,o.2.1.2.2.2.1,()),o.2.2.1,()) q) fun v3=>
         mJ O t1 v3.1 v3.2
        )
       else
        none
      )
    )
  )
 else
  some (q,(0:Int))
def im(k:Nat)(l1:List (Option Nat))(o:o9):Nat->(List UInt8)->Int->Option cw
 |0,_,_=>none
 |n+1,q,t1=>om k l1 o (im k l1 o n) q t1
def tJ(k:Nat)(o:o9)(l1:List (Option Nat)):Option cw:=
 im k l1 o k o.2.1.1 (0:Int)
def mD(k:Nat)(t1:dg)(o:Int)(q:Int):Option cw:=
 Option.bind (iw k ((t1.1.1,t1.1.2.1,()),t1.2.1,t1.2.2.1,t1.2.2.2.1,t1.2.2.2.2.1,t1.2.2.2.2.2.1,t1.2.2.2.2.2.2.1,()) o q) fun v1=>
 if v1.2 !=(0:Int)then
  some (([]:List UInt8),v1.2)
 else
  (
   Option.bind (tk k) fun v2=>
   Option.bind (bk (List.length v2+List.length ([(some 41:Option Nat)]:List (Option Nat))<=bC)) fun _=>
   Option.bind (tJ k (((v1.1.1.1.1,v1.1.1.1.2.1,()),v1.1.1.2.1,v1.1.1.2.2.1,v1.1.1.2.2.2.1,v1.1.1.2.2.2.2.1,v1.1.1.2.2.2.2.2.1,v1.1.1.2.2.2.2.2.2.1,()),(v1.1.2.1.1,v1.1.2.1.2.1,v1.1.2.1.2.2.1,v1.1.2.1.2.2.2.1,()),v1.1.2.2.1,()) (v2++([(some 41:Option Nat)]:List (Option Nat)))) fun v3=>
   some (v3.1,v3.2)
  )
def OW(t1:Bool):Option Bool:=
 some (t1)
def zL(k:Nat):Option Bool:=
 Option.bind (Ho k) fun v1=>
 Option.bind (mD k v1 (0:Int) (1:Int)) fun v2=>
 OW ((v2.2==(0:Int))&&(v2.1==([116,97,107,105]:List UInt8)))
def wb(t5:Bool):Option Bool:=
 some (t5)
def GS(t6:Bool):Option Bool:=
 wb t6
def sc(t1:dg)(t4:Bool):Option Bool:=
 if t4 then
  wb true
 else
  GS (decide ((12:Int)<(List.length t1.2.2.2.2.2.1:Int))&&(decide ((List.length t1.2.2.2.2.2.1:Int)<=(64:Int))))
def L3(t1:dg)(t7:Bool):Option Bool:=
 sc t1 t7
def sG(t1:dg)(t3:Bool):Option Bool:=
 if t3 then
  sc t1 true
 else
  L3 t1 (decide ((60:Int)<(List.length t1.2.2.2.2.1:Int))&&(decide ((List.length t1.2.2.2.2.1:Int)<=(4096:Int))))
def GI(t1:dg)(t8:Bool):Option Bool:=
 sG t1 t8
def Ht(t1:dg)(i1:Int)(q:Int->Int->Option Bool)(o:Int)(t2:Bool):Option Bool:=
 if t2 then
  (
   Option.bind (aB t1.2.2.2.1 i1) fun O=>
   q (am (o+(List.length O.2.1:Int))) (am (i1+(1:Int)))
  )
 else
  (
   if decide ((300:Int)<o)then
    sG t1 true
   else
    GI t1 (decide ((40:Int)<(List.length t1.2.2.2.1:Int))&&(decide ((List.length t1.2.2.2.1:Int)<=(4096:Int))))
  )
def Kf(t1:dg)(o:Int->Int->Option Bool)(q:Int)(i1:Int):Option Bool:=
 Ht t1 i1 o q (decide (i1<(List.length t1.2.2.2.1:Int))&&(decide (i1<(60:Int))))
def tK(t1:dg):Nat->Int->Int->Option Bool
 |0,_,_=>none
 |n+1,o,i1=>Kf t1 (tK t1 n) o i1
def yc(k:Nat)(t1:dg):Option Bool:=
 tK t1 k (0:Int) (0:Int)
def tB(k:Nat):Option (List (Option Nat)):=
 some (([(some 74:Option Nat),(some 75:Option Nat)]:List (Option Nat)))
def zd(k:Nat)(o:be)(l1:List gl)(q:List UInt8):Option gf:=
 Option.bind (rn k (o.1,o.2.1,()) q l1) fun v1=>
 if v1 !=(0:Int)then
  some (([]:List fV),v1)
 else
  (
   Option.bind (sA k (o.1,o.2.1,()) q l1) fun v2=>
   some (v2.2.1,v2.2.2)
  )
def yl(o:(List UInt8)->Int->pE->Option gf)(v3:List UInt8)(t2:Int)(q:List fV):Option gf:=
 o v3 (am (t2+(1:Int))) q
def nx(o:List UInt8)(q:List fV)(t2:Int)(O:(List UInt8)->Int->pE->Option gf)(v3:List UInt8)(ae:Int):Option gf:=
 if ae !=(0:Int)then
  some (([]:List fV),ae)
 else
  (
   if !(v3==o)then
    (
     Option.bind (bk (List.length q+List.length ([(am (t2-(2:Int)),o,v3,())]:List fV)<=bC)) fun _=>
     yl O v3 t2 (q++([(am (t2-(2:Int)),o,v3,())]:List fV))
    )
   else
    yl O v3 t2 q
  )
def wY(k:Nat)(v2:List (Option Nat))(v1:vC)(t1:dg)(R:(List UInt8)->Int->pE->Option gf)(o:List UInt8)(t2:Int)(q:List fV):Option gf:=
 if decide (t2<(List.length v2:Int))then
  (
   Option.bind (aB v2 t2) fun U=>
   if oX U 74 then
    (
     Option.bind (nT k (((v1.1.1.1.1,v1.1.1.1.2.1,()),v1.1.1.2.1,v1.1.1.2.2.1,v1.1.1.2.2.2.1,v1.1.1.2.2.2.2.1,v1.1.1.2.2.2.2.2.1,v1.1.1.2.2.2.2.2.2.1,()),(v1.1.2.1.1,v1.1.2.1.2.1,v1.1.2.1.2.2.1,v1.1.2.1.2.2.2.1,()),v1.1.2.2.1,()) o) fun v4=>
     nx o q t2 R v4.1 v4.2
    )
   else
    (
     if oX U 75 then
      (
       Option.bind (my k (((v1.1.1.1.1,v1.1.1.1.2.1,()),v1.1.1.2.1,v1.1.1.2.2.1,v1.1.1.2.2.2.1,v1.1.1.2.2.2.2.1,v1.1.1.2.2.2.2.2.1,v1.1.1.2.2.2.2.2.2.1,()),(v1.1.2.1.1,v1.1.2.1.2.1,v1.1.2.1.2.2.1,v1.1.2.1.2.2.2.1,()),v1.1.2.2.1,()) o) fun v5=>
       nx o q t2 R v5.1 v5.2
      )
     else
      (
       if oX U 41 then
        (
         Option.bind (qJ k (((v1.1.1.1.1,v1.1.1.1.2.1,()),v1.1.1.2.1,v1.1.1.2.2.1,v1.1.1.2.2.2.1,v1.1.1.2.2.2.2.1,v1.1.1.2.2.2.2.2.1,v1.1.1.2.2.2.2.2.2.1,()),(v1.1.2.1.1,v1.1.2.1.2.1,v1.1.2.1.2.2.1,v1.1.2.1.2.2.2.1,()),v1.1.2.2.1,()) o) fun W=>
         nx o q t2 R W.1 W.2
        )
       else
        none
      )
    )
  )
 else
  (
   Option.bind (zd k (t1.1.1,t1.1.2.1,()) t1.2.2.2.2.2.1 o) fun O=>
   if O.2 !=(0:Int)then
    some (([]:List fV),O.2)
   else
    (
     Option.bind (bk (List.length q+List.length O.1<=bC)) fun _=>
     some (q++O.1,(0:Int))
    )
  )
def pf(k:Nat)(v2:List (Option Nat))(v1:vC)(t1:dg):Nat->(List UInt8)->Int->pE->Option gf
 |0,_,_,_=>none
 |n+1,o,t2,q=>wY k v2 v1 t1 (pf k v2 v1 t1 n) o t2 q
def nt(k:Nat)(t1:dg)(o:Int)(q:Int):Option gf:=
 Option.bind (iw k ((t1.1.1,t1.1.2.1,()),t1.2.1,t1.2.2.1,t1.2.2.2.1,t1.2.2.2.2.1,t1.2.2.2.2.2.1,t1.2.2.2.2.2.2.1,()) o q) fun v1=>
 if v1.2 !=(0:Int)then
  some (([]:List fV),v1.2)
 else
  (
   Option.bind (tB k) fun v2=>
   pf k v2 v1 t1 k v1.1.2.1.1 (0:Int) ([]:List fV)
  )
def uh(k:Nat)(t1:dg)(o:Int)(q:Int):Option cw:=
 Option.bind (iw k ((t1.1.1,t1.1.2.1,()),t1.2.1,t1.2.2.1,t1.2.2.2.1,t1.2.2.2.2.1,t1.2.2.2.2.2.1,t1.2.2.2.2.2.2.1,()) o q) fun v1=>
 if v1.2 !=(0:Int)then
  some (([]:List UInt8),v1.2)
 else
  (
   Option.bind (tB k) fun v2=>
   Option.bind (tJ k (((v1.1.1.1.1,v1.1.1.1.2.1,()),v1.1.1.2.1,v1.1.1.2.2.1,v1.1.1.2.2.2.1,v1.1.1.2.2.2.2.1,v1.1.1.2.2.2.2.2.1,v1.1.1.2.2.2.2.2.2.1,()),(v1.1.2.1.1,v1.1.2.1.2.1,v1.1.2.1.2.2.1,v1.1.2.1.2.2.2.1,()),v1.1.2.2.1,()) v2) fun v3=>
   some (v3.1,v3.2)
  )
def ph(t3:Bool):Option Bool:=
 some (t3)
def pO(v3:cw)(t2:Bool):Option Bool:=
 ph (t2&&(v3.1==([]:List UInt8)))
def qr(v4:gf)(i1:Int)(o:(List UInt8)->Int->Option Bool)(t9:Bool):Option Bool:=
 if t9 then
  some (false)
 else
  (
   Option.bind (aB v4.1 i1) fun q=>
   o q.2.2.1 (am (i1+(1:Int)))
  )
def tt(v4:gf)(i1:Int)(o:(List UInt8)->Int->Option Bool)(t10:Bool):Option Bool:=
 qr v4 i1 o t10
def sP(v4:gf)(i1:Int)(o:(List UInt8)->Int->Option Bool)(t8:Bool):Option Bool:=
 if t8 then
  qr v4 i1 o true
 else
  (
   if decide ((0:Int)<i1)then
    (
     Option.bind (aB v4.1 i1) fun q=>
     Option.bind (aB v4.1 (am (i1-(1:Int)))) fun O=>
     tt v4 i1 o (decide (q.1<=O.1))
    )
   else
    tt v4 i1 o false
  )
def tP(v4:gf)(i1:Int)(o:(List UInt8)->Int->Option Bool)(t1:dg)(t7:Bool):Option Bool:=
 if t7 then
  sP v4 i1 o true
 else
  (
   Option.bind (aB v4.1 i1) fun q=>
   sP v4 i1 o (decide ((List.length t1.2.2.2.2.2.1:Int)<=q.1))
  )
def zj(v4:gf)(i1:Int)(o:(List UInt8)->Int->Option Bool)(t1:dg)(t6:Bool):Option Bool:=
 if t6 then
  tP v4 i1 o t1 true
 else
  (
   Option.bind (aB v4.1 i1) fun q=>
   tP v4 i1 o t1 (decide (q.1<(-2:Int)))
  )
def xi(t16:Bool):Option Bool:=
 some (t16)
def zy(o:cw)(v3:cw)(t15:Bool):Option Bool:=
 xi (t15&&(o.1==v3.1))
def Ab(o:cw)(v3:cw)(t14:Bool):Option Bool:=
 zy o v3 (t14&&(o.2==(0:Int)))
def zo(o:cw)(v3:cw)(q:cw)(ar:List UInt8)(t13:Bool):Option Bool:=
 Ab o v3 (t13&&(q.1==ar))
def qL(k:Nat)(t1:dg)(q:Int)(O:Int)(v3:cw)(ae:Int)(ar:List UInt8):Option Bool:=
 Option.bind (uh k ((t1.1.1,t1.1.2.1,()),t1.2.1,t1.2.2.1,t1.2.2.2.1,t1.2.2.2.2.1,t1.2.2.2.2.2.1,t1.2.2.2.2.2.2.1,()) q O) fun o=>
 Option.bind (kH k (t1.1.1,t1.1.2.1,()) t1.2.2.2.2.2.1 ar) fun R=>
 zo R v3 o ar ((ae==(0:Int))&&(o.2==(0:Int)))
def za(k:Nat)(t1:dg)(v5:cw)(o:Int)(q:Int)(v3:cw)(t17:Bool):Option Bool:=
 if t17 then
  (
   Option.bind (mW k (t1.1.1,t1.1.2.1,()) v5.1 t1.2.1 t1.2.2.1) fun O=>
   qL k t1 o q v3 O.2 O.1
  )
 else
  qL k t1 o q v3 v5.2 v5.1
def xw(k:Nat)(t1:dg)(o:jY)(q:Int)(O:Int)(v3:cw)(t12:Bool):Option Bool:=
 if t12 then
  some (false)
 else
  (
   Option.bind (aB t1.2.2.2.1 o.2.1) fun R=>
   Option.bind (nG k (t1.1.1,t1.1.2.1,()) t1.2.1 R q o.1) fun v5=>
   za k t1 v5 O q v3 ((v5.2==(0:Int))&&(t1.2.2.1 !=(0:Int)))
  )
def pY(k:Nat)(t1:dg)(o:jY)(q:Int)(O:Int)(v3:cw)(t11:Bool):Option Bool:=
 xw k t1 o q O v3 (t11||(decide ((List.length t1.2.2.2.1:Int)<=o.2.1)))
def wu(k:Nat)(v4:gf)(t1:dg)(q:jY)(R:Int)(U:Int)(v3:cw)(W:(List UInt8)->Int->Option Bool)(o:List UInt8)(i1:Int):Option Bool:=
 if decide (i1<(List.length v4.1:Int))then
  (
   Option.bind (aB v4.1 i1) fun O=>
   zj v4 i1 W t1 ((!(O.2.1==o))||(O.2.2.1==o))
  )
 else
  pY k t1 q R U v3 ((!(o==v3.1))||(decide (q.2.1<(0:Int))))
def jD(k:Nat)(v4:gf)(t1:dg)(o:jY)(q:Int)(O:Int)(v3:cw):Nat->(List UInt8)->Int->Option Bool
 |0,_,_=>none
 |n+1,R,i1=>wu k v4 t1 o q O v3 (jD k v4 t1 o q O v3 n) R i1
def yN(k:Nat)(t1:dg)(o:Int)(v4:gf)(O:Int)(v3:cw)(t5:Bool):Option Bool:=
 if t5 then
  some (false)
 else
  (
   Option.bind (aB t1.2.2.2.2.1 o) fun q=>
   jD k v4 t1 q O o v3 k q.1 (0:Int)
  )
def wT(k:Nat)(t1:dg)(o:Int)(v4:gf)(q:Int)(v3:cw)(t4:Bool):Option Bool:=
 yN k t1 o v4 q v3 (t4||(decide ((List.length t1.2.2.2.2.1:Int)<=o)))
def oJ(k:Nat)(t1:dg)(o:Int)(q:Int):Option Bool:=
 Option.bind (zL k) fun v1=>
 if !v1 then
  some (false)
 else
  (
   Option.bind (yc k ((t1.1.1,t1.1.2.1,()),t1.2.1,t1.2.2.1,t1.2.2.2.1,t1.2.2.2.2.1,t1.2.2.2.2.2.1,t1.2.2.2.2.2.2.1,())) fun v2=>
   if v2 then
    some (true)
   else
    (
     Option.bind (mD k ((t1.1.1,t1.1.2.1,()),t1.2.1,t1.2.2.1,t1.2.2.2.1,t1.2.2.2.2.1,t1.2.2.2.2.2.1,t1.2.2.2.2.2.2.1,()) o q) fun v3=>
     Option.bind (nt k ((t1.1.1,t1.1.2.1,()),t1.2.1,t1.2.2.1,t1.2.2.2.1,t1.2.2.2.2.1,t1.2.2.2.2.2.1,t1.2.2.2.2.2.2.1,()) o q) fun v4=>
     if v3.2 !=(0:Int)then
      pO v3 ((v4.2==v3.2)&&((List.length v4.1:Int)==(0:Int)))
     else
      wT k t1 o v4 q v3 ((v4.2 !=(0:Int))||(decide (o<(0:Int))))
    )
  )
end Go.Ev
namespace Go.Ev
open Go Go.Proofs Go.RowKit
set_option maxRecDepth 100000
set_option maxHeartbeats 1000000
theorem Lv:(Tryz.prog.info? 319).map (·.size)=some 2:=by kernel_rfl
theorem XW:liesAt Tryz.prog Tryz.prog.depth 319 (2/Tryz.prog.cellsOf 319) 0 319 1=true:=by kernel_rfl
theorem V9(b:Nat)(w:World)(q:w.cell? ⟨b,0,none⟩=some (.pointer (some ⟨b,0,none⟩))):
  Calls Tryz.prog 209 #[.pointer (some ⟨b,0,none⟩)] w fun e w'=>e=.returned (.tuple #[])/\w'=w:=by
 obtain⟨j,o,_⟩:=Option.map_eq_some_iff.1 Lv
 go_enter Tryz.func209,Tryz.ntmps209
 go_wp2
 rw[Lib.run_neq_ptr_same w _ Tryz.underlying317 o]
 go_wp2
 go_end0
 exact⟨rfl,rfl⟩
theorem Qd(b:Nat)(w:World)(R:w.cell? ⟨b,0,none⟩=some (.pointer none))(o:w.shape? b=some (319,2))(U:w.frozen? ⟨b,0,none⟩=false):
  Calls Tryz.prog 209 #[.pointer (some ⟨b,0,none⟩)] w fun e w'=>e=.returned (.tuple #[])/\w'=w.setCell ⟨b,0,none⟩ (.pointer (some ⟨b,0,none⟩)):=by
 obtain⟨j,q,O⟩:=Option.map_eq_some_iff.1 Lv
 go_enter Tryz.func209,Tryz.ntmps209
 go_wp2
 rw[Lib.run_to_unsafe w ⟨b,0,none⟩ Tryz.underlying317 Tryz.underlying337 q (by rw[O];decide) o (Nat.zero_lt_succ 1)]
 simp only[Result.andThen]
 rw[Oper.upon_value]
 go_wp2
 rw[run_callFunc_extern Tryz.func214 (by kernel_rfl) (by kernel_rfl) (by kernel_rfl) (e:=Extern.AbiNoEscape.same) (by kernel_rfl)]
 rw[Lib.run_noEscape]
 simp only[Result.andThen]
 rw[Oper.upon_value]
 go_wp2
 rw[Lib.run_from_unsafe w ⟨b,0,none⟩ Tryz.underlying337 Tryz.underlying317 q o XW]
 simp only[Result.andThen]
 rw[Oper.upon_value]
 go_wp2
 go_end0
 exact⟨rfl,rfl⟩
theorem Wz:Tryz.prog.cellsOf 5=1:=by kernel_rfl
theorem R5(b g cap:Nat)(p:Value)(cur:Array Value)(l:List UInt8)(w:World)(o:l≠[])(O:w.heap[b]? =some (.cells #[p,.slice (some ⟨g,0,none⟩) l.length cap] 319 (0,0)))
  (R:w.heap[g]? =some (.cells cur 5 (0,0)))(Z:l.length<=cap)(U:cap<=maxLen)(la:cur.size=cap)(W:∀(j:Nat) (x:UInt8),l[j]? =some x->cur[j]? =some (Value.int .u8 (x.toNat:Int))):
  Calls Tryz.prog 200 #[.pointer (some ⟨b,0,none⟩)] w fun e w'=>e=.returned (.string ⟨l.toArray⟩)/\w'=w.drew.freeze ⟨g,0,none⟩ l.length:=by
 have lb:0<l.length:=List.length_pos_iff.2 o
 have c1:w.drew.cell? ⟨b,1,none⟩=some (.slice (some ⟨g,0,none⟩) l.length cap):=by
  have:w.drew.heap[b]? =some (.cells #[p,.slice (some ⟨g,0,none⟩) l.length cap] 319 (0,0)):=O
  rw[Lib.cell_of_heap this];rfl
 have aC:(Builtin.unsafeSliceData_ #[134] 334 #[.slice (some ⟨g,0,none⟩) l.length cap]).run Tryz.prog w.drew=.ok (.pointer (some ⟨g,0,none⟩)) w.drew:=
  Lib.run_unsafeSliceData_row _ _ _ _ _ _ (by omega)
 have aA:(Builtin.unsafeString_ #[334,3] 9 #[.pointer (some ⟨g,0,none⟩),.int .i64 l.length]).run Tryz.prog w.drew=.ok (.string ⟨l.toArray⟩) (w.drew.freeze ⟨g,0,none⟩ l.length):=by
  have q:w.drew.heap[g]? =some (.cells cur 5 (0,0)):=R
  refine Lib.run_unsafeString_row w.drew 334 3 9 5 Tryz.underlying334 Wz g cur.size (by simp[World.shape?,q]) l o (by omega) (by unfold maxLen at U;omega) ?_
  intro j x X
  have Y:(⟨g,0,none⟩:Addr).add j=⟨g,0+j,none⟩:=by unfold Addr.add;split<;>simp_all
  rw[Y,Lib.cell_of_heap q,Nat.zero_add]
  exact W j x X
 have mixed:Tryz.prog.follows .mixedOrders=true:=by kernel_rfl
 go_enter Tryz.func200,Tryz.ntmps200
 go_wp2
 go_region_o
 all_goals (go_wp2;go_ret;exact⟨rfl,rfl⟩)
theorem R0(b:Nat)(p:Value)(w:World)(o:w.heap[b]? =some (.cells #[p,.slice none 0 0] 319 (0,0))):
  Calls Tryz.prog 200 #[.pointer (some ⟨b,0,none⟩)] w fun e w'=>e=.returned (.string ⟨#[]⟩)/\Below w.heap.size w w':=by
 have c1:w.drew.cell? ⟨b,1,none⟩=some (.slice none 0 0):=by
  have:w.drew.heap[b]? =some (.cells #[p,.slice none 0 0] 319 (0,0)):=o
  rw[Lib.cell_of_heap this];rfl
 have aC:(Builtin.unsafeSliceData_ #[134] 334 #[.slice none 0 0]).run Tryz.prog w.drew=.ok (.pointer none) w.drew:=rfl
 have aA:=Lib.run_unsafeString_none (P:=Tryz.prog) (w:=w.drew) 334 3 9
 have bW:(ByteArray.empty)=⟨#[]⟩:=rfl
 have mixed:Tryz.prog.follows .mixedOrders=true:=by kernel_rfl
 go_enter Tryz.func200,Tryz.ntmps200
 go_wp2
 go_region_o
 all_goals (go_wp2;go_ret;exact⟨rfl,(Below.refl _ w).drew⟩)
theorem N8(b g cap:Nat)(p:Value)(w:World)(o:cap≠0)(q:w.heap[b]? =some (.cells #[p,.slice (some ⟨g,0,none⟩) 0 cap] 319 (0,0))):
  Calls Tryz.prog 200 #[.pointer (some ⟨b,0,none⟩)] w fun e w'=>e=.returned (.string ⟨#[]⟩)/\Below w.heap.size w w':=by
 have c1:w.drew.cell? ⟨b,1,none⟩=some (.slice (some ⟨g,0,none⟩) 0 cap):=by
  have:w.drew.heap[b]? =some (.cells #[p,.slice (some ⟨g,0,none⟩) 0 cap] 319 (0,0)):=q
  rw[Lib.cell_of_heap this];rfl
 have aC:(Builtin.unsafeSliceData_ #[134] 334 #[.slice (some ⟨g,0,none⟩) 0 cap]).run Tryz.prog w.drew=.ok (.pointer (some ⟨g,0,none⟩)) w.drew:=
  Lib.run_unsafeSliceData_row _ _ _ _ _ _ o
 have aA:=Lib.run_unsafeString_none (P:=Tryz.prog) (w:=w.drew) 334 3 9
 have mixed:Tryz.prog.follows .mixedOrders=true:=by kernel_rfl
 go_enter Tryz.func200,Tryz.ntmps200
 go_wp2
 go_region_o
 all_goals (go_wp2;go_ret;exact⟨rfl,(Below.refl _ w).drew⟩)
theorem Vy(b g:Nat)(p:Value)(cur:Array Value)(w:World)(o:w.heap[b]? =some (.cells #[p,.slice (some ⟨g,0,none⟩) 0 0] 319 (0,0)))(q:w.heap[g]? =some (.cells cur 5 (0,0))):
  Calls Tryz.prog 200 #[.pointer (some ⟨b,0,none⟩)] w fun e w'=>e=.returned (.string ⟨#[]⟩)/\Below w.heap.size w w':=by
 have O:b<w.heap.size:=(Array.getElem?_eq_some_iff.1 o).1
 have R:w.drew.heap[b]? =some (.cells #[p,.slice (some ⟨g,0,none⟩) 0 0] 319 (0,0)):=o
 have U:w.drew.heap[g]? =some (.cells cur 5 (0,0)):=q
 have c1:w.drew.cell? ⟨b,1,none⟩=some (.slice (some ⟨g,0,none⟩) 0 0):=by
  rw[Lib.cell_of_heap R];rfl
 have c2:(w.drew.alloc (.view ⟨g,0,none⟩ 5)).cell? ⟨b,1,none⟩=some (.slice (some ⟨g,0,none⟩) 0 0):=by
  rw[World.cell?_of_block (w:=w.drew) (Below.heap_alloc w.drew _ b O)];exact c1
 have aC:(Builtin.unsafeSliceData_ #[134] 334 #[.slice (some ⟨g,0,none⟩) 0 0]).run Tryz.prog w.drew=.ok (.pointer (some ⟨w.drew.heap.size,0,none⟩)) (w.drew.alloc (.view ⟨g,0,none⟩ 5)):=
  Lib.run_unsafeSliceData_zero w.drew _ _ _ Tryz.underlying334 _ _ (5,cur.size) (by simp[World.shape?,U])
 have aA:=Lib.run_unsafeString_none (P:=Tryz.prog) (w:=w.drew.alloc (.view ⟨g,0,none⟩ 5)) 334 3 9
 have bW:=Lib.run_unsafeString_none (P:=Tryz.prog) (w:=(w.alloc (.view ⟨g,0,none⟩ 5)).drew) 334 3 9
 have c3:w.cell? ⟨b,1,none⟩=some (.slice (some ⟨g,0,none⟩) 0 0):=c1
 have mixed:Tryz.prog.follows .mixedOrders=true:=by kernel_rfl
 have W:Below w.heap.size w (w.drew.alloc (.view ⟨g,0,none⟩ 5)):=⟨rfl,rfl,rfl,by simp,fun k X=>Below.heap_alloc w.drew _ k X⟩
 go_enter Tryz.func200,Tryz.ntmps200
 go_wp2
 go_region_o
 all_goals (go_wp2;go_ret;exact⟨rfl,W⟩)
/-! The builder's functions. -/
def ml(k:Nat):cY (List Int) Unit where
 n:=20
 S:=fun z=>⟨[(0,.ptr 20 0)],[(20,.cells [.fp 20,.row 21] 319)],[(21,⟨5,.int .u8,z⟩)]⟩
 bq:=fun z _=>⟨[],[(20,.cells [.fp 20,.row 21] 319)],[(21,⟨5,.int .u8,z⟩)]⟩
 au:=fun _ _=>[]
 rel:=fun z y=>zn k z=some y
def vK(k:Nat):cY (List Int) (List UInt8) where
 n:=14
 S:=fun z=>⟨[(0,.ptr 14 0)],[(14,.cells [.fp 14,.row 15] 319)],[(15,⟨5,.int .u8,z⟩)]⟩
 bq:=fun _ _=>⟨[],[],[]⟩
 au:=fun _ y=>[aN y]
 rel:=fun z y=>qN k z=some y
theorem J3{n:Nat}{vs:List Value}{v:Value}(o:vs.length=1)(h:(vs.toArray++Array.replicate (n-vs.toArray.size) undef)[0]? =some v):vs=[v]:=by
 match vs,o with
 |[u],_=>
  rw[Array.getElem?_append_left (by simp)]at h
  simpa using h
theorem NA{w:World}{b i:Nat}{cs:Array Value}{t:TypeId}(h:w.heap[b]? =some (.cells cs t (0,0)))(v:Value):(w.setCell ⟨b,i,none⟩ v).heap[b]? =some (.cells (cs.setIfInBounds i v) t (0,0)):=by
 simp[World.setCell,Array.getElem?_modify,h]
theorem Xm{w:World}{b i k:Nat}(v:Value)(h:k≠b):(w.setCell ⟨b,i,none⟩ v).heap[k]? =w.heap[k]? :=by
 simp[World.setCell,Array.getElem?_modify,Ne.symm h]
theorem U9{G:World->Prop}(k:Nat):dc Tryz.prog G 209 (ml k) where
 enters:=enters_of Tryz.func209 (by kernel_rfl) rfl
 calls:=by
  rintro cx lj Y lk z y ll vs w lc ⟨m,R⟩
  obtain⟨v,ld,g,O,rfl⟩:=R.cT 0 (.ptr 20 0) List.mem_cons_self
  have le:=J3 (n:=20) lc ld
  subst le
  have Z:(20,bQ.cells [.fp 20,.row 21] 319)∈((ml k).S z).ad:=List.mem_cons_self
  obtain⟨o,ae,lm,cells,U,e4⟩:=R.boxes _ _ Z
  have:o=g:=by rw[O]at ae;cases ae;rfl
  subst this
  obtain⟨p,u,lf,q,W⟩:∃p u,cells.toList=[p,u]/\(p=.pointer none\/p=m 20)/\u=m 21:=by
   match ln:cells.toList,e4 with
   |[p,u],⟨q,W,_⟩=>exact⟨p,u,rfl,q,W⟩
  have lg:cells=#[p,u]:=Array.ext' (by rw[lf])
  subst lg
  have la:w.cell? ⟨o,0,none⟩=some p:=by rw[pR U];rfl
  have lo:∀i,i∈af.ids ((ml k).bq z y)↔i∈af.ids ((ml k).S z):=fun i=>Iff.rfl
  have lb:∀{w'},an cx m ((ml k).S z) ([Value.pointer (some ⟨o,0,none⟩)].toArray++Array.replicate ((ml k).n-[Value.pointer (some ⟨o,0,none⟩)].toArray.size) undef) w'->an cx m ((ml k).bq z y) ([Value.pointer (some ⟨o,0,none⟩)].toArray++Array.replicate ((ml k).n-[Value.pointer (some ⟨o,0,none⟩)].toArray.size) undef) w':=
   fun h=>h.weaken (fun i aU hi=>by cases hi) (fun p X=>X) (fun p X=>X) h.keys
  rcases q with q|q
  ·subst q
   refine(Qd o w la (by simp[World.shape?,U]) (by simp[World.frozen?,U])).mono ?_
   rintro e w' ⟨rfl,rfl⟩
   refine⟨_,m,_,rfl,lb ?_,trivial⟩
   have lh:(w.setCell ⟨o,0,none⟩ (.pointer (some ⟨o,0,none⟩))).heap[o]? =some (.cells #[.pointer (some ⟨o,0,none⟩),u] 319 (0,0)):=NA (i:=0) U _
   have Y:Touch m w 20 (w.setCell ⟨o,0,none⟩ (.pointer (some ⟨o,0,none⟩))):=⟨⟨rfl,rfl,rfl,by simp[World.setCell],fun h=>False.elim h⟩,fun b lp li=>Xm _ (fun e=>li (by rw[O,e];rfl))⟩
   have:=R.dd (c:=bQ.cells [.fp 20,.row 21] 319) Z Y (g:=o) O ⟨_,lh,.inr O.symm,W,trivial⟩
   exact this
  ·refine(V9 o w (by rw[la,q,O])).mono ?_
   rintro e w' ⟨rfl,rfl⟩
   exact⟨_,m,_,rfl,lb R,trivial⟩
theorem Qk{w:World}{b n k:Nat}(h:k≠b):(w.freeze ⟨b,0,none⟩ n).heap[k]? =w.heap[k]? :=by
 unfold World.freeze
 split
 ·rfl
 ·simp[Array.getElem?_modify,Ne.symm h]
theorem NE{w:World}{b n:Nat}:(w.freeze ⟨b,0,none⟩ n).heap.size=w.heap.size/\(w.freeze ⟨b,0,none⟩ n).os=w.os/\(w.freeze ⟨b,0,none⟩ n).tape=w.tape/\(w.freeze ⟨b,0,none⟩ n).output=w.output:=by
 unfold World.freeze
 split<;>simp
theorem QZ{G:World->Prop}(k:Nat):dc Tryz.prog G 200 (vK k) where
 enters:=enters_of Tryz.func200 (by kernel_rfl) rfl
 calls:=by
  rintro cx lJ lK lL z y O vs w lo ⟨m,o⟩
  obtain⟨v,lp,g,lq,rfl⟩:=o.cT 0 (.ptr 14 0) List.mem_cons_self
  have lr:=J3 (n:=14) lo lp
  subst lr
  have ls:(14,bQ.cells [.fp 14,.row 15] 319)∈((vK k).S z).ad:=List.mem_cons_self
  obtain⟨R,ae,lM,cells,U,e4⟩:=o.boxes _ _ ls
  have:R=g:=by rw[lq]at ae;cases ae;rfl
  subst this
  obtain⟨p,u,lt,lg,X⟩:∃p u,cells.toList=[p,u]/\(p=.pointer none\/p=m 14)/\u=m 15:=by
   match lN:cells.toList,e4 with
   |[p,u],⟨lg,X,_⟩=>exact⟨p,u,rfl,lg,X⟩
  have lu:cells=#[p,u]:=Array.ext' (by rw[lt])
  subst lu
  have lv:(15,(⟨5,.int .u8,z⟩:cG))∈((vK k).S z).rw:=List.mem_cons_self
  obtain⟨lc,lw,lx,ly⟩:=o.rows _ _ lv
  have lz:lc=z.map (Value.int .u8):=yP ly
  have O:qN k z=some y:=O
  unfold qN at O
  split at O
  case isFalse=>cases O
  rename_i lA
  cases O
  have done:∀{w':World} {T:Array Value},T.size=cx.n->Frame cx.w0 w' cx.X->an cx m ((vK k).bq z (fl z)) T w':=fun lB lC=>
   {size:=lB,frame:=lC,outer:=o.outer,cT:=(fun i aU hi=>by cases hi),boxes:=(fun i c hi=>by cases hi),rows:=(fun i c hi=>by cases hi),apart:=(fun i j hi=>by cases hi),keys:=List.nodup_nil,fixed:=(fun i c hi=>by cases hi),kept:=(fun i c hi=>by cases hi)}
  have fr:∀{w':World},Below w.heap.size w w'->Frame cx.w0 w' cx.X:=fun q=>o.frame.step ⟨q.os,q.tape,q.output,q.size,fun h=>False.elim h⟩ fun b lh _=>q.block b (Nat.lt_of_lt_of_le lh o.frame.size)
  have W:(fl z).length=z.length:=by simp[fl]
  have ld:∀(w':World) (M:Nat->Prop),aT w' M m (.string ⟨#[]⟩) (aN (fl [])):=fun w' M=>(eO (w:=w') (M:=M)).2 ⟨rfl,by decide⟩
  have lD:z.length<=maxLen->∀(w':World) (M:Nat->Prop),aT w' M m (.string ⟨(fl z).toArray⟩) (aN (fl z)):=fun o w' M=>(eO (w:=w') (M:=M)).2 ⟨rfl,by rw[W];exact o⟩
  rcases lw.2 with ⟨Y,lE⟩|⟨bw,cap,cur,Y,_,li,Z,lj,le,lf⟩
  ·rw[X,Y]at U
   have la:z=[]:=List.eq_nil_of_length_eq_zero lE
   refine(R0 R p w U).mono ?_
   rintro e w' ⟨rfl,q⟩
   subst la
   exact⟨_,m,_,rfl,done o.size (fr q),ld _ _⟩
  ·have Z:z.length<=cap:=Z
   have le:cur.size=cap:=le.trans (Nat.mul_one cap)
   have lf:cur.toList.take z.length=lc:=(congrArg (fun n=>List.take n cur.toList) (Nat.mul_one z.length).symm).trans lf
   rw[X,Y]at U
   by_cases la:z=[]
   ·subst la
    by_cases lk:cap=0
    ·subst lk
     refine(Vy R bw p cur w U li).mono ?_
     rintro e w' ⟨rfl,q⟩
     exact⟨_,m,_,rfl,done o.size (fr q),ld _ _⟩
    ·refine(N8 R bw cap p w lk U).mono ?_
     rintro e w' ⟨rfl,q⟩
     exact⟨_,m,_,rfl,done o.size (fr q),ld _ _⟩
   ·have lF:fl z≠[]:=by
     intro e
     have:=congrArg List.length e
     rw[W]at this
     exact la (List.eq_nil_of_length_eq_zero this)
    have lG:w.heap[R]? =some (.cells #[p,.slice (some ⟨bw,0,none⟩) (fl z).length cap] 319 (0,0)):=by rw[W];exact U
    refine(R5 R bw cap p cur (fl z) w lF lG li (by rw[W];exact Z) lj le ?_).mono ?_
    ·intro j x ll
     have lH:j<z.length:=by rw[<-W];exact(List.getElem?_eq_some_iff.1 ll).1
     have lm:(dB (fl z))[j]? =some (x.toNat:Int):=by unfold dB;rw[List.getElem?_map,ll];rfl
     rw[lA]at lm
     have ln:lc[j]? =some (Value.int .u8 (x.toNat:Int)):=by rw[lz,List.getElem?_map,lm];rfl
     rw[<-lf,List.getElem?_take,if_pos lH]at ln
     rw[<-Array.getElem?_toList]
     exact ln
    ·rintro e w' ⟨rfl,rfl⟩
     obtain⟨f1,f2,f3,f4⟩:=NE (w:=w.drew) (b:=bw) (n:=(fl z).length)
     have lb:=lx bw (by rw[Y];rfl)
     refine⟨_,m,_,rfl,done o.size (o.frame.step ⟨f2,f3,f4,by rw[f1];exact Nat.le_refl _,fun h=>False.elim h⟩ fun b lh lI=>?_),lD (Nat.le_trans Z lj) _ _⟩
     refine Qk (w:=w.drew) ?_
     rintro rfl
     rcases lb with lb|lb
     ·omega
     ·exact lI lb
end Go.Ev
namespace Go.Ev
open Go
variable [b8]
end Go.Ev
namespace Go.Ev
open Go Go.Proofs Go.Shelf Go.RowKit
open Go.Sort (flatK HoldsK putRowK)
set_option maxRecDepth 100000
def kY(w:World)(M:Nat->Prop)(t:ag):List (List Value)->List t.el->Prop
 |[],[]=>True
 |c::d,x::xs=>aJ w M t c x/\kY w M t d xs
 |_,_=>False
theorem CP{w:World}{M:Nat->Prop}{t:ag}:∀{cells:List Value} {xs:List t.el},bL (aJ w M t) cells xs->∃d:List (List Value),d.flatten=cells/\kY w M t d xs
 |cells,[],h=>⟨[],by rw[show cells=[]from h];rfl,trivial⟩
 |cells,x::xs,⟨c1,c2,e,o,q⟩=>by
  obtain⟨d,ai,O⟩:=CP q
  exact⟨c1::d,by rw[List.flatten_cons,ai,e],o,O⟩
theorem LS{w:World}{M:Nat->Prop}{t:ag}:∀{d:List (List Value)} {xs:List t.el},kY w M t d xs->bL (aJ w M t) d.flatten xs
 |[],[],_=>rfl
 |[],_::_,h=>h.elim
 |_::_,[],h=>h.elim
 |c::d,x::xs,⟨o,q⟩=>⟨c,d.flatten,rfl,o,LS q⟩
theorem JX{w:World}{M:Nat->Prop}{t:ag}:∀{d e:List (List Value)} {xs o:List t.el},kY w M t d xs->kY w M t e o->kY w M t (d++e) (xs++o)
 |[],_,[],_,_,h=>h
 |[],_,_::_,_,h,_=>h.elim
 |_::_,_,[],_,h,_=>h.elim
 |_::_,_,_::_,_,⟨q,O⟩,h=>⟨q,JX O h⟩
theorem Lo{w:World}{M:Nat->Prop}{t:ag}:∀{d:List (List Value)} {xs:List t.el},kY w M t d xs->kY w M t d.reverse xs.reverse
 |[],[],_=>trivial
 |[],_::_,h=>h.elim
 |_::_,[],h=>h.elim
 |c::d,x::xs,⟨o,q⟩=>by
  rw[List.reverse_cons,List.reverse_cons]
  exact JX (Lo q) ⟨o,trivial⟩
theorem Fm{w:World}{M:Nat->Prop}{t:ag}:∀{d:List (List Value)} {xs:List t.el},kY w M t d xs->d.length=xs.length/\∀c∈d,c.length=t.cells/\∀v∈c,v.oneCell'=true
 |[],[],_=>⟨rfl,fun c h=>by cases h⟩
 |[],_::_,h=>h.elim
 |_::_,[],h=>h.elim
 |c::d,x::xs,⟨q,O⟩=>by
  obtain⟨aC,aA⟩:=Fm O
  refine⟨by simp[aC],fun c' o=>?_⟩
  rcases List.mem_cons.1 o with rfl|o
  ·exact⟨cf t q,hZ t q⟩
  ·exact aA c' o
def kz(k:Nat)(c:List Value):List Value:=if c.length=k/\(c.all fun v=>v.oneCell')=true then c else List.replicate k (.int .i64 0)
theorem Wc(k:Nat)(c:List Value):(kz k c).length=k:=by
 unfold kz
 split
 ·rename_i h;exact h.1
 ·simp
theorem OG(k:Nat)(c:List Value):∀v∈kz k c,v.oneCell'=true:=by
 unfold kz
 split
 ·rename_i h;exact List.all_eq_true.1 h.2
 ·intro v o
  rw[List.eq_of_mem_replicate o]
  rfl
theorem SE{k:Nat}{c:List Value}(h:c.length=k)(o:∀v∈c,v.oneCell'=true):kz k c=c:=if_pos ⟨h,List.all_eq_true.2 o⟩
theorem Gm{k:Nat}:∀{d:List (List Value)},(∀c∈d,c.length=k)->∀t,t<d.length*k->d.flatten[t]? =((d[t/k]?).getD [])[t %k]?
 |[],_,t,h=>by simp at h
 |c::d,ai,t,h=>by
  have o:=ai c List.mem_cons_self
  have R:0<k:=by
   rcases Nat.eq_zero_or_pos k with q|q
   ·subst q;simp at h
   ·exact q
  rw[List.flatten_cons]
  by_cases O:t<k
  ·rw[List.getElem?_append_left (by omega),Nat.div_eq_of_lt O,Nat.mod_eq_of_lt O]
   rfl
  ·have ae:t/k=(t-k)/k+1:=by rw[<-Nat.add_div_right _ R];congr 1;omega
   have U:t %k=(t-k) %k:=by rw[<-Nat.add_mod_right (t-k) k];congr 1;omega
   rw[List.getElem?_append_right (by omega),o,Gm (fun c o=>ai c (List.mem_cons_of_mem _ o)) (t-k) (by rw[List.length_cons,Nat.succ_mul]at h;omega),ae,U]
   rfl
theorem H8{k:Nat}{d:List (List Value)}(ai:∀c∈d,c.length=k/\∀v∈c,v.oneCell'=true):flatK (kz k) k d.toArray=d.flatten.toArray:=by
 have W:d.flatten.length=d.length*k:=by
  induction d with
  |nil=>simp
  |cons c d X=>
   rw[List.flatten_cons,List.length_append,(ai c List.mem_cons_self).1,X fun c O=>ai c (List.mem_cons_of_mem _ O),List.length_cons,Nat.succ_mul]
   omega
 apply Array.ext'
 apply List.ext_getElem?
 intro t
 by_cases o:t<d.length*k
 ·have Y:=Gm (fun c O=>(ai c O).1) t o
  have Z:0<k:=by
   rcases Nat.eq_zero_or_pos k with R|R
   ·subst R;simp at o
   ·exact R
  have aM:t/k<d.length:=Nat.div_lt_of_lt_mul (by rw[Nat.mul_comm];exact o)
  have U:t %k<k:=Nat.mod_lt _ Z
  have q:=ai d[t/k] (List.getElem_mem aM)
  rw[show(d.flatten.toArray).toList=d.flatten from rfl,Y,Array.getElem?_toList]
  unfold flatK
  rw[Array.getElem?_map,Array.getElem?_range]
  have:t<d.toArray.size*k:=by simpa using o
  rw[if_pos this]
  simp only[Option.map_some]
  rw[List.getElem?_eq_getElem aM,Option.getD_some]
  have ae:d.toArray[t/k]! =d[t/k]:=by simp[aM]
  rw[ae,SE q.1 q.2,List.getElem?_eq_getElem (by rw[q.1];exact U)]
  simp[q.1,U]
 ·rw[List.getElem?_eq_none (by simp[flatK];omega),List.getElem?_eq_none (by simpa[W]using o)]
theorem IL(w:World)(g b:Nat)(f:Array Value->Array Value):(Go.Sort.mapBlock w g f).heap[b]? =if g=b then(w.heap[b]?).map (Go.Sort.onCells f)else w.heap[b]? :=by
 unfold Go.Sort.mapBlock
 exact Array.getElem?_modify
theorem Im{w:World}{M:Nat->Prop}{t:ag}{e g cap n:Nat}{xs:List t.el}{cells:List Value}{d:List (List Value)}(li:0<t.cells)(X:w.ownsRow 0 e t.cells (.slice (some ⟨g,0,none⟩) xs.length cap) xs.length cells)(ai:d.flatten=cells)(Y:kY w M t d xs):
  ∃u O,(Ending.returned (.tuple #[]))=.returned u/\Same w (Go.Sort.putRow id (Sort.ahead w n) g 0 d.reverse.flatten.toArray)/\(∀b,b<w.heap.size->aY (.slice (some ⟨g,0,none⟩) xs.length cap)≠some b->(Go.Sort.putRow id (Sort.ahead w n) g 0 d.reverse.flatten.toArray).heap[b]? =w.heap[b]?)/\
   (Go.Sort.putRow id (Sort.ahead w n) g 0 d.reverse.flatten.toArray).ownsRow 0 e t.cells (.slice (some ⟨g,0,none⟩) xs.length cap) (List.length xs.reverse) O/\bL (aJ w M t) O xs.reverse:=by
 rcases X.2 with ⟨o,_⟩|⟨lj,lk,cur,o,Z,la,R,lb,U,ll⟩
 ·cases o
 cases o
 have W:=LS (Lo Y)
 have lc:d.reverse.flatten.length=xs.length*t.cells:=by
  rw[jw (fun _ _=>cf t) _ _ W,List.length_reverse]
 have lm:xs.length*t.cells<=cur.size:=by rw[U];exact Nat.mul_le_mul_right _ R
 have ld:(Go.Sort.putRow id (Sort.ahead w n) g 0 d.reverse.flatten.toArray).heap[g]? =some (.cells (Go.Sort.putCells id 0 d.reverse.flatten.toArray cur) e (0,0)):=by
  unfold Go.Sort.putRow
  rw[IL,if_pos rfl]
  have:(Sort.ahead w n).heap[g]? =some (.cells cur e (0,0)):=la
  rw[this]
  rfl
 refine⟨_,d.reverse.flatten,rfl,⟨rfl,rfl,rfl,?_,fun _=>Nat.le_add_right _ _⟩,?_,⟨?_,.inr ⟨g,cap,Go.Sort.putCells id 0 d.reverse.flatten.toArray cur,by rw[List.length_reverse],Z,ld,by rw[List.length_reverse];exact R,lb,?_,?_⟩⟩,W⟩
 ·show w.heap.size<=_
  rw[Go.Sort.size_putRow]
  exact Nat.le_refl _
 ·intro b ln le
  have lf:b≠g:=fun e=>le (by rw[e];rfl)
  unfold Go.Sort.putRow
  rw[IL,if_neg lf.symm]
  rfl
 ·rw[lc,List.length_reverse]
 ·rw[<-U]
  simp[Go.Sort.putCells]
 ·rw[List.length_reverse]
  apply List.ext_getElem?
  intro j
  by_cases lg:j<xs.length*t.cells
  ·have lh:j<cur.size:=by omega
   have q:j<d.reverse.flatten.length:=by omega
   rw[List.getElem?_take_of_lt lg,Array.getElem?_toList]
   unfold Go.Sort.putCells
   rw[Array.getElem?_mapIdx,Array.getElem?_eq_getElem lh,Option.map_some,if_pos ⟨Nat.zero_le _,by simpa using q⟩,List.getElem?_eq_getElem q]
   simp only[Nat.sub_zero,id]
   rw[getElem!_pos _ j (by simpa using q)]
   simp
  ·rw[List.getElem?_eq_none (by simp;omega),List.getElem?_eq_none (by omega)]
theorem held{w:World}{M:Nat->Prop}{t:ag}{e g cap:Nat}{xs:List t.el}{cells:List Value}(q:w.ownsRow 0 e t.cells (.slice (some ⟨g,0,none⟩) xs.length cap) xs.length cells):Go.Sort.Holds id w g 0 cells.toArray:=by
 rcases q.2 with ⟨o,_⟩|⟨X,Y,cur,o,Z,U,la,lb,lc,ld⟩
 ·cases o
 cases o
 intro j O
 have W:j<cells.length:=by simpa using O
 rw[Nat.zero_add]
 refine⟨?_,by simp[World.frozen?,U]⟩
 have R:=q.cells (g:=g) rfl j cells[j] (List.getElem?_eq_getElem W)
 rw[gU,Nat.zero_add]at R
 rw[R,getElem!_pos _ j O]
 rfl
theorem GB{P:Program}{G:World->Prop}{ρ:Ren}(L:SlLaysE0.n35 P ρ){f e:Nat}{t:ag}(Y:ρ.f 35=f)(Z:ρ.t 23=e)(la:Nat.blt 0 t.cells=true)(lb:∀w,(isAgg e).run P w=.ok true w)(lc:∀w,(Go.sizeOf e).run P w=.ok t.cells w)
  (ld:∀args w,(callFunc f args).run P w=.ok (.enter f args) w):yw P G f e t (fun xs O=>O=xs.reverse) where
 enters:=ld
 calls:=by
  rintro w M v xs O cells _ rfl o R
  subst Y
  subst Z
  rcases o.2 with ⟨q,le⟩|⟨g,cap,cur,q,lk,ll,lf,lg,lm,ln⟩
  ·have lh:xs=[]:=List.length_eq_zero_iff.1 le
   subst lh
   subst q
   refine(AnyQ.slices_Reverse_empty L none 0 w).mono ?_
   rintro e w' ⟨rfl,rfl⟩
   exact⟨_,cells,rfl,⟨rfl,rfl,rfl,Nat.le_refl _,fun _=>Nat.le_refl _⟩,fun _ _ _=>rfl,o,R⟩
  ·subst q
   obtain⟨d,ai,U⟩:=CP R
   obtain⟨W,X⟩:=Fm U
   have li:HoldsK (kz t.cells) t.cells w g 0 d.toArray:=by
    show Go.Sort.Holds id w g 0 (flatK (kz t.cells) t.cells d.toArray)
    rw[H8 X,ai]
    exact held (M:=M) o
   have:=AnyQ.slices_Reverse L t.cells lb lc (kz t.cells) (Wc _) (OG _) g 0 cap d.toArray w li (by simp[W];exact Nat.le_trans lf lg)
   rw[show d.toArray.size=xs.length from by simp[W]]at this
   refine this.mono ?_
   rintro e w' ⟨rfl,n,rfl⟩
   have ae:putRowK (kz t.cells) t.cells (Sort.ahead w n) g 0 d.toArray.reverse=Go.Sort.putRow id (Sort.ahead w n) g 0 d.reverse.flatten.toArray:=by
    unfold putRowK
    rw[show d.toArray.reverse=d.reverse.toArray from by simp,H8 fun c lj=>X c (List.mem_reverse.1 lj)]
   rw[ae]
   exact Im (cR la) o ai U
def rL(v:Value):Value:=if v.oneCell'=true then v else .int .i64 0
theorem Ia{v:Value}(h:v.oneCell'=true):rL v=v:=if_pos h
theorem QJ(v:Value):(rL v).oneCell'=true:=by
 unfold rL
 split
 ·assumption
 ·rfl
theorem single{d:List (List Value)}(h:∀c∈d,c.length=1):d.reverse.flatten=d.flatten.reverse:=by
 induction d with
 |nil=>rfl
 |cons c d o=>
  obtain⟨v,rfl⟩:=List.length_eq_one_iff.1 (h c List.mem_cons_self)
  rw[List.reverse_cons,List.flatten_append,o fun c q=>h c (List.mem_cons_of_mem _ q)]
  simp
theorem KQ{P:Program}{G:World->Prop}{ρ:Ren}(L:SlLaysE.n35 P ρ){f e:Nat}{t:ag}(lb:ρ.f 35=f)(O:Nat.beq t.cells 1=true)
  (lc:∀args w,(callFunc f args).run P w=.ok (.enter f args) w):yw P G f e t (fun xs R=>R=xs.reverse) where
 enters:=lc
 calls:=by
  rintro w M v xs R cells _ rfl q U
  subst lb
  have O:=Nat.eq_of_beq_eq_true O
  rcases q.2 with ⟨o,ld⟩|⟨g,cap,cur,o,lp,lq,le,lf,lr,ls⟩
  ·have lg:xs=[]:=List.length_eq_zero_iff.1 ld
   subst lg
   subst o
   refine(AnyE.slices_Reverse_empty L none 0 w).mono ?_
   rintro e w' ⟨rfl,rfl⟩
   exact⟨_,cells,rfl,⟨rfl,rfl,rfl,Nat.le_refl _,fun _=>Nat.le_refl _⟩,fun _ _ _=>rfl,q,U⟩
  ·subst o
   obtain⟨d,ai,W⟩:=CP U
   obtain⟨lt,X⟩:=Fm W
   have lh:∀c∈d,c.length=1:=fun c li=>by rw[(X c li).1,O]
   have Y:∀v∈cells,v.oneCell'=true:=fun v o=>by
    rw[<-ai]at o
    obtain⟨c,lj,lk⟩:=List.mem_flatten.1 o
    exact(X c lj).2 v lk
   have Z:cells.length=xs.length:=by rw[q.1,O,Nat.mul_one]
   have ll:Go.Sort.Holds id w g 0 cells.toArray:=held (M:=M) q
   have lm:Go.Sort.Holds rL w g 0 cells.toArray:=fun j la=>by
    obtain⟨ln,a2⟩:=ll j la
    refine⟨?_,a2⟩
    rw[ln,Ia]
    ·rfl
    ·rw[getElem!_pos _ j la];exact Y _ (by simp)
   have:=AnyE.slices_Reverse L rL QJ g 0 cap cells w lm (by rw[Z];exact Nat.le_trans le lf)
   rw[Z]at this
   refine this.mono ?_
   rintro lu w' ⟨rfl,n,rfl⟩
   have ae:Go.Sort.putRow rL (Sort.ahead w n) g 0 cells.reverse.toArray=Go.Sort.putRow id (Sort.ahead w n) g 0 d.reverse.flatten.toArray:=by
    rw[single lh,ai]
    unfold Go.Sort.putRow Go.Sort.putCells
    congr 1
    funext c
    congr 1
    funext k x
    split
    ·rename_i lv
     have lo:k-0<cells.reverse.toArray.size:=by omega
     rw[Ia]
     ·rfl
     ·rw[getElem!_pos cells.reverse.toArray (k-0) lo]
      exact Y _ (List.mem_reverse.1 (by simp))
    ·rfl
   rw[ae]
   exact Im (by omega) q ai W
end Go.Ev
namespace Go.Ev
open Go Go.Proofs Go.Shelf Go.RowKit
set_option maxRecDepth 100000
def Xh:Ren:=⟨fun|35=>207|n=>n,fun|22=>69|23=>3|3=>3|4=>4|0=>0|n=>n,fun|n=>n⟩
theorem VR:SlLaysE.n35 Tryz.prog Xh:={
 mixed:=by kernel_rfl
 f35:=⟨Tryz.f207.name,by kernel_rfl,Tryz.func207.trans (congrArg some (by kernel_rfl))⟩
 t0:=Tryz.underlying0
 a0:=Tryz.isAgg0
 z0:=Tryz.sizeOf0
 v0:=Tryz.zeroValue0
 t3:=Tryz.underlying3
 a3:=Tryz.isAgg3
 z3:=Tryz.sizeOf3
 v3:=Tryz.zeroValue3
 t4:=Tryz.underlying4
 a4:=Tryz.isAgg4
 z4:=Tryz.sizeOf4
 v4:=Tryz.zeroValue4
 t22:=Tryz.underlying69
 a22:=Tryz.isAgg69
 z22:=Tryz.sizeOf69
 v22:=Tryz.zeroValue69
 a23:=Tryz.isAgg3
 z23:=Tryz.sizeOf3}
noncomputable def VZ{G:World->Prop}:sb Tryz.prog G:=⟨207,3,(.int .i64),List.reverse,KQ VR rfl (by kernel_rfl) (enters_of Tryz.func207 (by kernel_rfl) rfl)⟩
def Rc:Ren:=⟨fun|35=>131|n=>n,fun|22=>61|23=>21|3=>3|4=>4|0=>0|n=>n,fun|n=>n⟩
theorem N3:SlLaysE.n35 Tryz.prog Rc:={
 mixed:=by kernel_rfl
 f35:=⟨Tryz.f131.name,by kernel_rfl,Tryz.func131.trans (congrArg some (by kernel_rfl))⟩
 t0:=Tryz.underlying0
 a0:=Tryz.isAgg0
 z0:=Tryz.sizeOf0
 v0:=Tryz.zeroValue0
 t3:=Tryz.underlying3
 a3:=Tryz.isAgg3
 z3:=Tryz.sizeOf3
 v3:=Tryz.zeroValue3
 t4:=Tryz.underlying4
 a4:=Tryz.isAgg4
 z4:=Tryz.sizeOf4
 v4:=Tryz.zeroValue4
 t22:=Tryz.underlying61
 a22:=Tryz.isAgg61
 z22:=Tryz.sizeOf61
 v22:=Tryz.zeroValue61
 a23:=Tryz.isAgg21
 z23:=Tryz.sizeOf21}
noncomputable def Lg{G:World->Prop}:sb Tryz.prog G:=⟨131,21,(.int .i32),List.reverse,KQ N3 rfl (by kernel_rfl) (enters_of Tryz.func131 (by kernel_rfl) rfl)⟩
def WF:Ren:=⟨fun|35=>167|n=>n,fun|22=>54|23=>125|3=>3|4=>4|0=>0|n=>n,fun|n=>n⟩
theorem SP:SlLaysE0.n35 Tryz.prog WF:={
 mixed:=by kernel_rfl
 f35:=⟨Tryz.f167.name,by kernel_rfl,Tryz.func167.trans (congrArg some (by kernel_rfl))⟩
 t0:=Tryz.underlying0
 a0:=Tryz.isAgg0
 z0:=Tryz.sizeOf0
 v0:=Tryz.zeroValue0
 t3:=Tryz.underlying3
 a3:=Tryz.isAgg3
 z3:=Tryz.sizeOf3
 v3:=Tryz.zeroValue3
 t4:=Tryz.underlying4
 a4:=Tryz.isAgg4
 z4:=Tryz.sizeOf4
 v4:=Tryz.zeroValue4
 t22:=Tryz.underlying54
 a22:=Tryz.isAgg54
 z22:=Tryz.sizeOf54
 v22:=Tryz.zeroValue54}
noncomputable def RQ{G:World->Prop}:sb Tryz.prog G:=⟨167,125,(.pair (.int .i32) (.pair (.int .u32) (.pair (.int .u32) .unit))),List.reverse,GB SP rfl rfl (by kernel_rfl) Tryz.isAgg125 Tryz.sizeOf125 (enters_of Tryz.func167 (by kernel_rfl) rfl)⟩
def Od:Ren:=⟨fun|35=>168|n=>n,fun|22=>55|23=>127|3=>3|4=>4|0=>0|n=>n,fun|n=>n⟩
theorem Ol:SlLaysE0.n35 Tryz.prog Od:={
 mixed:=by kernel_rfl
 f35:=⟨Tryz.f168.name,by kernel_rfl,Tryz.func168.trans (congrArg some (by kernel_rfl))⟩
 t0:=Tryz.underlying0
 a0:=Tryz.isAgg0
 z0:=Tryz.sizeOf0
 v0:=Tryz.zeroValue0
 t3:=Tryz.underlying3
 a3:=Tryz.isAgg3
 z3:=Tryz.sizeOf3
 v3:=Tryz.zeroValue3
 t4:=Tryz.underlying4
 a4:=Tryz.isAgg4
 z4:=Tryz.sizeOf4
 v4:=Tryz.zeroValue4
 t22:=Tryz.underlying55
 a22:=Tryz.isAgg55
 z22:=Tryz.sizeOf55
 v22:=Tryz.zeroValue55}
noncomputable def Vg{G:World->Prop}:sb Tryz.prog G:=⟨168,127,(.pair (.int .i32) (.pair (.int .i64) (.pair (.int .u32) (.pair (.int .u32) .unit)))),List.reverse,GB Ol rfl rfl (by kernel_rfl) Tryz.isAgg127 Tryz.sizeOf127 (enters_of Tryz.func168 (by kernel_rfl) rfl)⟩
end Go.Ev
namespace Go.Ev
open Go Go.Proofs
noncomputable def Rs{G:World->Prop}(k:Nat):dM Tryz.prog G (List Int) Unit:=⟨209,ml k,fun st=>cF st [.rw 21 5 (.int .u8)],fun z=>zn k z,U9 k,fun _ _ h=>h⟩
noncomputable def Sr{G:World->Prop}(k:Nat):dM Tryz.prog G (List Int) (List UInt8):=⟨200,vK k,fun st=>cF st [.rw 15 5 (.int .u8)],fun z=>qN k z,QZ k,fun _ _ h=>h⟩
end Go.Ev
namespace Go.Ev
open Go Go.Proofs
noncomputable def LM(k:Nat):aX:=⟨[.str],[.int .i32,.int .i64],[],fun s=>utf8_DecodeRuneInString k s⟩
noncomputable def Bb(k:Nat):aL Tryz.prog aq:=⟨158,LM k,Mt (Ub k) (LM k) fun x y h=>h⟩
end Go.Ev
namespace Go.Ev
open Go Go.Proofs Go.Shelf
set_option maxRecDepth 100000
def Rg:Go.Shelf.Ren:=⟨fun|196=>122|259=>156|n=>n,fun|0=>0|3=>3|4=>4|5=>5|9=>9|12=>12|46=>233|53=>108|119=>269|138=>271|139=>272|n=>n,fun|3=>0|4=>1|n=>n⟩
theorem U2:Go.Proofs.Lays.n196 Tryz.prog Rg:={
 mixed:=by kernel_rfl
 f196:=Tryz.func122.trans (congrArg some (by kernel_rfl))
 f259:=Tryz.func156.trans (congrArg some (by kernel_rfl))
 t0:=Tryz.underlying0
 a0:=Tryz.isAgg0
 z0:=Tryz.sizeOf0
 v0:=Tryz.zeroValue0
 t3:=Tryz.underlying3
 a3:=Tryz.isAgg3
 z3:=Tryz.sizeOf3
 v3:=Tryz.zeroValue3
 t4:=Tryz.underlying4
 a4:=Tryz.isAgg4
 z4:=Tryz.sizeOf4
 v4:=Tryz.zeroValue4
 t5:=Tryz.underlying5
 a5:=Tryz.isAgg5
 z5:=Tryz.sizeOf5
 v5:=Tryz.zeroValue5
 t9:=Tryz.underlying9
 a9:=Tryz.isAgg9
 z9:=Tryz.sizeOf9
 v9:=Tryz.zeroValue9
 t12:=Tryz.underlying12
 a12:=Tryz.isAgg12
 z12:=Tryz.sizeOf12
 v12:=Tryz.zeroValue12
 t46:=Tryz.underlying233
 a46:=Tryz.isAgg233
 z46:=Tryz.sizeOf233
 v46:=Tryz.zeroValue233
 t53:=Tryz.underlying108
 a53:=Tryz.isAgg108
 z53:=Tryz.sizeOf108
 v53:=Tryz.zeroValue108
 t119:=Tryz.underlying269
 a119:=Tryz.isAgg269
 z119:=Tryz.sizeOf269
 t138:=Tryz.underlying271
 a138:=Tryz.isAgg271
 z138:=Tryz.sizeOf271
 v138:=Tryz.zeroValue271
 t139:=Tryz.underlying272
 a139:=Tryz.isAgg272
 z139:=Tryz.sizeOf272
 v139:=Tryz.zeroValue272
 g3:=by kernel_rfl
 g4:=by kernel_rfl}
def Ay(k:Nat):jd:=⟨true,1,[],fun|[⟨.str,s⟩],[⟨.bool,b⟩]=>utf8_ValidString k s=some b|_,_=>False⟩
theorem Rm(k:Nat):a8 Tryz.prog aq 122 (Ay k) where
 enters:=enters_of Tryz.func122 (by kernel_rfl) rfl
 shape:=fun xs au h=>by
  unfold Ay at h
  simp only at h
  split at h
  ·exact⟨rfl,fun _ u O=>by simp at O;subst O;rfl⟩
  ·exact h.elim
 calls:=fun w M vs xs au R X h o=>by
  unfold Ay at h
  simp only at h
  split at h
  case h_2=>exact h.elim
  rename_i s b
  match vs,o with
  |[v],⟨o,_⟩=>
   have q:v=.string ⟨s.toArray⟩/\s.length<=maxLen:=by
    have:=(show aJ w M .str [v] s from o)
    exact⟨by simpa using this.1,this.2⟩
   obtain⟨q,U⟩:=q
   subst q
   refine(Any.utf8_ValidString U2 ⟨s.toArray⟩ w U R.1).mono ?_
   rintro e w' ⟨rfl,W⟩
   cases h
   exact⟨_,rfl,rfl,Ext.tj W fun h=>h.elim⟩
noncomputable def HE(k:Nat):aX:=⟨[.str],[.bool],[],fun s=>utf8_ValidString k s⟩
noncomputable def MV(k:Nat):aL Tryz.prog aq:=⟨122,HE k,Mt (Rm k) (HE k) fun x y h=>h⟩
end Go.Ev
namespace Go.Ev
open Go Go.Proofs Go.Shelf Go.RowKit
variable [b8]
set_option maxRecDepth 100000
def T4:Go.Shelf.Ren:=⟨fun|4=>237|n=>n,fun|0=>0|3=>3|4=>4|9=>9|20=>20|22=>61|25=>21|n=>n,fun n=>n⟩
theorem Ju:Go.Proofs.Lays8.n4 Tryz.prog T4:={
 mixed:=by kernel_rfl
 f4:=⟨Tryz.f237.name,by decide,Tryz.func237.trans (congrArg some (by kernel_rfl))⟩
 t0:=Tryz.underlying0
 a0:=Tryz.isAgg0
 z0:=Tryz.sizeOf0
 v0:=Tryz.zeroValue0
 t3:=Tryz.underlying3
 a3:=Tryz.isAgg3
 z3:=Tryz.sizeOf3
 v3:=Tryz.zeroValue3
 t4:=Tryz.underlying4
 a4:=Tryz.isAgg4
 z4:=Tryz.sizeOf4
 v4:=Tryz.zeroValue4
 t9:=Tryz.underlying9
 a9:=Tryz.isAgg9
 z9:=Tryz.sizeOf9
 v9:=Tryz.zeroValue9
 t20:=Tryz.underlying20
 a20:=Tryz.isAgg20
 z20:=Tryz.sizeOf20
 v20:=Tryz.zeroValue20
 t22:=Tryz.underlying61
 a22:=Tryz.isAgg61
 z22:=Tryz.sizeOf61
 v22:=Tryz.zeroValue61}
theorem Wr:∃i0,Tryz.prog.info? 21=some i0/\∃z,i0.zero=some z/\i0.size=1/\i0.bytes=4/\z.cells.size=1:=by
 have h:(match Tryz.prog.info? 21 with
  |some i0=>(match i0.zero with
   |some z=>decide (i0.size=1)&&(decide (i0.bytes=4)&&decide (z.cells.size=1))
   |none=>false)
  |none=>false)=true:=by kernel_rfl
 split at h
 ·rename_i i0 hi
  split at h
  ·rename_i z o
   simp only[Bool.and_eq_true,decide_eq_true_eq]at h
   exact⟨i0,hi,z,o,h.1,h.2.1,h.2.2⟩
  ·cases h
 ·cases h
theorem Ua(n:Nat)(w:World)(W:n<=bC):Calls Tryz.prog 237 #[.slice none 0 0,.int .i64 n] w fun r w'=>Ext w w'/\(r=.returned (.slice none 0 0)\/
  ∃cap cur,r=.returned (.slice (some ⟨w.heap.size,0,none⟩) 0 cap)/\w'.heap[w.heap.size]? =some (.cells cur 21 (0,0))/\cap<=maxLen/\cur.size=cap*ag.cells (.int .i32)):=by
 have X:bC=2147483648:=rfl
 by_cases o:n=0
 ·subst o
  refine(Any8.slices_Grow_room Ju none 0 0 0 w (Nat.le_refl _) (by omega) (by omega) (Nat.le_refl _)).mono ?_
  rintro e w' ⟨rfl,rfl⟩
  exact⟨Ext.refl _,.inl rfl⟩
 ·obtain⟨i0,hi,z,q,Y,O,R⟩:=Wr
  refine(Any8.slices_Grow_grow Ju i0 z hi q (by omega) none 0 0 n [] w (Nat.le_refl _) (by omega) (by rw[O];omega) (by omega) (by simp) (fun _=>rfl) (fun a U=>by cases U)).mono ?_
  rintro e w' ⟨rfl,rfl⟩
  refine⟨Ext.tj ?_ fun _=>Nat.le_succ _,.inr ⟨_,#[]++Builtin.zeroCells z.cells (0+n-0)++Builtin.zeroCells z.cells (grownCap w (0+n) 0 21-(0+n)),rfl,?_,?_,?_⟩⟩
  ·exact(Below.refl _ w).drew.alloc (Nat.le_refl _) _
  ·exact heap_alloc_new w.drew _
  ·exact grownCap_le_maxLen w (0+n) 0 _ (by unfold maxLen;omega)
  ·have Z:=grownCap_ge w (0+n) 0 (21)
   simp only[Array.size_append,List.size_toArray,List.length_nil,size_zeroCells,R,ag.cells]
   show 0+(0+n-0)*1+(grownCap w (0+n) 0 21-(0+n))*1=grownCap w (0+n) 0 21*1
   omega
noncomputable def KJ:zM Tryz.prog:=⟨237,21,.int .i32,enters_of Tryz.func237 (by kernel_rfl) rfl,Ua⟩
end Go.Ev
namespace Go.Ev
open Go
set_option linter.unusedVariables false
def bw(s:List UInt8)(i:Nat):Nat:=(s.getD i 0).toNat
theorem nz(s:List UInt8)(i:Nat):bw s i<256:=UInt8.toNat_lt _
def g(s:List UInt8)(i:Nat):Nat×Nat:=Lib.decodeN (s.length-i) (bw s i) (bw s (i+1)) (bw s (i+2)) (bw s (i+3))
def bad(s:List UInt8)(i:Nat):Bool:=decide ((g s i).1=65533)&&decide ((g s i).2=1)
theorem xh(s:List UInt8)(i:Nat):Utf8.decode ⟨s.toArray⟩ i=g s i:=by
 rw[Lib.decode_at]
 have e:∀j,(ByteArray.get! ⟨s.toArray⟩ j).toNat=bw s j:=by
  intro j
  unfold bw ByteArray.get!
  show(s.toArray[j]!).toNat=_
  by_cases o:j<s.length
  ·simp[o]
  ·simp[o,List.getD_eq_getElem?_getD]
   rfl
 simp only[e]
 rfl
theorem jG(s:List UInt8)(i:Nat)(h:i<s.length):1<=(g s i).2/\i+(g s i).2<=s.length/\(g s i).2<=4:=by
 unfold g Lib.decodeN
 repeat' split
 all_goals simp only;omega
theorem MA(s:List UInt8)(p:Nat):gE s p=((g s p).1:Int):=by
 unfold gE
 show((Utf8.decode ⟨s.toArray⟩ p).1:Int)=_
 rw[xh]
theorem jl(s:List UInt8)(p:Nat):ji s p=(g s p).2:=by
 unfold ji
 show(Utf8.decode ⟨s.toArray⟩ p).2=_
 rw[xh]
theorem fL{x:Int}(h:-9223372036854775808<=x/\x<9223372036854775808):am x=x:=by
 unfold am IntKind.wrap
 simp[IntKind.bits,IntKind.signed]
 omega
theorem bB{n:Nat}(h:n<9223372036854775807):am ((n:Int)+1)=((n+1:Nat):Int):=by rw[fL (by omega)];omega
theorem jt{p:Prop}[Decidable p](h:p):bk p=some ():=by unfold bk;rw[if_pos h]
theorem Av{α:Type}{l:List α}{i:Nat}:aB l (i:Int)=l[i]? :=by
 unfold aB
 rw[if_pos (by omega),Int.toNat_natCast]
theorem fh{α:Type}{l:List α}{i:Nat}(h:i<l.length):aB l (i:Int)=some (l[i]'h):=by rw[Av,List.getElem?_eq_getElem h]
theorem BI{α:Type}{l:List α}{i:Int}(o:0<=i)(h:i<l.length):aB l i=some (l[i.toNat]'(by omega)):=by
 unfold aB
 rw[if_pos o,List.getElem?_eq_getElem]
theorem wm{s:List UInt8}{i:Nat}(h:i<s.length):ft s (i:Int)=some ((s[i]'h).toNat:Int):=by
 unfold ft
 rw[fh h]
theorem Cx{α:Type}{s:List α}{b:Nat}(h:b<=s.length):dz s 0 (b:Int)=some (s.take b):=by
 unfold dz
 rw[if_pos (by omega),Int.toNat_natCast]
 rfl
theorem k9{α:Type}{s:List α}{p:Nat}(h:p<=s.length):dz s (p:Int) (s.length:Int)=some (s.drop p):=by
 unfold dz
 rw[if_pos (by omega),Int.toNat_natCast,Int.toNat_natCast,List.take_length]
theorem Oj(x:List UInt8):fl (dB x)=x:=by
 unfold fl dB
 rw[List.map_map]
 have:((fun n:Int=>UInt8.ofNat n.toNat)∘fun b:UInt8=>(b.toNat:Int))=id:=by
  funext b
  simp
 rw[this,List.map_id]
theorem VB(a b:List UInt8):dB a++dB b=dB (a++b):=by simp[dB]
theorem vX(a:List UInt8):(dB a).length=a.length:=by simp[dB]
end Go.Ev
namespace Go.Ev
open Go
set_option linter.unusedVariables false
def cj{α:Type}(x:Option α):Prop:=∃v,x=some v
theorem cd{α:Type}(v:α):cj (some v):=⟨v,rfl⟩
theorem dp{α β:Type}{x:Option α}{f:α->Option β}(o:cj x)(q:∀v,x=some v->cj (f v)):cj (Option.bind x f):=by
 obtain⟨v,rfl⟩:=o
 exact q v rfl
theorem cL{α:Type}{c:Bool}{a b:Option α}(o:c=true->cj a)(q:c=false->cj b):cj (if c then a else b):=by
 cases c with
 |true=>rw[if_pos rfl];exact o rfl
 |false=>rw[if_neg (by simp)];exact q rfl
theorem gL{α:Type}{p:Prop}[Decidable p]{a b:Option α}(o:p->cj a)(q:¬p->cj b):cj (if decide p then a else b):=
 cL (fun h=>o (of_decide_eq_true h)) (fun h=>q (of_decide_eq_false h))
theorem tq{p:Prop}[Decidable p](h:p):cj (bk p):=⟨(),jt h⟩
theorem kP{α:Type}{l:List α}{i:Nat}(h:i<l.length):cj (aB l (i:Int)):=⟨_,fh h⟩
theorem Uv{α:Type}{l:List α}{i:Int}(o:0<=i)(h:i<l.length):cj (aB l i):=⟨_,BI o h⟩
theorem Ky{α β:Type}{L:Nat->Int->α->Option β}{len:Nat}(X:len<4611686018427387904)(q:Nat->α->Prop)
  (step:∀n i s,q i s->i<=len->(∀o,i<len->q (i+1) o->cj (L n (am ((i:Int)+1)) o))->cj (L (n+1) (i:Int) s)):∀n i s,i<=len->len-i<n->q i s->cj (L n (i:Int) s):=by
 intro n
 induction n with
 |zero=>intro i s _ h;omega
 |succ n O=>
  intro i s R Y U
  refine step n i s U R fun o Z W=>?_
  rw[bB (by omega)]
  exact O (i+1) o (by omega) (by omega) W
theorem ql{β:Type}{L:Nat->Int->Option β}{len:Nat}(O:len<4611686018427387904)
  (step:∀n i,i<=len->(i<len->cj (L n (am ((i:Int)+1))))->cj (L (n+1) (i:Int))):∀n i,i<=len->len-i<n->cj (L n (i:Int)):=by
 intro n
 induction n with
 |zero=>intro i _ h;omega
 |succ n o=>
  intro i q R
  refine step n i q fun U=>?_
  rw[bB (by omega)]
  exact o (i+1) (by omega) (by omega)
theorem Gd{bs:List Bool}(o:bs.length=256)(b:UInt8)(k:Nat):cj (pG k bs (b.toNat:Int)):=by
 unfold pG
 exact dp (kP (by rw[o];exact UInt8.toNat_lt b)) fun v _=>cd _
theorem S4{bs:List Bool}(o:bs.length=256):∀n (s:List UInt8),s.length<n->s.length<4611686018427387904->∃v,oN 80000 bs n s=some v/\v.length<=s.length:=by
 intro n
 induction n with
 |zero=>intro s h;omega
 |succ n q=>
  intro s h W
  unfold oN CV tX
  by_cases X:0<s.length
  ·rw[if_pos (by simp only[decide_eq_true_eq];omega),show am ((s.length:Int)-1)=((s.length-1:Nat):Int) by rw[fL (by omega)];omega,wm (by omega)]
   simp only[Option.bind_some]
   obtain⟨v,O⟩:=Gd o (s[s.length-1]'(by omega)) 80000
   rw[O]
   simp only[Option.bind_some]
   cases v with
   |false=>exact⟨s,rfl,Nat.le_refl _⟩
   |true=>
    rw[if_neg (by simp),Cx (by omega)]
    simp only[Option.bind_some]
    obtain⟨v,R,U⟩:=q (s.take (s.length-1)) (by rw[List.length_take];omega) (by rw[List.length_take];omega)
    exact⟨v,R,Nat.le_trans U (by rw[List.length_take];omega)⟩
  ·rw[if_neg (by simp only[decide_eq_true_eq];omega)]
   exact⟨s,rfl,Nat.le_refl _⟩
theorem Uj{bs:List Bool}(q:bs.length=256):∀n (s:List UInt8),s.length<n->cj (oD 80000 bs n s):=by
 intro n
 induction n with
 |zero=>intro s h;omega
 |succ n O=>
  intro s h
  unfold oD Fx uD
  by_cases o:0<s.length
  ·rw[if_pos (by simp only[decide_eq_true_eq];omega),show(0:Int)=((0:Nat):Int)from rfl,wm o]
   simp only[Option.bind_some]
   obtain⟨v,R⟩:=Gd q (s[0]'o) 80000
   rw[R]
   simp only[Option.bind_some]
   cases v with
   |false=>exact cd _
   |true=>
    rw[if_neg (by simp),show(1:Int)=((1:Nat):Int)from rfl,k9 (by omega)]
    simp only[Option.bind_some]
    exact O _ (by rw[List.length_drop];omega)
  ·rw[if_neg (by simp only[decide_eq_true_eq];omega)]
   exact cd _
theorem MD{cut:List UInt8}{bs:List Bool}(O:rK 80000 cut=some (bs,true))(o:bs.length=256)(q:cut.length≠1)(U:cut≠[]){s:List UInt8}(R:s.length<80000):cj (nP 80000 s cut):=by
 unfold nP FW
 refine cL (fun _=>cd _) fun _=>?_
 rw[if_neg (by simp only[beq_iff_eq];omega)]
 unfold s5
 rw[if_neg (by simp),O]
 simp only[Option.bind_some,if_true]
 unfold wz yi
 obtain⟨v,q,W⟩:=S4 o 80000 s R (by omega)
 rw[q]
 simp only[Option.bind_some]
 exact dp (Uj o 80000 v (by omega)) fun v _=>cd _
def ki:List UInt8:=[97,98,99,100,101,102,103,104,105,106,107,108,109,110,111,112,113,114,115,116,117,118,119,120,121,122]
def wq:List UInt8:=[97,98,99,100,101,102,103,104,105,106,107,108,109,110,111,112,113,114,115,116,117,118,119,120,121,122,48,49,50,51,52,53,54,55,56,57,45]
def mx(o:List UInt8):List Bool:=(List.range 256).map fun i=>o.contains (UInt8.ofNat i)
theorem IS(o:List UInt8):(mx o).length=256:=by simp[mx]
set_option maxRecDepth 100000 in
theorem Ig:rK 80000 ki=some (mx ki,true):=by decide+kernel
set_option maxRecDepth 100000 in
theorem O1:rK 80000 wq=some (mx wq,true):=by decide+kernel
theorem Nr(s:List UInt8):∃b,qk 80000 s=some b/\(b=true->s.length<=32):=by
 unfold qk
 by_cases h:s≠[]/\s.length<=32
 ·rw[show((!(s==([]:List UInt8)))&&decide ((s.length:Int)<=32))=true by simp[h.1];omega]
  unfold C8
  rw[if_pos rfl]
  obtain⟨v,q⟩:=MD Ig (IS _) (by simp[ki]) (by simp[ki]) (s:=s) (by omega)
  rw[show([97,98,99,100,101,102,103,104,105,106,107,108,109,110,111,112,113,114,115,116,117,118,119,120,121,122]:List UInt8)=ki from rfl,q]
  exact⟨_,rfl,fun _=>h.2⟩
 ·rw[show((!(s==([]:List UInt8)))&&decide ((s.length:Int)<=32))=false by
   rw[Bool.eq_false_iff]
   intro o
   simp only[Bool.and_eq_true,Bool.not_eq_true',beq_eq_false_iff_ne,ne_eq,decide_eq_true_eq]at o
   exact h ⟨o.1,by omega⟩]
  exact⟨false,rfl,fun o=>by cases o⟩
theorem KH(s:List UInt8):cj (yS 80000 s):=by
 unfold yS
 refine gL (fun h=>?_) fun _=>cd _
 refine dp (MD O1 (IS _) (by simp[wq]) (by simp[wq]) (by omega)) fun v _=>cd _
theorem Ti(k:Nat)(r:Int):cj (rB k r):=by
 unfold rB
 repeat' first
  |exact cd _
  |(refine cL (fun _=>?_) fun _=>?_)
  |(unfold ui)
  |(unfold pJ)
  |(unfold FM)
  |(unfold An)
  |(unfold o)
theorem zu(k:Nat)(a:List (List UInt8)×List dO×Unit)(p m:Int):cj (kD k a p m):=by
 unfold kD
 exact dp (tq (by omega)) fun _ _=>cd _
abbrev bj:Type:=List (List UInt8)×List dO×Unit
theorem Qs(a:bj)(h:a.2.1.length<=128):cj (kW 80000 a 80000 0 []):=by
 refine Ky (L:=kW 80000 a) (len:=a.2.1.length) (by omega) (fun _ _=>True) ?_ 80000 0 [] (Nat.zero_le _) (by omega) trivial
 intro n i m _ hi O
 unfold kW Fh
 refine gL (fun o=>?_) fun _=>cd _
 have o:i<a.2.1.length:=by omega
 refine dp (kP o) fun x _=>dp (Ti _ _) fun v _=>?_
 unfold Dh
 have q:∀t,cj (ru (kW 80000 a n) (i:Int) m x t):=fun t=>by
  unfold ru
  exact cL (fun _=>cd _) fun _=>O _ o trivial
 exact cL (fun _=>q _) fun _=>dp (zu _ _ _ _) fun _ _=>q _
theorem NL(a:bj)(lc:a.1.length<=24)(U:a.2.1.length<=128):∀n i m,i<=a.1.length->a.1.length-i<n->∃e,oP 80000 a n (i:Int) m=some e/\(e=0->∀x∈a.1.drop i,x.length<=32):=by
 intro n
 induction n with
 |zero=>intro i m _ h;omega
 |succ n W=>
  intro i m hi ld
  unfold oP EM
  by_cases q:i<a.1.length
  ·rw[if_pos (by simp only[decide_eq_true_eq];omega),fh q]
   simp only[Option.bind_some]
   obtain⟨b,X,Y⟩:=Nr (a.1[i]'q)
   rw[X]
   simp only[Option.bind_some]
   unfold Fi
   by_cases O:((!b)||((bS (aV .str) m (a.1[i]'q)).getD false))=true
   ·rw[if_pos O]
    exact⟨7,rfl,fun Z=>by cases Z⟩
   ·rw[if_neg O,bB (by omega)]
    obtain⟨e,R,la⟩:=W (i+1) (cl (aV .str) m (a.1[i]'q) true) (by omega) (by omega)
    refine⟨e,R,fun lb x o=>?_⟩
    rw[List.drop_eq_getElem_cons q]at o
    rcases List.mem_cons.1 o with rfl|o
    ·refine Y ?_
     cases b with
     |true=>rfl
     |false=>simp at O
    ·exact la lb x o
  ·rw[if_neg (by simp only[decide_eq_true_eq];omega)]
   obtain⟨e,R⟩:=Qs a U
   exact⟨e,R,fun _ x o=>by rw[List.drop_eq_nil_of_le (by omega)]at o;cases o⟩
theorem q0(a:bj):∃e,eP 80000 a=some e/\(e=0->a.1.length<=24/\a.2.1.length<=128/\∀x∈a.1,x.length<=32):=by
 unfold eP EB Eo
 by_cases o:((decide ((24:Int)<(a.1.length:Int))||decide ((a.2.1.length:Int)<1))||decide ((128:Int)<(a.2.1.length:Int)))=true
 ·rw[if_pos o]
  exact⟨7,rfl,fun q=>by cases q⟩
 ·rw[if_neg o]
  simp only[Bool.or_eq_true,decide_eq_true_eq]at o
  obtain⟨e,O,R⟩:=NL a (by omega) (by omega) 80000 0 [] (Nat.zero_le _) (by omega)
  exact⟨e,O,fun U=>⟨by omega,by omega,R U⟩⟩
theorem UY(l:List dO)(O:l.length<=128)(r:Int):∃v,zv 80000 l (r,())=some v/\v<(l.length:Int):=by
 unfold zv
 have:∀n i,i<=l.length->l.length-i<n->∃v,uj 80000 l (r,()) n (i:Int)=some v/\v<(l.length:Int):=by
  intro n
  induction n with
  |zero=>intro i _ h;omega
  |succ n o=>
   intro i R U
   unfold uj Mp FS
   by_cases q:i<l.length
   ·rw[if_pos (by simp only[decide_eq_true_eq];omega),fh q]
    simp only[Option.bind_some]
    split
    ·exact⟨_,rfl,by omega⟩
    ·rw[bB (by omega)]
     exact o (i+1) (by omega) (by omega)
   ·rw[if_neg (by simp only[decide_eq_true_eq];omega)]
    exact⟨-1,rfl,by omega⟩
 exact this 80000 0 (Nat.zero_le _) (by omega)
theorem sM(a:bj)(r:Int):cj (pB 80000 a r):=by
 unfold pB
 obtain⟨e,o,q⟩:=q0 (a.1,a.2.1,())
 rw[o]
 simp only[Option.bind_some]
 refine cL (fun _=>cd _) fun h=>?_
 have O:e=0:=by simpa using h
 obtain⟨_,R,_⟩:=q O
 obtain⟨v,U,W⟩:=UY a.2.1 R r
 rw[U]
 simp only[Option.bind_some]
 exact gL (fun _=>cd _) fun X=>dp (Uv (by omega) W) fun _ _=>cd _
theorem Eu(a:bj)(r:Int):cj (rU 80000 a r):=by
 unfold rU
 exact dp (sM _ _) fun _ _=>cd _
theorem Sw(a:bj)(p m:Int)(W:a.1.length<=24)(U:∀x∈a.1,x.length<=32):∀n i (o:List UInt8),i<=a.1.length->a.1.length-i<n->o.length<=33*i->cj (qe 80000 a p m n (i:Int) (dB o)):=by
 intro n
 induction n with
 |zero=>intro i o _ h;omega
 |succ n O=>
  intro i o hi X Y
  unfold qe KN
  refine gL (fun q=>?_) fun _=>?_
  ·have q:i<a.1.length:=by omega
   have Z:=U _ (List.getElem_mem q)
   rw[fh q]
   simp only[Option.bind_some]
   have R:∀(c:UInt8),cj (Option.bind (bk (([c]:List UInt8).length+(a.1[i]'q).length<=bC)) fun _=>Option.bind (pq 80000 (([c]:List UInt8)++(a.1[i]'q)) (dB o)) fun v3=>oE (qe 80000 a p m n) (i:Int) v3.2.2):=by
    intro c
    refine dp (tq (by unfold bC;simp;omega)) fun _ _=>?_
    unfold pq zn
    simp only[Option.bind_some]
    rw[jt (by unfold bC;rw[vX,vX];simp;omega)]
    simp only[Option.bind_some]
    unfold oE
    rw[VB,bB (by omega)]
    exact O (i+1) _ (by omega) (by omega) (by simp;omega)
   refine dp (tq (by omega)) fun _ _=>cL (fun _=>R 43) fun _=>dp (tq (by omega)) fun _ _=>cL (fun _=>R 45) fun _=>?_
   unfold oE
   rw[bB (by omega)]
   exact O (i+1) _ (by omega) (by omega) (by omega)
  ·unfold qN
   rw[Oj,if_pos rfl]
   exact cd _
theorem Fq(a:bj)(p m:Int):cj (tr 80000 a p m):=by
 unfold tr
 obtain⟨e,q,O⟩:=q0 (a.1,a.2.1,())
 rw[q]
 simp only[Option.bind_some]
 refine cL (fun _=>cd _) fun h=>?_
 have R:e=0:=by simpa using h
 obtain⟨o,_,U⟩:=O R
 exact dp (zu _ _ _ _) fun _ _=>cL (fun _=>cd _) fun _=>Sw a p m o U 80000 0 [] (Nat.zero_le _) (by have:a.1.length<=24:=o;omega) (by simp)
theorem Rx(a:bj)(p m:Int):cj (xV 80000 a p m):=by
 unfold xV
 exact dp (Fq _ _ _) fun _ _=>cd _
theorem tO(a:bj)(r p m:Int):cj (vH 80000 a r p m):=by
 unfold vH
 exact cL (fun _=>dp (Eu _ _) fun _ _=>cd _) fun _=>dp (Rx _ _ _) fun _ _=>cd _
theorem V5(a:bj)(s:Int×Int×Int×Int×Unit)(n:Int):cj (rg 80000 a s n):=by
 have o:∀t,cj (nN 80000 a s t):=fun t=>by
  unfold nN
  exact cL (fun _=>cd _) fun _=>dp (tO _ _ _ _) fun _ _=>cd _
 unfold rg Ee
 exact cL (fun _=>o _) fun _=>cL (fun _=>o _) fun _=>o _
end Go.Ev
namespace Go.Ev
open Go
set_option linter.unusedVariables false
theorem rx{α β:Type}{eq:α->α->Bool}(o:∀x y,eq x y=true↔x=y)(k k':α)(v:β):∀l:List (α×β),(k'=k->bS eq (cl eq l k v) k'=some v)/\(k'≠k->bS eq (cl eq l k v) k'=bS eq l k')
 |[]=>by
  simp only[cl,bS]
  exact⟨fun h=>if_pos ((o _ _).2 h),fun h=>if_neg (fun q=>h ((o _ _).1 q))⟩
 |p::l=>by
  obtain⟨i1,i2⟩:=rx o k k' v l
  simp only[cl]
  by_cases O:eq k p.1=true
  ·have ae:=(o _ _).1 O
   rw[if_pos O]
   simp only[bS]
   exact⟨fun h=>if_pos ((o _ _).2 h),fun h=>by rw[if_neg (fun q=>h ((o _ _).1 q)),if_neg (fun q=>h (((o _ _).1 q).trans ae.symm))]⟩
  ·rw[if_neg O]
   simp only[bS]
   by_cases R:eq k' p.1=true
   ·have U:=(o _ _).1 R
    simp only[if_pos R]
    exact⟨fun h=>absurd ((o _ _).2 (h.symm.trans U)) O,fun _=>trivial⟩
   ·simp only[if_neg R]
    exact⟨i1,i2⟩
theorem Qv(x y:List UInt8):aV .str x y=true↔x=y:=by
 show(x==y)=true↔_
 simp
theorem A9(x y:Int):aV (.int .i32) x y=true↔x=y:=by
 show(x==y)=true↔_
 simp
def wC(b:UInt8):Bool:=decide (97<=b.toNat)&&decide (b.toNat<=122)
def ne(s:List UInt8):Bool:=(decide (1<=s.length)&&decide (s.length<=32))&&s.all wC
theorem OR(b:UInt8):ki.contains b=wC b:=by
 have key:∀n:Fin 256,ki.contains (UInt8.ofNat n.1)=wC (UInt8.ofNat n.1):=by decide+kernel
 have:=key ⟨b.toNat,UInt8.toNat_lt b⟩
 simpa using this
theorem K1(o:List UInt8)(k:Nat)(b:UInt8):pG k (mx o) (b.toNat:Int)=some (o.contains b):=by
 unfold pG
 rw[Av]
 unfold mx
 rw[List.getElem?_map,List.getElem?_range (UInt8.toNat_lt b)]
 simp
theorem PS{s:List UInt8}(h:0<s.length):s=s.take (s.length-1)++[s[s.length-1]'(by omega)]:=by
 have:=List.take_succ_eq_append_getElem (l:=s) (i:=s.length-1) (by omega)
 rw[<-this,List.take_of_length_le (by omega)]
theorem Tt(o:List UInt8):∀n (s:List UInt8),s.length<n->s.length<4611686018427387904->oN 80000 (mx o) n s=some (s.reverse.dropWhile o.contains).reverse:=by
 intro n
 induction n with
 |zero=>intro s h;omega
 |succ n R=>
  intro s h W
  unfold oN CV tX
  by_cases U:0<s.length
  ·rw[if_pos (by simp only[decide_eq_true_eq];omega),show am ((s.length:Int)-1)=((s.length-1:Nat):Int) by rw[fL (by omega)];omega,wm (by omega)]
   simp only[Option.bind_some]
   rw[K1]
   simp only[Option.bind_some]
   have q:s.reverse=s[s.length-1]'(by omega)::(s.take (s.length-1)).reverse:=by
    conv=>lhs;rw[PS U]
    simp
   cases O:o.contains (s[s.length-1]'(by omega))with
   |false=>
    rw[if_pos (by rfl),q,List.dropWhile_cons,O,if_neg (by simp),<-q,List.reverse_reverse]
   |true=>
    rw[if_neg (by simp),Cx (by omega)]
    simp only[Option.bind_some]
    rw[R (s.take (s.length-1)) (by rw[List.length_take];omega) (by rw[List.length_take];omega),q,List.dropWhile_cons,O,if_pos rfl]
  ·rw[if_neg (by simp only[decide_eq_true_eq];omega)]
   have:s=[]:=List.length_eq_zero_iff.1 (by omega)
   subst this
   rfl
theorem Qq(o:List UInt8):∀n (s:List UInt8),s.length<n->oD 80000 (mx o) n s=some (s.dropWhile o.contains):=by
 intro n
 induction n with
 |zero=>intro s h;omega
 |succ n q=>
  intro s h
  unfold oD Fx uD
  cases s with
  |nil=>rfl
  |cons b r=>
   rw[if_pos (by simp only[decide_eq_true_eq,List.length_cons];omega),show(0:Int)=((0:Nat):Int)from rfl,wm (by simp)]
   simp only[Option.bind_some,List.getElem_cons_zero]
   rw[K1]
   simp only[Option.bind_some]
   rw[List.dropWhile_cons]
   cases O:o.contains b with
   |false=>rw[if_pos (by rfl),if_neg (by simp)]
   |true=>
    rw[if_neg (by simp),if_pos rfl,show(1:Int)=((1:Nat):Int)from rfl,k9 (by simp)]
    simp only[Option.bind_some]
    exact q r (by simpa using h)
theorem Cw{p:UInt8->Bool}{l:List UInt8}:l.dropWhile p=[]↔l.all p=true:=by
 induction l with
 |nil=>simp
 |cons a l o=>
  rw[List.dropWhile_cons,List.all_cons]
  cases h:p a with
  |true=>rw[if_pos rfl,o,Bool.true_and]
  |false=>simp
theorem QR{p:UInt8->Bool}{l:List UInt8}{a:UInt8}{r:List UInt8}(h:l.dropWhile p=a::r):p a=false:=by
 induction l with
 |nil=>cases h
 |cons b l o=>
  rw[List.dropWhile_cons]at h
  split at h
  ·exact o h
  ·rename_i q
   cases h
   simpa using q
theorem Ui{cut:List UInt8}(O:rK 80000 cut=some (mx cut,true))(X:cut.length≠1)(R:cut≠[]){s:List UInt8}(U:s.length<80000):∃v,nP 80000 s cut=some v/\(v==([]:List UInt8))=s.all cut.contains:=by
 unfold nP FW
 by_cases q:s=[]
 ·subst q
  rw[if_pos (by simp)]
  exact⟨[],rfl,rfl⟩
 ·rw[if_neg (by simp[q,R]),if_neg (by simp only[beq_iff_eq];omega)]
  unfold s5
  rw[if_neg (by simp),O]
  simp only[Option.bind_some,if_true]
  unfold wz yi
  rw[Tt cut 80000 s U (by omega)]
  simp only[Option.bind_some]
  have Y:((s.reverse.dropWhile cut.contains).reverse).length<=s.length:=by
   rw[List.length_reverse]
   exact Nat.le_trans (List.Sublist.length_le (List.dropWhile_sublist _)) (by rw[List.length_reverse];exact Nat.le_refl _)
  rw[Qq cut 80000 _ (by omega)]
  refine⟨_,rfl,?_⟩
  rw[Bool.eq_iff_iff,beq_iff_eq,Cw]
  constructor
  ·intro o
   cases ai:s.reverse.dropWhile cut.contains with
   |nil=>
    have:=Cw.1 ai
    rwa [List.all_reverse]at this
   |cons a r=>
    have W:=QR ai
    rw[ai,List.all_reverse,List.all_cons,W]at o
    cases o
  ·intro o
   have:s.reverse.dropWhile cut.contains=[]:=Cw.2 (by rw[List.all_reverse];exact o)
   rw[this]
   rfl
theorem Pe(s:List UInt8):qk 80000 s=some (ne s):=by
 unfold qk
 by_cases h:s≠[]/\s.length<=32
 ·rw[show((!(s==([]:List UInt8)))&&decide ((s.length:Int)<=32))=true by simp[h.1];omega]
  unfold C8
  rw[if_pos rfl]
  obtain⟨v,O,R⟩:=Ui Ig (by simp[ki]) (by simp[ki]) (s:=s) (by omega)
  rw[show([97,98,99,100,101,102,103,104,105,106,107,108,109,110,111,112,113,114,115,116,117,118,119,120,121,122]:List UInt8)=ki from rfl,O]
  simp only[Option.bind_some]
  unfold wn
  rw[R]
  have o:1<=s.length:=by
   cases s with
   |nil=>exact absurd rfl h.1
   |cons _ _=>simp
  unfold ne
  rw[decide_eq_true o,decide_eq_true h.2,Bool.and_true,Bool.true_and,show(ki.contains:UInt8->Bool)=wC from funext OR]
 ·rw[show((!(s==([]:List UInt8)))&&decide ((s.length:Int)<=32))=false by
   rw[Bool.eq_false_iff]
   intro q
   simp only[Bool.and_eq_true,Bool.not_eq_true',beq_eq_false_iff_ne,ne_eq,decide_eq_true_eq]at q
   exact h ⟨q.1,by omega⟩]
  show some false=_
  unfold ne
  by_cases o:s=[]
  ·subst o;rfl
  ·rw[decide_eq_false (show¬s.length<=32 from fun q=>h ⟨o,q⟩),Bool.and_false,Bool.false_and]
def me(r:Int):Bool:=((decide (97<=r)&&decide (r<=122))||(decide (65<=r)&&decide (r<=90)))||((decide (161<=r)&&decide (r<=1114111))&&(decide (r≠65533)&&(decide (r<55296)||decide (57343<r))))
theorem WN{α:Type}{x y:α}(h:x=y):some x=some y:=by rw[h]
theorem Xe(r:Int):(Int.fdiv r (2^min ((11:Int)).toNat 32)==(27:Int))=(decide (55296<=r)&&decide (r<=57343)):=by
 have e:(2:Int)^min ((11:Int)).toNat 32=2048:=by decide
 rw[e,Int.fdiv_eq_ediv_of_nonneg _ (by omega),Bool.eq_iff_iff]
 simp
 omega
theorem Q3(k:Nat)(r:Int):rB k r=some (me r):=by
 unfold rB FM An ui pJ me
 rw[Xe,jt (by decide)]
 simp only[Option.bind_some]
 have ae:decide (r<161)=!decide (161<=r):=by rw[Bool.eq_iff_iff];simp
 have o:decide (1114111<r)=!decide (r<=1114111):=by rw[Bool.eq_iff_iff];simp
 have q:decide (55296<=r)=!decide (r<55296):=by rw[Bool.eq_iff_iff];simp
 have e4:decide (r<=57343)=!decide (57343<r):=by rw[Bool.eq_iff_iff];simp
 rw[ae,o,q,e4]
 cases decide (97<=r)<;>cases decide (r<=122)<;>cases decide (65<=r)<;>cases decide (r<=90)<;>cases R:decide (161<=r)<;>cases U:decide (r<=1114111)<;>cases W:decide (r<55296)<;>cases X:decide (57343<r)<;>(by_cases O:r=65533<;>simp[O])
def IA(p m:Int):Nat:=BitVec.toNat (BitVec.ofInt 32 p|||BitVec.ofInt 32 m)
def mC(n:Nat)(p m:Int):Bool:=decide (IA p m<2^n)&&decide (BitVec.toNat (BitVec.ofInt 32 p&&&BitVec.ofInt 32 m)=0)
theorem FK{x:Int}(h:0<=x/\x<4294967296):dm x=x:=by
 unfold dm IntKind.wrap
 simp[IntKind.bits,IntKind.signed]
 omega
theorem Jd(x:BitVec 32):x.toNat<4294967296:=x.isLt
theorem UN(k:Nat)(a:bj)(p m:Int)(h:a.1.length<=24):kD k a p m=some (mC a.1.length p m):=by
 unfold kD I7
 rw[jt (by omega)]
 simp only[Option.bind_some]
 have W:=Jd (BitVec.ofInt 32 p|||BitVec.ofInt 32 m)
 have X:=Jd (BitVec.ofInt 32 p&&&BitVec.ofInt 32 m)
 rw[FK (by omega),FK (by omega)]
 refine WN ?_
 have e:(2:Int)^min ((a.1.length:Int)).toNat 32=((2^a.1.length:Nat):Int):=by
  rw[Int.toNat_natCast,Nat.min_eq_left (by omega)]
  simp
 have o:0<2^a.1.length:=Nat.two_pow_pos _
 rw[e]
 unfold mC IA
 rw[Int.fdiv_eq_ediv_of_nonneg _ (by omega),Bool.eq_iff_iff]
 simp only[Bool.and_eq_true,beq_iff_eq,decide_eq_true_eq]
 have O:((BitVec.toNat (BitVec.ofInt 32 p|||BitVec.ofInt 32 m):Int)/((2^a.1.length:Nat):Int))=((BitVec.toNat (BitVec.ofInt 32 p|||BitVec.ofInt 32 m)/2^a.1.length:Nat):Int):=rfl
 rw[O]
 constructor
 ·rintro⟨q,R⟩
  have U:BitVec.toNat (BitVec.ofInt 32 p|||BitVec.ofInt 32 m)/2^a.1.length=0:=by omega
  exact⟨(Nat.div_eq_zero_iff_lt o).1 U,by omega⟩
 ·rintro⟨q,R⟩
  exact⟨by rw[(Nat.div_eq_zero_iff_lt o).2 q];rfl,by omega⟩
def cv(a:bj):Bool:=((decide (a.1.length<=24)&&(decide (1<=a.2.1.length)&&decide (a.2.1.length<=128)))&&(a.1.all ne&&decide a.1.Nodup))&&((a.2.1.all fun l=>me l.1&&mC a.1.length l.2.1 l.2.2.1)&&decide (a.2.1.map (·.1)).Nodup)
def wE{β:Type}[DecidableEq β](x:β)(l:List β):Bool:=decide (x∈l)
theorem F1{β:Type}[DecidableEq β]{x:β}{l:List β}(h:x∈l):wE x l=true:=decide_eq_true h
theorem Dq{β:Type}[DecidableEq β]{x:β}{l:List β}(h:¬x∈l):wE x l=false:=decide_eq_false h
def iR{α β:Type}[DecidableEq β](key:α->β)(o:α->Bool):List α->List α->Bool
 |_,[]=>true
 |seen,x::xs=>(o x&&!wE (key x) (seen.map key))&&iR key o (seen++[x]) xs
theorem C9{α β:Type}[DecidableEq β](key:α->β)(q:α->Bool):∀(xs seen:List α),(seen.map key).Nodup->iR key q seen xs=(xs.all q&&decide ((seen++xs).map key).Nodup)
 |[],seen,h=>by simp[iR,h]
 |x::xs,seen,h=>by
  unfold iR
  by_cases o:key x∈seen.map key
  ·rw[F1 o]
   have:¬((seen++x::xs).map key).Nodup:=by
    intro O
    rw[List.map_append,List.nodup_append]at O
    exact O.2.2 _ o _ (by simp) rfl
   rw[decide_eq_false this]
   simp
  ·rw[Dq o]
   have U:((seen++[x]).map key).Nodup:=by
    rw[List.map_append,List.nodup_append]
    refine⟨h,by simp,fun a W b R=>?_⟩
    simp at R
    subst R
    exact fun e=>o (e▸W)
   rw[C9 key q xs (seen++[x]) U,List.append_assoc,List.all_cons]
   simp[Bool.and_assoc]
theorem SR{a:bj}(o:a.1.length<=24)(q:1<=a.2.1.length)(O:a.2.1.length<=128):cv a=(iR id ne [] a.1&&iR (·.1) (fun l=>me l.1&&mC a.1.length l.2.1 l.2.2.1) [] a.2.1):=by
 unfold cv
 rw[C9 id ne a.1 [] (by simp),C9 (·.1) _ a.2.1 [] (by simp),decide_eq_true o,decide_eq_true q,decide_eq_true O]
 simp
theorem Ix{a:bj}(h:¬(a.1.length<=24/\1<=a.2.1.length/\a.2.1.length<=128)):cv a=false:=by
 rw[Bool.eq_false_iff]
 intro o
 unfold cv at o
 simp only[Bool.and_eq_true,decide_eq_true_eq]at o
 exact h ⟨o.1.1.1,o.1.1.2.1,o.1.1.2.2⟩
theorem MH{α β:Type}[DecidableEq β](key:α->β)(o:α->Bool)(seen:List α)(x:α)(xs:List α):iR key o seen (x::xs)=((o x&&!wE (key x) (seen.map key))&&iR key o (seen++[x]) xs):=rfl
theorem HC{β:Type}{r x:β}(l:List β)[Decidable (r∈l++[x])](h:r=x):true=decide (r∈l++[x]):=by rw[decide_eq_true (by rw[h];simp)]
theorem Is{β:Type}{r x:β}(l:List β)[Decidable (r∈l)][Decidable (r∈l++[x])](h:r≠x):decide (r∈l)=decide (r∈l++[x]):=by
 rw[Bool.eq_iff_iff,decide_eq_true_eq,decide_eq_true_eq,List.mem_append,List.mem_singleton]
 exact⟨.inl,fun o=>o.resolve_right h⟩
theorem Rt(a:bj)(R:a.1.length<=24)(h:a.2.1.length<=128):∀n i (m:List (Int×Bool)),i<=a.2.1.length->a.2.1.length-i<n->(∀r:Int,(bS (aV (.int .i32)) m r).getD false=decide (r∈(a.2.1.take i).map fun l=>l.1))->
  kW 80000 a n (i:Int) m=some (if iR (·.1) (fun l=>me l.1&&mC a.1.length l.2.1 l.2.2.1) (a.2.1.take i) (a.2.1.drop i)then 0 else 7):=by
 intro n
 induction n with
 |zero=>intro i m _ h;omega
 |succ n U=>
  intro i m hi Z O
  unfold kW Fh
  by_cases o:i<a.2.1.length
  ·rw[if_pos (by simp only[decide_eq_true_eq];omega),fh o,List.drop_eq_getElem_cons o]
   simp only[Option.bind_some]
   rw[Q3,O]
   simp only[Option.bind_some]
   rw[MH]
   unfold Dh ru
   have step:kW 80000 a n (am ((i:Int)+1)) (cl (aV (.int .i32)) m (a.2.1[i]'o).1 true)=some (if iR (·.1) (fun l=>me l.1&&mC a.1.length l.2.1 l.2.2.1) (a.2.1.take i++[a.2.1[i]'o]) (a.2.1.drop (i+1))then 0 else 7):=by
    rw[bB (by omega),U (i+1) _ (by omega) (by omega),List.take_succ_eq_append_getElem o]
    intro r
    obtain⟨W,X⟩:=rx A9 (a.2.1[i]'o).1 r true m
    rw[List.take_succ_eq_append_getElem o,List.map_append]
    by_cases q:r=(a.2.1[i]'o).1
    ·exact(congrArg (fun aa:Option Bool=>aa.getD false) (W q)).trans (HC _ q)
    ·exact(congrArg (fun aa:Option Bool=>aa.getD false) (X q)).trans ((O r).trans (Is _ q))
   cases la:me (a.2.1[i]'o).1 with
   |false=>rfl
   |true=>
    by_cases ai:(a.2.1[i]'o).1∈(a.2.1.take i).map fun l=>l.1
    ·rw[decide_eq_true ai,F1 ai,if_pos (by simp)]
     simp
    ·rw[decide_eq_false ai,Dq ai,if_neg (by simp)]
     have Y:kD 80000 (a.1,a.2.1,()) (a.2.1[i]'o).2.1 (a.2.1[i]'o).2.2.1=_:=UN 80000 a _ _ R
     rw[Y]
     simp only[Option.bind_some]
     cases lb:mC a.1.length (a.2.1[i]'o).2.1 (a.2.1[i]'o).2.2.1 with
     |false=>rfl
     |true=>
      rw[if_neg (by simp),step]
      simp
  ·rw[if_neg (by simp only[decide_eq_true_eq];omega),List.drop_eq_nil_of_le (by omega)]
   rfl
theorem Uq(a:bj)(R:a.1.length<=24)(U:a.2.1.length<=128):∀n i (m:List bH),i<=a.1.length->a.1.length-i<n->(∀r:List UInt8,(bS (aV .str) m r).getD false=decide (r∈(a.1.take i).map id))->
  oP 80000 a n (i:Int) m=some (if iR id ne (a.1.take i) (a.1.drop i)&&iR (·.1) (fun l=>me l.1&&mC a.1.length l.2.1 l.2.2.1) [] a.2.1 then 0 else 7):=by
 intro n
 induction n with
 |zero=>intro i m _ h;omega
 |succ n W=>
  intro i m hi Z O
  unfold oP EM
  by_cases o:i<a.1.length
  ·rw[if_pos (by simp only[decide_eq_true_eq];omega),fh o,List.drop_eq_getElem_cons o]
   simp only[Option.bind_some]
   rw[Pe,O]
   simp only[Option.bind_some]
   rw[MH]
   unfold Fi
   cases la:ne (a.1[i]'o)with
   |false=>rfl
   |true=>
    by_cases ai:(a.1[i]'o)∈(a.1.take i).map id
    ·rw[decide_eq_true ai,F1 (show id (a.1[i]'o)∈(a.1.take i).map id from ai)]
     rfl
    ·rw[decide_eq_false ai,Dq (show¬id (a.1[i]'o)∈(a.1.take i).map id from ai),if_neg (by simp),bB (by omega),W (i+1) _ (by omega) (by omega),List.take_succ_eq_append_getElem o]
     ·simp
     ·intro r
      obtain⟨X,Y⟩:=rx Qv (a.1[i]'o) r true m
      rw[List.take_succ_eq_append_getElem o,List.map_append]
      by_cases q:r=a.1[i]'o
      ·exact(congrArg (fun aa:Option Bool=>aa.getD false) (X q)).trans (HC _ q)
      ·exact(congrArg (fun aa:Option Bool=>aa.getD false) (Y q)).trans ((O r).trans (Is _ q))
  ·rw[if_neg (by simp only[decide_eq_true_eq];omega),List.drop_eq_nil_of_le (by omega)]
   have:=Rt a R U 80000 0 [] (Nat.zero_le _) (by omega) (fun r=>by simp[bS])
   simp only[List.take_zero,List.drop_zero]at this
   refine Eq.trans this ?_
   simp[iR]
theorem kB(a:bj):eP 80000 a=some (if cv a then 0 else 7):=by
 unfold eP EB Eo
 by_cases o:a.1.length<=24/\1<=a.2.1.length/\a.2.1.length<=128
 ·rw[if_neg (by simp only[Bool.or_eq_true,decide_eq_true_eq];omega),SR o.1 o.2.1 o.2.2]
  have:=Uq a o.1 o.2.2 80000 0 [] (Nat.zero_le _) (by omega) (fun r=>by simp[bS])
  simp only[List.take_zero,List.drop_zero]at this
  exact this
 ·rw[if_pos (by simp only[Bool.or_eq_true,decide_eq_true_eq];omega),Ix o]
  rfl
end Go.Ev
