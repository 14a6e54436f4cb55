/- Shallow functions, by program. -/
import Derived.Test.YteopobecmacgdaaGreatDoorMM4
import Derived.Test.YteopobecmacgdaaGreatDoorMM6
import Derived.Test.YteopobecmacgdaaGreatDoorTyA
set_option linter.unusedSectionVars false
set_option linter.unusedVariables false
set_option linter.unusedSimpArgs false
namespace Go.Ev
open Go
set_option linter.unusedVariables false
def kS(k:Nat)(o:be)(q:List UInt8):Option Int:=
 Option.bind (jO k (o.1,o.2.1,()) q) fun v1=>
 some (v1.2)
def Cp(k:Nat)(q:be):Option dJ:=
 Option.bind (aB q.2.1 (0:Int)) fun o=>
 some ((([]:List UInt8),([(o.1,(0:Int),(0:Int),())]:List aH),([(o.1,(0:Int),(0:Int),(0:Int),())]:List bM),(([((7:Int),(0:Int),(0:Int),(0:Int),([]:List (Int)),())]:List aK),()),(([((7:Int),(0:Int),(0:Int),(0:Int),([]:List (Int)),())]:List aK),()),(1:Int),false,()))
def MR(k:Nat)(q:be)(v1:(Int×Int))(o:List (Int))(O:List UInt8)(R:(List UInt8)->(List (Int))->Option cD)(t1:Bool):Option cD:=
 if t1 then
  some (([]:List (Int)),(6:Int))
 else
  (
   Option.bind (rU k (q.1,q.2.1,()) v1.1) fun v2=>
   if !v2 then
    some (([]:List (Int)),(5:Int))
   else
    (
     if(List.length o:Int)==(256:Int)then
      some (([]:List (Int)),(4:Int))
     else
      (
       Option.bind (bk (List.length o+List.length ([v1.1]:List (Int))<=bC)) fun _=>
       Option.bind (dz O v1.2 (O.length:Int)) fun U=>
       R U (o++([v1.1]:List (Int)))
      )
    )
  )
def Lh(k:Nat)(O:be)(R:(List UInt8)->(List (Int))->Option cD)(o:List UInt8)(q:List (Int)):Option cD:=
 if !(o==([]:List UInt8))then
  (
   Option.bind (utf8_DecodeRuneInString k o) fun v1=>
   MR k O v1 q o R ((v1.1==(65533:Int))&&(v1.2==(1:Int)))
  )
 else
  some (q,(0:Int))
def ve(k:Nat)(o:be):Nat->(List UInt8)->(List (Int))->Option cD
 |0,_,_=>none
 |n+1,q,O=>Lh k o (ve k o n) q O
def zT(k:Nat)(o:be)(q:List UInt8):Option cD:=
 ve k o k q ([]:List (Int))
def Jh(t1:Bool):Option Bool:=
 some (t1)
def Be(k:Nat)(l1:dO)(o:Int)(q:Int):Option Bool:=
 Jh (((dm (BitVec.toNat (BitVec.ofInt 32 o&&&~~~BitVec.ofInt 32 l1.2.1)))==(0:Int))&&((dm (BitVec.toNat (BitVec.ofInt 32 q&&&~~~BitVec.ofInt 32 l1.2.2.1)))==(0:Int)))
def zU(o:Int->(List (Int))->Option cD)(t1:Int)(q:List (Int)):Option cD:=
 o (am (t1+(1:Int))) q
def GK(k:Nat)(O:be)(U:Int)(W:Int)(R:Int->(List (Int))->Option cD)(t1:Int)(q:List (Int)):Option cD:=
 if decide (t1<(List.length O.2.1:Int))then
  (
   Option.bind (aB O.2.1 t1) fun o=>
   Option.bind (Be k (o.1,o.2.1,o.2.2.1,()) U W) fun v3=>
   if v3 then
    (
     Option.bind (bk (List.length q+List.length ([o.1]:List (Int))<=bC)) fun _=>
     zU R t1 (q++([o.1]:List (Int)))
    )
   else
    zU R t1 q
  )
 else
  some (q,(0:Int))
def su(k:Nat)(o:be)(q:Int)(O:Int):Nat->Int->(List (Int))->Option cD
 |0,_,_=>none
 |n+1,t1,R=>GK k o q O (su k o q O n) t1 R
def oW(k:Nat)(o:be)(q:Int)(O:Int):Option cD:=
 Option.bind (eP k (o.1,o.2.1,())) fun v1=>
 if v1 !=(0:Int)then
  some (([]:List (Int)),v1)
 else
  (
   Option.bind (kD k (o.1,o.2.1,()) q O) fun v2=>
   if !v2 then
    some (([]:List (Int)),(20:Int))
   else
    su k o q O k (0:Int) ([]:List (Int))
  )
def HM(v1:cD)(m1:List bZ)(o:Int)(q:Int)(O:Int->iq->Option cq)(t1:Int)(m3:List (Int×Bool)):Option cq:=
 if decide (t1<(List.length v1.1:Int))then
  (
   Option.bind (aB v1.1 t1) fun R=>
   O (am (t1+(1:Int))) (cl (aV (.int .i32)) m3 R true)
  )
 else
  some (cl (aV bn) m1 ([o,q]:List (Int)) (some m3))
def sO(v1:cD)(m1:List bZ)(o:Int)(q:Int):Nat->Int->iq->Option cq
 |0,_,_=>none
 |n+1,t1,m3=>HM v1 m1 o q (sO v1 m1 o q n) t1 m3
def o0(k:Nat)(o:Int)(q:Int)(c1:List (List UInt8))(c2:List aH)(c3:List UInt8)(c4:List aH)(c5:List bM)(c6:List aK)(c7:List aK)(c8:Int)(c9:Bool)(m1:List bZ):Option cq:=
 Option.bind (oW k (c1,c2,()) o q) fun v1=>
 sO v1 m1 o q k (0:Int) ([]:List (Int×Bool))
def I4(k:Nat)(o:eN)(a4:List (List UInt8))(a5:List aH)(t10:List UInt8)(t11:List aH)(t12:List bM)(t13:List aK)(t14:List aK)(t15:Int)(t16:Bool)(bF:Int->bY->bi->cq->(List UInt8)->bi->cA->aQ->aQ->Int->Bool->xA->Option iv)(t9:Int)(t17:List qF)(O:Int->cq->Option iv)(t18:Int)(m4:List bZ):Option iv:=
 if decide (t18<(List.length o.1:Int))then
  (
   Option.bind (aB o.1 t18) fun q=>
   Option.bind (o0 k q.2.2.1 q.2.2.2.1 a4 a5 t10 t11 t12 t13 t14 t15 t16 m4) fun v2=>
   O (am (t18+(1:Int))) v2
  )
 else
  bF (am (t9+(1:Int))) a4 a5 m4 t10 t11 t12 t13 t14 t15 t16 t17
def tN(k:Nat)(o:eN)(a4:List (List UInt8))(a5:List aH)(t10:List UInt8)(t11:List aH)(t12:List bM)(t13:List aK)(t14:List aK)(t15:Int)(t16:Bool)(bF:Int->bY->bi->cq->(List UInt8)->bi->cA->aQ->aQ->Int->Bool->xA->Option iv)(t9:Int)(t17:List qF):Nat->Int->cq->Option iv
 |0,_,_=>none
 |n+1,t18,m4=>I4 k o a4 a5 t10 t11 t12 t13 t14 t15 t16 bF t9 t17 (tN k o a4 a5 t10 t11 t12 t13 t14 t15 t16 bF t9 t17 n) t18 m4
def HA(k:Nat)(o:dJ)(bF:Int->bY->bi->cq->(List UInt8)->bi->cA->aQ->aQ->Int->Bool->xA->Option iv)(t9:Int)(a4:List (List UInt8))(a5:List aH)(m3:List bZ)(t10:List UInt8)(t11:List aH)(t12:List bM)(t13:List aK)(t14:List aK)(t15:Int)(t16:Bool)(t17:List qF):Option iv:=
 if decide (t9<(List.length ([(o.2.2.2.1.1,()),(o.2.2.2.2.1.1,())]:List qF):Int))then
  (
   Option.bind (aB t17 t9) fun q=>
   tN k q a4 a5 t10 t11 t12 t13 t14 t15 t16 bF t9 t17 k (0:Int) m3
  )
 else
  some (a4,a5,m3,t10,t11,t12,t13,t14,t15,t16)
def sU(k:Nat)(o:dJ):Nat->Int->bY->bi->cq->(List UInt8)->bi->cA->aQ->aQ->Int->Bool->xA->Option iv
 |0,_,_,_,_,_,_,_,_,_,_,_,_=>none
 |n+1,t9,a4,a5,m3,t10,t11,t12,t13,t14,t15,t16,t17=>HA k o (sU k o n) t9 a4 a5 m3 t10 t11 t12 t13 t14 t15 t16 t17
def IW(k:Nat)(o:dJ)(q:be)(R:Int->cq->Option iv)(t8:Int)(m2:List bZ):Option iv:=
 if decide (t8<(List.length o.2.1:Int))then
  (
   Option.bind (aB o.2.1 t8) fun O=>
   Option.bind (o0 k O.2.1 O.2.2.1 q.1 q.2.1 o.1 o.2.1 o.2.2.1 o.2.2.2.1.1 o.2.2.2.2.1.1 o.2.2.2.2.2.1 o.2.2.2.2.2.2.1 m2) fun v1=>
   R (am (t8+(1:Int))) v1
  )
 else
  sU k o k (0:Int) q.1 q.2.1 m2 o.1 o.2.1 o.2.2.1 o.2.2.2.1.1 o.2.2.2.2.1.1 o.2.2.2.2.2.1 o.2.2.2.2.2.2.1 ([(o.2.2.2.1.1,()),(o.2.2.2.2.1.1,())]:List qF)
def uN(k:Nat)(o:dJ)(q:be):Nat->Int->cq->Option iv
 |0,_,_=>none
 |n+1,t8,m2=>IW k o q (uN k o q n) t8 m2
def mG(k:Nat)(o:be)(q:dJ):Option iv:=
 uN k q o k (0:Int) ([]:List bZ)
def ov(k:Nat)(o:Int)(q:Int)(O:Int)(R:Int)(c1:List UInt8)(c2:List aH)(c3:List bM)(c4:List aK)(c5:List aK)(c6:Int)(c7:Bool)(m1:List bZ)(c8:List (List UInt8))(c9:List aH):Option Bool:=
 if q !=(0:Int)then
  some (o==q)
 else
  some ((bS (aV (.int .i32)) (((bS (aV bn) m1 ([O,R]:List (Int))).getD (none:Option iq)).getD []) o).getD false)
def gA(t14:List aK)(t15:List (Int))(t16:List UInt8)(t17:List aH)(t18:List bM)(t19:List aK)(t20:List aK)(t21:Int)(t22:Bool)(m3:List bZ)(t23:List (List UInt8))(t24:List aH)(t25:List (Bool))(t26:List (Bool)):Option cg:=
 some (t14,t15,t16,t17,t18,t19,t20,t21,t22,m3,t23,t24,t25,t26)
def vg(t29:List (Bool))(t28:Int)(o:Int->(List (Bool))->Option cg)(t30:Bool):Option cg:=
 Option.bind (aB t29 (am (t28+(1:Int)))) fun q=>
 o (am (t28+(1:Int))) (List.set t29 (am (t28+(1:Int))).toNat t30)
def Fv(t29:List (Bool))(t28:Int)(o:Int->(List (Bool))->Option cg)(t31:Bool):Option cg:=
 vg t29 t28 o t31
def Jz(k:Nat)(c2:List (Int))(l1:List (Bool))(o:fU)(c3:List UInt8)(c4:List aH)(c5:List bM)(c6:List aK)(c7:List aK)(c8:Int)(c9:Bool)(m1:List bZ)(c10:List (List UInt8))(c11:List aH)(c1:List aK)(q:Int->(List (Bool))->Option cg)(t28:Int)(t29:List (Bool)):Option cg:=
 if decide (t28<(List.length c2:Int))then
  (
   Option.bind (aB c2 t28) fun O=>
   Option.bind (aB l1 t28) fun R=>
   if R then
    (
     if o.1==(4:Int)then
      Fv t29 t28 q true
     else
      (
       Option.bind (ov k O o.2.1 o.2.2.1 o.2.2.2.1 c3 c4 c5 c6 c7 c8 c9 m1 c10 c11) fun v1=>
       Fv t29 t28 q v1
      )
    )
   else
    vg t29 t28 q false
  )
 else
  gA c1 c2 c3 c4 c5 c6 c7 c8 c9 m1 c10 c11 t29 l1
def qK(k:Nat)(c2:List (Int))(l1:List (Bool))(o:fU)(c3:List UInt8)(c4:List aH)(c5:List bM)(c6:List aK)(c7:List aK)(c8:Int)(c9:Bool)(m1:List bZ)(c10:List (List UInt8))(c11:List aH)(c1:List aK):Nat->Int->(List (Bool))->Option cg
 |0,_,_=>none
 |n+1,t28,t29=>Jz k c2 l1 o c3 c4 c5 c6 c7 c8 c9 m1 c10 c11 c1 (qK k c2 l1 o c3 c4 c5 c6 c7 c8 c9 m1 c10 c11 c1 n) t28 t29
def IK(o:fU)(q:Int->aQ->(List (Int))->(List UInt8)->bi->cA->aQ->aQ->Int->Bool->cq->bY->bi->(List (Bool))->Option cg)(l1:List (Bool))(bF:Int->aQ->(List (Int))->(List UInt8)->bi->cA->aQ->aQ->Int->Bool->cq->bY->bi->(List (Bool))->Option cg)(t32:Int)(t33:List aK)(t34:List (Int))(t35:List UInt8)(t36:List aH)(t37:List bM)(t38:List aK)(t39:List aK)(t40:Int)(t41:Bool)(m4:List bZ)(t42:List (List UInt8))(t43:List aH)(t44:List (Bool)):Option cg:=
 if decide (t32<(List.length o.2.2.2.2.1:Int))then
  (
   Option.bind (aB o.2.2.2.2.1 t32) fun O=>
   Option.bind (q O t33 t34 t35 t36 t37 t38 t39 t40 t41 m4 t42 t43 t44) fun v2=>
   bF (am (t32+(1:Int))) v2.1 v2.2.1 v2.2.2.1 v2.2.2.2.1 v2.2.2.2.2.1 v2.2.2.2.2.2.1 v2.2.2.2.2.2.2.1 v2.2.2.2.2.2.2.2.1 v2.2.2.2.2.2.2.2.2.1 v2.2.2.2.2.2.2.2.2.2.1 v2.2.2.2.2.2.2.2.2.2.2.1 v2.2.2.2.2.2.2.2.2.2.2.2.1 v2.2.2.2.2.2.2.2.2.2.2.2.2.1
  )
 else
  gA t33 t34 t35 t36 t37 t38 t39 t40 t41 m4 t42 t43 t44 l1
def ta(o:fU)(q:Int->aQ->(List (Int))->(List UInt8)->bi->cA->aQ->aQ->Int->Bool->cq->bY->bi->(List (Bool))->Option cg)(l1:List (Bool)):Nat->Int->aQ->(List (Int))->(List UInt8)->bi->cA->aQ->aQ->Int->Bool->cq->bY->bi->(List (Bool))->Option cg
 |0,_,_,_,_,_,_,_,_,_,_,_,_,_,_=>none
 |n+1,t32,t33,t34,t35,t36,t37,t38,t39,t40,t41,m4,t42,t43,t44=>IK o q l1 (ta o q l1 n) t32 t33 t34 t35 t36 t37 t38 t39 t40 t41 m4 t42 t43 t44
def HV(t60:List (Bool))(t59:Int)(o:Int->(List (Bool))->Option cg)(t61:Bool):Option cg:=
 Option.bind (aB t60 t59) fun q=>
 o (am (t59+(1:Int))) (List.set t60 (t59).toNat t61)
def J9(v3:cg)(o:Int->aQ->(List (Int))->(List UInt8)->bi->cA->aQ->aQ->Int->Bool->cq->bY->bi->(List (Bool))->(List (Bool))->Option cg)(t45:Int)(q:Int->(List (Bool))->Option cg)(t59:Int)(t60:List (Bool)):Option cg:=
 if decide (t59<(List.length v3.2.2.2.2.2.2.2.2.2.2.2.2.1:Int))then
  (
   Option.bind (aB v3.2.2.2.2.2.2.2.2.2.2.2.2.1 t59) fun O=>
   Option.bind (aB t60 t59) fun R=>
   HV t60 t59 q (R||O)
  )
 else
  o (am (t45+(1:Int))) v3.1 v3.2.1 v3.2.2.1 v3.2.2.2.1 v3.2.2.2.2.1 v3.2.2.2.2.2.1 v3.2.2.2.2.2.2.1 v3.2.2.2.2.2.2.2.1 v3.2.2.2.2.2.2.2.2.1 v3.2.2.2.2.2.2.2.2.2.1 v3.2.2.2.2.2.2.2.2.2.2.1 v3.2.2.2.2.2.2.2.2.2.2.2.1 t60 v3.2.2.2.2.2.2.2.2.2.2.2.2.2
def vG(v3:cg)(o:Int->aQ->(List (Int))->(List UInt8)->bi->cA->aQ->aQ->Int->Bool->cq->bY->bi->(List (Bool))->(List (Bool))->Option cg)(t45:Int):Nat->Int->(List (Bool))->Option cg
 |0,_,_=>none
 |n+1,t59,t60=>J9 v3 o t45 (vG v3 o t45 n) t59 t60
def L1(k:Nat)(o:fU)(q:Int->aQ->(List (Int))->(List UInt8)->bi->cA->aQ->aQ->Int->Bool->cq->bY->bi->(List (Bool))->Option cg)(O:Int->aQ->(List (Int))->(List UInt8)->bi->cA->aQ->aQ->Int->Bool->cq->bY->bi->(List (Bool))->(List (Bool))->Option cg)(t45:Int)(t46:List aK)(t47:List (Int))(t48:List UInt8)(t49:List aH)(t50:List bM)(t51:List aK)(t52:List aK)(t53:Int)(t54:Bool)(m5:List bZ)(t55:List (List UInt8))(t56:List aH)(t57:List (Bool))(t58:List (Bool)):Option cg:=
 if decide (t45<(List.length o.2.2.2.2.1:Int))then
  (
   Option.bind (aB o.2.2.2.2.1 t45) fun R=>
   Option.bind (q R t46 t47 t48 t49 t50 t51 t52 t53 t54 m5 t55 t56 t58) fun v3=>
   vG v3 O t45 k (0:Int) t57
  )
 else
  gA t46 t47 t48 t49 t50 t51 t52 t53 t54 m5 t55 t56 t57 t58
def uO(k:Nat)(o:fU)(q:Int->aQ->(List (Int))->(List UInt8)->bi->cA->aQ->aQ->Int->Bool->cq->bY->bi->(List (Bool))->Option cg):Nat->Int->aQ->(List (Int))->(List UInt8)->bi->cA->aQ->aQ->Int->Bool->cq->bY->bi->(List (Bool))->(List (Bool))->Option cg
 |0,_,_,_,_,_,_,_,_,_,_,_,_,_,_,_=>none
 |n+1,t45,t46,t47,t48,t49,t50,t51,t52,t53,t54,m5,t55,t56,t57,t58=>L1 k o q (uO k o q n) t45 t46 t47 t48 t49 t50 t51 t52 t53 t54 m5 t55 t56 t57 t58
def KO(t63:List (Bool))(t62:Int)(o:Int->(List (Bool))->Option cg)(t64:Bool):Option cg:=
 Option.bind (aB t63 t62) fun q=>
 o (am (t62+(1:Int))) (List.set t63 (t62).toNat t64)
def Hp(v4:cg)(o:Int->(List (Bool))->Option cg)(t62:Int)(t63:List (Bool)):Option cg:=
 if decide (t62<(List.length v4.2.2.2.2.2.2.2.2.2.2.2.2.2:Int))then
  (
   Option.bind (aB v4.2.2.2.2.2.2.2.2.2.2.2.2.2 t62) fun q=>
   Option.bind (aB t63 t62) fun O=>
   KO t63 t62 o (O||q)
  )
 else
  gA v4.1 v4.2.1 v4.2.2.1 v4.2.2.2.1 v4.2.2.2.2.1 v4.2.2.2.2.2.1 v4.2.2.2.2.2.2.1 v4.2.2.2.2.2.2.2.1 v4.2.2.2.2.2.2.2.2.1 v4.2.2.2.2.2.2.2.2.2.1 v4.2.2.2.2.2.2.2.2.2.2.1 v4.2.2.2.2.2.2.2.2.2.2.2.1 t63 v4.2.2.2.2.2.2.2.2.2.2.2.2.2
def tw(v4:cg):Nat->Int->(List (Bool))->Option cg
 |0,_,_=>none
 |n+1,t62,t63=>Hp v4 (tw v4 n) t62 t63
def tH(o:Bool->Int->(List (Bool))->Option cg)(t78:Int)(q:Bool)(t80:List (Bool)):Option cg:=
 o q (am (t78+(1:Int))) t80
def o4(t79:List (Bool))(t78:Int)(o:Bool->Int->(List (Bool))->Option cg)(q:Bool)(t81:Bool):Option cg:=
 if t81 then
  (
   Option.bind (aB t79 t78) fun O=>
   tH o t78 true (List.set t79 (t78).toNat true)
  )
 else
  tH o t78 q t79
def IG(v5:cg)(t77:List (Bool))(O:Int->Int->Int->Int->(List (Int))->aQ->(List (Int))->(List UInt8)->bi->cA->aQ->aQ->Int->Bool->cq->bY->bi->(List (Bool))->(List (Bool))->Option cg)(R:Int)(U:Int)(n3:Int)(n4:Int)(W:List (Int))(q:Bool->Int->(List (Bool))->Option cg)(o:Bool)(t78:Int)(t79:List (Bool)):Option cg:=
 if decide (t78<(List.length v5.2.2.2.2.2.2.2.2.2.2.2.2.1:Int))then
  (
   Option.bind (aB v5.2.2.2.2.2.2.2.2.2.2.2.2.1 t78) fun X=>
   if X then
    (
     Option.bind (aB t79 t78) fun Y=>
     o4 t79 t78 q o (!Y)
    )
   else
    o4 t79 t78 q o false
  )
 else
  (
   if !o then
    gA v5.1 v5.2.1 v5.2.2.1 v5.2.2.2.1 v5.2.2.2.2.1 v5.2.2.2.2.2.1 v5.2.2.2.2.2.2.1 v5.2.2.2.2.2.2.2.1 v5.2.2.2.2.2.2.2.2.1 v5.2.2.2.2.2.2.2.2.2.1 v5.2.2.2.2.2.2.2.2.2.2.1 v5.2.2.2.2.2.2.2.2.2.2.2.1 t79 t77
   else
    O R U n3 n4 W v5.1 v5.2.1 v5.2.2.1 v5.2.2.2.1 v5.2.2.2.2.1 v5.2.2.2.2.2.1 v5.2.2.2.2.2.2.1 v5.2.2.2.2.2.2.2.1 v5.2.2.2.2.2.2.2.2.1 v5.2.2.2.2.2.2.2.2.2.1 v5.2.2.2.2.2.2.2.2.2.2.1 v5.2.2.2.2.2.2.2.2.2.2.2.1 t79 t77
  )
def qY(v5:cg)(t77:List (Bool))(o:Int->Int->Int->Int->(List (Int))->aQ->(List (Int))->(List UInt8)->bi->cA->aQ->aQ->Int->Bool->cq->bY->bi->(List (Bool))->(List (Bool))->Option cg)(q:Int)(O:Int)(n3:Int)(n4:Int)(R:List (Int)):Nat->Bool->Int->(List (Bool))->Option cg
 |0,_,_,_=>none
 |n+1,U,t78,t79=>IG v5 t77 o q O n3 n4 R (qY v5 t77 o q O n3 n4 R n) U t78 t79
def KR(k:Nat)(q:Int->aQ->(List (Int))->(List UInt8)->bi->cA->aQ->aQ->Int->Bool->cq->bY->bi->(List (Bool))->Option cg)(O:Int->Int->Int->Int->(List (Int))->aQ->(List (Int))->(List UInt8)->bi->cA->aQ->aQ->Int->Bool->cq->bY->bi->(List (Bool))->(List (Bool))->Option cg)(R:Int)(U:Int)(n3:Int)(n4:Int)(o:List (Int))(t65:List aK)(t66:List (Int))(t67:List UInt8)(t68:List aH)(t69:List bM)(t70:List aK)(t71:List aK)(t72:Int)(t73:Bool)(m6:List bZ)(t74:List (List UInt8))(t75:List aH)(t76:List (Bool))(t77:List (Bool)):Option cg:=
 Option.bind (aB o (0:Int)) fun W=>
 Option.bind (q W t65 t66 t67 t68 t69 t70 t71 t72 t73 m6 t74 t75 t76) fun v5=>
 qY v5 t77 O R U n3 n4 o k false (0:Int) v5.2.2.2.2.2.2.2.2.2.2.2.2.2
def sg(k:Nat)(o:Int->aQ->(List (Int))->(List UInt8)->bi->cA->aQ->aQ->Int->Bool->cq->bY->bi->(List (Bool))->Option cg):Nat->Int->Int->Int->Int->(List (Int))->aQ->(List (Int))->(List UInt8)->bi->cA->aQ->aQ->Int->Bool->cq->bY->bi->(List (Bool))->(List (Bool))->Option cg
 |0,_,_,_,_,_,_,_,_,_,_,_,_,_,_,_,_,_,_,_=>none
 |n+1,q,O,n3,n4,R,t65,t66,t67,t68,t69,t70,t71,t72,t73,m6,t74,t75,t76,t77=>KR k o (sg k o n) q O n3 n4 R t65 t66 t67 t68 t69 t70 t71 t72 t73 m6 t74 t75 t76 t77
def qc(k:Nat)(c2:List (Int))(l1:List (Bool))(o:fU)(c3:List UInt8)(c4:List aH)(c5:List bM)(c6:List aK)(c7:List aK)(c8:Int)(c9:Bool)(m1:List bZ)(c10:List (List UInt8))(c11:List aH)(c1:List aK)(q:Int->aQ->(List (Int))->(List UInt8)->bi->cA->aQ->aQ->Int->Bool->cq->bY->bi->(List (Bool))->Option cg)(t27:Bool):Option cg:=
 if t27 then
  qK k c2 l1 o c3 c4 c5 c6 c7 c8 c9 m1 c10 c11 c1 k (0:Int) (List.replicate (am ((List.length c2:Int)+(1:Int))).toNat false)
 else
  (
   if o.1==(5:Int)then
    (
     Option.bind (aB l1 (0:Int)) fun O=>
     Option.bind (aB (List.replicate (am ((List.length c2:Int)+(1:Int))).toNat false) (0:Int)) fun W=>
     Option.bind (aB l1 (List.length c2:Int)) fun R=>
     Option.bind (aB (List.set (List.replicate (am ((List.length c2:Int)+(1:Int))).toNat false) ((0:Int)).toNat O) (List.length c2:Int)) fun X=>
     gA c1 c2 c3 c4 c5 c6 c7 c8 c9 m1 c10 c11 (List.set (List.set (List.replicate (am ((List.length c2:Int)+(1:Int))).toNat false) ((0:Int)).toNat O) ((List.length c2:Int)).toNat R) l1
    )
   else
    (
     if o.1==(6:Int)then
      (
       Option.bind (bk (List.length l1<=List.length (List.replicate (am ((List.length c2:Int)+(1:Int))).toNat false))) fun _=>
       ta o q l1 k (0:Int) c1 c2 c3 c4 c5 c6 c7 c8 c9 m1 c10 c11 (l1++List.drop (List.length l1) (List.replicate (am ((List.length c2:Int)+(1:Int))).toNat false))
      )
     else
      (
       if o.1==(7:Int)then
        uO k o q k (0:Int) c1 c2 c3 c4 c5 c6 c7 c8 c9 m1 c10 c11 (List.replicate (am ((List.length c2:Int)+(1:Int))).toNat false) l1
       else
        (
         if o.1==(9:Int)then
          (
           Option.bind (aB o.2.2.2.2.1 (0:Int)) fun U=>
           Option.bind (q U c1 c2 c3 c4 c5 c6 c7 c8 c9 m1 c10 c11 l1) fun v4=>
           Option.bind (bk (List.length v4.2.2.2.2.2.2.2.2.2.2.2.2.1<=List.length (List.replicate (am ((List.length c2:Int)+(1:Int))).toNat false))) fun _=>
           tw v4 k (0:Int) (v4.2.2.2.2.2.2.2.2.2.2.2.2.1++List.drop (List.length v4.2.2.2.2.2.2.2.2.2.2.2.2.1) (List.replicate (am ((List.length c2:Int)+(1:Int))).toNat false))
          )
         else
          (
           if o.1==(8:Int)then
            (
             Option.bind (bk (List.length l1<=List.length (List.replicate (am ((List.length c2:Int)+(1:Int))).toNat false))) fun _=>
             sg k q k o.1 o.2.1 o.2.2.1 o.2.2.2.1 o.2.2.2.2.1 c1 c2 c3 c4 c5 c6 c7 c8 c9 m1 c10 c11 (l1++List.drop (List.length l1) (List.replicate (am ((List.length c2:Int)+(1:Int))).toNat false)) l1
            )
           else
            gA c1 c2 c3 c4 c5 c6 c7 c8 c9 m1 c10 c11 (List.replicate (am ((List.length c2:Int)+(1:Int))).toNat false) l1
          )
        )
      )
    )
  )
def hd:Nat->Int->aQ->(List (Int))->(List UInt8)->bi->cA->aQ->aQ->Int->Bool->cq->bY->bi->(List (Bool))->Option cg
 |0,_,_,_,_,_,_,_,_,_,_,_,_,_,_=>none
 |k+1,q,c1,c2,c3,c4,c5,c6,c7,c8,c9,m1,c10,c11,l1=>
  Option.bind (aB c1 q) fun o=>
  Option.bind (bk (0<=(am ((List.length c2:Int)+(1:Int)))/\(am ((List.length c2:Int)+(1:Int)))<=(am ((List.length c2:Int)+(1:Int)))/\(am ((List.length c2:Int)+(1:Int)))<=(bC:Int))) fun _=>
  if o.1==(1:Int)then
   (
    Option.bind (bk (List.length l1<=List.length (List.replicate (am ((List.length c2:Int)+(1:Int))).toNat false))) fun _=>
    gA c1 c2 c3 c4 c5 c6 c7 c8 c9 m1 c10 c11 (l1++List.drop (List.length l1) (List.replicate (am ((List.length c2:Int)+(1:Int))).toNat false)) l1
   )
  else
   (
    if o.1==(2:Int)then
     qc k c2 l1 o c3 c4 c5 c6 c7 c8 c9 m1 c10 c11 c1 (hd k) (o.1==(2:Int))
    else
     (
      if o.1==(3:Int)then
       qc k c2 l1 o c3 c4 c5 c6 c7 c8 c9 m1 c10 c11 c1 (hd k) (o.1==(3:Int))
      else
       qc k c2 l1 o c3 c4 c5 c6 c7 c8 c9 m1 c10 c11 c1 (hd k) (o.1==(4:Int))
     )
   )
def pz(k:Nat)(ar:eN)(l1:List (Int))(c1:List UInt8)(c2:List aH)(c3:List bM)(c4:List aK)(c5:List aK)(c6:Int)(c7:Bool)(m1:List bZ)(c8:List (List UInt8))(c9:List aH)(l2:List (Bool)):Option At:=
 Option.bind (hd k (0:Int) ar.1 l1 c1 c2 c3 c4 c5 c6 c7 m1 c8 c9 l2) fun v1=>
 some (v1.2.2.1,v1.2.2.2.1,v1.2.2.2.2.1,v1.2.2.2.2.2.1,v1.2.2.2.2.2.2.1,v1.2.2.2.2.2.2.2.1,v1.2.2.2.2.2.2.2.2.1,v1.2.2.2.2.2.2.2.2.2.1,v1.2.2.2.2.2.2.2.2.2.2.1,v1.2.2.2.2.2.2.2.2.2.2.2.1,v1.2.2.2.2.2.2.2.2.2.2.2.2.1,v1.2.2.2.2.2.2.2.2.2.2.2.2.2)
def GH(k:Nat)(l1:List (Int))(c4:List aK)(c1:List UInt8)(c2:List aH)(c3:List bM)(c5:List aK)(c6:Int)(c7:Bool)(m1:List bZ)(c8:List (List UInt8))(c9:List aH)(o:Int)(bF:Int->(List (Bool))->Option gC)(t11:Int)(t12:List (Bool)):Option gC:=
 if decide (t11<(List.length (List.replicate (am ((List.length l1:Int)+(1:Int))).toNat false):Int))then
  (
   Option.bind (aB t12 t11) fun O=>
   bF (am (t11+(1:Int))) (List.set t12 (t11).toNat true)
  )
 else
  (
   Option.bind (pz k (c4,()) l1 c1 c2 c3 c4 c5 c6 c7 m1 c8 c9 t12) fun v2=>
   Option.bind (aB v2.2.2.2.2.2.2.2.2.2.2.1 o) fun q=>
   if !q then
    some (false,v2.1,v2.2.1,v2.2.2.1,v2.2.2.2.1,v2.2.2.2.2.1,v2.2.2.2.2.2.1,v2.2.2.2.2.2.2.1,v2.2.2.2.2.2.2.2.1,v2.2.2.2.2.2.2.2.2.1,v2.2.2.2.2.2.2.2.2.2.1)
   else
    (
     Option.bind (aB (List.replicate (List.length v2.2.2.2.2.2.2.2.2.2.2.2) false) (am (o+(List.length c2:Int)))) fun R=>
     Option.bind (pz k (v2.2.2.2.2.1,()) l1 v2.1 v2.2.1 v2.2.2.1 v2.2.2.2.1 v2.2.2.2.2.1 v2.2.2.2.2.2.1 v2.2.2.2.2.2.2.1 v2.2.2.2.2.2.2.2.1 v2.2.2.2.2.2.2.2.2.1 v2.2.2.2.2.2.2.2.2.2.1 (List.set (List.replicate (List.length v2.2.2.2.2.2.2.2.2.2.2.2) false) (am (o+(List.length c2:Int))).toNat true)) fun v3=>
     Option.bind (pt k v3.2.2.2.2.2.2.2.2.2.2.1 true) fun v4=>
     some (v4,v3.1,v3.2.1,v3.2.2.1,v3.2.2.2.1,v3.2.2.2.2.1,v3.2.2.2.2.2.1,v3.2.2.2.2.2.2.1,v3.2.2.2.2.2.2.2.1,v3.2.2.2.2.2.2.2.2.1,v3.2.2.2.2.2.2.2.2.2.1)
    )
  )
def vj(k:Nat)(l1:List (Int))(c4:List aK)(c1:List UInt8)(c2:List aH)(c3:List bM)(c5:List aK)(c6:Int)(c7:Bool)(m1:List bZ)(c8:List (List UInt8))(c9:List aH)(o:Int):Nat->Int->(List (Bool))->Option gC
 |0,_,_=>none
 |n+1,t11,t12=>GH k l1 c4 c1 c2 c3 c5 c6 c7 m1 c8 c9 o (vj k l1 c4 c1 c2 c3 c5 c6 c7 m1 c8 c9 o n) t11 t12
def J7(k:Nat)(c2:List aH)(l1:List (Int))(q:Int)(c1:List UInt8)(c3:List bM)(c4:List aK)(c5:List aK)(c6:Int)(c7:Bool)(m1:List bZ)(c8:List (List UInt8))(c9:List aH)(O:Int->Option gC)(t10:Int):Option gC:=
 if decide (t10<(List.length c2:Int))then
  (
   Option.bind (aB c2 t10) fun o=>
   Option.bind (aB l1 (am (q+t10))) fun R=>
   Option.bind (ov k R o.1 o.2.1 o.2.2.1 c1 c2 c3 c4 c5 c6 c7 m1 c8 c9) fun v1=>
   if !v1 then
    some (false,c1,c2,c3,c4,c5,c6,c7,m1,c8,c9)
   else
    O (am (t10+(1:Int)))
  )
 else
  (
   Option.bind (bk (0<=(am ((List.length l1:Int)+(1:Int)))/\(am ((List.length l1:Int)+(1:Int)))<=(am ((List.length l1:Int)+(1:Int)))/\(am ((List.length l1:Int)+(1:Int)))<=(bC:Int))) fun _=>
   vj k l1 c4 c1 c2 c3 c5 c6 c7 m1 c8 c9 q k (0:Int) (List.replicate (am ((List.length l1:Int)+(1:Int))).toNat false)
  )
def vf(k:Nat)(c2:List aH)(l1:List (Int))(o:Int)(c1:List UInt8)(c3:List bM)(c4:List aK)(c5:List aK)(c6:Int)(c7:Bool)(m1:List bZ)(c8:List (List UInt8))(c9:List aH):Nat->Int->Option gC
 |0,_=>none
 |n+1,t10=>J7 k c2 l1 o c1 c3 c4 c5 c6 c7 m1 c8 c9 (vf k c2 l1 o c1 c3 c4 c5 c6 c7 m1 c8 c9 n) t10
def nJ(k:Nat)(l1:List (Int))(o:Int)(c1:List UInt8)(c2:List aH)(c3:List bM)(c4:List aK)(c5:List aK)(c6:Int)(c7:Bool)(m1:List bZ)(c8:List (List UInt8))(c9:List aH):Option gC:=
 if decide ((List.length l1:Int)<(am (o+(List.length c2:Int))))then
  some (false,c1,c2,c3,c4,c5,c6,c7,m1,c8,c9)
 else
  vf k c2 l1 o c1 c3 c4 c5 c6 c7 m1 c8 c9 k (0:Int)
def xU(o:Int->bY->bi->(List UInt8)->bi->cA->aQ->aQ->Int->Bool->cq->(List jX)->Option ra)(t1:Int)(t11:List (List UInt8))(t12:List aH)(t13:List UInt8)(t14:List aH)(t15:List bM)(t16:List aK)(t17:List aK)(t18:Int)(t19:Bool)(m2:List bZ)(q:List jX):Option ra:=
 o (am (t1+(1:Int))) t11 t12 t13 t14 t15 t16 t17 t18 t19 m2 q
def Ip(k:Nat)(v2:cD)(q:dJ)(O:Int->bY->bi->(List UInt8)->bi->cA->aQ->aQ->Int->Bool->cq->(List jX)->Option ra)(t1:Int)(t2:List (List UInt8))(t3:List aH)(t4:List UInt8)(t5:List aH)(t6:List bM)(t7:List aK)(t8:List aK)(t9:Int)(t10:Bool)(m1:List bZ)(o:List jX):Option ra:=
 if decide (t1<(am ((List.length v2.1:Int)+(1:Int))))then
  (
   Option.bind (nJ k v2.1 t1 t4 t5 t6 t7 t8 t9 t10 m1 t2 t3) fun v4=>
   if v4.1 then
    (
     Option.bind (bk (List.length o+List.length ([(t1,am (t1+(List.length q.2.1:Int)),())]:List jX)<=bC)) fun _=>
     xU O t1 v4.2.2.2.2.2.2.2.2.2.1 v4.2.2.2.2.2.2.2.2.2.2 v4.2.1 v4.2.2.1 v4.2.2.2.1 v4.2.2.2.2.1 v4.2.2.2.2.2.1 v4.2.2.2.2.2.2.1 v4.2.2.2.2.2.2.2.1 v4.2.2.2.2.2.2.2.2.1 (o++([(t1,am (t1+(List.length q.2.1:Int)),())]:List jX))
    )
   else
    xU O t1 v4.2.2.2.2.2.2.2.2.2.1 v4.2.2.2.2.2.2.2.2.2.2 v4.2.1 v4.2.2.1 v4.2.2.2.1 v4.2.2.2.2.1 v4.2.2.2.2.2.1 v4.2.2.2.2.2.2.1 v4.2.2.2.2.2.2.2.1 v4.2.2.2.2.2.2.2.2.1 o
  )
 else
  some (o,(0:Int))
def sS(k:Nat)(v2:cD)(o:dJ):Nat->Int->bY->bi->(List UInt8)->bi->cA->aQ->aQ->Int->Bool->cq->(List jX)->Option ra
 |0,_,_,_,_,_,_,_,_,_,_,_,_=>none
 |n+1,t1,t2,t3,t4,t5,t6,t7,t8,t9,t10,m1,q=>Ip k v2 o (sS k v2 o n) t1 t2 t3 t4 t5 t6 t7 t8 t9 t10 m1 q
def xp(k:Nat)(q:be)(o:dJ)(O:List UInt8):Option ra:=
 Option.bind (nY k (q.1,q.2.1,()) (o.1,o.2.1,o.2.2.1,(o.2.2.2.1.1,()),(o.2.2.2.2.1.1,()),o.2.2.2.2.2.1,o.2.2.2.2.2.2.1,())) fun v1=>
 if v1 !=(0:Int)then
  some (([]:List jX),v1)
 else
  (
   Option.bind (zT k (q.1,q.2.1,()) O) fun v2=>
   if v2.2 !=(0:Int)then
    some (([]:List jX),v2.2)
   else
    (
     Option.bind (mG k (q.1,q.2.1,()) (o.1,o.2.1,o.2.2.1,(o.2.2.2.1.1,()),(o.2.2.2.2.1.1,()),o.2.2.2.2.2.1,o.2.2.2.2.2.2.1,())) fun v3=>
     sS k v2 o k (0:Int) v3.1 v3.2.1 v3.2.2.2.1 v3.2.2.2.2.1 v3.2.2.2.2.2.1 v3.2.2.2.2.2.2.1 v3.2.2.2.2.2.2.2.1 v3.2.2.2.2.2.2.2.2.1 v3.2.2.2.2.2.2.2.2.2 v3.2.2.1 ([]:List jX)
    )
  )
def zZ(k:Nat)(o:be)(q:List UInt8):Option Int:=
 Option.bind (Cp k (o.1,o.2.1,())) fun v1=>
 Option.bind (xp k (o.1,o.2.1,()) v1 q) fun v2=>
 some (v2.2)
def rn(k:Nat)(o:be)(q:List UInt8)(l1:List gl):Option Int:=
 Option.bind (uS k (o.1,o.2.1,()) l1) fun v1=>
 if v1 !=(0:Int)then
  some (v1)
 else
  (
   Option.bind (zZ k (o.1,o.2.1,()) q) fun v2=>
   some (v2)
  )
def Lw(k:Nat)(q:be)(v1:(Int×Int))(o:List (Int))(O:List UInt8)(R:(List UInt8)->(List (Int))->Option (Int×List (Int)))(t2:Bool):Option (Int×List (Int)):=
 if t2 then
  some ((6:Int),([]:List (Int)))
 else
  (
   Option.bind (rU k (q.1,q.2.1,()) v1.1) fun v2=>
   if !v2 then
    some ((5:Int),([]:List (Int)))
   else
    (
     if(List.length o:Int)==(256:Int)then
      some ((4:Int),([]:List (Int)))
     else
      (
       Option.bind (bk (List.length o+List.length ([v1.1]:List (Int))<=bC)) fun _=>
       Option.bind (dz O v1.2 (O.length:Int)) fun U=>
       R U (o++([v1.1]:List (Int)))
      )
    )
  )
def M3(k:Nat)(O:be)(R:(List UInt8)->(List (Int))->Option (Int×List (Int)))(o:List UInt8)(q:List (Int)):Option (Int×List (Int)):=
 if !(o==([]:List UInt8))then
  (
   Option.bind (utf8_DecodeRuneInString k o) fun v1=>
   Lw k O v1 q o R ((v1.1==(65533:Int))&&(v1.2==(1:Int)))
  )
 else
  some ((0:Int),q)
def u5(k:Nat)(o:be):Nat->(List UInt8)->(List (Int))->Option (Int×List (Int))
 |0,_,_=>none
 |n+1,q,O=>M3 k o (u5 k o n) q O
def qG(k:Nat)(o:be)(q:List UInt8):Option (Int×List (Int)):=
 u5 k o k q ([]:List (Int))
def tz(o:Int->(List UInt8)->bi->cA->aQ->aQ->Int->Bool->cq->bY->bi->(List (Bool))->Option ib)(i2:Int)(t21:List UInt8)(t22:List aH)(t23:List bM)(t24:List aK)(t25:List aK)(t26:Int)(t27:Bool)(m4:List bZ)(t28:List (List UInt8))(t29:List aH)(t30:List (Bool)):Option ib:=
 o (am (i2+(1:Int))) t21 t22 t23 t24 t25 t26 t27 m4 t28 t29 t30
def Jg(k:Nat)(l1:List (Int))(o:Int->(List UInt8)->bi->cA->aQ->aQ->Int->Bool->cq->bY->bi->(List (Bool))->Option ib)(i1:Int)(t11:List UInt8)(t12:List aH)(t13:List bM)(t14:List aK)(t15:List aK)(t16:Int)(t17:Bool)(m3:List bZ)(t18:List (List UInt8))(t19:List aH)(t20:List (Bool)):Option ib:=
 if decide (i1<=(List.length l1:Int))then
  (
   Option.bind (nJ k l1 i1 t11 t12 t13 t14 t15 t16 t17 m3 t18 t19) fun v1=>
   if v1.1 then
    (
     Option.bind (aB t20 i1) fun q=>
     tz o (am (i1+(pi (0:Int) (am ((List.length v1.2.2.1:Int)-(1:Int)))))) v1.2.1 v1.2.2.1 v1.2.2.2.1 v1.2.2.2.2.1 v1.2.2.2.2.2.1 v1.2.2.2.2.2.2.1 v1.2.2.2.2.2.2.2.1 v1.2.2.2.2.2.2.2.2.1 v1.2.2.2.2.2.2.2.2.2.1 v1.2.2.2.2.2.2.2.2.2.2 (List.set t20 (i1).toNat true)
    )
   else
    tz o i1 v1.2.1 v1.2.2.1 v1.2.2.2.1 v1.2.2.2.2.1 v1.2.2.2.2.2.1 v1.2.2.2.2.2.2.1 v1.2.2.2.2.2.2.2.1 v1.2.2.2.2.2.2.2.2.1 v1.2.2.2.2.2.2.2.2.2.1 v1.2.2.2.2.2.2.2.2.2.2 t20
  )
 else
  some (t11,t12,t13,t14,t15,t16,t17,m3,t18,t19,t20)
def qb(k:Nat)(l1:List (Int)):Nat->Int->(List UInt8)->bi->cA->aQ->aQ->Int->Bool->cq->bY->bi->(List (Bool))->Option ib
 |0,_,_,_,_,_,_,_,_,_,_,_,_=>none
 |n+1,i1,t11,t12,t13,t14,t15,t16,t17,m3,t18,t19,t20=>Jg k l1 (qb k l1 n) i1 t11 t12 t13 t14 t15 t16 t17 m3 t18 t19 t20
def vh(k:Nat)(l1:List (Int))(c1:List UInt8)(c2:List aH)(c3:List bM)(c4:List aK)(c5:List aK)(c6:Int)(c7:Bool)(m1:List bZ)(c8:List (List UInt8))(c9:List aH):Option ib:=
 Option.bind (bk (0<=(am ((List.length l1:Int)+(1:Int)))/\(am ((List.length l1:Int)+(1:Int)))<=(am ((List.length l1:Int)+(1:Int)))/\(am ((List.length l1:Int)+(1:Int)))<=(bC:Int))) fun _=>
 qb k l1 k (0:Int) c1 c2 c3 c4 c5 c6 c7 m1 c8 c9 (List.replicate (am ((List.length l1:Int)+(1:Int))).toNat false)
def Ft(q:List UInt8)(R:Int->Nat->Option Int)(O:Int)(o:Nat):Option Int:=
 if decide (o<List.length q)then
  R (am (O+(1:Int))) (o+ji q o)
 else
  some (O)
def o5(o:List UInt8):Nat->Int->Nat->Option Int
 |0,_,_=>none
 |n+1,q,O=>Ft o (o5 o n) q O
def uu(k:Nat)(o:List UInt8):Option Int:=
 o5 o k (0:Int) 0
def jV(k:Nat)(o:List UInt8):Option Int:=
 uu (k+List.length o) o
def Bd(k:Nat)(O:List UInt8)(o:Int)(t1:List (Bool)):Option Bool:=
 Option.bind (aB t1 o) fun q=>
 some (q)
def EV(k:Nat)(o:dO)(q:dO)(t1:dO):Option Int:=
 Option.bind (uw k (o.1,o.2.1,o.2.2.1,()) t1) fun v1=>
 Option.bind (uw k (q.1,q.2.1,q.2.2.1,()) t1) fun v2=>
 some (am (v1-v2))
def zC(o:Int->Int->Int->Int->Option dO)(i1:Int)(m4:Int)(m5:Int)(m6:Int):Option dO:=
 o (am (i1+(1:Int))) m4 m5 m6
def I8(k:Nat)(q:List aH)(R:(dO×Unit))(O:Int->Int->Int->Int->Option dO)(i1:Int)(m1:Int)(m2:Int)(m3:Int):Option dO:=
 if decide (i1<(List.length q:Int))then
  (
   Option.bind (aB q i1) fun o=>
   Option.bind (EV k o (m1,m2,m3,()) R.1) fun v1=>
   if decide (v1<(0:Int))then
    zC O i1 o.1 o.2.1 o.2.2.1
   else
    zC O i1 m1 m2 m3
  )
 else
  some ((m1,m2,m3,()))
def uX(k:Nat)(o:List aH)(q:(dO×Unit)):Nat->Int->Int->Int->Int->Option dO
 |0,_,_,_,_=>none
 |n+1,i1,m1,m2,m3=>I8 k o q (uX k o q n) i1 m1 m2 m3
def E6(k:Nat)(o:List aH)(O:(dO×Unit)):Option dO:=
 if decide ((List.length o:Int)<(1:Int))then
  none
 else
  (
   Option.bind (aB o (0:Int)) fun q=>
   uX k o O k (1:Int) q.1 q.2.1 q.2.2.1
  )
def uY(k:Nat)(o:be)(R:Int)(q:Int)(O:Int):Option (Int×Int):=
 Option.bind (pB k (o.1,o.2.1,()) R) fun v1=>
 if v1.2 !=(0:Int)then
  some ((0:Int),v1.2)
 else
  (
   Option.bind (kD k (o.1,o.2.1,()) q O) fun v2=>
   if !v2 then
    some ((0:Int),(20:Int))
   else
    (
     Option.bind (E6 k o.2.1 ((v1.1.1,dm (BitVec.toNat (BitVec.ofInt 32 (dm (BitVec.toNat (BitVec.ofInt 32 v1.1.2.1&&&~~~BitVec.ofInt 32 O)))|||BitVec.ofInt 32 q)),dm (BitVec.toNat (BitVec.ofInt 32 (dm (BitVec.toNat (BitVec.ofInt 32 v1.1.2.2.1&&&~~~BitVec.ofInt 32 q)))|||BitVec.ofInt 32 O)),()),())) fun v3=>
     some (v3.1,(0:Int))
    )
  )
def FA(k:Nat)(q:Int)(o:nB)(t1:be):Option Int:=
 Option.bind (uY k t1 q o.2.2.1 o.2.2.2.1) fun v1=>
 some (v1.1)
def yL(o:Int->(List (Int))->Option (List (Int)))(t1:Int)(q:List (Int)):Option (List (Int)):=
 o (am (t1+(1:Int))) q
def JC(k:Nat)(c3:List bM)(R:List (Int))(c8:List (List UInt8))(c9:List aH)(O:Int->(List (Int))->Option (List (Int)))(t1:Int)(q:List (Int)):Option (List (Int)):=
 if decide (t1<(List.length c3:Int))then
  (
   Option.bind (aB c3 t1) fun o=>
   if o.1 !=(0:Int)then
    (
     Option.bind (bk (List.length q+List.length ([o.1]:List (Int))<=bC)) fun _=>
     yL O t1 (q++([o.1]:List (Int)))
    )
   else
    (
     Option.bind (aB R o.2.1) fun U=>
     Option.bind (FA k U (o.1,o.2.1,o.2.2.1,o.2.2.2.1,()) (c8,c9,())) fun v1=>
     Option.bind (bk (List.length q+List.length ([v1]:List (Int))<=bC)) fun _=>
     yL O t1 (q++([v1]:List (Int)))
    )
  )
 else
  some q
def uC(k:Nat)(c3:List bM)(o:List (Int))(c8:List (List UInt8))(c9:List aH):Nat->Int->(List (Int))->Option (List (Int))
 |0,_,_=>none
 |n+1,t1,q=>JC k c3 o c8 c9 (uC k c3 o c8 c9 n) t1 q
def pv(k:Nat)(o:List (Int))(c1:List UInt8)(c2:List aH)(c3:List bM)(c4:List aK)(c5:List aK)(c6:Int)(c7:Bool)(m1:List bZ)(c8:List (List UInt8))(c9:List aH):Option (List (Int)):=
 uC k c3 o c8 c9 k (0:Int) ([]:List (Int))
def qh(t12:Int)(o:List eL)(q:eH->bT->bT->Option cb)(ar:bH)(O:List UInt8):Option cb:=
 Option.bind (bk (0<=(am (t12+(1:Int)))/\(am (t12+(1:Int)))<(List.length o:Int))) fun _=>
 Option.bind (gm o (am (t12+(1:Int)))) fun U=>
 Option.bind (iB o (am (t12+(1:Int)))) fun R=>
 q (List.set o (am (t12+(1:Int))).toNat (some (some (cl (aV .str) R O true)))) ([]:List bH) [ar]
def ud(t12:Int)(l1:List (Int))(ar:bH)(o:List eL)(q:eH->bT->bT->Option cb)(t23:Bool):Option cb:=
 if t23 then
  (
   if decide (t12<(List.length l1:Int))then
    (
     Option.bind (aB l1 t12) fun O=>
     Option.bind (bk (List.length ar.1+List.length ((Utf8.encode O).data.toList)<=bC)) fun _=>
     qh t12 o q ar (ar.1++((Utf8.encode O).data.toList))
    )
   else
    qh t12 o q ar ar.1
  )
 else
  q o ([]:List bH) [ar]
def pF(t12:Int)(l1:List (Int))(ar:bH)(o:eH->bT->bT->Option cb)(v3:Bool)(q:Bool)(O:List eL):Option cb:=
 ud t12 l1 ar O o ((!v3)||q)
def qD(q:List eL)(t12:Int)(l1:List (Int))(ar:bH)(O:eH->bT->bT->Option cb)(v3:Bool)(R:Bool)(U:List UInt8)(o:Int):Option cb:=
 Option.bind (bk (0<=o/\o<(List.length q:Int))) fun _=>
 Option.bind (gm q o) fun X=>
 Option.bind (iB q o) fun W=>
 pF t12 l1 ar O v3 R (List.set q (o).toNat (some (some (cl (aV .str) W U true))))
def qd(o:List eL)(t12:Int)(l1:List (Int))(ar:bH)(q:eH->bT->bT->Option cb)(v3:Bool)(O:Bool)(v1:ib)(R:List UInt8):Option cb:=
 qD o t12 l1 ar q v3 O R (am ((am (t12+(List.length v1.2.1:Int)))+(1:Int)))
def tS(k:Nat)(bF:Int->eH->(List UInt8)->bi->cA->aQ->aQ->Int->Bool->cq->bY->bi->(List (Bool))->Option cb)(t12:Int)(t13:List UInt8)(t14:List aH)(t15:List bM)(t16:List aK)(t17:List aK)(t18:Int)(t19:Bool)(m3:List bZ)(t20:List (List UInt8))(t21:List aH)(t22:List (Bool))(l1:List (Int))(v1:ib)(q:Bool)(O:eH->bT->bT->Option cb)(o:List eL)(U:List bH)(X:List bH):Option cb:=
 mX U (
  bF (am (t12+(1:Int))) o t13 t14 t15 t16 t17 t18 t19 m3 t20 t21 t22
 ) fun ar=>
 Option.bind (jV k ar.1) fun v2=>
 if decide ((256:Int)<(am ((am (v2+(List.length l1:Int)))-t12)))then
  some ((9:Int),t13,t14,t15,t16,t17,t18,t19,m3,t20,t21,([]:List (List UInt8)))
 else
  (
   Option.bind (Bd k ar.1 t12 t22) fun v3=>
   if v3 then
    (
     Option.bind (dz l1 t12 (am (t12+(List.length v1.2.1:Int)))) fun W=>
     Option.bind (pv k W t13 t14 t15 t16 t17 t18 t19 m3 t20 t21) fun v4=>
     Option.bind (bk (List.length (cz v4)<=bC)) fun _=>
     Option.bind (bk (List.length ar.1+List.length (cz v4)<=bC)) fun _=>
     if(List.length v1.2.1:Int)==(0:Int)then
      (
       if decide (t12<(List.length l1:Int))then
        (
         Option.bind (aB l1 t12) fun R=>
         Option.bind (bk (List.length (ar.1++(cz v4))+List.length ((Utf8.encode R).data.toList)<=bC)) fun _=>
         qd o t12 l1 ar O v3 q v1 ((ar.1++(cz v4))++((Utf8.encode R).data.toList))
        )
       else
        qd o t12 l1 ar O v3 q v1 (ar.1++(cz v4))
      )
     else
      qD o t12 l1 ar O v3 q (ar.1++(cz v4)) (am (t12+(List.length v1.2.1:Int)))
    )
   else
    pF t12 l1 ar O v3 q o
  )
def gz(k:Nat)(bF:Int->eH->(List UInt8)->bi->cA->aQ->aQ->Int->Bool->cq->bY->bi->(List (Bool))->Option cb)(t12:Int)(t13:List UInt8)(t14:List aH)(t15:List bM)(t16:List aK)(t17:List aK)(t18:Int)(t19:Bool)(m3:List bZ)(t20:List (List UInt8))(t21:List aH)(t22:List (Bool))(l1:List (Int))(v1:ib)(o:Bool):Nat->eH->bT->bT->Option cb
 |0,_,_,_=>none
 |n+1,q,O,R=>tS k bF t12 t13 t14 t15 t16 t17 t18 t19 m3 t20 t21 t22 l1 v1 o (gz k bF t12 t13 t14 t15 t16 t17 t18 t19 m3 t20 t21 t22 l1 v1 o n) q O R
def sJ(k:Nat)(t13:List UInt8)(t14:List aH)(t15:List bM)(t16:List aK)(t17:List aK)(t18:Int)(t19:Bool)(m3:List bZ)(t20:List (List UInt8))(t21:List aH)(O:bT->bT->bY->Option cb)(R:List bH)(gX:List bH)(q:List (List UInt8)):Option cb:=
 mX R (
  some ((0:Int),t13,t14,t15,t16,t17,t18,t19,m3,t20,t21,q)
 ) fun o=>
 Option.bind (jV k o.1) fun v5=>
 if decide ((256:Int)<v5)then
  some ((9:Int),t13,t14,t15,t16,t17,t18,t19,m3,t20,t21,([]:List (List UInt8)))
 else
  (
   Option.bind (bk (List.length q+List.length ([o.1]:List (List UInt8))<=bC)) fun _=>
   O ([]:List bH) [o] (q++([o.1]:List (List UInt8)))
  )
def pP(k:Nat)(t13:List UInt8)(t14:List aH)(t15:List bM)(t16:List aK)(t17:List aK)(t18:Int)(t19:Bool)(m3:List bZ)(t20:List (List UInt8))(t21:List aH):Nat->bT->bT->bY->Option cb
 |0,_,_,_=>none
 |n+1,o,gX,q=>sJ k t13 t14 t15 t16 t17 t18 t19 m3 t20 t21 (pP k t13 t14 t15 t16 t17 t18 t19 m3 t20 t21 n) o gX q
def vQ(k:Nat)(l1:List (Int))(v1:ib)(R:Bool)(bF:Int->eH->(List UInt8)->bi->cA->aQ->aQ->Int->Bool->cq->bY->bi->(List (Bool))->Option cb)(t12:Int)(o:List eL)(t13:List UInt8)(t14:List aH)(t15:List bM)(t16:List aK)(t17:List aK)(t18:Int)(t19:Bool)(m3:List bZ)(t20:List (List UInt8))(t21:List aH)(t22:List (Bool)):Option cb:=
 if decide (t12<(am ((List.length l1:Int)+(1:Int))))then
  (
   Option.bind (bk (0<=t12/\t12<(List.length o:Int))) fun _=>
   Option.bind (gm o t12) fun q=>
   if decide ((1024:Int)<(List.length (Option.getD q []):Int))then
    some ((9:Int),t13,t14,t15,t16,t17,t18,t19,m3,t20,t21,([]:List (List UInt8)))
   else
    (
     Option.bind (bk (0<=t12/\t12<(List.length o:Int))) fun _=>
     gz k bF t12 t13 t14 t15 t16 t17 t18 t19 m3 t20 t21 t22 l1 v1 R k (List.set o (t12).toNat none) (q.getD []) ([]:List bH)
    )
  )
 else
  (
   Option.bind (bk (0<=(am ((List.length l1:Int)+(1:Int)))/\(am ((List.length l1:Int)+(1:Int)))<(List.length o:Int))) fun _=>
   Option.bind (gm o (am ((List.length l1:Int)+(1:Int)))) fun O=>
   if decide ((1024:Int)<(List.length (O.getD []):Int))then
    some ((9:Int),t13,t14,t15,t16,t17,t18,t19,m3,t20,t21,([]:List (List UInt8)))
   else
    pP k t13 t14 t15 t16 t17 t18 t19 m3 t20 t21 k (O.getD []) ([]:List bH) ([]:List (List UInt8))
  )
def io(k:Nat)(l1:List (Int))(v1:ib)(o:Bool):Nat->Int->eH->(List UInt8)->bi->cA->aQ->aQ->Int->Bool->cq->bY->bi->(List (Bool))->Option cb
 |0,_,_,_,_,_,_,_,_,_,_,_,_,_=>none
 |n+1,t12,q,t13,t14,t15,t16,t17,t18,t19,m3,t20,t21,t22=>vQ k l1 v1 o (io k l1 v1 o n) t12 q t13 t14 t15 t16 t17 t18 t19 m3 t20 t21 t22
def xQ(k:Nat)(l1:List (Int))(v1:ib)(q:Bool)(O:Int->eH->Option cb)(t11:Int)(o:List eL):Option cb:=
 if decide (t11<(List.length (List.map some (List.replicate (am ((List.length l1:Int)+(2:Int))).toNat (none:Option bT))):Int))then
  (
   Option.bind (bk (0<=t11/\t11<(List.length o:Int))) fun _=>
   Option.bind (bk (0<=t11/\t11<(List.length o:Int))) fun _=>
   O (am (t11+(1:Int))) (List.set o (t11).toNat (some (some ([]:List bH))))
  )
 else
  (
   Option.bind (bk (0<=(0:Int)/\(0:Int)<(List.length o:Int))) fun _=>
   Option.bind (gm o (0:Int)) fun U=>
   Option.bind (iB o (0:Int)) fun R=>
   io k l1 v1 q k (0:Int) (List.set o ((0:Int)).toNat (some (some (cl (aV .str) R ([]:List UInt8) true)))) v1.1 v1.2.1 v1.2.2.1 v1.2.2.2.1 v1.2.2.2.2.1 v1.2.2.2.2.2.1 v1.2.2.2.2.2.2.1 v1.2.2.2.2.2.2.2.1 v1.2.2.2.2.2.2.2.2.1 v1.2.2.2.2.2.2.2.2.2.1 v1.2.2.2.2.2.2.2.2.2.2
  )
def rj(k:Nat)(l1:List (Int))(v1:ib)(o:Bool):Nat->Int->eH->Option cb
 |0,_,_=>none
 |n+1,t11,q=>xQ k l1 v1 o (rj k l1 v1 o n) t11 q
def pj(k:Nat)(l1:List (Int))(o:Bool)(c1:List UInt8)(c2:List aH)(c3:List bM)(c4:List aK)(c5:List aK)(c6:Int)(c7:Bool)(m1:List bZ)(c8:List (List UInt8))(c9:List aH):Option cb:=
 Option.bind (vh k l1 c1 c2 c3 c4 c5 c6 c7 m1 c8 c9) fun v1=>
 Option.bind (bk (0<(am ((List.length l1:Int)+(2:Int))))) fun _=>
 Option.bind (bk (0<=(am ((List.length l1:Int)+(2:Int)))/\(am ((List.length l1:Int)+(2:Int)))<=(am ((List.length l1:Int)+(2:Int)))/\(am ((List.length l1:Int)+(2:Int)))<=(bC:Int))) fun _=>
 rj k l1 v1 o k (0:Int) (List.map some (List.replicate (am ((List.length l1:Int)+(2:Int))).toNat (none:Option bT)))
def tn(k:Nat)(l1:List (Int))(c1:List UInt8)(c2:List aH)(c3:List bM)(c4:List aK)(c5:List aK)(c6:Int)(c7:Bool)(m1:List bZ)(c8:List (List UInt8))(c9:List aH):Option (List (Int)):=
 some l1
def pU(k:Nat)(o:List UInt8)(O:Int)(c1:List UInt8)(c2:List aH)(c3:List bM)(c4:List aK)(c5:List aK)(c6:Int)(c7:Bool)(m1:List bZ)(c8:List (List UInt8))(c9:List aH)(c10:List (Int)):Option gC:=
 Option.bind (dz c10 O (c10.length:Int)) fun q=>
 Option.bind (bk (List.length (dS o)+List.length q<=bC)) fun _=>
 Option.bind (nJ k ((dS o)++q) (List.length (dS o):Int) c1 c2 c3 c4 c5 c6 c7 m1 c8 c9) fun v1=>
 some (v1.1,v1.2.1,v1.2.2.1,v1.2.2.2.1,v1.2.2.2.2.1,v1.2.2.2.2.2.1,v1.2.2.2.2.2.2.1,v1.2.2.2.2.2.2.2.1,v1.2.2.2.2.2.2.2.2.1,v1.2.2.2.2.2.2.2.2.2.1,v1.2.2.2.2.2.2.2.2.2.2)
def qy(t12:Int)(o:List eL)(q:eH->bT->bT->(List UInt8)->bi->cA->aQ->aQ->Int->Bool->cq->bY->bi->Option cb)(ar:bH)(v3:gC)(O:List UInt8):Option cb:=
 Option.bind (bk (0<=(am (t12+(1:Int)))/\(am (t12+(1:Int)))<(List.length o:Int))) fun _=>
 Option.bind (gm o (am (t12+(1:Int)))) fun U=>
 Option.bind (iB o (am (t12+(1:Int)))) fun R=>
 q (List.set o (am (t12+(1:Int))).toNat (some (some (cl (aV .str) R O true)))) ([]:List bH) [ar] v3.2.1 v3.2.2.1 v3.2.2.2.1 v3.2.2.2.2.1 v3.2.2.2.2.2.1 v3.2.2.2.2.2.2.1 v3.2.2.2.2.2.2.2.1 v3.2.2.2.2.2.2.2.2.1 v3.2.2.2.2.2.2.2.2.2.1 v3.2.2.2.2.2.2.2.2.2.2
def uV(t12:Int)(l1:List (Int))(ar:bH)(o:List eL)(q:eH->bT->bT->(List UInt8)->bi->cA->aQ->aQ->Int->Bool->cq->bY->bi->Option cb)(v3:gC)(t32:Bool):Option cb:=
 if t32 then
  (
   if decide (t12<(List.length l1:Int))then
    (
     Option.bind (aB l1 t12) fun O=>
     Option.bind (bk (List.length ar.1+List.length ((Utf8.encode O).data.toList)<=bC)) fun _=>
     qy t12 o q ar v3 (ar.1++((Utf8.encode O).data.toList))
    )
   else
    qy t12 o q ar v3 ar.1
  )
 else
  q o ([]:List bH) [ar] v3.2.1 v3.2.2.1 v3.2.2.2.1 v3.2.2.2.2.1 v3.2.2.2.2.2.1 v3.2.2.2.2.2.2.1 v3.2.2.2.2.2.2.2.1 v3.2.2.2.2.2.2.2.2.1 v3.2.2.2.2.2.2.2.2.2.1 v3.2.2.2.2.2.2.2.2.2.2
def pA(t12:Int)(l1:List (Int))(ar:bH)(o:eH->bT->bT->(List UInt8)->bi->cA->aQ->aQ->Int->Bool->cq->bY->bi->Option cb)(v3:gC)(q:Bool)(O:List eL):Option cb:=
 uV t12 l1 ar O o v3 ((!v3.1)||q)
def qz(q:List eL)(t12:Int)(l1:List (Int))(ar:bH)(O:eH->bT->bT->(List UInt8)->bi->cA->aQ->aQ->Int->Bool->cq->bY->bi->Option cb)(v3:gC)(R:Bool)(U:List UInt8)(o:Int):Option cb:=
 Option.bind (bk (0<=o/\o<(List.length q:Int))) fun _=>
 Option.bind (gm q o) fun X=>
 Option.bind (iB q o) fun W=>
 pA t12 l1 ar O v3 R (List.set q (o).toNat (some (some (cl (aV .str) W U true))))
def qB(o:List eL)(t12:Int)(l1:List (Int))(ar:bH)(q:eH->bT->bT->(List UInt8)->bi->cA->aQ->aQ->Int->Bool->cq->bY->bi->Option cb)(v3:gC)(O:Bool)(c2:List aH)(R:List UInt8):Option cb:=
 qz o t12 l1 ar q v3 O R (am ((am (t12+(List.length c2:Int)))+(1:Int)))
def vw(k:Nat)(bF:Int->eH->(List (Int))->(List UInt8)->bi->cA->aQ->aQ->Int->Bool->cq->bY->bi->Option cb)(t12:Int)(t13:List (Int))(l1:List (Int))(c2:List aH)(q:Bool)(O:eH->bT->bT->(List UInt8)->bi->cA->aQ->aQ->Int->Bool->cq->bY->bi->Option cb)(o:List eL)(U:List bH)(X:List bH)(t23:List UInt8)(t24:List aH)(t25:List bM)(t26:List aK)(t27:List aK)(t28:Int)(t29:Bool)(m4:List bZ)(t30:List (List UInt8))(t31:List aH):Option cb:=
 mX U (
  bF (am (t12+(1:Int))) o t13 t23 t24 t25 t26 t27 t28 t29 m4 t30 t31
 ) fun ar=>
 Option.bind (jV k ar.1) fun v2=>
 if decide ((256:Int)<(am ((am (v2+(List.length l1:Int)))-t12)))then
  some ((9:Int),t23,t24,t25,t26,t27,t28,t29,m4,t30,t31,([]:List (List UInt8)))
 else
  (
   Option.bind (pU k ar.1 t12 t23 t24 t25 t26 t27 t28 t29 m4 t30 t31 t13) fun v3=>
   if v3.1 then
    (
     Option.bind (dz l1 t12 (am (t12+(List.length c2:Int)))) fun W=>
     Option.bind (pv k W v3.2.1 v3.2.2.1 v3.2.2.2.1 v3.2.2.2.2.1 v3.2.2.2.2.2.1 v3.2.2.2.2.2.2.1 v3.2.2.2.2.2.2.2.1 v3.2.2.2.2.2.2.2.2.1 v3.2.2.2.2.2.2.2.2.2.1 v3.2.2.2.2.2.2.2.2.2.2) fun v4=>
     Option.bind (bk (List.length (cz v4)<=bC)) fun _=>
     Option.bind (bk (List.length ar.1+List.length (cz v4)<=bC)) fun _=>
     if(List.length c2:Int)==(0:Int)then
      (
       if decide (t12<(List.length l1:Int))then
        (
         Option.bind (aB l1 t12) fun R=>
         Option.bind (bk (List.length (ar.1++(cz v4))+List.length ((Utf8.encode R).data.toList)<=bC)) fun _=>
         qB o t12 l1 ar O v3 q c2 ((ar.1++(cz v4))++((Utf8.encode R).data.toList))
        )
       else
        qB o t12 l1 ar O v3 q c2 (ar.1++(cz v4))
      )
     else
      qz o t12 l1 ar O v3 q (ar.1++(cz v4)) (am (t12+(List.length c2:Int)))
    )
   else
    pA t12 l1 ar O v3 q o
  )
def gD(k:Nat)(bF:Int->eH->(List (Int))->(List UInt8)->bi->cA->aQ->aQ->Int->Bool->cq->bY->bi->Option cb)(t12:Int)(t13:List (Int))(l1:List (Int))(c2:List aH)(o:Bool):Nat->eH->bT->bT->(List UInt8)->bi->cA->aQ->aQ->Int->Bool->cq->bY->bi->Option cb
 |0,_,_,_,_,_,_,_,_,_,_,_,_,_=>none
 |n+1,q,O,R,t23,t24,t25,t26,t27,t28,t29,m4,t30,t31=>vw k bF t12 t13 l1 c2 o (gD k bF t12 t13 l1 c2 o n) q O R t23 t24 t25 t26 t27 t28 t29 m4 t30 t31
def uH(k:Nat)(t14:List UInt8)(t15:List aH)(t16:List bM)(t17:List aK)(t18:List aK)(t19:Int)(t20:Bool)(m3:List bZ)(t21:List (List UInt8))(t22:List aH)(O:bT->bT->bY->Option cb)(R:List bH)(gX:List bH)(q:List (List UInt8)):Option cb:=
 mX R (
  some ((0:Int),t14,t15,t16,t17,t18,t19,t20,m3,t21,t22,q)
 ) fun o=>
 Option.bind (jV k o.1) fun v5=>
 if decide ((256:Int)<v5)then
  some ((9:Int),t14,t15,t16,t17,t18,t19,t20,m3,t21,t22,([]:List (List UInt8)))
 else
  (
   Option.bind (bk (List.length q+List.length ([o.1]:List (List UInt8))<=bC)) fun _=>
   O ([]:List bH) [o] (q++([o.1]:List (List UInt8)))
  )
def o6(k:Nat)(t14:List UInt8)(t15:List aH)(t16:List bM)(t17:List aK)(t18:List aK)(t19:Int)(t20:Bool)(m3:List bZ)(t21:List (List UInt8))(t22:List aH):Nat->bT->bT->bY->Option cb
 |0,_,_,_=>none
 |n+1,o,gX,q=>uH k t14 t15 t16 t17 t18 t19 t20 m3 t21 t22 (o6 k t14 t15 t16 t17 t18 t19 t20 m3 t21 t22 n) o gX q
def wW(k:Nat)(l1:List (Int))(c2:List aH)(R:Bool)(bF:Int->eH->(List (Int))->(List UInt8)->bi->cA->aQ->aQ->Int->Bool->cq->bY->bi->Option cb)(t12:Int)(o:List eL)(t13:List (Int))(t14:List UInt8)(t15:List aH)(t16:List bM)(t17:List aK)(t18:List aK)(t19:Int)(t20:Bool)(m3:List bZ)(t21:List (List UInt8))(t22:List aH):Option cb:=
 if decide (t12<(am ((List.length l1:Int)+(1:Int))))then
  (
   Option.bind (bk (0<=t12/\t12<(List.length o:Int))) fun _=>
   Option.bind (gm o t12) fun q=>
   if decide ((1024:Int)<(List.length (Option.getD q []):Int))then
    some ((9:Int),t14,t15,t16,t17,t18,t19,t20,m3,t21,t22,([]:List (List UInt8)))
   else
    (
     Option.bind (bk (0<=t12/\t12<(List.length o:Int))) fun _=>
     gD k bF t12 t13 l1 c2 R k (List.set o (t12).toNat none) (q.getD []) ([]:List bH) t14 t15 t16 t17 t18 t19 t20 m3 t21 t22
    )
  )
 else
  (
   Option.bind (bk (0<=(am ((List.length l1:Int)+(1:Int)))/\(am ((List.length l1:Int)+(1:Int)))<(List.length o:Int))) fun _=>
   Option.bind (gm o (am ((List.length l1:Int)+(1:Int)))) fun O=>
   if decide ((1024:Int)<(List.length (O.getD []):Int))then
    some ((9:Int),t14,t15,t16,t17,t18,t19,t20,m3,t21,t22,([]:List (List UInt8)))
   else
    o6 k t14 t15 t16 t17 t18 t19 t20 m3 t21 t22 k (O.getD []) ([]:List bH) ([]:List (List UInt8))
  )
def ik(k:Nat)(l1:List (Int))(c2:List aH)(o:Bool):Nat->Int->eH->(List (Int))->(List UInt8)->bi->cA->aQ->aQ->Int->Bool->cq->bY->bi->Option cb
 |0,_,_,_,_,_,_,_,_,_,_,_,_,_=>none
 |n+1,t12,q,t13,t14,t15,t16,t17,t18,t19,t20,m3,t21,t22=>wW k l1 c2 o (ik k l1 c2 o n) t12 q t13 t14 t15 t16 t17 t18 t19 t20 m3 t21 t22
def wk(k:Nat)(l1:List (Int))(c2:List aH)(q:Bool)(v1:List (Int))(c1:List UInt8)(c3:List bM)(c4:List aK)(c5:List aK)(c6:Int)(c7:Bool)(m1:List bZ)(c8:List (List UInt8))(c9:List aH)(O:Int->eH->Option cb)(t11:Int)(o:List eL):Option cb:=
 if decide (t11<(List.length (List.map some (List.replicate (am ((List.length l1:Int)+(2:Int))).toNat (none:Option bT))):Int))then
  (
   Option.bind (bk (0<=t11/\t11<(List.length o:Int))) fun _=>
   Option.bind (bk (0<=t11/\t11<(List.length o:Int))) fun _=>
   O (am (t11+(1:Int))) (List.set o (t11).toNat (some (some ([]:List bH))))
  )
 else
  (
   Option.bind (bk (0<=(0:Int)/\(0:Int)<(List.length o:Int))) fun _=>
   Option.bind (gm o (0:Int)) fun U=>
   Option.bind (iB o (0:Int)) fun R=>
   ik k l1 c2 q k (0:Int) (List.set o ((0:Int)).toNat (some (some (cl (aV .str) R ([]:List UInt8) true)))) v1 c1 c2 c3 c4 c5 c6 c7 m1 c8 c9
  )
def re(k:Nat)(l1:List (Int))(c2:List aH)(o:Bool)(v1:List (Int))(c1:List UInt8)(c3:List bM)(c4:List aK)(c5:List aK)(c6:Int)(c7:Bool)(m1:List bZ)(c8:List (List UInt8))(c9:List aH):Nat->Int->eH->Option cb
 |0,_,_=>none
 |n+1,t11,q=>wk k l1 c2 o v1 c1 c3 c4 c5 c6 c7 m1 c8 c9 (re k l1 c2 o v1 c1 c3 c4 c5 c6 c7 m1 c8 c9 n) t11 q
def nr(k:Nat)(l1:List (Int))(o:Bool)(c1:List UInt8)(c2:List aH)(c3:List bM)(c4:List aK)(c5:List aK)(c6:Int)(c7:Bool)(m1:List bZ)(c8:List (List UInt8))(c9:List aH):Option cb:=
 Option.bind (tn k l1 c1 c2 c3 c4 c5 c6 c7 m1 c8 c9) fun v1=>
 Option.bind (bk (0<(am ((List.length l1:Int)+(2:Int))))) fun _=>
 Option.bind (bk (0<=(am ((List.length l1:Int)+(2:Int)))/\(am ((List.length l1:Int)+(2:Int)))<=(am ((List.length l1:Int)+(2:Int)))/\(am ((List.length l1:Int)+(2:Int)))<=(bC:Int))) fun _=>
 re k l1 c2 o v1 c1 c3 c4 c5 c6 c7 m1 c8 c9 k (0:Int) (List.map some (List.replicate (am ((List.length l1:Int)+(2:Int))).toNat (none:Option bT)))
def p9(k:Nat)(o:List aH):Option bi:=
 Option.bind (bk (List.length ([]:List aH)+List.length o<=bC)) fun _=>
 some (([]:List aH)++o)
def qf(k:Nat)(o:List bM):Option cA:=
 Option.bind (bk (List.length ([]:List bM)+List.length o<=bC)) fun _=>
 some (([]:List bM)++o)
def qU(k:Nat)(o:List (Int)):Option (List (Int)):=
 Option.bind (bk (List.length ([]:List (Int))+List.length o<=bC)) fun _=>
 some (([]:List (Int))++o)
def HJ(t1:List (Int))(q:List aK)(R:Int->aQ->Bool->aQ->Option aQ)(c1:List aK)(c2:Bool)(U:Int->aQ->Option aQ)(t2:Int)(o:List aK):Option aQ:=
 if decide (t2<(List.length t1:Int))then
  (
   Option.bind (aB t1 t2) fun W=>
   Option.bind (bk (0<=(List.length q:Int)/\(List.length q:Int)<(List.length o:Int))) fun _=>
   Option.bind (aB o (List.length q:Int)) fun O=>
   Option.bind (bk (List.length O.2.2.2.2.1+List.length ([(List.length o:Int)]:List (Int))<=bC)) fun _=>
   Option.bind (bk (0<=(List.length q:Int)/\(List.length q:Int)<(List.length o:Int))) fun _=>
   Option.bind (R W c1 c2 (List.set o ((List.length q:Int)).toNat (O.1,O.2.1,O.2.2.1,O.2.2.2.1,O.2.2.2.2.1++([(List.length o:Int)]:List (Int)),()))) fun v2=>
   U (am (t2+(1:Int))) v2
  )
 else
  some o
def vD(t1:List (Int))(o:List aK)(q:Int->aQ->Bool->aQ->Option aQ)(c1:List aK)(c2:Bool):Nat->Int->aQ->Option aQ
 |0,_,_=>none
 |n+1,t2,O=>HJ t1 o q c1 c2 (vD t1 o q c1 c2 n) t2 O
def sq(k:Nat)(q:List aK)(o:fU)(O:Int->aQ->Bool->aQ->Option aQ)(c1:List aK)(c2:Bool)(t1:List (Int)):Option aQ:=
 Option.bind (bk (0<=(0:Int)/\(0:Int)<=(List.length t1:Int)/\(List.length t1:Int)<=(bC:Int))) fun _=>
 Option.bind (bk (List.length q+List.length ([(o.1,o.2.1,o.2.2.1,o.2.2.2.1,List.replicate ((0:Int)).toNat (0:Int),())]:List aK)<=bC)) fun _=>
 vD t1 q O c1 c2 k (0:Int) (q++([(o.1,o.2.1,o.2.2.1,o.2.2.2.1,List.replicate ((0:Int)).toNat (0:Int),())]:List aK))
def IR(k:Nat)(o:List aK)(q:fU)(O:Int->aQ->Bool->aQ->Option aQ)(c1:List aK)(c2:Bool)(v1:List (Int))(t3:Bool):Option aQ:=
 if t3 then
  sq k o q O c1 c2 (List.reverse v1)
 else
  sq k o q O c1 c2 v1
def jW:Nat->Int->aQ->Bool->aQ->Option aQ
 |0,_,_,_,_=>none
 |k+1,q,c1,c2,O=>
  Option.bind (aB c1 q) fun o=>
  Option.bind (qU k o.2.2.2.2.1) fun v1=>
  IR k O o (jW k) c1 c2 v1 (c2&&(o.1==(6:Int)))
def um(k:Nat)(o:List aK)(q:Int)(O:Bool)(R:List aK):Option aQ:=
 Option.bind (jW k q o O R) fun v1=>
 some v1
def s9(k:Nat)(ar:eN):Option (eN×Int):=
 Option.bind (ka k (ar.1,())) fun v1=>
 if !v1 then
  some ((([]:List aK),()),(40:Int))
 else
  (
   Option.bind (um k ar.1 (0:Int) true ([]:List aK)) fun v2=>
   some ((v2,()),(0:Int))
  )
def zm(o:Int->cA->Option dJ)(t1:Int)(t3:List bM):Option dJ:=
 o (am (t1+(1:Int))) t3
def JQ(k:Nat)(v2:List bM)(v1:List aH)(o:dJ)(O:Int->cA->Option dJ)(t1:Int)(t2:List bM):Option dJ:=
 if decide (t1<(List.length (List.reverse v2):Int))then
  (
   Option.bind (aB t2 t1) fun q=>
   if q.1==(0:Int)then
    zm O t1 (List.set t2 (t1).toNat (q.1,am ((am ((List.length (List.reverse v1):Int)-(1:Int)))-q.2.1),q.2.2.1,q.2.2.2.1,()))
   else
    zm O t1 t2
  )
 else
  (
   Option.bind (s9 k (o.2.2.2.2.1.1,())) fun v3=>
   Option.bind (s9 k (o.2.2.2.1.1,())) fun v4=>
   some ((o.1,List.reverse v1,t2,(v3.1.1,()),(v4.1.1,()),o.2.2.2.2.2.1,o.2.2.2.2.2.2.1,()))
  )
def uW(k:Nat)(v2:List bM)(v1:List aH)(o:dJ):Nat->Int->cA->Option dJ
 |0,_,_=>none
 |n+1,t1,t2=>JQ k v2 v1 o (uW k v2 v1 o n) t1 t2
def ww(k:Nat)(o:dJ):Option dJ:=
 Option.bind (p9 k o.2.1) fun v1=>
 Option.bind (qf k o.2.2.1) fun v2=>
 uW k v2 v1 o k (0:Int) (List.reverse v2)
def D7(v9:cb)(q:Int->bY->Option (List (List UInt8)×Int))(t1:Int)(t2:List (List UInt8)):Option (List (List UInt8)×Int):=
 if decide (t1<(List.length v9.2.2.2.2.2.2.2.2.2.2.2:Int))then
  (
   Option.bind (aB t2 t1) fun o=>
   Option.bind (bk (List.length (cz (List.reverse (dS o)))<=bC)) fun _=>
   q (am (t1+(1:Int))) (List.set t2 (t1).toNat (cz (List.reverse (dS o))))
  )
 else
  some (t2,v9.1)
def pT(v9:cb):Nat->Int->bY->Option (List (List UInt8)×Int)
 |0,_,_=>none
 |n+1,t1,t2=>D7 v9 (pT v9 n) t1 t2
def tA(k:Nat)(q:be)(o:dJ)(U:List UInt8):Option (List (List UInt8)×Int):=
 Option.bind (nY k (q.1,q.2.1,()) (o.1,o.2.1,o.2.2.1,(o.2.2.2.1.1,()),(o.2.2.2.2.1.1,()),o.2.2.2.2.2.1,o.2.2.2.2.2.2.1,())) fun v1=>
 if v1 !=(0:Int)then
  some (([]:List (List UInt8)),v1)
 else
  (
   Option.bind (qG k (q.1,q.2.1,()) U) fun v2=>
   if v2.1 !=(0:Int)then
    some (([]:List (List UInt8)),v2.1)
   else
    (
     if o.2.2.2.2.2.1==(1:Int)then
      (
       Option.bind (mG k (q.1,q.2.1,()) (o.1,o.2.1,o.2.2.1,(o.2.2.2.1.1,()),(o.2.2.2.2.1.1,()),o.2.2.2.2.2.1,o.2.2.2.2.2.2.1,())) fun v3=>
       Option.bind (pj k v2.2 false v3.2.2.2.1 v3.2.2.2.2.1 v3.2.2.2.2.2.1 v3.2.2.2.2.2.2.1 v3.2.2.2.2.2.2.2.1 v3.2.2.2.2.2.2.2.2.1 v3.2.2.2.2.2.2.2.2.2 v3.2.2.1 v3.1 v3.2.1) fun v4=>
       some (v4.2.2.2.2.2.2.2.2.2.2.2,v4.1)
      )
     else
      (
       if o.2.2.2.2.2.1==(2:Int)then
        (
         Option.bind (mG k (q.1,q.2.1,()) (o.1,o.2.1,o.2.2.1,(o.2.2.2.1.1,()),(o.2.2.2.2.1.1,()),o.2.2.2.2.2.1,o.2.2.2.2.2.2.1,())) fun v5=>
         Option.bind (nr k v2.2 false v5.2.2.2.1 v5.2.2.2.2.1 v5.2.2.2.2.2.1 v5.2.2.2.2.2.2.1 v5.2.2.2.2.2.2.2.1 v5.2.2.2.2.2.2.2.2.1 v5.2.2.2.2.2.2.2.2.2 v5.2.2.1 v5.1 v5.2.1) fun R=>
         some (R.2.2.2.2.2.2.2.2.2.2.2,R.1)
        )
       else
        (
         Option.bind (ww k (o.1,o.2.1,o.2.2.1,(o.2.2.2.1.1,()),(o.2.2.2.2.1.1,()),o.2.2.2.2.2.1,o.2.2.2.2.2.2.1,())) fun W=>
         Option.bind (mG k (q.1,q.2.1,()) W) fun O=>
         Option.bind (nr k (List.reverse v2.2) false O.2.2.2.1 O.2.2.2.2.1 O.2.2.2.2.2.1 O.2.2.2.2.2.2.1 O.2.2.2.2.2.2.2.1 O.2.2.2.2.2.2.2.2.1 O.2.2.2.2.2.2.2.2.2 O.2.2.1 O.1 O.2.1) fun v9=>
         pT v9 k (0:Int) v9.2.2.2.2.2.2.2.2.2.2.2
        )
      )
    )
  )
def wo(k:Nat)(q:be)(o:dJ)(O:List UInt8):Option cw:=
 Option.bind (tA k (q.1,q.2.1,()) (o.1,o.2.1,o.2.2.1,(o.2.2.2.1.1,()),(o.2.2.2.2.1.1,()),o.2.2.2.2.2.1,o.2.2.2.2.2.2.1,()) O) fun v1=>
 if v1.2 !=(0:Int)then
  some (([]:List UInt8),v1.2)
 else
  (
   Option.bind (aB v1.1 (0:Int)) fun R=>
   some (R,(0:Int))
  )
def sn(o:(List UInt8)->Int->pE->Option qO)(v1:cw)(t1:Int)(q:List fV):Option qO:=
 o v1.1 (am (t1+(1:Int))) q
def Fo(k:Nat)(l1:List gl)(R:be)(U:(List UInt8)->Int->pE->Option qO)(q:List UInt8)(t1:Int)(O:List fV):Option qO:=
 if decide (t1<(List.length l1:Int))then
  (
   Option.bind (aB l1 t1) fun o=>
   Option.bind (wo k (R.1,R.2.1,()) (o.1,o.2.1,o.2.2.1,(o.2.2.2.1.1,()),(o.2.2.2.2.1.1,()),o.2.2.2.2.2.1,o.2.2.2.2.2.2.1,()) q) fun v1=>
   if v1.2 !=(0:Int)then
    some (([]:List UInt8),([]:List fV),v1.2)
   else
    (
     if !(v1.1==q)then
      (
       Option.bind (bk (List.length O+List.length ([(t1,q,v1.1,())]:List fV)<=bC)) fun _=>
       sn U v1 t1 (O++([(t1,q,v1.1,())]:List fV))
      )
     else
      sn U v1 t1 O
    )
  )
 else
  some (q,O,(0:Int))
def oF(k:Nat)(l1:List gl)(o:be):Nat->(List UInt8)->Int->pE->Option qO
 |0,_,_,_=>none
 |n+1,q,t1,O=>Fo k l1 o (oF k l1 o n) q t1 O
def sA(k:Nat)(o:be)(q:List UInt8)(l1:List gl):Option qO:=
 oF k l1 o k q (0:Int) ([]:List fV)
def kH(k:Nat)(o:be)(l1:List gl)(q:List UInt8):Option cw:=
 Option.bind (rn k (o.1,o.2.1,()) q l1) fun v1=>
 if v1 !=(0:Int)then
  some (([]:List UInt8),v1)
 else
  (
   Option.bind (sA k (o.1,o.2.1,()) q l1) fun v2=>
   some (v2.1,v2.2.2)
  )
end Go.Ev
namespace Go.Ev
open Go
set_option linter.unusedVariables false
end Go.Ev
