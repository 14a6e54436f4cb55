/- Shallow functions, by program. -/
import Derived.Test.YteopobecmacgdaaGreatDoorMM4
import Derived.Test.YteopobecmacgdaaGreatDoorMM6
import Derived.Test.YteopobecmacgdaaGreatDoorMM7
import Derived.Test.YteopobecmacgdaaGreatDoorTyA
set_option linter.unusedSectionVars false
set_option linter.unusedVariables false
set_option linter.unusedSimpArgs false
namespace Go.Ev
open Go
set_option linter.unusedVariables false
def je(k:Nat)(o:aH)(q:List UInt8):Option Int:=
 Option.bind (kY k (o.1,o.2.1,()) q) fun v1=>
 some (v1.2)
def GO(k:Nat)(q:aH):Option dB:=
 Option.bind (ar q.2.1 (0:Int)) fun o=>
 some ((([]:List UInt8),([(o.1,(0:Int),(0:Int),())]:List ax),([(o.1,(0:Int),(0:Int),(0:Int),())]:List bP),(([((7:Int),(0:Int),(0:Int),(0:Int),([]:List (Int)),())]:List aI),()),(([((7:Int),(0:Int),(0:Int),(0:Int),([]:List (Int)),())]:List aI),()),(1:Int),false,()))
def Pa(k:Nat)(q:aH)(v1:(Int×Int))(o:List (Int))(O:List UInt8)(R:(List UInt8)->(List (Int))->Option bL)(t1:Bool):Option bL:=
 if t1 then
  some (([]:List (Int)),(6:Int))
 else
  (
   Option.bind (qM k (q.1,q.2.1,()) v1.1) fun v2=>
   if !v2 then
    some (([]:List (Int)),(5:Int))
   else
    (
     if(List.length o:Int)==(256:Int)then
      some (([]:List (Int)),(4:Int))
     else
      (
       Option.bind (aP (List.length o+List.length ([v1.1]:List (Int))<=bF)) fun _=>
       Option.bind (dK O v1.2 (O.length:Int)) fun U=>
       R U (o++([v1.1]:List (Int)))
      )
    )
  )
def Nd(k:Nat)(O:aH)(R:(List UInt8)->(List (Int))->Option bL)(o:List UInt8)(q:List (Int)):Option bL:=
 if !(o==([]:List UInt8))then
  (
   Option.bind (utf8_DecodeRuneInString k o) fun v1=>
   Pa k O v1 q o R ((v1.1==(65533:Int))&&(v1.2==(1:Int)))
  )
 else
  some (q,(0:Int))
def sg(k:Nat)(o:aH):Nat->(List UInt8)->(List (Int))->Option bL
 |0,_,_=>none
 |n+1,q,O=>Nd k o (sg k o n) q O
def xE(k:Nat)(o:aH)(q:List UInt8):Option bL:=
 sg k o k q ([]:List (Int))
def HS(t1:Bool):Option Bool:=
 some (t1)
def Fl(k:Nat)(l1:cK)(o:Int)(q:Int):Option Bool:=
 HS (((cH (BitVec.toNat (BitVec.ofInt 32 o&&&~~~BitVec.ofInt 32 l1.2.1)))==(0:Int))&&((cH (BitVec.toNat (BitVec.ofInt 32 q&&&~~~BitVec.ofInt 32 l1.2.2.1)))==(0:Int)))
def zr(o:Int->(List (Int))->Option bL)(t1:Int)(q:List (Int)):Option bL:=
 o (ag (t1+(1:Int))) q
def Kn(k:Nat)(O:aH)(U:Int)(W:Int)(R:Int->(List (Int))->Option bL)(t1:Int)(q:List (Int)):Option bL:=
 if decide (t1<(List.length O.2.1:Int))then
  (
   Option.bind (ar O.2.1 t1) fun o=>
   Option.bind (Fl k (o.1,o.2.1,o.2.2.1,()) U W) fun v3=>
   if v3 then
    (
     Option.bind (aP (List.length q+List.length ([o.1]:List (Int))<=bF)) fun _=>
     zr R t1 (q++([o.1]:List (Int)))
    )
   else
    zr R t1 q
  )
 else
  some (q,(0:Int))
def sQ(k:Nat)(o:aH)(q:Int)(O:Int):Nat->Int->(List (Int))->Option bL
 |0,_,_=>none
 |n+1,t1,R=>Kn k o q O (sQ k o q O n) t1 R
def yD(k:Nat)(o:aH)(q:Int)(O:Int):Option bL:=
 Option.bind (eK k (o.1,o.2.1,())) fun v1=>
 if v1 !=(0:Int)then
  some (([]:List (Int)),v1)
 else
  (
   Option.bind (k9 k (o.1,o.2.1,()) q O) fun v2=>
   if !v2 then
    some (([]:List (Int)),(20:Int))
   else
    sQ k o q O k (0:Int) ([]:List (Int))
  )
def Pw(v1:bL)(m1:List ca)(o:Int)(q:Int)(O:Int->nf->Option cG)(t1:Int)(m3:List (Int×Bool)):Option cG:=
 if decide (t1<(List.length v1.1:Int))then
  (
   Option.bind (ar v1.1 t1) fun R=>
   O (ag (t1+(1:Int))) (cn (aR (.int .i32)) m3 R true)
  )
 else
  some (cn (aR bp) m1 ([o,q]:List (Int)) (some m3))
def uq(v1:bL)(m1:List ca)(o:Int)(q:Int):Nat->Int->nf->Option cG
 |0,_,_=>none
 |n+1,t1,m3=>Pw v1 m1 o q (uq v1 m1 o q n) t1 m3
def oY(k:Nat)(o:Int)(q:Int)(c1:List (List UInt8))(c2:List ax)(c3:List UInt8)(c4:List ax)(c5:List bP)(c6:List aI)(c7:List aI)(c8:Int)(c9:Bool)(m1:List ca):Option cG:=
 Option.bind (yD k (c1,c2,()) o q) fun v1=>
 uq v1 m1 o q k (0:Int) ([]:List (Int×Bool))
def NC(k:Nat)(o:eX)(a4:List (List UInt8))(a5:List ax)(t10:List UInt8)(t11:List ax)(t12:List bP)(t13:List aI)(t14:List aI)(t15:Int)(t16:Bool)(aC:Int->aD->aK->cG->(List UInt8)->aK->cB->aO->aO->Int->Bool->vI->Option iF)(t9:Int)(t17:List qa)(O:Int->cG->Option iF)(t18:Int)(m4:List ca):Option iF:=
 if decide (t18<(List.length o.1:Int))then
  (
   Option.bind (ar o.1 t18) fun q=>
   Option.bind (oY k q.2.2.1 q.2.2.2.1 a4 a5 t10 t11 t12 t13 t14 t15 t16 m4) fun v2=>
   O (ag (t18+(1:Int))) v2
  )
 else
  aC (ag (t9+(1:Int))) a4 a5 m4 t10 t11 t12 t13 t14 t15 t16 t17
def ur(k:Nat)(o:eX)(a4:List (List UInt8))(a5:List ax)(t10:List UInt8)(t11:List ax)(t12:List bP)(t13:List aI)(t14:List aI)(t15:Int)(t16:Bool)(aC:Int->aD->aK->cG->(List UInt8)->aK->cB->aO->aO->Int->Bool->vI->Option iF)(t9:Int)(t17:List qa):Nat->Int->cG->Option iF
 |0,_,_=>none
 |n+1,t18,m4=>NC k o a4 a5 t10 t11 t12 t13 t14 t15 t16 aC t9 t17 (ur k o a4 a5 t10 t11 t12 t13 t14 t15 t16 aC t9 t17 n) t18 m4
def Je(k:Nat)(o:dB)(aC:Int->aD->aK->cG->(List UInt8)->aK->cB->aO->aO->Int->Bool->vI->Option iF)(t9:Int)(a4:List (List UInt8))(a5:List ax)(m3:List ca)(t10:List UInt8)(t11:List ax)(t12:List bP)(t13:List aI)(t14:List aI)(t15:Int)(t16:Bool)(t17:List qa):Option iF:=
 if decide (t9<(List.length ([(o.2.2.2.1.1,()),(o.2.2.2.2.1.1,())]:List qa):Int))then
  (
   Option.bind (ar t17 t9) fun q=>
   ur k q a4 a5 t10 t11 t12 t13 t14 t15 t16 aC t9 t17 k (0:Int) m3
  )
 else
  some (a4,a5,m3,t10,t11,t12,t13,t14,t15,t16)
def sJ(k:Nat)(o:dB):Nat->Int->aD->aK->cG->(List UInt8)->aK->cB->aO->aO->Int->Bool->vI->Option iF
 |0,_,_,_,_,_,_,_,_,_,_,_,_=>none
 |n+1,t9,a4,a5,m3,t10,t11,t12,t13,t14,t15,t16,t17=>Je k o (sJ k o n) t9 a4 a5 m3 t10 t11 t12 t13 t14 t15 t16 t17
def L6(k:Nat)(o:dB)(q:aH)(R:Int->cG->Option iF)(t8:Int)(m2:List ca):Option iF:=
 if decide (t8<(List.length o.2.1:Int))then
  (
   Option.bind (ar o.2.1 t8) fun O=>
   Option.bind (oY k O.2.1 O.2.2.1 q.1 q.2.1 o.1 o.2.1 o.2.2.1 o.2.2.2.1.1 o.2.2.2.2.1.1 o.2.2.2.2.2.1 o.2.2.2.2.2.2.1 m2) fun v1=>
   R (ag (t8+(1:Int))) v1
  )
 else
  sJ k o k (0:Int) q.1 q.2.1 m2 o.1 o.2.1 o.2.2.1 o.2.2.2.1.1 o.2.2.2.2.1.1 o.2.2.2.2.2.1 o.2.2.2.2.2.2.1 ([(o.2.2.2.1.1,()),(o.2.2.2.2.1.1,())]:List qa)
def vf(k:Nat)(o:dB)(q:aH):Nat->Int->cG->Option iF
 |0,_,_=>none
 |n+1,t8,m2=>L6 k o q (vf k o q n) t8 m2
def jz(k:Nat)(o:aH)(q:dB):Option iF:=
 vf k q o k (0:Int) ([]:List ca)
def oG(k:Nat)(o:Int)(q:Int)(O:Int)(R:Int)(c1:List UInt8)(c2:List ax)(c3:List bP)(c4:List aI)(c5:List aI)(c6:Int)(c7:Bool)(m1:List ca)(c8:List (List UInt8))(c9:List ax):Option Bool:=
 if q !=(0:Int)then
  some (o==q)
 else
  some ((bM (aR (.int .i32)) (((bM (aR bp) m1 ([O,R]:List (Int))).getD (none:Option nf)).getD []) o).getD false)
def gu(t14:List aI)(t15:List (Int))(t16:List UInt8)(t17:List ax)(t18:List bP)(t19:List aI)(t20:List aI)(t21:Int)(t22:Bool)(m3:List ca)(t23:List (List UInt8))(t24:List ax)(t25:List (Bool))(t26:List (Bool)):Option cv:=
 some (t14,t15,t16,t17,t18,t19,t20,t21,t22,m3,t23,t24,t25,t26)
def tl(t29:List (Bool))(t28:Int)(o:Int->(List (Bool))->Option cv)(t30:Bool):Option cv:=
 Option.bind (ar t29 (ag (t28+(1:Int)))) fun q=>
 o (ag (t28+(1:Int))) (List.set t29 (ag (t28+(1:Int))).toNat t30)
def AD(t29:List (Bool))(t28:Int)(o:Int->(List (Bool))->Option cv)(t31:Bool):Option cv:=
 tl t29 t28 o t31
def LI(k:Nat)(c2:List (Int))(l1:List (Bool))(o:fZ)(c3:List UInt8)(c4:List ax)(c5:List bP)(c6:List aI)(c7:List aI)(c8:Int)(c9:Bool)(m1:List ca)(c10:List (List UInt8))(c11:List ax)(c1:List aI)(q:Int->(List (Bool))->Option cv)(t28:Int)(t29:List (Bool)):Option cv:=
 if decide (t28<(List.length c2:Int))then
  (
   Option.bind (ar c2 t28) fun O=>
   Option.bind (ar l1 t28) fun R=>
   if R then
    (
     if o.1==(4:Int)then
      AD t29 t28 q true
     else
      (
       Option.bind (oG k O o.2.1 o.2.2.1 o.2.2.2.1 c3 c4 c5 c6 c7 c8 c9 m1 c10 c11) fun v1=>
       AD t29 t28 q v1
      )
    )
   else
    tl t29 t28 q false
  )
 else
  gu c1 c2 c3 c4 c5 c6 c7 c8 c9 m1 c10 c11 t29 l1
def pS(k:Nat)(c2:List (Int))(l1:List (Bool))(o:fZ)(c3:List UInt8)(c4:List ax)(c5:List bP)(c6:List aI)(c7:List aI)(c8:Int)(c9:Bool)(m1:List ca)(c10:List (List UInt8))(c11:List ax)(c1:List aI):Nat->Int->(List (Bool))->Option cv
 |0,_,_=>none
 |n+1,t28,t29=>LI k c2 l1 o c3 c4 c5 c6 c7 c8 c9 m1 c10 c11 c1 (pS k c2 l1 o c3 c4 c5 c6 c7 c8 c9 m1 c10 c11 c1 n) t28 t29
def Pe(o:fZ)(q:Int->aO->(List (Int))->(List UInt8)->aK->cB->aO->aO->Int->Bool->cG->aD->aK->(List (Bool))->Option cv)(l1:List (Bool))(aC:Int->aO->(List (Int))->(List UInt8)->aK->cB->aO->aO->Int->Bool->cG->aD->aK->(List (Bool))->Option cv)(t32:Int)(t33:List aI)(t34:List (Int))(t35:List UInt8)(t36:List ax)(t37:List bP)(t38:List aI)(t39:List aI)(t40:Int)(t41:Bool)(m4:List ca)(t42:List (List UInt8))(t43:List ax)(t44:List (Bool)):Option cv:=
 if decide (t32<(List.length o.2.2.2.2.1:Int))then
  (
   Option.bind (ar o.2.2.2.2.1 t32) fun O=>
   Option.bind (q O t33 t34 t35 t36 t37 t38 t39 t40 t41 m4 t42 t43 t44) fun v2=>
   aC (ag (t32+(1:Int))) v2.1 v2.2.1 v2.2.2.1 v2.2.2.2.1 v2.2.2.2.2.1 v2.2.2.2.2.2.1 v2.2.2.2.2.2.2.1 v2.2.2.2.2.2.2.2.1 v2.2.2.2.2.2.2.2.2.1 v2.2.2.2.2.2.2.2.2.2.1 v2.2.2.2.2.2.2.2.2.2.2.1 v2.2.2.2.2.2.2.2.2.2.2.2.1 v2.2.2.2.2.2.2.2.2.2.2.2.2.1
  )
 else
  gu t33 t34 t35 t36 t37 t38 t39 t40 t41 m4 t42 t43 t44 l1
def uo(o:fZ)(q:Int->aO->(List (Int))->(List UInt8)->aK->cB->aO->aO->Int->Bool->cG->aD->aK->(List (Bool))->Option cv)(l1:List (Bool)):Nat->Int->aO->(List (Int))->(List UInt8)->aK->cB->aO->aO->Int->Bool->cG->aD->aK->(List (Bool))->Option cv
 |0,_,_,_,_,_,_,_,_,_,_,_,_,_,_=>none
 |n+1,t32,t33,t34,t35,t36,t37,t38,t39,t40,t41,m4,t42,t43,t44=>Pe o q l1 (uo o q l1 n) t32 t33 t34 t35 t36 t37 t38 t39 t40 t41 m4 t42 t43 t44
def K9(t60:List (Bool))(t59:Int)(o:Int->(List (Bool))->Option cv)(t61:Bool):Option cv:=
 Option.bind (ar t60 t59) fun q=>
 o (ag (t59+(1:Int))) (List.set t60 (t59).toNat t61)
def Iz(v3:cv)(o:Int->aO->(List (Int))->(List UInt8)->aK->cB->aO->aO->Int->Bool->cG->aD->aK->(List (Bool))->(List (Bool))->Option cv)(t45:Int)(q:Int->(List (Bool))->Option cv)(t59:Int)(t60:List (Bool)):Option cv:=
 if decide (t59<(List.length v3.2.2.2.2.2.2.2.2.2.2.2.2.1:Int))then
  (
   Option.bind (ar v3.2.2.2.2.2.2.2.2.2.2.2.2.1 t59) fun O=>
   Option.bind (ar t60 t59) fun R=>
   K9 t60 t59 q (R||O)
  )
 else
  o (ag (t45+(1:Int))) v3.1 v3.2.1 v3.2.2.1 v3.2.2.2.1 v3.2.2.2.2.1 v3.2.2.2.2.2.1 v3.2.2.2.2.2.2.1 v3.2.2.2.2.2.2.2.1 v3.2.2.2.2.2.2.2.2.1 v3.2.2.2.2.2.2.2.2.2.1 v3.2.2.2.2.2.2.2.2.2.2.1 v3.2.2.2.2.2.2.2.2.2.2.2.1 t60 v3.2.2.2.2.2.2.2.2.2.2.2.2.2
def sc(v3:cv)(o:Int->aO->(List (Int))->(List UInt8)->aK->cB->aO->aO->Int->Bool->cG->aD->aK->(List (Bool))->(List (Bool))->Option cv)(t45:Int):Nat->Int->(List (Bool))->Option cv
 |0,_,_=>none
 |n+1,t59,t60=>Iz v3 o t45 (sc v3 o t45 n) t59 t60
def I2(k:Nat)(o:fZ)(q:Int->aO->(List (Int))->(List UInt8)->aK->cB->aO->aO->Int->Bool->cG->aD->aK->(List (Bool))->Option cv)(O:Int->aO->(List (Int))->(List UInt8)->aK->cB->aO->aO->Int->Bool->cG->aD->aK->(List (Bool))->(List (Bool))->Option cv)(t45:Int)(t46:List aI)(t47:List (Int))(t48:List UInt8)(t49:List ax)(t50:List bP)(t51:List aI)(t52:List aI)(t53:Int)(t54:Bool)(m5:List ca)(t55:List (List UInt8))(t56:List ax)(t57:List (Bool))(t58:List (Bool)):Option cv:=
 if decide (t45<(List.length o.2.2.2.2.1:Int))then
  (
   Option.bind (ar o.2.2.2.2.1 t45) fun R=>
   Option.bind (q R t46 t47 t48 t49 t50 t51 t52 t53 t54 m5 t55 t56 t58) fun v3=>
   sc v3 O t45 k (0:Int) t57
  )
 else
  gu t46 t47 t48 t49 t50 t51 t52 t53 t54 m5 t55 t56 t57 t58
def tL(k:Nat)(o:fZ)(q:Int->aO->(List (Int))->(List UInt8)->aK->cB->aO->aO->Int->Bool->cG->aD->aK->(List (Bool))->Option cv):Nat->Int->aO->(List (Int))->(List UInt8)->aK->cB->aO->aO->Int->Bool->cG->aD->aK->(List (Bool))->(List (Bool))->Option cv
 |0,_,_,_,_,_,_,_,_,_,_,_,_,_,_,_=>none
 |n+1,t45,t46,t47,t48,t49,t50,t51,t52,t53,t54,m5,t55,t56,t57,t58=>I2 k o q (tL k o q n) t45 t46 t47 t48 t49 t50 t51 t52 t53 t54 m5 t55 t56 t57 t58
def KJ(t63:List (Bool))(t62:Int)(o:Int->(List (Bool))->Option cv)(t64:Bool):Option cv:=
 Option.bind (ar t63 t62) fun q=>
 o (ag (t62+(1:Int))) (List.set t63 (t62).toNat t64)
def NK(v4:cv)(o:Int->(List (Bool))->Option cv)(t62:Int)(t63:List (Bool)):Option cv:=
 if decide (t62<(List.length v4.2.2.2.2.2.2.2.2.2.2.2.2.2:Int))then
  (
   Option.bind (ar v4.2.2.2.2.2.2.2.2.2.2.2.2.2 t62) fun q=>
   Option.bind (ar t63 t62) fun O=>
   KJ t63 t62 o (O||q)
  )
 else
  gu v4.1 v4.2.1 v4.2.2.1 v4.2.2.2.1 v4.2.2.2.2.1 v4.2.2.2.2.2.1 v4.2.2.2.2.2.2.1 v4.2.2.2.2.2.2.2.1 v4.2.2.2.2.2.2.2.2.1 v4.2.2.2.2.2.2.2.2.2.1 v4.2.2.2.2.2.2.2.2.2.2.1 v4.2.2.2.2.2.2.2.2.2.2.2.1 t63 v4.2.2.2.2.2.2.2.2.2.2.2.2.2
def th(v4:cv):Nat->Int->(List (Bool))->Option cv
 |0,_,_=>none
 |n+1,t62,t63=>NK v4 (th v4 n) t62 t63
def r8(o:Bool->Int->(List (Bool))->Option cv)(t78:Int)(q:Bool)(t80:List (Bool)):Option cv:=
 o q (ag (t78+(1:Int))) t80
def oz(t79:List (Bool))(t78:Int)(o:Bool->Int->(List (Bool))->Option cv)(q:Bool)(t81:Bool):Option cv:=
 if t81 then
  (
   Option.bind (ar t79 t78) fun O=>
   r8 o t78 true (List.set t79 (t78).toNat true)
  )
 else
  r8 o t78 q t79
def NY(v5:cv)(t77:List (Bool))(O:Int->Int->Int->Int->(List (Int))->aO->(List (Int))->(List UInt8)->aK->cB->aO->aO->Int->Bool->cG->aD->aK->(List (Bool))->(List (Bool))->Option cv)(R:Int)(U:Int)(n3:Int)(n4:Int)(W:List (Int))(q:Bool->Int->(List (Bool))->Option cv)(o:Bool)(t78:Int)(t79:List (Bool)):Option cv:=
 if decide (t78<(List.length v5.2.2.2.2.2.2.2.2.2.2.2.2.1:Int))then
  (
   Option.bind (ar v5.2.2.2.2.2.2.2.2.2.2.2.2.1 t78) fun Y=>
   if Y then
    (
     Option.bind (ar t79 t78) fun Z=>
     oz t79 t78 q o (!Z)
    )
   else
    oz t79 t78 q o false
  )
 else
  (
   if !o then
    gu v5.1 v5.2.1 v5.2.2.1 v5.2.2.2.1 v5.2.2.2.2.1 v5.2.2.2.2.2.1 v5.2.2.2.2.2.2.1 v5.2.2.2.2.2.2.2.1 v5.2.2.2.2.2.2.2.2.1 v5.2.2.2.2.2.2.2.2.2.1 v5.2.2.2.2.2.2.2.2.2.2.1 v5.2.2.2.2.2.2.2.2.2.2.2.1 t79 t77
   else
    O R U n3 n4 W v5.1 v5.2.1 v5.2.2.1 v5.2.2.2.1 v5.2.2.2.2.1 v5.2.2.2.2.2.1 v5.2.2.2.2.2.2.1 v5.2.2.2.2.2.2.2.1 v5.2.2.2.2.2.2.2.2.1 v5.2.2.2.2.2.2.2.2.2.1 v5.2.2.2.2.2.2.2.2.2.2.1 v5.2.2.2.2.2.2.2.2.2.2.2.1 t79 t77
  )
def qY(v5:cv)(t77:List (Bool))(o:Int->Int->Int->Int->(List (Int))->aO->(List (Int))->(List UInt8)->aK->cB->aO->aO->Int->Bool->cG->aD->aK->(List (Bool))->(List (Bool))->Option cv)(q:Int)(O:Int)(n3:Int)(n4:Int)(R:List (Int)):Nat->Bool->Int->(List (Bool))->Option cv
 |0,_,_,_=>none
 |n+1,U,t78,t79=>NY v5 t77 o q O n3 n4 R (qY v5 t77 o q O n3 n4 R n) U t78 t79
def Ls(k:Nat)(q:Int->aO->(List (Int))->(List UInt8)->aK->cB->aO->aO->Int->Bool->cG->aD->aK->(List (Bool))->Option cv)(O:Int->Int->Int->Int->(List (Int))->aO->(List (Int))->(List UInt8)->aK->cB->aO->aO->Int->Bool->cG->aD->aK->(List (Bool))->(List (Bool))->Option cv)(R:Int)(U:Int)(n3:Int)(n4:Int)(o:List (Int))(t65:List aI)(t66:List (Int))(t67:List UInt8)(t68:List ax)(t69:List bP)(t70:List aI)(t71:List aI)(t72:Int)(t73:Bool)(m6:List ca)(t74:List (List UInt8))(t75:List ax)(t76:List (Bool))(t77:List (Bool)):Option cv:=
 Option.bind (ar o (0:Int)) fun W=>
 Option.bind (q W t65 t66 t67 t68 t69 t70 t71 t72 t73 m6 t74 t75 t76) fun v5=>
 qY v5 t77 O R U n3 n4 o k false (0:Int) v5.2.2.2.2.2.2.2.2.2.2.2.2.2
def sL(k:Nat)(o:Int->aO->(List (Int))->(List UInt8)->aK->cB->aO->aO->Int->Bool->cG->aD->aK->(List (Bool))->Option cv):Nat->Int->Int->Int->Int->(List (Int))->aO->(List (Int))->(List UInt8)->aK->cB->aO->aO->Int->Bool->cG->aD->aK->(List (Bool))->(List (Bool))->Option cv
 |0,_,_,_,_,_,_,_,_,_,_,_,_,_,_,_,_,_,_,_=>none
 |n+1,q,O,n3,n4,R,t65,t66,t67,t68,t69,t70,t71,t72,t73,m6,t74,t75,t76,t77=>Ls k o (sL k o n) q O n3 n4 R t65 t66 t67 t68 t69 t70 t71 t72 t73 m6 t74 t75 t76 t77
def rG(k:Nat)(c2:List (Int))(l1:List (Bool))(o:fZ)(c3:List UInt8)(c4:List ax)(c5:List bP)(c6:List aI)(c7:List aI)(c8:Int)(c9:Bool)(m1:List ca)(c10:List (List UInt8))(c11:List ax)(c1:List aI)(q:Int->aO->(List (Int))->(List UInt8)->aK->cB->aO->aO->Int->Bool->cG->aD->aK->(List (Bool))->Option cv)(t27:Bool):Option cv:=
 if t27 then
  pS k c2 l1 o c3 c4 c5 c6 c7 c8 c9 m1 c10 c11 c1 k (0:Int) (List.replicate (ag ((List.length c2:Int)+(1:Int))).toNat false)
 else
  (
   if o.1==(5:Int)then
    (
     Option.bind (ar l1 (0:Int)) fun O=>
     Option.bind (ar (List.replicate (ag ((List.length c2:Int)+(1:Int))).toNat false) (0:Int)) fun W=>
     Option.bind (ar l1 (List.length c2:Int)) fun R=>
     Option.bind (ar (List.set (List.replicate (ag ((List.length c2:Int)+(1:Int))).toNat false) ((0:Int)).toNat O) (List.length c2:Int)) fun Y=>
     gu c1 c2 c3 c4 c5 c6 c7 c8 c9 m1 c10 c11 (List.set (List.set (List.replicate (ag ((List.length c2:Int)+(1:Int))).toNat false) ((0:Int)).toNat O) ((List.length c2:Int)).toNat R) l1
    )
   else
    (
     if o.1==(6:Int)then
      (
       Option.bind (aP (List.length l1<=List.length (List.replicate (ag ((List.length c2:Int)+(1:Int))).toNat false))) fun _=>
       uo o q l1 k (0:Int) c1 c2 c3 c4 c5 c6 c7 c8 c9 m1 c10 c11 (l1++List.drop (List.length l1) (List.replicate (ag ((List.length c2:Int)+(1:Int))).toNat false))
      )
     else
      (
       if o.1==(7:Int)then
        tL k o q k (0:Int) c1 c2 c3 c4 c5 c6 c7 c8 c9 m1 c10 c11 (List.replicate (ag ((List.length c2:Int)+(1:Int))).toNat false) l1
       else
        (
         if o.1==(9:Int)then
          (
           Option.bind (ar o.2.2.2.2.1 (0:Int)) fun U=>
           Option.bind (q U c1 c2 c3 c4 c5 c6 c7 c8 c9 m1 c10 c11 l1) fun v4=>
           Option.bind (aP (List.length v4.2.2.2.2.2.2.2.2.2.2.2.2.1<=List.length (List.replicate (ag ((List.length c2:Int)+(1:Int))).toNat false))) fun _=>
           th v4 k (0:Int) (v4.2.2.2.2.2.2.2.2.2.2.2.2.1++List.drop (List.length v4.2.2.2.2.2.2.2.2.2.2.2.2.1) (List.replicate (ag ((List.length c2:Int)+(1:Int))).toNat false))
          )
         else
          (
           if o.1==(8:Int)then
            (
             Option.bind (aP (List.length l1<=List.length (List.replicate (ag ((List.length c2:Int)+(1:Int))).toNat false))) fun _=>
             sL k q k o.1 o.2.1 o.2.2.1 o.2.2.2.1 o.2.2.2.2.1 c1 c2 c3 c4 c5 c6 c7 c8 c9 m1 c10 c11 (l1++List.drop (List.length l1) (List.replicate (ag ((List.length c2:Int)+(1:Int))).toNat false)) l1
            )
           else
            gu c1 c2 c3 c4 c5 c6 c7 c8 c9 m1 c10 c11 (List.replicate (ag ((List.length c2:Int)+(1:Int))).toNat false) l1
          )
        )
      )
    )
  )
def hO:Nat->Int->aO->(List (Int))->(List UInt8)->aK->cB->aO->aO->Int->Bool->cG->aD->aK->(List (Bool))->Option cv
 |0,_,_,_,_,_,_,_,_,_,_,_,_,_,_=>none
 |k+1,q,c1,c2,c3,c4,c5,c6,c7,c8,c9,m1,c10,c11,l1=>
  Option.bind (ar c1 q) fun o=>
  Option.bind (aP (0<=(ag ((List.length c2:Int)+(1:Int)))/\(ag ((List.length c2:Int)+(1:Int)))<=(ag ((List.length c2:Int)+(1:Int)))/\(ag ((List.length c2:Int)+(1:Int)))<=(bF:Int))) fun _=>
  if o.1==(1:Int)then
   (
    Option.bind (aP (List.length l1<=List.length (List.replicate (ag ((List.length c2:Int)+(1:Int))).toNat false))) fun _=>
    gu c1 c2 c3 c4 c5 c6 c7 c8 c9 m1 c10 c11 (l1++List.drop (List.length l1) (List.replicate (ag ((List.length c2:Int)+(1:Int))).toNat false)) l1
   )
  else
   (
    if o.1==(2:Int)then
     rG k c2 l1 o c3 c4 c5 c6 c7 c8 c9 m1 c10 c11 c1 (hO k) (o.1==(2:Int))
    else
     (
      if o.1==(3:Int)then
       rG k c2 l1 o c3 c4 c5 c6 c7 c8 c9 m1 c10 c11 c1 (hO k) (o.1==(3:Int))
      else
       rG k c2 l1 o c3 c4 c5 c6 c7 c8 c9 m1 c10 c11 c1 (hO k) (o.1==(4:Int))
     )
   )
def oC(k:Nat)(o:eX)(l1:List (Int))(c1:List UInt8)(c2:List ax)(c3:List bP)(c4:List aI)(c5:List aI)(c6:Int)(c7:Bool)(m1:List ca)(c8:List (List UInt8))(c9:List ax)(l2:List (Bool)):Option A3:=
 Option.bind (hO k (0:Int) o.1 l1 c1 c2 c3 c4 c5 c6 c7 m1 c8 c9 l2) fun v1=>
 some (v1.2.2.1,v1.2.2.2.1,v1.2.2.2.2.1,v1.2.2.2.2.2.1,v1.2.2.2.2.2.2.1,v1.2.2.2.2.2.2.2.1,v1.2.2.2.2.2.2.2.2.1,v1.2.2.2.2.2.2.2.2.2.1,v1.2.2.2.2.2.2.2.2.2.2.1,v1.2.2.2.2.2.2.2.2.2.2.2.1,v1.2.2.2.2.2.2.2.2.2.2.2.2.1,v1.2.2.2.2.2.2.2.2.2.2.2.2.2)
def LD(k:Nat)(l1:List (Int))(c4:List aI)(c1:List UInt8)(c2:List ax)(c3:List bP)(c5:List aI)(c6:Int)(c7:Bool)(m1:List ca)(c8:List (List UInt8))(c9:List ax)(o:Int)(aC:Int->(List (Bool))->Option gE)(t11:Int)(t12:List (Bool)):Option gE:=
 if decide (t11<(List.length (List.replicate (ag ((List.length l1:Int)+(1:Int))).toNat false):Int))then
  (
   Option.bind (ar t12 t11) fun O=>
   aC (ag (t11+(1:Int))) (List.set t12 (t11).toNat true)
  )
 else
  (
   Option.bind (oC k (c4,()) l1 c1 c2 c3 c4 c5 c6 c7 m1 c8 c9 t12) fun v2=>
   Option.bind (ar v2.2.2.2.2.2.2.2.2.2.2.1 o) fun q=>
   if !q then
    some (false,v2.1,v2.2.1,v2.2.2.1,v2.2.2.2.1,v2.2.2.2.2.1,v2.2.2.2.2.2.1,v2.2.2.2.2.2.2.1,v2.2.2.2.2.2.2.2.1,v2.2.2.2.2.2.2.2.2.1,v2.2.2.2.2.2.2.2.2.2.1)
   else
    (
     Option.bind (ar (List.replicate (List.length v2.2.2.2.2.2.2.2.2.2.2.2) false) (ag (o+(List.length c2:Int)))) fun R=>
     Option.bind (oC k (v2.2.2.2.2.1,()) l1 v2.1 v2.2.1 v2.2.2.1 v2.2.2.2.1 v2.2.2.2.2.1 v2.2.2.2.2.2.1 v2.2.2.2.2.2.2.1 v2.2.2.2.2.2.2.2.1 v2.2.2.2.2.2.2.2.2.1 v2.2.2.2.2.2.2.2.2.2.1 (List.set (List.replicate (List.length v2.2.2.2.2.2.2.2.2.2.2.2) false) (ag (o+(List.length c2:Int))).toNat true)) fun v3=>
     Option.bind (pl k v3.2.2.2.2.2.2.2.2.2.2.1 true) fun v4=>
     some (v4,v3.1,v3.2.1,v3.2.2.1,v3.2.2.2.1,v3.2.2.2.2.1,v3.2.2.2.2.2.1,v3.2.2.2.2.2.2.1,v3.2.2.2.2.2.2.2.1,v3.2.2.2.2.2.2.2.2.1,v3.2.2.2.2.2.2.2.2.2.1)
    )
  )
def uX(k:Nat)(l1:List (Int))(c4:List aI)(c1:List UInt8)(c2:List ax)(c3:List bP)(c5:List aI)(c6:Int)(c7:Bool)(m1:List ca)(c8:List (List UInt8))(c9:List ax)(o:Int):Nat->Int->(List (Bool))->Option gE
 |0,_,_=>none
 |n+1,t11,t12=>LD k l1 c4 c1 c2 c3 c5 c6 c7 m1 c8 c9 o (uX k l1 c4 c1 c2 c3 c5 c6 c7 m1 c8 c9 o n) t11 t12
def Le(k:Nat)(c2:List ax)(l1:List (Int))(q:Int)(c1:List UInt8)(c3:List bP)(c4:List aI)(c5:List aI)(c6:Int)(c7:Bool)(m1:List ca)(c8:List (List UInt8))(c9:List ax)(O:Int->Option gE)(t10:Int):Option gE:=
 if decide (t10<(List.length c2:Int))then
  (
   Option.bind (ar c2 t10) fun o=>
   Option.bind (ar l1 (ag (q+t10))) fun R=>
   Option.bind (oG k R o.1 o.2.1 o.2.2.1 c1 c2 c3 c4 c5 c6 c7 m1 c8 c9) fun v1=>
   if !v1 then
    some (false,c1,c2,c3,c4,c5,c6,c7,m1,c8,c9)
   else
    O (ag (t10+(1:Int)))
  )
 else
  (
   Option.bind (aP (0<=(ag ((List.length l1:Int)+(1:Int)))/\(ag ((List.length l1:Int)+(1:Int)))<=(ag ((List.length l1:Int)+(1:Int)))/\(ag ((List.length l1:Int)+(1:Int)))<=(bF:Int))) fun _=>
   uX k l1 c4 c1 c2 c3 c5 c6 c7 m1 c8 c9 q k (0:Int) (List.replicate (ag ((List.length l1:Int)+(1:Int))).toNat false)
  )
def tz(k:Nat)(c2:List ax)(l1:List (Int))(o:Int)(c1:List UInt8)(c3:List bP)(c4:List aI)(c5:List aI)(c6:Int)(c7:Bool)(m1:List ca)(c8:List (List UInt8))(c9:List ax):Nat->Int->Option gE
 |0,_=>none
 |n+1,t10=>Le k c2 l1 o c1 c3 c4 c5 c6 c7 m1 c8 c9 (tz k c2 l1 o c1 c3 c4 c5 c6 c7 m1 c8 c9 n) t10
def nq(k:Nat)(l1:List (Int))(o:Int)(c1:List UInt8)(c2:List ax)(c3:List bP)(c4:List aI)(c5:List aI)(c6:Int)(c7:Bool)(m1:List ca)(c8:List (List UInt8))(c9:List ax):Option gE:=
 if decide ((List.length l1:Int)<(ag (o+(List.length c2:Int))))then
  some (false,c1,c2,c3,c4,c5,c6,c7,m1,c8,c9)
 else
  tz k c2 l1 o c1 c3 c4 c5 c6 c7 m1 c8 c9 k (0:Int)
def wO(o:Int->aD->aK->(List UInt8)->aK->cB->aO->aO->Int->Bool->cG->aF->Option rD)(t1:Int)(t11:List (List UInt8))(t12:List ax)(t13:List UInt8)(t14:List ax)(t15:List bP)(t16:List aI)(t17:List aI)(t18:Int)(t19:Bool)(m2:List ca)(q:List bI):Option rD:=
 o (ag (t1+(1:Int))) t11 t12 t13 t14 t15 t16 t17 t18 t19 m2 q
def OY(k:Nat)(v2:bL)(q:dB)(O:Int->aD->aK->(List UInt8)->aK->cB->aO->aO->Int->Bool->cG->aF->Option rD)(t1:Int)(t2:List (List UInt8))(t3:List ax)(t4:List UInt8)(t5:List ax)(t6:List bP)(t7:List aI)(t8:List aI)(t9:Int)(t10:Bool)(m1:List ca)(o:List bI):Option rD:=
 if decide (t1<(ag ((List.length v2.1:Int)+(1:Int))))then
  (
   Option.bind (nq k v2.1 t1 t4 t5 t6 t7 t8 t9 t10 m1 t2 t3) fun v4=>
   if v4.1 then
    (
     Option.bind (aP (List.length o+List.length ([(t1,ag (t1+(List.length q.2.1:Int)),())]:List bI)<=bF)) fun _=>
     wO O t1 v4.2.2.2.2.2.2.2.2.2.1 v4.2.2.2.2.2.2.2.2.2.2 v4.2.1 v4.2.2.1 v4.2.2.2.1 v4.2.2.2.2.1 v4.2.2.2.2.2.1 v4.2.2.2.2.2.2.1 v4.2.2.2.2.2.2.2.1 v4.2.2.2.2.2.2.2.2.1 (o++([(t1,ag (t1+(List.length q.2.1:Int)),())]:List bI))
    )
   else
    wO O t1 v4.2.2.2.2.2.2.2.2.2.1 v4.2.2.2.2.2.2.2.2.2.2 v4.2.1 v4.2.2.1 v4.2.2.2.1 v4.2.2.2.2.1 v4.2.2.2.2.2.1 v4.2.2.2.2.2.2.1 v4.2.2.2.2.2.2.2.1 v4.2.2.2.2.2.2.2.2.1 o
  )
 else
  some (o,(0:Int))
def ta(k:Nat)(v2:bL)(o:dB):Nat->Int->aD->aK->(List UInt8)->aK->cB->aO->aO->Int->Bool->cG->aF->Option rD
 |0,_,_,_,_,_,_,_,_,_,_,_,_=>none
 |n+1,t1,t2,t3,t4,t5,t6,t7,t8,t9,t10,m1,q=>OY k v2 o (ta k v2 o n) t1 t2 t3 t4 t5 t6 t7 t8 t9 t10 m1 q
def yj(k:Nat)(q:aH)(o:dB)(O:List UInt8):Option rD:=
 Option.bind (mu k (q.1,q.2.1,()) (o.1,o.2.1,o.2.2.1,(o.2.2.2.1.1,()),(o.2.2.2.2.1.1,()),o.2.2.2.2.2.1,o.2.2.2.2.2.2.1,())) fun v1=>
 if v1 !=(0:Int)then
  some (([]:List bI),v1)
 else
  (
   Option.bind (xE k (q.1,q.2.1,()) O) fun v2=>
   if v2.2 !=(0:Int)then
    some (([]:List bI),v2.2)
   else
    (
     Option.bind (jz k (q.1,q.2.1,()) (o.1,o.2.1,o.2.2.1,(o.2.2.2.1.1,()),(o.2.2.2.2.1.1,()),o.2.2.2.2.2.1,o.2.2.2.2.2.2.1,())) fun v3=>
     ta k v2 o k (0:Int) v3.1 v3.2.1 v3.2.2.2.1 v3.2.2.2.2.1 v3.2.2.2.2.2.1 v3.2.2.2.2.2.2.1 v3.2.2.2.2.2.2.2.1 v3.2.2.2.2.2.2.2.2.1 v3.2.2.2.2.2.2.2.2.2 v3.2.2.1 ([]:List bI)
    )
  )
def w5(k:Nat)(o:aH)(q:List UInt8):Option Int:=
 Option.bind (GO k (o.1,o.2.1,())) fun v1=>
 Option.bind (yj k (o.1,o.2.1,()) v1 q) fun v2=>
 some (v2.2)
def sR(k:Nat)(o:aH)(q:List UInt8)(l1:List fr):Option Int:=
 Option.bind (uF k (o.1,o.2.1,()) l1) fun v1=>
 if v1 !=(0:Int)then
  some (v1)
 else
  (
   Option.bind (w5 k (o.1,o.2.1,()) q) fun v2=>
   some (v2)
  )
def K1(k:Nat)(q:aH)(v1:(Int×Int))(o:List (Int))(O:List UInt8)(R:(List UInt8)->(List (Int))->Option (Int×List (Int)))(t2:Bool):Option (Int×List (Int)):=
 if t2 then
  some ((6:Int),([]:List (Int)))
 else
  (
   Option.bind (qM k (q.1,q.2.1,()) v1.1) fun v2=>
   if !v2 then
    some ((5:Int),([]:List (Int)))
   else
    (
     if(List.length o:Int)==(256:Int)then
      some ((4:Int),([]:List (Int)))
     else
      (
       Option.bind (aP (List.length o+List.length ([v1.1]:List (Int))<=bF)) fun _=>
       Option.bind (dK O v1.2 (O.length:Int)) fun U=>
       R U (o++([v1.1]:List (Int)))
      )
    )
  )
def Nl(k:Nat)(O:aH)(R:(List UInt8)->(List (Int))->Option (Int×List (Int)))(o:List UInt8)(q:List (Int)):Option (Int×List (Int)):=
 if !(o==([]:List UInt8))then
  (
   Option.bind (utf8_DecodeRuneInString k o) fun v1=>
   K1 k O v1 q o R ((v1.1==(65533:Int))&&(v1.2==(1:Int)))
  )
 else
  some ((0:Int),q)
def uT(k:Nat)(o:aH):Nat->(List UInt8)->(List (Int))->Option (Int×List (Int))
 |0,_,_=>none
 |n+1,q,O=>Nl k o (uT k o n) q O
def pm(k:Nat)(o:aH)(q:List UInt8):Option (Int×List (Int)):=
 uT k o k q ([]:List (Int))
def uZ(o:Int->(List UInt8)->aK->cB->aO->aO->Int->Bool->cG->aD->aK->(List (Bool))->Option ii)(i2:Int)(t21:List UInt8)(t22:List ax)(t23:List bP)(t24:List aI)(t25:List aI)(t26:Int)(t27:Bool)(m4:List ca)(t28:List (List UInt8))(t29:List ax)(t30:List (Bool)):Option ii:=
 o (ag (i2+(1:Int))) t21 t22 t23 t24 t25 t26 t27 m4 t28 t29 t30
def O4(k:Nat)(l1:List (Int))(o:Int->(List UInt8)->aK->cB->aO->aO->Int->Bool->cG->aD->aK->(List (Bool))->Option ii)(i1:Int)(t11:List UInt8)(t12:List ax)(t13:List bP)(t14:List aI)(t15:List aI)(t16:Int)(t17:Bool)(m3:List ca)(t18:List (List UInt8))(t19:List ax)(t20:List (Bool)):Option ii:=
 if decide (i1<=(List.length l1:Int))then
  (
   Option.bind (nq k l1 i1 t11 t12 t13 t14 t15 t16 t17 m3 t18 t19) fun v1=>
   if v1.1 then
    (
     Option.bind (ar t20 i1) fun q=>
     uZ o (ag (i1+(mh (0:Int) (ag ((List.length v1.2.2.1:Int)-(1:Int)))))) v1.2.1 v1.2.2.1 v1.2.2.2.1 v1.2.2.2.2.1 v1.2.2.2.2.2.1 v1.2.2.2.2.2.2.1 v1.2.2.2.2.2.2.2.1 v1.2.2.2.2.2.2.2.2.1 v1.2.2.2.2.2.2.2.2.2.1 v1.2.2.2.2.2.2.2.2.2.2 (List.set t20 (i1).toNat true)
    )
   else
    uZ o i1 v1.2.1 v1.2.2.1 v1.2.2.2.1 v1.2.2.2.2.1 v1.2.2.2.2.2.1 v1.2.2.2.2.2.2.1 v1.2.2.2.2.2.2.2.1 v1.2.2.2.2.2.2.2.2.1 v1.2.2.2.2.2.2.2.2.2.1 v1.2.2.2.2.2.2.2.2.2.2 t20
  )
 else
  some (t11,t12,t13,t14,t15,t16,t17,m3,t18,t19,t20)
def p7(k:Nat)(l1:List (Int)):Nat->Int->(List UInt8)->aK->cB->aO->aO->Int->Bool->cG->aD->aK->(List (Bool))->Option ii
 |0,_,_,_,_,_,_,_,_,_,_,_,_=>none
 |n+1,i1,t11,t12,t13,t14,t15,t16,t17,m3,t18,t19,t20=>O4 k l1 (p7 k l1 n) i1 t11 t12 t13 t14 t15 t16 t17 m3 t18 t19 t20
def ti(k:Nat)(l1:List (Int))(c1:List UInt8)(c2:List ax)(c3:List bP)(c4:List aI)(c5:List aI)(c6:Int)(c7:Bool)(m1:List ca)(c8:List (List UInt8))(c9:List ax):Option ii:=
 Option.bind (aP (0<=(ag ((List.length l1:Int)+(1:Int)))/\(ag ((List.length l1:Int)+(1:Int)))<=(ag ((List.length l1:Int)+(1:Int)))/\(ag ((List.length l1:Int)+(1:Int)))<=(bF:Int))) fun _=>
 p7 k l1 k (0:Int) c1 c2 c3 c4 c5 c6 c7 m1 c8 c9 (List.replicate (ag ((List.length l1:Int)+(1:Int))).toNat false)
def Ey(q:List UInt8)(R:Int->Nat->Option Int)(O:Int)(o:Nat):Option Int:=
 if decide (o<List.length q)then
  R (ag (O+(1:Int))) (o+jd q o)
 else
  some (O)
def pc(o:List UInt8):Nat->Int->Nat->Option Int
 |0,_,_=>none
 |n+1,q,O=>Ey o (pc o n) q O
def tr(k:Nat)(o:List UInt8):Option Int:=
 pc o k (0:Int) 0
def ma(k:Nat)(o:List UInt8):Option Int:=
 tr (k+List.length o) o
def Dq(k:Nat)(O:List UInt8)(o:Int)(t1:List (Bool)):Option Bool:=
 Option.bind (ar t1 o) fun q=>
 some (q)
def ED(k:Nat)(o:cK)(q:cK)(t1:cK):Option Int:=
 Option.bind (rn k (o.1,o.2.1,o.2.2.1,()) t1) fun v1=>
 Option.bind (rn k (q.1,q.2.1,q.2.2.1,()) t1) fun v2=>
 some (ag (v1-v2))
def zD(o:Int->Int->Int->Int->Option cK)(i1:Int)(m4:Int)(m5:Int)(m6:Int):Option cK:=
 o (ag (i1+(1:Int))) m4 m5 m6
def LL(k:Nat)(q:List ax)(R:(cK×Unit))(O:Int->Int->Int->Int->Option cK)(i1:Int)(m1:Int)(m2:Int)(m3:Int):Option cK:=
 if decide (i1<(List.length q:Int))then
  (
   Option.bind (ar q i1) fun o=>
   Option.bind (ED k o (m1,m2,m3,()) R.1) fun v1=>
   if decide (v1<(0:Int))then
    zD O i1 o.1 o.2.1 o.2.2.1
   else
    zD O i1 m1 m2 m3
  )
 else
  some ((m1,m2,m3,()))
def sx(k:Nat)(o:List ax)(q:(cK×Unit)):Nat->Int->Int->Int->Int->Option cK
 |0,_,_,_,_=>none
 |n+1,i1,m1,m2,m3=>LL k o q (sx k o q n) i1 m1 m2 m3
def G6(k:Nat)(o:List ax)(O:(cK×Unit)):Option cK:=
 if decide ((List.length o:Int)<(1:Int))then
  none
 else
  (
   Option.bind (ar o (0:Int)) fun q=>
   sx k o O k (1:Int) q.1 q.2.1 q.2.2.1
  )
def wX(k:Nat)(o:aH)(R:Int)(q:Int)(O:Int):Option (Int×Int):=
 Option.bind (jw k (o.1,o.2.1,()) R) fun v1=>
 if v1.2 !=(0:Int)then
  some ((0:Int),v1.2)
 else
  (
   Option.bind (k9 k (o.1,o.2.1,()) q O) fun v2=>
   if !v2 then
    some ((0:Int),(20:Int))
   else
    (
     Option.bind (G6 k o.2.1 ((v1.1.1,cH (BitVec.toNat (BitVec.ofInt 32 (cH (BitVec.toNat (BitVec.ofInt 32 v1.1.2.1&&&~~~BitVec.ofInt 32 O)))|||BitVec.ofInt 32 q)),cH (BitVec.toNat (BitVec.ofInt 32 (cH (BitVec.toNat (BitVec.ofInt 32 v1.1.2.2.1&&&~~~BitVec.ofInt 32 q)))|||BitVec.ofInt 32 O)),()),())) fun v3=>
     some (v3.1,(0:Int))
    )
  )
def DB(k:Nat)(q:Int)(o:nu)(t1:aH):Option Int:=
 Option.bind (wX k t1 q o.2.2.1 o.2.2.2.1) fun v1=>
 some (v1.1)
def vo(o:Int->(List (Int))->Option (List (Int)))(t1:Int)(q:List (Int)):Option (List (Int)):=
 o (ag (t1+(1:Int))) q
def IU(k:Nat)(c3:List bP)(R:List (Int))(c8:List (List UInt8))(c9:List ax)(O:Int->(List (Int))->Option (List (Int)))(t1:Int)(q:List (Int)):Option (List (Int)):=
 if decide (t1<(List.length c3:Int))then
  (
   Option.bind (ar c3 t1) fun o=>
   if o.1 !=(0:Int)then
    (
     Option.bind (aP (List.length q+List.length ([o.1]:List (Int))<=bF)) fun _=>
     vo O t1 (q++([o.1]:List (Int)))
    )
   else
    (
     Option.bind (ar R o.2.1) fun U=>
     Option.bind (DB k U (o.1,o.2.1,o.2.2.1,o.2.2.2.1,()) (c8,c9,())) fun v1=>
     Option.bind (aP (List.length q+List.length ([v1]:List (Int))<=bF)) fun _=>
     vo O t1 (q++([v1]:List (Int)))
    )
  )
 else
  some q
def up(k:Nat)(c3:List bP)(o:List (Int))(c8:List (List UInt8))(c9:List ax):Nat->Int->(List (Int))->Option (List (Int))
 |0,_,_=>none
 |n+1,t1,q=>IU k c3 o c8 c9 (up k c3 o c8 c9 n) t1 q
def pg(k:Nat)(o:List (Int))(c1:List UInt8)(c2:List ax)(c3:List bP)(c4:List aI)(c5:List aI)(c6:Int)(c7:Bool)(m1:List ca)(c8:List (List UInt8))(c9:List ax):Option (List (Int)):=
 up k c3 o c8 c9 k (0:Int) ([]:List (Int))
def pY(t12:Int)(o:List eS)(q:eR->bS->bS->Option ch)(O:bD)(R:List UInt8):Option ch:=
 Option.bind (aP (0<=(ag (t12+(1:Int)))/\(ag (t12+(1:Int)))<(List.length o:Int))) fun _=>
 Option.bind (gg o (ag (t12+(1:Int)))) fun W=>
 Option.bind (iq o (ag (t12+(1:Int)))) fun U=>
 q (List.set o (ag (t12+(1:Int))).toNat (some (some (cn (aR .str) U R true)))) ([]:List bD) [O]
def tO(t12:Int)(l1:List (Int))(o:bD)(q:List eS)(O:eR->bS->bS->Option ch)(t23:Bool):Option ch:=
 if t23 then
  (
   if decide (t12<(List.length l1:Int))then
    (
     Option.bind (ar l1 t12) fun R=>
     Option.bind (aP (List.length o.1+List.length ((Utf8.encode R).data.toList)<=bF)) fun _=>
     pY t12 q O o (o.1++((Utf8.encode R).data.toList))
    )
   else
    pY t12 q O o o.1
  )
 else
  O q ([]:List bD) [o]
def pj(t12:Int)(l1:List (Int))(o:bD)(q:eR->bS->bS->Option ch)(v3:Bool)(O:Bool)(R:List eS):Option ch:=
 tO t12 l1 o R q ((!v3)||O)
def qQ(q:List eS)(t12:Int)(l1:List (Int))(O:bD)(R:eR->bS->bS->Option ch)(v3:Bool)(U:Bool)(W:List UInt8)(o:Int):Option ch:=
 Option.bind (aP (0<=o/\o<(List.length q:Int))) fun _=>
 Option.bind (gg q o) fun Z=>
 Option.bind (iq q o) fun Y=>
 pj t12 l1 O R v3 U (List.set q (o).toNat (some (some (cn (aR .str) Y W true))))
def pL(o:List eS)(t12:Int)(l1:List (Int))(q:bD)(O:eR->bS->bS->Option ch)(v3:Bool)(R:Bool)(v1:ii)(U:List UInt8):Option ch:=
 qQ o t12 l1 q O v3 R U (ag ((ag (t12+(List.length v1.2.1:Int)))+(1:Int)))
def tK(k:Nat)(aC:Int->eR->(List UInt8)->aK->cB->aO->aO->Int->Bool->cG->aD->aK->(List (Bool))->Option ch)(t12:Int)(t13:List UInt8)(t14:List ax)(t15:List bP)(t16:List aI)(t17:List aI)(t18:Int)(t19:Bool)(m3:List ca)(t20:List (List UInt8))(t21:List ax)(t22:List (Bool))(l1:List (Int))(v1:ii)(O:Bool)(R:eR->bS->bS->Option ch)(q:List eS)(W:List bD)(Z:List bD):Option ch:=
 np W (
  aC (ag (t12+(1:Int))) q t13 t14 t15 t16 t17 t18 t19 m3 t20 t21 t22
 ) fun o=>
 Option.bind (ma k o.1) fun v2=>
 if decide ((256:Int)<(ag ((ag (v2+(List.length l1:Int)))-t12)))then
  some ((9:Int),t13,t14,t15,t16,t17,t18,t19,m3,t20,t21,([]:List (List UInt8)))
 else
  (
   Option.bind (Dq k o.1 t12 t22) fun v3=>
   if v3 then
    (
     Option.bind (dK l1 t12 (ag (t12+(List.length v1.2.1:Int)))) fun Y=>
     Option.bind (pg k Y t13 t14 t15 t16 t17 t18 t19 m3 t20 t21) fun v4=>
     Option.bind (aP (List.length (cz v4)<=bF)) fun _=>
     Option.bind (aP (List.length o.1+List.length (cz v4)<=bF)) fun _=>
     if(List.length v1.2.1:Int)==(0:Int)then
      (
       if decide (t12<(List.length l1:Int))then
        (
         Option.bind (ar l1 t12) fun U=>
         Option.bind (aP (List.length (o.1++(cz v4))+List.length ((Utf8.encode U).data.toList)<=bF)) fun _=>
         pL q t12 l1 o R v3 O v1 ((o.1++(cz v4))++((Utf8.encode U).data.toList))
        )
       else
        pL q t12 l1 o R v3 O v1 (o.1++(cz v4))
      )
     else
      qQ q t12 l1 o R v3 O (o.1++(cz v4)) (ag (t12+(List.length v1.2.1:Int)))
    )
   else
    pj t12 l1 o R v3 O q
  )
def gx(k:Nat)(aC:Int->eR->(List UInt8)->aK->cB->aO->aO->Int->Bool->cG->aD->aK->(List (Bool))->Option ch)(t12:Int)(t13:List UInt8)(t14:List ax)(t15:List bP)(t16:List aI)(t17:List aI)(t18:Int)(t19:Bool)(m3:List ca)(t20:List (List UInt8))(t21:List ax)(t22:List (Bool))(l1:List (Int))(v1:ii)(o:Bool):Nat->eR->bS->bS->Option ch
 |0,_,_,_=>none
 |n+1,q,O,R=>tK k aC t12 t13 t14 t15 t16 t17 t18 t19 m3 t20 t21 t22 l1 v1 o (gx k aC t12 t13 t14 t15 t16 t17 t18 t19 m3 t20 t21 t22 l1 v1 o n) q O R
def ui(k:Nat)(t13:List UInt8)(t14:List ax)(t15:List bP)(t16:List aI)(t17:List aI)(t18:Int)(t19:Bool)(m3:List ca)(t20:List (List UInt8))(t21:List ax)(O:bS->bS->aD->Option ch)(R:List bD)(ik:List bD)(q:List (List UInt8)):Option ch:=
 np R (
  some ((0:Int),t13,t14,t15,t16,t17,t18,t19,m3,t20,t21,q)
 ) fun o=>
 Option.bind (ma k o.1) fun v5=>
 if decide ((256:Int)<v5)then
  some ((9:Int),t13,t14,t15,t16,t17,t18,t19,m3,t20,t21,([]:List (List UInt8)))
 else
  (
   Option.bind (aP (List.length q+List.length ([o.1]:List (List UInt8))<=bF)) fun _=>
   O ([]:List bD) [o] (q++([o.1]:List (List UInt8)))
  )
def o0(k:Nat)(t13:List UInt8)(t14:List ax)(t15:List bP)(t16:List aI)(t17:List aI)(t18:Int)(t19:Bool)(m3:List ca)(t20:List (List UInt8))(t21:List ax):Nat->bS->bS->aD->Option ch
 |0,_,_,_=>none
 |n+1,o,ik,q=>ui k t13 t14 t15 t16 t17 t18 t19 m3 t20 t21 (o0 k t13 t14 t15 t16 t17 t18 t19 m3 t20 t21 n) o ik q
def xT(k:Nat)(l1:List (Int))(v1:ii)(R:Bool)(aC:Int->eR->(List UInt8)->aK->cB->aO->aO->Int->Bool->cG->aD->aK->(List (Bool))->Option ch)(t12:Int)(o:List eS)(t13:List UInt8)(t14:List ax)(t15:List bP)(t16:List aI)(t17:List aI)(t18:Int)(t19:Bool)(m3:List ca)(t20:List (List UInt8))(t21:List ax)(t22:List (Bool)):Option ch:=
 if decide (t12<(ag ((List.length l1:Int)+(1:Int))))then
  (
   Option.bind (aP (0<=t12/\t12<(List.length o:Int))) fun _=>
   Option.bind (gg o t12) fun q=>
   if decide ((1024:Int)<(List.length (Option.getD q []):Int))then
    some ((9:Int),t13,t14,t15,t16,t17,t18,t19,m3,t20,t21,([]:List (List UInt8)))
   else
    (
     Option.bind (aP (0<=t12/\t12<(List.length o:Int))) fun _=>
     gx k aC t12 t13 t14 t15 t16 t17 t18 t19 m3 t20 t21 t22 l1 v1 R k (List.set o (t12).toNat none) (q.getD []) ([]:List bD)
    )
  )
 else
  (
   Option.bind (aP (0<=(ag ((List.length l1:Int)+(1:Int)))/\(ag ((List.length l1:Int)+(1:Int)))<(List.length o:Int))) fun _=>
   Option.bind (gg o (ag ((List.length l1:Int)+(1:Int)))) fun O=>
   if decide ((1024:Int)<(List.length (O.getD []):Int))then
    some ((9:Int),t13,t14,t15,t16,t17,t18,t19,m3,t20,t21,([]:List (List UInt8)))
   else
    o0 k t13 t14 t15 t16 t17 t18 t19 m3 t20 t21 k (O.getD []) ([]:List bD) ([]:List (List UInt8))
  )
def iC(k:Nat)(l1:List (Int))(v1:ii)(o:Bool):Nat->Int->eR->(List UInt8)->aK->cB->aO->aO->Int->Bool->cG->aD->aK->(List (Bool))->Option ch
 |0,_,_,_,_,_,_,_,_,_,_,_,_,_=>none
 |n+1,t12,q,t13,t14,t15,t16,t17,t18,t19,m3,t20,t21,t22=>xT k l1 v1 o (iC k l1 v1 o n) t12 q t13 t14 t15 t16 t17 t18 t19 m3 t20 t21 t22
def wY(k:Nat)(l1:List (Int))(v1:ii)(q:Bool)(O:Int->eR->Option ch)(t11:Int)(o:List eS):Option ch:=
 if decide (t11<(List.length (List.map some (List.replicate (ag ((List.length l1:Int)+(2:Int))).toNat (none:Option bS))):Int))then
  (
   Option.bind (aP (0<=t11/\t11<(List.length o:Int))) fun _=>
   Option.bind (aP (0<=t11/\t11<(List.length o:Int))) fun _=>
   O (ag (t11+(1:Int))) (List.set o (t11).toNat (some (some ([]:List bD))))
  )
 else
  (
   Option.bind (aP (0<=(0:Int)/\(0:Int)<(List.length o:Int))) fun _=>
   Option.bind (gg o (0:Int)) fun U=>
   Option.bind (iq o (0:Int)) fun R=>
   iC k l1 v1 q k (0:Int) (List.set o ((0:Int)).toNat (some (some (cn (aR .str) R ([]:List UInt8) true)))) v1.1 v1.2.1 v1.2.2.1 v1.2.2.2.1 v1.2.2.2.2.1 v1.2.2.2.2.2.1 v1.2.2.2.2.2.2.1 v1.2.2.2.2.2.2.2.1 v1.2.2.2.2.2.2.2.2.1 v1.2.2.2.2.2.2.2.2.2.1 v1.2.2.2.2.2.2.2.2.2.2
  )
def re(k:Nat)(l1:List (Int))(v1:ii)(o:Bool):Nat->Int->eR->Option ch
 |0,_,_=>none
 |n+1,t11,q=>wY k l1 v1 o (re k l1 v1 o n) t11 q
def nj(k:Nat)(l1:List (Int))(o:Bool)(c1:List UInt8)(c2:List ax)(c3:List bP)(c4:List aI)(c5:List aI)(c6:Int)(c7:Bool)(m1:List ca)(c8:List (List UInt8))(c9:List ax):Option ch:=
 Option.bind (ti k l1 c1 c2 c3 c4 c5 c6 c7 m1 c8 c9) fun v1=>
 Option.bind (aP (0<(ag ((List.length l1:Int)+(2:Int))))) fun _=>
 Option.bind (aP (0<=(ag ((List.length l1:Int)+(2:Int)))/\(ag ((List.length l1:Int)+(2:Int)))<=(ag ((List.length l1:Int)+(2:Int)))/\(ag ((List.length l1:Int)+(2:Int)))<=(bF:Int))) fun _=>
 re k l1 v1 o k (0:Int) (List.map some (List.replicate (ag ((List.length l1:Int)+(2:Int))).toNat (none:Option bS)))
def rX(k:Nat)(l1:List (Int))(c1:List UInt8)(c2:List ax)(c3:List bP)(c4:List aI)(c5:List aI)(c6:Int)(c7:Bool)(m1:List ca)(c8:List (List UInt8))(c9:List ax):Option (List (Int)):=
 some l1
def qK(k:Nat)(o:List UInt8)(O:Int)(c1:List UInt8)(c2:List ax)(c3:List bP)(c4:List aI)(c5:List aI)(c6:Int)(c7:Bool)(m1:List ca)(c8:List (List UInt8))(c9:List ax)(c10:List (Int)):Option gE:=
 Option.bind (dK c10 O (c10.length:Int)) fun q=>
 Option.bind (aP (List.length (eJ o)+List.length q<=bF)) fun _=>
 Option.bind (nq k ((eJ o)++q) (List.length (eJ o):Int) c1 c2 c3 c4 c5 c6 c7 m1 c8 c9) fun v1=>
 some (v1.1,v1.2.1,v1.2.2.1,v1.2.2.2.1,v1.2.2.2.2.1,v1.2.2.2.2.2.1,v1.2.2.2.2.2.2.1,v1.2.2.2.2.2.2.2.1,v1.2.2.2.2.2.2.2.2.1,v1.2.2.2.2.2.2.2.2.2.1,v1.2.2.2.2.2.2.2.2.2.2)
def qu(t12:Int)(o:List eS)(q:eR->bS->bS->(List UInt8)->aK->cB->aO->aO->Int->Bool->cG->aD->aK->Option ch)(O:bD)(v3:gE)(R:List UInt8):Option ch:=
 Option.bind (aP (0<=(ag (t12+(1:Int)))/\(ag (t12+(1:Int)))<(List.length o:Int))) fun _=>
 Option.bind (gg o (ag (t12+(1:Int)))) fun W=>
 Option.bind (iq o (ag (t12+(1:Int)))) fun U=>
 q (List.set o (ag (t12+(1:Int))).toNat (some (some (cn (aR .str) U R true)))) ([]:List bD) [O] v3.2.1 v3.2.2.1 v3.2.2.2.1 v3.2.2.2.2.1 v3.2.2.2.2.2.1 v3.2.2.2.2.2.2.1 v3.2.2.2.2.2.2.2.1 v3.2.2.2.2.2.2.2.2.1 v3.2.2.2.2.2.2.2.2.2.1 v3.2.2.2.2.2.2.2.2.2.2
def sZ(t12:Int)(l1:List (Int))(o:bD)(q:List eS)(O:eR->bS->bS->(List UInt8)->aK->cB->aO->aO->Int->Bool->cG->aD->aK->Option ch)(v3:gE)(t32:Bool):Option ch:=
 if t32 then
  (
   if decide (t12<(List.length l1:Int))then
    (
     Option.bind (ar l1 t12) fun R=>
     Option.bind (aP (List.length o.1+List.length ((Utf8.encode R).data.toList)<=bF)) fun _=>
     qu t12 q O o v3 (o.1++((Utf8.encode R).data.toList))
    )
   else
    qu t12 q O o v3 o.1
  )
 else
  O q ([]:List bD) [o] v3.2.1 v3.2.2.1 v3.2.2.2.1 v3.2.2.2.2.1 v3.2.2.2.2.2.1 v3.2.2.2.2.2.2.1 v3.2.2.2.2.2.2.2.1 v3.2.2.2.2.2.2.2.2.1 v3.2.2.2.2.2.2.2.2.2.1 v3.2.2.2.2.2.2.2.2.2.2
def o9(t12:Int)(l1:List (Int))(o:bD)(q:eR->bS->bS->(List UInt8)->aK->cB->aO->aO->Int->Bool->cG->aD->aK->Option ch)(v3:gE)(O:Bool)(R:List eS):Option ch:=
 sZ t12 l1 o R q v3 ((!v3.1)||O)
def qp(q:List eS)(t12:Int)(l1:List (Int))(O:bD)(R:eR->bS->bS->(List UInt8)->aK->cB->aO->aO->Int->Bool->cG->aD->aK->Option ch)(v3:gE)(U:Bool)(W:List UInt8)(o:Int):Option ch:=
 Option.bind (aP (0<=o/\o<(List.length q:Int))) fun _=>
 Option.bind (gg q o) fun Z=>
 Option.bind (iq q o) fun Y=>
 o9 t12 l1 O R v3 U (List.set q (o).toNat (some (some (cn (aR .str) Y W true))))
def qr(o:List eS)(t12:Int)(l1:List (Int))(q:bD)(O:eR->bS->bS->(List UInt8)->aK->cB->aO->aO->Int->Bool->cG->aD->aK->Option ch)(v3:gE)(R:Bool)(c2:List ax)(U:List UInt8):Option ch:=
 qp o t12 l1 q O v3 R U (ag ((ag (t12+(List.length c2:Int)))+(1:Int)))
def rR(k:Nat)(aC:Int->eR->(List (Int))->(List UInt8)->aK->cB->aO->aO->Int->Bool->cG->aD->aK->Option ch)(t12:Int)(t13:List (Int))(l1:List (Int))(c2:List ax)(O:Bool)(R:eR->bS->bS->(List UInt8)->aK->cB->aO->aO->Int->Bool->cG->aD->aK->Option ch)(q:List eS)(W:List bD)(Z:List bD)(t23:List UInt8)(t24:List ax)(t25:List bP)(t26:List aI)(t27:List aI)(t28:Int)(t29:Bool)(m4:List ca)(t30:List (List UInt8))(t31:List ax):Option ch:=
 np W (
  aC (ag (t12+(1:Int))) q t13 t23 t24 t25 t26 t27 t28 t29 m4 t30 t31
 ) fun o=>
 Option.bind (ma k o.1) fun v2=>
 if decide ((256:Int)<(ag ((ag (v2+(List.length l1:Int)))-t12)))then
  some ((9:Int),t23,t24,t25,t26,t27,t28,t29,m4,t30,t31,([]:List (List UInt8)))
 else
  (
   Option.bind (qK k o.1 t12 t23 t24 t25 t26 t27 t28 t29 m4 t30 t31 t13) fun v3=>
   if v3.1 then
    (
     Option.bind (dK l1 t12 (ag (t12+(List.length c2:Int)))) fun Y=>
     Option.bind (pg k Y v3.2.1 v3.2.2.1 v3.2.2.2.1 v3.2.2.2.2.1 v3.2.2.2.2.2.1 v3.2.2.2.2.2.2.1 v3.2.2.2.2.2.2.2.1 v3.2.2.2.2.2.2.2.2.1 v3.2.2.2.2.2.2.2.2.2.1 v3.2.2.2.2.2.2.2.2.2.2) fun v4=>
     Option.bind (aP (List.length (cz v4)<=bF)) fun _=>
     Option.bind (aP (List.length o.1+List.length (cz v4)<=bF)) fun _=>
     if(List.length c2:Int)==(0:Int)then
      (
       if decide (t12<(List.length l1:Int))then
        (
         Option.bind (ar l1 t12) fun U=>
         Option.bind (aP (List.length (o.1++(cz v4))+List.length ((Utf8.encode U).data.toList)<=bF)) fun _=>
         qr q t12 l1 o R v3 O c2 ((o.1++(cz v4))++((Utf8.encode U).data.toList))
        )
       else
        qr q t12 l1 o R v3 O c2 (o.1++(cz v4))
      )
     else
      qp q t12 l1 o R v3 O (o.1++(cz v4)) (ag (t12+(List.length c2:Int)))
    )
   else
    o9 t12 l1 o R v3 O q
  )
def gA(k:Nat)(aC:Int->eR->(List (Int))->(List UInt8)->aK->cB->aO->aO->Int->Bool->cG->aD->aK->Option ch)(t12:Int)(t13:List (Int))(l1:List (Int))(c2:List ax)(o:Bool):Nat->eR->bS->bS->(List UInt8)->aK->cB->aO->aO->Int->Bool->cG->aD->aK->Option ch
 |0,_,_,_,_,_,_,_,_,_,_,_,_,_=>none
 |n+1,q,O,R,t23,t24,t25,t26,t27,t28,t29,m4,t30,t31=>rR k aC t12 t13 l1 c2 o (gA k aC t12 t13 l1 c2 o n) q O R t23 t24 t25 t26 t27 t28 t29 m4 t30 t31
def rS(k:Nat)(t14:List UInt8)(t15:List ax)(t16:List bP)(t17:List aI)(t18:List aI)(t19:Int)(t20:Bool)(m3:List ca)(t21:List (List UInt8))(t22:List ax)(O:bS->bS->aD->Option ch)(R:List bD)(ik:List bD)(q:List (List UInt8)):Option ch:=
 np R (
  some ((0:Int),t14,t15,t16,t17,t18,t19,t20,m3,t21,t22,q)
 ) fun o=>
 Option.bind (ma k o.1) fun v5=>
 if decide ((256:Int)<v5)then
  some ((9:Int),t14,t15,t16,t17,t18,t19,t20,m3,t21,t22,([]:List (List UInt8)))
 else
  (
   Option.bind (aP (List.length q+List.length ([o.1]:List (List UInt8))<=bF)) fun _=>
   O ([]:List bD) [o] (q++([o.1]:List (List UInt8)))
  )
def oE(k:Nat)(t14:List UInt8)(t15:List ax)(t16:List bP)(t17:List aI)(t18:List aI)(t19:Int)(t20:Bool)(m3:List ca)(t21:List (List UInt8))(t22:List ax):Nat->bS->bS->aD->Option ch
 |0,_,_,_=>none
 |n+1,o,ik,q=>rS k t14 t15 t16 t17 t18 t19 t20 m3 t21 t22 (oE k t14 t15 t16 t17 t18 t19 t20 m3 t21 t22 n) o ik q
def zL(k:Nat)(l1:List (Int))(c2:List ax)(R:Bool)(aC:Int->eR->(List (Int))->(List UInt8)->aK->cB->aO->aO->Int->Bool->cG->aD->aK->Option ch)(t12:Int)(o:List eS)(t13:List (Int))(t14:List UInt8)(t15:List ax)(t16:List bP)(t17:List aI)(t18:List aI)(t19:Int)(t20:Bool)(m3:List ca)(t21:List (List UInt8))(t22:List ax):Option ch:=
 if decide (t12<(ag ((List.length l1:Int)+(1:Int))))then
  (
   Option.bind (aP (0<=t12/\t12<(List.length o:Int))) fun _=>
   Option.bind (gg o t12) fun q=>
   if decide ((1024:Int)<(List.length (Option.getD q []):Int))then
    some ((9:Int),t14,t15,t16,t17,t18,t19,t20,m3,t21,t22,([]:List (List UInt8)))
   else
    (
     Option.bind (aP (0<=t12/\t12<(List.length o:Int))) fun _=>
     gA k aC t12 t13 l1 c2 R k (List.set o (t12).toNat none) (q.getD []) ([]:List bD) t14 t15 t16 t17 t18 t19 t20 m3 t21 t22
    )
  )
 else
  (
   Option.bind (aP (0<=(ag ((List.length l1:Int)+(1:Int)))/\(ag ((List.length l1:Int)+(1:Int)))<(List.length o:Int))) fun _=>
   Option.bind (gg o (ag ((List.length l1:Int)+(1:Int)))) fun O=>
   if decide ((1024:Int)<(List.length (O.getD []):Int))then
    some ((9:Int),t14,t15,t16,t17,t18,t19,t20,m3,t21,t22,([]:List (List UInt8)))
   else
    oE k t14 t15 t16 t17 t18 t19 t20 m3 t21 t22 k (O.getD []) ([]:List bD) ([]:List (List UInt8))
  )
def iB(k:Nat)(l1:List (Int))(c2:List ax)(o:Bool):Nat->Int->eR->(List (Int))->(List UInt8)->aK->cB->aO->aO->Int->Bool->cG->aD->aK->Option ch
 |0,_,_,_,_,_,_,_,_,_,_,_,_,_=>none
 |n+1,t12,q,t13,t14,t15,t16,t17,t18,t19,t20,m3,t21,t22=>zL k l1 c2 o (iB k l1 c2 o n) t12 q t13 t14 t15 t16 t17 t18 t19 t20 m3 t21 t22
def xk(k:Nat)(l1:List (Int))(c2:List ax)(q:Bool)(v1:List (Int))(c1:List UInt8)(c3:List bP)(c4:List aI)(c5:List aI)(c6:Int)(c7:Bool)(m1:List ca)(c8:List (List UInt8))(c9:List ax)(O:Int->eR->Option ch)(t11:Int)(o:List eS):Option ch:=
 if decide (t11<(List.length (List.map some (List.replicate (ag ((List.length l1:Int)+(2:Int))).toNat (none:Option bS))):Int))then
  (
   Option.bind (aP (0<=t11/\t11<(List.length o:Int))) fun _=>
   Option.bind (aP (0<=t11/\t11<(List.length o:Int))) fun _=>
   O (ag (t11+(1:Int))) (List.set o (t11).toNat (some (some ([]:List bD))))
  )
 else
  (
   Option.bind (aP (0<=(0:Int)/\(0:Int)<(List.length o:Int))) fun _=>
   Option.bind (gg o (0:Int)) fun U=>
   Option.bind (iq o (0:Int)) fun R=>
   iB k l1 c2 q k (0:Int) (List.set o ((0:Int)).toNat (some (some (cn (aR .str) R ([]:List UInt8) true)))) v1 c1 c2 c3 c4 c5 c6 c7 m1 c8 c9
  )
def qB(k:Nat)(l1:List (Int))(c2:List ax)(o:Bool)(v1:List (Int))(c1:List UInt8)(c3:List bP)(c4:List aI)(c5:List aI)(c6:Int)(c7:Bool)(m1:List ca)(c8:List (List UInt8))(c9:List ax):Nat->Int->eR->Option ch
 |0,_,_=>none
 |n+1,t11,q=>xk k l1 c2 o v1 c1 c3 c4 c5 c6 c7 m1 c8 c9 (qB k l1 c2 o v1 c1 c3 c4 c5 c6 c7 m1 c8 c9 n) t11 q
def kS(k:Nat)(l1:List (Int))(o:Bool)(c1:List UInt8)(c2:List ax)(c3:List bP)(c4:List aI)(c5:List aI)(c6:Int)(c7:Bool)(m1:List ca)(c8:List (List UInt8))(c9:List ax):Option ch:=
 Option.bind (rX k l1 c1 c2 c3 c4 c5 c6 c7 m1 c8 c9) fun v1=>
 Option.bind (aP (0<(ag ((List.length l1:Int)+(2:Int))))) fun _=>
 Option.bind (aP (0<=(ag ((List.length l1:Int)+(2:Int)))/\(ag ((List.length l1:Int)+(2:Int)))<=(ag ((List.length l1:Int)+(2:Int)))/\(ag ((List.length l1:Int)+(2:Int)))<=(bF:Int))) fun _=>
 qB k l1 c2 o v1 c1 c3 c4 c5 c6 c7 m1 c8 c9 k (0:Int) (List.map some (List.replicate (ag ((List.length l1:Int)+(2:Int))).toNat (none:Option bS)))
def rh(k:Nat)(o:List ax):Option aK:=
 Option.bind (aP (List.length ([]:List ax)+List.length o<=bF)) fun _=>
 some (([]:List ax)++o)
def rr(k:Nat)(o:List bP):Option cB:=
 Option.bind (aP (List.length ([]:List bP)+List.length o<=bF)) fun _=>
 some (([]:List bP)++o)
def pT(k:Nat)(o:List (Int)):Option (List (Int)):=
 Option.bind (aP (List.length ([]:List (Int))+List.length o<=bF)) fun _=>
 some (([]:List (Int))++o)
def LP(t1:List (Int))(q:List aI)(R:Int->aO->Bool->aO->Option aO)(c1:List aI)(c2:Bool)(U:Int->aO->Option aO)(t2:Int)(o:List aI):Option aO:=
 if decide (t2<(List.length t1:Int))then
  (
   Option.bind (ar t1 t2) fun W=>
   Option.bind (aP (0<=(List.length q:Int)/\(List.length q:Int)<(List.length o:Int))) fun _=>
   Option.bind (ar o (List.length q:Int)) fun O=>
   Option.bind (aP (List.length O.2.2.2.2.1+List.length ([(List.length o:Int)]:List (Int))<=bF)) fun _=>
   Option.bind (aP (0<=(List.length q:Int)/\(List.length q:Int)<(List.length o:Int))) fun _=>
   Option.bind (R W c1 c2 (List.set o ((List.length q:Int)).toNat (O.1,O.2.1,O.2.2.1,O.2.2.2.1,O.2.2.2.2.1++([(List.length o:Int)]:List (Int)),()))) fun v2=>
   U (ag (t2+(1:Int))) v2
  )
 else
  some o
def sm(t1:List (Int))(o:List aI)(q:Int->aO->Bool->aO->Option aO)(c1:List aI)(c2:Bool):Nat->Int->aO->Option aO
 |0,_,_=>none
 |n+1,t2,O=>LP t1 o q c1 c2 (sm t1 o q c1 c2 n) t2 O
def uj(k:Nat)(q:List aI)(o:fZ)(O:Int->aO->Bool->aO->Option aO)(c1:List aI)(c2:Bool)(t1:List (Int)):Option aO:=
 Option.bind (aP (0<=(0:Int)/\(0:Int)<=(List.length t1:Int)/\(List.length t1:Int)<=(bF:Int))) fun _=>
 Option.bind (aP (List.length q+List.length ([(o.1,o.2.1,o.2.2.1,o.2.2.2.1,List.replicate ((0:Int)).toNat (0:Int),())]:List aI)<=bF)) fun _=>
 sm t1 q O c1 c2 k (0:Int) (q++([(o.1,o.2.1,o.2.2.1,o.2.2.2.1,List.replicate ((0:Int)).toNat (0:Int),())]:List aI))
def Pr(k:Nat)(o:List aI)(q:fZ)(O:Int->aO->Bool->aO->Option aO)(c1:List aI)(c2:Bool)(v1:List (Int))(t3:Bool):Option aO:=
 if t3 then
  uj k o q O c1 c2 (List.reverse v1)
 else
  uj k o q O c1 c2 v1
def jO:Nat->Int->aO->Bool->aO->Option aO
 |0,_,_,_,_=>none
 |k+1,q,c1,c2,O=>
  Option.bind (ar c1 q) fun o=>
  Option.bind (pT k o.2.2.2.2.1) fun v1=>
  Pr k O o (jO k) c1 c2 v1 (c2&&(o.1==(6:Int)))
def tP(k:Nat)(o:List aI)(q:Int)(O:Bool)(R:List aI):Option aO:=
 Option.bind (jO k q o O R) fun v1=>
 some v1
def tR(k:Nat)(o:eX):Option (eX×Int):=
 Option.bind (jW k (o.1,())) fun v1=>
 if !v1 then
  some ((([]:List aI),()),(40:Int))
 else
  (
   Option.bind (tP k o.1 (0:Int) true ([]:List aI)) fun v2=>
   some ((v2,()),(0:Int))
  )
def zH(o:Int->cB->Option dB)(t1:Int)(t3:List bP):Option dB:=
 o (ag (t1+(1:Int))) t3
def Pu(k:Nat)(v2:List bP)(v1:List ax)(o:dB)(O:Int->cB->Option dB)(t1:Int)(t2:List bP):Option dB:=
 if decide (t1<(List.length (List.reverse v2):Int))then
  (
   Option.bind (ar t2 t1) fun q=>
   if q.1==(0:Int)then
    zH O t1 (List.set t2 (t1).toNat (q.1,ag ((ag ((List.length (List.reverse v1):Int)-(1:Int)))-q.2.1),q.2.2.1,q.2.2.2.1,()))
   else
    zH O t1 t2
  )
 else
  (
   Option.bind (tR k (o.2.2.2.2.1.1,())) fun v3=>
   Option.bind (tR k (o.2.2.2.1.1,())) fun v4=>
   some ((o.1,List.reverse v1,t2,(v3.1.1,()),(v4.1.1,()),o.2.2.2.2.2.1,o.2.2.2.2.2.2.1,()))
  )
def uh(k:Nat)(v2:List bP)(v1:List ax)(o:dB):Nat->Int->cB->Option dB
 |0,_,_=>none
 |n+1,t1,t2=>Pu k v2 v1 o (uh k v2 v1 o n) t1 t2
def sf(k:Nat)(o:dB):Option dB:=
 Option.bind (rh k o.2.1) fun v1=>
 Option.bind (rr k o.2.2.1) fun v2=>
 uh k v2 v1 o k (0:Int) (List.reverse v2)
def AQ(v9:ch)(q:Int->aD->Option bY)(t1:Int)(t2:List (List UInt8)):Option bY:=
 if decide (t1<(List.length v9.2.2.2.2.2.2.2.2.2.2.2:Int))then
  (
   Option.bind (ar t2 t1) fun o=>
   Option.bind (aP (List.length (cz (List.reverse (eJ o)))<=bF)) fun _=>
   q (ag (t1+(1:Int))) (List.set t2 (t1).toNat (cz (List.reverse (eJ o))))
  )
 else
  some (t2,v9.1)
def qX(v9:ch):Nat->Int->aD->Option bY
 |0,_,_=>none
 |n+1,t1,t2=>AQ v9 (qX v9 n) t1 t2
def uD(k:Nat)(q:aH)(o:dB)(U:List UInt8):Option bY:=
 Option.bind (mu k (q.1,q.2.1,()) (o.1,o.2.1,o.2.2.1,(o.2.2.2.1.1,()),(o.2.2.2.2.1.1,()),o.2.2.2.2.2.1,o.2.2.2.2.2.2.1,())) fun v1=>
 if v1 !=(0:Int)then
  some (([]:List (List UInt8)),v1)
 else
  (
   Option.bind (pm k (q.1,q.2.1,()) U) fun v2=>
   if v2.1 !=(0:Int)then
    some (([]:List (List UInt8)),v2.1)
   else
    (
     if o.2.2.2.2.2.1==(1:Int)then
      (
       Option.bind (jz k (q.1,q.2.1,()) (o.1,o.2.1,o.2.2.1,(o.2.2.2.1.1,()),(o.2.2.2.2.1.1,()),o.2.2.2.2.2.1,o.2.2.2.2.2.2.1,())) fun v3=>
       Option.bind (nj k v2.2 false v3.2.2.2.1 v3.2.2.2.2.1 v3.2.2.2.2.2.1 v3.2.2.2.2.2.2.1 v3.2.2.2.2.2.2.2.1 v3.2.2.2.2.2.2.2.2.1 v3.2.2.2.2.2.2.2.2.2 v3.2.2.1 v3.1 v3.2.1) fun v4=>
       some (v4.2.2.2.2.2.2.2.2.2.2.2,v4.1)
      )
     else
      (
       if o.2.2.2.2.2.1==(2:Int)then
        (
         Option.bind (jz k (q.1,q.2.1,()) (o.1,o.2.1,o.2.2.1,(o.2.2.2.1.1,()),(o.2.2.2.2.1.1,()),o.2.2.2.2.2.1,o.2.2.2.2.2.2.1,())) fun v5=>
         Option.bind (kS k v2.2 false v5.2.2.2.1 v5.2.2.2.2.1 v5.2.2.2.2.2.1 v5.2.2.2.2.2.2.1 v5.2.2.2.2.2.2.2.1 v5.2.2.2.2.2.2.2.2.1 v5.2.2.2.2.2.2.2.2.2 v5.2.2.1 v5.1 v5.2.1) fun R=>
         some (R.2.2.2.2.2.2.2.2.2.2.2,R.1)
        )
       else
        (
         Option.bind (sf k (o.1,o.2.1,o.2.2.1,(o.2.2.2.1.1,()),(o.2.2.2.2.1.1,()),o.2.2.2.2.2.1,o.2.2.2.2.2.2.1,())) fun W=>
         Option.bind (jz k (q.1,q.2.1,()) W) fun O=>
         Option.bind (kS k (List.reverse v2.2) false O.2.2.2.1 O.2.2.2.2.1 O.2.2.2.2.2.1 O.2.2.2.2.2.2.1 O.2.2.2.2.2.2.2.1 O.2.2.2.2.2.2.2.2.1 O.2.2.2.2.2.2.2.2.2 O.2.2.1 O.1 O.2.1) fun v9=>
         qX v9 k (0:Int) v9.2.2.2.2.2.2.2.2.2.2.2
        )
      )
    )
  )
def yN(k:Nat)(q:aH)(o:dB)(O:List UInt8):Option bh:=
 Option.bind (uD k (q.1,q.2.1,()) (o.1,o.2.1,o.2.2.1,(o.2.2.2.1.1,()),(o.2.2.2.2.1.1,()),o.2.2.2.2.2.1,o.2.2.2.2.2.2.1,()) O) fun v1=>
 if v1.2 !=(0:Int)then
  some (([]:List UInt8),v1.2)
 else
  (
   Option.bind (ar v1.1 (0:Int)) fun R=>
   some (R,(0:Int))
  )
def zG(o:(List UInt8)->Int->(List kV)->Option pR)(v1:bh)(t1:Int)(q:List kV):Option pR:=
 o v1.1 (ag (t1+(1:Int))) q
def IW(k:Nat)(l1:List fr)(R:aH)(U:(List UInt8)->Int->(List kV)->Option pR)(q:List UInt8)(t1:Int)(O:List kV):Option pR:=
 if decide (t1<(List.length l1:Int))then
  (
   Option.bind (ar l1 t1) fun o=>
   Option.bind (yN k (R.1,R.2.1,()) (o.1,o.2.1,o.2.2.1,(o.2.2.2.1.1,()),(o.2.2.2.2.1.1,()),o.2.2.2.2.2.1,o.2.2.2.2.2.2.1,()) q) fun v1=>
   if v1.2 !=(0:Int)then
    some (([]:List UInt8),([]:List kV),v1.2)
   else
    (
     if !(v1.1==q)then
      (
       Option.bind (aP (List.length O+List.length ([(t1,q,v1.1,())]:List kV)<=bF)) fun _=>
       zG U v1 t1 (O++([(t1,q,v1.1,())]:List kV))
      )
     else
      zG U v1 t1 O
    )
  )
 else
  some (q,O,(0:Int))
def u9(k:Nat)(l1:List fr)(o:aH):Nat->(List UInt8)->Int->(List kV)->Option pR
 |0,_,_,_=>none
 |n+1,q,t1,O=>IW k l1 o (u9 k l1 o n) q t1 O
def CY(k:Nat)(o:aH)(q:List UInt8)(l1:List fr):Option pR:=
 u9 k l1 o k q (0:Int) ([]:List kV)
def mq(k:Nat)(o:aH)(l1:List fr)(q:List UInt8):Option bh:=
 Option.bind (sR k (o.1,o.2.1,()) q l1) fun v1=>
 if v1 !=(0:Int)then
  some (([]:List UInt8),v1)
 else
  (
   Option.bind (CY k (o.1,o.2.1,()) q l1) fun v2=>
   some (v2.1,v2.2.2)
  )
end Go.Ev
namespace Go.Ev
open Go
set_option linter.unusedVariables false
end Go.Ev
