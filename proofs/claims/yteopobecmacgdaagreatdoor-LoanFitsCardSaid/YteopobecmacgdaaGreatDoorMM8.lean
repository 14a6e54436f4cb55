/- Shallow functions, by program. -/
import Derived.Test.YteopobecmacgdaaGreatDoorMM4
import Derived.Test.YteopobecmacgdaaGreatDoorMM6
import Derived.Test.YteopobecmacgdaaGreatDoorMM7
import Derived.Test.YteopobecmacgdaaGreatDoorTyA
set_option linter.unusedSectionVars false
set_option linter.unusedVariables false
set_option linter.unusedSimpArgs false
namespace Go.Ev
open Go
set_option linter.unusedVariables false
def kW(k:Nat)(o:aC)(q:List UInt8):Option Int:=
 Option.bind (kK k (o.1,o.2.1,()) q) fun v1=>
 some (v1.2)
def Gl(k:Nat)(q:aC):Option dp:=
 Option.bind (aq q.2.1 (0:Int)) fun o=>
 some ((([]:List UInt8),([(o.1,(0:Int),(0:Int),())]:List aw),([(o.1,(0:Int),(0:Int),(0:Int),())]:List bG),(([((7:Int),(0:Int),(0:Int),(0:Int),([]:List (Int)),())]:List aD),()),(([((7:Int),(0:Int),(0:Int),(0:Int),([]:List (Int)),())]:List aD),()),(1:Int),false,()))
def Qo(k:Nat)(q:aC)(v1:(Int×Int))(o:List (Int))(L:List UInt8)(O:(List UInt8)->(List (Int))->Option bF)(t1:Bool):Option bF:=
 if t1 then
  some (([]:List (Int)),(6:Int))
 else
  (
   Option.bind (uL k (q.1,q.2.1,()) v1.1) fun v2=>
   if !v2 then
    some (([]:List (Int)),(5:Int))
   else
    (
     if(List.length o:Int)==(256:Int)then
      some (([]:List (Int)),(4:Int))
     else
      (
       Option.bind (aL (List.length o+List.length ([v1.1]:List (Int))<=br)) fun _=>
       Option.bind (dx L v1.2 (L.length:Int)) fun R=>
       O R (o++([v1.1]:List (Int)))
      )
    )
  )
def RG(k:Nat)(L:aC)(O:(List UInt8)->(List (Int))->Option bF)(o:List UInt8)(q:List (Int)):Option bF:=
 if !(o==([]:List UInt8))then
  (
   Option.bind (utf8_DecodeRuneInString k o) fun v1=>
   Qo k L v1 q o O ((v1.1==(65533:Int))&&(v1.2==(1:Int)))
  )
 else
  some (q,(0:Int))
def DT(k:Nat)(o:aC):Nat->(List UInt8)->(List (Int))->Option bF
 |0,_,_=>none
 |n+1,q,L=>RG k o (DT k o n) q L
def FD(k:Nat)(o:aC)(q:List UInt8):Option bF:=
 DT k o k q ([]:List (Int))
def Pc(t1:Bool):Option Bool:=
 some (t1)
def Ij(k:Nat)(l1:cz)(o:Int)(q:Int):Option Bool:=
 Pc (((cA (BitVec.toNat (BitVec.ofInt 32 o&&&~~~BitVec.ofInt 32 l1.2.1)))==(0:Int))&&((cA (BitVec.toNat (BitVec.ofInt 32 q&&&~~~BitVec.ofInt 32 l1.2.2.1)))==(0:Int)))
def wP(o:Int->(List (Int))->Option bF)(t1:Int)(q:List (Int)):Option bF:=
 o (aj (t1+(1:Int))) q
def L8(k:Nat)(L:aC)(R:Int)(U:Int)(O:Int->(List (Int))->Option bF)(t1:Int)(q:List (Int)):Option bF:=
 if decide (t1<(List.length L.2.1:Int))then
  (
   Option.bind (aq L.2.1 t1) fun o=>
   Option.bind (Ij k (o.1,o.2.1,o.2.2.1,()) R U) fun v3=>
   if v3 then
    (
     Option.bind (aL (List.length q+List.length ([o.1]:List (Int))<=br)) fun _=>
     wP O t1 (q++([o.1]:List (Int)))
    )
   else
    wP O t1 q
  )
 else
  some (q,(0:Int))
def Ed(k:Nat)(o:aC)(q:Int)(L:Int):Nat->Int->(List (Int))->Option bF
 |0,_,_=>none
 |n+1,t1,O=>L8 k o q L (Ed k o q L n) t1 O
def E4(k:Nat)(o:aC)(q:Int)(L:Int):Option bF:=
 Option.bind (fR k (o.1,o.2.1,())) fun v1=>
 if v1 !=(0:Int)then
  some (([]:List (Int)),v1)
 else
  (
   Option.bind (kV k (o.1,o.2.1,()) q L) fun v2=>
   if !v2 then
    some (([]:List (Int)),(20:Int))
   else
    Ed k o q L k (0:Int) ([]:List (Int))
  )
def Ri(v1:bF)(m1:List bY)(o:Int)(q:Int)(L:Int->(List (Int×Bool))->Option cq)(t1:Int)(m3:List (Int×Bool)):Option cq:=
 if decide (t1<(List.length v1.1:Int))then
  (
   Option.bind (aq v1.1 t1) fun O=>
   L (aj (t1+(1:Int))) (cm (aQ (.int .i32)) m3 O true)
  )
 else
  some (cm (aQ bk) m1 ([o,q]:List (Int)) (some m3))
def Cz(v1:bF)(m1:List bY)(o:Int)(q:Int):Nat->Int->(List (Int×Bool))->Option cq
 |0,_,_=>none
 |n+1,t1,m3=>Ri v1 m1 o q (Cz v1 m1 o q n) t1 m3
def qC(k:Nat)(o:Int)(q:Int)(L:List (List UInt8))(c2:List aw)(c3:List UInt8)(O:List aw)(c5:List bG)(R:List aD)(U:List aD)(W:Int)(Y:Bool)(m1:List bY):Option cq:=
 Option.bind (E4 k (L,c2,()) o q) fun v1=>
 Cz v1 m1 o q k (0:Int) ([]:List (Int×Bool))
def SN(k:Nat)(o:eC)(a4:List (List UInt8))(a5:List aw)(t10:List UInt8)(t11:List aw)(t12:List bG)(t13:List aD)(t14:List aD)(t15:Int)(t16:Bool)(aP:Int->aG->aJ->cq->(List UInt8)->aJ->ck->aN->aN->Int->Bool->tL->Option gN)(t9:Int)(t17:List nW)(L:Int->cq->Option gN)(t18:Int)(m4:List bY):Option gN:=
 if decide (t18<(List.length o.1:Int))then
  (
   Option.bind (aq o.1 t18) fun q=>
   Option.bind (qC k q.2.2.1 q.2.2.2.1 a4 a5 t10 t11 t12 t13 t14 t15 t16 m4) fun v2=>
   L (aj (t18+(1:Int))) v2
  )
 else
  aP (aj (t9+(1:Int))) a4 a5 m4 t10 t11 t12 t13 t14 t15 t16 t17
def BY(k:Nat)(o:eC)(a4:List (List UInt8))(a5:List aw)(t10:List UInt8)(t11:List aw)(t12:List bG)(t13:List aD)(t14:List aD)(t15:Int)(t16:Bool)(aP:Int->aG->aJ->cq->(List UInt8)->aJ->ck->aN->aN->Int->Bool->tL->Option gN)(t9:Int)(t17:List nW):Nat->Int->cq->Option gN
 |0,_,_=>none
 |n+1,t18,m4=>SN k o a4 a5 t10 t11 t12 t13 t14 t15 t16 aP t9 t17 (BY k o a4 a5 t10 t11 t12 t13 t14 t15 t16 aP t9 t17 n) t18 m4
def Uu(k:Nat)(o:dp)(aP:Int->aG->aJ->cq->(List UInt8)->aJ->ck->aN->aN->Int->Bool->tL->Option gN)(t9:Int)(a4:List (List UInt8))(a5:List aw)(m3:List bY)(t10:List UInt8)(t11:List aw)(t12:List bG)(t13:List aD)(t14:List aD)(t15:Int)(t16:Bool)(t17:List nW):Option gN:=
 if decide (t9<(List.length ([(o.2.2.2.1.1,()),(o.2.2.2.2.1.1,())]:List nW):Int))then
  (
   Option.bind (aq t17 t9) fun q=>
   BY k q a4 a5 t10 t11 t12 t13 t14 t15 t16 aP t9 t17 k (0:Int) m3
  )
 else
  some (a4,a5,m3,t10,t11,t12,t13,t14,t15,t16)
def Dd(k:Nat)(o:dp):Nat->Int->aG->aJ->cq->(List UInt8)->aJ->ck->aN->aN->Int->Bool->tL->Option gN
 |0,_,_,_,_,_,_,_,_,_,_,_,_=>none
 |n+1,t9,a4,a5,m3,t10,t11,t12,t13,t14,t15,t16,t17=>Uu k o (Dd k o n) t9 a4 a5 m3 t10 t11 t12 t13 t14 t15 t16 t17
def M5(k:Nat)(o:dp)(q:aC)(O:Int->cq->Option gN)(t8:Int)(m2:List bY):Option gN:=
 if decide (t8<(List.length o.2.1:Int))then
  (
   Option.bind (aq o.2.1 t8) fun L=>
   Option.bind (qC k L.2.1 L.2.2.1 q.1 q.2.1 o.1 o.2.1 o.2.2.1 o.2.2.2.1.1 o.2.2.2.2.1.1 o.2.2.2.2.2.1 o.2.2.2.2.2.2.1 m2) fun v1=>
   O (aj (t8+(1:Int))) v1
  )
 else
  Dd k o k (0:Int) q.1 q.2.1 m2 o.1 o.2.1 o.2.2.1 o.2.2.2.1.1 o.2.2.2.2.1.1 o.2.2.2.2.2.1 o.2.2.2.2.2.2.1 ([(o.2.2.2.1.1,()),(o.2.2.2.2.1.1,())]:List nW)
def Aq(k:Nat)(o:dp)(q:aC):Nat->Int->cq->Option gN
 |0,_,_=>none
 |n+1,t8,m2=>M5 k o q (Aq k o q n) t8 m2
def jF(k:Nat)(o:aC)(q:dp):Option gN:=
 Aq k q o k (0:Int) ([]:List bY)
def qW(k:Nat)(o:Int)(q:Int)(L:Int)(O:Int)(R:List UInt8)(c2:List aw)(c3:List bG)(U:List aD)(c5:List aD)(W:Int)(Y:Bool)(m1:List bY)(Z:List (List UInt8))(la:List aw):Option Bool:=
 if q !=(0:Int)then
  some (o==q)
 else
  some ((bL (aQ (.int .i32)) (((bL (aQ bk) m1 ([L,O]:List (Int))).getD (none:Option (List (Int×Bool)))).getD []) o).getD false)
def j7(t14:List aD)(t15:List (Int))(t16:List UInt8)(t17:List aw)(t18:List bG)(t19:List aD)(t20:List aD)(t21:Int)(t22:Bool)(m3:List bY)(t23:List (List UInt8))(t24:List aw)(t25:List (Bool))(t26:List (Bool)):Option cg:=
 some (t14,t15,t16,t17,t18,t19,t20,t21,t22,m3,t23,t24,t25,t26)
def B7(t29:List (Bool))(t28:Int)(o:Int->(List (Bool))->Option cg)(t30:Bool):Option cg:=
 Option.bind (aq t29 (aj (t28+(1:Int)))) fun q=>
 o (aj (t28+(1:Int))) (List.set t29 (aj (t28+(1:Int))).toNat t30)
def Ey(t29:List (Bool))(t28:Int)(o:Int->(List (Bool))->Option cg)(t31:Bool):Option cg:=
 B7 t29 t28 o t31
def Sy(k:Nat)(c2:List (Int))(l1:List (Bool))(o:fy)(c3:List UInt8)(L:List aw)(c5:List bG)(O:List aD)(R:List aD)(U:Int)(W:Bool)(m1:List bY)(Y:List (List UInt8))(Z:List aw)(la:List aD)(q:Int->(List (Bool))->Option cg)(t28:Int)(t29:List (Bool)):Option cg:=
 if decide (t28<(List.length c2:Int))then
  (
   Option.bind (aq c2 t28) fun lb=>
   Option.bind (aq l1 t28) fun lc=>
   if lc then
    (
     if o.1==(4:Int)then
      Ey t29 t28 q true
     else
      (
       Option.bind (qW k lb o.2.1 o.2.2.1 o.2.2.2.1 c3 L c5 O R U W m1 Y Z) fun v1=>
       Ey t29 t28 q v1
      )
    )
   else
    B7 t29 t28 q false
  )
 else
  j7 la c2 c3 L c5 O R U W m1 Y Z t29 l1
def wr(k:Nat)(c2:List (Int))(l1:List (Bool))(o:fy)(c3:List UInt8)(q:List aw)(c5:List bG)(L:List aD)(O:List aD)(R:Int)(U:Bool)(m1:List bY)(W:List (List UInt8))(Y:List aw)(Z:List aD):Nat->Int->(List (Bool))->Option cg
 |0,_,_=>none
 |n+1,t28,t29=>Sy k c2 l1 o c3 q c5 L O R U m1 W Y Z (wr k c2 l1 o c3 q c5 L O R U m1 W Y Z n) t28 t29
def Ub(o:fy)(q:Int->aN->(List (Int))->(List UInt8)->aJ->ck->aN->aN->Int->Bool->cq->aG->aJ->(List (Bool))->Option cg)(l1:List (Bool))(aP:Int->aN->(List (Int))->(List UInt8)->aJ->ck->aN->aN->Int->Bool->cq->aG->aJ->(List (Bool))->Option cg)(t32:Int)(t33:List aD)(t34:List (Int))(t35:List UInt8)(t36:List aw)(t37:List bG)(t38:List aD)(t39:List aD)(t40:Int)(t41:Bool)(m4:List bY)(t42:List (List UInt8))(t43:List aw)(t44:List (Bool)):Option cg:=
 if decide (t32<(List.length o.2.2.2.2.1:Int))then
  (
   Option.bind (aq o.2.2.2.2.1 t32) fun L=>
   Option.bind (q L t33 t34 t35 t36 t37 t38 t39 t40 t41 m4 t42 t43 t44) fun v2=>
   aP (aj (t32+(1:Int))) v2.1 v2.2.1 v2.2.2.1 v2.2.2.2.1 v2.2.2.2.2.1 v2.2.2.2.2.2.1 v2.2.2.2.2.2.2.1 v2.2.2.2.2.2.2.2.1 v2.2.2.2.2.2.2.2.2.1 v2.2.2.2.2.2.2.2.2.2.1 v2.2.2.2.2.2.2.2.2.2.2.1 v2.2.2.2.2.2.2.2.2.2.2.2.1 v2.2.2.2.2.2.2.2.2.2.2.2.2.1
  )
 else
  j7 t33 t34 t35 t36 t37 t38 t39 t40 t41 m4 t42 t43 t44 l1
def xN(o:fy)(q:Int->aN->(List (Int))->(List UInt8)->aJ->ck->aN->aN->Int->Bool->cq->aG->aJ->(List (Bool))->Option cg)(l1:List (Bool)):Nat->Int->aN->(List (Int))->(List UInt8)->aJ->ck->aN->aN->Int->Bool->cq->aG->aJ->(List (Bool))->Option cg
 |0,_,_,_,_,_,_,_,_,_,_,_,_,_,_=>none
 |n+1,t32,t33,t34,t35,t36,t37,t38,t39,t40,t41,m4,t42,t43,t44=>Ub o q l1 (xN o q l1 n) t32 t33 t34 t35 t36 t37 t38 t39 t40 t41 m4 t42 t43 t44
def Mc(t60:List (Bool))(t59:Int)(o:Int->(List (Bool))->Option cg)(t61:Bool):Option cg:=
 Option.bind (aq t60 t59) fun q=>
 o (aj (t59+(1:Int))) (List.set t60 (t59).toNat t61)
def Po(v3:cg)(o:Int->aN->(List (Int))->(List UInt8)->aJ->ck->aN->aN->Int->Bool->cq->aG->aJ->(List (Bool))->(List (Bool))->Option cg)(t45:Int)(q:Int->(List (Bool))->Option cg)(t59:Int)(t60:List (Bool)):Option cg:=
 if decide (t59<(List.length v3.2.2.2.2.2.2.2.2.2.2.2.2.1:Int))then
  (
   Option.bind (aq v3.2.2.2.2.2.2.2.2.2.2.2.2.1 t59) fun L=>
   Option.bind (aq t60 t59) fun O=>
   Mc t60 t59 q (O||L)
  )
 else
  o (aj (t45+(1:Int))) v3.1 v3.2.1 v3.2.2.1 v3.2.2.2.1 v3.2.2.2.2.1 v3.2.2.2.2.2.1 v3.2.2.2.2.2.2.1 v3.2.2.2.2.2.2.2.1 v3.2.2.2.2.2.2.2.2.1 v3.2.2.2.2.2.2.2.2.2.1 v3.2.2.2.2.2.2.2.2.2.2.1 v3.2.2.2.2.2.2.2.2.2.2.2.1 t60 v3.2.2.2.2.2.2.2.2.2.2.2.2.2
def Cv(v3:cg)(o:Int->aN->(List (Int))->(List UInt8)->aJ->ck->aN->aN->Int->Bool->cq->aG->aJ->(List (Bool))->(List (Bool))->Option cg)(t45:Int):Nat->Int->(List (Bool))->Option cg
 |0,_,_=>none
 |n+1,t59,t60=>Po v3 o t45 (Cv v3 o t45 n) t59 t60
def Vg(k:Nat)(o:fy)(q:Int->aN->(List (Int))->(List UInt8)->aJ->ck->aN->aN->Int->Bool->cq->aG->aJ->(List (Bool))->Option cg)(L:Int->aN->(List (Int))->(List UInt8)->aJ->ck->aN->aN->Int->Bool->cq->aG->aJ->(List (Bool))->(List (Bool))->Option cg)(t45:Int)(t46:List aD)(t47:List (Int))(t48:List UInt8)(t49:List aw)(t50:List bG)(t51:List aD)(t52:List aD)(t53:Int)(t54:Bool)(m5:List bY)(t55:List (List UInt8))(t56:List aw)(t57:List (Bool))(t58:List (Bool)):Option cg:=
 if decide (t45<(List.length o.2.2.2.2.1:Int))then
  (
   Option.bind (aq o.2.2.2.2.1 t45) fun O=>
   Option.bind (q O t46 t47 t48 t49 t50 t51 t52 t53 t54 m5 t55 t56 t58) fun v3=>
   Cv v3 L t45 k (0:Int) t57
  )
 else
  j7 t46 t47 t48 t49 t50 t51 t52 t53 t54 m5 t55 t56 t57 t58
def BT(k:Nat)(o:fy)(q:Int->aN->(List (Int))->(List UInt8)->aJ->ck->aN->aN->Int->Bool->cq->aG->aJ->(List (Bool))->Option cg):Nat->Int->aN->(List (Int))->(List UInt8)->aJ->ck->aN->aN->Int->Bool->cq->aG->aJ->(List (Bool))->(List (Bool))->Option cg
 |0,_,_,_,_,_,_,_,_,_,_,_,_,_,_,_=>none
 |n+1,t45,t46,t47,t48,t49,t50,t51,t52,t53,t54,m5,t55,t56,t57,t58=>Vg k o q (BT k o q n) t45 t46 t47 t48 t49 t50 t51 t52 t53 t54 m5 t55 t56 t57 t58
def Mr(t63:List (Bool))(t62:Int)(o:Int->(List (Bool))->Option cg)(t64:Bool):Option cg:=
 Option.bind (aq t63 t62) fun q=>
 o (aj (t62+(1:Int))) (List.set t63 (t62).toNat t64)
def MM(v4:cg)(o:Int->(List (Bool))->Option cg)(t62:Int)(t63:List (Bool)):Option cg:=
 if decide (t62<(List.length v4.2.2.2.2.2.2.2.2.2.2.2.2.2:Int))then
  (
   Option.bind (aq v4.2.2.2.2.2.2.2.2.2.2.2.2.2 t62) fun q=>
   Option.bind (aq t63 t62) fun L=>
   Mr t63 t62 o (L||q)
  )
 else
  j7 v4.1 v4.2.1 v4.2.2.1 v4.2.2.2.1 v4.2.2.2.2.1 v4.2.2.2.2.2.1 v4.2.2.2.2.2.2.1 v4.2.2.2.2.2.2.2.1 v4.2.2.2.2.2.2.2.2.1 v4.2.2.2.2.2.2.2.2.2.1 v4.2.2.2.2.2.2.2.2.2.2.1 v4.2.2.2.2.2.2.2.2.2.2.2.1 t63 v4.2.2.2.2.2.2.2.2.2.2.2.2.2
def Cu(v4:cg):Nat->Int->(List (Bool))->Option cg
 |0,_,_=>none
 |n+1,t62,t63=>MM v4 (Cu v4 n) t62 t63
def yJ(o:Bool->Int->(List (Bool))->Option cg)(t78:Int)(q:Bool)(t80:List (Bool)):Option cg:=
 o q (aj (t78+(1:Int))) t80
def A2(t79:List (Bool))(t78:Int)(o:Bool->Int->(List (Bool))->Option cg)(q:Bool)(t81:Bool):Option cg:=
 if t81 then
  (
   Option.bind (aq t79 t78) fun L=>
   yJ o t78 true (List.set t79 (t78).toNat true)
  )
 else
  yJ o t78 q t79
def VR(v5:cg)(t77:List (Bool))(L:Int->Int->Int->Int->(List (Int))->aN->(List (Int))->(List UInt8)->aJ->ck->aN->aN->Int->Bool->cq->aG->aJ->(List (Bool))->(List (Bool))->Option cg)(O:Int)(R:Int)(n3:Int)(n4:Int)(U:List (Int))(q:Bool->Int->(List (Bool))->Option cg)(o:Bool)(t78:Int)(t79:List (Bool)):Option cg:=
 if decide (t78<(List.length v5.2.2.2.2.2.2.2.2.2.2.2.2.1:Int))then
  (
   Option.bind (aq v5.2.2.2.2.2.2.2.2.2.2.2.2.1 t78) fun W=>
   if W then
    (
     Option.bind (aq t79 t78) fun Y=>
     A2 t79 t78 q o (!Y)
    )
   else
    A2 t79 t78 q o false
  )
 else
  (
   if !o then
    j7 v5.1 v5.2.1 v5.2.2.1 v5.2.2.2.1 v5.2.2.2.2.1 v5.2.2.2.2.2.1 v5.2.2.2.2.2.2.1 v5.2.2.2.2.2.2.2.1 v5.2.2.2.2.2.2.2.2.1 v5.2.2.2.2.2.2.2.2.2.1 v5.2.2.2.2.2.2.2.2.2.2.1 v5.2.2.2.2.2.2.2.2.2.2.2.1 t79 t77
   else
    L O R n3 n4 U v5.1 v5.2.1 v5.2.2.1 v5.2.2.2.1 v5.2.2.2.2.1 v5.2.2.2.2.2.1 v5.2.2.2.2.2.2.1 v5.2.2.2.2.2.2.2.1 v5.2.2.2.2.2.2.2.2.1 v5.2.2.2.2.2.2.2.2.2.1 v5.2.2.2.2.2.2.2.2.2.2.1 v5.2.2.2.2.2.2.2.2.2.2.2.1 t79 t77
  )
def Ay(v5:cg)(t77:List (Bool))(o:Int->Int->Int->Int->(List (Int))->aN->(List (Int))->(List UInt8)->aJ->ck->aN->aN->Int->Bool->cq->aG->aJ->(List (Bool))->(List (Bool))->Option cg)(q:Int)(L:Int)(n3:Int)(n4:Int)(O:List (Int)):Nat->Bool->Int->(List (Bool))->Option cg
 |0,_,_,_=>none
 |n+1,R,t78,t79=>VR v5 t77 o q L n3 n4 O (Ay v5 t77 o q L n3 n4 O n) R t78 t79
def Sl(k:Nat)(q:Int->aN->(List (Int))->(List UInt8)->aJ->ck->aN->aN->Int->Bool->cq->aG->aJ->(List (Bool))->Option cg)(L:Int->Int->Int->Int->(List (Int))->aN->(List (Int))->(List UInt8)->aJ->ck->aN->aN->Int->Bool->cq->aG->aJ->(List (Bool))->(List (Bool))->Option cg)(O:Int)(R:Int)(n3:Int)(n4:Int)(o:List (Int))(t65:List aD)(t66:List (Int))(t67:List UInt8)(t68:List aw)(t69:List bG)(t70:List aD)(t71:List aD)(t72:Int)(t73:Bool)(m6:List bY)(t74:List (List UInt8))(t75:List aw)(t76:List (Bool))(t77:List (Bool)):Option cg:=
 Option.bind (aq o (0:Int)) fun U=>
 Option.bind (q U t65 t66 t67 t68 t69 t70 t71 t72 t73 m6 t74 t75 t76) fun v5=>
 Ay v5 t77 L O R n3 n4 o k false (0:Int) v5.2.2.2.2.2.2.2.2.2.2.2.2.2
def CM(k:Nat)(o:Int->aN->(List (Int))->(List UInt8)->aJ->ck->aN->aN->Int->Bool->cq->aG->aJ->(List (Bool))->Option cg):Nat->Int->Int->Int->Int->(List (Int))->aN->(List (Int))->(List UInt8)->aJ->ck->aN->aN->Int->Bool->cq->aG->aJ->(List (Bool))->(List (Bool))->Option cg
 |0,_,_,_,_,_,_,_,_,_,_,_,_,_,_,_,_,_,_,_=>none
 |n+1,q,L,n3,n4,O,t65,t66,t67,t68,t69,t70,t71,t72,t73,m6,t74,t75,t76,t77=>Sl k o (CM k o n) q L n3 n4 O t65 t66 t67 t68 t69 t70 t71 t72 t73 m6 t74 t75 t76 t77
def sR(k:Nat)(c2:List (Int))(l1:List (Bool))(o:fy)(c3:List UInt8)(q:List aw)(c5:List bG)(L:List aD)(O:List aD)(R:Int)(U:Bool)(m1:List bY)(W:List (List UInt8))(Y:List aw)(Z:List aD)(la:Int->aN->(List (Int))->(List UInt8)->aJ->ck->aN->aN->Int->Bool->cq->aG->aJ->(List (Bool))->Option cg)(t27:Bool):Option cg:=
 if t27 then
  wr k c2 l1 o c3 q c5 L O R U m1 W Y Z k (0:Int) (List.replicate (aj ((List.length c2:Int)+(1:Int))).toNat false)
 else
  (
   if o.1==(5:Int)then
    (
     Option.bind (aq l1 (0:Int)) fun lb=>
     Option.bind (aq (List.replicate (aj ((List.length c2:Int)+(1:Int))).toNat false) (0:Int)) fun le=>
     Option.bind (aq l1 (List.length c2:Int)) fun lc=>
     Option.bind (aq (List.set (List.replicate (aj ((List.length c2:Int)+(1:Int))).toNat false) ((0:Int)).toNat lb) (List.length c2:Int)) fun lf=>
     j7 Z c2 c3 q c5 L O R U m1 W Y (List.set (List.set (List.replicate (aj ((List.length c2:Int)+(1:Int))).toNat false) ((0:Int)).toNat lb) ((List.length c2:Int)).toNat lc) l1
    )
   else
    (
     if o.1==(6:Int)then
      (
       Option.bind (aL (List.length l1<=List.length (List.replicate (aj ((List.length c2:Int)+(1:Int))).toNat false))) fun _=>
       xN o la l1 k (0:Int) Z c2 c3 q c5 L O R U m1 W Y (l1++List.drop (List.length l1) (List.replicate (aj ((List.length c2:Int)+(1:Int))).toNat false))
      )
     else
      (
       if o.1==(7:Int)then
        BT k o la k (0:Int) Z c2 c3 q c5 L O R U m1 W Y (List.replicate (aj ((List.length c2:Int)+(1:Int))).toNat false) l1
       else
        (
         if o.1==(9:Int)then
          (
           Option.bind (aq o.2.2.2.2.1 (0:Int)) fun ld=>
           Option.bind (la ld Z c2 c3 q c5 L O R U m1 W Y l1) fun v4=>
           Option.bind (aL (List.length v4.2.2.2.2.2.2.2.2.2.2.2.2.1<=List.length (List.replicate (aj ((List.length c2:Int)+(1:Int))).toNat false))) fun _=>
           Cu v4 k (0:Int) (v4.2.2.2.2.2.2.2.2.2.2.2.2.1++List.drop (List.length v4.2.2.2.2.2.2.2.2.2.2.2.2.1) (List.replicate (aj ((List.length c2:Int)+(1:Int))).toNat false))
          )
         else
          (
           if o.1==(8:Int)then
            (
             Option.bind (aL (List.length l1<=List.length (List.replicate (aj ((List.length c2:Int)+(1:Int))).toNat false))) fun _=>
             CM k la k o.1 o.2.1 o.2.2.1 o.2.2.2.1 o.2.2.2.2.1 Z c2 c3 q c5 L O R U m1 W Y (l1++List.drop (List.length l1) (List.replicate (aj ((List.length c2:Int)+(1:Int))).toNat false)) l1
            )
           else
            j7 Z c2 c3 q c5 L O R U m1 W Y (List.replicate (aj ((List.length c2:Int)+(1:Int))).toNat false) l1
          )
        )
      )
    )
  )
def iZ:Nat->Int->aN->(List (Int))->(List UInt8)->aJ->ck->aN->aN->Int->Bool->cq->aG->aJ->(List (Bool))->Option cg
 |0,_,_,_,_,_,_,_,_,_,_,_,_,_,_=>none
 |k+1,la,q,c2,c3,L,c5,O,R,U,W,m1,Y,Z,l1=>
  Option.bind (aq q la) fun o=>
  Option.bind (aL (0<=(aj ((List.length c2:Int)+(1:Int)))/\(aj ((List.length c2:Int)+(1:Int)))<=(aj ((List.length c2:Int)+(1:Int)))/\(aj ((List.length c2:Int)+(1:Int)))<=(br:Int))) fun _=>
  if o.1==(1:Int)then
   (
    Option.bind (aL (List.length l1<=List.length (List.replicate (aj ((List.length c2:Int)+(1:Int))).toNat false))) fun _=>
    j7 q c2 c3 L c5 O R U W m1 Y Z (l1++List.drop (List.length l1) (List.replicate (aj ((List.length c2:Int)+(1:Int))).toNat false)) l1
   )
  else
   (
    if o.1==(2:Int)then
     sR k c2 l1 o c3 L c5 O R U W m1 Y Z q (iZ k) (o.1==(2:Int))
    else
     (
      if o.1==(3:Int)then
       sR k c2 l1 o c3 L c5 O R U W m1 Y Z q (iZ k) (o.1==(3:Int))
      else
       sR k c2 l1 o c3 L c5 O R U W m1 Y Z q (iZ k) (o.1==(4:Int))
     )
   )
def pC(k:Nat)(o:eC)(l1:List (Int))(q:List UInt8)(c2:List aw)(c3:List bG)(L:List aD)(c5:List aD)(O:Int)(R:Bool)(m1:List bY)(U:List (List UInt8))(W:List aw)(l2:List (Bool)):Option xj:=
 Option.bind (iZ k (0:Int) o.1 l1 q c2 c3 L c5 O R m1 U W l2) fun v1=>
 some (v1.2.2.1,v1.2.2.2.1,v1.2.2.2.2.1,v1.2.2.2.2.2.1,v1.2.2.2.2.2.2.1,v1.2.2.2.2.2.2.2.1,v1.2.2.2.2.2.2.2.2.1,v1.2.2.2.2.2.2.2.2.2.1,v1.2.2.2.2.2.2.2.2.2.2.1,v1.2.2.2.2.2.2.2.2.2.2.2.1,v1.2.2.2.2.2.2.2.2.2.2.2.2.1,v1.2.2.2.2.2.2.2.2.2.2.2.2.2)
def Rf(k:Nat)(l1:List (Int))(q:List aD)(L:List UInt8)(c2:List aw)(c3:List bG)(c5:List aD)(O:Int)(R:Bool)(m1:List bY)(U:List (List UInt8))(W:List aw)(o:Int)(aP:Int->(List (Bool))->Option fY)(t11:Int)(t12:List (Bool)):Option fY:=
 if decide (t11<(List.length (List.replicate (aj ((List.length l1:Int)+(1:Int))).toNat false):Int))then
  (
   Option.bind (aq t12 t11) fun Z=>
   aP (aj (t11+(1:Int))) (List.set t12 (t11).toNat true)
  )
 else
  (
   Option.bind (pC k (q,()) l1 L c2 c3 q c5 O R m1 U W t12) fun v2=>
   Option.bind (aq v2.2.2.2.2.2.2.2.2.2.2.1 o) fun Y=>
   if !Y then
    some (false,v2.1,v2.2.1,v2.2.2.1,v2.2.2.2.1,v2.2.2.2.2.1,v2.2.2.2.2.2.1,v2.2.2.2.2.2.2.1,v2.2.2.2.2.2.2.2.1,v2.2.2.2.2.2.2.2.2.1,v2.2.2.2.2.2.2.2.2.2.1)
   else
    (
     Option.bind (aq (List.replicate (List.length v2.2.2.2.2.2.2.2.2.2.2.2) false) (aj (o+(List.length c2:Int)))) fun la=>
     Option.bind (pC k (v2.2.2.2.2.1,()) l1 v2.1 v2.2.1 v2.2.2.1 v2.2.2.2.1 v2.2.2.2.2.1 v2.2.2.2.2.2.1 v2.2.2.2.2.2.2.1 v2.2.2.2.2.2.2.2.1 v2.2.2.2.2.2.2.2.2.1 v2.2.2.2.2.2.2.2.2.2.1 (List.set (List.replicate (List.length v2.2.2.2.2.2.2.2.2.2.2.2) false) (aj (o+(List.length c2:Int))).toNat true)) fun v3=>
     Option.bind (Bj k v3.2.2.2.2.2.2.2.2.2.2.1 true) fun v4=>
     some (v4,v3.1,v3.2.1,v3.2.2.1,v3.2.2.2.1,v3.2.2.2.2.1,v3.2.2.2.2.2.1,v3.2.2.2.2.2.2.1,v3.2.2.2.2.2.2.2.1,v3.2.2.2.2.2.2.2.2.1,v3.2.2.2.2.2.2.2.2.2.1)
    )
  )
def DG(k:Nat)(l1:List (Int))(o:List aD)(q:List UInt8)(c2:List aw)(c3:List bG)(c5:List aD)(L:Int)(O:Bool)(m1:List bY)(R:List (List UInt8))(U:List aw)(W:Int):Nat->Int->(List (Bool))->Option fY
 |0,_,_=>none
 |n+1,t11,t12=>Rf k l1 o q c2 c3 c5 L O m1 R U W (DG k l1 o q c2 c3 c5 L O m1 R U W n) t11 t12
def SF(k:Nat)(c2:List aw)(l1:List (Int))(Y:Int)(o:List UInt8)(c3:List bG)(q:List aD)(c5:List aD)(L:Int)(O:Bool)(m1:List bY)(R:List (List UInt8))(U:List aw)(Z:Int->Option fY)(t10:Int):Option fY:=
 if decide (t10<(List.length c2:Int))then
  (
   Option.bind (aq c2 t10) fun W=>
   Option.bind (aq l1 (aj (Y+t10))) fun la=>
   Option.bind (qW k la W.1 W.2.1 W.2.2.1 o c2 c3 q c5 L O m1 R U) fun v1=>
   if !v1 then
    some (false,o,c2,c3,q,c5,L,O,m1,R,U)
   else
    Z (aj (t10+(1:Int)))
  )
 else
  (
   Option.bind (aL (0<=(aj ((List.length l1:Int)+(1:Int)))/\(aj ((List.length l1:Int)+(1:Int)))<=(aj ((List.length l1:Int)+(1:Int)))/\(aj ((List.length l1:Int)+(1:Int)))<=(br:Int))) fun _=>
   DG k l1 q o c2 c3 c5 L O m1 R U Y k (0:Int) (List.replicate (aj ((List.length l1:Int)+(1:Int))).toNat false)
  )
def zI(k:Nat)(c2:List aw)(l1:List (Int))(o:Int)(q:List UInt8)(c3:List bG)(L:List aD)(c5:List aD)(O:Int)(R:Bool)(m1:List bY)(U:List (List UInt8))(W:List aw):Nat->Int->Option fY
 |0,_=>none
 |n+1,t10=>SF k c2 l1 o q c3 L c5 O R m1 U W (zI k c2 l1 o q c3 L c5 O R m1 U W n) t10
def nQ(k:Nat)(l1:List (Int))(o:Int)(q:List UInt8)(c2:List aw)(c3:List bG)(L:List aD)(c5:List aD)(O:Int)(R:Bool)(m1:List bY)(U:List (List UInt8))(W:List aw):Option fY:=
 if decide ((List.length l1:Int)<(aj (o+(List.length c2:Int))))then
  some (false,q,c2,c3,L,c5,O,R,m1,U,W)
 else
  zI k c2 l1 o q c3 L c5 O R m1 U W k (0:Int)
def xJ(o:Int->aG->aJ->(List UInt8)->aJ->ck->aN->aN->Int->Bool->cq->aA->Option oE)(t1:Int)(t11:List (List UInt8))(t12:List aw)(t13:List UInt8)(t14:List aw)(t15:List bG)(t16:List aD)(t17:List aD)(t18:Int)(t19:Bool)(m2:List bY)(q:List bz):Option oE:=
 o (aj (t1+(1:Int))) t11 t12 t13 t14 t15 t16 t17 t18 t19 m2 q
def XL(k:Nat)(v2:bF)(q:dp)(L:Int->aG->aJ->(List UInt8)->aJ->ck->aN->aN->Int->Bool->cq->aA->Option oE)(t1:Int)(t2:List (List UInt8))(t3:List aw)(t4:List UInt8)(t5:List aw)(t6:List bG)(t7:List aD)(t8:List aD)(t9:Int)(t10:Bool)(m1:List bY)(o:List bz):Option oE:=
 if decide (t1<(aj ((List.length v2.1:Int)+(1:Int))))then
  (
   Option.bind (nQ k v2.1 t1 t4 t5 t6 t7 t8 t9 t10 m1 t2 t3) fun v4=>
   if v4.1 then
    (
     Option.bind (aL (List.length o+List.length ([(t1,aj (t1+(List.length q.2.1:Int)),())]:List bz)<=br)) fun _=>
     xJ L t1 v4.2.2.2.2.2.2.2.2.2.1 v4.2.2.2.2.2.2.2.2.2.2 v4.2.1 v4.2.2.1 v4.2.2.2.1 v4.2.2.2.2.1 v4.2.2.2.2.2.1 v4.2.2.2.2.2.2.1 v4.2.2.2.2.2.2.2.1 v4.2.2.2.2.2.2.2.2.1 (o++([(t1,aj (t1+(List.length q.2.1:Int)),())]:List bz))
    )
   else
    xJ L t1 v4.2.2.2.2.2.2.2.2.2.1 v4.2.2.2.2.2.2.2.2.2.2 v4.2.1 v4.2.2.1 v4.2.2.2.1 v4.2.2.2.2.1 v4.2.2.2.2.2.1 v4.2.2.2.2.2.2.1 v4.2.2.2.2.2.2.2.1 v4.2.2.2.2.2.2.2.2.1 o
  )
 else
  some (o,(0:Int))
def zd(k:Nat)(v2:bF)(o:dp):Nat->Int->aG->aJ->(List UInt8)->aJ->ck->aN->aN->Int->Bool->cq->aA->Option oE
 |0,_,_,_,_,_,_,_,_,_,_,_,_=>none
 |n+1,t1,t2,t3,t4,t5,t6,t7,t8,t9,t10,m1,q=>XL k v2 o (zd k v2 o n) t1 t2 t3 t4 t5 t6 t7 t8 t9 t10 m1 q
def K5(k:Nat)(q:aC)(o:dp)(L:List UInt8):Option oE:=
 Option.bind (rq k (q.1,q.2.1,()) (o.1,o.2.1,o.2.2.1,(o.2.2.2.1.1,()),(o.2.2.2.2.1.1,()),o.2.2.2.2.2.1,o.2.2.2.2.2.2.1,())) fun v1=>
 if v1 !=(0:Int)then
  some (([]:List bz),v1)
 else
  (
   Option.bind (FD k (q.1,q.2.1,()) L) fun v2=>
   if v2.2 !=(0:Int)then
    some (([]:List bz),v2.2)
   else
    (
     Option.bind (jF k (q.1,q.2.1,()) (o.1,o.2.1,o.2.2.1,(o.2.2.2.1.1,()),(o.2.2.2.2.1.1,()),o.2.2.2.2.2.1,o.2.2.2.2.2.2.1,())) fun v3=>
     zd k v2 o k (0:Int) v3.1 v3.2.1 v3.2.2.2.1 v3.2.2.2.2.1 v3.2.2.2.2.2.1 v3.2.2.2.2.2.2.1 v3.2.2.2.2.2.2.2.1 v3.2.2.2.2.2.2.2.2.1 v3.2.2.2.2.2.2.2.2.2 v3.2.2.1 ([]:List bz)
    )
  )
def E5(k:Nat)(o:aC)(q:List UInt8):Option Int:=
 Option.bind (Gl k (o.1,o.2.1,())) fun v1=>
 Option.bind (K5 k (o.1,o.2.1,()) v1 q) fun v2=>
 some (v2.2)
def DK(k:Nat)(o:aC)(q:List UInt8)(l1:List fA):Option Int:=
 Option.bind (wX k (o.1,o.2.1,()) l1) fun v1=>
 if v1 !=(0:Int)then
  some (v1)
 else
  (
   Option.bind (E5 k (o.1,o.2.1,()) q) fun v2=>
   some (v2)
  )
def Wz(k:Nat)(q:aC)(v1:(Int×Int))(o:List (Int))(L:List UInt8)(O:(List UInt8)->(List (Int))->Option (Int×List (Int)))(t2:Bool):Option (Int×List (Int)):=
 if t2 then
  some ((6:Int),([]:List (Int)))
 else
  (
   Option.bind (uL k (q.1,q.2.1,()) v1.1) fun v2=>
   if !v2 then
    some ((5:Int),([]:List (Int)))
   else
    (
     if(List.length o:Int)==(256:Int)then
      some ((4:Int),([]:List (Int)))
     else
      (
       Option.bind (aL (List.length o+List.length ([v1.1]:List (Int))<=br)) fun _=>
       Option.bind (dx L v1.2 (L.length:Int)) fun R=>
       O R (o++([v1.1]:List (Int)))
      )
    )
  )
def Vl(k:Nat)(L:aC)(O:(List UInt8)->(List (Int))->Option (Int×List (Int)))(o:List UInt8)(q:List (Int)):Option (Int×List (Int)):=
 if !(o==([]:List UInt8))then
  (
   Option.bind (utf8_DecodeRuneInString k o) fun v1=>
   Wz k L v1 q o O ((v1.1==(65533:Int))&&(v1.2==(1:Int)))
  )
 else
  some ((0:Int),q)
def Cw(k:Nat)(o:aC):Nat->(List UInt8)->(List (Int))->Option (Int×List (Int))
 |0,_,_=>none
 |n+1,q,L=>Vl k o (Cw k o n) q L
def pl(k:Nat)(o:aC)(q:List UInt8):Option (Int×List (Int)):=
 Cw k o k q ([]:List (Int))
def xA(o:Int->(List UInt8)->aJ->ck->aN->aN->Int->Bool->cq->aG->aJ->(List (Bool))->Option gA)(i2:Int)(t21:List UInt8)(t22:List aw)(t23:List bG)(t24:List aD)(t25:List aD)(t26:Int)(t27:Bool)(m4:List bY)(t28:List (List UInt8))(t29:List aw)(t30:List (Bool)):Option gA:=
 o (aj (i2+(1:Int))) t21 t22 t23 t24 t25 t26 t27 m4 t28 t29 t30
def Xh(k:Nat)(l1:List (Int))(o:Int->(List UInt8)->aJ->ck->aN->aN->Int->Bool->cq->aG->aJ->(List (Bool))->Option gA)(i1:Int)(t11:List UInt8)(t12:List aw)(t13:List bG)(t14:List aD)(t15:List aD)(t16:Int)(t17:Bool)(m3:List bY)(t18:List (List UInt8))(t19:List aw)(t20:List (Bool)):Option gA:=
 if decide (i1<=(List.length l1:Int))then
  (
   Option.bind (nQ k l1 i1 t11 t12 t13 t14 t15 t16 t17 m3 t18 t19) fun v1=>
   if v1.1 then
    (
     Option.bind (aq t20 i1) fun q=>
     xA o (aj (i1+(sd (0:Int) (aj ((List.length v1.2.2.1:Int)-(1:Int)))))) v1.2.1 v1.2.2.1 v1.2.2.2.1 v1.2.2.2.2.1 v1.2.2.2.2.2.1 v1.2.2.2.2.2.2.1 v1.2.2.2.2.2.2.2.1 v1.2.2.2.2.2.2.2.2.1 v1.2.2.2.2.2.2.2.2.2.1 v1.2.2.2.2.2.2.2.2.2.2 (List.set t20 (i1).toNat true)
    )
   else
    xA o i1 v1.2.1 v1.2.2.1 v1.2.2.2.1 v1.2.2.2.2.1 v1.2.2.2.2.2.1 v1.2.2.2.2.2.2.1 v1.2.2.2.2.2.2.2.1 v1.2.2.2.2.2.2.2.2.1 v1.2.2.2.2.2.2.2.2.2.1 v1.2.2.2.2.2.2.2.2.2.2 t20
  )
 else
  some (t11,t12,t13,t14,t15,t16,t17,m3,t18,t19,t20)
def zR(k:Nat)(l1:List (Int)):Nat->Int->(List UInt8)->aJ->ck->aN->aN->Int->Bool->cq->aG->aJ->(List (Bool))->Option gA
 |0,_,_,_,_,_,_,_,_,_,_,_,_=>none
 |n+1,i1,t11,t12,t13,t14,t15,t16,t17,m3,t18,t19,t20=>Xh k l1 (zR k l1 n) i1 t11 t12 t13 t14 t15 t16 t17 m3 t18 t19 t20
def vo(k:Nat)(l1:List (Int))(o:List UInt8)(c2:List aw)(c3:List bG)(q:List aD)(c5:List aD)(L:Int)(O:Bool)(m1:List bY)(R:List (List UInt8))(U:List aw):Option gA:=
 Option.bind (aL (0<=(aj ((List.length l1:Int)+(1:Int)))/\(aj ((List.length l1:Int)+(1:Int)))<=(aj ((List.length l1:Int)+(1:Int)))/\(aj ((List.length l1:Int)+(1:Int)))<=(br:Int))) fun _=>
 zR k l1 k (0:Int) o c2 c3 q c5 L O m1 R U (List.replicate (aj ((List.length l1:Int)+(1:Int))).toNat false)
def Qb(q:List UInt8)(O:Int->Nat->Option Int)(L:Int)(o:Nat):Option Int:=
 if decide (o<List.length q)then
  O (aj (L+(1:Int))) (o+iX q o)
 else
  some (L)
def yt(o:List UInt8):Nat->Int->Nat->Option Int
 |0,_,_=>none
 |n+1,q,L=>Qb o (yt o n) q L
def od(k:Nat)(o:List UInt8):Option Int:=
 yt o k (0:Int) 0
def GK(k:Nat)(L:List UInt8)(o:Int)(t1:List (Bool)):Option Bool:=
 Option.bind (aq t1 o) fun q=>
 some (q)
def LH(k:Nat)(o:cz)(q:cz)(t1:cz):Option Int:=
 Option.bind (tq k (o.1,o.2.1,o.2.2.1,()) t1) fun v1=>
 Option.bind (tq k (q.1,q.2.1,q.2.2.1,()) t1) fun v2=>
 some (aj (v1-v2))
def yg(o:Int->Int->Int->Int->Option cz)(i1:Int)(m4:Int)(m5:Int)(m6:Int):Option cz:=
 o (aj (i1+(1:Int))) m4 m5 m6
def Pl(k:Nat)(q:List aw)(O:(cz×Unit))(L:Int->Int->Int->Int->Option cz)(i1:Int)(m1:Int)(m2:Int)(m3:Int):Option cz:=
 if decide (i1<(List.length q:Int))then
  (
   Option.bind (aq q i1) fun o=>
   Option.bind (LH k o (m1,m2,m3,()) O.1) fun v1=>
   if decide (v1<(0:Int))then
    yg L i1 o.1 o.2.1 o.2.2.1
   else
    yg L i1 m1 m2 m3
  )
 else
  some ((m1,m2,m3,()))
def AC(k:Nat)(o:List aw)(q:(cz×Unit)):Nat->Int->Int->Int->Int->Option cz
 |0,_,_,_,_=>none
 |n+1,i1,m1,m2,m3=>Pl k o q (AC k o q n) i1 m1 m2 m3
def F2(k:Nat)(o:List aw)(L:(cz×Unit)):Option cz:=
 if decide ((List.length o:Int)<(1:Int))then
  none
 else
  (
   Option.bind (aq o (0:Int)) fun q=>
   AC k o L k (1:Int) q.1 q.2.1 q.2.2.1
  )
def JV(k:Nat)(o:aC)(O:Int)(q:Int)(L:Int):Option (Int×Int):=
 Option.bind (fK k (o.1,o.2.1,()) O) fun v1=>
 if v1.2 !=(0:Int)then
  some ((0:Int),v1.2)
 else
  (
   Option.bind (kV k (o.1,o.2.1,()) q L) fun v2=>
   if !v2 then
    some ((0:Int),(20:Int))
   else
    (
     Option.bind (F2 k o.2.1 ((v1.1.1,cA (BitVec.toNat (BitVec.ofInt 32 (cA (BitVec.toNat (BitVec.ofInt 32 v1.1.2.1&&&~~~BitVec.ofInt 32 L)))|||BitVec.ofInt 32 q)),cA (BitVec.toNat (BitVec.ofInt 32 (cA (BitVec.toNat (BitVec.ofInt 32 v1.1.2.2.1&&&~~~BitVec.ofInt 32 q)))|||BitVec.ofInt 32 L)),()),())) fun v3=>
     some (v3.1,(0:Int))
    )
  )
def Ft(k:Nat)(q:Int)(o:nf)(t1:aC):Option Int:=
 Option.bind (JV k t1 q o.2.2.1 o.2.2.2.1) fun v1=>
 some (v1.1)
def DO(o:Int->(List (Int))->Option (List (Int)))(t1:Int)(q:List (Int)):Option (List (Int)):=
 o (aj (t1+(1:Int))) q
def Mo(k:Nat)(c3:List bG)(O:List (Int))(R:List (List UInt8))(U:List aw)(L:Int->(List (Int))->Option (List (Int)))(t1:Int)(q:List (Int)):Option (List (Int)):=
 if decide (t1<(List.length c3:Int))then
  (
   Option.bind (aq c3 t1) fun o=>
   if o.1 !=(0:Int)then
    (
     Option.bind (aL (List.length q+List.length ([o.1]:List (Int))<=br)) fun _=>
     DO L t1 (q++([o.1]:List (Int)))
    )
   else
    (
     Option.bind (aq O o.2.1) fun W=>
     Option.bind (Ft k W (o.1,o.2.1,o.2.2.1,o.2.2.2.1,()) (R,U,())) fun v1=>
     Option.bind (aL (List.length q+List.length ([v1]:List (Int))<=br)) fun _=>
     DO L t1 (q++([v1]:List (Int)))
    )
  )
 else
  some q
def A8(k:Nat)(c3:List bG)(o:List (Int))(q:List (List UInt8))(L:List aw):Nat->Int->(List (Int))->Option (List (Int))
 |0,_,_=>none
 |n+1,t1,O=>Mo k c3 o q L (A8 k c3 o q L n) t1 O
def pO(k:Nat)(o:List (Int))(O:List UInt8)(c2:List aw)(c3:List bG)(R:List aD)(c5:List aD)(U:Int)(W:Bool)(m1:List bY)(q:List (List UInt8))(L:List aw):Option (List (Int)):=
 A8 k c3 o q L k (0:Int) ([]:List (Int))
def uG(t12:Int)(o:List eI)(q:ef->bQ->bQ->Option b6)(L:bw)(O:List UInt8):Option b6:=
 Option.bind (aL (0<=(aj (t12+(1:Int)))/\(aj (t12+(1:Int)))<(List.length o:Int))) fun _=>
 Option.bind (iB o (aj (t12+(1:Int)))) fun U=>
 Option.bind (kX o (aj (t12+(1:Int)))) fun R=>
 q (List.set o (aj (t12+(1:Int))).toNat (some (some (cm (aQ .str) R O true)))) ([]:List bw) [L]
def A5(t12:Int)(l1:List (Int))(o:bw)(q:List eI)(L:ef->bQ->bQ->Option b6)(t23:Bool):Option b6:=
 if t23 then
  (
   if decide (t12<(List.length l1:Int))then
    (
     Option.bind (aq l1 t12) fun O=>
     Option.bind (aL (List.length o.1+List.length ((Utf8.encode O).data.toList)<=br)) fun _=>
     uG t12 q L o (o.1++((Utf8.encode O).data.toList))
    )
   else
    uG t12 q L o o.1
  )
 else
  L q ([]:List bw) [o]
def vd(t12:Int)(l1:List (Int))(o:bw)(q:ef->bQ->bQ->Option b6)(v3:Bool)(L:Bool)(O:List eI):Option b6:=
 A5 t12 l1 o O q ((!v3)||L)
def vg(q:List eI)(t12:Int)(l1:List (Int))(L:bw)(O:ef->bQ->bQ->Option b6)(v3:Bool)(R:Bool)(U:List UInt8)(o:Int):Option b6:=
 Option.bind (aL (0<=o/\o<(List.length q:Int))) fun _=>
 Option.bind (iB q o) fun Y=>
 Option.bind (kX q o) fun W=>
 vd t12 l1 L O v3 R (List.set q (o).toNat (some (some (cm (aQ .str) W U true))))
def rW(o:List eI)(t12:Int)(l1:List (Int))(q:bw)(L:ef->bQ->bQ->Option b6)(v3:Bool)(O:Bool)(v1:gA)(R:List UInt8):Option b6:=
 vg o t12 l1 q L v3 O R (aj ((aj (t12+(List.length v1.2.1:Int)))+(1:Int)))
def xU(k:Nat)(aP:Int->ef->(List UInt8)->aJ->ck->aN->aN->Int->Bool->cq->aG->aJ->(List (Bool))->Option b6)(t12:Int)(t13:List UInt8)(t14:List aw)(t15:List bG)(t16:List aD)(t17:List aD)(t18:Int)(t19:Bool)(m3:List bY)(t20:List (List UInt8))(t21:List aw)(t22:List (Bool))(l1:List (Int))(v1:gA)(L:Bool)(O:ef->bQ->bQ->Option b6)(q:List eI)(U:List bw)(Y:List bw):Option b6:=
 oq U (
  aP (aj (t12+(1:Int))) q t13 t14 t15 t16 t17 t18 t19 m3 t20 t21 t22
 ) fun o=>
 Option.bind (od k o.1) fun v2=>
 if decide ((256:Int)<(aj ((aj (v2+(List.length l1:Int)))-t12)))then
  some ((9:Int),t13,t14,t15,t16,t17,t18,t19,m3,t20,t21,([]:List (List UInt8)))
 else
  (
   Option.bind (GK k o.1 t12 t22) fun v3=>
   if v3 then
    (
     Option.bind (dx l1 t12 (aj (t12+(List.length v1.2.1:Int)))) fun W=>
     Option.bind (pO k W t13 t14 t15 t16 t17 t18 t19 m3 t20 t21) fun v4=>
     Option.bind (aL (List.length (cS v4)<=br)) fun _=>
     Option.bind (aL (List.length o.1+List.length (cS v4)<=br)) fun _=>
     if(List.length v1.2.1:Int)==(0:Int)then
      (
       if decide (t12<(List.length l1:Int))then
        (
         Option.bind (aq l1 t12) fun R=>
         Option.bind (aL (List.length (o.1++(cS v4))+List.length ((Utf8.encode R).data.toList)<=br)) fun _=>
         rW q t12 l1 o O v3 L v1 ((o.1++(cS v4))++((Utf8.encode R).data.toList))
        )
       else
        rW q t12 l1 o O v3 L v1 (o.1++(cS v4))
      )
     else
      vg q t12 l1 o O v3 L (o.1++(cS v4)) (aj (t12+(List.length v1.2.1:Int)))
    )
   else
    vd t12 l1 o O v3 L q
  )
def kI(k:Nat)(aP:Int->ef->(List UInt8)->aJ->ck->aN->aN->Int->Bool->cq->aG->aJ->(List (Bool))->Option b6)(t12:Int)(t13:List UInt8)(t14:List aw)(t15:List bG)(t16:List aD)(t17:List aD)(t18:Int)(t19:Bool)(m3:List bY)(t20:List (List UInt8))(t21:List aw)(t22:List (Bool))(l1:List (Int))(v1:gA)(o:Bool):Nat->ef->bQ->bQ->Option b6
 |0,_,_,_=>none
 |n+1,q,L,O=>xU k aP t12 t13 t14 t15 t16 t17 t18 t19 m3 t20 t21 t22 l1 v1 o (kI k aP t12 t13 t14 t15 t16 t17 t18 t19 m3 t20 t21 t22 l1 v1 o n) q L O
def Eo(k:Nat)(t13:List UInt8)(t14:List aw)(t15:List bG)(t16:List aD)(t17:List aD)(t18:Int)(t19:Bool)(m3:List bY)(t20:List (List UInt8))(t21:List aw)(L:bQ->bQ->aG->Option b6)(O:List bw)(gu:List bw)(q:List (List UInt8)):Option b6:=
 oq O (
  some ((0:Int),t13,t14,t15,t16,t17,t18,t19,m3,t20,t21,q)
 ) fun o=>
 Option.bind (od k o.1) fun v5=>
 if decide ((256:Int)<v5)then
  some ((9:Int),t13,t14,t15,t16,t17,t18,t19,m3,t20,t21,([]:List (List UInt8)))
 else
  (
   Option.bind (aL (List.length q+List.length ([o.1]:List (List UInt8))<=br)) fun _=>
   L ([]:List bw) [o] (q++([o.1]:List (List UInt8)))
  )
def tP(k:Nat)(t13:List UInt8)(t14:List aw)(t15:List bG)(t16:List aD)(t17:List aD)(t18:Int)(t19:Bool)(m3:List bY)(t20:List (List UInt8))(t21:List aw):Nat->bQ->bQ->aG->Option b6
 |0,_,_,_=>none
 |n+1,o,gu,q=>Eo k t13 t14 t15 t16 t17 t18 t19 m3 t20 t21 (tP k t13 t14 t15 t16 t17 t18 t19 m3 t20 t21 n) o gu q
def wo(k:Nat)(l1:List (Int))(v1:gA)(O:Bool)(aP:Int->ef->(List UInt8)->aJ->ck->aN->aN->Int->Bool->cq->aG->aJ->(List (Bool))->Option b6)(t12:Int)(o:List eI)(t13:List UInt8)(t14:List aw)(t15:List bG)(t16:List aD)(t17:List aD)(t18:Int)(t19:Bool)(m3:List bY)(t20:List (List UInt8))(t21:List aw)(t22:List (Bool)):Option b6:=
 if decide (t12<(aj ((List.length l1:Int)+(1:Int))))then
  (
   Option.bind (aL (0<=t12/\t12<(List.length o:Int))) fun _=>
   Option.bind (iB o t12) fun q=>
   if decide ((1024:Int)<(List.length (Option.getD q []):Int))then
    some ((9:Int),t13,t14,t15,t16,t17,t18,t19,m3,t20,t21,([]:List (List UInt8)))
   else
    (
     Option.bind (aL (0<=t12/\t12<(List.length o:Int))) fun _=>
     kI k aP t12 t13 t14 t15 t16 t17 t18 t19 m3 t20 t21 t22 l1 v1 O k (List.set o (t12).toNat none) (q.getD []) ([]:List bw)
    )
  )
 else
  (
   Option.bind (aL (0<=(aj ((List.length l1:Int)+(1:Int)))/\(aj ((List.length l1:Int)+(1:Int)))<(List.length o:Int))) fun _=>
   Option.bind (iB o (aj ((List.length l1:Int)+(1:Int)))) fun L=>
   if decide ((1024:Int)<(List.length (L.getD []):Int))then
    some ((9:Int),t13,t14,t15,t16,t17,t18,t19,m3,t20,t21,([]:List (List UInt8)))
   else
    tP k t13 t14 t15 t16 t17 t18 t19 m3 t20 t21 k (L.getD []) ([]:List bw) ([]:List (List UInt8))
  )
def iF(k:Nat)(l1:List (Int))(v1:gA)(o:Bool):Nat->Int->ef->(List UInt8)->aJ->ck->aN->aN->Int->Bool->cq->aG->aJ->(List (Bool))->Option b6
 |0,_,_,_,_,_,_,_,_,_,_,_,_,_=>none
 |n+1,t12,q,t13,t14,t15,t16,t17,t18,t19,m3,t20,t21,t22=>wo k l1 v1 o (iF k l1 v1 o n) t12 q t13 t14 t15 t16 t17 t18 t19 m3 t20 t21 t22
def xT(k:Nat)(l1:List (Int))(v1:gA)(q:Bool)(L:Int->ef->Option b6)(t11:Int)(o:List eI):Option b6:=
 if decide (t11<(List.length (List.map some (List.replicate (aj ((List.length l1:Int)+(2:Int))).toNat (none:Option bQ))):Int))then
  (
   Option.bind (aL (0<=t11/\t11<(List.length o:Int))) fun _=>
   Option.bind (aL (0<=t11/\t11<(List.length o:Int))) fun _=>
   L (aj (t11+(1:Int))) (List.set o (t11).toNat (some (some ([]:List bw))))
  )
 else
  (
   Option.bind (aL (0<=(0:Int)/\(0:Int)<(List.length o:Int))) fun _=>
   Option.bind (iB o (0:Int)) fun R=>
   Option.bind (kX o (0:Int)) fun O=>
   iF k l1 v1 q k (0:Int) (List.set o ((0:Int)).toNat (some (some (cm (aQ .str) O ([]:List UInt8) true)))) v1.1 v1.2.1 v1.2.2.1 v1.2.2.2.1 v1.2.2.2.2.1 v1.2.2.2.2.2.1 v1.2.2.2.2.2.2.1 v1.2.2.2.2.2.2.2.1 v1.2.2.2.2.2.2.2.2.1 v1.2.2.2.2.2.2.2.2.2.1 v1.2.2.2.2.2.2.2.2.2.2
  )
def uk(k:Nat)(l1:List (Int))(v1:gA)(o:Bool):Nat->Int->ef->Option b6
 |0,_,_=>none
 |n+1,t11,q=>xT k l1 v1 o (uk k l1 v1 o n) t11 q
def o0(k:Nat)(l1:List (Int))(o:Bool)(q:List UInt8)(c2:List aw)(c3:List bG)(L:List aD)(c5:List aD)(O:Int)(R:Bool)(m1:List bY)(U:List (List UInt8))(W:List aw):Option b6:=
 Option.bind (vo k l1 q c2 c3 L c5 O R m1 U W) fun v1=>
 Option.bind (aL (0<(aj ((List.length l1:Int)+(2:Int))))) fun _=>
 Option.bind (aL (0<=(aj ((List.length l1:Int)+(2:Int)))/\(aj ((List.length l1:Int)+(2:Int)))<=(aj ((List.length l1:Int)+(2:Int)))/\(aj ((List.length l1:Int)+(2:Int)))<=(br:Int))) fun _=>
 uk k l1 v1 o k (0:Int) (List.map some (List.replicate (aj ((List.length l1:Int)+(2:Int))).toNat (none:Option bQ)))
def tO(k:Nat)(l1:List (Int))(o:List UInt8)(c2:List aw)(c3:List bG)(q:List aD)(c5:List aD)(L:Int)(O:Bool)(m1:List bY)(R:List (List UInt8))(U:List aw):Option (List (Int)):=
 some l1
def sv(k:Nat)(o:List UInt8)(O:Int)(R:List UInt8)(c2:List aw)(c3:List bG)(U:List aD)(c5:List aD)(W:Int)(Y:Bool)(m1:List bY)(Z:List (List UInt8))(la:List aw)(q:List (Int)):Option fY:=
 Option.bind (aL (List.length o<=br)) fun _=>
 Option.bind (dx q O (q.length:Int)) fun L=>
 Option.bind (aL (List.length (eB o)+List.length L<=br)) fun _=>
 Option.bind (nQ k ((eB o)++L) (List.length (eB o):Int) R c2 c3 U c5 W Y m1 Z la) fun v1=>
 some (v1.1,v1.2.1,v1.2.2.1,v1.2.2.2.1,v1.2.2.2.2.1,v1.2.2.2.2.2.1,v1.2.2.2.2.2.2.1,v1.2.2.2.2.2.2.2.1,v1.2.2.2.2.2.2.2.2.1,v1.2.2.2.2.2.2.2.2.2.1,v1.2.2.2.2.2.2.2.2.2.2)
def ue(t12:Int)(o:List eI)(q:ef->bQ->bQ->(List UInt8)->aJ->ck->aN->aN->Int->Bool->cq->aG->aJ->Option b6)(L:bw)(v3:fY)(O:List UInt8):Option b6:=
 Option.bind (aL (0<=(aj (t12+(1:Int)))/\(aj (t12+(1:Int)))<(List.length o:Int))) fun _=>
 Option.bind (iB o (aj (t12+(1:Int)))) fun U=>
 Option.bind (kX o (aj (t12+(1:Int)))) fun R=>
 q (List.set o (aj (t12+(1:Int))).toNat (some (some (cm (aQ .str) R O true)))) ([]:List bw) [L] v3.2.1 v3.2.2.1 v3.2.2.2.1 v3.2.2.2.2.1 v3.2.2.2.2.2.1 v3.2.2.2.2.2.2.1 v3.2.2.2.2.2.2.2.1 v3.2.2.2.2.2.2.2.2.1 v3.2.2.2.2.2.2.2.2.2.1 v3.2.2.2.2.2.2.2.2.2.2
def xL(t12:Int)(l1:List (Int))(o:bw)(q:List eI)(L:ef->bQ->bQ->(List UInt8)->aJ->ck->aN->aN->Int->Bool->cq->aG->aJ->Option b6)(v3:fY)(t32:Bool):Option b6:=
 if t32 then
  (
   if decide (t12<(List.length l1:Int))then
    (
     Option.bind (aq l1 t12) fun O=>
     Option.bind (aL (List.length o.1+List.length ((Utf8.encode O).data.toList)<=br)) fun _=>
     ue t12 q L o v3 (o.1++((Utf8.encode O).data.toList))
    )
   else
    ue t12 q L o v3 o.1
  )
 else
  L q ([]:List bw) [o] v3.2.1 v3.2.2.1 v3.2.2.2.1 v3.2.2.2.2.1 v3.2.2.2.2.2.1 v3.2.2.2.2.2.2.1 v3.2.2.2.2.2.2.2.1 v3.2.2.2.2.2.2.2.2.1 v3.2.2.2.2.2.2.2.2.2.1 v3.2.2.2.2.2.2.2.2.2.2
def sS(t12:Int)(l1:List (Int))(o:bw)(q:ef->bQ->bQ->(List UInt8)->aJ->ck->aN->aN->Int->Bool->cq->aG->aJ->Option b6)(v3:fY)(L:Bool)(O:List eI):Option b6:=
 xL t12 l1 o O q v3 ((!v3.1)||L)
def uS(q:List eI)(t12:Int)(l1:List (Int))(L:bw)(O:ef->bQ->bQ->(List UInt8)->aJ->ck->aN->aN->Int->Bool->cq->aG->aJ->Option b6)(v3:fY)(R:Bool)(U:List UInt8)(o:Int):Option b6:=
 Option.bind (aL (0<=o/\o<(List.length q:Int))) fun _=>
 Option.bind (iB q o) fun Y=>
 Option.bind (kX q o) fun W=>
 sS t12 l1 L O v3 R (List.set q (o).toNat (some (some (cm (aQ .str) W U true))))
def tW(o:List eI)(t12:Int)(l1:List (Int))(q:bw)(L:ef->bQ->bQ->(List UInt8)->aJ->ck->aN->aN->Int->Bool->cq->aG->aJ->Option b6)(v3:fY)(O:Bool)(c2:List aw)(R:List UInt8):Option b6:=
 uS o t12 l1 q L v3 O R (aj ((aj (t12+(List.length c2:Int)))+(1:Int)))
def xP(k:Nat)(aP:Int->ef->(List (Int))->(List UInt8)->aJ->ck->aN->aN->Int->Bool->cq->aG->aJ->Option b6)(t12:Int)(t13:List (Int))(l1:List (Int))(c2:List aw)(L:Bool)(O:ef->bQ->bQ->(List UInt8)->aJ->ck->aN->aN->Int->Bool->cq->aG->aJ->Option b6)(q:List eI)(U:List bw)(Y:List bw)(t23:List UInt8)(t24:List aw)(t25:List bG)(t26:List aD)(t27:List aD)(t28:Int)(t29:Bool)(m4:List bY)(t30:List (List UInt8))(t31:List aw):Option b6:=
 oq U (
  aP (aj (t12+(1:Int))) q t13 t23 t24 t25 t26 t27 t28 t29 m4 t30 t31
 ) fun o=>
 Option.bind (od k o.1) fun v2=>
 if decide ((256:Int)<(aj ((aj (v2+(List.length l1:Int)))-t12)))then
  some ((9:Int),t23,t24,t25,t26,t27,t28,t29,m4,t30,t31,([]:List (List UInt8)))
 else
  (
   Option.bind (sv k o.1 t12 t23 t24 t25 t26 t27 t28 t29 m4 t30 t31 t13) fun v3=>
   if v3.1 then
    (
     Option.bind (dx l1 t12 (aj (t12+(List.length c2:Int)))) fun W=>
     Option.bind (pO k W v3.2.1 v3.2.2.1 v3.2.2.2.1 v3.2.2.2.2.1 v3.2.2.2.2.2.1 v3.2.2.2.2.2.2.1 v3.2.2.2.2.2.2.2.1 v3.2.2.2.2.2.2.2.2.1 v3.2.2.2.2.2.2.2.2.2.1 v3.2.2.2.2.2.2.2.2.2.2) fun v4=>
     Option.bind (aL (List.length (cS v4)<=br)) fun _=>
     Option.bind (aL (List.length o.1+List.length (cS v4)<=br)) fun _=>
     if(List.length c2:Int)==(0:Int)then
      (
       if decide (t12<(List.length l1:Int))then
        (
         Option.bind (aq l1 t12) fun R=>
         Option.bind (aL (List.length (o.1++(cS v4))+List.length ((Utf8.encode R).data.toList)<=br)) fun _=>
         tW q t12 l1 o O v3 L c2 ((o.1++(cS v4))++((Utf8.encode R).data.toList))
        )
       else
        tW q t12 l1 o O v3 L c2 (o.1++(cS v4))
      )
     else
      uS q t12 l1 o O v3 L (o.1++(cS v4)) (aj (t12+(List.length c2:Int)))
    )
   else
    sS t12 l1 o O v3 L q
  )
def j6(k:Nat)(aP:Int->ef->(List (Int))->(List UInt8)->aJ->ck->aN->aN->Int->Bool->cq->aG->aJ->Option b6)(t12:Int)(t13:List (Int))(l1:List (Int))(c2:List aw)(o:Bool):Nat->ef->bQ->bQ->(List UInt8)->aJ->ck->aN->aN->Int->Bool->cq->aG->aJ->Option b6
 |0,_,_,_,_,_,_,_,_,_,_,_,_,_=>none
 |n+1,q,L,O,t23,t24,t25,t26,t27,t28,t29,m4,t30,t31=>xP k aP t12 t13 l1 c2 o (j6 k aP t12 t13 l1 c2 o n) q L O t23 t24 t25 t26 t27 t28 t29 m4 t30 t31
def zZ(k:Nat)(t14:List UInt8)(t15:List aw)(t16:List bG)(t17:List aD)(t18:List aD)(t19:Int)(t20:Bool)(m3:List bY)(t21:List (List UInt8))(t22:List aw)(L:bQ->bQ->aG->Option b6)(O:List bw)(gu:List bw)(q:List (List UInt8)):Option b6:=
 oq O (
  some ((0:Int),t14,t15,t16,t17,t18,t19,t20,m3,t21,t22,q)
 ) fun o=>
 Option.bind (od k o.1) fun v5=>
 if decide ((256:Int)<v5)then
  some ((9:Int),t14,t15,t16,t17,t18,t19,t20,m3,t21,t22,([]:List (List UInt8)))
 else
  (
   Option.bind (aL (List.length q+List.length ([o.1]:List (List UInt8))<=br)) fun _=>
   L ([]:List bw) [o] (q++([o.1]:List (List UInt8)))
  )
def uh(k:Nat)(t14:List UInt8)(t15:List aw)(t16:List bG)(t17:List aD)(t18:List aD)(t19:Int)(t20:Bool)(m3:List bY)(t21:List (List UInt8))(t22:List aw):Nat->bQ->bQ->aG->Option b6
 |0,_,_,_=>none
 |n+1,o,gu,q=>zZ k t14 t15 t16 t17 t18 t19 t20 m3 t21 t22 (uh k t14 t15 t16 t17 t18 t19 t20 m3 t21 t22 n) o gu q
def yH(k:Nat)(l1:List (Int))(c2:List aw)(O:Bool)(aP:Int->ef->(List (Int))->(List UInt8)->aJ->ck->aN->aN->Int->Bool->cq->aG->aJ->Option b6)(t12:Int)(o:List eI)(t13:List (Int))(t14:List UInt8)(t15:List aw)(t16:List bG)(t17:List aD)(t18:List aD)(t19:Int)(t20:Bool)(m3:List bY)(t21:List (List UInt8))(t22:List aw):Option b6:=
 if decide (t12<(aj ((List.length l1:Int)+(1:Int))))then
  (
   Option.bind (aL (0<=t12/\t12<(List.length o:Int))) fun _=>
   Option.bind (iB o t12) fun q=>
   if decide ((1024:Int)<(List.length (Option.getD q []):Int))then
    some ((9:Int),t14,t15,t16,t17,t18,t19,t20,m3,t21,t22,([]:List (List UInt8)))
   else
    (
     Option.bind (aL (0<=t12/\t12<(List.length o:Int))) fun _=>
     j6 k aP t12 t13 l1 c2 O k (List.set o (t12).toNat none) (q.getD []) ([]:List bw) t14 t15 t16 t17 t18 t19 t20 m3 t21 t22
    )
  )
 else
  (
   Option.bind (aL (0<=(aj ((List.length l1:Int)+(1:Int)))/\(aj ((List.length l1:Int)+(1:Int)))<(List.length o:Int))) fun _=>
   Option.bind (iB o (aj ((List.length l1:Int)+(1:Int)))) fun L=>
   if decide ((1024:Int)<(List.length (L.getD []):Int))then
    some ((9:Int),t14,t15,t16,t17,t18,t19,t20,m3,t21,t22,([]:List (List UInt8)))
   else
    uh k t14 t15 t16 t17 t18 t19 t20 m3 t21 t22 k (L.getD []) ([]:List bw) ([]:List (List UInt8))
  )
def iA(k:Nat)(l1:List (Int))(c2:List aw)(o:Bool):Nat->Int->ef->(List (Int))->(List UInt8)->aJ->ck->aN->aN->Int->Bool->cq->aG->aJ->Option b6
 |0,_,_,_,_,_,_,_,_,_,_,_,_,_=>none
 |n+1,t12,q,t13,t14,t15,t16,t17,t18,t19,t20,m3,t21,t22=>yH k l1 c2 o (iA k l1 c2 o n) t12 q t13 t14 t15 t16 t17 t18 t19 t20 m3 t21 t22
def wT(k:Nat)(l1:List (Int))(c2:List aw)(q:Bool)(v1:List (Int))(L:List UInt8)(c3:List bG)(O:List aD)(c5:List aD)(R:Int)(U:Bool)(m1:List bY)(W:List (List UInt8))(Y:List aw)(Z:Int->ef->Option b6)(t11:Int)(o:List eI):Option b6:=
 if decide (t11<(List.length (List.map some (List.replicate (aj ((List.length l1:Int)+(2:Int))).toNat (none:Option bQ))):Int))then
  (
   Option.bind (aL (0<=t11/\t11<(List.length o:Int))) fun _=>
   Option.bind (aL (0<=t11/\t11<(List.length o:Int))) fun _=>
   Z (aj (t11+(1:Int))) (List.set o (t11).toNat (some (some ([]:List bw))))
  )
 else
  (
   Option.bind (aL (0<=(0:Int)/\(0:Int)<(List.length o:Int))) fun _=>
   Option.bind (iB o (0:Int)) fun lb=>
   Option.bind (kX o (0:Int)) fun la=>
   iA k l1 c2 q k (0:Int) (List.set o ((0:Int)).toNat (some (some (cm (aQ .str) la ([]:List UInt8) true)))) v1 L c2 c3 O c5 R U m1 W Y
  )
def vf(k:Nat)(l1:List (Int))(c2:List aw)(o:Bool)(v1:List (Int))(q:List UInt8)(c3:List bG)(L:List aD)(c5:List aD)(O:Int)(R:Bool)(m1:List bY)(U:List (List UInt8))(W:List aw):Nat->Int->ef->Option b6
 |0,_,_=>none
 |n+1,t11,Y=>wT k l1 c2 o v1 q c3 L c5 O R m1 U W (vf k l1 c2 o v1 q c3 L c5 O R m1 U W n) t11 Y
def kP(k:Nat)(l1:List (Int))(W:Bool)(o:List UInt8)(c2:List aw)(c3:List bG)(q:List aD)(c5:List aD)(L:Int)(O:Bool)(m1:List bY)(R:List (List UInt8))(U:List aw):Option b6:=
 Option.bind (tO k l1 o c2 c3 q c5 L O m1 R U) fun v1=>
 Option.bind (aL (0<(aj ((List.length l1:Int)+(2:Int))))) fun _=>
 Option.bind (aL (0<=(aj ((List.length l1:Int)+(2:Int)))/\(aj ((List.length l1:Int)+(2:Int)))<=(aj ((List.length l1:Int)+(2:Int)))/\(aj ((List.length l1:Int)+(2:Int)))<=(br:Int))) fun _=>
 vf k l1 c2 W v1 o c3 q c5 L O m1 R U k (0:Int) (List.map some (List.replicate (aj ((List.length l1:Int)+(2:Int))).toNat (none:Option bQ)))
def pU(k:Nat)(o:List aw):Option aJ:=
 Option.bind (aL (List.length ([]:List aw)+List.length o<=br)) fun _=>
 some (([]:List aw)++o)
def rE(k:Nat)(o:List bG):Option ck:=
 Option.bind (aL (List.length ([]:List bG)+List.length o<=br)) fun _=>
 some (([]:List bG)++o)
def rA(k:Nat)(o:List (Int)):Option (List (Int)):=
 Option.bind (aL (List.length ([]:List (Int))+List.length o<=br)) fun _=>
 some (([]:List (Int))++o)
def Uv(t1:List (Int))(q:List aD)(O:Int->aN->Bool->aN->Option aN)(R:List aD)(c2:Bool)(U:Int->aN->Option aN)(t2:Int)(o:List aD):Option aN:=
 if decide (t2<(List.length t1:Int))then
  (
   Option.bind (aq t1 t2) fun W=>
   Option.bind (aL (0<=(List.length q:Int)/\(List.length q:Int)<(List.length o:Int))) fun _=>
   Option.bind (aq o (List.length q:Int)) fun L=>
   Option.bind (aL (List.length L.2.2.2.2.1+List.length ([(List.length o:Int)]:List (Int))<=br)) fun _=>
   Option.bind (aL (0<=(List.length q:Int)/\(List.length q:Int)<(List.length o:Int))) fun _=>
   Option.bind (O W R c2 (List.set o ((List.length q:Int)).toNat (L.1,L.2.1,L.2.2.1,L.2.2.2.1,L.2.2.2.2.1++([(List.length o:Int)]:List (Int)),()))) fun v2=>
   U (aj (t2+(1:Int))) v2
  )
 else
  some o
def wz(t1:List (Int))(o:List aD)(q:Int->aN->Bool->aN->Option aN)(L:List aD)(c2:Bool):Nat->Int->aN->Option aN
 |0,_,_=>none
 |n+1,t2,O=>Uv t1 o q L c2 (wz t1 o q L c2 n) t2 O
def Bk(k:Nat)(q:List aD)(o:fy)(L:Int->aN->Bool->aN->Option aN)(O:List aD)(c2:Bool)(t1:List (Int)):Option aN:=
 Option.bind (aL (0<=(0:Int)/\(0:Int)<=(List.length t1:Int)/\(List.length t1:Int)<=(br:Int))) fun _=>
 Option.bind (aL (List.length q+List.length ([(o.1,o.2.1,o.2.2.1,o.2.2.2.1,List.replicate ((0:Int)).toNat (0:Int),())]:List aD)<=br)) fun _=>
 wz t1 q L O c2 k (0:Int) (q++([(o.1,o.2.1,o.2.2.1,o.2.2.2.1,List.replicate ((0:Int)).toNat (0:Int),())]:List aD))
def Xr(k:Nat)(o:List aD)(q:fy)(L:Int->aN->Bool->aN->Option aN)(O:List aD)(c2:Bool)(v1:List (Int))(t3:Bool):Option aN:=
 if t3 then
  Bk k o q L O c2 (List.reverse v1)
 else
  Bk k o q L O c2 v1
def nb:Nat->Int->aN->Bool->aN->Option aN
 |0,_,_,_,_=>none
 |k+1,L,q,c2,O=>
  Option.bind (aq q L) fun o=>
  Option.bind (rA k o.2.2.2.2.1) fun v1=>
  Xr k O o (nb k) q c2 v1 (c2&&(o.1==(6:Int)))
def rU(k:Nat)(o:List aD)(q:Int)(L:Bool)(O:List aD):Option aN:=
 Option.bind (nb k q o L O) fun v1=>
 some v1
def Bo(k:Nat)(o:eC):Option (eC×Int):=
 Option.bind (ye k (o.1,())) fun v1=>
 if !v1 then
  some ((([]:List aD),()),(40:Int))
 else
  (
   Option.bind (rU k o.1 (0:Int) true ([]:List aD)) fun v2=>
   some ((v2,()),(0:Int))
  )
def xq(o:Int->ck->Option dp)(t1:Int)(t3:List bG):Option dp:=
 o (aj (t1+(1:Int))) t3
def XM(k:Nat)(v2:List bG)(v1:List aw)(o:dp)(L:Int->ck->Option dp)(t1:Int)(t2:List bG):Option dp:=
 if decide (t1<(List.length (List.reverse v2):Int))then
  (
   Option.bind (aq t2 t1) fun q=>
   if q.1==(0:Int)then
    xq L t1 (List.set t2 (t1).toNat (q.1,aj ((aj ((List.length (List.reverse v1):Int)-(1:Int)))-q.2.1),q.2.2.1,q.2.2.2.1,()))
   else
    xq L t1 t2
  )
 else
  (
   Option.bind (Bo k (o.2.2.2.2.1.1,())) fun v3=>
   Option.bind (Bo k (o.2.2.2.1.1,())) fun v4=>
   some ((o.1,List.reverse v1,t2,(v3.1.1,()),(v4.1.1,()),o.2.2.2.2.2.1,o.2.2.2.2.2.2.1,()))
  )
def zL(k:Nat)(v2:List bG)(v1:List aw)(o:dp):Nat->Int->ck->Option dp
 |0,_,_=>none
 |n+1,t1,t2=>XM k v2 v1 o (zL k v2 v1 o n) t1 t2
def xy(k:Nat)(o:dp):Option dp:=
 Option.bind (pU k o.2.1) fun v1=>
 Option.bind (rE k o.2.2.1) fun v2=>
 zL k v2 v1 o k (0:Int) (List.reverse v2)
def WS(v9:b6)(q:Int->aG->Option bX)(t1:Int)(t2:List (List UInt8)):Option bX:=
 if decide (t1<(List.length v9.2.2.2.2.2.2.2.2.2.2.2:Int))then
  (
   Option.bind (aq t2 t1) fun o=>
   Option.bind (aL (List.length o<=br)) fun _=>
   Option.bind (aL (List.length (cS (List.reverse (eB o)))<=br)) fun _=>
   q (aj (t1+(1:Int))) (List.set t2 (t1).toNat (cS (List.reverse (eB o))))
  )
 else
  some (t2,v9.1)
def A9(v9:b6):Nat->Int->aG->Option bX
 |0,_,_=>none
 |n+1,t1,t2=>WS v9 (A9 v9 n) t1 t2
def EN(k:Nat)(q:aC)(o:dp)(R:List UInt8):Option bX:=
 Option.bind (rq k (q.1,q.2.1,()) (o.1,o.2.1,o.2.2.1,(o.2.2.2.1.1,()),(o.2.2.2.2.1.1,()),o.2.2.2.2.2.1,o.2.2.2.2.2.2.1,())) fun v1=>
 if v1 !=(0:Int)then
  some (([]:List (List UInt8)),v1)
 else
  (
   Option.bind (pl k (q.1,q.2.1,()) R) fun v2=>
   if v2.1 !=(0:Int)then
    some (([]:List (List UInt8)),v2.1)
   else
    (
     if o.2.2.2.2.2.1==(1:Int)then
      (
       Option.bind (jF k (q.1,q.2.1,()) (o.1,o.2.1,o.2.2.1,(o.2.2.2.1.1,()),(o.2.2.2.2.1.1,()),o.2.2.2.2.2.1,o.2.2.2.2.2.2.1,())) fun v3=>
       Option.bind (o0 k v2.2 false v3.2.2.2.1 v3.2.2.2.2.1 v3.2.2.2.2.2.1 v3.2.2.2.2.2.2.1 v3.2.2.2.2.2.2.2.1 v3.2.2.2.2.2.2.2.2.1 v3.2.2.2.2.2.2.2.2.2 v3.2.2.1 v3.1 v3.2.1) fun v4=>
       some (v4.2.2.2.2.2.2.2.2.2.2.2,v4.1)
      )
     else
      (
       if o.2.2.2.2.2.1==(2:Int)then
        (
         Option.bind (jF k (q.1,q.2.1,()) (o.1,o.2.1,o.2.2.1,(o.2.2.2.1.1,()),(o.2.2.2.2.1.1,()),o.2.2.2.2.2.1,o.2.2.2.2.2.2.1,())) fun v5=>
         Option.bind (kP k v2.2 false v5.2.2.2.1 v5.2.2.2.2.1 v5.2.2.2.2.2.1 v5.2.2.2.2.2.2.1 v5.2.2.2.2.2.2.2.1 v5.2.2.2.2.2.2.2.2.1 v5.2.2.2.2.2.2.2.2.2 v5.2.2.1 v5.1 v5.2.1) fun O=>
         some (O.2.2.2.2.2.2.2.2.2.2.2,O.1)
        )
       else
        (
         Option.bind (xy k (o.1,o.2.1,o.2.2.1,(o.2.2.2.1.1,()),(o.2.2.2.2.1.1,()),o.2.2.2.2.2.1,o.2.2.2.2.2.2.1,())) fun U=>
         Option.bind (jF k (q.1,q.2.1,()) U) fun L=>
         Option.bind (kP k (List.reverse v2.2) false L.2.2.2.1 L.2.2.2.2.1 L.2.2.2.2.2.1 L.2.2.2.2.2.2.1 L.2.2.2.2.2.2.2.1 L.2.2.2.2.2.2.2.2.1 L.2.2.2.2.2.2.2.2.2 L.2.2.1 L.1 L.2.1) fun v9=>
         A9 v9 k (0:Int) v9.2.2.2.2.2.2.2.2.2.2.2
        )
      )
    )
  )
def LF(k:Nat)(q:aC)(o:dp)(L:List UInt8):Option bc:=
 Option.bind (EN k (q.1,q.2.1,()) (o.1,o.2.1,o.2.2.1,(o.2.2.2.1.1,()),(o.2.2.2.2.1.1,()),o.2.2.2.2.2.1,o.2.2.2.2.2.2.1,()) L) fun v1=>
 if v1.2 !=(0:Int)then
  some (([]:List UInt8),v1.2)
 else
  (
   Option.bind (aq v1.1 (0:Int)) fun O=>
   some (O,(0:Int))
  )
def vT(o:(List UInt8)->Int->(List jt)->Option oC)(v1:bc)(t1:Int)(q:List jt):Option oC:=
 o v1.1 (aj (t1+(1:Int))) q
def PV(k:Nat)(l1:List fA)(O:aC)(R:(List UInt8)->Int->(List jt)->Option oC)(q:List UInt8)(t1:Int)(L:List jt):Option oC:=
 if decide (t1<(List.length l1:Int))then
  (
   Option.bind (aq l1 t1) fun o=>
   Option.bind (LF k (O.1,O.2.1,()) (o.1,o.2.1,o.2.2.1,(o.2.2.2.1.1,()),(o.2.2.2.2.1.1,()),o.2.2.2.2.2.1,o.2.2.2.2.2.2.1,()) q) fun v1=>
   if v1.2 !=(0:Int)then
    some (([]:List UInt8),([]:List jt),v1.2)
   else
    (
     if !(v1.1==q)then
      (
       Option.bind (aL (List.length L+List.length ([(t1,q,v1.1,())]:List jt)<=br)) fun _=>
       vT R v1 t1 (L++([(t1,q,v1.1,())]:List jt))
      )
     else
      vT R v1 t1 L
    )
  )
 else
  some (q,L,(0:Int))
def wu(k:Nat)(l1:List fA)(o:aC):Nat->(List UInt8)->Int->(List jt)->Option oC
 |0,_,_,_=>none
 |n+1,q,t1,L=>PV k l1 o (wu k l1 o n) q t1 L
def H7(k:Nat)(o:aC)(q:List UInt8)(l1:List fA):Option oC:=
 wu k l1 o k q (0:Int) ([]:List jt)
def AZ(k:Nat)(o:aC)(l1:List fA)(q:List UInt8):Option bc:=
 Option.bind (DK k (o.1,o.2.1,()) q l1) fun v1=>
 if v1 !=(0:Int)then
  some (([]:List UInt8),v1)
 else
  (
   Option.bind (H7 k (o.1,o.2.1,()) q l1) fun v2=>
   some (v2.1,v2.2.2)
  )
end Go.Ev
namespace Go.Ev
open Go
set_option linter.unusedVariables false
end Go.Ev
