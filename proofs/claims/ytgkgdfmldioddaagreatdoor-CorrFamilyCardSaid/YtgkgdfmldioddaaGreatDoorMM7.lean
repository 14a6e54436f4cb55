/- Shallow functions, by program. -/
import Derived.Test.YtgkgdfmldioddaaGreatDoorMM4
import Derived.Test.YtgkgdfmldioddaaGreatDoorMM6
import Derived.Test.YtgkgdfmldioddaaGreatDoorTyA
set_option linter.unusedSectionVars false
set_option linter.unusedVariables false
set_option linter.unusedSimpArgs false
namespace Go.Ev
open Go
set_option linter.unusedVariables false
def kD(k:Nat)(o:aV)(O:List UInt8):Option Int:=
 Option.bind (gS k (o.1,o.2.1,()) O) fun v1=>
 some (v1.2)
def E5(k:Nat)(O:aV):Option dJ:=
 Option.bind (ao O.2.1 (0:Int)) fun o=>
 some ((([]:List UInt8),([(o.1,(0:Int),(0:Int),())]:List av),([(o.1,(0:Int),(0:Int),(0:Int),())]:List bG),(([((7:Int),(0:Int),(0:Int),(0:Int),([]:List (Int)),())]:List aB),()),(([((7:Int),(0:Int),(0:Int),(0:Int),([]:List (Int)),())]:List aB),()),(1:Int),false,()))
def I3(k:Nat)(O:aV)(v1:(Int×Int))(o:List (Int))(U:List UInt8)(go1:(List UInt8)->(List (Int))->Option dI)(t1:Bool):Option dI:=
 if t1 then
  some (([]:List (Int)),(6:Int))
 else
  (
   Option.bind (qT k (O.1,O.2.1,()) v1.1) fun v2=>
   if !v2 then
    some (([]:List (Int)),(5:Int))
   else
    (
     if(List.length o:Int)==(256:Int)then
      some (([]:List (Int)),(4:Int))
     else
      (
       Option.bind (aG (List.length o+List.length ([v1.1]:List (Int))<=lim)) fun _=>
       Option.bind (dK U v1.2 (U.length:Int)) fun W=>
       go1 W (o++([v1.1]:List (Int)))
      )
    )
  )
def HY(k:Nat)(U:aV)(go1:(List UInt8)->(List (Int))->Option dI)(o:List UInt8)(O:List (Int)):Option dI:=
 if !(o==([]:List UInt8))then
  (
   Option.bind (utf8_DecodeRuneInString k o) fun v1=>
   I3 k U v1 O o go1 ((v1.1==(65533:Int))&&(v1.2==(1:Int)))
  )
 else
  some (O,(0:Int))
def tT(k:Nat)(o:aV):Nat->(List UInt8)->(List (Int))->Option dI
 |0,_,_=>none
 |n+1,O,U=>HY k o (tT k o n) O U
def wT(k:Nat)(o:aV)(O:List UInt8):Option dI:=
 tT k o k O ([]:List (Int))
def HJ(t1:Bool):Option Bool:=
 some (t1)
def ER(k:Nat)(l1:ee)(o:Int)(O:Int):Option Bool:=
 HJ (((dN (BitVec.toNat (BitVec.ofInt 32 o&&&~~~BitVec.ofInt 32 l1.2.1)))==(0:Int))&&((dN (BitVec.toNat (BitVec.ofInt 32 O&&&~~~BitVec.ofInt 32 l1.2.2.1)))==(0:Int)))
def xq(go1:Int->(List (Int))->Option dI)(t1:Int)(o:List (Int)):Option dI:=
 go1 (ai (t1+(1:Int))) o
def Ig(k:Nat)(U:aV)(W:Int)(Y:Int)(go1:Int->(List (Int))->Option dI)(t1:Int)(O:List (Int)):Option dI:=
 if decide (t1<(List.length U.2.1:Int))then
  (
   Option.bind (ao U.2.1 t1) fun o=>
   Option.bind (ER k (o.1,o.2.1,o.2.2.1,()) W Y) fun v3=>
   if v3 then
    (
     Option.bind (aG (List.length O+List.length ([o.1]:List (Int))<=lim)) fun _=>
     xq go1 t1 (O++([o.1]:List (Int)))
    )
   else
    xq go1 t1 O
  )
 else
  some (O,(0:Int))
def s9(k:Nat)(o:aV)(O:Int)(U:Int):Nat->Int->(List (Int))->Option dI
 |0,_,_=>none
 |n+1,t1,W=>Ig k o O U (s9 k o O U n) t1 W
def vX(k:Nat)(o:aV)(O:Int)(U:Int):Option dI:=
 Option.bind (fL k (o.1,o.2.1,())) fun v1=>
 if v1 !=(0:Int)then
  some (([]:List (Int)),v1)
 else
  (
   Option.bind (kJ k (o.1,o.2.1,()) O U) fun v2=>
   if !v2 then
    some (([]:List (Int)),(20:Int))
   else
    s9 k o O U k (0:Int) ([]:List (Int))
  )
def JK(v1:dI)(m1:List bV)(o:Int)(O:Int)(go1:Int->mI->Option cm)(t1:Int)(m3:List (Int×Bool)):Option cm:=
 if decide (t1<(List.length v1.1:Int))then
  (
   Option.bind (ao v1.1 t1) fun U=>
   go1 (ai (t1+(1:Int))) (cb (aD (.int .i32)) m3 U true)
  )
 else
  some (cb (aD bf) m1 ([o,O]:List (Int)) (some m3))
def tU(v1:dI)(m1:List bV)(o:Int)(O:Int):Nat->Int->mI->Option cm
 |0,_,_=>none
 |n+1,t1,m3=>JK v1 m1 o O (tU v1 m1 o O n) t1 m3
def pV(k:Nat)(o:Int)(O:Int)(c1:List (List UInt8))(c2:List av)(c3:List UInt8)(c4:List av)(c5:List bG)(c6:List aB)(c7:List aB)(c8:Int)(c9:Bool)(m1:List bV):Option cm:=
 Option.bind (vX k (c1,c2,()) o O) fun v1=>
 tU v1 m1 o O k (0:Int) ([]:List (Int×Bool))
def HK(k:Nat)(o:eW)(a4:List (List UInt8))(a5:List av)(t10:List UInt8)(t11:List av)(t12:List bG)(t13:List aB)(t14:List aB)(t15:Int)(t16:Bool)(go2:Int->aS->aN->cm->(List UInt8)->aN->cr->aI->aI->Int->Bool->zA->Option iw)(t9:Int)(t17:List qB)(U:Int->cm->Option iw)(t18:Int)(m4:List bV):Option iw:=
 if decide (t18<(List.length o.1:Int))then
  (
   Option.bind (ao o.1 t18) fun O=>
   Option.bind (pV k O.2.2.1 O.2.2.2.1 a4 a5 t10 t11 t12 t13 t14 t15 t16 m4) fun v2=>
   U (ai (t18+(1:Int))) v2
  )
 else
  go2 (ai (t9+(1:Int))) a4 a5 m4 t10 t11 t12 t13 t14 t15 t16 t17
def tL(k:Nat)(o:eW)(a4:List (List UInt8))(a5:List av)(t10:List UInt8)(t11:List av)(t12:List bG)(t13:List aB)(t14:List aB)(t15:Int)(t16:Bool)(go2:Int->aS->aN->cm->(List UInt8)->aN->cr->aI->aI->Int->Bool->zA->Option iw)(t9:Int)(t17:List qB):Nat->Int->cm->Option iw
 |0,_,_=>none
 |n+1,t18,m4=>HK k o a4 a5 t10 t11 t12 t13 t14 t15 t16 go2 t9 t17 (tL k o a4 a5 t10 t11 t12 t13 t14 t15 t16 go2 t9 t17 n) t18 m4
def LO(k:Nat)(o:dJ)(go2:Int->aS->aN->cm->(List UInt8)->aN->cr->aI->aI->Int->Bool->zA->Option iw)(t9:Int)(a4:List (List UInt8))(a5:List av)(m3:List bV)(t10:List UInt8)(t11:List av)(t12:List bG)(t13:List aB)(t14:List aB)(t15:Int)(t16:Bool)(t17:List qB):Option iw:=
 if decide (t9<(List.length ([(o.2.2.2.1.1,()),(o.2.2.2.2.1.1,())]:List qB):Int))then
  (
   Option.bind (ao t17 t9) fun O=>
   tL k O a4 a5 t10 t11 t12 t13 t14 t15 t16 go2 t9 t17 k (0:Int) m3
  )
 else
  some (a4,a5,m3,t10,t11,t12,t13,t14,t15,t16)
def va(k:Nat)(o:dJ):Nat->Int->aS->aN->cm->(List UInt8)->aN->cr->aI->aI->Int->Bool->zA->Option iw
 |0,_,_,_,_,_,_,_,_,_,_,_,_=>none
 |n+1,t9,a4,a5,m3,t10,t11,t12,t13,t14,t15,t16,t17=>LO k o (va k o n) t9 a4 a5 m3 t10 t11 t12 t13 t14 t15 t16 t17
def GL(k:Nat)(o:dJ)(O:aV)(go1:Int->cm->Option iw)(t8:Int)(m2:List bV):Option iw:=
 if decide (t8<(List.length o.2.1:Int))then
  (
   Option.bind (ao o.2.1 t8) fun U=>
   Option.bind (pV k U.2.1 U.2.2.1 O.1 O.2.1 o.1 o.2.1 o.2.2.1 o.2.2.2.1.1 o.2.2.2.2.1.1 o.2.2.2.2.2.1 o.2.2.2.2.2.2.1 m2) fun v1=>
   go1 (ai (t8+(1:Int))) v1
  )
 else
  va k o k (0:Int) O.1 O.2.1 m2 o.1 o.2.1 o.2.2.1 o.2.2.2.1.1 o.2.2.2.2.1.1 o.2.2.2.2.2.1 o.2.2.2.2.2.2.1 ([(o.2.2.2.1.1,()),(o.2.2.2.2.1.1,())]:List qB)
def ta(k:Nat)(o:dJ)(O:aV):Nat->Int->cm->Option iw
 |0,_,_=>none
 |n+1,t8,m2=>GL k o O (ta k o O n) t8 m2
def mB(k:Nat)(o:aV)(O:dJ):Option iw:=
 ta k O o k (0:Int) ([]:List bV)
def o4(k:Nat)(o:Int)(O:Int)(U:Int)(W:Int)(c1:List UInt8)(c2:List av)(c3:List bG)(c4:List aB)(c5:List aB)(c6:Int)(c7:Bool)(m1:List bV)(c8:List (List UInt8))(c9:List av):Option Bool:=
 if O !=(0:Int)then
  some (o==O)
 else
  some ((bn (aD (.int .i32)) (((bn (aD bf) m1 ([U,W]:List (Int))).getD (none:Option mI)).getD []) o).getD false)
def gE(t14:List aB)(t15:List (Int))(t16:List UInt8)(t17:List av)(t18:List bG)(t19:List aB)(t20:List aB)(t21:Int)(t22:Bool)(m3:List bV)(t23:List (List UInt8))(t24:List av)(t25:List (Bool))(t26:List (Bool)):Option b8:=
 some (t14,t15,t16,t17,t18,t19,t20,t21,t22,m3,t23,t24,t25,t26)
def tr(t29:List (Bool))(t28:Int)(go1:Int->(List (Bool))->Option b8)(t30:Bool):Option b8:=
 Option.bind (ao t29 (ai (t28+(1:Int)))) fun o=>
 go1 (ai (t28+(1:Int))) (List.set t29 (ai (t28+(1:Int))).toNat t30)
def Cg(t29:List (Bool))(t28:Int)(go1:Int->(List (Bool))->Option b8)(t31:Bool):Option b8:=
 tr t29 t28 go1 t31
def L7(k:Nat)(c2:List (Int))(l1:List (Bool))(o:gb)(c3:List UInt8)(c4:List av)(c5:List bG)(c6:List aB)(c7:List aB)(c8:Int)(c9:Bool)(m1:List bV)(c10:List (List UInt8))(c11:List av)(c1:List aB)(go1:Int->(List (Bool))->Option b8)(t28:Int)(t29:List (Bool)):Option b8:=
 if decide (t28<(List.length c2:Int))then
  (
   Option.bind (ao c2 t28) fun O=>
   Option.bind (ao l1 t28) fun U=>
   if U then
    (
     if o.1==(4:Int)then
      Cg t29 t28 go1 true
     else
      (
       Option.bind (o4 k O o.2.1 o.2.2.1 o.2.2.2.1 c3 c4 c5 c6 c7 c8 c9 m1 c10 c11) fun v1=>
       Cg t29 t28 go1 v1
      )
    )
   else
    tr t29 t28 go1 false
  )
 else
  gE c1 c2 c3 c4 c5 c6 c7 c8 c9 m1 c10 c11 t29 l1
def ry(k:Nat)(c2:List (Int))(l1:List (Bool))(o:gb)(c3:List UInt8)(c4:List av)(c5:List bG)(c6:List aB)(c7:List aB)(c8:Int)(c9:Bool)(m1:List bV)(c10:List (List UInt8))(c11:List av)(c1:List aB):Nat->Int->(List (Bool))->Option b8
 |0,_,_=>none
 |n+1,t28,t29=>L7 k c2 l1 o c3 c4 c5 c6 c7 c8 c9 m1 c10 c11 c1 (ry k c2 l1 o c3 c4 c5 c6 c7 c8 c9 m1 c10 c11 c1 n) t28 t29
def LI(o:gb)(O:Int->aI->(List (Int))->(List UInt8)->aN->cr->aI->aI->Int->Bool->cm->aS->aN->(List (Bool))->Option b8)(l1:List (Bool))(go2:Int->aI->(List (Int))->(List UInt8)->aN->cr->aI->aI->Int->Bool->cm->aS->aN->(List (Bool))->Option b8)(t32:Int)(t33:List aB)(t34:List (Int))(t35:List UInt8)(t36:List av)(t37:List bG)(t38:List aB)(t39:List aB)(t40:Int)(t41:Bool)(m4:List bV)(t42:List (List UInt8))(t43:List av)(t44:List (Bool)):Option b8:=
 if decide (t32<(List.length o.2.2.2.2.1:Int))then
  (
   Option.bind (ao o.2.2.2.2.1 t32) fun U=>
   Option.bind (O U t33 t34 t35 t36 t37 t38 t39 t40 t41 m4 t42 t43 t44) fun v2=>
   go2 (ai (t32+(1:Int))) v2.1 v2.2.1 v2.2.2.1 v2.2.2.2.1 v2.2.2.2.2.1 v2.2.2.2.2.2.1 v2.2.2.2.2.2.2.1 v2.2.2.2.2.2.2.2.1 v2.2.2.2.2.2.2.2.2.1 v2.2.2.2.2.2.2.2.2.2.1 v2.2.2.2.2.2.2.2.2.2.2.1 v2.2.2.2.2.2.2.2.2.2.2.2.1 v2.2.2.2.2.2.2.2.2.2.2.2.2.1
  )
 else
  gE t33 t34 t35 t36 t37 t38 t39 t40 t41 m4 t42 t43 t44 l1
def uP(o:gb)(O:Int->aI->(List (Int))->(List UInt8)->aN->cr->aI->aI->Int->Bool->cm->aS->aN->(List (Bool))->Option b8)(l1:List (Bool)):Nat->Int->aI->(List (Int))->(List UInt8)->aN->cr->aI->aI->Int->Bool->cm->aS->aN->(List (Bool))->Option b8
 |0,_,_,_,_,_,_,_,_,_,_,_,_,_,_=>none
 |n+1,t32,t33,t34,t35,t36,t37,t38,t39,t40,t41,m4,t42,t43,t44=>LI o O l1 (uP o O l1 n) t32 t33 t34 t35 t36 t37 t38 t39 t40 t41 m4 t42 t43 t44
def LG(t60:List (Bool))(t59:Int)(o:Int->(List (Bool))->Option b8)(t61:Bool):Option b8:=
 Option.bind (ao t60 t59) fun O=>
 o (ai (t59+(1:Int))) (List.set t60 (t59).toNat t61)
def HD(v3:b8)(o:Int->aI->(List (Int))->(List UInt8)->aN->cr->aI->aI->Int->Bool->cm->aS->aN->(List (Bool))->(List (Bool))->Option b8)(t45:Int)(O:Int->(List (Bool))->Option b8)(t59:Int)(t60:List (Bool)):Option b8:=
 if decide (t59<(List.length v3.2.2.2.2.2.2.2.2.2.2.2.2.1:Int))then
  (
   Option.bind (ao v3.2.2.2.2.2.2.2.2.2.2.2.2.1 t59) fun U=>
   Option.bind (ao t60 t59) fun W=>
   LG t60 t59 O (W||U)
  )
 else
  o (ai (t45+(1:Int))) v3.1 v3.2.1 v3.2.2.1 v3.2.2.2.1 v3.2.2.2.2.1 v3.2.2.2.2.2.1 v3.2.2.2.2.2.2.1 v3.2.2.2.2.2.2.2.1 v3.2.2.2.2.2.2.2.2.1 v3.2.2.2.2.2.2.2.2.2.1 v3.2.2.2.2.2.2.2.2.2.2.1 v3.2.2.2.2.2.2.2.2.2.2.2.1 t60 v3.2.2.2.2.2.2.2.2.2.2.2.2.2
def vk(v3:b8)(o:Int->aI->(List (Int))->(List UInt8)->aN->cr->aI->aI->Int->Bool->cm->aS->aN->(List (Bool))->(List (Bool))->Option b8)(t45:Int):Nat->Int->(List (Bool))->Option b8
 |0,_,_=>none
 |n+1,t59,t60=>HD v3 o t45 (vk v3 o t45 n) t59 t60
def HR(k:Nat)(o:gb)(O:Int->aI->(List (Int))->(List UInt8)->aN->cr->aI->aI->Int->Bool->cm->aS->aN->(List (Bool))->Option b8)(U:Int->aI->(List (Int))->(List UInt8)->aN->cr->aI->aI->Int->Bool->cm->aS->aN->(List (Bool))->(List (Bool))->Option b8)(t45:Int)(t46:List aB)(t47:List (Int))(t48:List UInt8)(t49:List av)(t50:List bG)(t51:List aB)(t52:List aB)(t53:Int)(t54:Bool)(m5:List bV)(t55:List (List UInt8))(t56:List av)(t57:List (Bool))(t58:List (Bool)):Option b8:=
 if decide (t45<(List.length o.2.2.2.2.1:Int))then
  (
   Option.bind (ao o.2.2.2.2.1 t45) fun W=>
   Option.bind (O W t46 t47 t48 t49 t50 t51 t52 t53 t54 m5 t55 t56 t58) fun v3=>
   vk v3 U t45 k (0:Int) t57
  )
 else
  gE t46 t47 t48 t49 t50 t51 t52 t53 t54 m5 t55 t56 t57 t58
def vF(k:Nat)(o:gb)(O:Int->aI->(List (Int))->(List UInt8)->aN->cr->aI->aI->Int->Bool->cm->aS->aN->(List (Bool))->Option b8):Nat->Int->aI->(List (Int))->(List UInt8)->aN->cr->aI->aI->Int->Bool->cm->aS->aN->(List (Bool))->(List (Bool))->Option b8
 |0,_,_,_,_,_,_,_,_,_,_,_,_,_,_,_=>none
 |n+1,t45,t46,t47,t48,t49,t50,t51,t52,t53,t54,m5,t55,t56,t57,t58=>HR k o O (vF k o O n) t45 t46 t47 t48 t49 t50 t51 t52 t53 t54 m5 t55 t56 t57 t58
def Kw(t63:List (Bool))(t62:Int)(o:Int->(List (Bool))->Option b8)(t64:Bool):Option b8:=
 Option.bind (ao t63 t62) fun O=>
 o (ai (t62+(1:Int))) (List.set t63 (t62).toNat t64)
def Jk(v4:b8)(o:Int->(List (Bool))->Option b8)(t62:Int)(t63:List (Bool)):Option b8:=
 if decide (t62<(List.length v4.2.2.2.2.2.2.2.2.2.2.2.2.2:Int))then
  (
   Option.bind (ao v4.2.2.2.2.2.2.2.2.2.2.2.2.2 t62) fun O=>
   Option.bind (ao t63 t62) fun U=>
   Kw t63 t62 o (U||O)
  )
 else
  gE v4.1 v4.2.1 v4.2.2.1 v4.2.2.2.1 v4.2.2.2.2.1 v4.2.2.2.2.2.1 v4.2.2.2.2.2.2.1 v4.2.2.2.2.2.2.2.1 v4.2.2.2.2.2.2.2.2.1 v4.2.2.2.2.2.2.2.2.2.1 v4.2.2.2.2.2.2.2.2.2.2.1 v4.2.2.2.2.2.2.2.2.2.2.2.1 t63 v4.2.2.2.2.2.2.2.2.2.2.2.2.2
def vz(v4:b8):Nat->Int->(List (Bool))->Option b8
 |0,_,_=>none
 |n+1,t62,t63=>Jk v4 (vz v4 n) t62 t63
def uN(o:Bool->Int->(List (Bool))->Option b8)(t78:Int)(O:Bool)(t80:List (Bool)):Option b8:=
 o O (ai (t78+(1:Int))) t80
def pk(t79:List (Bool))(t78:Int)(o:Bool->Int->(List (Bool))->Option b8)(O:Bool)(t81:Bool):Option b8:=
 if t81 then
  (
   Option.bind (ao t79 t78) fun U=>
   uN o t78 true (List.set t79 (t78).toNat true)
  )
 else
  uN o t78 O t79
def Hc(v5:b8)(t77:List (Bool))(U:Int->Int->Int->Int->(List (Int))->aI->(List (Int))->(List UInt8)->aN->cr->aI->aI->Int->Bool->cm->aS->aN->(List (Bool))->(List (Bool))->Option b8)(W:Int)(Y:Int)(n3:Int)(n4:Int)(Z:List (Int))(O:Bool->Int->(List (Bool))->Option b8)(o:Bool)(t78:Int)(t79:List (Bool)):Option b8:=
 if decide (t78<(List.length v5.2.2.2.2.2.2.2.2.2.2.2.2.1:Int))then
  (
   Option.bind (ao v5.2.2.2.2.2.2.2.2.2.2.2.2.1 t78) fun la=>
   if la then
    (
     Option.bind (ao t79 t78) fun lc=>
     pk t79 t78 O o (!lc)
    )
   else
    pk t79 t78 O o false
  )
 else
  (
   if !o then
    gE v5.1 v5.2.1 v5.2.2.1 v5.2.2.2.1 v5.2.2.2.2.1 v5.2.2.2.2.2.1 v5.2.2.2.2.2.2.1 v5.2.2.2.2.2.2.2.1 v5.2.2.2.2.2.2.2.2.1 v5.2.2.2.2.2.2.2.2.2.1 v5.2.2.2.2.2.2.2.2.2.2.1 v5.2.2.2.2.2.2.2.2.2.2.2.1 t79 t77
   else
    U W Y n3 n4 Z v5.1 v5.2.1 v5.2.2.1 v5.2.2.2.1 v5.2.2.2.2.1 v5.2.2.2.2.2.1 v5.2.2.2.2.2.2.1 v5.2.2.2.2.2.2.2.1 v5.2.2.2.2.2.2.2.2.1 v5.2.2.2.2.2.2.2.2.2.1 v5.2.2.2.2.2.2.2.2.2.2.1 v5.2.2.2.2.2.2.2.2.2.2.2.1 t79 t77
  )
def rb(v5:b8)(t77:List (Bool))(o:Int->Int->Int->Int->(List (Int))->aI->(List (Int))->(List UInt8)->aN->cr->aI->aI->Int->Bool->cm->aS->aN->(List (Bool))->(List (Bool))->Option b8)(O:Int)(U:Int)(n3:Int)(n4:Int)(W:List (Int)):Nat->Bool->Int->(List (Bool))->Option b8
 |0,_,_,_=>none
 |n+1,Y,t78,t79=>Hc v5 t77 o O U n3 n4 W (rb v5 t77 o O U n3 n4 W n) Y t78 t79
def L2(k:Nat)(O:Int->aI->(List (Int))->(List UInt8)->aN->cr->aI->aI->Int->Bool->cm->aS->aN->(List (Bool))->Option b8)(U:Int->Int->Int->Int->(List (Int))->aI->(List (Int))->(List UInt8)->aN->cr->aI->aI->Int->Bool->cm->aS->aN->(List (Bool))->(List (Bool))->Option b8)(W:Int)(Y:Int)(n3:Int)(n4:Int)(o:List (Int))(t65:List aB)(t66:List (Int))(t67:List UInt8)(t68:List av)(t69:List bG)(t70:List aB)(t71:List aB)(t72:Int)(t73:Bool)(m6:List bV)(t74:List (List UInt8))(t75:List av)(t76:List (Bool))(t77:List (Bool)):Option b8:=
 Option.bind (ao o (0:Int)) fun Z=>
 Option.bind (O Z t65 t66 t67 t68 t69 t70 t71 t72 t73 m6 t74 t75 t76) fun v5=>
 rb v5 t77 U W Y n3 n4 o k false (0:Int) v5.2.2.2.2.2.2.2.2.2.2.2.2.2
def tC(k:Nat)(o:Int->aI->(List (Int))->(List UInt8)->aN->cr->aI->aI->Int->Bool->cm->aS->aN->(List (Bool))->Option b8):Nat->Int->Int->Int->Int->(List (Int))->aI->(List (Int))->(List UInt8)->aN->cr->aI->aI->Int->Bool->cm->aS->aN->(List (Bool))->(List (Bool))->Option b8
 |0,_,_,_,_,_,_,_,_,_,_,_,_,_,_,_,_,_,_,_=>none
 |n+1,O,U,n3,n4,W,t65,t66,t67,t68,t69,t70,t71,t72,t73,m6,t74,t75,t76,t77=>L2 k o (tC k o n) O U n3 n4 W t65 t66 t67 t68 t69 t70 t71 t72 t73 m6 t74 t75 t76 t77
def rt(k:Nat)(c2:List (Int))(l1:List (Bool))(o:gb)(c3:List UInt8)(c4:List av)(c5:List bG)(c6:List aB)(c7:List aB)(c8:Int)(c9:Bool)(m1:List bV)(c10:List (List UInt8))(c11:List av)(c1:List aB)(O:Int->aI->(List (Int))->(List UInt8)->aN->cr->aI->aI->Int->Bool->cm->aS->aN->(List (Bool))->Option b8)(t27:Bool):Option b8:=
 if t27 then
  ry k c2 l1 o c3 c4 c5 c6 c7 c8 c9 m1 c10 c11 c1 k (0:Int) (List.replicate (ai ((List.length c2:Int)+(1:Int))).toNat false)
 else
  (
   if o.1==(5:Int)then
    (
     Option.bind (ao l1 (0:Int)) fun U=>
     Option.bind (ao (List.replicate (ai ((List.length c2:Int)+(1:Int))).toNat false) (0:Int)) fun Z=>
     Option.bind (ao l1 (List.length c2:Int)) fun W=>
     Option.bind (ao (List.set (List.replicate (ai ((List.length c2:Int)+(1:Int))).toNat false) ((0:Int)).toNat U) (List.length c2:Int)) fun la=>
     gE c1 c2 c3 c4 c5 c6 c7 c8 c9 m1 c10 c11 (List.set (List.set (List.replicate (ai ((List.length c2:Int)+(1:Int))).toNat false) ((0:Int)).toNat U) ((List.length c2:Int)).toNat W) l1
    )
   else
    (
     if o.1==(6:Int)then
      (
       Option.bind (aG (List.length l1<=List.length (List.replicate (ai ((List.length c2:Int)+(1:Int))).toNat false))) fun _=>
       uP o O l1 k (0:Int) c1 c2 c3 c4 c5 c6 c7 c8 c9 m1 c10 c11 (l1++List.drop (List.length l1) (List.replicate (ai ((List.length c2:Int)+(1:Int))).toNat false))
      )
     else
      (
       if o.1==(7:Int)then
        vF k o O k (0:Int) c1 c2 c3 c4 c5 c6 c7 c8 c9 m1 c10 c11 (List.replicate (ai ((List.length c2:Int)+(1:Int))).toNat false) l1
       else
        (
         if o.1==(9:Int)then
          (
           Option.bind (ao o.2.2.2.2.1 (0:Int)) fun Y=>
           Option.bind (O Y c1 c2 c3 c4 c5 c6 c7 c8 c9 m1 c10 c11 l1) fun v4=>
           Option.bind (aG (List.length v4.2.2.2.2.2.2.2.2.2.2.2.2.1<=List.length (List.replicate (ai ((List.length c2:Int)+(1:Int))).toNat false))) fun _=>
           vz v4 k (0:Int) (v4.2.2.2.2.2.2.2.2.2.2.2.2.1++List.drop (List.length v4.2.2.2.2.2.2.2.2.2.2.2.2.1) (List.replicate (ai ((List.length c2:Int)+(1:Int))).toNat false))
          )
         else
          (
           if o.1==(8:Int)then
            (
             Option.bind (aG (List.length l1<=List.length (List.replicate (ai ((List.length c2:Int)+(1:Int))).toNat false))) fun _=>
             tC k O k o.1 o.2.1 o.2.2.1 o.2.2.2.1 o.2.2.2.2.1 c1 c2 c3 c4 c5 c6 c7 c8 c9 m1 c10 c11 (l1++List.drop (List.length l1) (List.replicate (ai ((List.length c2:Int)+(1:Int))).toNat false)) l1
            )
           else
            gE c1 c2 c3 c4 c5 c6 c7 c8 c9 m1 c10 c11 (List.replicate (ai ((List.length c2:Int)+(1:Int))).toNat false) l1
          )
        )
      )
    )
  )
def ii:Nat->Int->aI->(List (Int))->(List UInt8)->aN->cr->aI->aI->Int->Bool->cm->aS->aN->(List (Bool))->Option b8
 |0,_,_,_,_,_,_,_,_,_,_,_,_,_,_=>none
 |k+1,O,c1,c2,c3,c4,c5,c6,c7,c8,c9,m1,c10,c11,l1=>
  Option.bind (ao c1 O) fun o=>
  Option.bind (aG (0<=(ai ((List.length c2:Int)+(1:Int)))/\(ai ((List.length c2:Int)+(1:Int)))<=(ai ((List.length c2:Int)+(1:Int)))/\(ai ((List.length c2:Int)+(1:Int)))<=(lim:Int))) fun _=>
  if o.1==(1:Int)then
   (
    Option.bind (aG (List.length l1<=List.length (List.replicate (ai ((List.length c2:Int)+(1:Int))).toNat false))) fun _=>
    gE c1 c2 c3 c4 c5 c6 c7 c8 c9 m1 c10 c11 (l1++List.drop (List.length l1) (List.replicate (ai ((List.length c2:Int)+(1:Int))).toNat false)) l1
   )
  else
   (
    if o.1==(2:Int)then
     rt k c2 l1 o c3 c4 c5 c6 c7 c8 c9 m1 c10 c11 c1 (ii k) (o.1==(2:Int))
    else
     (
      if o.1==(3:Int)then
       rt k c2 l1 o c3 c4 c5 c6 c7 c8 c9 m1 c10 c11 c1 (ii k) (o.1==(3:Int))
      else
       rt k c2 l1 o c3 c4 c5 c6 c7 c8 c9 m1 c10 c11 c1 (ii k) (o.1==(4:Int))
     )
   )
def oO(k:Nat)(o:eW)(l1:List (Int))(c1:List UInt8)(c2:List av)(c3:List bG)(c4:List aB)(c5:List aB)(c6:Int)(c7:Bool)(m1:List bV)(c8:List (List UInt8))(c9:List av)(l2:List (Bool)):Option zV:=
 Option.bind (ii k (0:Int) o.1 l1 c1 c2 c3 c4 c5 c6 c7 m1 c8 c9 l2) fun v1=>
 some (v1.2.2.1,v1.2.2.2.1,v1.2.2.2.2.1,v1.2.2.2.2.2.1,v1.2.2.2.2.2.2.1,v1.2.2.2.2.2.2.2.1,v1.2.2.2.2.2.2.2.2.1,v1.2.2.2.2.2.2.2.2.2.1,v1.2.2.2.2.2.2.2.2.2.2.1,v1.2.2.2.2.2.2.2.2.2.2.2.1,v1.2.2.2.2.2.2.2.2.2.2.2.2.1,v1.2.2.2.2.2.2.2.2.2.2.2.2.2)
def GN(k:Nat)(l1:List (Int))(c4:List aB)(c1:List UInt8)(c2:List av)(c3:List bG)(c5:List aB)(c6:Int)(c7:Bool)(m1:List bV)(c8:List (List UInt8))(c9:List av)(o:Int)(go2:Int->(List (Bool))->Option gG)(t11:Int)(t12:List (Bool)):Option gG:=
 if decide (t11<(List.length (List.replicate (ai ((List.length l1:Int)+(1:Int))).toNat false):Int))then
  (
   Option.bind (ao t12 t11) fun U=>
   go2 (ai (t11+(1:Int))) (List.set t12 (t11).toNat true)
  )
 else
  (
   Option.bind (oO k (c4,()) l1 c1 c2 c3 c4 c5 c6 c7 m1 c8 c9 t12) fun v2=>
   Option.bind (ao v2.2.2.2.2.2.2.2.2.2.2.1 o) fun O=>
   if !O then
    some (false,v2.1,v2.2.1,v2.2.2.1,v2.2.2.2.1,v2.2.2.2.2.1,v2.2.2.2.2.2.1,v2.2.2.2.2.2.2.1,v2.2.2.2.2.2.2.2.1,v2.2.2.2.2.2.2.2.2.1,v2.2.2.2.2.2.2.2.2.2.1)
   else
    (
     Option.bind (ao (List.replicate (List.length v2.2.2.2.2.2.2.2.2.2.2.2) false) (ai (o+(List.length c2:Int)))) fun W=>
     Option.bind (oO k (v2.2.2.2.2.1,()) l1 v2.1 v2.2.1 v2.2.2.1 v2.2.2.2.1 v2.2.2.2.2.1 v2.2.2.2.2.2.1 v2.2.2.2.2.2.2.1 v2.2.2.2.2.2.2.2.1 v2.2.2.2.2.2.2.2.2.1 v2.2.2.2.2.2.2.2.2.2.1 (List.set (List.replicate (List.length v2.2.2.2.2.2.2.2.2.2.2.2) false) (ai (o+(List.length c2:Int))).toNat true)) fun v3=>
     Option.bind (pE k v3.2.2.2.2.2.2.2.2.2.2.1 true) fun v4=>
     some (v4,v3.1,v3.2.1,v3.2.2.1,v3.2.2.2.1,v3.2.2.2.2.1,v3.2.2.2.2.2.1,v3.2.2.2.2.2.2.1,v3.2.2.2.2.2.2.2.1,v3.2.2.2.2.2.2.2.2.1,v3.2.2.2.2.2.2.2.2.2.1)
    )
  )
def uH(k:Nat)(l1:List (Int))(c4:List aB)(c1:List UInt8)(c2:List av)(c3:List bG)(c5:List aB)(c6:Int)(c7:Bool)(m1:List bV)(c8:List (List UInt8))(c9:List av)(o:Int):Nat->Int->(List (Bool))->Option gG
 |0,_,_=>none
 |n+1,t11,t12=>GN k l1 c4 c1 c2 c3 c5 c6 c7 m1 c8 c9 o (uH k l1 c4 c1 c2 c3 c5 c6 c7 m1 c8 c9 o n) t11 t12
def H1(k:Nat)(c2:List av)(l1:List (Int))(O:Int)(c1:List UInt8)(c3:List bG)(c4:List aB)(c5:List aB)(c6:Int)(c7:Bool)(m1:List bV)(c8:List (List UInt8))(c9:List av)(go1:Int->Option gG)(t10:Int):Option gG:=
 if decide (t10<(List.length c2:Int))then
  (
   Option.bind (ao c2 t10) fun o=>
   Option.bind (ao l1 (ai (O+t10))) fun U=>
   Option.bind (o4 k U o.1 o.2.1 o.2.2.1 c1 c2 c3 c4 c5 c6 c7 m1 c8 c9) fun v1=>
   if !v1 then
    some (false,c1,c2,c3,c4,c5,c6,c7,m1,c8,c9)
   else
    go1 (ai (t10+(1:Int)))
  )
 else
  (
   Option.bind (aG (0<=(ai ((List.length l1:Int)+(1:Int)))/\(ai ((List.length l1:Int)+(1:Int)))<=(ai ((List.length l1:Int)+(1:Int)))/\(ai ((List.length l1:Int)+(1:Int)))<=(lim:Int))) fun _=>
   uH k l1 c4 c1 c2 c3 c5 c6 c7 m1 c8 c9 O k (0:Int) (List.replicate (ai ((List.length l1:Int)+(1:Int))).toNat false)
  )
def sw(k:Nat)(c2:List av)(l1:List (Int))(o:Int)(c1:List UInt8)(c3:List bG)(c4:List aB)(c5:List aB)(c6:Int)(c7:Bool)(m1:List bV)(c8:List (List UInt8))(c9:List av):Nat->Int->Option gG
 |0,_=>none
 |n+1,t10=>H1 k c2 l1 o c1 c3 c4 c5 c6 c7 m1 c8 c9 (sw k c2 l1 o c1 c3 c4 c5 c6 c7 m1 c8 c9 n) t10
def nX(k:Nat)(l1:List (Int))(o:Int)(c1:List UInt8)(c2:List av)(c3:List bG)(c4:List aB)(c5:List aB)(c6:Int)(c7:Bool)(m1:List bV)(c8:List (List UInt8))(c9:List av):Option gG:=
 if decide ((List.length l1:Int)<(ai (o+(List.length c2:Int))))then
  some (false,c1,c2,c3,c4,c5,c6,c7,m1,c8,c9)
 else
  sw k c2 l1 o c1 c3 c4 c5 c6 c7 m1 c8 c9 k (0:Int)
def wY(go1:Int->aS->aN->(List UInt8)->aN->cr->aI->aI->Int->Bool->cm->bA->Option qi)(t1:Int)(t11:List (List UInt8))(t12:List av)(t13:List UInt8)(t14:List av)(t15:List bG)(t16:List aB)(t17:List aB)(t18:Int)(t19:Bool)(m2:List bV)(o:List cz):Option qi:=
 go1 (ai (t1+(1:Int))) t11 t12 t13 t14 t15 t16 t17 t18 t19 m2 o
def IB(k:Nat)(v2:dI)(O:dJ)(go1:Int->aS->aN->(List UInt8)->aN->cr->aI->aI->Int->Bool->cm->bA->Option qi)(t1:Int)(t2:List (List UInt8))(t3:List av)(t4:List UInt8)(t5:List av)(t6:List bG)(t7:List aB)(t8:List aB)(t9:Int)(t10:Bool)(m1:List bV)(o:List cz):Option qi:=
 if decide (t1<(ai ((List.length v2.1:Int)+(1:Int))))then
  (
   Option.bind (nX k v2.1 t1 t4 t5 t6 t7 t8 t9 t10 m1 t2 t3) fun v4=>
   if v4.1 then
    (
     Option.bind (aG (List.length o+List.length ([(t1,ai (t1+(List.length O.2.1:Int)),())]:List cz)<=lim)) fun _=>
     wY go1 t1 v4.2.2.2.2.2.2.2.2.2.1 v4.2.2.2.2.2.2.2.2.2.2 v4.2.1 v4.2.2.1 v4.2.2.2.1 v4.2.2.2.2.1 v4.2.2.2.2.2.1 v4.2.2.2.2.2.2.1 v4.2.2.2.2.2.2.2.1 v4.2.2.2.2.2.2.2.2.1 (o++([(t1,ai (t1+(List.length O.2.1:Int)),())]:List cz))
    )
   else
    wY go1 t1 v4.2.2.2.2.2.2.2.2.2.1 v4.2.2.2.2.2.2.2.2.2.2 v4.2.1 v4.2.2.1 v4.2.2.2.1 v4.2.2.2.2.1 v4.2.2.2.2.2.1 v4.2.2.2.2.2.2.1 v4.2.2.2.2.2.2.2.1 v4.2.2.2.2.2.2.2.2.1 o
  )
 else
  some (o,(0:Int))
def uv(k:Nat)(v2:dI)(o:dJ):Nat->Int->aS->aN->(List UInt8)->aN->cr->aI->aI->Int->Bool->cm->bA->Option qi
 |0,_,_,_,_,_,_,_,_,_,_,_,_=>none
 |n+1,t1,t2,t3,t4,t5,t6,t7,t8,t9,t10,m1,O=>IB k v2 o (uv k v2 o n) t1 t2 t3 t4 t5 t6 t7 t8 t9 t10 m1 O
def wI(k:Nat)(O:aV)(o:dJ)(U:List UInt8):Option qi:=
 Option.bind (oe k (O.1,O.2.1,()) (o.1,o.2.1,o.2.2.1,(o.2.2.2.1.1,()),(o.2.2.2.2.1.1,()),o.2.2.2.2.2.1,o.2.2.2.2.2.2.1,())) fun v1=>
 if v1 !=(0:Int)then
  some (([]:List cz),v1)
 else
  (
   Option.bind (wT k (O.1,O.2.1,()) U) fun v2=>
   if v2.2 !=(0:Int)then
    some (([]:List cz),v2.2)
   else
    (
     Option.bind (mB k (O.1,O.2.1,()) (o.1,o.2.1,o.2.2.1,(o.2.2.2.1.1,()),(o.2.2.2.2.1.1,()),o.2.2.2.2.2.1,o.2.2.2.2.2.2.1,())) fun v3=>
     uv k v2 o k (0:Int) v3.1 v3.2.1 v3.2.2.2.1 v3.2.2.2.2.1 v3.2.2.2.2.2.1 v3.2.2.2.2.2.2.1 v3.2.2.2.2.2.2.2.1 v3.2.2.2.2.2.2.2.2.1 v3.2.2.2.2.2.2.2.2.2 v3.2.2.1 ([]:List cz)
    )
  )
def za(k:Nat)(o:aV)(O:List UInt8):Option Int:=
 Option.bind (E5 k (o.1,o.2.1,())) fun v1=>
 Option.bind (wI k (o.1,o.2.1,()) v1 O) fun v2=>
 some (v2.2)
def vW(k:Nat)(o:aV)(O:List UInt8)(l1:List mZ):Option Int:=
 Option.bind (oD k (o.1,o.2.1,()) l1) fun v1=>
 if v1 !=(0:Int)then
  some (v1)
 else
  (
   Option.bind (za k (o.1,o.2.1,()) O) fun v2=>
   some (v2)
  )
def Kh(k:Nat)(O:aV)(v1:(Int×Int))(o:List (Int))(U:List UInt8)(go1:(List UInt8)->(List (Int))->Option (Int×List (Int)))(t2:Bool):Option (Int×List (Int)):=
 if t2 then
  some ((6:Int),([]:List (Int)))
 else
  (
   Option.bind (qT k (O.1,O.2.1,()) v1.1) fun v2=>
   if !v2 then
    some ((5:Int),([]:List (Int)))
   else
    (
     if(List.length o:Int)==(256:Int)then
      some ((4:Int),([]:List (Int)))
     else
      (
       Option.bind (aG (List.length o+List.length ([v1.1]:List (Int))<=lim)) fun _=>
       Option.bind (dK U v1.2 (U.length:Int)) fun W=>
       go1 W (o++([v1.1]:List (Int)))
      )
    )
  )
def FT(k:Nat)(U:aV)(go1:(List UInt8)->(List (Int))->Option (Int×List (Int)))(o:List UInt8)(O:List (Int)):Option (Int×List (Int)):=
 if !(o==([]:List UInt8))then
  (
   Option.bind (utf8_DecodeRuneInString k o) fun v1=>
   Kh k U v1 O o go1 ((v1.1==(65533:Int))&&(v1.2==(1:Int)))
  )
 else
  some ((0:Int),O)
def uC(k:Nat)(o:aV):Nat->(List UInt8)->(List (Int))->Option (Int×List (Int))
 |0,_,_=>none
 |n+1,O,U=>FT k o (uC k o n) O U
def qM(k:Nat)(o:aV)(O:List UInt8):Option (Int×List (Int)):=
 uC k o k O ([]:List (Int))
def vB(go1:Int->(List UInt8)->aN->cr->aI->aI->Int->Bool->cm->aS->aN->(List (Bool))->Option iu)(i2:Int)(t21:List UInt8)(t22:List av)(t23:List bG)(t24:List aB)(t25:List aB)(t26:Int)(t27:Bool)(m4:List bV)(t28:List (List UInt8))(t29:List av)(t30:List (Bool)):Option iu:=
 go1 (ai (i2+(1:Int))) t21 t22 t23 t24 t25 t26 t27 m4 t28 t29 t30
def LY(k:Nat)(l1:List (Int))(go1:Int->(List UInt8)->aN->cr->aI->aI->Int->Bool->cm->aS->aN->(List (Bool))->Option iu)(i1:Int)(t11:List UInt8)(t12:List av)(t13:List bG)(t14:List aB)(t15:List aB)(t16:Int)(t17:Bool)(m3:List bV)(t18:List (List UInt8))(t19:List av)(t20:List (Bool)):Option iu:=
 if decide (i1<=(List.length l1:Int))then
  (
   Option.bind (nX k l1 i1 t11 t12 t13 t14 t15 t16 t17 m3 t18 t19) fun v1=>
   if v1.1 then
    (
     Option.bind (ao t20 i1) fun o=>
     vB go1 (ai (i1+(mu (0:Int) (ai ((List.length v1.2.2.1:Int)-(1:Int)))))) v1.2.1 v1.2.2.1 v1.2.2.2.1 v1.2.2.2.2.1 v1.2.2.2.2.2.1 v1.2.2.2.2.2.2.1 v1.2.2.2.2.2.2.2.1 v1.2.2.2.2.2.2.2.2.1 v1.2.2.2.2.2.2.2.2.2.1 v1.2.2.2.2.2.2.2.2.2.2 (List.set t20 (i1).toNat true)
    )
   else
    vB go1 i1 v1.2.1 v1.2.2.1 v1.2.2.2.1 v1.2.2.2.2.1 v1.2.2.2.2.2.1 v1.2.2.2.2.2.2.1 v1.2.2.2.2.2.2.2.1 v1.2.2.2.2.2.2.2.2.1 v1.2.2.2.2.2.2.2.2.2.1 v1.2.2.2.2.2.2.2.2.2.2 t20
  )
 else
  some (t11,t12,t13,t14,t15,t16,t17,m3,t18,t19,t20)
def rs(k:Nat)(l1:List (Int)):Nat->Int->(List UInt8)->aN->cr->aI->aI->Int->Bool->cm->aS->aN->(List (Bool))->Option iu
 |0,_,_,_,_,_,_,_,_,_,_,_,_=>none
 |n+1,i1,t11,t12,t13,t14,t15,t16,t17,m3,t18,t19,t20=>LY k l1 (rs k l1 n) i1 t11 t12 t13 t14 t15 t16 t17 m3 t18 t19 t20
def vE(k:Nat)(l1:List (Int))(c1:List UInt8)(c2:List av)(c3:List bG)(c4:List aB)(c5:List aB)(c6:Int)(c7:Bool)(m1:List bV)(c8:List (List UInt8))(c9:List av):Option iu:=
 Option.bind (aG (0<=(ai ((List.length l1:Int)+(1:Int)))/\(ai ((List.length l1:Int)+(1:Int)))<=(ai ((List.length l1:Int)+(1:Int)))/\(ai ((List.length l1:Int)+(1:Int)))<=(lim:Int))) fun _=>
 rs k l1 k (0:Int) c1 c2 c3 c4 c5 c6 c7 m1 c8 c9 (List.replicate (ai ((List.length l1:Int)+(1:Int))).toNat false)
def HV(O:List UInt8)(go1:Int->Nat->Option Int)(U:Int)(o:Nat):Option Int:=
 if decide (o<List.length O)then
  go1 (ai (U+(1:Int))) (o+kH O o)
 else
  some (U)
def uE(o:List UInt8):Nat->Int->Nat->Option Int
 |0,_,_=>none
 |n+1,O,U=>HV o (uE o n) O U
def ph(k:Nat)(o:List UInt8):Option Int:=
 uE o k (0:Int) 0
def Cc(k:Nat)(U:List UInt8)(o:Int)(t1:List (Bool)):Option Bool:=
 Option.bind (ao t1 o) fun O=>
 some (O)
def DC(k:Nat)(o:ee)(O:ee)(t1:ee):Option Int:=
 Option.bind (oH k (o.1,o.2.1,o.2.2.1,()) t1) fun v1=>
 Option.bind (oH k (O.1,O.2.1,O.2.2.1,()) t1) fun v2=>
 some (ai (v1-v2))
def vP(go1:Int->Int->Int->Int->Option ee)(i1:Int)(m4:Int)(m5:Int)(m6:Int):Option ee:=
 go1 (ai (i1+(1:Int))) m4 m5 m6
def Iv(k:Nat)(O:List av)(U:(ee×Unit))(go1:Int->Int->Int->Int->Option ee)(i1:Int)(m1:Int)(m2:Int)(m3:Int):Option ee:=
 if decide (i1<(List.length O:Int))then
  (
   Option.bind (ao O i1) fun o=>
   Option.bind (DC k o (m1,m2,m3,()) U.1) fun v1=>
   if decide (v1<(0:Int))then
    vP go1 i1 o.1 o.2.1 o.2.2.1
   else
    vP go1 i1 m1 m2 m3
  )
 else
  some ((m1,m2,m3,()))
def si(k:Nat)(o:List av)(O:(ee×Unit)):Nat->Int->Int->Int->Int->Option ee
 |0,_,_,_,_=>none
 |n+1,i1,m1,m2,m3=>Iv k o O (si k o O n) i1 m1 m2 m3
def Fl(k:Nat)(o:List av)(U:(ee×Unit)):Option ee:=
 if decide ((List.length o:Int)<(1:Int))then
  none
 else
  (
   Option.bind (ao o (0:Int)) fun O=>
   si k o U k (1:Int) O.1 O.2.1 O.2.2.1
  )
def vM(k:Nat)(o:aV)(W:Int)(O:Int)(U:Int):Option (Int×Int):=
 Option.bind (np k (o.1,o.2.1,()) W) fun v1=>
 if v1.2 !=(0:Int)then
  some ((0:Int),v1.2)
 else
  (
   Option.bind (kJ k (o.1,o.2.1,()) O U) fun v2=>
   if !v2 then
    some ((0:Int),(20:Int))
   else
    (
     Option.bind (Fl k o.2.1 ((v1.1.1,dN (BitVec.toNat (BitVec.ofInt 32 (dN (BitVec.toNat (BitVec.ofInt 32 v1.1.2.1&&&~~~BitVec.ofInt 32 U)))|||BitVec.ofInt 32 O)),dN (BitVec.toNat (BitVec.ofInt 32 (dN (BitVec.toNat (BitVec.ofInt 32 v1.1.2.2.1&&&~~~BitVec.ofInt 32 O)))|||BitVec.ofInt 32 U)),()),())) fun v3=>
     some (v3.1,(0:Int))
    )
  )
def Bw(k:Nat)(O:Int)(o:nF)(t1:aV):Option Int:=
 Option.bind (vM k t1 O o.2.2.1 o.2.2.2.1) fun v1=>
 some (v1.1)
def yl(go1:Int->(List (Int))->Option (List (Int)))(t1:Int)(o:List (Int)):Option (List (Int)):=
 go1 (ai (t1+(1:Int))) o
def G3(k:Nat)(c3:List bG)(U:List (Int))(c8:List (List UInt8))(c9:List av)(go1:Int->(List (Int))->Option (List (Int)))(t1:Int)(O:List (Int)):Option (List (Int)):=
 if decide (t1<(List.length c3:Int))then
  (
   Option.bind (ao c3 t1) fun o=>
   if o.1 !=(0:Int)then
    (
     Option.bind (aG (List.length O+List.length ([o.1]:List (Int))<=lim)) fun _=>
     yl go1 t1 (O++([o.1]:List (Int)))
    )
   else
    (
     Option.bind (ao U o.2.1) fun W=>
     Option.bind (Bw k W (o.1,o.2.1,o.2.2.1,o.2.2.2.1,()) (c8,c9,())) fun v1=>
     Option.bind (aG (List.length O+List.length ([v1]:List (Int))<=lim)) fun _=>
     yl go1 t1 (O++([v1]:List (Int)))
    )
  )
 else
  some O
def sM(k:Nat)(c3:List bG)(o:List (Int))(c8:List (List UInt8))(c9:List av):Nat->Int->(List (Int))->Option (List (Int))
 |0,_,_=>none
 |n+1,t1,O=>G3 k c3 o c8 c9 (sM k c3 o c8 c9 n) t1 O
def pH(k:Nat)(o:List (Int))(c1:List UInt8)(c2:List av)(c3:List bG)(c4:List aB)(c5:List aB)(c6:Int)(c7:Bool)(m1:List bV)(c8:List (List UInt8))(c9:List av):Option (List (Int)):=
 sM k c3 o c8 c9 k (0:Int) ([]:List (Int))
def qS(t12:Int)(o:List eO)(O:eP->bP->bP->Option b7)(U:bv)(W:List UInt8):Option b7:=
 Option.bind (aG (0<=(ai (t12+(1:Int)))/\(ai (t12+(1:Int)))<(List.length o:Int))) fun _=>
 Option.bind (gw o (ai (t12+(1:Int)))) fun Z=>
 Option.bind (iE o (ai (t12+(1:Int)))) fun Y=>
 O (List.set o (ai (t12+(1:Int))).toNat (some (some (cb (aD .str) Y W true)))) ([]:List bv) [U]
def tO(t12:Int)(l1:List (Int))(o:bv)(O:List eO)(U:eP->bP->bP->Option b7)(t23:Bool):Option b7:=
 if t23 then
  (
   if decide (t12<(List.length l1:Int))then
    (
     Option.bind (ao l1 t12) fun W=>
     Option.bind (aG (List.length o.1+List.length ((Utf8.encode W).data.toList)<=lim)) fun _=>
     qS t12 O U o (o.1++((Utf8.encode W).data.toList))
    )
   else
    qS t12 O U o o.1
  )
 else
  U O ([]:List bv) [o]
def qa(t12:Int)(l1:List (Int))(o:bv)(O:eP->bP->bP->Option b7)(v3:Bool)(U:Bool)(W:List eO):Option b7:=
 tO t12 l1 o W O ((!v3)||U)
def qo(O:List eO)(t12:Int)(l1:List (Int))(U:bv)(W:eP->bP->bP->Option b7)(v3:Bool)(Y:Bool)(Z:List UInt8)(o:Int):Option b7:=
 Option.bind (aG (0<=o/\o<(List.length O:Int))) fun _=>
 Option.bind (gw O o) fun lc=>
 Option.bind (iE O o) fun la=>
 qa t12 l1 U W v3 Y (List.set O (o).toNat (some (some (cb (aD .str) la Z true))))
def ra(o:List eO)(t12:Int)(l1:List (Int))(O:bv)(U:eP->bP->bP->Option b7)(v3:Bool)(W:Bool)(v1:iu)(Y:List UInt8):Option b7:=
 qo o t12 l1 O U v3 W Y (ai ((ai (t12+(List.length v1.2.1:Int)))+(1:Int)))
def tE(k:Nat)(go2:Int->eP->(List UInt8)->aN->cr->aI->aI->Int->Bool->cm->aS->aN->(List (Bool))->Option b7)(t12:Int)(t13:List UInt8)(t14:List av)(t15:List bG)(t16:List aB)(t17:List aB)(t18:Int)(t19:Bool)(m3:List bV)(t20:List (List UInt8))(t21:List av)(t22:List (Bool))(l1:List (Int))(v1:iu)(U:Bool)(W:eP->bP->bP->Option b7)(O:List eO)(Z:List bv)(lc:List bv):Option b7:=
 nt Z (
  go2 (ai (t12+(1:Int))) O t13 t14 t15 t16 t17 t18 t19 m3 t20 t21 t22
 ) fun o=>
 Option.bind (ph k o.1) fun v2=>
 if decide ((256:Int)<(ai ((ai (v2+(List.length l1:Int)))-t12)))then
  some ((9:Int),t13,t14,t15,t16,t17,t18,t19,m3,t20,t21,([]:List (List UInt8)))
 else
  (
   Option.bind (Cc k o.1 t12 t22) fun v3=>
   if v3 then
    (
     Option.bind (dK l1 t12 (ai (t12+(List.length v1.2.1:Int)))) fun la=>
     Option.bind (pH k la t13 t14 t15 t16 t17 t18 t19 m3 t20 t21) fun v4=>
     Option.bind (aG (List.length (cM v4)<=lim)) fun _=>
     Option.bind (aG (List.length o.1+List.length (cM v4)<=lim)) fun _=>
     if(List.length v1.2.1:Int)==(0:Int)then
      (
       if decide (t12<(List.length l1:Int))then
        (
         Option.bind (ao l1 t12) fun Y=>
         Option.bind (aG (List.length (o.1++(cM v4))+List.length ((Utf8.encode Y).data.toList)<=lim)) fun _=>
         ra O t12 l1 o W v3 U v1 ((o.1++(cM v4))++((Utf8.encode Y).data.toList))
        )
       else
        ra O t12 l1 o W v3 U v1 (o.1++(cM v4))
      )
     else
      qo O t12 l1 o W v3 U (o.1++(cM v4)) (ai (t12+(List.length v1.2.1:Int)))
    )
   else
    qa t12 l1 o W v3 U O
  )
def gQ(k:Nat)(go2:Int->eP->(List UInt8)->aN->cr->aI->aI->Int->Bool->cm->aS->aN->(List (Bool))->Option b7)(t12:Int)(t13:List UInt8)(t14:List av)(t15:List bG)(t16:List aB)(t17:List aB)(t18:Int)(t19:Bool)(m3:List bV)(t20:List (List UInt8))(t21:List av)(t22:List (Bool))(l1:List (Int))(v1:iu)(o:Bool):Nat->eP->bP->bP->Option b7
 |0,_,_,_=>none
 |n+1,O,U,W=>tE k go2 t12 t13 t14 t15 t16 t17 t18 t19 m3 t20 t21 t22 l1 v1 o (gQ k go2 t12 t13 t14 t15 t16 t17 t18 t19 m3 t20 t21 t22 l1 v1 o n) O U W
def vn(k:Nat)(t13:List UInt8)(t14:List av)(t15:List bG)(t16:List aB)(t17:List aB)(t18:Int)(t19:Bool)(m3:List bV)(t20:List (List UInt8))(t21:List av)(U:bP->bP->aS->Option b7)(W:List bv)(dS:List bv)(O:List (List UInt8)):Option b7:=
 nt W (
  some ((0:Int),t13,t14,t15,t16,t17,t18,t19,m3,t20,t21,O)
 ) fun o=>
 Option.bind (ph k o.1) fun v5=>
 if decide ((256:Int)<v5)then
  some ((9:Int),t13,t14,t15,t16,t17,t18,t19,m3,t20,t21,([]:List (List UInt8)))
 else
  (
   Option.bind (aG (List.length O+List.length ([o.1]:List (List UInt8))<=lim)) fun _=>
   U ([]:List bv) [o] (O++([o.1]:List (List UInt8)))
  )
def oR(k:Nat)(t13:List UInt8)(t14:List av)(t15:List bG)(t16:List aB)(t17:List aB)(t18:Int)(t19:Bool)(m3:List bV)(t20:List (List UInt8))(t21:List av):Nat->bP->bP->aS->Option b7
 |0,_,_,_=>none
 |n+1,o,dS,O=>vn k t13 t14 t15 t16 t17 t18 t19 m3 t20 t21 (oR k t13 t14 t15 t16 t17 t18 t19 m3 t20 t21 n) o dS O
def xt(k:Nat)(l1:List (Int))(v1:iu)(W:Bool)(go2:Int->eP->(List UInt8)->aN->cr->aI->aI->Int->Bool->cm->aS->aN->(List (Bool))->Option b7)(t12:Int)(o:List eO)(t13:List UInt8)(t14:List av)(t15:List bG)(t16:List aB)(t17:List aB)(t18:Int)(t19:Bool)(m3:List bV)(t20:List (List UInt8))(t21:List av)(t22:List (Bool)):Option b7:=
 if decide (t12<(ai ((List.length l1:Int)+(1:Int))))then
  (
   Option.bind (aG (0<=t12/\t12<(List.length o:Int))) fun _=>
   Option.bind (gw o t12) fun O=>
   if decide ((1024:Int)<(List.length (Option.getD O []):Int))then
    some ((9:Int),t13,t14,t15,t16,t17,t18,t19,m3,t20,t21,([]:List (List UInt8)))
   else
    (
     Option.bind (aG (0<=t12/\t12<(List.length o:Int))) fun _=>
     gQ k go2 t12 t13 t14 t15 t16 t17 t18 t19 m3 t20 t21 t22 l1 v1 W k (List.set o (t12).toNat none) (O.getD []) ([]:List bv)
    )
  )
 else
  (
   Option.bind (aG (0<=(ai ((List.length l1:Int)+(1:Int)))/\(ai ((List.length l1:Int)+(1:Int)))<(List.length o:Int))) fun _=>
   Option.bind (gw o (ai ((List.length l1:Int)+(1:Int)))) fun U=>
   if decide ((1024:Int)<(List.length (U.getD []):Int))then
    some ((9:Int),t13,t14,t15,t16,t17,t18,t19,m3,t20,t21,([]:List (List UInt8)))
   else
    oR k t13 t14 t15 t16 t17 t18 t19 m3 t20 t21 k (U.getD []) ([]:List bv) ([]:List (List UInt8))
  )
def iB(k:Nat)(l1:List (Int))(v1:iu)(o:Bool):Nat->Int->eP->(List UInt8)->aN->cr->aI->aI->Int->Bool->cm->aS->aN->(List (Bool))->Option b7
 |0,_,_,_,_,_,_,_,_,_,_,_,_,_=>none
 |n+1,t12,O,t13,t14,t15,t16,t17,t18,t19,m3,t20,t21,t22=>xt k l1 v1 o (iB k l1 v1 o n) t12 O t13 t14 t15 t16 t17 t18 t19 m3 t20 t21 t22
def yU(k:Nat)(l1:List (Int))(v1:iu)(O:Bool)(go1:Int->eP->Option b7)(t11:Int)(o:List eO):Option b7:=
 if decide (t11<(List.length (List.map some (List.replicate (ai ((List.length l1:Int)+(2:Int))).toNat (none:Option bP))):Int))then
  (
   Option.bind (aG (0<=t11/\t11<(List.length o:Int))) fun _=>
   Option.bind (aG (0<=t11/\t11<(List.length o:Int))) fun _=>
   go1 (ai (t11+(1:Int))) (List.set o (t11).toNat (some (some ([]:List bv))))
  )
 else
  (
   Option.bind (aG (0<=(0:Int)/\(0:Int)<(List.length o:Int))) fun _=>
   Option.bind (gw o (0:Int)) fun W=>
   Option.bind (iE o (0:Int)) fun U=>
   iB k l1 v1 O k (0:Int) (List.set o ((0:Int)).toNat (some (some (cb (aD .str) U ([]:List UInt8) true)))) v1.1 v1.2.1 v1.2.2.1 v1.2.2.2.1 v1.2.2.2.2.1 v1.2.2.2.2.2.1 v1.2.2.2.2.2.2.1 v1.2.2.2.2.2.2.2.1 v1.2.2.2.2.2.2.2.2.1 v1.2.2.2.2.2.2.2.2.2.1 v1.2.2.2.2.2.2.2.2.2.2
  )
def qY(k:Nat)(l1:List (Int))(v1:iu)(o:Bool):Nat->Int->eP->Option b7
 |0,_,_=>none
 |n+1,t11,O=>yU k l1 v1 o (qY k l1 v1 o n) t11 O
def o7(k:Nat)(l1:List (Int))(o:Bool)(c1:List UInt8)(c2:List av)(c3:List bG)(c4:List aB)(c5:List aB)(c6:Int)(c7:Bool)(m1:List bV)(c8:List (List UInt8))(c9:List av):Option b7:=
 Option.bind (vE k l1 c1 c2 c3 c4 c5 c6 c7 m1 c8 c9) fun v1=>
 Option.bind (aG (0<(ai ((List.length l1:Int)+(2:Int))))) fun _=>
 Option.bind (aG (0<=(ai ((List.length l1:Int)+(2:Int)))/\(ai ((List.length l1:Int)+(2:Int)))<=(ai ((List.length l1:Int)+(2:Int)))/\(ai ((List.length l1:Int)+(2:Int)))<=(lim:Int))) fun _=>
 qY k l1 v1 o k (0:Int) (List.map some (List.replicate (ai ((List.length l1:Int)+(2:Int))).toNat (none:Option bP)))
def uD(k:Nat)(l1:List (Int))(c1:List UInt8)(c2:List av)(c3:List bG)(c4:List aB)(c5:List aB)(c6:Int)(c7:Bool)(m1:List bV)(c8:List (List UInt8))(c9:List av):Option (List (Int)):=
 some l1
def qC(k:Nat)(o:List UInt8)(U:Int)(c1:List UInt8)(c2:List av)(c3:List bG)(c4:List aB)(c5:List aB)(c6:Int)(c7:Bool)(m1:List bV)(c8:List (List UInt8))(c9:List av)(c10:List (Int)):Option gG:=
 Option.bind (aG (List.length o<=lim)) fun _=>
 Option.bind (dK c10 U (c10.length:Int)) fun O=>
 Option.bind (aG (List.length (gi o)+List.length O<=lim)) fun _=>
 Option.bind (nX k ((gi o)++O) (List.length (gi o):Int) c1 c2 c3 c4 c5 c6 c7 m1 c8 c9) fun v1=>
 some (v1.1,v1.2.1,v1.2.2.1,v1.2.2.2.1,v1.2.2.2.2.1,v1.2.2.2.2.2.1,v1.2.2.2.2.2.2.1,v1.2.2.2.2.2.2.2.1,v1.2.2.2.2.2.2.2.2.1,v1.2.2.2.2.2.2.2.2.2.1,v1.2.2.2.2.2.2.2.2.2.2)
def qr(t12:Int)(o:List eO)(O:eP->bP->bP->(List UInt8)->aN->cr->aI->aI->Int->Bool->cm->aS->aN->Option b7)(U:bv)(v3:gG)(W:List UInt8):Option b7:=
 Option.bind (aG (0<=(ai (t12+(1:Int)))/\(ai (t12+(1:Int)))<(List.length o:Int))) fun _=>
 Option.bind (gw o (ai (t12+(1:Int)))) fun Z=>
 Option.bind (iE o (ai (t12+(1:Int)))) fun Y=>
 O (List.set o (ai (t12+(1:Int))).toNat (some (some (cb (aD .str) Y W true)))) ([]:List bv) [U] v3.2.1 v3.2.2.1 v3.2.2.2.1 v3.2.2.2.2.1 v3.2.2.2.2.2.1 v3.2.2.2.2.2.2.1 v3.2.2.2.2.2.2.2.1 v3.2.2.2.2.2.2.2.2.1 v3.2.2.2.2.2.2.2.2.2.1 v3.2.2.2.2.2.2.2.2.2.2
def uX(t12:Int)(l1:List (Int))(o:bv)(O:List eO)(U:eP->bP->bP->(List UInt8)->aN->cr->aI->aI->Int->Bool->cm->aS->aN->Option b7)(v3:gG)(t32:Bool):Option b7:=
 if t32 then
  (
   if decide (t12<(List.length l1:Int))then
    (
     Option.bind (ao l1 t12) fun W=>
     Option.bind (aG (List.length o.1+List.length ((Utf8.encode W).data.toList)<=lim)) fun _=>
     qr t12 O U o v3 (o.1++((Utf8.encode W).data.toList))
    )
   else
    qr t12 O U o v3 o.1
  )
 else
  U O ([]:List bv) [o] v3.2.1 v3.2.2.1 v3.2.2.2.1 v3.2.2.2.2.1 v3.2.2.2.2.2.1 v3.2.2.2.2.2.2.1 v3.2.2.2.2.2.2.2.1 v3.2.2.2.2.2.2.2.2.1 v3.2.2.2.2.2.2.2.2.2.1 v3.2.2.2.2.2.2.2.2.2.2
def pQ(t12:Int)(l1:List (Int))(o:bv)(O:eP->bP->bP->(List UInt8)->aN->cr->aI->aI->Int->Bool->cm->aS->aN->Option b7)(v3:gG)(U:Bool)(W:List eO):Option b7:=
 uX t12 l1 o W O v3 ((!v3.1)||U)
def ru(O:List eO)(t12:Int)(l1:List (Int))(U:bv)(W:eP->bP->bP->(List UInt8)->aN->cr->aI->aI->Int->Bool->cm->aS->aN->Option b7)(v3:gG)(Y:Bool)(Z:List UInt8)(o:Int):Option b7:=
 Option.bind (aG (0<=o/\o<(List.length O:Int))) fun _=>
 Option.bind (gw O o) fun lc=>
 Option.bind (iE O o) fun la=>
 pQ t12 l1 U W v3 Y (List.set O (o).toNat (some (some (cb (aD .str) la Z true))))
def qX(o:List eO)(t12:Int)(l1:List (Int))(O:bv)(U:eP->bP->bP->(List UInt8)->aN->cr->aI->aI->Int->Bool->cm->aS->aN->Option b7)(v3:gG)(W:Bool)(c2:List av)(Y:List UInt8):Option b7:=
 ru o t12 l1 O U v3 W Y (ai ((ai (t12+(List.length c2:Int)))+(1:Int)))
def vD(k:Nat)(go2:Int->eP->(List (Int))->(List UInt8)->aN->cr->aI->aI->Int->Bool->cm->aS->aN->Option b7)(t12:Int)(t13:List (Int))(l1:List (Int))(c2:List av)(U:Bool)(W:eP->bP->bP->(List UInt8)->aN->cr->aI->aI->Int->Bool->cm->aS->aN->Option b7)(O:List eO)(Z:List bv)(lc:List bv)(t23:List UInt8)(t24:List av)(t25:List bG)(t26:List aB)(t27:List aB)(t28:Int)(t29:Bool)(m4:List bV)(t30:List (List UInt8))(t31:List av):Option b7:=
 nt Z (
  go2 (ai (t12+(1:Int))) O t13 t23 t24 t25 t26 t27 t28 t29 m4 t30 t31
 ) fun o=>
 Option.bind (ph k o.1) fun v2=>
 if decide ((256:Int)<(ai ((ai (v2+(List.length l1:Int)))-t12)))then
  some ((9:Int),t23,t24,t25,t26,t27,t28,t29,m4,t30,t31,([]:List (List UInt8)))
 else
  (
   Option.bind (qC k o.1 t12 t23 t24 t25 t26 t27 t28 t29 m4 t30 t31 t13) fun v3=>
   if v3.1 then
    (
     Option.bind (dK l1 t12 (ai (t12+(List.length c2:Int)))) fun la=>
     Option.bind (pH k la v3.2.1 v3.2.2.1 v3.2.2.2.1 v3.2.2.2.2.1 v3.2.2.2.2.2.1 v3.2.2.2.2.2.2.1 v3.2.2.2.2.2.2.2.1 v3.2.2.2.2.2.2.2.2.1 v3.2.2.2.2.2.2.2.2.2.1 v3.2.2.2.2.2.2.2.2.2.2) fun v4=>
     Option.bind (aG (List.length (cM v4)<=lim)) fun _=>
     Option.bind (aG (List.length o.1+List.length (cM v4)<=lim)) fun _=>
     if(List.length c2:Int)==(0:Int)then
      (
       if decide (t12<(List.length l1:Int))then
        (
         Option.bind (ao l1 t12) fun Y=>
         Option.bind (aG (List.length (o.1++(cM v4))+List.length ((Utf8.encode Y).data.toList)<=lim)) fun _=>
         qX O t12 l1 o W v3 U c2 ((o.1++(cM v4))++((Utf8.encode Y).data.toList))
        )
       else
        qX O t12 l1 o W v3 U c2 (o.1++(cM v4))
      )
     else
      ru O t12 l1 o W v3 U (o.1++(cM v4)) (ai (t12+(List.length c2:Int)))
    )
   else
    pQ t12 l1 o W v3 U O
  )
def gM(k:Nat)(go2:Int->eP->(List (Int))->(List UInt8)->aN->cr->aI->aI->Int->Bool->cm->aS->aN->Option b7)(t12:Int)(t13:List (Int))(l1:List (Int))(c2:List av)(o:Bool):Nat->eP->bP->bP->(List UInt8)->aN->cr->aI->aI->Int->Bool->cm->aS->aN->Option b7
 |0,_,_,_,_,_,_,_,_,_,_,_,_,_=>none
 |n+1,O,U,W,t23,t24,t25,t26,t27,t28,t29,m4,t30,t31=>vD k go2 t12 t13 l1 c2 o (gM k go2 t12 t13 l1 c2 o n) O U W t23 t24 t25 t26 t27 t28 t29 m4 t30 t31
def uL(k:Nat)(t14:List UInt8)(t15:List av)(t16:List bG)(t17:List aB)(t18:List aB)(t19:Int)(t20:Bool)(m3:List bV)(t21:List (List UInt8))(t22:List av)(U:bP->bP->aS->Option b7)(W:List bv)(dS:List bv)(O:List (List UInt8)):Option b7:=
 nt W (
  some ((0:Int),t14,t15,t16,t17,t18,t19,t20,m3,t21,t22,O)
 ) fun o=>
 Option.bind (ph k o.1) fun v5=>
 if decide ((256:Int)<v5)then
  some ((9:Int),t14,t15,t16,t17,t18,t19,t20,m3,t21,t22,([]:List (List UInt8)))
 else
  (
   Option.bind (aG (List.length O+List.length ([o.1]:List (List UInt8))<=lim)) fun _=>
   U ([]:List bv) [o] (O++([o.1]:List (List UInt8)))
  )
def oF(k:Nat)(t14:List UInt8)(t15:List av)(t16:List bG)(t17:List aB)(t18:List aB)(t19:Int)(t20:Bool)(m3:List bV)(t21:List (List UInt8))(t22:List av):Nat->bP->bP->aS->Option b7
 |0,_,_,_=>none
 |n+1,o,dS,O=>uL k t14 t15 t16 t17 t18 t19 t20 m3 t21 t22 (oF k t14 t15 t16 t17 t18 t19 t20 m3 t21 t22 n) o dS O
def xL(k:Nat)(l1:List (Int))(c2:List av)(W:Bool)(go2:Int->eP->(List (Int))->(List UInt8)->aN->cr->aI->aI->Int->Bool->cm->aS->aN->Option b7)(t12:Int)(o:List eO)(t13:List (Int))(t14:List UInt8)(t15:List av)(t16:List bG)(t17:List aB)(t18:List aB)(t19:Int)(t20:Bool)(m3:List bV)(t21:List (List UInt8))(t22:List av):Option b7:=
 if decide (t12<(ai ((List.length l1:Int)+(1:Int))))then
  (
   Option.bind (aG (0<=t12/\t12<(List.length o:Int))) fun _=>
   Option.bind (gw o t12) fun O=>
   if decide ((1024:Int)<(List.length (Option.getD O []):Int))then
    some ((9:Int),t14,t15,t16,t17,t18,t19,t20,m3,t21,t22,([]:List (List UInt8)))
   else
    (
     Option.bind (aG (0<=t12/\t12<(List.length o:Int))) fun _=>
     gM k go2 t12 t13 l1 c2 W k (List.set o (t12).toNat none) (O.getD []) ([]:List bv) t14 t15 t16 t17 t18 t19 t20 m3 t21 t22
    )
  )
 else
  (
   Option.bind (aG (0<=(ai ((List.length l1:Int)+(1:Int)))/\(ai ((List.length l1:Int)+(1:Int)))<(List.length o:Int))) fun _=>
   Option.bind (gw o (ai ((List.length l1:Int)+(1:Int)))) fun U=>
   if decide ((1024:Int)<(List.length (U.getD []):Int))then
    some ((9:Int),t14,t15,t16,t17,t18,t19,t20,m3,t21,t22,([]:List (List UInt8)))
   else
    oF k t14 t15 t16 t17 t18 t19 t20 m3 t21 t22 k (U.getD []) ([]:List bv) ([]:List (List UInt8))
  )
def iH(k:Nat)(l1:List (Int))(c2:List av)(o:Bool):Nat->Int->eP->(List (Int))->(List UInt8)->aN->cr->aI->aI->Int->Bool->cm->aS->aN->Option b7
 |0,_,_,_,_,_,_,_,_,_,_,_,_,_=>none
 |n+1,t12,O,t13,t14,t15,t16,t17,t18,t19,t20,m3,t21,t22=>xL k l1 c2 o (iH k l1 c2 o n) t12 O t13 t14 t15 t16 t17 t18 t19 t20 m3 t21 t22
def zF(k:Nat)(l1:List (Int))(c2:List av)(O:Bool)(v1:List (Int))(c1:List UInt8)(c3:List bG)(c4:List aB)(c5:List aB)(c6:Int)(c7:Bool)(m1:List bV)(c8:List (List UInt8))(c9:List av)(go1:Int->eP->Option b7)(t11:Int)(o:List eO):Option b7:=
 if decide (t11<(List.length (List.map some (List.replicate (ai ((List.length l1:Int)+(2:Int))).toNat (none:Option bP))):Int))then
  (
   Option.bind (aG (0<=t11/\t11<(List.length o:Int))) fun _=>
   Option.bind (aG (0<=t11/\t11<(List.length o:Int))) fun _=>
   go1 (ai (t11+(1:Int))) (List.set o (t11).toNat (some (some ([]:List bv))))
  )
 else
  (
   Option.bind (aG (0<=(0:Int)/\(0:Int)<(List.length o:Int))) fun _=>
   Option.bind (gw o (0:Int)) fun W=>
   Option.bind (iE o (0:Int)) fun U=>
   iH k l1 c2 O k (0:Int) (List.set o ((0:Int)).toNat (some (some (cb (aD .str) U ([]:List UInt8) true)))) v1 c1 c2 c3 c4 c5 c6 c7 m1 c8 c9
  )
def rp(k:Nat)(l1:List (Int))(c2:List av)(o:Bool)(v1:List (Int))(c1:List UInt8)(c3:List bG)(c4:List aB)(c5:List aB)(c6:Int)(c7:Bool)(m1:List bV)(c8:List (List UInt8))(c9:List av):Nat->Int->eP->Option b7
 |0,_,_=>none
 |n+1,t11,O=>zF k l1 c2 o v1 c1 c3 c4 c5 c6 c7 m1 c8 c9 (rp k l1 c2 o v1 c1 c3 c4 c5 c6 c7 m1 c8 c9 n) t11 O
def ol(k:Nat)(l1:List (Int))(o:Bool)(c1:List UInt8)(c2:List av)(c3:List bG)(c4:List aB)(c5:List aB)(c6:Int)(c7:Bool)(m1:List bV)(c8:List (List UInt8))(c9:List av):Option b7:=
 Option.bind (uD k l1 c1 c2 c3 c4 c5 c6 c7 m1 c8 c9) fun v1=>
 Option.bind (aG (0<(ai ((List.length l1:Int)+(2:Int))))) fun _=>
 Option.bind (aG (0<=(ai ((List.length l1:Int)+(2:Int)))/\(ai ((List.length l1:Int)+(2:Int)))<=(ai ((List.length l1:Int)+(2:Int)))/\(ai ((List.length l1:Int)+(2:Int)))<=(lim:Int))) fun _=>
 rp k l1 c2 o v1 c1 c3 c4 c5 c6 c7 m1 c8 c9 k (0:Int) (List.map some (List.replicate (ai ((List.length l1:Int)+(2:Int))).toNat (none:Option bP)))
def ql(k:Nat)(o:List av):Option aN:=
 Option.bind (aG (List.length ([]:List av)+List.length o<=lim)) fun _=>
 some (([]:List av)++o)
def qg(k:Nat)(o:List bG):Option cr:=
 Option.bind (aG (List.length ([]:List bG)+List.length o<=lim)) fun _=>
 some (([]:List bG)++o)
def qK(k:Nat)(o:List (Int)):Option (List (Int)):=
 Option.bind (aG (List.length ([]:List (Int))+List.length o<=lim)) fun _=>
 some (([]:List (Int))++o)
def HZ(t1:List (Int))(O:List aB)(W:Int->aI->Bool->aI->Option aI)(c1:List aB)(c2:Bool)(go1:Int->aI->Option aI)(t2:Int)(o:List aB):Option aI:=
 if decide (t2<(List.length t1:Int))then
  (
   Option.bind (ao t1 t2) fun Y=>
   Option.bind (aG (0<=(List.length O:Int)/\(List.length O:Int)<(List.length o:Int))) fun _=>
   Option.bind (ao o (List.length O:Int)) fun U=>
   Option.bind (aG (List.length U.2.2.2.2.1+List.length ([(List.length o:Int)]:List (Int))<=lim)) fun _=>
   Option.bind (aG (0<=(List.length O:Int)/\(List.length O:Int)<(List.length o:Int))) fun _=>
   Option.bind (W Y c1 c2 (List.set o ((List.length O:Int)).toNat (U.1,U.2.1,U.2.2.1,U.2.2.2.1,U.2.2.2.2.1++([(List.length o:Int)]:List (Int)),()))) fun v2=>
   go1 (ai (t2+(1:Int))) v2
  )
 else
  some o
def uy(t1:List (Int))(o:List aB)(O:Int->aI->Bool->aI->Option aI)(c1:List aB)(c2:Bool):Nat->Int->aI->Option aI
 |0,_,_=>none
 |n+1,t2,U=>HZ t1 o O c1 c2 (uy t1 o O c1 c2 n) t2 U
def tn(k:Nat)(O:List aB)(o:gb)(U:Int->aI->Bool->aI->Option aI)(c1:List aB)(c2:Bool)(t1:List (Int)):Option aI:=
 Option.bind (aG (0<=(0:Int)/\(0:Int)<=(List.length t1:Int)/\(List.length t1:Int)<=(lim:Int))) fun _=>
 Option.bind (aG (List.length O+List.length ([(o.1,o.2.1,o.2.2.1,o.2.2.2.1,List.replicate ((0:Int)).toNat (0:Int),())]:List aB)<=lim)) fun _=>
 uy t1 O U c1 c2 k (0:Int) (O++([(o.1,o.2.1,o.2.2.1,o.2.2.2.1,List.replicate ((0:Int)).toNat (0:Int),())]:List aB))
def Lo(k:Nat)(o:List aB)(O:gb)(U:Int->aI->Bool->aI->Option aI)(c1:List aB)(c2:Bool)(v1:List (Int))(t3:Bool):Option aI:=
 if t3 then
  tn k o O U c1 c2 (List.reverse v1)
 else
  tn k o O U c1 c2 v1
def jV:Nat->Int->aI->Bool->aI->Option aI
 |0,_,_,_,_=>none
 |k+1,O,c1,c2,U=>
  Option.bind (ao c1 O) fun o=>
  Option.bind (qK k o.2.2.2.2.1) fun v1=>
  Lo k U o (jV k) c1 c2 v1 (c2&&(o.1==(6:Int)))
def vb(k:Nat)(o:List aB)(O:Int)(U:Bool)(W:List aB):Option aI:=
 Option.bind (jV k O o U W) fun v1=>
 some v1
def vd(k:Nat)(o:eW):Option (eW×Int):=
 Option.bind (kr k (o.1,())) fun v1=>
 if !v1 then
  some ((([]:List aB),()),(40:Int))
 else
  (
   Option.bind (vb k o.1 (0:Int) true ([]:List aB)) fun v2=>
   some ((v2,()),(0:Int))
  )
def ym(go1:Int->cr->Option dJ)(t1:Int)(t3:List bG):Option dJ:=
 go1 (ai (t1+(1:Int))) t3
def Gs(k:Nat)(v2:List bG)(v1:List av)(o:dJ)(go1:Int->cr->Option dJ)(t1:Int)(t2:List bG):Option dJ:=
 if decide (t1<(List.length (List.reverse v2):Int))then
  (
   Option.bind (ao t2 t1) fun O=>
   if O.1==(0:Int)then
    ym go1 t1 (List.set t2 (t1).toNat (O.1,ai ((ai ((List.length (List.reverse v1):Int)-(1:Int)))-O.2.1),O.2.2.1,O.2.2.2.1,()))
   else
    ym go1 t1 t2
  )
 else
  (
   Option.bind (vd k (o.2.2.2.2.1.1,())) fun v3=>
   Option.bind (vd k (o.2.2.2.1.1,())) fun v4=>
   some ((o.1,List.reverse v1,t2,(v3.1.1,()),(v4.1.1,()),o.2.2.2.2.2.1,o.2.2.2.2.2.2.1,()))
  )
def tD(k:Nat)(v2:List bG)(v1:List av)(o:dJ):Nat->Int->cr->Option dJ
 |0,_,_=>none
 |n+1,t1,t2=>Gs k v2 v1 o (tD k v2 v1 o n) t1 t2
def wP(k:Nat)(o:dJ):Option dJ:=
 Option.bind (ql k o.2.1) fun v1=>
 Option.bind (qg k o.2.2.1) fun v2=>
 tD k v2 v1 o k (0:Int) (List.reverse v2)
def DI(v9:b7)(go1:Int->aS->Option (List (List UInt8)×Int))(t1:Int)(t2:List (List UInt8)):Option (List (List UInt8)×Int):=
 if decide (t1<(List.length v9.2.2.2.2.2.2.2.2.2.2.2:Int))then
  (
   Option.bind (ao t2 t1) fun o=>
   Option.bind (aG (List.length o<=lim)) fun _=>
   Option.bind (aG (List.length (cM (List.reverse (gi o)))<=lim)) fun _=>
   go1 (ai (t1+(1:Int))) (List.set t2 (t1).toNat (cM (List.reverse (gi o))))
  )
 else
  some (t2,v9.1)
def qh(v9:b7):Nat->Int->aS->Option (List (List UInt8)×Int)
 |0,_,_=>none
 |n+1,t1,t2=>DI v9 (qh v9 n) t1 t2
def uR(k:Nat)(O:aV)(o:dJ)(Y:List UInt8):Option (List (List UInt8)×Int):=
 Option.bind (oe k (O.1,O.2.1,()) (o.1,o.2.1,o.2.2.1,(o.2.2.2.1.1,()),(o.2.2.2.2.1.1,()),o.2.2.2.2.2.1,o.2.2.2.2.2.2.1,())) fun v1=>
 if v1 !=(0:Int)then
  some (([]:List (List UInt8)),v1)
 else
  (
   Option.bind (qM k (O.1,O.2.1,()) Y) fun v2=>
   if v2.1 !=(0:Int)then
    some (([]:List (List UInt8)),v2.1)
   else
    (
     if o.2.2.2.2.2.1==(1:Int)then
      (
       Option.bind (mB k (O.1,O.2.1,()) (o.1,o.2.1,o.2.2.1,(o.2.2.2.1.1,()),(o.2.2.2.2.1.1,()),o.2.2.2.2.2.1,o.2.2.2.2.2.2.1,())) fun v3=>
       Option.bind (o7 k v2.2 false v3.2.2.2.1 v3.2.2.2.2.1 v3.2.2.2.2.2.1 v3.2.2.2.2.2.2.1 v3.2.2.2.2.2.2.2.1 v3.2.2.2.2.2.2.2.2.1 v3.2.2.2.2.2.2.2.2.2 v3.2.2.1 v3.1 v3.2.1) fun v4=>
       some (v4.2.2.2.2.2.2.2.2.2.2.2,v4.1)
      )
     else
      (
       if o.2.2.2.2.2.1==(2:Int)then
        (
         Option.bind (mB k (O.1,O.2.1,()) (o.1,o.2.1,o.2.2.1,(o.2.2.2.1.1,()),(o.2.2.2.2.1.1,()),o.2.2.2.2.2.1,o.2.2.2.2.2.2.1,())) fun v5=>
         Option.bind (ol k v2.2 false v5.2.2.2.1 v5.2.2.2.2.1 v5.2.2.2.2.2.1 v5.2.2.2.2.2.2.1 v5.2.2.2.2.2.2.2.1 v5.2.2.2.2.2.2.2.2.1 v5.2.2.2.2.2.2.2.2.2 v5.2.2.1 v5.1 v5.2.1) fun W=>
         some (W.2.2.2.2.2.2.2.2.2.2.2,W.1)
        )
       else
        (
         Option.bind (wP k (o.1,o.2.1,o.2.2.1,(o.2.2.2.1.1,()),(o.2.2.2.2.1.1,()),o.2.2.2.2.2.1,o.2.2.2.2.2.2.1,())) fun Z=>
         Option.bind (mB k (O.1,O.2.1,()) Z) fun U=>
         Option.bind (ol k (List.reverse v2.2) false U.2.2.2.1 U.2.2.2.2.1 U.2.2.2.2.2.1 U.2.2.2.2.2.2.1 U.2.2.2.2.2.2.2.1 U.2.2.2.2.2.2.2.2.1 U.2.2.2.2.2.2.2.2.2 U.2.2.1 U.1 U.2.1) fun v9=>
         qh v9 k (0:Int) v9.2.2.2.2.2.2.2.2.2.2.2
        )
      )
    )
  )
def yH(k:Nat)(O:aV)(o:dJ)(U:List UInt8):Option eB:=
 Option.bind (uR k (O.1,O.2.1,()) (o.1,o.2.1,o.2.2.1,(o.2.2.2.1.1,()),(o.2.2.2.2.1.1,()),o.2.2.2.2.2.1,o.2.2.2.2.2.2.1,()) U) fun v1=>
 if v1.2 !=(0:Int)then
  some (([]:List UInt8),v1.2)
 else
  (
   Option.bind (ao v1.1 (0:Int)) fun W=>
   some (W,(0:Int))
  )
def wc(go1:(List UInt8)->Int->(List me)->Option rS)(v1:eB)(t1:Int)(o:List me):Option rS:=
 go1 v1.1 (ai (t1+(1:Int))) o
def Ji(k:Nat)(l1:List mZ)(W:aV)(go1:(List UInt8)->Int->(List me)->Option rS)(O:List UInt8)(t1:Int)(U:List me):Option rS:=
 if decide (t1<(List.length l1:Int))then
  (
   Option.bind (ao l1 t1) fun o=>
   Option.bind (yH k (W.1,W.2.1,()) (o.1,o.2.1,o.2.2.1,(o.2.2.2.1.1,()),(o.2.2.2.2.1.1,()),o.2.2.2.2.2.1,o.2.2.2.2.2.2.1,()) O) fun v1=>
   if v1.2 !=(0:Int)then
    some (([]:List UInt8),([]:List me),v1.2)
   else
    (
     if !(v1.1==O)then
      (
       Option.bind (aG (List.length U+List.length ([(t1,O,v1.1,())]:List me)<=lim)) fun _=>
       wc go1 v1 t1 (U++([(t1,O,v1.1,())]:List me))
      )
     else
      wc go1 v1 t1 U
    )
  )
 else
  some (O,U,(0:Int))
def tG(k:Nat)(l1:List mZ)(o:aV):Nat->(List UInt8)->Int->(List me)->Option rS
 |0,_,_,_=>none
 |n+1,O,t1,U=>Ji k l1 o (tG k l1 o n) O t1 U
def Fa(k:Nat)(o:aV)(O:List UInt8)(l1:List mZ):Option rS:=
 tG k l1 o k O (0:Int) ([]:List me)
def oU(k:Nat)(o:aV)(l1:List mZ)(O:List UInt8):Option eB:=
 Option.bind (vW k (o.1,o.2.1,()) O l1) fun v1=>
 if v1 !=(0:Int)then
  some (([]:List UInt8),v1)
 else
  (
   Option.bind (Fa k (o.1,o.2.1,()) O l1) fun v2=>
   some (v2.1,v2.2.2)
  )
def Jq(k:Nat)(v3:List (Int))(f1:dq)(go1:(List UInt8)->Int->Option eB)(o:List UInt8)(t1:Int):Option eB:=
 if decide (t1<(List.length v3:Int))then
  (
   Option.bind (ao v3 t1) fun O=>
   Option.bind (ao f1.2.1 O) fun U=>
   Option.bind (oU k (f1.1.1,f1.1.2.1,()) U.2.2.1 o) fun v4=>
   if v4.2 !=(0:Int)then
    some (([]:List UInt8),v4.2)
   else
    go1 v4.1 (ai (t1+(1:Int)))
  )
 else
  some (o,(0:Int))
def pY(k:Nat)(v3:List (Int))(f1:dq):Nat->(List UInt8)->Int->Option eB
 |0,_,_=>none
 |n+1,o,t1=>Jq k v3 f1 (pY k v3 f1 n) o t1
def jk(k:Nat)(f1:dq)(o:Int)(O:List UInt8):Option eB:=
 Option.bind (o3 k ((f1.1.1,f1.1.2.1,()),f1.2.1,()) ([o]:List (Int))) fun v1=>
 if v1 !=(0:Int)then
  some (([]:List UInt8),v1)
 else
  (
   Option.bind (kD k (f1.1.1,f1.1.2.1,()) O) fun v2=>
   if v2 !=(0:Int)then
    some (([]:List UInt8),v2)
   else
    (
     Option.bind (ro k ((f1.1.1,f1.1.2.1,()),f1.2.1,()) o) fun v3=>
     pY k v3 f1 k O (0:Int)
    )
  )
end Go.Ev
