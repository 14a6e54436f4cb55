/- Shallow functions, by program. -/
import Derived.Test.YteopobecmacgdaaGreatDoorMM4
import Derived.Test.YteopobecmacgdaaGreatDoorMM6
import Derived.Test.YteopobecmacgdaaGreatDoorMM7
import Derived.Test.YteopobecmacgdaaGreatDoorTyA
set_option linter.unusedSectionVars false
set_option linter.unusedVariables false
set_option linter.unusedSimpArgs false
namespace Go.Ev
open Go
set_option linter.unusedVariables false
def ka(k:Nat)(o:aB)(q:List UInt8):Option Int:=
 Option.bind (mF k (o.1,o.2.1,()) q) fun v1=>
 some (v1.2)
def Dx(k:Nat)(q:aB):Option dd:=
 Option.bind (aq q.2.1 (0:Int)) fun o=>
 some ((([]:List UInt8),([(o.1,(0:Int),(0:Int),())]:List aw),([(o.1,(0:Int),(0:Int),(0:Int),())]:List bD),(([((7:Int),(0:Int),(0:Int),(0:Int),([]:List (Int)),())]:List aC),()),(([((7:Int),(0:Int),(0:Int),(0:Int),([]:List (Int)),())]:List aC),()),(1:Int),false,()))
def TD(k:Nat)(q:aB)(v1:(Int×Int))(o:List (Int))(L:List UInt8)(O:(List UInt8)->(List (Int))->Option bC)(t1:Bool):Option bC:=
 if t1 then
  some (([]:List (Int)),(6:Int))
 else
  (
   Option.bind (ry k (q.1,q.2.1,()) v1.1) fun v2=>
   if !v2 then
    some (([]:List (Int)),(5:Int))
   else
    (
     if(List.length o:Int)==(256:Int)then
      some (([]:List (Int)),(4:Int))
     else
      (
       Option.bind (aL (List.length o+List.length ([v1.1]:List (Int))<=bq)) fun _=>
       Option.bind (dD L v1.2 (L.length:Int)) fun R=>
       O R (o++([v1.1]:List (Int)))
      )
    )
  )
def IM(k:Nat)(L:aB)(O:(List UInt8)->(List (Int))->Option bC)(o:List UInt8)(q:List (Int)):Option bC:=
 if !(o==([]:List UInt8))then
  (
   Option.bind (utf8_DecodeRuneInString k o) fun v1=>
   TD k L v1 q o O ((v1.1==(65533:Int))&&(v1.2==(1:Int)))
  )
 else
  some (q,(0:Int))
def wg(k:Nat)(o:aB):Nat->(List UInt8)->(List (Int))->Option bC
 |0,_,_=>none
 |n+1,q,L=>IM k o (wg k o n) q L
def Ex(k:Nat)(o:aB)(q:List UInt8):Option bC:=
 wg k o k q ([]:List (Int))
def St(t1:Bool):Option Bool:=
 some (t1)
def Fo(k:Nat)(l1:cz)(o:Int)(q:Int):Option Bool:=
 St (((dt (BitVec.toNat (BitVec.ofInt 32 o&&&~~~BitVec.ofInt 32 l1.2.1)))==(0:Int))&&((dt (BitVec.toNat (BitVec.ofInt 32 q&&&~~~BitVec.ofInt 32 l1.2.2.1)))==(0:Int)))
def zC(o:Int->(List (Int))->Option bC)(t1:Int)(q:List (Int)):Option bC:=
 o (ai (t1+(1:Int))) q
def NP(k:Nat)(L:aB)(R:Int)(U:Int)(O:Int->(List (Int))->Option bC)(t1:Int)(q:List (Int)):Option bC:=
 if decide (t1<(List.length L.2.1:Int))then
  (
   Option.bind (aq L.2.1 t1) fun o=>
   Option.bind (Fo k (o.1,o.2.1,o.2.2.1,()) R U) fun v3=>
   if v3 then
    (
     Option.bind (aL (List.length q+List.length ([o.1]:List (Int))<=bq)) fun _=>
     zC O t1 (q++([o.1]:List (Int)))
    )
   else
    zC O t1 q
  )
 else
  some (q,(0:Int))
def w9(k:Nat)(o:aB)(q:Int)(L:Int):Nat->Int->(List (Int))->Option bC
 |0,_,_=>none
 |n+1,t1,O=>NP k o q L (w9 k o q L n) t1 O
def D3(k:Nat)(o:aB)(q:Int)(L:Int):Option bC:=
 Option.bind (gi k (o.1,o.2.1,())) fun v1=>
 if v1 !=(0:Int)then
  some (([]:List (Int)),v1)
 else
  (
   Option.bind (pm k (o.1,o.2.1,()) q L) fun v2=>
   if !v2 then
    some (([]:List (Int)),(20:Int))
   else
    w9 k o q L k (0:Int) ([]:List (Int))
  )
def Nu(v1:bC)(m1:List bT)(o:Int)(q:Int)(L:Int->(List (Int×Bool))->Option cd)(t1:Int)(m3:List (Int×Bool)):Option cd:=
 if decide (t1<(List.length v1.1:Int))then
  (
   Option.bind (aq v1.1 t1) fun O=>
   L (ai (t1+(1:Int))) (cU (aV (.int .i32)) m3 O true)
  )
 else
  some (cU (aV bi) m1 ([o,q]:List (Int)) (some m3))
def xS(v1:bC)(m1:List bT)(o:Int)(q:Int):Nat->Int->(List (Int×Bool))->Option cd
 |0,_,_=>none
 |n+1,t1,m3=>Nu v1 m1 o q (xS v1 m1 o q n) t1 m3
def pk(k:Nat)(o:Int)(q:Int)(L:List (List UInt8))(c2:List aw)(c3:List UInt8)(O:List aw)(c5:List bD)(R:List aC)(U:List aC)(V:Int)(W:Bool)(m1:List bT):Option cd:=
 Option.bind (D3 k (L,c2,()) o q) fun v1=>
 xS v1 m1 o q k (0:Int) ([]:List (Int×Bool))
def JG(k:Nat)(o:ed)(a4:List (List UInt8))(a5:List aw)(t10:List UInt8)(t11:List aw)(t12:List bD)(t13:List aC)(t14:List aC)(t15:Int)(t16:Bool)(L:Int->aF->aI->cd->(List UInt8)->aI->b9->aJ->aJ->Int->Bool->sO->Option gq)(t9:Int)(t17:List nJ)(O:Int->cd->Option gq)(t18:Int)(m4:List bT):Option gq:=
 if decide (t18<(List.length o.1:Int))then
  (
   Option.bind (aq o.1 t18) fun q=>
   Option.bind (pk k q.2.2.1 q.2.2.2.1 a4 a5 t10 t11 t12 t13 t14 t15 t16 m4) fun v2=>
   O (ai (t18+(1:Int))) v2
  )
 else
  L (ai (t9+(1:Int))) a4 a5 m4 t10 t11 t12 t13 t14 t15 t16 t17
def wF(k:Nat)(o:ed)(a4:List (List UInt8))(a5:List aw)(t10:List UInt8)(t11:List aw)(t12:List bD)(t13:List aC)(t14:List aC)(t15:Int)(t16:Bool)(q:Int->aF->aI->cd->(List UInt8)->aI->b9->aJ->aJ->Int->Bool->sO->Option gq)(t9:Int)(t17:List nJ):Nat->Int->cd->Option gq
 |0,_,_=>none
 |n+1,t18,m4=>JG k o a4 a5 t10 t11 t12 t13 t14 t15 t16 q t9 t17 (wF k o a4 a5 t10 t11 t12 t13 t14 t15 t16 q t9 t17 n) t18 m4
def M6(k:Nat)(o:dd)(q:Int->aF->aI->cd->(List UInt8)->aI->b9->aJ->aJ->Int->Bool->sO->Option gq)(t9:Int)(a4:List (List UInt8))(a5:List aw)(m3:List bT)(t10:List UInt8)(t11:List aw)(t12:List bD)(t13:List aC)(t14:List aC)(t15:Int)(t16:Bool)(t17:List nJ):Option gq:=
 if decide (t9<(List.length ([(o.2.2.2.1.1,()),(o.2.2.2.2.1.1,())]:List nJ):Int))then
  (
   Option.bind (aq t17 t9) fun L=>
   wF k L a4 a5 t10 t11 t12 t13 t14 t15 t16 q t9 t17 k (0:Int) m3
  )
 else
  some (a4,a5,m3,t10,t11,t12,t13,t14,t15,t16)
def tH(k:Nat)(o:dd):Nat->Int->aF->aI->cd->(List UInt8)->aI->b9->aJ->aJ->Int->Bool->sO->Option gq
 |0,_,_,_,_,_,_,_,_,_,_,_,_=>none
 |n+1,t9,a4,a5,m3,t10,t11,t12,t13,t14,t15,t16,t17=>M6 k o (tH k o n) t9 a4 a5 m3 t10 t11 t12 t13 t14 t15 t16 t17
def Jt(k:Nat)(o:dd)(q:aB)(O:Int->cd->Option gq)(t8:Int)(m2:List bT):Option gq:=
 if decide (t8<(List.length o.2.1:Int))then
  (
   Option.bind (aq o.2.1 t8) fun L=>
   Option.bind (pk k L.2.1 L.2.2.1 q.1 q.2.1 o.1 o.2.1 o.2.2.1 o.2.2.2.1.1 o.2.2.2.2.1.1 o.2.2.2.2.2.1 o.2.2.2.2.2.2.1 m2) fun v1=>
   O (ai (t8+(1:Int))) v1
  )
 else
  tH k o k (0:Int) q.1 q.2.1 m2 o.1 o.2.1 o.2.2.1 o.2.2.2.1.1 o.2.2.2.2.1.1 o.2.2.2.2.2.1 o.2.2.2.2.2.2.1 ([(o.2.2.2.1.1,()),(o.2.2.2.2.1.1,())]:List nJ)
def zL(k:Nat)(o:dd)(q:aB):Nat->Int->cd->Option gq
 |0,_,_=>none
 |n+1,t8,m2=>Jt k o q (zL k o q n) t8 m2
def ja(k:Nat)(o:aB)(q:dd):Option gq:=
 zL k q o k (0:Int) ([]:List bT)
def nV(k:Nat)(o:Int)(q:Int)(L:Int)(O:Int)(R:List UInt8)(c2:List aw)(c3:List bD)(U:List aC)(c5:List aC)(V:Int)(W:Bool)(m1:List bT)(Y:List (List UInt8))(Z:List aw):Option Bool:=
 if q !=(0:Int)then
  some (o==q)
 else
  some ((cD (aV (.int .i32)) (((cD (aV bi) m1 ([L,O]:List (Int))).getD (none:Option (List (Int×Bool)))).getD []) o).getD false)
def jP(t14:List aC)(t15:List (Int))(t16:List UInt8)(t17:List aw)(t18:List bD)(t19:List aC)(t20:List aC)(t21:Int)(t22:Bool)(m3:List bT)(t23:List (List UInt8))(t24:List aw)(t25:List (Bool))(t26:List (Bool)):Option b0:=
 some (t14,t15,t16,t17,t18,t19,t20,t21,t22,m3,t23,t24,t25,t26)
def Bz(t29:List (Bool))(t28:Int)(o:Int->(List (Bool))->Option b0)(t30:Bool):Option b0:=
 Option.bind (aq t29 (ai (t28+(1:Int)))) fun q=>
 o (ai (t28+(1:Int))) (List.set t29 (ai (t28+(1:Int))).toNat t30)
def B8(t29:List (Bool))(t28:Int)(o:Int->(List (Bool))->Option b0)(t31:Bool):Option b0:=
 Bz t29 t28 o t31
def Sy(k:Nat)(c2:List (Int))(l1:List (Bool))(o:fh)(c3:List UInt8)(L:List aw)(c5:List bD)(O:List aC)(R:List aC)(U:Int)(V:Bool)(m1:List bT)(W:List (List UInt8))(Y:List aw)(Z:List aC)(q:Int->(List (Bool))->Option b0)(t28:Int)(t29:List (Bool)):Option b0:=
 if decide (t28<(List.length c2:Int))then
  (
   Option.bind (aq c2 t28) fun la=>
   Option.bind (aq l1 t28) fun lb=>
   if lb then
    (
     if o.1==(4:Int)then
      B8 t29 t28 q true
     else
      (
       Option.bind (nV k la o.2.1 o.2.2.1 o.2.2.2.1 c3 L c5 O R U V m1 W Y) fun v1=>
       B8 t29 t28 q v1
      )
    )
   else
    Bz t29 t28 q false
  )
 else
  jP Z c2 c3 L c5 O R U V m1 W Y t29 l1
def tE(k:Nat)(c2:List (Int))(l1:List (Bool))(o:fh)(c3:List UInt8)(q:List aw)(c5:List bD)(L:List aC)(O:List aC)(R:Int)(U:Bool)(m1:List bT)(V:List (List UInt8))(W:List aw)(Y:List aC):Nat->Int->(List (Bool))->Option b0
 |0,_,_=>none
 |n+1,t28,t29=>Sy k c2 l1 o c3 q c5 L O R U m1 V W Y (tE k c2 l1 o c3 q c5 L O R U m1 V W Y n) t28 t29
def MQ(o:fh)(q:Int->aJ->(List (Int))->(List UInt8)->aI->b9->aJ->aJ->Int->Bool->cd->aF->aI->(List (Bool))->Option b0)(l1:List (Bool))(L:Int->aJ->(List (Int))->(List UInt8)->aI->b9->aJ->aJ->Int->Bool->cd->aF->aI->(List (Bool))->Option b0)(t32:Int)(t33:List aC)(t34:List (Int))(t35:List UInt8)(t36:List aw)(t37:List bD)(t38:List aC)(t39:List aC)(t40:Int)(t41:Bool)(m4:List bT)(t42:List (List UInt8))(t43:List aw)(t44:List (Bool)):Option b0:=
 if decide (t32<(List.length o.2.2.2.2.1:Int))then
  (
   Option.bind (aq o.2.2.2.2.1 t32) fun O=>
   Option.bind (q O t33 t34 t35 t36 t37 t38 t39 t40 t41 m4 t42 t43 t44) fun v2=>
   L (ai (t32+(1:Int))) v2.1 v2.2.1 v2.2.2.1 v2.2.2.2.1 v2.2.2.2.2.1 v2.2.2.2.2.2.1 v2.2.2.2.2.2.2.1 v2.2.2.2.2.2.2.2.1 v2.2.2.2.2.2.2.2.2.1 v2.2.2.2.2.2.2.2.2.2.1 v2.2.2.2.2.2.2.2.2.2.2.1 v2.2.2.2.2.2.2.2.2.2.2.2.1 v2.2.2.2.2.2.2.2.2.2.2.2.2.1
  )
 else
  jP t33 t34 t35 t36 t37 t38 t39 t40 t41 m4 t42 t43 t44 l1
def uN(o:fh)(q:Int->aJ->(List (Int))->(List UInt8)->aI->b9->aJ->aJ->Int->Bool->cd->aF->aI->(List (Bool))->Option b0)(l1:List (Bool)):Nat->Int->aJ->(List (Int))->(List UInt8)->aI->b9->aJ->aJ->Int->Bool->cd->aF->aI->(List (Bool))->Option b0
 |0,_,_,_,_,_,_,_,_,_,_,_,_,_,_=>none
 |n+1,t32,t33,t34,t35,t36,t37,t38,t39,t40,t41,m4,t42,t43,t44=>MQ o q l1 (uN o q l1 n) t32 t33 t34 t35 t36 t37 t38 t39 t40 t41 m4 t42 t43 t44
def L1(t60:List (Bool))(t59:Int)(o:Int->(List (Bool))->Option b0)(t61:Bool):Option b0:=
 Option.bind (aq t60 t59) fun q=>
 o (ai (t59+(1:Int))) (List.set t60 (t59).toNat t61)
def Qt(v3:b0)(o:Int->aJ->(List (Int))->(List UInt8)->aI->b9->aJ->aJ->Int->Bool->cd->aF->aI->(List (Bool))->(List (Bool))->Option b0)(t45:Int)(q:Int->(List (Bool))->Option b0)(t59:Int)(t60:List (Bool)):Option b0:=
 if decide (t59<(List.length v3.2.2.2.2.2.2.2.2.2.2.2.2.1:Int))then
  (
   Option.bind (aq v3.2.2.2.2.2.2.2.2.2.2.2.2.1 t59) fun L=>
   Option.bind (aq t60 t59) fun O=>
   L1 t60 t59 q (O||L)
  )
 else
  o (ai (t45+(1:Int))) v3.1 v3.2.1 v3.2.2.1 v3.2.2.2.1 v3.2.2.2.2.1 v3.2.2.2.2.2.1 v3.2.2.2.2.2.2.1 v3.2.2.2.2.2.2.2.1 v3.2.2.2.2.2.2.2.2.1 v3.2.2.2.2.2.2.2.2.2.1 v3.2.2.2.2.2.2.2.2.2.2.1 v3.2.2.2.2.2.2.2.2.2.2.2.1 t60 v3.2.2.2.2.2.2.2.2.2.2.2.2.2
def xr(v3:b0)(o:Int->aJ->(List (Int))->(List UInt8)->aI->b9->aJ->aJ->Int->Bool->cd->aF->aI->(List (Bool))->(List (Bool))->Option b0)(t45:Int):Nat->Int->(List (Bool))->Option b0
 |0,_,_=>none
 |n+1,t59,t60=>Qt v3 o t45 (xr v3 o t45 n) t59 t60
def Qg(k:Nat)(o:fh)(q:Int->aJ->(List (Int))->(List UInt8)->aI->b9->aJ->aJ->Int->Bool->cd->aF->aI->(List (Bool))->Option b0)(L:Int->aJ->(List (Int))->(List UInt8)->aI->b9->aJ->aJ->Int->Bool->cd->aF->aI->(List (Bool))->(List (Bool))->Option b0)(t45:Int)(t46:List aC)(t47:List (Int))(t48:List UInt8)(t49:List aw)(t50:List bD)(t51:List aC)(t52:List aC)(t53:Int)(t54:Bool)(m5:List bT)(t55:List (List UInt8))(t56:List aw)(t57:List (Bool))(t58:List (Bool)):Option b0:=
 if decide (t45<(List.length o.2.2.2.2.1:Int))then
  (
   Option.bind (aq o.2.2.2.2.1 t45) fun O=>
   Option.bind (q O t46 t47 t48 t49 t50 t51 t52 t53 t54 m5 t55 t56 t58) fun v3=>
   xr v3 L t45 k (0:Int) t57
  )
 else
  jP t46 t47 t48 t49 t50 t51 t52 t53 t54 m5 t55 t56 t57 t58
def Am(k:Nat)(o:fh)(q:Int->aJ->(List (Int))->(List UInt8)->aI->b9->aJ->aJ->Int->Bool->cd->aF->aI->(List (Bool))->Option b0):Nat->Int->aJ->(List (Int))->(List UInt8)->aI->b9->aJ->aJ->Int->Bool->cd->aF->aI->(List (Bool))->(List (Bool))->Option b0
 |0,_,_,_,_,_,_,_,_,_,_,_,_,_,_,_=>none
 |n+1,t45,t46,t47,t48,t49,t50,t51,t52,t53,t54,m5,t55,t56,t57,t58=>Qg k o q (Am k o q n) t45 t46 t47 t48 t49 t50 t51 t52 t53 t54 m5 t55 t56 t57 t58
def NZ(t63:List (Bool))(t62:Int)(o:Int->(List (Bool))->Option b0)(t64:Bool):Option b0:=
 Option.bind (aq t63 t62) fun q=>
 o (ai (t62+(1:Int))) (List.set t63 (t62).toNat t64)
def Lw(v4:b0)(o:Int->(List (Bool))->Option b0)(t62:Int)(t63:List (Bool)):Option b0:=
 if decide (t62<(List.length v4.2.2.2.2.2.2.2.2.2.2.2.2.2:Int))then
  (
   Option.bind (aq v4.2.2.2.2.2.2.2.2.2.2.2.2.2 t62) fun q=>
   Option.bind (aq t63 t62) fun L=>
   NZ t63 t62 o (L||q)
  )
 else
  jP v4.1 v4.2.1 v4.2.2.1 v4.2.2.2.1 v4.2.2.2.2.1 v4.2.2.2.2.2.1 v4.2.2.2.2.2.2.1 v4.2.2.2.2.2.2.2.1 v4.2.2.2.2.2.2.2.2.1 v4.2.2.2.2.2.2.2.2.2.1 v4.2.2.2.2.2.2.2.2.2.2.1 v4.2.2.2.2.2.2.2.2.2.2.2.1 t63 v4.2.2.2.2.2.2.2.2.2.2.2.2.2
def xO(v4:b0):Nat->Int->(List (Bool))->Option b0
 |0,_,_=>none
 |n+1,t62,t63=>Lw v4 (xO v4 n) t62 t63
def wx(o:Bool->Int->(List (Bool))->Option b0)(t78:Int)(q:Bool)(t80:List (Bool)):Option b0:=
 o q (ai (t78+(1:Int))) t80
def yl(t79:List (Bool))(t78:Int)(o:Bool->Int->(List (Bool))->Option b0)(q:Bool)(t81:Bool):Option b0:=
 if t81 then
  (
   Option.bind (aq t79 t78) fun L=>
   wx o t78 true (List.set t79 (t78).toNat true)
  )
 else
  wx o t78 q t79
def TP(v5:b0)(t77:List (Bool))(L:Int->Int->Int->Int->(List (Int))->aJ->(List (Int))->(List UInt8)->aI->b9->aJ->aJ->Int->Bool->cd->aF->aI->(List (Bool))->(List (Bool))->Option b0)(O:Int)(R:Int)(n3:Int)(n4:Int)(U:List (Int))(q:Bool->Int->(List (Bool))->Option b0)(o:Bool)(t78:Int)(t79:List (Bool)):Option b0:=
 if decide (t78<(List.length v5.2.2.2.2.2.2.2.2.2.2.2.2.1:Int))then
  (
   Option.bind (aq v5.2.2.2.2.2.2.2.2.2.2.2.2.1 t78) fun V=>
   if V then
    (
     Option.bind (aq t79 t78) fun W=>
     yl t79 t78 q o (!W)
    )
   else
    yl t79 t78 q o false
  )
 else
  (
   if !o then
    jP v5.1 v5.2.1 v5.2.2.1 v5.2.2.2.1 v5.2.2.2.2.1 v5.2.2.2.2.2.1 v5.2.2.2.2.2.2.1 v5.2.2.2.2.2.2.2.1 v5.2.2.2.2.2.2.2.2.1 v5.2.2.2.2.2.2.2.2.2.1 v5.2.2.2.2.2.2.2.2.2.2.1 v5.2.2.2.2.2.2.2.2.2.2.2.1 t79 t77
   else
    L O R n3 n4 U v5.1 v5.2.1 v5.2.2.1 v5.2.2.2.1 v5.2.2.2.2.1 v5.2.2.2.2.2.1 v5.2.2.2.2.2.2.1 v5.2.2.2.2.2.2.2.1 v5.2.2.2.2.2.2.2.2.1 v5.2.2.2.2.2.2.2.2.2.1 v5.2.2.2.2.2.2.2.2.2.2.1 v5.2.2.2.2.2.2.2.2.2.2.2.1 t79 t77
  )
def Ay(v5:b0)(t77:List (Bool))(o:Int->Int->Int->Int->(List (Int))->aJ->(List (Int))->(List UInt8)->aI->b9->aJ->aJ->Int->Bool->cd->aF->aI->(List (Bool))->(List (Bool))->Option b0)(q:Int)(L:Int)(n3:Int)(n4:Int)(O:List (Int)):Nat->Bool->Int->(List (Bool))->Option b0
 |0,_,_,_=>none
 |n+1,R,t78,t79=>TP v5 t77 o q L n3 n4 O (Ay v5 t77 o q L n3 n4 O n) R t78 t79
def PC(k:Nat)(q:Int->aJ->(List (Int))->(List UInt8)->aI->b9->aJ->aJ->Int->Bool->cd->aF->aI->(List (Bool))->Option b0)(L:Int->Int->Int->Int->(List (Int))->aJ->(List (Int))->(List UInt8)->aI->b9->aJ->aJ->Int->Bool->cd->aF->aI->(List (Bool))->(List (Bool))->Option b0)(O:Int)(R:Int)(n3:Int)(n4:Int)(o:List (Int))(t65:List aC)(t66:List (Int))(t67:List UInt8)(t68:List aw)(t69:List bD)(t70:List aC)(t71:List aC)(t72:Int)(t73:Bool)(m6:List bT)(t74:List (List UInt8))(t75:List aw)(t76:List (Bool))(t77:List (Bool)):Option b0:=
 Option.bind (aq o (0:Int)) fun U=>
 Option.bind (q U t65 t66 t67 t68 t69 t70 t71 t72 t73 m6 t74 t75 t76) fun v5=>
 Ay v5 t77 L O R n3 n4 o k false (0:Int) v5.2.2.2.2.2.2.2.2.2.2.2.2.2
def uu(k:Nat)(o:Int->aJ->(List (Int))->(List UInt8)->aI->b9->aJ->aJ->Int->Bool->cd->aF->aI->(List (Bool))->Option b0):Nat->Int->Int->Int->Int->(List (Int))->aJ->(List (Int))->(List UInt8)->aI->b9->aJ->aJ->Int->Bool->cd->aF->aI->(List (Bool))->(List (Bool))->Option b0
 |0,_,_,_,_,_,_,_,_,_,_,_,_,_,_,_,_,_,_,_=>none
 |n+1,q,L,n3,n4,O,t65,t66,t67,t68,t69,t70,t71,t72,t73,m6,t74,t75,t76,t77=>PC k o (uu k o n) q L n3 n4 O t65 t66 t67 t68 t69 t70 t71 t72 t73 m6 t74 t75 t76 t77
def qO(k:Nat)(c2:List (Int))(l1:List (Bool))(o:fh)(c3:List UInt8)(q:List aw)(c5:List bD)(L:List aC)(O:List aC)(R:Int)(U:Bool)(m1:List bT)(V:List (List UInt8))(W:List aw)(Y:List aC)(Z:Int->aJ->(List (Int))->(List UInt8)->aI->b9->aJ->aJ->Int->Bool->cd->aF->aI->(List (Bool))->Option b0)(t27:Bool):Option b0:=
 if t27 then
  tE k c2 l1 o c3 q c5 L O R U m1 V W Y k (0:Int) (List.replicate (ai ((List.length c2:Int)+(1:Int))).toNat false)
 else
  (
   if o.1==(5:Int)then
    (
     Option.bind (aq l1 (0:Int)) fun la=>
     Option.bind (aq (List.replicate (ai ((List.length c2:Int)+(1:Int))).toNat false) (0:Int)) fun ld=>
     Option.bind (aq l1 (List.length c2:Int)) fun lb=>
     Option.bind (aq (List.set (List.replicate (ai ((List.length c2:Int)+(1:Int))).toNat false) ((0:Int)).toNat la) (List.length c2:Int)) fun le=>
     jP Y c2 c3 q c5 L O R U m1 V W (List.set (List.set (List.replicate (ai ((List.length c2:Int)+(1:Int))).toNat false) ((0:Int)).toNat la) ((List.length c2:Int)).toNat lb) l1
    )
   else
    (
     if o.1==(6:Int)then
      (
       Option.bind (aL (List.length l1<=List.length (List.replicate (ai ((List.length c2:Int)+(1:Int))).toNat false))) fun _=>
       uN o Z l1 k (0:Int) Y c2 c3 q c5 L O R U m1 V W (l1++List.drop (List.length l1) (List.replicate (ai ((List.length c2:Int)+(1:Int))).toNat false))
      )
     else
      (
       if o.1==(7:Int)then
        Am k o Z k (0:Int) Y c2 c3 q c5 L O R U m1 V W (List.replicate (ai ((List.length c2:Int)+(1:Int))).toNat false) l1
       else
        (
         if o.1==(9:Int)then
          (
           Option.bind (aq o.2.2.2.2.1 (0:Int)) fun lc=>
           Option.bind (Z lc Y c2 c3 q c5 L O R U m1 V W l1) fun v4=>
           Option.bind (aL (List.length v4.2.2.2.2.2.2.2.2.2.2.2.2.1<=List.length (List.replicate (ai ((List.length c2:Int)+(1:Int))).toNat false))) fun _=>
           xO v4 k (0:Int) (v4.2.2.2.2.2.2.2.2.2.2.2.2.1++List.drop (List.length v4.2.2.2.2.2.2.2.2.2.2.2.2.1) (List.replicate (ai ((List.length c2:Int)+(1:Int))).toNat false))
          )
         else
          (
           if o.1==(8:Int)then
            (
             Option.bind (aL (List.length l1<=List.length (List.replicate (ai ((List.length c2:Int)+(1:Int))).toNat false))) fun _=>
             uu k Z k o.1 o.2.1 o.2.2.1 o.2.2.2.1 o.2.2.2.2.1 Y c2 c3 q c5 L O R U m1 V W (l1++List.drop (List.length l1) (List.replicate (ai ((List.length c2:Int)+(1:Int))).toNat false)) l1
            )
           else
            jP Y c2 c3 q c5 L O R U m1 V W (List.replicate (ai ((List.length c2:Int)+(1:Int))).toNat false) l1
          )
        )
      )
    )
  )
def iE:Nat->Int->aJ->(List (Int))->(List UInt8)->aI->b9->aJ->aJ->Int->Bool->cd->aF->aI->(List (Bool))->Option b0
 |0,_,_,_,_,_,_,_,_,_,_,_,_,_,_=>none
 |k+1,Z,q,c2,c3,L,c5,O,R,U,V,m1,W,Y,l1=>
  Option.bind (aq q Z) fun o=>
  Option.bind (aL (0<=(ai ((List.length c2:Int)+(1:Int)))/\(ai ((List.length c2:Int)+(1:Int)))<=(ai ((List.length c2:Int)+(1:Int)))/\(ai ((List.length c2:Int)+(1:Int)))<=(bq:Int))) fun _=>
  if o.1==(1:Int)then
   (
    Option.bind (aL (List.length l1<=List.length (List.replicate (ai ((List.length c2:Int)+(1:Int))).toNat false))) fun _=>
    jP q c2 c3 L c5 O R U V m1 W Y (l1++List.drop (List.length l1) (List.replicate (ai ((List.length c2:Int)+(1:Int))).toNat false)) l1
   )
  else
   (
    if o.1==(2:Int)then
     qO k c2 l1 o c3 L c5 O R U V m1 W Y q (iE k) (o.1==(2:Int))
    else
     (
      if o.1==(3:Int)then
       qO k c2 l1 o c3 L c5 O R U V m1 W Y q (iE k) (o.1==(3:Int))
      else
       qO k c2 l1 o c3 L c5 O R U V m1 W Y q (iE k) (o.1==(4:Int))
     )
   )
def pG(k:Nat)(o:ed)(l1:List (Int))(q:List UInt8)(c2:List aw)(c3:List bD)(L:List aC)(c5:List aC)(O:Int)(R:Bool)(m1:List bT)(U:List (List UInt8))(V:List aw)(l2:List (Bool)):Option xA:=
 Option.bind (iE k (0:Int) o.1 l1 q c2 c3 L c5 O R m1 U V l2) fun v1=>
 some (v1.2.2.1,v1.2.2.2.1,v1.2.2.2.2.1,v1.2.2.2.2.2.1,v1.2.2.2.2.2.2.1,v1.2.2.2.2.2.2.2.1,v1.2.2.2.2.2.2.2.2.1,v1.2.2.2.2.2.2.2.2.2.1,v1.2.2.2.2.2.2.2.2.2.2.1,v1.2.2.2.2.2.2.2.2.2.2.2.1,v1.2.2.2.2.2.2.2.2.2.2.2.2.1,v1.2.2.2.2.2.2.2.2.2.2.2.2.2)
def Jr(k:Nat)(l1:List (Int))(q:List aC)(L:List UInt8)(c2:List aw)(c3:List bD)(c5:List aC)(O:Int)(R:Bool)(m1:List bT)(U:List (List UInt8))(V:List aw)(o:Int)(W:Int->(List (Bool))->Option fw)(t11:Int)(t12:List (Bool)):Option fw:=
 if decide (t11<(List.length (List.replicate (ai ((List.length l1:Int)+(1:Int))).toNat false):Int))then
  (
   Option.bind (aq t12 t11) fun Z=>
   W (ai (t11+(1:Int))) (List.set t12 (t11).toNat true)
  )
 else
  (
   Option.bind (pG k (q,()) l1 L c2 c3 q c5 O R m1 U V t12) fun v2=>
   Option.bind (aq v2.2.2.2.2.2.2.2.2.2.2.1 o) fun Y=>
   if !Y then
    some (false,v2.1,v2.2.1,v2.2.2.1,v2.2.2.2.1,v2.2.2.2.2.1,v2.2.2.2.2.2.1,v2.2.2.2.2.2.2.1,v2.2.2.2.2.2.2.2.1,v2.2.2.2.2.2.2.2.2.1,v2.2.2.2.2.2.2.2.2.2.1)
   else
    (
     Option.bind (aq (List.replicate (List.length v2.2.2.2.2.2.2.2.2.2.2.2) false) (ai (o+(List.length c2:Int)))) fun la=>
     Option.bind (pG k (v2.2.2.2.2.1,()) l1 v2.1 v2.2.1 v2.2.2.1 v2.2.2.2.1 v2.2.2.2.2.1 v2.2.2.2.2.2.1 v2.2.2.2.2.2.2.1 v2.2.2.2.2.2.2.2.1 v2.2.2.2.2.2.2.2.2.1 v2.2.2.2.2.2.2.2.2.2.1 (List.set (List.replicate (List.length v2.2.2.2.2.2.2.2.2.2.2.2) false) (ai (o+(List.length c2:Int))).toNat true)) fun v3=>
     Option.bind (By k v3.2.2.2.2.2.2.2.2.2.2.1 true) fun v4=>
     some (v4,v3.1,v3.2.1,v3.2.2.1,v3.2.2.2.1,v3.2.2.2.2.1,v3.2.2.2.2.2.1,v3.2.2.2.2.2.2.1,v3.2.2.2.2.2.2.2.1,v3.2.2.2.2.2.2.2.2.1,v3.2.2.2.2.2.2.2.2.2.1)
    )
  )
def zl(k:Nat)(l1:List (Int))(o:List aC)(q:List UInt8)(c2:List aw)(c3:List bD)(c5:List aC)(L:Int)(O:Bool)(m1:List bT)(R:List (List UInt8))(U:List aw)(V:Int):Nat->Int->(List (Bool))->Option fw
 |0,_,_=>none
 |n+1,t11,t12=>Jr k l1 o q c2 c3 c5 L O m1 R U V (zl k l1 o q c2 c3 c5 L O m1 R U V n) t11 t12
def Ls(k:Nat)(c2:List aw)(l1:List (Int))(W:Int)(o:List UInt8)(c3:List bD)(q:List aC)(c5:List aC)(L:Int)(O:Bool)(m1:List bT)(R:List (List UInt8))(U:List aw)(Y:Int->Option fw)(t10:Int):Option fw:=
 if decide (t10<(List.length c2:Int))then
  (
   Option.bind (aq c2 t10) fun V=>
   Option.bind (aq l1 (ai (W+t10))) fun Z=>
   Option.bind (nV k Z V.1 V.2.1 V.2.2.1 o c2 c3 q c5 L O m1 R U) fun v1=>
   if !v1 then
    some (false,o,c2,c3,q,c5,L,O,m1,R,U)
   else
    Y (ai (t10+(1:Int)))
  )
 else
  (
   Option.bind (aL (0<=(ai ((List.length l1:Int)+(1:Int)))/\(ai ((List.length l1:Int)+(1:Int)))<=(ai ((List.length l1:Int)+(1:Int)))/\(ai ((List.length l1:Int)+(1:Int)))<=(bq:Int))) fun _=>
   zl k l1 q o c2 c3 c5 L O m1 R U W k (0:Int) (List.replicate (ai ((List.length l1:Int)+(1:Int))).toNat false)
  )
def zd(k:Nat)(c2:List aw)(l1:List (Int))(o:Int)(q:List UInt8)(c3:List bD)(L:List aC)(c5:List aC)(O:Int)(R:Bool)(m1:List bT)(U:List (List UInt8))(V:List aw):Nat->Int->Option fw
 |0,_=>none
 |n+1,t10=>Ls k c2 l1 o q c3 L c5 O R m1 U V (zd k c2 l1 o q c3 L c5 O R m1 U V n) t10
def mL(k:Nat)(l1:List (Int))(o:Int)(q:List UInt8)(c2:List aw)(c3:List bD)(L:List aC)(c5:List aC)(O:Int)(R:Bool)(m1:List bT)(U:List (List UInt8))(V:List aw):Option fw:=
 if decide ((List.length l1:Int)<(ai (o+(List.length c2:Int))))then
  some (false,q,c2,c3,L,c5,O,R,m1,U,V)
 else
  zd k c2 l1 o q c3 L c5 O R m1 U V k (0:Int)
def uU(o:Int->aF->aI->(List UInt8)->aI->b9->aJ->aJ->Int->Bool->cd->ay->Option mO)(t1:Int)(t11:List (List UInt8))(t12:List aw)(t13:List UInt8)(t14:List aw)(t15:List bD)(t16:List aC)(t17:List aC)(t18:Int)(t19:Bool)(m2:List bT)(q:List bw):Option mO:=
 o (ai (t1+(1:Int))) t11 t12 t13 t14 t15 t16 t17 t18 t19 m2 q
def Mr(k:Nat)(v2:bC)(q:dd)(L:Int->aF->aI->(List UInt8)->aI->b9->aJ->aJ->Int->Bool->cd->ay->Option mO)(t1:Int)(t2:List (List UInt8))(t3:List aw)(t4:List UInt8)(t5:List aw)(t6:List bD)(t7:List aC)(t8:List aC)(t9:Int)(t10:Bool)(m1:List bT)(o:List bw):Option mO:=
 if decide (t1<(ai ((List.length v2.1:Int)+(1:Int))))then
  (
   Option.bind (mL k v2.1 t1 t4 t5 t6 t7 t8 t9 t10 m1 t2 t3) fun v4=>
   if v4.1 then
    (
     Option.bind (aL (List.length o+List.length ([(t1,ai (t1+(List.length q.2.1:Int)),())]:List bw)<=bq)) fun _=>
     uU L t1 v4.2.2.2.2.2.2.2.2.2.1 v4.2.2.2.2.2.2.2.2.2.2 v4.2.1 v4.2.2.1 v4.2.2.2.1 v4.2.2.2.2.1 v4.2.2.2.2.2.1 v4.2.2.2.2.2.2.1 v4.2.2.2.2.2.2.2.1 v4.2.2.2.2.2.2.2.2.1 (o++([(t1,ai (t1+(List.length q.2.1:Int)),())]:List bw))
    )
   else
    uU L t1 v4.2.2.2.2.2.2.2.2.2.1 v4.2.2.2.2.2.2.2.2.2.2 v4.2.1 v4.2.2.1 v4.2.2.2.1 v4.2.2.2.2.1 v4.2.2.2.2.2.1 v4.2.2.2.2.2.2.1 v4.2.2.2.2.2.2.2.1 v4.2.2.2.2.2.2.2.2.1 o
  )
 else
  some (o,(0:Int))
def AC(k:Nat)(v2:bC)(o:dd):Nat->Int->aF->aI->(List UInt8)->aI->b9->aJ->aJ->Int->Bool->cd->ay->Option mO
 |0,_,_,_,_,_,_,_,_,_,_,_,_=>none
 |n+1,t1,t2,t3,t4,t5,t6,t7,t8,t9,t10,m1,q=>Mr k v2 o (AC k v2 o n) t1 t2 t3 t4 t5 t6 t7 t8 t9 t10 m1 q
def Ej(k:Nat)(q:aB)(o:dd)(L:List UInt8):Option mO:=
 Option.bind (pz k (q.1,q.2.1,()) (o.1,o.2.1,o.2.2.1,(o.2.2.2.1.1,()),(o.2.2.2.2.1.1,()),o.2.2.2.2.2.1,o.2.2.2.2.2.2.1,())) fun v1=>
 if v1 !=(0:Int)then
  some (([]:List bw),v1)
 else
  (
   Option.bind (Ex k (q.1,q.2.1,()) L) fun v2=>
   if v2.2 !=(0:Int)then
    some (([]:List bw),v2.2)
   else
    (
     Option.bind (ja k (q.1,q.2.1,()) (o.1,o.2.1,o.2.2.1,(o.2.2.2.1.1,()),(o.2.2.2.2.1.1,()),o.2.2.2.2.2.1,o.2.2.2.2.2.2.1,())) fun v3=>
     AC k v2 o k (0:Int) v3.1 v3.2.1 v3.2.2.2.1 v3.2.2.2.2.1 v3.2.2.2.2.2.1 v3.2.2.2.2.2.2.1 v3.2.2.2.2.2.2.2.1 v3.2.2.2.2.2.2.2.2.1 v3.2.2.2.2.2.2.2.2.2 v3.2.2.1 ([]:List bw)
    )
  )
def E8(k:Nat)(o:aB)(q:List UInt8):Option Int:=
 Option.bind (Dx k (o.1,o.2.1,())) fun v1=>
 Option.bind (Ej k (o.1,o.2.1,()) v1 q) fun v2=>
 some (v2.2)
def ye(k:Nat)(o:aB)(q:List UInt8)(l1:List fg):Option Int:=
 Option.bind (uk k (o.1,o.2.1,()) l1) fun v1=>
 if v1 !=(0:Int)then
  some (v1)
 else
  (
   Option.bind (E8 k (o.1,o.2.1,()) q) fun v2=>
   some (v2)
  )
def RQ(k:Nat)(q:aB)(v1:(Int×Int))(o:List (Int))(L:List UInt8)(O:(List UInt8)->(List (Int))->Option (Int×List (Int)))(t2:Bool):Option (Int×List (Int)):=
 if t2 then
  some ((6:Int),([]:List (Int)))
 else
  (
   Option.bind (ry k (q.1,q.2.1,()) v1.1) fun v2=>
   if !v2 then
    some ((5:Int),([]:List (Int)))
   else
    (
     if(List.length o:Int)==(256:Int)then
      some ((4:Int),([]:List (Int)))
     else
      (
       Option.bind (aL (List.length o+List.length ([v1.1]:List (Int))<=bq)) fun _=>
       Option.bind (dD L v1.2 (L.length:Int)) fun R=>
       O R (o++([v1.1]:List (Int)))
      )
    )
  )
def IZ(k:Nat)(L:aB)(O:(List UInt8)->(List (Int))->Option (Int×List (Int)))(o:List UInt8)(q:List (Int)):Option (Int×List (Int)):=
 if !(o==([]:List UInt8))then
  (
   Option.bind (utf8_DecodeRuneInString k o) fun v1=>
   RQ k L v1 q o O ((v1.1==(65533:Int))&&(v1.2==(1:Int)))
  )
 else
  some ((0:Int),q)
def AA(k:Nat)(o:aB):Nat->(List UInt8)->(List (Int))->Option (Int×List (Int))
 |0,_,_=>none
 |n+1,q,L=>IZ k o (AA k o n) q L
def pd(k:Nat)(o:aB)(q:List UInt8):Option (Int×List (Int)):=
 AA k o k q ([]:List (Int))
def CU(o:Int->(List UInt8)->aI->b9->aJ->aJ->Int->Bool->cd->aF->aI->(List (Bool))->Option fY)(i2:Int)(t21:List UInt8)(t22:List aw)(t23:List bD)(t24:List aC)(t25:List aC)(t26:Int)(t27:Bool)(m4:List bT)(t28:List (List UInt8))(t29:List aw)(t30:List (Bool)):Option fY:=
 o (ai (i2+(1:Int))) t21 t22 t23 t24 t25 t26 t27 m4 t28 t29 t30
def OH(k:Nat)(l1:List (Int))(o:Int->(List UInt8)->aI->b9->aJ->aJ->Int->Bool->cd->aF->aI->(List (Bool))->Option fY)(i1:Int)(t11:List UInt8)(t12:List aw)(t13:List bD)(t14:List aC)(t15:List aC)(t16:Int)(t17:Bool)(m3:List bT)(t18:List (List UInt8))(t19:List aw)(t20:List (Bool)):Option fY:=
 if decide (i1<=(List.length l1:Int))then
  (
   Option.bind (mL k l1 i1 t11 t12 t13 t14 t15 t16 t17 m3 t18 t19) fun v1=>
   if v1.1 then
    (
     Option.bind (aq t20 i1) fun q=>
     CU o (ai (i1+(qo (0:Int) (ai ((List.length v1.2.2.1:Int)-(1:Int)))))) v1.2.1 v1.2.2.1 v1.2.2.2.1 v1.2.2.2.2.1 v1.2.2.2.2.2.1 v1.2.2.2.2.2.2.1 v1.2.2.2.2.2.2.2.1 v1.2.2.2.2.2.2.2.2.1 v1.2.2.2.2.2.2.2.2.2.1 v1.2.2.2.2.2.2.2.2.2.2 (List.set t20 (i1).toNat true)
    )
   else
    CU o i1 v1.2.1 v1.2.2.1 v1.2.2.2.1 v1.2.2.2.2.1 v1.2.2.2.2.2.1 v1.2.2.2.2.2.2.1 v1.2.2.2.2.2.2.2.1 v1.2.2.2.2.2.2.2.2.1 v1.2.2.2.2.2.2.2.2.2.1 v1.2.2.2.2.2.2.2.2.2.2 t20
  )
 else
  some (t11,t12,t13,t14,t15,t16,t17,m3,t18,t19,t20)
def CX(k:Nat)(l1:List (Int)):Nat->Int->(List UInt8)->aI->b9->aJ->aJ->Int->Bool->cd->aF->aI->(List (Bool))->Option fY
 |0,_,_,_,_,_,_,_,_,_,_,_,_=>none
 |n+1,i1,t11,t12,t13,t14,t15,t16,t17,m3,t18,t19,t20=>OH k l1 (CX k l1 n) i1 t11 t12 t13 t14 t15 t16 t17 m3 t18 t19 t20
def qR(k:Nat)(l1:List (Int))(o:List UInt8)(c2:List aw)(c3:List bD)(q:List aC)(c5:List aC)(L:Int)(O:Bool)(m1:List bT)(R:List (List UInt8))(U:List aw):Option fY:=
 Option.bind (aL (0<=(ai ((List.length l1:Int)+(1:Int)))/\(ai ((List.length l1:Int)+(1:Int)))<=(ai ((List.length l1:Int)+(1:Int)))/\(ai ((List.length l1:Int)+(1:Int)))<=(bq:Int))) fun _=>
 CX k l1 k (0:Int) o c2 c3 q c5 L O m1 R U (List.replicate (ai ((List.length l1:Int)+(1:Int))).toNat false)
def Tj(q:List UInt8)(O:Int->Nat->Option Int)(L:Int)(o:Nat):Option Int:=
 if decide (o<List.length q)then
  O (ai (L+(1:Int))) (o+j6 q o)
 else
  some (L)
def yh(o:List UInt8):Nat->Int->Nat->Option Int
 |0,_,_=>none
 |n+1,q,L=>Tj o (yh o n) q L
def na(k:Nat)(o:List UInt8):Option Int:=
 yh o k (0:Int) 0
def Ix(k:Nat)(L:List UInt8)(o:Int)(t1:List (Bool)):Option Bool:=
 Option.bind (aq t1 o) fun q=>
 some (q)
def FU(k:Nat)(o:cz)(q:cz)(t1:cz):Option Int:=
 Option.bind (s5 k (o.1,o.2.1,o.2.2.1,()) t1) fun v1=>
 Option.bind (s5 k (q.1,q.2.1,q.2.2.1,()) t1) fun v2=>
 some (ai (v1-v2))
def CL(o:Int->Int->Int->Int->Option cz)(i1:Int)(m4:Int)(m5:Int)(m6:Int):Option cz:=
 o (ai (i1+(1:Int))) m4 m5 m6
def R2(k:Nat)(q:List aw)(O:(cz×Unit))(L:Int->Int->Int->Int->Option cz)(i1:Int)(m1:Int)(m2:Int)(m3:Int):Option cz:=
 if decide (i1<(List.length q:Int))then
  (
   Option.bind (aq q i1) fun o=>
   Option.bind (FU k o (m1,m2,m3,()) O.1) fun v1=>
   if decide (v1<(0:Int))then
    CL L i1 o.1 o.2.1 o.2.2.1
   else
    CL L i1 m1 m2 m3
  )
 else
  some ((m1,m2,m3,()))
def xD(k:Nat)(o:List aw)(q:(cz×Unit)):Nat->Int->Int->Int->Int->Option cz
 |0,_,_,_,_=>none
 |n+1,i1,m1,m2,m3=>R2 k o q (xD k o q n) i1 m1 m2 m3
def Eg(k:Nat)(o:List aw)(L:(cz×Unit)):Option cz:=
 if decide ((List.length o:Int)<(1:Int))then
  none
 else
  (
   Option.bind (aq o (0:Int)) fun q=>
   xD k o L k (1:Int) q.1 q.2.1 q.2.2.1
  )
def Fl(k:Nat)(o:aB)(O:Int)(q:Int)(L:Int):Option (Int×Int):=
 Option.bind (jf k (o.1,o.2.1,()) O) fun v1=>
 if v1.2 !=(0:Int)then
  some ((0:Int),v1.2)
 else
  (
   Option.bind (pm k (o.1,o.2.1,()) q L) fun v2=>
   if !v2 then
    some ((0:Int),(20:Int))
   else
    (
     Option.bind (Eg k o.2.1 ((v1.1.1,dt (BitVec.toNat (BitVec.ofInt 32 (dt (BitVec.toNat (BitVec.ofInt 32 v1.1.2.1&&&~~~BitVec.ofInt 32 L)))|||BitVec.ofInt 32 q)),dt (BitVec.toNat (BitVec.ofInt 32 (dt (BitVec.toNat (BitVec.ofInt 32 v1.1.2.2.1&&&~~~BitVec.ofInt 32 q)))|||BitVec.ofInt 32 L)),()),())) fun v3=>
     some (v3.1,(0:Int))
    )
  )
def Hk(k:Nat)(q:Int)(o:kV)(t1:aB):Option Int:=
 Option.bind (Fl k t1 q o.2.2.1 o.2.2.2.1) fun v1=>
 some (v1.1)
def CJ(o:Int->(List (Int))->Option (List (Int)))(t1:Int)(q:List (Int)):Option (List (Int)):=
 o (ai (t1+(1:Int))) q
def JK(k:Nat)(c3:List bD)(O:List (Int))(R:List (List UInt8))(U:List aw)(L:Int->(List (Int))->Option (List (Int)))(t1:Int)(q:List (Int)):Option (List (Int)):=
 if decide (t1<(List.length c3:Int))then
  (
   Option.bind (aq c3 t1) fun o=>
   if o.1 !=(0:Int)then
    (
     Option.bind (aL (List.length q+List.length ([o.1]:List (Int))<=bq)) fun _=>
     CJ L t1 (q++([o.1]:List (Int)))
    )
   else
    (
     Option.bind (aq O o.2.1) fun V=>
     Option.bind (Hk k V (o.1,o.2.1,o.2.2.1,o.2.2.2.1,()) (R,U,())) fun v1=>
     Option.bind (aL (List.length q+List.length ([v1]:List (Int))<=bq)) fun _=>
     CJ L t1 (q++([v1]:List (Int)))
    )
  )
 else
  some q
def vI(k:Nat)(c3:List bD)(o:List (Int))(q:List (List UInt8))(L:List aw):Nat->Int->(List (Int))->Option (List (Int))
 |0,_,_=>none
 |n+1,t1,O=>JK k c3 o q L (vI k c3 o q L n) t1 O
def pC(k:Nat)(o:List (Int))(O:List UInt8)(c2:List aw)(c3:List bD)(R:List aC)(c5:List aC)(U:Int)(V:Bool)(m1:List bT)(q:List (List UInt8))(L:List aw):Option (List (Int)):=
 vI k c3 o q L k (0:Int) ([]:List (Int))
def rh(t12:Int)(o:List dZ)(q:dU->bK->bK->Option bU)(L:bu)(O:List UInt8):Option bU:=
 Option.bind (aL (0<=(ai (t12+(1:Int)))/\(ai (t12+(1:Int)))<(List.length o:Int))) fun _=>
 Option.bind (hZ o (ai (t12+(1:Int)))) fun U=>
 Option.bind (kP o (ai (t12+(1:Int)))) fun R=>
 q (List.set o (ai (t12+(1:Int))).toNat (some (some (cU (aV .str) R O true)))) ([]:List bu) [L]
def yV(t12:Int)(l1:List (Int))(o:bu)(q:List dZ)(L:dU->bK->bK->Option bU)(t23:Bool):Option bU:=
 if t23 then
  (
   if decide (t12<(List.length l1:Int))then
    (
     Option.bind (aq l1 t12) fun O=>
     Option.bind (aL (List.length o.1+List.length ((Utf8.encode O).data.toList)<=bq)) fun _=>
     rh t12 q L o (o.1++((Utf8.encode O).data.toList))
    )
   else
    rh t12 q L o o.1
  )
 else
  L q ([]:List bu) [o]
def rs(t12:Int)(l1:List (Int))(o:bu)(q:dU->bK->bK->Option bU)(v3:Bool)(L:Bool)(O:List dZ):Option bU:=
 yV t12 l1 o O q ((!v3)||L)
def rT(q:List dZ)(t12:Int)(l1:List (Int))(L:bu)(O:dU->bK->bK->Option bU)(v3:Bool)(R:Bool)(U:List UInt8)(o:Int):Option bU:=
 Option.bind (aL (0<=o/\o<(List.length q:Int))) fun _=>
 Option.bind (hZ q o) fun W=>
 Option.bind (kP q o) fun V=>
 rs t12 l1 L O v3 R (List.set q (o).toNat (some (some (cU (aV .str) V U true))))
def sT(o:List dZ)(t12:Int)(l1:List (Int))(q:bu)(L:dU->bK->bK->Option bU)(v3:Bool)(O:Bool)(v1:fY)(R:List UInt8):Option bU:=
 rT o t12 l1 q L v3 O R (ai ((ai (t12+(List.length v1.2.1:Int)))+(1:Int)))
def zf(k:Nat)(U:Int->dU->(List UInt8)->aI->b9->aJ->aJ->Int->Bool->cd->aF->aI->(List (Bool))->Option bU)(t12:Int)(t13:List UInt8)(t14:List aw)(t15:List bD)(t16:List aC)(t17:List aC)(t18:Int)(t19:Bool)(m3:List bT)(t20:List (List UInt8))(t21:List aw)(t22:List (Bool))(l1:List (Int))(v1:fY)(L:Bool)(O:dU->bK->bK->Option bU)(q:List dZ)(V:List bu)(Y:List bu):Option bU:=
 nt V (
  U (ai (t12+(1:Int))) q t13 t14 t15 t16 t17 t18 t19 m3 t20 t21 t22
 ) fun o=>
 Option.bind (na k o.1) fun v2=>
 if decide ((256:Int)<(ai ((ai (v2+(List.length l1:Int)))-t12)))then
  some ((9:Int),t13,t14,t15,t16,t17,t18,t19,m3,t20,t21,([]:List (List UInt8)))
 else
  (
   Option.bind (Ix k o.1 t12 t22) fun v3=>
   if v3 then
    (
     Option.bind (dD l1 t12 (ai (t12+(List.length v1.2.1:Int)))) fun W=>
     Option.bind (pC k W t13 t14 t15 t16 t17 t18 t19 m3 t20 t21) fun v4=>
     Option.bind (aL (List.length (dC v4)<=bq)) fun _=>
     Option.bind (aL (List.length o.1+List.length (dC v4)<=bq)) fun _=>
     if(List.length v1.2.1:Int)==(0:Int)then
      (
       if decide (t12<(List.length l1:Int))then
        (
         Option.bind (aq l1 t12) fun R=>
         Option.bind (aL (List.length (o.1++(dC v4))+List.length ((Utf8.encode R).data.toList)<=bq)) fun _=>
         sT q t12 l1 o O v3 L v1 ((o.1++(dC v4))++((Utf8.encode R).data.toList))
        )
       else
        sT q t12 l1 o O v3 L v1 (o.1++(dC v4))
      )
     else
      rT q t12 l1 o O v3 L (o.1++(dC v4)) (ai (t12+(List.length v1.2.1:Int)))
    )
   else
    rs t12 l1 o O v3 L q
  )
def ju(k:Nat)(o:Int->dU->(List UInt8)->aI->b9->aJ->aJ->Int->Bool->cd->aF->aI->(List (Bool))->Option bU)(t12:Int)(t13:List UInt8)(t14:List aw)(t15:List bD)(t16:List aC)(t17:List aC)(t18:Int)(t19:Bool)(m3:List bT)(t20:List (List UInt8))(t21:List aw)(t22:List (Bool))(l1:List (Int))(v1:fY)(q:Bool):Nat->dU->bK->bK->Option bU
 |0,_,_,_=>none
 |n+1,L,O,R=>zf k o t12 t13 t14 t15 t16 t17 t18 t19 m3 t20 t21 t22 l1 v1 q (ju k o t12 t13 t14 t15 t16 t17 t18 t19 m3 t20 t21 t22 l1 v1 q n) L O R
def xZ(k:Nat)(t13:List UInt8)(t14:List aw)(t15:List bD)(t16:List aC)(t17:List aC)(t18:Int)(t19:Bool)(m3:List bT)(t20:List (List UInt8))(t21:List aw)(L:bK->bK->aF->Option bU)(O:List bu)(R:List bu)(q:List (List UInt8)):Option bU:=
 nt O (
  some ((0:Int),t13,t14,t15,t16,t17,t18,t19,m3,t20,t21,q)
 ) fun o=>
 Option.bind (na k o.1) fun v5=>
 if decide ((256:Int)<v5)then
  some ((9:Int),t13,t14,t15,t16,t17,t18,t19,m3,t20,t21,([]:List (List UInt8)))
 else
  (
   Option.bind (aL (List.length q+List.length ([o.1]:List (List UInt8))<=bq)) fun _=>
   L ([]:List bu) [o] (q++([o.1]:List (List UInt8)))
  )
def sZ(k:Nat)(t13:List UInt8)(t14:List aw)(t15:List bD)(t16:List aC)(t17:List aC)(t18:Int)(t19:Bool)(m3:List bT)(t20:List (List UInt8))(t21:List aw):Nat->bK->bK->aF->Option bU
 |0,_,_,_=>none
 |n+1,o,q,L=>xZ k t13 t14 t15 t16 t17 t18 t19 m3 t20 t21 (sZ k t13 t14 t15 t16 t17 t18 t19 m3 t20 t21 n) o q L
def yz(k:Nat)(l1:List (Int))(v1:fY)(O:Bool)(R:Int->dU->(List UInt8)->aI->b9->aJ->aJ->Int->Bool->cd->aF->aI->(List (Bool))->Option bU)(t12:Int)(o:List dZ)(t13:List UInt8)(t14:List aw)(t15:List bD)(t16:List aC)(t17:List aC)(t18:Int)(t19:Bool)(m3:List bT)(t20:List (List UInt8))(t21:List aw)(t22:List (Bool)):Option bU:=
 if decide (t12<(ai ((List.length l1:Int)+(1:Int))))then
  (
   Option.bind (aL (0<=t12/\t12<(List.length o:Int))) fun _=>
   Option.bind (hZ o t12) fun q=>
   if decide ((1024:Int)<(List.length (Option.getD q []):Int))then
    some ((9:Int),t13,t14,t15,t16,t17,t18,t19,m3,t20,t21,([]:List (List UInt8)))
   else
    (
     Option.bind (aL (0<=t12/\t12<(List.length o:Int))) fun _=>
     ju k R t12 t13 t14 t15 t16 t17 t18 t19 m3 t20 t21 t22 l1 v1 O k (List.set o (t12).toNat none) (q.getD []) ([]:List bu)
    )
  )
 else
  (
   Option.bind (aL (0<=(ai ((List.length l1:Int)+(1:Int)))/\(ai ((List.length l1:Int)+(1:Int)))<(List.length o:Int))) fun _=>
   Option.bind (hZ o (ai ((List.length l1:Int)+(1:Int)))) fun L=>
   if decide ((1024:Int)<(List.length (L.getD []):Int))then
    some ((9:Int),t13,t14,t15,t16,t17,t18,t19,m3,t20,t21,([]:List (List UInt8)))
   else
    sZ k t13 t14 t15 t16 t17 t18 t19 m3 t20 t21 k (L.getD []) ([]:List bu) ([]:List (List UInt8))
  )
def gY(k:Nat)(l1:List (Int))(v1:fY)(o:Bool):Nat->Int->dU->(List UInt8)->aI->b9->aJ->aJ->Int->Bool->cd->aF->aI->(List (Bool))->Option bU
 |0,_,_,_,_,_,_,_,_,_,_,_,_,_=>none
 |n+1,t12,q,t13,t14,t15,t16,t17,t18,t19,m3,t20,t21,t22=>yz k l1 v1 o (gY k l1 v1 o n) t12 q t13 t14 t15 t16 t17 t18 t19 m3 t20 t21 t22
def uZ(k:Nat)(l1:List (Int))(v1:fY)(q:Bool)(L:Int->dU->Option bU)(t11:Int)(o:List dZ):Option bU:=
 if decide (t11<(List.length (List.map some (List.replicate (ai ((List.length l1:Int)+(2:Int))).toNat (none:Option bK))):Int))then
  (
   Option.bind (aL (0<=t11/\t11<(List.length o:Int))) fun _=>
   Option.bind (aL (0<=t11/\t11<(List.length o:Int))) fun _=>
   L (ai (t11+(1:Int))) (List.set o (t11).toNat (some (some ([]:List bu))))
  )
 else
  (
   Option.bind (aL (0<=(0:Int)/\(0:Int)<(List.length o:Int))) fun _=>
   Option.bind (hZ o (0:Int)) fun R=>
   Option.bind (kP o (0:Int)) fun O=>
   gY k l1 v1 q k (0:Int) (List.set o ((0:Int)).toNat (some (some (cU (aV .str) O ([]:List UInt8) true)))) v1.1 v1.2.1 v1.2.2.1 v1.2.2.2.1 v1.2.2.2.2.1 v1.2.2.2.2.2.1 v1.2.2.2.2.2.2.1 v1.2.2.2.2.2.2.2.1 v1.2.2.2.2.2.2.2.2.1 v1.2.2.2.2.2.2.2.2.2.1 v1.2.2.2.2.2.2.2.2.2.2
  )
def rW(k:Nat)(l1:List (Int))(v1:fY)(o:Bool):Nat->Int->dU->Option bU
 |0,_,_=>none
 |n+1,t11,q=>uZ k l1 v1 o (rW k l1 v1 o n) t11 q
def nM(k:Nat)(l1:List (Int))(o:Bool)(q:List UInt8)(c2:List aw)(c3:List bD)(L:List aC)(c5:List aC)(O:Int)(R:Bool)(m1:List bT)(U:List (List UInt8))(V:List aw):Option bU:=
 Option.bind (qR k l1 q c2 c3 L c5 O R m1 U V) fun v1=>
 Option.bind (aL (0<(ai ((List.length l1:Int)+(2:Int))))) fun _=>
 Option.bind (aL (0<=(ai ((List.length l1:Int)+(2:Int)))/\(ai ((List.length l1:Int)+(2:Int)))<=(ai ((List.length l1:Int)+(2:Int)))/\(ai ((List.length l1:Int)+(2:Int)))<=(bq:Int))) fun _=>
 rW k l1 v1 o k (0:Int) (List.map some (List.replicate (ai ((List.length l1:Int)+(2:Int))).toNat (none:Option bK)))
def qX(k:Nat)(l1:List (Int))(o:List UInt8)(c2:List aw)(c3:List bD)(q:List aC)(c5:List aC)(L:Int)(O:Bool)(m1:List bT)(R:List (List UInt8))(U:List aw):Option (List (Int)):=
 some l1
def sr(k:Nat)(o:List UInt8)(O:Int)(R:List UInt8)(c2:List aw)(c3:List bD)(U:List aC)(c5:List aC)(V:Int)(W:Bool)(m1:List bT)(Y:List (List UInt8))(Z:List aw)(q:List (Int)):Option fw:=
 Option.bind (aL (List.length o<=bq)) fun _=>
 Option.bind (dD q O (q.length:Int)) fun L=>
 Option.bind (aL (List.length (eb o)+List.length L<=bq)) fun _=>
 Option.bind (mL k ((eb o)++L) (List.length (eb o):Int) R c2 c3 U c5 V W m1 Y Z) fun v1=>
 some (v1.1,v1.2.1,v1.2.2.1,v1.2.2.2.1,v1.2.2.2.2.1,v1.2.2.2.2.2.1,v1.2.2.2.2.2.2.1,v1.2.2.2.2.2.2.2.1,v1.2.2.2.2.2.2.2.2.1,v1.2.2.2.2.2.2.2.2.2.1,v1.2.2.2.2.2.2.2.2.2.2)
def sY(t12:Int)(o:List dZ)(q:dU->bK->bK->(List UInt8)->aI->b9->aJ->aJ->Int->Bool->cd->aF->aI->Option bU)(L:bu)(v3:fw)(O:List UInt8):Option bU:=
 Option.bind (aL (0<=(ai (t12+(1:Int)))/\(ai (t12+(1:Int)))<(List.length o:Int))) fun _=>
 Option.bind (hZ o (ai (t12+(1:Int)))) fun U=>
 Option.bind (kP o (ai (t12+(1:Int)))) fun R=>
 q (List.set o (ai (t12+(1:Int))).toNat (some (some (cU (aV .str) R O true)))) ([]:List bu) [L] v3.2.1 v3.2.2.1 v3.2.2.2.1 v3.2.2.2.2.1 v3.2.2.2.2.2.1 v3.2.2.2.2.2.2.1 v3.2.2.2.2.2.2.2.1 v3.2.2.2.2.2.2.2.2.1 v3.2.2.2.2.2.2.2.2.2.1 v3.2.2.2.2.2.2.2.2.2.2
def Cv(t12:Int)(l1:List (Int))(o:bu)(q:List dZ)(L:dU->bK->bK->(List UInt8)->aI->b9->aJ->aJ->Int->Bool->cd->aF->aI->Option bU)(v3:fw)(t32:Bool):Option bU:=
 if t32 then
  (
   if decide (t12<(List.length l1:Int))then
    (
     Option.bind (aq l1 t12) fun O=>
     Option.bind (aL (List.length o.1+List.length ((Utf8.encode O).data.toList)<=bq)) fun _=>
     sY t12 q L o v3 (o.1++((Utf8.encode O).data.toList))
    )
   else
    sY t12 q L o v3 o.1
  )
 else
  L q ([]:List bu) [o] v3.2.1 v3.2.2.1 v3.2.2.2.1 v3.2.2.2.2.1 v3.2.2.2.2.2.1 v3.2.2.2.2.2.2.1 v3.2.2.2.2.2.2.2.1 v3.2.2.2.2.2.2.2.2.1 v3.2.2.2.2.2.2.2.2.2.1 v3.2.2.2.2.2.2.2.2.2.2
def qB(t12:Int)(l1:List (Int))(o:bu)(q:dU->bK->bK->(List UInt8)->aI->b9->aJ->aJ->Int->Bool->cd->aF->aI->Option bU)(v3:fw)(L:Bool)(O:List dZ):Option bU:=
 Cv t12 l1 o O q v3 ((!v3.1)||L)
def so(q:List dZ)(t12:Int)(l1:List (Int))(L:bu)(O:dU->bK->bK->(List UInt8)->aI->b9->aJ->aJ->Int->Bool->cd->aF->aI->Option bU)(v3:fw)(R:Bool)(U:List UInt8)(o:Int):Option bU:=
 Option.bind (aL (0<=o/\o<(List.length q:Int))) fun _=>
 Option.bind (hZ q o) fun W=>
 Option.bind (kP q o) fun V=>
 qB t12 l1 L O v3 R (List.set q (o).toNat (some (some (cU (aV .str) V U true))))
def sR(o:List dZ)(t12:Int)(l1:List (Int))(q:bu)(L:dU->bK->bK->(List UInt8)->aI->b9->aJ->aJ->Int->Bool->cd->aF->aI->Option bU)(v3:fw)(O:Bool)(c2:List aw)(R:List UInt8):Option bU:=
 so o t12 l1 q L v3 O R (ai ((ai (t12+(List.length c2:Int)))+(1:Int)))
def BO(k:Nat)(U:Int->dU->(List (Int))->(List UInt8)->aI->b9->aJ->aJ->Int->Bool->cd->aF->aI->Option bU)(t12:Int)(t13:List (Int))(l1:List (Int))(c2:List aw)(L:Bool)(O:dU->bK->bK->(List UInt8)->aI->b9->aJ->aJ->Int->Bool->cd->aF->aI->Option bU)(q:List dZ)(V:List bu)(Y:List bu)(t23:List UInt8)(t24:List aw)(t25:List bD)(t26:List aC)(t27:List aC)(t28:Int)(t29:Bool)(m4:List bT)(t30:List (List UInt8))(t31:List aw):Option bU:=
 nt V (
  U (ai (t12+(1:Int))) q t13 t23 t24 t25 t26 t27 t28 t29 m4 t30 t31
 ) fun o=>
 Option.bind (na k o.1) fun v2=>
 if decide ((256:Int)<(ai ((ai (v2+(List.length l1:Int)))-t12)))then
  some ((9:Int),t23,t24,t25,t26,t27,t28,t29,m4,t30,t31,([]:List (List UInt8)))
 else
  (
   Option.bind (sr k o.1 t12 t23 t24 t25 t26 t27 t28 t29 m4 t30 t31 t13) fun v3=>
   if v3.1 then
    (
     Option.bind (dD l1 t12 (ai (t12+(List.length c2:Int)))) fun W=>
     Option.bind (pC k W v3.2.1 v3.2.2.1 v3.2.2.2.1 v3.2.2.2.2.1 v3.2.2.2.2.2.1 v3.2.2.2.2.2.2.1 v3.2.2.2.2.2.2.2.1 v3.2.2.2.2.2.2.2.2.1 v3.2.2.2.2.2.2.2.2.2.1 v3.2.2.2.2.2.2.2.2.2.2) fun v4=>
     Option.bind (aL (List.length (dC v4)<=bq)) fun _=>
     Option.bind (aL (List.length o.1+List.length (dC v4)<=bq)) fun _=>
     if(List.length c2:Int)==(0:Int)then
      (
       if decide (t12<(List.length l1:Int))then
        (
         Option.bind (aq l1 t12) fun R=>
         Option.bind (aL (List.length (o.1++(dC v4))+List.length ((Utf8.encode R).data.toList)<=bq)) fun _=>
         sR q t12 l1 o O v3 L c2 ((o.1++(dC v4))++((Utf8.encode R).data.toList))
        )
       else
        sR q t12 l1 o O v3 L c2 (o.1++(dC v4))
      )
     else
      so q t12 l1 o O v3 L (o.1++(dC v4)) (ai (t12+(List.length c2:Int)))
    )
   else
    qB t12 l1 o O v3 L q
  )
def jy(k:Nat)(o:Int->dU->(List (Int))->(List UInt8)->aI->b9->aJ->aJ->Int->Bool->cd->aF->aI->Option bU)(t12:Int)(t13:List (Int))(l1:List (Int))(c2:List aw)(q:Bool):Nat->dU->bK->bK->(List UInt8)->aI->b9->aJ->aJ->Int->Bool->cd->aF->aI->Option bU
 |0,_,_,_,_,_,_,_,_,_,_,_,_,_=>none
 |n+1,L,O,R,t23,t24,t25,t26,t27,t28,t29,m4,t30,t31=>BO k o t12 t13 l1 c2 q (jy k o t12 t13 l1 c2 q n) L O R t23 t24 t25 t26 t27 t28 t29 m4 t30 t31
def vp(k:Nat)(t14:List UInt8)(t15:List aw)(t16:List bD)(t17:List aC)(t18:List aC)(t19:Int)(t20:Bool)(m3:List bT)(t21:List (List UInt8))(t22:List aw)(L:bK->bK->aF->Option bU)(O:List bu)(R:List bu)(q:List (List UInt8)):Option bU:=
 nt O (
  some ((0:Int),t14,t15,t16,t17,t18,t19,t20,m3,t21,t22,q)
 ) fun o=>
 Option.bind (na k o.1) fun v5=>
 if decide ((256:Int)<v5)then
  some ((9:Int),t14,t15,t16,t17,t18,t19,t20,m3,t21,t22,([]:List (List UInt8)))
 else
  (
   Option.bind (aL (List.length q+List.length ([o.1]:List (List UInt8))<=bq)) fun _=>
   L ([]:List bu) [o] (q++([o.1]:List (List UInt8)))
  )
def rB(k:Nat)(t14:List UInt8)(t15:List aw)(t16:List bD)(t17:List aC)(t18:List aC)(t19:Int)(t20:Bool)(m3:List bT)(t21:List (List UInt8))(t22:List aw):Nat->bK->bK->aF->Option bU
 |0,_,_,_=>none
 |n+1,o,q,L=>vp k t14 t15 t16 t17 t18 t19 t20 m3 t21 t22 (rB k t14 t15 t16 t17 t18 t19 t20 m3 t21 t22 n) o q L
def tq(k:Nat)(l1:List (Int))(c2:List aw)(O:Bool)(R:Int->dU->(List (Int))->(List UInt8)->aI->b9->aJ->aJ->Int->Bool->cd->aF->aI->Option bU)(t12:Int)(o:List dZ)(t13:List (Int))(t14:List UInt8)(t15:List aw)(t16:List bD)(t17:List aC)(t18:List aC)(t19:Int)(t20:Bool)(m3:List bT)(t21:List (List UInt8))(t22:List aw):Option bU:=
 if decide (t12<(ai ((List.length l1:Int)+(1:Int))))then
  (
   Option.bind (aL (0<=t12/\t12<(List.length o:Int))) fun _=>
   Option.bind (hZ o t12) fun q=>
   if decide ((1024:Int)<(List.length (Option.getD q []):Int))then
    some ((9:Int),t14,t15,t16,t17,t18,t19,t20,m3,t21,t22,([]:List (List UInt8)))
   else
    (
     Option.bind (aL (0<=t12/\t12<(List.length o:Int))) fun _=>
     jy k R t12 t13 l1 c2 O k (List.set o (t12).toNat none) (q.getD []) ([]:List bu) t14 t15 t16 t17 t18 t19 t20 m3 t21 t22
    )
  )
 else
  (
   Option.bind (aL (0<=(ai ((List.length l1:Int)+(1:Int)))/\(ai ((List.length l1:Int)+(1:Int)))<(List.length o:Int))) fun _=>
   Option.bind (hZ o (ai ((List.length l1:Int)+(1:Int)))) fun L=>
   if decide ((1024:Int)<(List.length (L.getD []):Int))then
    some ((9:Int),t14,t15,t16,t17,t18,t19,t20,m3,t21,t22,([]:List (List UInt8)))
   else
    rB k t14 t15 t16 t17 t18 t19 t20 m3 t21 t22 k (L.getD []) ([]:List bu) ([]:List (List UInt8))
  )
def ic(k:Nat)(l1:List (Int))(c2:List aw)(o:Bool):Nat->Int->dU->(List (Int))->(List UInt8)->aI->b9->aJ->aJ->Int->Bool->cd->aF->aI->Option bU
 |0,_,_,_,_,_,_,_,_,_,_,_,_,_=>none
 |n+1,t12,q,t13,t14,t15,t16,t17,t18,t19,t20,m3,t21,t22=>tq k l1 c2 o (ic k l1 c2 o n) t12 q t13 t14 t15 t16 t17 t18 t19 t20 m3 t21 t22
def xQ(k:Nat)(l1:List (Int))(c2:List aw)(q:Bool)(v1:List (Int))(L:List UInt8)(c3:List bD)(O:List aC)(c5:List aC)(R:Int)(U:Bool)(m1:List bT)(V:List (List UInt8))(W:List aw)(Y:Int->dU->Option bU)(t11:Int)(o:List dZ):Option bU:=
 if decide (t11<(List.length (List.map some (List.replicate (ai ((List.length l1:Int)+(2:Int))).toNat (none:Option bK))):Int))then
  (
   Option.bind (aL (0<=t11/\t11<(List.length o:Int))) fun _=>
   Option.bind (aL (0<=t11/\t11<(List.length o:Int))) fun _=>
   Y (ai (t11+(1:Int))) (List.set o (t11).toNat (some (some ([]:List bu))))
  )
 else
  (
   Option.bind (aL (0<=(0:Int)/\(0:Int)<(List.length o:Int))) fun _=>
   Option.bind (hZ o (0:Int)) fun la=>
   Option.bind (kP o (0:Int)) fun Z=>
   ic k l1 c2 q k (0:Int) (List.set o ((0:Int)).toNat (some (some (cU (aV .str) Z ([]:List UInt8) true)))) v1 L c2 c3 O c5 R U m1 V W
  )
def qn(k:Nat)(l1:List (Int))(c2:List aw)(o:Bool)(v1:List (Int))(q:List UInt8)(c3:List bD)(L:List aC)(c5:List aC)(O:Int)(R:Bool)(m1:List bT)(U:List (List UInt8))(V:List aw):Nat->Int->dU->Option bU
 |0,_,_=>none
 |n+1,t11,W=>xQ k l1 c2 o v1 q c3 L c5 O R m1 U V (qn k l1 c2 o v1 q c3 L c5 O R m1 U V n) t11 W
def kA(k:Nat)(l1:List (Int))(V:Bool)(o:List UInt8)(c2:List aw)(c3:List bD)(q:List aC)(c5:List aC)(L:Int)(O:Bool)(m1:List bT)(R:List (List UInt8))(U:List aw):Option bU:=
 Option.bind (qX k l1 o c2 c3 q c5 L O m1 R U) fun v1=>
 Option.bind (aL (0<(ai ((List.length l1:Int)+(2:Int))))) fun _=>
 Option.bind (aL (0<=(ai ((List.length l1:Int)+(2:Int)))/\(ai ((List.length l1:Int)+(2:Int)))<=(ai ((List.length l1:Int)+(2:Int)))/\(ai ((List.length l1:Int)+(2:Int)))<=(bq:Int))) fun _=>
 qn k l1 c2 V v1 o c3 q c5 L O m1 R U k (0:Int) (List.map some (List.replicate (ai ((List.length l1:Int)+(2:Int))).toNat (none:Option bK)))
def ov(k:Nat)(o:List aw):Option aI:=
 Option.bind (aL (List.length ([]:List aw)+List.length o<=bq)) fun _=>
 some (([]:List aw)++o)
def oa(k:Nat)(o:List bD):Option b9:=
 Option.bind (aL (List.length ([]:List bD)+List.length o<=bq)) fun _=>
 some (([]:List bD)++o)
def pj(k:Nat)(o:List (Int)):Option (List (Int)):=
 Option.bind (aL (List.length ([]:List (Int))+List.length o<=bq)) fun _=>
 some (([]:List (Int))++o)
def Ss(t1:List (Int))(q:List aC)(O:Int->aJ->Bool->aJ->Option aJ)(R:List aC)(c2:Bool)(U:Int->aJ->Option aJ)(t2:Int)(o:List aC):Option aJ:=
 if decide (t2<(List.length t1:Int))then
  (
   Option.bind (aq t1 t2) fun V=>
   Option.bind (aL (0<=(List.length q:Int)/\(List.length q:Int)<(List.length o:Int))) fun _=>
   Option.bind (aq o (List.length q:Int)) fun L=>
   Option.bind (aL (List.length L.2.2.2.2.1+List.length ([(List.length o:Int)]:List (Int))<=bq)) fun _=>
   Option.bind (aL (0<=(List.length q:Int)/\(List.length q:Int)<(List.length o:Int))) fun _=>
   Option.bind (O V R c2 (List.set o ((List.length q:Int)).toNat (L.1,L.2.1,L.2.2.1,L.2.2.2.1,L.2.2.2.2.1++([(List.length o:Int)]:List (Int)),()))) fun v2=>
   U (ai (t2+(1:Int))) v2
  )
 else
  some o
def wn(t1:List (Int))(o:List aC)(q:Int->aJ->Bool->aJ->Option aJ)(L:List aC)(c2:Bool):Nat->Int->aJ->Option aJ
 |0,_,_=>none
 |n+1,t2,O=>Ss t1 o q L c2 (wn t1 o q L c2 n) t2 O
def w5(k:Nat)(q:List aC)(o:fh)(L:Int->aJ->Bool->aJ->Option aJ)(O:List aC)(c2:Bool)(t1:List (Int)):Option aJ:=
 Option.bind (aL (0<=(0:Int)/\(0:Int)<=(List.length t1:Int)/\(List.length t1:Int)<=(bq:Int))) fun _=>
 Option.bind (aL (List.length q+List.length ([(o.1,o.2.1,o.2.2.1,o.2.2.2.1,List.replicate ((0:Int)).toNat (0:Int),())]:List aC)<=bq)) fun _=>
 wn t1 q L O c2 k (0:Int) (q++([(o.1,o.2.1,o.2.2.1,o.2.2.2.1,List.replicate ((0:Int)).toNat (0:Int),())]:List aC))
def SO(k:Nat)(o:List aC)(q:fh)(L:Int->aJ->Bool->aJ->Option aJ)(O:List aC)(c2:Bool)(v1:List (Int))(t3:Bool):Option aJ:=
 if t3 then
  w5 k o q L O c2 (List.reverse v1)
 else
  w5 k o q L O c2 v1
def mD:Nat->Int->aJ->Bool->aJ->Option aJ
 |0,_,_,_,_=>none
 |k+1,L,q,c2,O=>
  Option.bind (aq q L) fun o=>
  Option.bind (pj k o.2.2.2.2.1) fun v1=>
  SO k O o (mD k) q c2 v1 (c2&&(o.1==(6:Int)))
def qm(k:Nat)(o:List aC)(q:Int)(L:Bool)(O:List aC):Option aJ:=
 Option.bind (mD k q o L O) fun v1=>
 some v1
def AW(k:Nat)(o:ed):Option (ed×Int):=
 Option.bind (AN k (o.1,())) fun v1=>
 if !v1 then
  some ((([]:List aC),()),(40:Int))
 else
  (
   Option.bind (qm k o.1 (0:Int) true ([]:List aC)) fun v2=>
   some ((v2,()),(0:Int))
  )
def wL(o:Int->b9->Option dd)(t1:Int)(t3:List bD):Option dd:=
 o (ai (t1+(1:Int))) t3
def P6(k:Nat)(v2:List bD)(v1:List aw)(o:dd)(L:Int->b9->Option dd)(t1:Int)(t2:List bD):Option dd:=
 if decide (t1<(List.length (List.reverse v2):Int))then
  (
   Option.bind (aq t2 t1) fun q=>
   if q.1==(0:Int)then
    wL L t1 (List.set t2 (t1).toNat (q.1,ai ((ai ((List.length (List.reverse v1):Int)-(1:Int)))-q.2.1),q.2.2.1,q.2.2.2.1,()))
   else
    wL L t1 t2
  )
 else
  (
   Option.bind (AW k (o.2.2.2.2.1.1,())) fun v3=>
   Option.bind (AW k (o.2.2.2.1.1,())) fun v4=>
   some ((o.1,List.reverse v1,t2,(v3.1.1,()),(v4.1.1,()),o.2.2.2.2.2.1,o.2.2.2.2.2.2.1,()))
  )
def uT(k:Nat)(v2:List bD)(v1:List aw)(o:dd):Nat->Int->b9->Option dd
 |0,_,_=>none
 |n+1,t1,t2=>P6 k v2 v1 o (uT k v2 v1 o n) t1 t2
def tX(k:Nat)(o:dd):Option dd:=
 Option.bind (ov k o.2.1) fun v1=>
 Option.bind (oa k o.2.2.1) fun v2=>
 uT k v2 v1 o k (0:Int) (List.reverse v2)
def QL(v9:bU)(q:Int->aF->Option bR)(t1:Int)(t2:List (List UInt8)):Option bR:=
 if decide (t1<(List.length v9.2.2.2.2.2.2.2.2.2.2.2:Int))then
  (
   Option.bind (aq t2 t1) fun o=>
   Option.bind (aL (List.length o<=bq)) fun _=>
   Option.bind (aL (List.length (dC (List.reverse (eb o)))<=bq)) fun _=>
   q (ai (t1+(1:Int))) (List.set t2 (t1).toNat (dC (List.reverse (eb o))))
  )
 else
  some (t2,v9.1)
def BZ(v9:bU):Nat->Int->aF->Option bR
 |0,_,_=>none
 |n+1,t1,t2=>QL v9 (BZ v9 n) t1 t2
def AS(k:Nat)(q:aB)(o:dd)(R:List UInt8):Option bR:=
 Option.bind (pz k (q.1,q.2.1,()) (o.1,o.2.1,o.2.2.1,(o.2.2.2.1.1,()),(o.2.2.2.2.1.1,()),o.2.2.2.2.2.1,o.2.2.2.2.2.2.1,())) fun v1=>
 if v1 !=(0:Int)then
  some (([]:List (List UInt8)),v1)
 else
  (
   Option.bind (pd k (q.1,q.2.1,()) R) fun v2=>
   if v2.1 !=(0:Int)then
    some (([]:List (List UInt8)),v2.1)
   else
    (
     if o.2.2.2.2.2.1==(1:Int)then
      (
       Option.bind (ja k (q.1,q.2.1,()) (o.1,o.2.1,o.2.2.1,(o.2.2.2.1.1,()),(o.2.2.2.2.1.1,()),o.2.2.2.2.2.1,o.2.2.2.2.2.2.1,())) fun v3=>
       Option.bind (nM k v2.2 false v3.2.2.2.1 v3.2.2.2.2.1 v3.2.2.2.2.2.1 v3.2.2.2.2.2.2.1 v3.2.2.2.2.2.2.2.1 v3.2.2.2.2.2.2.2.2.1 v3.2.2.2.2.2.2.2.2.2 v3.2.2.1 v3.1 v3.2.1) fun v4=>
       some (v4.2.2.2.2.2.2.2.2.2.2.2,v4.1)
      )
     else
      (
       if o.2.2.2.2.2.1==(2:Int)then
        (
         Option.bind (ja k (q.1,q.2.1,()) (o.1,o.2.1,o.2.2.1,(o.2.2.2.1.1,()),(o.2.2.2.2.1.1,()),o.2.2.2.2.2.1,o.2.2.2.2.2.2.1,())) fun v5=>
         Option.bind (kA k v2.2 false v5.2.2.2.1 v5.2.2.2.2.1 v5.2.2.2.2.2.1 v5.2.2.2.2.2.2.1 v5.2.2.2.2.2.2.2.1 v5.2.2.2.2.2.2.2.2.1 v5.2.2.2.2.2.2.2.2.2 v5.2.2.1 v5.1 v5.2.1) fun O=>
         some (O.2.2.2.2.2.2.2.2.2.2.2,O.1)
        )
       else
        (
         Option.bind (tX k (o.1,o.2.1,o.2.2.1,(o.2.2.2.1.1,()),(o.2.2.2.2.1.1,()),o.2.2.2.2.2.1,o.2.2.2.2.2.2.1,())) fun U=>
         Option.bind (ja k (q.1,q.2.1,()) U) fun L=>
         Option.bind (kA k (List.reverse v2.2) false L.2.2.2.1 L.2.2.2.2.1 L.2.2.2.2.2.1 L.2.2.2.2.2.2.1 L.2.2.2.2.2.2.2.1 L.2.2.2.2.2.2.2.2.1 L.2.2.2.2.2.2.2.2.2 L.2.2.1 L.1 L.2.1) fun v9=>
         BZ v9 k (0:Int) v9.2.2.2.2.2.2.2.2.2.2.2
        )
      )
    )
  )
def GL(k:Nat)(q:aB)(o:dd)(L:List UInt8):Option ba:=
 Option.bind (AS k (q.1,q.2.1,()) (o.1,o.2.1,o.2.2.1,(o.2.2.2.1.1,()),(o.2.2.2.2.1.1,()),o.2.2.2.2.2.1,o.2.2.2.2.2.2.1,()) L) fun v1=>
 if v1.2 !=(0:Int)then
  some (([]:List UInt8),v1.2)
 else
  (
   Option.bind (aq v1.1 (0:Int)) fun O=>
   some (O,(0:Int))
  )
def yP(o:(List UInt8)->Int->(List jd)->Option nG)(v1:ba)(t1:Int)(q:List jd):Option nG:=
 o v1.1 (ai (t1+(1:Int))) q
def R1(k:Nat)(l1:List fg)(O:aB)(R:(List UInt8)->Int->(List jd)->Option nG)(q:List UInt8)(t1:Int)(L:List jd):Option nG:=
 if decide (t1<(List.length l1:Int))then
  (
   Option.bind (aq l1 t1) fun o=>
   Option.bind (GL k (O.1,O.2.1,()) (o.1,o.2.1,o.2.2.1,(o.2.2.2.1.1,()),(o.2.2.2.2.1.1,()),o.2.2.2.2.2.1,o.2.2.2.2.2.2.1,()) q) fun v1=>
   if v1.2 !=(0:Int)then
    some (([]:List UInt8),([]:List jd),v1.2)
   else
    (
     if !(v1.1==q)then
      (
       Option.bind (aL (List.length L+List.length ([(t1,q,v1.1,())]:List jd)<=bq)) fun _=>
       yP R v1 t1 (L++([(t1,q,v1.1,())]:List jd))
      )
     else
      yP R v1 t1 L
    )
  )
 else
  some (q,L,(0:Int))
def BG(k:Nat)(l1:List fg)(o:aB):Nat->(List UInt8)->Int->(List jd)->Option nG
 |0,_,_,_=>none
 |n+1,q,t1,L=>R1 k l1 o (BG k l1 o n) q t1 L
def Gy(k:Nat)(o:aB)(q:List UInt8)(l1:List fg):Option nG:=
 BG k l1 o k q (0:Int) ([]:List jd)
def vS(k:Nat)(o:aB)(l1:List fg)(q:List UInt8):Option ba:=
 Option.bind (ye k (o.1,o.2.1,()) q l1) fun v1=>
 if v1 !=(0:Int)then
  some (([]:List UInt8),v1)
 else
  (
   Option.bind (Gy k (o.1,o.2.1,()) q l1) fun v2=>
   some (v2.1,v2.2.2)
  )
end Go.Ev
namespace Go.Ev
open Go
set_option linter.unusedVariables false
end Go.Ev
