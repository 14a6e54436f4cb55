/- Shallow functions, by program. -/
import Derived.Test.YteopobecmacgdaaGreatDoorMM4
import Derived.Test.YteopobecmacgdaaGreatDoorMM6
import Derived.Test.YteopobecmacgdaaGreatDoorMM7
import Derived.Test.YteopobecmacgdaaGreatDoorMM8
import Derived.Test.YteopobecmacgdaaGreatDoorProg
import Derived.Test.YteopobecmacgdaaGreatDoorMM5
import Derived.WalkKit
import Derived.KernelRfl
import Derived.Lib.Strings
import Derived.Lib.Walk
import Derived.Lib.Builder
import Derived.Lib.UnsafeStr
import Derived.Laws.Externs
import Derived.Shelf.RegionOpenPlain
import Derived.Shelf.SlicesE.Reverse
import Derived.Shelf.SlicesQ.Reverse
import Derived.OpenShut
import Derived.WideShapes
import Derived.Test.YteopobecmacgdaaGreatDoorTyA
set_option linter.unusedSectionVars false
set_option linter.unusedVariables false
set_option linter.unusedSimpArgs false
namespace Go.Ev
open Go
set_option linter.unusedVariables false
def BW(k:Nat):Option aB:=
 some ((([([118,111,105,99,101,100]:List UInt8),([118,111,119,101,108]:List UInt8)]:List (List UInt8)),([((112:Int),(0:Int),(3:Int),()),((98:Int),(1:Int),(2:Int),()),((97:Int),(3:Int),(0:Int),())]:List aw),()))
def zT(k:Nat):Option ef:=
 some (((([([118,111,119,101,108]:List UInt8),([110,97,115,97,108]:List UInt8)]:List (List UInt8)),([((97:Int),(1:Int),(2:Int),()),((116:Int),(0:Int),(3:Int),()),((110:Int),(2:Int),(1:Int),())]:List aw),()),(1:Int),(0:Int),([]:List kC),([]:List kL),([(([]:List UInt8),([((116:Int),(0:Int),(0:Int),())]:List aw),([((110:Int),(0:Int),(0:Int),(0:Int),())]:List bD),(([((1:Int),(0:Int),(0:Int),(0:Int),([]:List (Int)),())]:List aC),()),(([((2:Int),(97:Int),(0:Int),(0:Int),([]:List (Int)),())]:List aC),()),(1:Int),false,()),(([]:List UInt8),([((110:Int),(0:Int),(0:Int),())]:List aw),([]:List bD),(([((1:Int),(0:Int),(0:Int),(0:Int),([]:List (Int)),())]:List aC),()),(([((5:Int),(0:Int),(0:Int),(0:Int),([]:List (Int)),())]:List aC),()),(1:Int),false,())]:List fg),([]:List (List UInt8)),()))
def me(k:Nat)(o:Int)(c2:List UInt8):Option (List UInt8):=
 if o !=(0:Int)then
  some ([]:List UInt8)
 else
  some c2
def Cp(k:Nat)(o:cz)(t1:cz)(t2:cz):Option Int:=
 if o.1==t1.1 then
  some ((-1:Int))
 else
  (
   Option.bind (A4 k (dt (BitVec.toNat (BitVec.ofInt 32 (dt (BitVec.toNat (BitVec.ofInt 32 o.2.1^^^BitVec.ofInt 32 t2.2.1)))|||BitVec.ofInt 32 (dt (BitVec.toNat (BitVec.ofInt 32 o.2.2.1^^^BitVec.ofInt 32 t2.2.2.1))))))) fun v1=>
   some (v1)
  )
def sl(k:Nat)(o:cz)(q:cz)(L:Int)(c2:Int)(c3:Int)(O:Int)(c5:Int)(R:Int):Option Int:=
 Option.bind (Cp k (o.1,o.2.1,o.2.2.1,()) (L,c2,c3,()) (O,c5,R,())) fun v1=>
 Option.bind (Cp k (q.1,q.2.1,q.2.2.1,()) (L,c2,c3,()) (O,c5,R,())) fun v2=>
 some (ai (v1-v2))
def xy(o:Int->Int->Int->Int->Option cz)(i1:Int)(m4:Int)(m5:Int)(m6:Int):Option cz:=
 o (ai (i1+(1:Int))) m4 m5 m6
def J6(k:Nat)(q:List aw)(O:Int)(c2:Int)(c3:Int)(R:Int)(c5:Int)(U:Int)(L:Int->Int->Int->Int->Option cz)(i1:Int)(m1:Int)(m2:Int)(m3:Int):Option cz:=
 if decide (i1<(List.length q:Int))then
  (
   Option.bind (aq q i1) fun o=>
   Option.bind (sl k o (m1,m2,m3,()) O c2 c3 R c5 U) fun v1=>
   if decide (v1<(0:Int))then
    xy L i1 o.1 o.2.1 o.2.2.1
   else
    xy L i1 m1 m2 m3
  )
 else
  some (m1,m2,m3,())
def we(k:Nat)(o:List aw)(q:Int)(c2:Int)(c3:Int)(L:Int)(c5:Int)(O:Int):Nat->Int->Int->Int->Int->Option cz
 |0,_,_,_,_=>none
 |n+1,i1,m1,m2,m3=>J6 k o q c2 c3 L c5 O (we k o q c2 c3 L c5 O n) i1 m1 m2 m3
def tm(k:Nat)(o:List aw)(L:Int)(c2:Int)(c3:Int)(O:Int)(c5:Int)(R:Int):Option cz:=
 if decide ((List.length o:Int)<(1:Int))then
  none
 else
  (
   Option.bind (aq o (0:Int)) fun q=>
   we k o L c2 c3 O c5 R k (1:Int) q.1 q.2.1 q.2.2.1
  )
def CI(o:Int->Int->Int->Option fx)(t4:Int)(q:Int)(L:Int):Option fx:=
 o (ai (t4+(1:Int))) q L
def Qz(k:Nat)(L:List (List UInt8))(m2:List ba)(o:cz)(U:List aw)(W:Int->aF->aI->aF->aI->Unit->ni->cZ->Option fx)(t2:Int)(Y:List aw)(Z:List (List UInt8))(t3:Unit)(m3:List (Int×Int))(V:Int->Int->Int->Option fx)(t4:Int)(O:Int)(R:Int):Option fx:=
 if decide (t4<(List.length L:Int))then
  (
   Option.bind (aq L t4) fun q=>
   if !((cD (aV .str) m2 q).isSome)then
    CI V t4 O R
   else
    (
     Option.bind (aL (0<=t4)) fun _=>
     Option.bind (aL (0<=((cD (aV .str) m2 q).getD (0:Int)))) fun _=>
     Option.bind (aL (0<=t4)) fun _=>
     Option.bind (aL (0<=((cD (aV .str) m2 q).getD (0:Int)))) fun _=>
     CI V t4 (dt (BitVec.toNat (BitVec.ofInt 32 O|||BitVec.ofInt 32 (dt ((dt (BitVec.toNat (BitVec.ofInt 32 (Int.fdiv o.2.1 (2^min (t4).toNat 32))&&&BitVec.ofInt 32 (1:Int))))*2^min ((cD (aV .str) m2 q).getD (0:Int)).toNat 32))))) (dt (BitVec.toNat (BitVec.ofInt 32 R|||BitVec.ofInt 32 (dt ((dt (BitVec.toNat (BitVec.ofInt 32 (Int.fdiv o.2.2.1 (2^min (t4).toNat 32))&&&BitVec.ofInt 32 (1:Int))))*2^min ((cD (aV .str) m2 q).getD (0:Int)).toNat 32)))))
    )
  )
 else
  (
   Option.bind (tm k U o.1 o.2.1 o.2.2.1 (0:Int) O R) fun v1=>
   W (ai (t2+(1:Int))) L Y Z U t3 m2 (cU (aV (.int .i32)) m3 o.1 v1.1)
  )
def AR(k:Nat)(o:List (List UInt8))(m2:List ba)(q:cz)(L:List aw)(O:Int->aF->aI->aF->aI->Unit->ni->cZ->Option fx)(t2:Int)(R:List aw)(U:List (List UInt8))(t3:Unit)(m3:List (Int×Int)):Nat->Int->Int->Int->Option fx
 |0,_,_,_=>none
 |n+1,t4,V,W=>Qz k o m2 q L O t2 R U t3 m3 (AR k o m2 q L O t2 R U t3 m3 n) t4 V W
def QN(k:Nat)(o:aB)(q:Int->aF->aI->aF->aI->Unit->ni->cZ->Option fx)(t2:Int)(L:List (List UInt8))(O:List aw)(R:List (List UInt8))(U:List aw)(t3:Unit)(m2:List ba)(m3:List (Int×Int)):Option fx:=
 if decide (t2<(List.length o.2.1:Int))then
  (
   Option.bind (aq o.2.1 t2) fun V=>
   AR k L m2 V U q t2 O R t3 m3 k (0:Int) (0:Int) (0:Int)
  )
 else
  some (((some m3,()),()))
def A8(k:Nat)(o:aB):Nat->Int->aF->aI->aF->aI->Unit->ni->cZ->Option fx
 |0,_,_,_,_,_,_,_,_=>none
 |n+1,t2,q,L,O,R,t3,m2,m3=>QN k o (A8 k o n) t2 q L O R t3 m2 m3
def ND(k:Nat)(o:aB)(q:aB)(L:Int->ni->Option fx)(t1:Int)(m1:List ba):Option fx:=
 if decide (t1<(List.length o.1:Int))then
  (
   Option.bind (aq o.1 t1) fun O=>
   L (ai (t1+(1:Int))) (cU (aV .str) m1 O t1)
  )
 else
  A8 k q k (0:Int) q.1 q.2.1 o.1 o.2.1 () m1 ([]:List (Int×Int))
def BV(k:Nat)(o:aB)(q:aB):Nat->Int->ni->Option fx
 |0,_,_=>none
 |n+1,t1,m1=>ND k o q (BV k o q n) t1 m1
def Fg(k:Nat)(o:aB)(q:aB):Option fx:=
 BV k q o k (0:Int) ([]:List ba)
def Dl(k:Nat)(o:Int)(t1:Option cZ):Option Int:=
 some ((cD (aV (.int .i32)) (t1.getD []) o).getD (0:Int))
def Tm(k:Nat)(l1:List (Int))(o:fx)(q:Int->(List (Int))->Option (List UInt8))(t1:Int)(t2:List (Int)):Option (List UInt8):=
 if decide (t1<(List.length l1:Int))then
  (
   Option.bind (aq l1 t1) fun L=>
   Option.bind (Dl k L o.1.1) fun v1=>
   Option.bind (aq t2 t1) fun O=>
   q (ai (t1+(1:Int))) (List.set t2 (t1).toNat v1)
  )
 else
  (
   Option.bind (aL (List.length (dC t2)<=bq)) fun _=>
   some (dC t2)
  )
def CN(k:Nat)(l1:List (Int))(o:fx):Nat->Int->(List (Int))->Option (List UInt8)
 |0,_,_=>none
 |n+1,t1,t2=>Tm k l1 o (CN k l1 o n) t1 t2
def DK(k:Nat)(o:fx)(l1:List (Int)):Option (List UInt8):=
 Option.bind (aL (0<=(List.length l1:Int)/\(List.length l1:Int)<=(List.length l1:Int)/\(List.length l1:Int)<=(bq:Int))) fun _=>
 CN k l1 o k (0:Int) (List.replicate ((List.length l1:Int)).toNat (0:Int))
def ib(k:Nat)(o:aB)(q:aB)(L:List UInt8):Option ba:=
 Option.bind (gi k (o.1,o.2.1,())) fun v1=>
 if v1 !=(0:Int)then
  (
   Option.bind (me k v1 ([]:List UInt8)) fun v2=>
   some (v2,v1)
  )
 else
  (
   Option.bind (gi k (q.1,q.2.1,())) fun v3=>
   if v3 !=(0:Int)then
    (
     Option.bind (me k v3 ([]:List UInt8)) fun v4=>
     some (v4,v3)
    )
   else
    (
     Option.bind (mF k (o.1,o.2.1,()) L) fun v5=>
     if v5.2 !=(0:Int)then
      (
       Option.bind (me k v5.2 ([]:List UInt8)) fun O=>
       some (O,v5.2)
      )
     else
      (
       Option.bind (Fg k (o.1,o.2.1,()) (q.1,q.2.1,())) fun R=>
       Option.bind (DK k R v5.1) fun U=>
       Option.bind (me k v5.2 U) fun v9=>
       some (v9,v5.2)
      )
    )
  )
def NS(o:Int->Option Bool)(t1:Int)(t4:Bool):Option Bool:=
 if t4 then
  some (false)
 else
  o (ai (t1+(1:Int)))
def Ar(o:Int->Option Bool)(t1:Int)(q:Int)(t3:Bool):Option Bool:=
 NS o t1 (t3&&(q !=(45:Int)))
def Oy(o:Int->Option Bool)(t1:Int)(q:Int)(t5:Bool):Option Bool:=
 Ar o t1 q t5
def SZ(q:Int->Option Bool)(t1:Int)(o:Int)(t2:Bool):Option Bool:=
 if t2 then
  Oy q t1 o (decide (o<(48:Int))||(decide ((57:Int)<o)))
 else
  Ar q t1 o false
def LO(o:List UInt8)(L:Int->Option Bool)(t1:Int):Option Bool:=
 if decide (t1<(List.length (ee o):Int))then
  (
   Option.bind (aq (ee o) t1) fun q=>
   SZ L t1 q (decide (q<(97:Int))||(decide ((122:Int)<q)))
  )
 else
  some (decide ((List.length o:Int)<=(32:Int)))
def u6(o:List UInt8):Nat->Int->Option Bool
 |0,_=>none
 |n+1,t1=>LO o (u6 o n) t1
def FM(k:Nat)(o:List UInt8):Option Bool:=
 u6 o k (0:Int)
def Bd(k:Nat)(o:List UInt8):Option Bool:=
 none
def Sv(q:Nat->Option Int)(o:Nat)(L:mN)(t3:Bool):Option Int:=
 if t3 then
  some ((130:Int))
 else
  q (o+j6 L.2.1 o)
def NN(k:Nat)(o:mN)(L:aB)(O:Nat->Option Int)(q:Nat):Option Int:=
 if decide (q<List.length o.2.1)then
  (
   Option.bind (jf k (L.1,L.2.1,()) (iK o.2.1 q)) fun v3=>
   Sv O q o ((v3.2 !=(0:Int))&&((iK o.2.1 q)!=(95:Int)))
  )
 else
  some ((0:Int))
def xg(k:Nat)(o:mN)(q:aB):Nat->Nat->Option Int
 |0,_=>none
 |n+1,L=>NN k o q (xg k o q n) L
def tL(k:Nat)(o:mN)(q:aB)(t2:Bool):Option Int:=
 if t2 then
  some ((130:Int))
 else
  xg k o q k 0
def Ag(k:Nat)(o:mN)(q:aB)(t1:Bool):Option Int:=
 if t1 then
  some ((130:Int))
 else
  (
   Option.bind (Bd k o.2.1) fun v2=>
   if !v2 then
    tL k o q true
   else
    (
     Option.bind (na k o.2.1) fun v4=>
     tL k o q (decide ((64:Int)<v4))
    )
  )
def FW(k:Nat)(o:aB)(q:mN):Option Int:=
 Option.bind (gi k (o.1,o.2.1,())) fun v1=>
 if v1 !=(0:Int)then
  some (v1)
 else
  (
   if decide ((32:Int)<(List.length q.1:Int))then
    Ag k q o true
   else
    (
     Option.bind (sn k q.1 ([97,98,99,100,101,102,103,104,105,106,107,108,109,110,111,112,113,114,115,116,117,118,119,120,121,122,48,49,50,51,52,53,54,55,56,57,45]:List UInt8)) fun v5=>
     Ag k q o (!(v5==([]:List UInt8)))
    )
  )
def BD(t4:Bool):Option (Unit×Bool):=
 some ((),t4)
def T5(t5:Bool):Option (Unit×Bool):=
 BD t5
def Ma(o:gX)(t3:Bool):Option (Unit×Bool):=
 if t3 then
  T5 ((o.1==(3:Int))||((List.length (eb o.2.2.1):Int)==(0:Int)))
 else
  BD false
def Bp(t7:Bool):Option (Unit×Bool):=
 some ((),t7)
def Mt(t8:Bool):Option (Unit×Bool):=
 Bp t8
def K5(o:gX)(t6:Bool):Option (Unit×Bool):=
 if t6 then
  Mt ((o.1==(3:Int))||((List.length (eb o.2.2.1):Int)==(0:Int)))
 else
  Bp false
def uB(t10:Bool):Option (Unit×Bool):=
 some ((),t10)
def QP(t11:Bool):Option (Unit×Bool):=
 uB t11
def SE(o:gX)(t9:Bool):Option (Unit×Bool):=
 if t9 then
  QP ((o.1==(3:Int))||((List.length (eb o.2.2.1):Int)==(0:Int)))
 else
  uB false
def Kw(t13:Bool):Option (Unit×Bool):=
 some ((),t13)
def KA(o:gX)(t12:Bool):Option (Unit×Bool):=
 Kw (t12&&((List.length (eb o.2.2.1):Int)==(0:Int)))
def NO(t15:Bool):Option (Unit×Bool):=
 some ((),t15)
def SA(o:gX)(t14:Bool):Option (Unit×Bool):=
 NO (t14&&(o.2.2.2.1==(0:Int)))
def LW(t17:Bool):Option (Unit×Bool):=
 some ((),t17)
def MF(o:gX)(t16:Bool):Option (Unit×Bool):=
 LW (t16&&(o.2.2.1==([]:List UInt8)))
def xR(k:Nat)(o:gX)(t1:Bool)(q:aB)(t2:Bool):Option (Unit×Bool):=
 if o.1==(1:Int)then
  Ma o (t2&&(o.2.2.2.1==(0:Int)))
 else
  (
   if o.1==(2:Int)then
    K5 o (t2&&(o.2.2.2.1==(0:Int)))
   else
    (
     if o.1==(3:Int)then
      SE o (t2&&(o.2.2.2.1==(0:Int)))
     else
      (
       if o.1==(4:Int)then
        KA o (t2&&t1)
       else
        (
         if o.1==(5:Int)then
          (
           Option.bind (FW k (q.1,q.2.1,()) (([]:List UInt8),o.2.1,())) fun v2=>
           SA o ((v2==(0:Int))&&(o.2.2.1==([]:List UInt8)))
          )
         else
          (
           if o.1==(6:Int)then
            MF o (t1&&(o.2.1==([]:List UInt8)))
           else
            some ((),false)
          )
        )
      )
    )
  )
def IE(k:Nat)(o:gX)(q:aB)(t1:Bool):Option (Unit×Bool):=
 Option.bind (aL (List.length o.2.1<=bq)) fun _=>
 Option.bind (aL (List.length o.2.2.1<=bq)) fun _=>
 Option.bind (ka k (q.1,q.2.1,()) o.2.1) fun v1=>
 if v1==(0:Int)then
  (
   Option.bind (ka k (q.1,q.2.1,()) o.2.2.1) fun v3=>
   xR k o t1 q (v3==(0:Int))
  )
 else
  xR k o t1 q false
def FE(k:Nat)(q:aB)(o:gX):Option (Unit×Bool):=
 IE k o q (decide ((0:Int)<=o.2.2.2.1)&&(decide (o.2.2.2.1<=(64:Int))))
def KI(k:Nat)(q:(Int×List (gX)×Unit))(a2:List (List UInt8))(a3:List aw)(L:Int->aF->aI->Option Int)(t3:Int)(O:Int->Option Int)(t4:Int):Option Int:=
 if decide (t4<(List.length q.2.1:Int))then
  (
   Option.bind (aq q.2.1 t4) fun o=>
   Option.bind (FE k (a2,a3,()) (o.1,o.2.1,o.2.2.1,o.2.2.2.1,())) fun v3=>
   if !v3.2 then
    some ((170:Int))
   else
    O (ai (t4+(1:Int)))
  )
 else
  L (ai (t3+(1:Int))) a2 a3
def tT(k:Nat)(o:(Int×List (gX)×Unit))(a2:List (List UInt8))(a3:List aw)(q:Int->aF->aI->Option Int)(t3:Int):Nat->Int->Option Int
 |0,_=>none
 |n+1,t4=>KI k o a2 a3 q t3 (tT k o a2 a3 q t3 n) t4
def Jq(k:Nat)(o:kb)(L:Int->aF->aI->Option Int)(t3:Int)(a2:List (List UInt8))(a3:List aw):Option Int:=
 if decide (t3<(List.length o.2.1:Int))then
  (
   Option.bind (aq o.2.1 t3) fun q=>
   if decide ((8:Int)<(List.length q.2.1:Int))then
    some ((170:Int))
   else
    tT k q a2 a3 L t3 k (0:Int)
  )
 else
  some ((0:Int))
def uI(k:Nat)(o:kb):Nat->Int->aF->aI->Option Int
 |0,_,_,_=>none
 |n+1,t3,a2,a3=>Jq k o (uI k o n) t3 a2 a3
def Je(k:Nat)(q:kb)(o:aB)(t2:Bool):Option Int:=
 if t2 then
  some ((170:Int))
 else
  uI k q k (0:Int) o.1 o.2.1
def O9(k:Nat)(o:kb)(q:aB)(t1:Bool):Option Int:=
 Je k o q (t1||(decide ((256:Int)<(List.length o.2.1:Int))))
def Em(k:Nat)(o:aB)(q:kb):Option Int:=
 Option.bind (gi k (o.1,o.2.1,())) fun v1=>
 if v1 !=(0:Int)then
  some (v1)
 else
  (
   Option.bind (FM k q.1) fun v2=>
   O9 k q o ((!v2)||(decide ((List.length q.2.1:Int)<(1:Int))))
  )
def M1(t5:Bool):Option Int:=
 if t5 then
  some ((2:Int))
 else
  some ((0:Int))
def PS(o:oB)(t4:Bool):Option Int:=
 M1 (t4||(decide ((1048576:Int)<o.2.2.2.1)))
def wM(o:oB)(t3:Bool):Option Int:=
 PS o (t3||(decide (o.2.2.2.1<(0:Int))))
def Rc(k:Nat)(o:oB)(t2:Bool):Option Int:=
 if t2 then
  some ((8:Int))
 else
  (
   if decide ((32:Int)<(List.length o.2.2.1:Int))then
    wM o true
   else
    (
     Option.bind (Bd k o.2.2.1) fun v2=>
     wM o (!v2)
    )
  )
def HY(k:Nat)(t1:ef)(o:oB):Option Int:=
 Option.bind (ka k (t1.1.1,t1.1.2.1,()) o.1) fun v1=>
 if v1 !=(0:Int)then
  some (v1)
 else
  Rc k o (decide (o.2.1<(0:Int))||(decide ((List.length t1.2.2.2.1:Int)<=o.2.1)))
def N8(t1:Bool):Option Bool:=
 some (t1)
def DP(k:Nat)(o:Int):Option Bool:=
 N8 (decide (o<(97:Int))||(decide ((122:Int)<o)))
def Ll(k:Nat)(q:List UInt8)(L:Bool)(O:Nat->Option Int)(o:Nat):Option Int:=
 if decide (o<List.length q)then
  (
   Option.bind (DP k (iK q o)) fun v1=>
   if v1==L then
    some ((o:Int))
   else
    O (o+j6 q o)
  )
 else
  some ((-1:Int))
def CW(k:Nat)(o:List UInt8)(q:Bool):Nat->Nat->Option Int
 |0,_=>none
 |n+1,L=>Ll k o q (CW k o q n) L
def II(k:Nat)(o:List UInt8)(f1:(Unit))(q:Bool):Option Int:=
 CW k o q k 0
def GM(k:Nat)(o:List UInt8)(f1:(Unit)):Option Int:=
 Option.bind (II k o f1 true) fun v1=>
 some (v1)
def Ii(k:Nat)(o:List UInt8)(f1:(Unit)):Option Bool:=
 Option.bind (GM k o f1) fun v1=>
 some (decide ((0:Int)<=v1))
def uL(o:Int->(List je)->Option Int)(t1:Int)(m1:List je)(q:List UInt8)(t4:Bool):Option Int:=
 if t4 then
  some ((2:Int))
 else
  o (ai (t1+(1:Int))) (cU (aV .str) m1 q (()))
def No(k:Nat)(q:Int->(List je)->Option Int)(t1:Int)(m1:List je)(o:List UInt8)(t3:Bool):Option Int:=
 if t3 then
  uL q t1 m1 o true
 else
  (
   Option.bind (Ii k o (())) fun v1=>
   uL q t1 m1 o v1
  )
def RW(k:Nat)(q:Int->(List je)->Option Int)(t1:Int)(m1:List je)(o:List UInt8)(t2:Bool):Option Int:=
 No k q t1 m1 o (t2||(decide ((32:Int)<(List.length o:Int))))
def Mc(k:Nat)(l1:List (List UInt8))(q:Int->(List je)->Option Int)(t1:Int)(m1:List je):Option Int:=
 if decide (t1<(List.length l1:Int))then
  (
   Option.bind (aq l1 t1) fun o=>
   RW k q t1 m1 o (((cD (aV .str) m1 o).isSome)||(o==([]:List UInt8)))
  )
 else
  some ((0:Int))
def wS(k:Nat)(l1:List (List UInt8)):Nat->Int->(List je)->Option Int
 |0,_,_=>none
 |n+1,t1,m1=>Mc k l1 (wS k l1 n) t1 m1
def H4(k:Nat)(l1:List (List UInt8)):Option Int:=
 if decide ((64:Int)<(List.length l1:Int))then
  some ((4:Int))
 else
  wS k l1 k (0:Int) ([]:List je)
def PL(o:kb)(t13:List (List UInt8))(q:Int->aF->aI->Int->Int->re->qk->sw->aF->Option Int)(t5:Int)(t6:List (List UInt8))(t7:List aw)(t8:Int)(t9:Int)(t10:List kC)(t11:List kL)(t12:List fg)(L:Int->Option Int)(t14:Int):Option Int:=
 if decide (t14<(List.length o.2.1:Int))then
  (
   Option.bind (aq o.2.1 t14) fun O=>
   Option.bind (aL (0<=(List.length t13:Int))) fun _=>
   if(Int.fdiv O.1 (2^min ((List.length t13:Int)).toNat 64))!=(0:Int)then
    some ((170:Int))
   else
    L (ai (t14+(1:Int)))
  )
 else
  q (ai (t5+(1:Int))) t6 t7 t8 t9 t10 t11 t12 t13
def Cu(o:kb)(t13:List (List UInt8))(q:Int->aF->aI->Int->Int->re->qk->sw->aF->Option Int)(t5:Int)(t6:List (List UInt8))(t7:List aw)(t8:Int)(t9:Int)(t10:List kC)(t11:List kL)(t12:List fg):Nat->Int->Option Int
 |0,_=>none
 |n+1,t14=>PL o t13 q t5 t6 t7 t8 t9 t10 t11 t12 (Cu o t13 q t5 t6 t7 t8 t9 t10 t11 t12 n) t14
def Nz(k:Nat)(t1:ef)(o:Int->aF->aI->Int->Int->re->qk->sw->aF->Option Int)(t5:Int)(t6:List (List UInt8))(t7:List aw)(t8:Int)(t9:Int)(t10:List kC)(t11:List kL)(t12:List fg)(t13:List (List UInt8)):Option Int:=
 if decide (t5<(List.length t1.2.2.2.1:Int))then
  (
   Option.bind (aq t1.2.2.2.1 t5) fun q=>
   Cu q t13 o t5 t6 t7 t8 t9 t10 t11 t12 k (0:Int)
  )
 else
  some ((0:Int))
def uy(k:Nat)(t1:ef):Nat->Int->aF->aI->Int->Int->re->qk->sw->aF->Option Int
 |0,_,_,_,_,_,_,_,_,_=>none
 |n+1,t5,t6,t7,t8,t9,t10,t11,t12,t13=>Nz k t1 (uy k t1 n) t5 t6 t7 t8 t9 t10 t11 t12 t13
def Sj(k:Nat)(t1:ef)(q:Int->Option Int)(t4:Int):Option Int:=
 if decide (t4<(List.length t1.2.2.2.2.1:Int))then
  (
   Option.bind (aq t1.2.2.2.2.1 t4) fun o=>
   Option.bind (HY k ((t1.1.1,t1.1.2.1,()),t1.2.1,t1.2.2.1,t1.2.2.2.1,t1.2.2.2.2.1,t1.2.2.2.2.2.1,t1.2.2.2.2.2.2.1,()) (o.1,o.2.1,o.2.2.1,o.2.2.2.1,())) fun v3=>
   if v3 !=(0:Int)then
    some (v3)
   else
    q (ai (t4+(1:Int)))
  )
 else
  (
   Option.bind (uk k (t1.1.1,t1.1.2.1,()) t1.2.2.2.2.2.1) fun v4=>
   if v4 !=(0:Int)then
    some (v4)
   else
    (
     Option.bind (H4 k t1.2.2.2.2.2.2.1) fun v5=>
     if v5 !=(0:Int)then
      some (v5)
     else
      uy k t1 k (0:Int) t1.1.1 t1.1.2.1 t1.2.1 t1.2.2.1 t1.2.2.2.1 t1.2.2.2.2.1 t1.2.2.2.2.2.1 t1.2.2.2.2.2.2.1
    )
  )
def uD(k:Nat)(t1:ef):Nat->Int->Option Int
 |0,_=>none
 |n+1,t4=>Sj k t1 (uD k t1 n) t4
def I8(k:Nat)(t1:ef)(q:Int->Option Int)(t3:Int):Option Int:=
 if decide (t3<(List.length t1.2.2.2.1:Int))then
  (
   Option.bind (aq t1.2.2.2.1 t3) fun o=>
   Option.bind (Em k (t1.1.1,t1.1.2.1,()) (o.1,o.2.1,())) fun v2=>
   if v2 !=(0:Int)then
    some (v2)
   else
    q (ai (t3+(1:Int)))
  )
 else
  (
   if decide ((4096:Int)<(List.length t1.2.2.2.2.1:Int))then
    some ((4:Int))
   else
    uD k t1 k (0:Int)
  )
def xx(k:Nat)(t1:ef):Nat->Int->Option Int
 |0,_=>none
 |n+1,t3=>I8 k t1 (xx k t1 n) t3
def SP(k:Nat)(t1:ef)(t2:Bool):Option Int:=
 if t2 then
  some ((20:Int))
 else
  (
   if decide ((4096:Int)<(List.length t1.2.2.2.1:Int))then
    some ((4:Int))
   else
    xx k t1 k (0:Int)
  )
def tB(k:Nat)(t1:ef):Option Int:=
 Option.bind (gi k (t1.1.1,t1.1.2.1,())) fun v1=>
 if v1 !=(0:Int)then
  some (v1)
 else
  (
   Option.bind (aL (0<=(List.length t1.1.1:Int))) fun _=>
   SP k t1 ((t1.2.1==(0:Int))||((dt (BitVec.toNat (BitVec.ofInt 32 (dt (BitVec.toNat (BitVec.ofInt 32 t1.2.1|||BitVec.ofInt 32 t1.2.2.1)))&&&BitVec.ofInt 32 (dt ((4294967295:Int)*2^min ((List.length t1.1.1:Int)).toNat 32)))))!=(0:Int)))
  )
def sX(k:Nat)(o:aB)(t1:ef)(q:List UInt8):Option ba:=
 Option.bind (gi k (o.1,o.2.1,())) fun v1=>
 if v1 !=(0:Int)then
  some (([]:List UInt8),v1)
 else
  (
   Option.bind (tB k ((t1.1.1,t1.1.2.1,()),t1.2.1,t1.2.2.1,t1.2.2.2.1,t1.2.2.2.2.1,t1.2.2.2.2.2.1,t1.2.2.2.2.2.2.1,())) fun v2=>
   if v2 !=(0:Int)then
    some (([]:List UInt8),v2)
   else
    (
     Option.bind (ib k (o.1,o.2.1,()) (t1.1.1,t1.1.2.1,()) q) fun v3=>
     some (v3.1,v3.2)
    )
  )
def RZ(k:Nat)(t1:ef)(o:Int)(v1:ba)(t2:Bool):Option ba:=
 if t2 then
  some (([]:List UInt8),(2:Int))
 else
  (
   Option.bind (dD t1.2.2.2.2.2.1 o (t1.2.2.2.2.2.1.length:Int)) fun q=>
   Option.bind (vS k (t1.1.1,t1.1.2.1,()) q v1.1) fun v2=>
   some (v2.1,v2.2)
  )
def j4(k:Nat)(q:aB)(t1:ef)(L:List UInt8)(o:Int):Option ba:=
 Option.bind (sX k (q.1,q.2.1,()) ((t1.1.1,t1.1.2.1,()),t1.2.1,t1.2.2.1,t1.2.2.2.1,t1.2.2.2.2.1,t1.2.2.2.2.2.1,t1.2.2.2.2.2.2.1,()) L) fun v1=>
 if v1.2 !=(0:Int)then
  some (([]:List UInt8),v1.2)
 else
  RZ k t1 o v1 (decide (o<(0:Int))||(decide ((List.length t1.2.2.2.2.2.1:Int)<o)))
def Pl(v9:bU)(q:Int->aF->Option kM)(t2:Int)(t3:List (List UInt8)):Option kM:=
 if decide (t2<(List.length v9.2.2.2.2.2.2.2.2.2.2.2:Int))then
  (
   Option.bind (aq t3 t2) fun o=>
   Option.bind (aL (List.length o<=bq)) fun _=>
   Option.bind (aL (List.length (dC (List.reverse (eb o)))<=bq)) fun _=>
   q (ai (t2+(1:Int))) (List.set t3 (t2).toNat (dC (List.reverse (eb o))))
  )
 else
  some (v9.1,t3)
def Bq(v9:bU):Nat->Int->aF->Option kM
 |0,_,_=>none
 |n+1,t2,t3=>Pl v9 (Bq v9 n) t2 t3
def rN(k:Nat)(q:aB)(o:dd)(U:List UInt8)(O:Bool):Option kM:=
 Option.bind (pz k (q.1,q.2.1,()) (o.1,o.2.1,o.2.2.1,(o.2.2.2.1.1,()),(o.2.2.2.2.1.1,()),o.2.2.2.2.2.1,o.2.2.2.2.2.2.1,())) fun v1=>
 if v1 !=(0:Int)then
  some (v1,([]:List (List UInt8)))
 else
  (
   Option.bind (pd k (q.1,q.2.1,()) U) fun v2=>
   if v2.1 !=(0:Int)then
    some (v2.1,([]:List (List UInt8)))
   else
    (
     if o.2.2.2.2.2.1==(1:Int)then
      (
       Option.bind (ja k (q.1,q.2.1,()) (o.1,o.2.1,o.2.2.1,(o.2.2.2.1.1,()),(o.2.2.2.2.1.1,()),o.2.2.2.2.2.1,o.2.2.2.2.2.2.1,())) fun v3=>
       Option.bind (nM k v2.2 O v3.2.2.2.1 v3.2.2.2.2.1 v3.2.2.2.2.2.1 v3.2.2.2.2.2.2.1 v3.2.2.2.2.2.2.2.1 v3.2.2.2.2.2.2.2.2.1 v3.2.2.2.2.2.2.2.2.2 v3.2.2.1 v3.1 v3.2.1) fun v4=>
       some (v4.1,v4.2.2.2.2.2.2.2.2.2.2.2)
      )
     else
      (
       if o.2.2.2.2.2.1==(2:Int)then
        (
         Option.bind (ja k (q.1,q.2.1,()) (o.1,o.2.1,o.2.2.1,(o.2.2.2.1.1,()),(o.2.2.2.2.1.1,()),o.2.2.2.2.2.1,o.2.2.2.2.2.2.1,())) fun v5=>
         Option.bind (kA k v2.2 O v5.2.2.2.1 v5.2.2.2.2.1 v5.2.2.2.2.2.1 v5.2.2.2.2.2.2.1 v5.2.2.2.2.2.2.2.1 v5.2.2.2.2.2.2.2.2.1 v5.2.2.2.2.2.2.2.2.2 v5.2.2.1 v5.1 v5.2.1) fun R=>
         some (R.1,R.2.2.2.2.2.2.2.2.2.2.2)
        )
       else
        (
         Option.bind (tX k (o.1,o.2.1,o.2.2.1,(o.2.2.2.1.1,()),(o.2.2.2.2.1.1,()),o.2.2.2.2.2.1,o.2.2.2.2.2.2.1,())) fun V=>
         Option.bind (ja k (q.1,q.2.1,()) V) fun L=>
         Option.bind (kA k (List.reverse v2.2) O L.2.2.2.1 L.2.2.2.2.1 L.2.2.2.2.2.1 L.2.2.2.2.2.2.1 L.2.2.2.2.2.2.2.1 L.2.2.2.2.2.2.2.2.1 L.2.2.2.2.2.2.2.2.2 L.2.2.1 L.1 L.2.1) fun v9=>
         Bq v9 k (0:Int) v9.2.2.2.2.2.2.2.2.2.2.2
        )
      )
    )
  )
def ES(k:Nat)(o:Int)(q:Int)(t1:Option cZ):Option Int:=
 some (ai (((cD (aV (.int .i32)) (t1.getD []) o).getD (0:Int))-((cD (aV (.int .i32)) (t1.getD []) q).getD (0:Int))))
def Jw(k:Nat)(o:List (Int))(q:List (Int))(L:mn)(O:Int->Option Int)(t1:Int):Option Int:=
 if decide (t1<(List.length o:Int))then
  (
   Option.bind (aq o t1) fun R=>
   if decide ((List.length q:Int)<=t1)then
    some ((1:Int))
   else
    (
     Option.bind (aq q t1) fun U=>
     Option.bind (ES k R U L.1) fun v1=>
     if v1 !=(0:Int)then
      some (v1)
     else
      O (ai (t1+(1:Int)))
    )
  )
 else
  (
   if decide ((List.length o:Int)<(List.length q:Int))then
    some ((-1:Int))
   else
    some ((0:Int))
  )
def zU(k:Nat)(o:List (Int))(q:List (Int))(L:mn):Nat->Int->Option Int
 |0,_=>none
 |n+1,t1=>Jw k o q L (zU k o q L n) t1
def IC(k:Nat)(o:List (Int))(q:List (Int))(L:mn):Option Int:=
 zU k o q L k (0:Int)
def Gi(k:Nat)(o:List UInt8)(q:List UInt8)(t1:Option cZ):Option Int:=
 Option.bind (aL (List.length o<=bq)) fun _=>
 Option.bind (aL (List.length q<=bq)) fun _=>
 Option.bind (IC k (eb o) (eb q) (t1,())) fun v1=>
 some (v1)
def tw(o:Int)(n3:Int):Option Int:=
 Option.bind (fa ([0,1,2,2,3,3,3,3,4,4,4,4,4,4,4,4,5,5,5,5,5,5,5,5,5,5,5,5,5,5,5,5,6,6,6,6,6,6,6,6,6,6,6,6,6,6,6,6,6,6,6,6,6,6,6,6,6,6,6,6,6,6,6,6,7,7,7,7,7,7,7,7,7,7,7,7,7,7,7,7,7,7,7,7,7,7,7,7,7,7,7,7,7,7,7,7,7,7,7,7,7,7,7,7,7,7,7,7,7,7,7,7,7,7,7,7,7,7,7,7,7,7,7,7,7,7,7,7,8,8,8,8,8,8,8,8,8,8,8,8,8,8,8,8,8,8,8,8,8,8,8,8,8,8,8,8,8,8,8,8,8,8,8,8,8,8,8,8,8,8,8,8,8,8,8,8,8,8,8,8,8,8,8,8,8,8,8,8,8,8,8,8,8,8,8,8,8,8,8,8,8,8,8,8,8,8,8,8,8,8,8,8,8,8,8,8,8,8,8,8,8,8,8,8,8,8,8,8,8,8,8,8,8,8,8,8,8,8,8,8,8,8,8,8,8,8,8,8,8,8,8,8,8,8,8,8]:List UInt8) (qF o)) fun q=>
 some (ai (n3+(ai q)))
def uF(o:Int)(q:Int):Option Int:=
 if decide ((256:Int)<=o)then
  (
   Option.bind (aL (0<=(8:Int))) fun _=>
   tw (Int.fdiv o (2^min ((8:Int)).toNat 64)) (ai (q+(8:Int)))
  )
 else
  tw o q
def zk(o:Int)(q:Int):Option Int:=
 if decide ((65536:Int)<=o)then
  (
   Option.bind (aL (0<=(16:Int))) fun _=>
   uF (Int.fdiv o (2^min ((16:Int)).toNat 64)) (ai (q+(16:Int)))
  )
 else
  uF o q
def Dt(k:Nat)(o:Int):Option Int:=
 if decide ((4294967296:Int)<=o)then
  (
   Option.bind (aL (0<=(32:Int))) fun _=>
   zk (Int.fdiv o (2^min ((32:Int)).toNat 64)) (32:Int)
  )
 else
  zk o (0:Int)
def yv(k:Nat)(o:Int):Option Int:=
 Option.bind (Dt k o) fun v1=>
 some (v1)
def uj(t3:List (List UInt8))(o:Int)(L:Int->aF->Option cl)(O:Int->cZ->aF->Option cl)(i1:Int)(m3:List (Int×Int))(t4:Bool):Option cl:=
 if t4 then
  (
   Option.bind (aq t3 (ai (o-(1:Int)))) fun q=>
   Option.bind (aq t3 o) fun R=>
   Option.bind (aq (List.set t3 (o).toNat q) (ai (o-(1:Int)))) fun U=>
   L (ai (o-(1:Int))) (List.set (List.set t3 (o).toNat q) (ai (o-(1:Int))).toNat R)
  )
 else
  O (ai (i1+(1:Int))) m3 t3
def KX(k:Nat)(O:Int)(m3:List (Int×Int))(q:Int->cZ->aF->Option cl)(i1:Int)(L:Int->aF->Option cl)(o:Int)(t3:List (List UInt8)):Option cl:=
 if decide (O<o)then
  (
   Option.bind (aq t3 o) fun R=>
   Option.bind (aq t3 (ai (o-(1:Int)))) fun U=>
   Option.bind (Gi k R U (some m3)) fun v1=>
   uj t3 o L q i1 m3 (decide (v1<(0:Int)))
  )
 else
  uj t3 o L q i1 m3 false
def Bw(k:Nat)(o:Int)(m3:List (Int×Int))(q:Int->cZ->aF->Option cl)(i1:Int):Nat->Int->aF->Option cl
 |0,_,_=>none
 |n+1,L,t3=>KX k o m3 q i1 (Bw k o m3 q i1 n) L t3
def Rq(k:Nat)(o:Int)(q:Int)(L:Int->cZ->aF->Option cl)(i1:Int)(m3:List (Int×Int))(t2:List (List UInt8)):Option cl:=
 if decide (i1<o)then
  Bw k q m3 L i1 k i1 t2
 else
  some (m3,t2)
def xz(k:Nat)(o:Int)(q:Int):Nat->Int->cZ->aF->Option cl
 |0,_,_,_=>none
 |n+1,i1,m3,t2=>Rq k o q (xz k o q n) i1 m3 t2
def sb(k:Nat)(o:Int)(q:Int)(m1:List (Int×Int))(l1:List (List UInt8)):Option cl:=
 xz k q o k (ai (o+(1:Int))) m1 l1
def PQ(k:Nat)(o:Int)(q:Int)(m1:List (Int×Int))(l1:List (List UInt8))(L:Option cl):Option cl:=
 if decide ((ai (o-q))<=(12:Int))then
  (
   Option.bind (sb k q o m1 l1) fun v1=>
   some (v1.1,v1.2)
  )
 else
  none
def vG(k:Nat)(o:Int)(q:Int)(m1:List (Int×Int))(l1:List (List UInt8)):Nat->Option cl
 |0=>none
 |n+1=>PQ k o q m1 l1 (vG k o q m1 l1 n)
def rU(k:Nat)(o:Int)(q:Int)(L:Int)(m1:List (Int×Int))(l1:List (List UInt8)):Option cl:=
 vG k q o m1 l1 k
def sp(k:Nat)(m1:List (Int×Int))(l1:List (List UInt8)):Option cl:=
 Option.bind (yv k (dY (List.length l1:Int))) fun v1=>
 Option.bind (rU k (0:Int) (List.length l1:Int) v1 m1 l1) fun v2=>
 some (v2.1,v2.2)
def L6(k:Nat)(o:aB)(v1:kM)(q:Int->cZ->Option bR)(t1:Int)(m1:List (Int×Int)):Option bR:=
 if decide (t1<(List.length o.2.1:Int))then
  (
   Option.bind (aq o.2.1 t1) fun L=>
   q (ai (t1+(1:Int))) (cU (aV (.int .i32)) m1 L.1 t1)
  )
 else
  (
   Option.bind (sp k m1 v1.2) fun v2=>
   some (v2.2,(0:Int))
  )
def xd(k:Nat)(o:aB)(v1:kM):Nat->Int->cZ->Option bR
 |0,_,_=>none
 |n+1,t1,m1=>L6 k o v1 (xd k o v1 n) t1 m1
def HS(k:Nat)(q:aB)(o:dd)(L:List UInt8):Option bR:=
 Option.bind (rN k (q.1,q.2.1,()) (o.1,o.2.1,o.2.2.1,(o.2.2.2.1.1,()),(o.2.2.2.2.1.1,()),o.2.2.2.2.2.1,o.2.2.2.2.2.2.1,()) L o.2.2.2.2.2.2.1) fun v1=>
 if v1.1 !=(0:Int)then
  some (([]:List (List UInt8)),v1.1)
 else
  xd k q v1 k (0:Int) ([]:List (Int×Int))
def HW(k:Nat)(o:Int)(q:Int)(t1:Option cZ):Option Int:=
 some (ai (((cD (aV (.int .i32)) (t1.getD []) o).getD (0:Int))-((cD (aV (.int .i32)) (t1.getD []) q).getD (0:Int))))
def O2(k:Nat)(o:List (Int))(q:List (Int))(L:mn)(O:Int->Option Int)(t1:Int):Option Int:=
 if decide (t1<(List.length o:Int))then
  (
   Option.bind (aq o t1) fun R=>
   if decide ((List.length q:Int)<=t1)then
    some ((1:Int))
   else
    (
     Option.bind (aq q t1) fun U=>
     Option.bind (HW k R U L.1) fun v1=>
     if v1 !=(0:Int)then
      some (v1)
     else
      O (ai (t1+(1:Int)))
    )
  )
 else
  (
   if decide ((List.length o:Int)<(List.length q:Int))then
    some ((-1:Int))
   else
    some ((0:Int))
  )
def yS(k:Nat)(o:List (Int))(q:List (Int))(L:mn):Nat->Int->Option Int
 |0,_=>none
 |n+1,t1=>O2 k o q L (yS k o q L n) t1
def FX(k:Nat)(o:List (Int))(q:List (Int))(L:mn):Option Int:=
 yS k o q L k (0:Int)
def EF(k:Nat)(o:List UInt8)(q:List UInt8)(t1:Option cZ):Option Int:=
 Option.bind (aL (List.length o<=bq)) fun _=>
 Option.bind (aL (List.length q<=bq)) fun _=>
 Option.bind (FX k (eb o) (eb q) (t1,())) fun v1=>
 some (v1)
def AY(t3:List (List UInt8))(o:Int)(L:Int->aF->Option cl)(O:Int->cZ->aF->Option cl)(i1:Int)(m3:List (Int×Int))(t4:Bool):Option cl:=
 if t4 then
  (
   Option.bind (aq t3 (ai (o-(1:Int)))) fun q=>
   Option.bind (aq t3 o) fun R=>
   Option.bind (aq (List.set t3 (o).toNat q) (ai (o-(1:Int)))) fun U=>
   L (ai (o-(1:Int))) (List.set (List.set t3 (o).toNat q) (ai (o-(1:Int))).toNat R)
  )
 else
  O (ai (i1+(1:Int))) m3 t3
def QU(k:Nat)(O:Int)(m3:List (Int×Int))(q:Int->cZ->aF->Option cl)(i1:Int)(L:Int->aF->Option cl)(o:Int)(t3:List (List UInt8)):Option cl:=
 if decide (O<o)then
  (
   Option.bind (aq t3 o) fun R=>
   Option.bind (aq t3 (ai (o-(1:Int)))) fun U=>
   Option.bind (EF k R U (some m3)) fun v1=>
   AY t3 o L q i1 m3 (decide (v1<(0:Int)))
  )
 else
  AY t3 o L q i1 m3 false
def uc(k:Nat)(o:Int)(m3:List (Int×Int))(q:Int->cZ->aF->Option cl)(i1:Int):Nat->Int->aF->Option cl
 |0,_,_=>none
 |n+1,L,t3=>QU k o m3 q i1 (uc k o m3 q i1 n) L t3
def OQ(k:Nat)(o:Int)(q:Int)(L:Int->cZ->aF->Option cl)(i1:Int)(m3:List (Int×Int))(t2:List (List UInt8)):Option cl:=
 if decide (i1<o)then
  uc k q m3 L i1 k i1 t2
 else
  some (m3,t2)
def z8(k:Nat)(o:Int)(q:Int):Nat->Int->cZ->aF->Option cl
 |0,_,_,_=>none
 |n+1,i1,m3,t2=>OQ k o q (z8 k o q n) i1 m3 t2
def sq(k:Nat)(o:Int)(q:Int)(m1:List (Int×Int))(l1:List (List UInt8)):Option cl:=
 z8 k q o k (ai (o+(1:Int))) m1 l1
def JM(k:Nat)(o:Int)(q:Int)(m1:List (Int×Int))(l1:List (List UInt8))(L:Option cl):Option cl:=
 if decide ((ai (o-q))<=(12:Int))then
  (
   Option.bind (sq k q o m1 l1) fun v1=>
   some (v1.1,v1.2)
  )
 else
  none
def A1(k:Nat)(o:Int)(q:Int)(m1:List (Int×Int))(l1:List (List UInt8)):Nat->Option cl
 |0=>none
 |n+1=>JM k o q m1 l1 (A1 k o q m1 l1 n)
def qU(k:Nat)(o:Int)(q:Int)(L:Int)(m1:List (Int×Int))(l1:List (List UInt8)):Option cl:=
 A1 k q o m1 l1 k
def r6(k:Nat)(m1:List (Int×Int))(l1:List (List UInt8)):Option cl:=
 Option.bind (yv k (dY (List.length l1:Int))) fun v1=>
 Option.bind (qU k (0:Int) (List.length l1:Int) v1 m1 l1) fun v2=>
 some (v2.1,v2.2)
def Pm(o:List (List UInt8))(L:Int->Option aF)(q:Int):Option aF:=
 if decide (q<(List.length o:Int))then
  (
   Option.bind (aq o q) fun O=>
   Option.bind (aq o (ai (q-(1:Int)))) fun R=>
   if O==R then
    none
   else
    L (ai (q+(1:Int)))
  )
 else
  some (o)
def AE(o:List (List UInt8)):Nat->Int->Option aF
 |0,_=>none
 |n+1,q=>Pm o (AE o n) q
def OD(k:Nat)(o:List (List UInt8)):Option aF:=
 if decide ((List.length o:Int)<(2:Int))then
  some (o)
 else
  AE o k (1:Int)
def TZ(l1:List (List UInt8))(q:Int->Option Unit)(o:Int):Option Unit:=
 if decide (o<(List.length l1:Int))then
  (
   Option.bind (aq l1 o) fun L=>
   Option.bind (aq l1 (ai (o-(1:Int)))) fun O=>
   if L==O then
    none
   else
    q (ai (o+(1:Int)))
  )
 else
  some ()
def BB(l1:List (List UInt8)):Nat->Int->Option Unit
 |0,_=>none
 |n+1,o=>TZ l1 (BB l1 n) o
def rC(k:Nat)(l1:List (List UInt8)):Option Unit:=
 if decide ((List.length l1:Int)<(2:Int))then
  some ()
 else
  BB l1 k (1:Int)
def NM(k:Nat)(o:aB)(l1:List (List UInt8))(q:Int->cZ->Option aF)(t2:Int)(m1:List (Int×Int)):Option aF:=
 if decide (t2<(List.length o.2.1:Int))then
  (
   Option.bind (aq o.2.1 t2) fun L=>
   q (ai (t2+(1:Int))) (cU (aV (.int .i32)) m1 L.1 t2)
  )
 else
  (
   Option.bind (r6 k m1 l1) fun v1=>
   Option.bind (rC k v1.2) fun v2=>
   some v1.2
  )
def xv(k:Nat)(o:aB)(l1:List (List UInt8)):Nat->Int->cZ->Option aF
 |0,_,_=>none
 |n+1,t2,m1=>NM k o l1 (xv k o l1 n) t2 m1
def tk(k:Nat)(o:aB)(l1:List (List UInt8)):Option aF:=
 xv k o l1 k (0:Int) ([]:List (Int×Int))
def tQ(o:Int->bK->aF->Option bR)(t5:Int)(m3:List bu)(q:List (List UInt8)):Option bR:=
 o (ai (t5+(1:Int))) m3 q
def Ke(v2:bR)(O:Int->aF->aI->(List UInt8)->aI->b9->aJ->aJ->Int->Bool->bK->aF->aF->Option bR)(t3:Int)(a4:List (List UInt8))(a5:List aw)(R:List UInt8)(ch:List aw)(dw:List bD)(fM:List aC)(gw:List aC)(gl:Int)(U:Bool)(t4:List (List UInt8))(L:Int->bK->aF->Option bR)(t5:Int)(m2:List bu)(o:List (List UInt8)):Option bR:=
 if decide (t5<(List.length v2.1:Int))then
  (
   Option.bind (aq v2.1 t5) fun q=>
   if !((cD (aV .str) m2 q).getD false)then
    (
     Option.bind (aL (List.length o+List.length ([q]:List (List UInt8))<=bq)) fun _=>
     tQ L t5 (cU (aV .str) m2 q true) (o++([q]:List (List UInt8)))
    )
   else
    tQ L t5 m2 o
  )
 else
  (
   if decide ((1024:Int)<(List.length o:Int))then
    some (([]:List (List UInt8)),(9:Int))
   else
    O (ai (t3+(1:Int))) a4 a5 R ch dw fM gw gl U m2 o t4
  )
def wd(v2:bR)(o:Int->aF->aI->(List UInt8)->aI->b9->aJ->aJ->Int->Bool->bK->aF->aF->Option bR)(t3:Int)(a4:List (List UInt8))(a5:List aw)(q:List UInt8)(ch:List aw)(dw:List bD)(fM:List aC)(gw:List aC)(gl:Int)(L:Bool)(t4:List (List UInt8)):Nat->Int->bK->aF->Option bR
 |0,_,_,_=>none
 |n+1,t5,m2,O=>Ke v2 o t3 a4 a5 q ch dw fM gw gl L t4 (wd v2 o t3 a4 a5 q ch dw fM gw gl L t4 n) t5 m2 O
def Ub(k:Nat)(t2:List (List UInt8))(O:Int->aF->aI->aF->Option bR)(t1:Int)(R:Int->aF->aI->(List UInt8)->aI->b9->aJ->aJ->Int->Bool->bK->aF->aF->Option bR)(t3:Int)(a4:List (List UInt8))(a5:List aw)(o:List UInt8)(ch:List aw)(dw:List bD)(fM:List aC)(gw:List aC)(gl:Int)(q:Bool)(m1:List bu)(L:List (List UInt8))(t4:List (List UInt8)):Option bR:=
 if decide (t3<(List.length t2:Int))then
  (
   Option.bind (aq t4 t3) fun U=>
   Option.bind (HS k (a4,a5,()) (o,ch,dw,(fM,()),(gw,()),gl,q,()) U) fun v2=>
   if v2.2 !=(0:Int)then
    some (([]:List (List UInt8)),v2.2)
   else
    wd v2 R t3 a4 a5 o ch dw fM gw gl q t4 k (0:Int) m1 L
  )
 else
  (
   Option.bind (tk k (a4,a5,()) L) fun v3=>
   O (ai (t1+(1:Int))) a4 a5 v3
  )
def um(k:Nat)(t2:List (List UInt8))(o:Int->aF->aI->aF->Option bR)(t1:Int):Nat->Int->aF->aI->(List UInt8)->aI->b9->aJ->aJ->Int->Bool->bK->aF->aF->Option bR
 |0,_,_,_,_,_,_,_,_,_,_,_,_,_=>none
 |n+1,t3,a4,a5,q,ch,dw,fM,gw,gl,L,m1,O,t4=>Ub k t2 o t1 (um k t2 o t1 n) t3 a4 a5 q ch dw fM gw gl L m1 O t4
def Lx(k:Nat)(l1:List fg)(q:Int->aF->aI->aF->Option bR)(t1:Int)(a2:List (List UInt8))(a3:List aw)(t2:List (List UInt8)):Option bR:=
 if decide (t1<(List.length l1:Int))then
  (
   Option.bind (aq l1 t1) fun o=>
   um k t2 q t1 k (0:Int) a2 a3 o.1 o.2.1 o.2.2.1 o.2.2.2.1.1 o.2.2.2.2.1.1 o.2.2.2.2.2.1 o.2.2.2.2.2.2.1 ([]:List bu) ([]:List (List UInt8)) t2
  )
 else
  some (t2,(0:Int))
def xL(k:Nat)(l1:List fg):Nat->Int->aF->aI->aF->Option bR
 |0,_,_,_,_=>none
 |n+1,t1,a2,a3,t2=>Lx k l1 (xL k l1 n) t1 a2 a3 t2
def H0(k:Nat)(o:aB)(l1:List fg)(q:List UInt8):Option bR:=
 Option.bind (ye k (o.1,o.2.1,()) q l1) fun v1=>
 if v1 !=(0:Int)then
  some (([]:List (List UInt8)),v1)
 else
  xL k l1 k (0:Int) o.1 o.2.1 ([q]:List (List UInt8))
def Lv(o:List (List UInt8))(v1:List UInt8)(q:Int->Option Int)(t1:Int):Option Int:=
 if decide (t1<(List.length o:Int))then
  (
   Option.bind (aq o t1) fun L=>
   if v1==L then
    some (t1)
   else
    q (ai (t1+(1:Int)))
  )
 else
  some ((-1:Int))
def wT(o:List (List UInt8))(v1:List UInt8):Nat->Int->Option Int
 |0,_=>none
 |n+1,t1=>Lv o v1 (wT o v1 n) t1
def xj(k:Nat)(o:List (List UInt8))(v1:List UInt8):Option Int:=
 wT o v1 k (0:Int)
def Cg(k:Nat)(o:List (List UInt8))(v1:List UInt8):Option Bool:=
 Option.bind (xj k o v1) fun v2=>
 some (decide ((0:Int)<=v2))
def Bm(o:Int->(List (Int))->Option bC)(t2:Int)(l2:List (Int)):Option bC:=
 o (ai (t2+(1:Int))) l2
def M5(k:Nat)(t1:ef)(v1:List UInt8)(q:List UInt8)(o:Int->(List (Int))->Option bC)(t2:Int)(l1:List (Int)):Option bC:=
 if decide (t2<(ai ((List.length t1.2.2.2.2.2.1:Int)+(1:Int))))then
  (
   Option.bind (dD t1.2.2.2.2.2.1 t2 (t1.2.2.2.2.2.1.length:Int)) fun L=>
   Option.bind (H0 k (t1.1.1,t1.1.2.1,()) L v1) fun v2=>
   if v2.2 !=(0:Int)then
    some (([]:List (Int)),v2.2)
   else
    (
     Option.bind (Cg k v2.1 q) fun v3=>
     if v3 then
      (
       Option.bind (aL (List.length l1+List.length ([t2]:List (Int))<=bq)) fun _=>
       Bm o t2 (l1++([t2]:List (Int)))
      )
     else
      Bm o t2 l1
    )
  )
 else
  some (l1,(0:Int))
def yF(k:Nat)(t1:ef)(v1:List UInt8)(o:List UInt8):Nat->Int->(List (Int))->Option bC
 |0,_,_=>none
 |n+1,t2,l1=>M5 k t1 v1 o (yF k t1 v1 o n) t2 l1
def yy(k:Nat)(t1:ef)(v1:List UInt8)(o:List UInt8):Option bC:=
 yF k t1 v1 o k (0:Int) ([]:List (Int))
def rR(k:Nat)(o:aB)(t1:ef)(L:List UInt8)(q:List UInt8):Option bC:=
 Option.bind (sX k (o.1,o.2.1,()) ((t1.1.1,t1.1.2.1,()),t1.2.1,t1.2.2.1,t1.2.2.2.1,t1.2.2.2.2.1,t1.2.2.2.2.2.1,t1.2.2.2.2.2.2.1,()) L) fun v1=>
 if v1.2 !=(0:Int)then
  some (([]:List (Int)),v1.2)
 else
  (
   Option.bind (ka k (t1.1.1,t1.1.2.1,()) q) fun v2=>
   if v2 !=(0:Int)then
    some (([]:List (Int)),v2)
   else
    (
     Option.bind (yy k ((t1.1.1,t1.1.2.1,()),t1.2.1,t1.2.2.1,t1.2.2.2.1,t1.2.2.2.2.1,t1.2.2.2.2.2.1,t1.2.2.2.2.2.2.1,()) v1.1 q) fun v3=>
     some (v3.1,v3.2)
    )
  )
def iL(k:Nat)(o:Int)(c2:List (Int))(c3:List (Int)):Option (List (Int)×List (Int)):=
 if o !=(0:Int)then
  some (([]:List (Int)),([]:List (Int)))
 else
  some (c2,c3)
def o0(k:Nat)(o:(Int×Int×Unit))(q:(Int×Int×Unit)):Option Int:=
 some (ai (o.2.1-q.2.1))
def zY(t3:List bw)(o:Int)(L:Int->ay->Option ay)(O:Int->ay->Option ay)(i1:Int)(t4:Bool):Option ay:=
 if t4 then
  (
   Option.bind (aq t3 (ai (o-(1:Int)))) fun q=>
   Option.bind (aq t3 o) fun R=>
   Option.bind (aq (List.set t3 (o).toNat q) (ai (o-(1:Int)))) fun U=>
   L (ai (o-(1:Int))) (List.set (List.set t3 (o).toNat q) (ai (o-(1:Int))).toNat R)
  )
 else
  O (ai (i1+(1:Int))) t3
def Oq(k:Nat)(O:Int)(q:Int->ay->Option ay)(i1:Int)(L:Int->ay->Option ay)(o:Int)(t3:List bw):Option ay:=
 if decide (O<o)then
  (
   Option.bind (aq t3 o) fun R=>
   Option.bind (aq t3 (ai (o-(1:Int)))) fun U=>
   Option.bind (o0 k R U) fun v1=>
   zY t3 o L q i1 (decide (v1<(0:Int)))
  )
 else
  zY t3 o L q i1 false
def yt(k:Nat)(o:Int)(q:Int->ay->Option ay)(i1:Int):Nat->Int->ay->Option ay
 |0,_,_=>none
 |n+1,L,t3=>Oq k o q i1 (yt k o q i1 n) L t3
def JB(k:Nat)(o:Int)(q:Int)(L:Int->ay->Option ay)(i1:Int)(t2:List bw):Option ay:=
 if decide (i1<o)then
  yt k q L i1 k i1 t2
 else
  some t2
def zy(k:Nat)(o:Int)(q:Int):Nat->Int->ay->Option ay
 |0,_,_=>none
 |n+1,i1,t2=>JB k o q (zy k o q n) i1 t2
def oE(k:Nat)(o:Int)(q:Int)(l1:List bw):Option ay:=
 zy k q o k (ai (o+(1:Int))) l1
def Ue(O:Int)(o:Int)(q:Int)(R:Int->ay->Option ay)(i1:Int)(t2:List bw):Option ay:=
 if decide (i1<O)then
  (
   Option.bind (aq t2 (ai (o+i1))) fun L=>
   Option.bind (aq t2 (ai (q+i1))) fun U=>
   Option.bind (aq (List.set t2 (ai (q+i1)).toNat L) (ai (o+i1))) fun V=>
   R (ai (i1+(1:Int))) (List.set (List.set t2 (ai (q+i1)).toNat L) (ai (o+i1)).toNat U)
  )
 else
  some t2
def ux(o:Int)(q:Int)(L:Int):Nat->Int->ay->Option ay
 |0,_,_=>none
 |n+1,i1,t2=>Ue o q L (ux o q L n) i1 t2
def nz(k:Nat)(o:Int)(q:Int)(L:Int)(l1:List bw):Option ay:=
 ux L q o k (0:Int) l1
def QY(k:Nat)(m1:Int)(q:Int->Int->ay->Option ay)(i1:Int)(o:Int)(t2:List bw):Option ay:=
 if i1 !=o then
  (
   if decide (o<i1)then
    (
     Option.bind (nz k (ai (m1-i1)) m1 o t2) fun v1=>
     q (ai (i1-o)) o v1
    )
   else
    (
     Option.bind (nz k (ai (m1-i1)) (ai ((ai (m1+o))-i1)) i1 t2) fun v2=>
     q i1 (ai (o-i1)) v2
    )
  )
 else
  (
   Option.bind (nz k (ai (m1-i1)) m1 i1 t2) fun v3=>
   some v3
  )
def y8(k:Nat)(m1:Int):Nat->Int->Int->ay->Option ay
 |0,_,_,_=>none
 |n+1,i1,o,t2=>QY k m1 (y8 k m1 n) i1 o t2
def qP(k:Nat)(o:Int)(m1:Int)(q:Int)(l1:List bw):Option ay:=
 y8 k m1 k (ai (m1-o)) (ai (q-m1)) l1
def Ru(i1:Int)(L:Int->ay->Option ay)(o:Int)(t2:List bw):Option ay:=
 if decide (o<(ai (i1-(1:Int))))then
  (
   Option.bind (aq t2 (ai (o+(1:Int)))) fun q=>
   Option.bind (aq t2 o) fun O=>
   Option.bind (aq (List.set t2 (o).toNat q) (ai (o+(1:Int)))) fun R=>
   L (ai (o+(1:Int))) (List.set (List.set t2 (o).toNat q) (ai (o+(1:Int))).toNat O)
  )
 else
  some t2
def uA(i1:Int):Nat->Int->ay->Option ay
 |0,_,_=>none
 |n+1,o,t2=>Ru i1 (uA i1 n) o t2
def MS(k:Nat)(l1:List bw)(q:Int)(L:Int->Int->Option ay)(i1:Int)(o:Int):Option ay:=
 if decide (i1<o)then
  (
   Option.bind (aL (0<=(1:Int))) fun _=>
   Option.bind (aq l1 (ai (Int.fdiv (dY (ai (i1+o))) (2^min ((1:Int)).toNat 64)))) fun O=>
   Option.bind (aq l1 q) fun R=>
   Option.bind (o0 k O R) fun v1=>
   if decide (v1<(0:Int))then
    L (ai ((ai (Int.fdiv (dY (ai (i1+o))) (2^min ((1:Int)).toNat 64)))+(1:Int))) o
   else
    L i1 (ai (Int.fdiv (dY (ai (i1+o))) (2^min ((1:Int)).toNat 64)))
  )
 else
  uA i1 k q l1
def yA(k:Nat)(l1:List bw)(o:Int):Nat->Int->Int->Option ay
 |0,_,_=>none
 |n+1,i1,q=>MS k l1 o (yA k l1 o n) i1 q
def T3(i2:Int)(L:Int->ay->Option ay)(o:Int)(t3:List bw):Option ay:=
 if decide (i2<o)then
  (
   Option.bind (aq t3 (ai (o-(1:Int)))) fun q=>
   Option.bind (aq t3 o) fun O=>
   Option.bind (aq (List.set t3 (o).toNat q) (ai (o-(1:Int)))) fun R=>
   L (ai (o-(1:Int))) (List.set (List.set t3 (o).toNat q) (ai (o-(1:Int))).toNat O)
  )
 else
  some t3
def vn(i2:Int):Nat->Int->ay->Option ay
 |0,_,_=>none
 |n+1,o,t3=>T3 i2 (vn i2 n) o t3
def Qq(k:Nat)(l1:List bw)(m1:Int)(q:Int->Int->Option ay)(i2:Int)(o:Int):Option ay:=
 if decide (i2<o)then
  (
   Option.bind (aL (0<=(1:Int))) fun _=>
   Option.bind (aq l1 m1) fun L=>
   Option.bind (aq l1 (ai (Int.fdiv (dY (ai (i2+o))) (2^min ((1:Int)).toNat 64)))) fun O=>
   Option.bind (o0 k L O) fun v2=>
   if !(decide (v2<(0:Int)))then
    q (ai ((ai (Int.fdiv (dY (ai (i2+o))) (2^min ((1:Int)).toNat 64)))+(1:Int))) o
   else
    q i2 (ai (Int.fdiv (dY (ai (i2+o))) (2^min ((1:Int)).toNat 64)))
  )
 else
  vn i2 k m1 l1
def w4(k:Nat)(l1:List bw)(m1:Int):Nat->Int->Int->Option ay
 |0,_,_=>none
 |n+1,i2,o=>Qq k l1 m1 (w4 k l1 m1 n) i2 o
def M0(L:Int->Int->Int->ay->Option ay)(q:Int)(o:Int)(m1:Int)(O:Int)(t5:List bw)(t6:Bool):Option ay:=
 if t6 then
  (
   Option.bind (L (ai (Int.fdiv (dY (ai (q+o))) (2^min ((1:Int)).toNat 64))) (ai ((ai ((ai (Int.fdiv (dY (ai (q+o))) (2^min ((1:Int)).toNat 64)))+m1))-O)) o t5) fun v4=>
   some v4
  )
 else
  some t5
def CZ(O:Int->Int->Int->ay->Option ay)(q:Int)(o:Int)(m1:Int)(L:Int)(t5:List bw):Option ay:=
 M0 O q o m1 L t5 (decide ((ai (Int.fdiv (dY (ai (q+o))) (2^min ((1:Int)).toNat 64)))<(ai ((ai ((ai (Int.fdiv (dY (ai (q+o))) (2^min ((1:Int)).toNat 64)))+m1))-L)))&&(decide ((ai ((ai ((ai (Int.fdiv (dY (ai (q+o))) (2^min ((1:Int)).toNat 64)))+m1))-L))<o)))
def SV(q:Int->Int->Int->ay->Option ay)(o:Int)(L:Int)(O:Int)(t4:List bw)(m1:Int)(t7:Bool):Option ay:=
 if t7 then
  (
   Option.bind (q o L (ai (Int.fdiv (dY (ai (o+O))) (2^min ((1:Int)).toNat 64))) t4) fun v5=>
   CZ q o O m1 L v5
  )
 else
  CZ q o O m1 L t4
def ud(O:Int->Int->Int->ay->Option ay)(o:Int)(q:Int)(L:Int)(m1:Int)(t4:List bw):Option ay:=
 SV O o q L t4 m1 (decide (o<q)&&(decide (q<(ai (Int.fdiv (dY (ai (o+L))) (2^min ((1:Int)).toNat 64))))))
def Pj(k:Nat)(o:Int)(m1:Int)(q:Int)(L:Int)(l1:List bw)(O:Int->Int->Int->ay->Option ay)(t8:Bool):Option ay:=
 if t8 then
  (
   Option.bind (qP k o m1 (ai ((ai ((ai (Int.fdiv (dY (ai (q+L))) (2^min ((1:Int)).toNat 64)))+m1))-o)) l1) fun R=>
   ud O q o L m1 R
  )
 else
  ud O q o L m1 l1
def Sn(k:Nat)(l1:List bw)(q:Int)(L:Int)(m1:Int)(R:Int->Int->Int->ay->Option ay)(O:Int->Int->Option ay)(o:Int)(ch:Int):Option ay:=
 if decide (o<ch)then
  (
   Option.bind (aL (0<=(1:Int))) fun _=>
   Option.bind (aq l1 (ai ((ai ((ai ((ai (Int.fdiv (dY (ai (q+L))) (2^min ((1:Int)).toNat 64)))+m1))-(1:Int)))-(ai (Int.fdiv (dY (ai (o+ch))) (2^min ((1:Int)).toNat 64)))))) fun U=>
   Option.bind (aq l1 (ai (Int.fdiv (dY (ai (o+ch))) (2^min ((1:Int)).toNat 64)))) fun V=>
   Option.bind (o0 k U V) fun v3=>
   if !(decide (v3<(0:Int)))then
    O (ai ((ai (Int.fdiv (dY (ai (o+ch))) (2^min ((1:Int)).toNat 64)))+(1:Int))) ch
   else
    O o (ai (Int.fdiv (dY (ai (o+ch))) (2^min ((1:Int)).toNat 64)))
  )
 else
  Pj k o m1 q L l1 R (decide (o<m1)&&(decide (m1<(ai ((ai ((ai (Int.fdiv (dY (ai (q+L))) (2^min ((1:Int)).toNat 64)))+m1))-o)))))
def Ca(k:Nat)(l1:List bw)(o:Int)(q:Int)(m1:Int)(L:Int->Int->Int->ay->Option ay):Nat->Int->Int->Option ay
 |0,_,_=>none
 |n+1,O,ch=>Sn k l1 o q m1 L (Ca k l1 o q m1 L n) O ch
def tM(k:Nat)(l1:List bw)(o:Int)(q:Int)(m1:Int)(L:Int->Int->Int->ay->Option ay)(O:Int)(R:Int):Option ay:=
 Ca k l1 o q m1 L k O R
def iq:Nat->Int->Int->Int->ay->Option ay
 |0,_,_,_,_=>none
 |k+1,o,m1,q,l1=>
  if(ai (m1-o))==(1:Int)then
   yA k l1 o k m1 q
  else
   (
    if(ai (q-m1))==(1:Int)then
     w4 k l1 m1 k o m1
    else
     (
      Option.bind (aL (0<=(1:Int))) fun _=>
      if decide ((ai (Int.fdiv (dY (ai (o+q))) (2^min ((1:Int)).toNat 64)))<m1)then
       tM k l1 o q m1 (iq k) (ai ((ai ((ai (Int.fdiv (dY (ai (o+q))) (2^min ((1:Int)).toNat 64)))+m1))-q)) (ai (Int.fdiv (dY (ai (o+q))) (2^min ((1:Int)).toNat 64)))
      else
       tM k l1 o q m1 (iq k) o m1
     )
   )
def tC(o:Int->ay->Option ay)(q:Int)(t5:List bw):Option ay:=
 o (ai (q*(2:Int))) t5
def RH(k:Nat)(L:Int)(o:Int)(O:Int->ay->Option ay)(R:Int->Int->ay->Option ay)(a2:Int)(q:Int)(t4:List bw):Option ay:=
 if decide (q<=L)then
  (
   Option.bind (iq k a2 (ai (a2+o)) q t4) fun v3=>
   R q (ai (q+(ai ((2:Int)*o)))) v3
  )
 else
  (
   if decide ((ai (a2+o))<L)then
    (
     Option.bind (iq k a2 (ai (a2+o)) L t4) fun v4=>
     tC O o v4
    )
   else
    tC O o t4
  )
def vB(k:Nat)(o:Int)(q:Int)(L:Int->ay->Option ay):Nat->Int->Int->ay->Option ay
 |0,_,_,_=>none
 |n+1,a2,O,t4=>RH k o q L (vB k o q L n) a2 O t4
def Tc(k:Nat)(q:Int)(L:Int->ay->Option ay)(o:Int)(t3:List bw):Option ay:=
 if decide (o<q)then
  vB k q o L k (0:Int) (ai ((2:Int)*o)) t3
 else
  some t3
def tr(k:Nat)(o:Int):Nat->Int->ay->Option ay
 |0,_,_=>none
 |n+1,q,t3=>Tc k o (tr k o n) q t3
def OT(k:Nat)(q:Int)(O:Int->Int->ay->Option ay)(L:Int)(o:Int)(t2:List bw):Option ay:=
 if decide (o<=q)then
  (
   Option.bind (oE k L o t2) fun v1=>
   O o (ai (o+(20:Int))) v1
  )
 else
  (
   Option.bind (oE k L q t2) fun v2=>
   tr k q k (20:Int) v2
  )
def AP(k:Nat)(o:Int):Nat->Int->Int->ay->Option ay
 |0,_,_,_=>none
 |n+1,q,L,t2=>OT k o (AP k o n) q L t2
def se(k:Nat)(o:Int)(l1:List bw):Option ay:=
 AP k o k (0:Int) (20:Int) l1
def tl(k:Nat)(l1:List bw):Option ay:=
 Option.bind (se k (List.length l1:Int) l1) fun v1=>
 some v1
def wy(o:Int->Int->ay->Option bO)(t4:Int)(t6:Int)(q:List bw):Option bO:=
 o (ai (t4+(1:Int))) t6 q
def Ng(k:Nat)(q:List bw)(O:Int->(List (Int))->(List (Int))->Option bO)(t7:Int)(t8:List (Int))(t9:List (Int)):Option bO:=
 if decide (t7<(List.length q:Int))then
  (
   Option.bind (aq q t7) fun o=>
   Option.bind (aL (List.length t8+List.length ([o.1]:List (Int))<=bq)) fun _=>
   Option.bind (aL (List.length t9+List.length ([o.2.1]:List (Int))<=bq)) fun _=>
   O (ai (t7+(1:Int))) (t8++([o.1]:List (Int))) (t9++([o.2.1]:List (Int)))
  )
 else
  (
   Option.bind (iL k (0:Int) t8 t9) fun L=>
   some (L.1,L.2,(0:Int))
  )
def yo(k:Nat)(o:List bw):Nat->Int->(List (Int))->(List (Int))->Option bO
 |0,_,_,_=>none
 |n+1,t7,t8,t9=>Ng k o (yo k o n) t7 t8 t9
def JV(k:Nat)(l1:List (List UInt8))(O:aB)(t1:ef)(R:List UInt8)(U:Int->Int->ay->Option bO)(t4:Int)(t5:Int)(L:List bw):Option bO:=
 if decide (t4<(List.length l1:Int))then
  (
   Option.bind (aq l1 t4) fun Y=>
   Option.bind (ib k (O.1,O.2.1,()) (t1.1.1,t1.1.2.1,()) Y) fun o=>
   if o.2 !=(0:Int)then
    (
     Option.bind (iL k o.2 ([]:List (Int)) ([]:List (Int))) fun v9=>
     some (v9.1,v9.2,o.2)
    )
   else
    (
     Option.bind (yy k ((t1.1.1,t1.1.2.1,()),t1.2.1,t1.2.2.1,t1.2.2.2.1,t1.2.2.2.2.1,t1.2.2.2.2.2.1,t1.2.2.2.2.2.2.1,()) o.1 R) fun q=>
     if q.2 !=(0:Int)then
      (
       Option.bind (iL k q.2 ([]:List (Int)) ([]:List (Int))) fun V=>
       some (V.1,V.2,q.2)
      )
     else
      (
       if(List.length q.1:Int)==(0:Int)then
        wy U t4 q.2 L
       else
        (
         Option.bind (rr k (t1.1.1,t1.1.2.1,()) o.1 R) fun v12=>
         if v12.2.2 !=(0:Int)then
          (
           Option.bind (iL k v12.2.2 ([]:List (Int)) ([]:List (Int))) fun W=>
           some (W.1,W.2,v12.2.2)
          )
         else
          (
           Option.bind (aL (List.length L+List.length ([(t4,v12.1,())]:List bw)<=bq)) fun _=>
           wy U t4 v12.2.2 (L++([(t4,v12.1,())]:List bw))
          )
        )
      )
    )
  )
 else
  (
   Option.bind (tl k L) fun Z=>
   yo k Z k (0:Int) ([]:List (Int)) ([]:List (Int))
  )
def Bi(k:Nat)(l1:List (List UInt8))(o:aB)(t1:ef)(q:List UInt8):Nat->Int->Int->ay->Option bO
 |0,_,_,_=>none
 |n+1,t4,t5,L=>JV k l1 o t1 q (Bi k l1 o t1 q n) t4 t5 L
def SN(k:Nat)(l1:List (List UInt8))(q:aB)(t1:ef)(L:List UInt8)(R:Int->Int->Option bO)(t2:Int)(t3:Int):Option bO:=
 if decide (t2<(List.length l1:Int))then
  (
   Option.bind (aq l1 t2) fun U=>
   Option.bind (ka k (q.1,q.2.1,()) U) fun v4=>
   if v4 !=(0:Int)then
    (
     Option.bind (iL k v4 ([]:List (Int)) ([]:List (Int))) fun v5=>
     some (v5.1,v5.2,v4)
    )
   else
    R (ai (t2+(1:Int))) v4
  )
 else
  (
   Option.bind (ka k (t1.1.1,t1.1.2.1,()) L) fun o=>
   if o !=(0:Int)then
    (
     Option.bind (iL k o ([]:List (Int)) ([]:List (Int))) fun O=>
     some (O.1,O.2,o)
    )
   else
    Bi k l1 q t1 L k (0:Int) o ([]:List bw)
  )
def xe(k:Nat)(l1:List (List UInt8))(o:aB)(t1:ef)(q:List UInt8):Nat->Int->Int->Option bO
 |0,_,_=>none
 |n+1,t2,t3=>SN k l1 o t1 q (xe k l1 o t1 q n) t2 t3
def oD(k:Nat)(o:aB)(t1:ef)(l1:List (List UInt8))(q:List UInt8):Option bO:=
 Option.bind (sX k (o.1,o.2.1,()) ((t1.1.1,t1.1.2.1,()),t1.2.1,t1.2.2.1,t1.2.2.2.1,t1.2.2.2.2.1,t1.2.2.2.2.2.1,t1.2.2.2.2.2.2.1,()) ([]:List UInt8)) fun v1=>
 if v1.2 !=(0:Int)then
  (
   Option.bind (iL k v1.2 ([]:List (Int)) ([]:List (Int))) fun v2=>
   some (v2.1,v2.2,v1.2)
  )
 else
  (
   if decide ((4096:Int)<(List.length l1:Int))then
    (
     Option.bind (iL k (4:Int) ([]:List (Int)) ([]:List (Int))) fun v3=>
     some (v3.1,v3.2,(4:Int))
    )
   else
    xe k l1 o t1 q k (0:Int) v1.2
  )
def Ah(o:Int->aF->Option bR)(t2:Int)(l2:List (List UInt8)):Option bR:=
 o (ai (t2+(1:Int))) l2
def Ta(k:Nat)(t1:ef)(q:List UInt8)(o:Int->aF->Option bR)(t2:Int)(l1:List (List UInt8)):Option bR:=
 if decide (t2<(ai ((List.length t1.2.2.2.2.2.1:Int)+(1:Int))))then
  (
   Option.bind (dD t1.2.2.2.2.2.1 t2 (t1.2.2.2.2.2.1.length:Int)) fun L=>
   Option.bind (vS k (t1.1.1,t1.1.2.1,()) L q) fun v3=>
   if v3.2 !=(0:Int)then
    some (([]:List (List UInt8)),v3.2)
   else
    (
     Option.bind (Cg k l1 v3.1) fun v4=>
     if !v4 then
      (
       Option.bind (aL (List.length l1+List.length ([v3.1]:List (List UInt8))<=bq)) fun _=>
       Ah o t2 (l1++([v3.1]:List (List UInt8)))
      )
     else
      Ah o t2 l1
    )
  )
 else
  some (l1,(0:Int))
def xi(k:Nat)(t1:ef)(o:List UInt8):Nat->Int->aF->Option bR
 |0,_,_=>none
 |n+1,t2,l1=>Ta k t1 o (xi k t1 o n) t2 l1
def yi(k:Nat)(t1:ef)(o:List UInt8):Option bR:=
 Option.bind (tB k ((t1.1.1,t1.1.2.1,()),t1.2.1,t1.2.2.1,t1.2.2.2.1,t1.2.2.2.2.1,t1.2.2.2.2.2.1,t1.2.2.2.2.2.2.1,())) fun v1=>
 if v1 !=(0:Int)then
  some (([]:List (List UInt8)),v1)
 else
  (
   Option.bind (ka k (t1.1.1,t1.1.2.1,()) o) fun v2=>
   if v2 !=(0:Int)then
    some (([]:List (List UInt8)),v2)
   else
    xi k t1 o k (0:Int) ([]:List (List UInt8))
  )
def uQ(t18:Bool):Option Bool:=
 some (t18)
def yQ(o:bR)(t17:Bool):Option Bool:=
 if t17 then
  (
   Option.bind (aq o.1 (2:Int)) fun q=>
   uQ (q==([116,97,110]:List UInt8))
  )
 else
  uQ false
def Bv(o:bR)(t16:Bool):Option Bool:=
 if t16 then
  (
   Option.bind (aq o.1 (0:Int)) fun q=>
   yQ o (q==([110,97]:List UInt8))
  )
 else
  yQ o false
def xc(q:bO)(o:bR)(t15:Bool):Option Bool:=
 if t15 then
  (
   Option.bind (aq q.2.1 (1:Int)) fun L=>
   Bv o (L==(3:Int))
  )
 else
  Bv o false
def wK(o:bO)(q:bR)(t14:Bool):Option Bool:=
 if t14 then
  (
   Option.bind (aq o.1 (1:Int)) fun L=>
   xc o q (L==(1:Int))
  )
 else
  xc o q false
def tD(L:bC)(o:bO)(q:bR)(t13:Bool):Option Bool:=
 if t13 then
  (
   Option.bind (aq L.1 (1:Int)) fun O=>
   wK o q (O==(2:Int))
  )
 else
  wK o q false
def Nt(o:bC)(q:bO)(L:bR)(t12:Bool):Option Bool:=
 if t12 then
  (
   Option.bind (aq o.1 (0:Int)) fun O=>
   tD o q L (O==(1:Int))
  )
 else
  tD o q L false
def MB(o:bC)(q:bO)(L:bR)(v5:ba)(t11:Bool):Option Bool:=
 Nt o q L (t11&&(v5.1==([110,97,116]:List UInt8)))
def Tk(o:bC)(q:bO)(L:bR)(v5:ba)(v3:ba)(v4:ba)(t10:Bool):Option Bool:=
 if t10 then
  some (false)
 else
  MB o q L v5 ((v3.1==([116,97,116]:List UInt8))&&(v4.1==([112,97,112]:List UInt8)))
def Sb(q:bC)(L:bO)(o:bR)(v5:ba)(v3:ba)(v4:ba)(t9:Bool):Option Bool:=
 Tk q L o v5 v3 v4 (t9||((List.length o.1:Int)!=(3:Int)))
def P9(q:bC)(o:bO)(L:bR)(v5:ba)(v3:ba)(v4:ba)(t8:Bool):Option Bool:=
 Sb q o L v5 v3 v4 (t8||((List.length o.2.1:Int)!=(2:Int)))
def Uk(q:bC)(o:bO)(L:bR)(v5:ba)(v3:ba)(v4:ba)(t7:Bool):Option Bool:=
 P9 q o L v5 v3 v4 (t7||((List.length o.1:Int)!=(2:Int)))
def RB(o:bC)(q:bO)(L:bR)(v5:ba)(v3:ba)(v4:ba)(t6:Bool):Option Bool:=
 Uk o q L v5 v3 v4 (t6||((List.length o.1:Int)!=(2:Int)))
def PY(o:bC)(q:bO)(L:bR)(v5:ba)(v3:ba)(v4:ba)(v9:ba)(t5:Bool):Option Bool:=
 RB o q L v5 v3 v4 (t5||(v9.2 !=(2:Int)))
def P7(q:bC)(L:bO)(o:bR)(v5:ba)(v3:ba)(v4:ba)(v9:ba)(t4:Bool):Option Bool:=
 PY q L o v5 v3 v4 v9 (t4||(o.2 !=(0:Int)))
def N6(q:bC)(o:bO)(L:bR)(v5:ba)(v3:ba)(v4:ba)(v9:ba)(t3:Bool):Option Bool:=
 P7 q o L v5 v3 v4 v9 (t3||(o.2.2 !=(0:Int)))
def I2(o:bC)(q:bO)(L:bR)(v5:ba)(v3:ba)(v4:ba)(v9:ba)(t2:Bool):Option Bool:=
 N6 o q L v5 v3 v4 v9 (t2||(o.2 !=(0:Int)))
def Pe(o:bC)(q:bO)(L:bR)(v5:ba)(v3:ba)(v4:ba)(v9:ba)(t1:Bool):Option Bool:=
 I2 o q L v5 v3 v4 v9 (t1||(v5.2 !=(0:Int)))
def w3(k:Nat):Option Bool:=
 Option.bind (BW k) fun v1=>
 Option.bind (zT k) fun v2=>
 Option.bind (ib k (v1.1,v1.2.1,()) (v2.1.1,v2.1.2.1,()) ([112,97,98]:List UInt8)) fun v3=>
 Option.bind (ib k (v2.1.1,v2.1.2.1,()) (v1.1,v1.2.1,()) ([116,97,110]:List UInt8)) fun v4=>
 Option.bind (j4 k (v1.1,v1.2.1,()) ((v2.1.1,v2.1.2.1,()),v2.2.1,v2.2.2.1,v2.2.2.2.1,v2.2.2.2.2.1,v2.2.2.2.2.2.1,v2.2.2.2.2.2.2.1,()) ([112,97,98]:List UInt8) (0:Int)) fun v5=>
 Option.bind (rR k (v1.1,v1.2.1,()) ((v2.1.1,v2.1.2.1,()),v2.2.1,v2.2.2.1,v2.2.2.2.1,v2.2.2.2.2.1,v2.2.2.2.2.2.1,v2.2.2.2.2.2.2.1,()) ([112,97]:List UInt8) ([116,97]:List UInt8)) fun o=>
 Option.bind (oD k (v1.1,v1.2.1,()) ((v2.1.1,v2.1.2.1,()),v2.2.1,v2.2.2.1,v2.2.2.2.1,v2.2.2.2.2.1,v2.2.2.2.2.2.1,v2.2.2.2.2.2.2.1,()) ([([112,97]:List UInt8),([98,97]:List UInt8),([97]:List UInt8)]:List (List UInt8)) ([110,97]:List UInt8)) fun q=>
 Option.bind (yi k ((v2.1.1,v2.1.2.1,()),v2.2.1,v2.2.2.1,v2.2.2.2.1,v2.2.2.2.2.1,v2.2.2.2.2.2.1,v2.2.2.2.2.2.2.1,()) ([116,97,110]:List UInt8)) fun L=>
 Option.bind (j4 k (v1.1,v1.2.1,()) ((v2.1.1,v2.1.2.1,()),v2.2.1,v2.2.2.1,v2.2.2.2.1,v2.2.2.2.2.1,v2.2.2.2.2.2.1,v2.2.2.2.2.2.2.1,()) ([112,97]:List UInt8) (3:Int)) fun v9=>
 Pe o q L v5 v3 v4 v9 ((v3.2 !=(0:Int))||(v4.2 !=(0:Int)))
def Ju(o:Int)(q:Int->(List (Int))->Option (List UInt8))(i1:Int)(t1:List (Int)):Option (List UInt8):=
 if decide (i1<o)then
  (
   Option.bind (aq t1 i1) fun L=>
   q (ai (i1+(1:Int))) (List.set t1 (i1).toNat (112:Int))
  )
 else
  some (eQ t1)
def uM(o:Int):Nat->Int->(List (Int))->Option (List UInt8)
 |0,_,_=>none
 |n+1,i1,t1=>Ju o (uM o n) i1 t1
def Aj(k:Nat)(o:Int):Option (List UInt8):=
 Option.bind (aL (0<=o/\o<=o/\o<=(bq:Int))) fun _=>
 uM o k (0:Int) (List.replicate (o).toNat (0:Int))
def Og(t17:Bool):Option Bool:=
 some (t17)
def MR(o:bO)(t16:Bool):Option Bool:=
 Og (t16&&((List.length o.2.1:Int)==(0:Int)))
def N9(o:bO)(t15:Bool):Option Bool:=
 MR o (t15&&((List.length o.1:Int)==(0:Int)))
def zP(o:bO)(t14:Bool):Option Bool:=
 N9 o (t14&&(o.2.2==(5:Int)))
def Ty(v5:ba)(o:bO)(t13:Bool):Option Bool:=
 if t13 then
  some (false)
 else
  (
   if(List.length v5.1:Int)==(64:Int)then
    (
     Option.bind (fa v5.1 (63:Int)) fun q=>
     zP o (q==(116:Int))
    )
   else
    zP o false
  )
def Rk(v5:ba)(o:bO)(v20:bR)(t12:Bool):Option Bool:=
 Ty v5 o (t12||(v20.2 !=(5:Int)))
def LL(v5:ba)(o:bO)(v20:bR)(q:bO)(t11:Bool):Option Bool:=
 Rk v5 o v20 (t11||(q.2.2 !=(5:Int)))
def Q6(v5:ba)(o:bO)(v20:bR)(q:bO)(v17:bO)(t10:Bool):Option Bool:=
 LL v5 o v20 q (t10||(v17.2.2 !=(4:Int)))
def Jz(v5:ba)(o:bO)(v20:bR)(q:bO)(v17:bO)(L:bC)(t9:Bool):Option Bool:=
 Q6 v5 o v20 q v17 (t9||(L.2 !=(5:Int)))
def Ob(v5:ba)(o:bO)(v20:bR)(q:bO)(v17:bO)(L:bC)(O:bC)(t8:Bool):Option Bool:=
 Jz v5 o v20 q v17 L (t8||(O.2 !=(5:Int)))
def N5(v5:ba)(o:bO)(v20:bR)(q:bO)(v17:bO)(L:bC)(O:bC)(R:ba)(t7:Bool):Option Bool:=
 Ob v5 o v20 q v17 L O (t7||(R.2 !=(20:Int)))
def Pz(v5:ba)(o:bO)(v20:bR)(q:bO)(v17:bO)(L:bC)(O:bC)(R:ba)(U:ba)(t6:Bool):Option Bool:=
 N5 v5 o v20 q v17 L O R (t6||(U.2 !=(7:Int)))
def Jo(v5:ba)(o:bO)(v20:bR)(q:bO)(v17:bO)(L:bC)(O:bC)(R:ba)(U:ba)(v12:ba)(t5:Bool):Option Bool:=
 Pz v5 o v20 q v17 L O R U (t5||(v12.2 !=(5:Int)))
def PM(v5:ba)(o:bO)(v20:bR)(q:bO)(v17:bO)(L:bC)(O:bC)(R:ba)(U:ba)(v12:ba)(V:ba)(t4:Bool):Option Bool:=
 Jo v5 o v20 q v17 L O R U v12 (t4||(V.2 !=(2:Int)))
def SQ(v5:ba)(o:bO)(v20:bR)(q:bO)(v17:bO)(L:bC)(O:bC)(R:ba)(U:ba)(v12:ba)(V:ba)(W:ba)(t3:Bool):Option Bool:=
 PM v5 o v20 q v17 L O R U v12 V (t3||(W.2 !=(0:Int)))
def Pg(v5:ba)(o:bO)(v20:bR)(q:bO)(v17:bO)(L:bC)(O:bC)(R:ba)(U:ba)(v12:ba)(V:ba)(W:ba)(v9:ba)(t2:Bool):Option Bool:=
 SQ v5 o v20 q v17 L O R U v12 V W (t2||(v9.2 !=(7:Int)))
def JW(v5:ba)(o:bO)(v20:bR)(q:bO)(v17:bO)(L:bC)(O:bC)(R:ba)(U:ba)(v12:ba)(V:ba)(W:ba)(v9:ba)(Y:ba)(t1:Bool):Option Bool:=
 Pg v5 o v20 q v17 L O R U v12 V W v9 (t1||(Y.2 !=(7:Int)))
def AX(k:Nat):Option Bool:=
 Option.bind (w3 k) fun v1=>
 if !v1 then
  some (false)
 else
  (
   Option.bind (BW k) fun v2=>
   Option.bind (zT k) fun v3=>
   Option.bind (Aj k (64:Int)) fun v4=>
   Option.bind (ib k (v2.1,v2.2.1,()) (v3.1.1,v3.1.2.1,()) v4) fun v5=>
   Option.bind (Aj k (65:Int)) fun o=>
   Option.bind (ib k (v2.1,v2.2.1,()) (v3.1.1,v3.1.2.1,()) o) fun q=>
   Option.bind (ib k (([]:List (List UInt8)),([]:List aw),()) (([]:List (List UInt8)),([]:List aw),()) ([255]:List UInt8)) fun L=>
   Option.bind (ib k (v2.1,v2.2.1,()) (([]:List (List UInt8)),([]:List aw),()) ([255]:List UInt8)) fun v9=>
   Option.bind (j4 k (v2.1,v2.2.1,()) ((v3.1.1,v3.1.2.1,()),v3.2.1,v3.2.2.1,v3.2.2.2.1,v3.2.2.2.2.1,v3.2.2.2.2.2.1,v3.2.2.2.2.2.2.1,()) ([112,97]:List UInt8) (2:Int)) fun O=>
   Option.bind (j4 k (v2.1,v2.2.1,()) ((v3.1.1,v3.1.2.1,()),v3.2.1,v3.2.2.1,v3.2.2.2.1,v3.2.2.2.2.1,v3.2.2.2.2.2.1,v3.2.2.2.2.2.2.1,()) ([112,97]:List UInt8) (-1:Int)) fun R=>
   Option.bind (j4 k (v2.1,v2.2.1,()) ((v3.1.1,v3.1.2.1,()),v3.2.1,v3.2.2.1,v3.2.2.2.1,v3.2.2.2.2.1,v3.2.2.2.2.2.1,v3.2.2.2.2.2.2.1,()) ([120]:List UInt8) (-1:Int)) fun v12=>
   Option.bind (j4 k (([]:List (List UInt8)),([]:List aw),()) ((([]:List (List UInt8)),([]:List aw),()),(0:Int),(0:Int),([]:List kC),([]:List kL),([]:List fg),([]:List (List UInt8)),()) ([120]:List UInt8) (-1:Int)) fun U=>
   Option.bind (j4 k (v2.1,v2.2.1,()) ((v3.1.1,v3.1.2.1,()),(0:Int),(0:Int),([]:List kC),([]:List kL),([]:List fg),([]:List (List UInt8)),()) ([120]:List UInt8) (-1:Int)) fun V=>
   Option.bind (rR k (v2.1,v2.2.1,()) ((v3.1.1,v3.1.2.1,()),v3.2.1,v3.2.2.1,v3.2.2.2.1,v3.2.2.2.2.1,v3.2.2.2.2.2.1,v3.2.2.2.2.2.2.1,()) ([120]:List UInt8) ([112]:List UInt8)) fun W=>
   Option.bind (rR k (v2.1,v2.2.1,()) ((v3.1.1,v3.1.2.1,()),v3.2.1,v3.2.2.1,v3.2.2.2.1,v3.2.2.2.2.1,v3.2.2.2.2.2.1,v3.2.2.2.2.2.2.1,()) ([112,97]:List UInt8) ([112]:List UInt8)) fun Y=>
   Option.bind (aL (0<=(4097:Int)/\(4097:Int)<=(4097:Int)/\(4097:Int)<=(bq:Int))) fun _=>
   Option.bind (oD k (v2.1,v2.2.1,()) ((v3.1.1,v3.1.2.1,()),v3.2.1,v3.2.2.1,v3.2.2.2.1,v3.2.2.2.2.1,v3.2.2.2.2.2.1,v3.2.2.2.2.2.2.1,()) (List.replicate ((4097:Int)).toNat ([]:List UInt8)) ([112]:List UInt8)) fun v17=>
   Option.bind (oD k (v2.1,v2.2.1,()) ((v3.1.1,v3.1.2.1,()),v3.2.1,v3.2.2.1,v3.2.2.2.1,v3.2.2.2.2.1,v3.2.2.2.2.2.1,v3.2.2.2.2.2.2.1,()) ([([120]:List UInt8)]:List (List UInt8)) ([112]:List UInt8)) fun Z=>
   Option.bind (oD k (v2.1,v2.2.1,()) ((v3.1.1,v3.1.2.1,()),v3.2.1,v3.2.2.1,v3.2.2.2.1,v3.2.2.2.2.1,v3.2.2.2.2.2.1,v3.2.2.2.2.2.2.1,()) ([([98,97]:List UInt8),([97]:List UInt8),([116,97]:List UInt8),([112,97]:List UInt8)]:List (List UInt8)) ([116,97]:List UInt8)) fun la=>
   Option.bind (yi k ((v3.1.1,v3.1.2.1,()),v3.2.1,v3.2.2.1,v3.2.2.2.1,v3.2.2.2.2.1,v3.2.2.2.2.2.1,v3.2.2.2.2.2.2.1,()) ([112]:List UInt8)) fun v20=>
   JW v5 la v20 Z v17 Y W V U v12 R O v9 L ((v5.2 !=(0:Int))||(q.2 !=(4:Int)))
  )
def GA(k:Nat)(o:aB)(q:List UInt8):Option (Int×Int):=
 Option.bind (gi k (o.1,o.2.1,())) fun v1=>
 if v1 !=(0:Int)then
  some ((0:Int),v1)
 else
  (
   Option.bind (xj k o.1 q) fun v2=>
   if decide (v2<(0:Int))then
    some ((0:Int),(8:Int))
   else
    (
     Option.bind (aL (0<=v2)) fun _=>
     some (dt ((1:Int)*2^min (v2).toNat 32),(0:Int))
    )
  )
def w6(k:Nat)(o:aB)(l1:cz)(q:List UInt8):Option Int:=
 Option.bind (GA k (o.1,o.2.1,()) q) fun v1=>
 if v1.2 !=(0:Int)then
  some ((0:Int))
 else
  (
   if(dt (BitVec.toNat (BitVec.ofInt 32 l1.2.1&&&BitVec.ofInt 32 v1.1)))!=(0:Int)then
    some ((1:Int))
   else
    (
     if(dt (BitVec.toNat (BitVec.ofInt 32 l1.2.2.1&&&BitVec.ofInt 32 v1.1)))!=(0:Int)then
      some ((2:Int))
     else
      some ((0:Int))
    )
  )
def zO(o:Int->Int->Option Int)(i1:Int)(q:Int):Option Int:=
 o q (ai (i1+(1:Int)))
def PD(k:Nat)(o:aB)(R:aB)(q:cz)(L:cz)(U:Int->Int->Option Int)(O:Int)(i1:Int):Option Int:=
 if decide (i1<(List.length o.1:Int))then
  (
   Option.bind (aq o.1 i1) fun V=>
   Option.bind (w6 k (R.1,R.2.1,()) (q.1,q.2.1,q.2.2.1,()) V) fun v1=>
   Option.bind (w6 k (o.1,o.2.1,()) (L.1,L.2.1,L.2.2.1,()) V) fun v2=>
   if v1 !=v2 then
    zO U i1 (ai (O+(1:Int)))
   else
    zO U i1 O
  )
 else
  some (O)
def AO(k:Nat)(o:aB)(q:aB)(L:cz)(O:cz):Nat->Int->Int->Option Int
 |0,_,_=>none
 |n+1,R,i1=>PD k o q L O (AO k o q L O n) R i1
def AT(k:Nat)(o:aB)(q:aB)(L:cz)(O:cz):Option Int:=
 AO k q o L O k (0:Int) (0:Int)
def A9(o:Int->aF->aI->aF->aI->Option Bool)(i1:Int)(q:List (List UInt8))(L:List aw)(O:List (List UInt8))(R:List aw):Option Bool:=
 o (ai (i1+(1:Int))) q L O R
def y9(o:Bool->Int->Option Bool)(t9:Bool)(q:Int)(t10:Bool):Option Bool:=
 if t10 then
  some (false)
 else
  o t9 (ai (q+(1:Int)))
def S2(o:Bool->Int->Option Bool)(t9:Bool)(q:Int)(t11:Bool):Option Bool:=
 y9 o t9 q t11
def wE(o:Int)(q:Int)(L:Bool->Int->Option Bool)(O:Int)(t9:Bool):Option Bool:=
 if decide (o<q)then
  y9 L t9 O true
 else
  S2 L t9 O ((o==q)&&(!t9))
def QA(k:Nat)(o:List aw)(O:List (List UInt8))(R:List aw)(U:List (List UInt8))(L:hq)(V:Int)(la:bC)(i1:Int)(lb:Int->aF->aI->aF->aI->Option Bool)(W:Bool->Int->Option Bool)(lc:Bool)(q:Int):Option Bool:=
 if decide (q<(List.length o:Int))then
  (
   Option.bind (aq o q) fun Y=>
   Option.bind (AT k (O,R,()) (U,o,()) (L.1.1,L.1.2.1,L.1.2.2.1,()) Y) fun Z=>
   if lc then
    wE Z V W q true
   else
    (
     Option.bind (aq la.1 i1) fun ld=>
     wE Z V W q (Y.1==ld)
    )
  )
 else
  A9 lb i1 O R U o
def AZ(k:Nat)(o:List aw)(q:List (List UInt8))(L:List aw)(O:List (List UInt8))(R:hq)(U:Int)(V:bC)(i1:Int)(W:Int->aF->aI->aF->aI->Option Bool):Nat->Bool->Int->Option Bool
 |0,_,_=>none
 |n+1,Y,Z=>QA k o q L O R U V i1 W (AZ k o q L O R U V i1 W n) Y Z
def Ci(k:Nat)(v9:hq)(V:Int->aF->aI->aF->aI->Option Bool)(i1:Int)(q:List (List UInt8))(L:List aw)(O:List (List UInt8))(R:List aw)(o:hq)(U:hq)(W:bC)(t8:Bool):Option Bool:=
 if t8 then
  some (false)
 else
  (
   if v9.2==(0:Int)then
    A9 V i1 q L O R
   else
    (
     Option.bind (AT k (q,L,()) (O,R,()) (o.1.1,o.1.2.1,o.1.2.2.1,()) (U.1.1,U.1.2.1,U.1.2.2.1,())) fun Y=>
     AZ k R q L O o Y W i1 V k false (0:Int)
    )
  )
def B0(k:Nat)(v9:hq)(o:Int->aF->aI->aF->aI->Option Bool)(i1:Int)(q:List (List UInt8))(L:List aw)(O:List (List UInt8))(R:List aw)(U:hq)(V:hq)(W:bC)(t12:Bool):Option Bool:=
 Ci k v9 o i1 q L O R U V W t12
def RC(k:Nat)(v9:hq)(q:Int->aF->aI->aF->aI->Option Bool)(i1:Int)(L:List (List UInt8))(O:List aw)(R:List (List UInt8))(U:List aw)(V:hq)(W:hq)(o:bC)(v5:bC)(t7:Bool):Option Bool:=
 if t7 then
  Ci k v9 q i1 L O R U V W o true
 else
  (
   if v9.2==(0:Int)then
    (
     Option.bind (aq o.1 i1) fun Y=>
     Option.bind (aq v5.1 i1) fun Z=>
     B0 k v9 q i1 L O R U V W o (Y !=Z)
    )
   else
    B0 k v9 q i1 L O R U V W o false
  )
def Pu(k:Nat)(v5:bC)(i1:Int)(L:List (List UInt8))(O:List aw)(R:bC)(o:List (List UInt8))(q:List aw)(Y:Int->aF->aI->aF->aI->Option Bool)(t6:Bool):Option Bool:=
 if t6 then
  (
   Option.bind (aq v5.1 i1) fun U=>
   Option.bind (jf k (L,O,()) U) fun V=>
   Option.bind (aq R.1 i1) fun Z=>
   Option.bind (jf k (o,q,()) Z) fun W=>
   Option.bind (jf k (o,q,()) U) fun v9=>
   RC k v9 Y i1 L O o q V W R v5 ((V.2 !=(0:Int))||(W.2 !=(0:Int)))
  )
 else
  some (true)
def QX(k:Nat)(v5:bC)(o:bC)(q:Int->aF->aI->aF->aI->Option Bool)(i1:Int)(L:List (List UInt8))(O:List aw)(R:List (List UInt8))(U:List aw):Option Bool:=
 Pu k v5 i1 L O o R U q (decide (i1<(List.length v5.1:Int))&&(decide (i1<(12:Int))))
def yI(k:Nat)(v5:bC)(o:bC):Nat->Int->aF->aI->aF->aI->Option Bool
 |0,_,_,_,_,_=>none
 |n+1,i1,q,L,O,R=>QX k v5 o (yI k v5 o n) i1 q L O R
def L9(k:Nat)(v5:bC)(L:bC)(o:aB)(q:aB)(t5:Bool):Option Bool:=
 if t5 then
  some (false)
 else
  yI k v5 L k (0:Int) o.1 o.2.1 q.1 q.2.1
def Q2(k:Nat)(v5:bC)(o:bC)(q:aB)(L:aB)(t4:Bool):Option Bool:=
 L9 k v5 o q L (t4||((List.length v5.1:Int)!=(List.length o.1:Int)))
def J3(k:Nat)(o:aB)(O:List UInt8)(q:aB)(v2:ba)(t3:Bool):Option Bool:=
 if t3 then
  some (false)
 else
  (
   Option.bind (mF k (o.1,o.2.1,()) O) fun v5=>
   Option.bind (mF k (q.1,q.2.1,()) v2.1) fun L=>
   Q2 k v5 L o q ((v5.2 !=(0:Int))||(L.2 !=(0:Int)))
  )
def LG(k:Nat)(q:aB)(o:List UInt8)(L:aB)(v2:ba)(v4:ba)(t2:Bool):Option Bool:=
 J3 k q o L v2 (t2||(!(v4.1==o)))
def Tz(k:Nat)(o:aB)(q:List UInt8)(L:aB)(v2:ba)(v4:ba)(v3:ba)(t1:Bool):Option Bool:=
 LG k o q L v2 v4 (t1||(!(v3.1==v2.1)))
def TR(k:Nat)(o:aB)(q:aB)(L:List UInt8):Option Bool:=
 Option.bind (w3 k) fun v1=>
 if !v1 then
  some (false)
 else
  (
   if decide ((2000:Int)<(List.length L:Int))then
    some (true)
   else
    (
     Option.bind (ib k (o.1,o.2.1,()) (q.1,q.2.1,()) L) fun v2=>
     if v2.2 !=(0:Int)then
      some (v2.1==([]:List UInt8))
     else
      (
       Option.bind (ib k (q.1,q.2.1,()) (q.1,q.2.1,()) v2.1) fun v3=>
       Option.bind (ib k (o.1,o.2.1,()) (o.1,o.2.1,()) L) fun v4=>
       Tz k o L q v2 v4 v3 ((v3.2 !=(0:Int))||(v4.2 !=(0:Int)))
      )
    )
  )
end Go.Ev
namespace Go.Ev
open Go Go.Proofs Go.RowKit
set_option maxRecDepth 100000
set_option maxHeartbeats 1000000
theorem D1:(Tryz.prog.info? 319).map (·.size)=some 2:=by kernel_rfl
theorem JA:liesAt Tryz.prog Tryz.prog.depth 319 (2/Tryz.prog.cellsOf 319) 0 319 1=true:=by kernel_rfl
theorem NX(b:Nat)(w:World)(q:w.cell? ⟨b,0,none⟩=some (.pointer (some ⟨b,0,none⟩))):
  Calls Tryz.prog 209 #[.pointer (some ⟨b,0,none⟩)] w fun e w'=>e=.returned (.tuple #[])/\w'=w:=by
 obtain⟨j,o,_⟩:=Option.map_eq_some_iff.1 D1
 go_enter Tryz.func209,Tryz.ntmps209
 go_wp2
 rw[Lib.run_neq_ptr_same w _ Tryz.underlying317 o]
 go_wp2
 go_end0
 exact⟨rfl,rfl⟩
theorem OB(b:Nat)(w:World)(O:w.cell? ⟨b,0,none⟩=some (.pointer none))(o:w.shape? b=some (319,2))(R:w.frozen? ⟨b,0,none⟩=false):
  Calls Tryz.prog 209 #[.pointer (some ⟨b,0,none⟩)] w fun e w'=>e=.returned (.tuple #[])/\w'=w.setCell ⟨b,0,none⟩ (.pointer (some ⟨b,0,none⟩)):=by
 obtain⟨j,q,L⟩:=Option.map_eq_some_iff.1 D1
 go_enter Tryz.func209,Tryz.ntmps209
 go_wp2
 rw[Lib.run_to_unsafe w ⟨b,0,none⟩ Tryz.underlying317 Tryz.underlying337 q (by rw[L];decide) o (Nat.zero_lt_succ 1)]
 simp only[Result.andThen]
 rw[Oper.upon_value]
 go_wp2
 rw[run_callFunc_extern Tryz.func214 (by kernel_rfl) (by kernel_rfl) (by kernel_rfl) (e:=Extern.AbiNoEscape.same) (by kernel_rfl)]
 rw[Lib.run_noEscape]
 simp only[Result.andThen]
 rw[Oper.upon_value]
 go_wp2
 rw[Lib.run_from_unsafe w ⟨b,0,none⟩ Tryz.underlying337 Tryz.underlying317 q o JA]
 simp only[Result.andThen]
 rw[Oper.upon_value]
 go_wp2
 go_end0
 exact⟨rfl,rfl⟩
theorem Q3:Tryz.prog.cellsOf 5=1:=by kernel_rfl
theorem KL(b g cap:Nat)(p:Value)(cur:Array Value)(l:List UInt8)(w:World)(o:l≠[])(L:w.heap[b]? =some (.cells #[p,.slice (some ⟨g,0,none⟩) l.length cap] 319 (0,0)))
  (O:w.heap[g]? =some (.cells cur 5 (0,0)))(Y:l.length<=cap)(R:cap<=maxLen)(Z:cur.size=cap)(U:∀(j:Nat) (x:UInt8),l[j]? =some x->cur[j]? =some (Value.int .u8 (x.toNat:Int))):
  Calls Tryz.prog 200 #[.pointer (some ⟨b,0,none⟩)] w fun e w'=>e=.returned (.string ⟨l.toArray⟩)/\w'=w.drew.freeze ⟨g,0,none⟩ l.length:=by
 have la:0<l.length:=List.length_pos_iff.2 o
 have lb:w.drew.cell? ⟨b,1,none⟩=some (.slice (some ⟨g,0,none⟩) l.length cap):=by
  have:w.drew.heap[b]? =some (.cells #[p,.slice (some ⟨g,0,none⟩) l.length cap] 319 (0,0)):=L
  rw[Lib.cell_of_heap this];rfl
 have lc:(Builtin.unsafeSliceData_ #[134] 334 #[.slice (some ⟨g,0,none⟩) l.length cap]).run Tryz.prog w.drew=.ok (.pointer (some ⟨g,0,none⟩)) w.drew:=
  Lib.run_unsafeSliceData_row _ _ _ _ _ _ (by omega)
 have ld:(Builtin.unsafeString_ #[334,3] 9 #[.pointer (some ⟨g,0,none⟩),.int .i64 l.length]).run Tryz.prog w.drew=.ok (.string ⟨l.toArray⟩) (w.drew.freeze ⟨g,0,none⟩ l.length):=by
  have q:w.drew.heap[g]? =some (.cells cur 5 (0,0)):=O
  refine Lib.run_unsafeString_row w.drew 334 3 9 5 Tryz.underlying334 Q3 g cur.size (by simp[World.shape?,q]) l o (by omega) (by unfold maxLen at R;omega) ?_
  intro j x V
  have W:(⟨g,0,none⟩:Addr).add j=⟨g,0+j,none⟩:=by unfold Addr.add;split<;>simp_all
  rw[W,Lib.cell_of_heap q,Nat.zero_add]
  exact U j x V
 have mixed:Tryz.prog.follows .mixedOrders=true:=by kernel_rfl
 go_enter Tryz.func200,Tryz.ntmps200
 go_wp2
 go_region_o
 all_goals (go_wp2;go_ret;exact⟨rfl,rfl⟩)
theorem S6(b:Nat)(p:Value)(w:World)(o:w.heap[b]? =some (.cells #[p,.slice none 0 0] 319 (0,0))):
  Calls Tryz.prog 200 #[.pointer (some ⟨b,0,none⟩)] w fun e w'=>e=.returned (.string ⟨#[]⟩)/\Below w.heap.size w w':=by
 have q:w.drew.cell? ⟨b,1,none⟩=some (.slice none 0 0):=by
  have:w.drew.heap[b]? =some (.cells #[p,.slice none 0 0] 319 (0,0)):=o
  rw[Lib.cell_of_heap this];rfl
 have L:(Builtin.unsafeSliceData_ #[134] 334 #[.slice none 0 0]).run Tryz.prog w.drew=.ok (.pointer none) w.drew:=rfl
 have O:=Lib.run_unsafeString_none (P:=Tryz.prog) (w:=w.drew) 334 3 9
 have R:(ByteArray.empty)=⟨#[]⟩:=rfl
 have mixed:Tryz.prog.follows .mixedOrders=true:=by kernel_rfl
 go_enter Tryz.func200,Tryz.ntmps200
 go_wp2
 go_region_o
 all_goals (go_wp2;go_ret;exact⟨rfl,(Below.refl _ w).drew⟩)
theorem L8(b g cap:Nat)(p:Value)(w:World)(o:cap≠0)(q:w.heap[b]? =some (.cells #[p,.slice (some ⟨g,0,none⟩) 0 cap] 319 (0,0))):
  Calls Tryz.prog 200 #[.pointer (some ⟨b,0,none⟩)] w fun e w'=>e=.returned (.string ⟨#[]⟩)/\Below w.heap.size w w':=by
 have L:w.drew.cell? ⟨b,1,none⟩=some (.slice (some ⟨g,0,none⟩) 0 cap):=by
  have:w.drew.heap[b]? =some (.cells #[p,.slice (some ⟨g,0,none⟩) 0 cap] 319 (0,0)):=q
  rw[Lib.cell_of_heap this];rfl
 have O:(Builtin.unsafeSliceData_ #[134] 334 #[.slice (some ⟨g,0,none⟩) 0 cap]).run Tryz.prog w.drew=.ok (.pointer (some ⟨g,0,none⟩)) w.drew:=
  Lib.run_unsafeSliceData_row _ _ _ _ _ _ o
 have R:=Lib.run_unsafeString_none (P:=Tryz.prog) (w:=w.drew) 334 3 9
 have mixed:Tryz.prog.follows .mixedOrders=true:=by kernel_rfl
 go_enter Tryz.func200,Tryz.ntmps200
 go_wp2
 go_region_o
 all_goals (go_wp2;go_ret;exact⟨rfl,(Below.refl _ w).drew⟩)
theorem QO(b g:Nat)(p:Value)(cur:Array Value)(w:World)(o:w.heap[b]? =some (.cells #[p,.slice (some ⟨g,0,none⟩) 0 0] 319 (0,0)))(L:w.heap[g]? =some (.cells cur 5 (0,0))):
  Calls Tryz.prog 200 #[.pointer (some ⟨b,0,none⟩)] w fun e w'=>e=.returned (.string ⟨#[]⟩)/\Below w.heap.size w w':=by
 have O:b<w.heap.size:=(Array.getElem?_eq_some_iff.1 o).1
 have R:w.drew.heap[b]? =some (.cells #[p,.slice (some ⟨g,0,none⟩) 0 0] 319 (0,0)):=o
 have U:w.drew.heap[g]? =some (.cells cur 5 (0,0)):=L
 have q:w.drew.cell? ⟨b,1,none⟩=some (.slice (some ⟨g,0,none⟩) 0 0):=by
  rw[Lib.cell_of_heap R];rfl
 have c2:(w.drew.alloc (.view ⟨g,0,none⟩ 5)).cell? ⟨b,1,none⟩=some (.slice (some ⟨g,0,none⟩) 0 0):=by
  rw[World.cell?_of_block (w:=w.drew) (Below.heap_alloc w.drew _ b O)];exact q
 have Y:(Builtin.unsafeSliceData_ #[134] 334 #[.slice (some ⟨g,0,none⟩) 0 0]).run Tryz.prog w.drew=.ok (.pointer (some ⟨w.drew.heap.size,0,none⟩)) (w.drew.alloc (.view ⟨g,0,none⟩ 5)):=
  Lib.run_unsafeSliceData_zero w.drew _ _ _ Tryz.underlying334 _ _ (5,cur.size) (by simp[World.shape?,U])
 have Z:=Lib.run_unsafeString_none (P:=Tryz.prog) (w:=w.drew.alloc (.view ⟨g,0,none⟩ 5)) 334 3 9
 have la:=Lib.run_unsafeString_none (P:=Tryz.prog) (w:=(w.alloc (.view ⟨g,0,none⟩ 5)).drew) 334 3 9
 have c3:w.cell? ⟨b,1,none⟩=some (.slice (some ⟨g,0,none⟩) 0 0):=q
 have mixed:Tryz.prog.follows .mixedOrders=true:=by kernel_rfl
 have V:Below w.heap.size w (w.drew.alloc (.view ⟨g,0,none⟩ 5)):=⟨rfl,rfl,rfl,by simp,fun k W=>Below.heap_alloc w.drew _ k W⟩
 go_enter Tryz.func200,Tryz.ntmps200
 go_wp2
 go_region_o
 all_goals (go_wp2;go_ret;exact⟨rfl,V⟩)
/-! The builder's functions. -/
def jG(k:Nat):bP (List Int) Unit where
 n:=20
 S:=fun z=>⟨[(0,.ptr 20 0)],[(20,.cells [.eI 20,.row 21] 319)],[(21,⟨5,.int .u8,z⟩)]⟩
 bE:=fun z _=>⟨[],[(20,.cells [.eI 20,.row 21] 319)],[(21,⟨5,.int .u8,z⟩)]⟩
 ap:=fun _ _=>[]
 rel:=fun z y=>CO k z=some y
def o3(k:Nat):bP (List Int) (List UInt8) where
 n:=14
 S:=fun z=>⟨[(0,.ptr 14 0)],[(14,.cells [.eI 14,.row 15] 319)],[(15,⟨5,.int .u8,z⟩)]⟩
 bE:=fun _ _=>⟨[],[],[]⟩
 ap:=fun _ y=>[bg y]
 rel:=fun z y=>pP k z=some y
theorem Dp{n:Nat}{vs:List Value}{v:Value}(o:vs.length=1)(h:(vs.toArray++Array.replicate (n-vs.toArray.size) undef)[0]? =some v):vs=[v]:=by
 match vs,o with
 |[u],_=>
  rw[Array.getElem?_append_left (by simp)]at h
  simpa using h
theorem Qa{w:World}{b i:Nat}{cs:Array Value}{t:TypeId}(h:w.heap[b]? =some (.cells cs t (0,0)))(v:Value):(w.setCell ⟨b,i,none⟩ v).heap[b]? =some (.cells (cs.setIfInBounds i v) t (0,0)):=by
 simp[World.setCell,Array.getElem?_modify,h]
theorem SS{w:World}{b i k:Nat}(v:Value)(h:k≠b):(w.setCell ⟨b,i,none⟩ v).heap[k]? =w.heap[k]? :=by
 simp[World.setCell,Array.getElem?_modify,Ne.symm h]
theorem OI{G:World->Prop}(k:Nat):bZ Tryz.prog G 209 (jG k) where
 enters:=enters_of Tryz.func209 (by kernel_rfl) rfl
 calls:=by
  rintro cx ll W lm z y ln vs w lc ⟨m,O⟩
  obtain⟨v,ld,g,L,rfl⟩:=O.cv 0 (.ptr 20 0) List.mem_cons_self
  have le:=Dp (n:=20) lc ld
  subst le
  have Y:(20,bM.cells [.eI 20,.row 21] 319)∈((jG k).S z).ad:=List.mem_cons_self
  obtain⟨o,Z,lo,cells,R,lf⟩:=O.boxes _ _ Y
  have:o=g:=by rw[L]at Z;cases Z;rfl
  subst this
  obtain⟨p,u,lg,q,U⟩:∃p u,cells.toList=[p,u]/\(p=.pointer none\/p=m 20)/\u=m 21:=by
   match lp:cells.toList,lf with
   |[p,u],⟨q,U,_⟩=>exact⟨p,u,rfl,q,U⟩
  have lh:cells=#[p,u]:=Array.ext' (by rw[lg])
  subst lh
  have la:w.cell? ⟨o,0,none⟩=some p:=by rw[mz R];rfl
  have lq:∀i,i∈af.ids ((jG k).bE z y)↔i∈af.ids ((jG k).S z):=fun i=>Iff.rfl
  have lb:∀{w'},an cx m ((jG k).S z) ([Value.pointer (some ⟨o,0,none⟩)].toArray++Array.replicate ((jG k).n-[Value.pointer (some ⟨o,0,none⟩)].toArray.size) undef) w'->an cx m ((jG k).bE z y) ([Value.pointer (some ⟨o,0,none⟩)].toArray++Array.replicate ((jG k).n-[Value.pointer (some ⟨o,0,none⟩)].toArray.size) undef) w':=
   fun h=>h.weaken (fun i aM li=>by cases li) (fun p V=>V) (fun p V=>V) h.keys
  rcases q with q|q
  ·subst q
   refine(OB o w la (by simp[World.shape?,R]) (by simp[World.frozen?,R])).mono ?_
   rintro e w' ⟨rfl,rfl⟩
   refine⟨_,m,_,rfl,lb ?_,trivial⟩
   have lj:(w.setCell ⟨o,0,none⟩ (.pointer (some ⟨o,0,none⟩))).heap[o]? =some (.cells #[.pointer (some ⟨o,0,none⟩),u] 319 (0,0)):=Qa (i:=0) R _
   have W:Touch m w 20 (w.setCell ⟨o,0,none⟩ (.pointer (some ⟨o,0,none⟩))):=⟨⟨rfl,rfl,rfl,by simp[World.setCell],fun h=>False.elim h⟩,fun b lr lk=>SS _ (fun e=>lk (by rw[L,e];rfl))⟩
   have:=O.cL (c:=bM.cells [.eI 20,.row 21] 319) Y W (g:=o) L ⟨_,lj,.inr L.symm,U,trivial⟩
   exact this
  ·refine(NX o w (by rw[la,q,L])).mono ?_
   rintro e w' ⟨rfl,rfl⟩
   exact⟨_,m,_,rfl,lb O,trivial⟩
theorem LD{w:World}{b n k:Nat}(h:k≠b):(w.freeze ⟨b,0,none⟩ n).heap[k]? =w.heap[k]? :=by
 unfold World.freeze
 split
 ·rfl
 ·simp[Array.getElem?_modify,Ne.symm h]
theorem Tw{w:World}{b n:Nat}:(w.freeze ⟨b,0,none⟩ n).heap.size=w.heap.size/\(w.freeze ⟨b,0,none⟩ n).os=w.os/\(w.freeze ⟨b,0,none⟩ n).tape=w.tape/\(w.freeze ⟨b,0,none⟩ n).output=w.output:=by
 unfold World.freeze
 split<;>simp
theorem IX{G:World->Prop}(k:Nat):bZ Tryz.prog G 200 (o3 k) where
 enters:=enters_of Tryz.func200 (by kernel_rfl) rfl
 calls:=by
  rintro cx lM lN lO z y O vs w lq ⟨m,o⟩
  obtain⟨v,lr,g,ls,rfl⟩:=o.cv 0 (.ptr 14 0) List.mem_cons_self
  have lt:=Dp (n:=14) lq lr
  subst lt
  have lu:(14,bM.cells [.eI 14,.row 15] 319)∈((o3 k).S z).ad:=List.mem_cons_self
  obtain⟨R,lh,lP,cells,U,lv⟩:=o.boxes _ _ lu
  have:R=g:=by rw[ls]at lh;cases lh;rfl
  subst this
  obtain⟨p,u,lw,li,Y⟩:∃p u,cells.toList=[p,u]/\(p=.pointer none\/p=m 14)/\u=m 15:=by
   match lQ:cells.toList,lv with
   |[p,u],⟨li,Y,_⟩=>exact⟨p,u,rfl,li,Y⟩
  have lx:cells=#[p,u]:=Array.ext' (by rw[lw])
  subst lx
  have ly:(15,(⟨5,.int .u8,z⟩:cp))∈((o3 k).S z).rw:=List.mem_cons_self
  obtain⟨ld,lz,lA,lB⟩:=o.rows _ _ ly
  have lC:ld=z.map (Value.int .u8):=tg lB
  have O:pP k z=some y:=O
  unfold pP at O
  split at O
  case isFalse=>cases O
  rename_i lD
  cases O
  have done:∀{w':World} {T:Array Value},T.size=cx.n->Frame cx.w0 w' cx.X->an cx m ((o3 k).bE z (eQ z)) T w':=fun lE lF=>
   {size:=lE,frame:=lF,outer:=o.outer,cv:=(fun i aM q=>by cases q),boxes:=(fun i c q=>by cases q),rows:=(fun i c q=>by cases q),apart:=(fun i j q=>by cases q),keys:=List.nodup_nil,fixed:=(fun i c q=>by cases q),kept:=(fun i c q=>by cases q)}
  have iG:∀{w':World},Below w.heap.size w w'->Frame cx.w0 w' cx.X:=fun L=>o.frame.step ⟨L.os,L.tape,L.output,L.size,fun h=>False.elim h⟩ fun b lj _=>L.block b (Nat.lt_of_lt_of_le lj o.frame.size)
  have W:(eQ z).length=z.length:=by simp[eQ]
  have le:∀(w':World) (M:Nat->Prop),aN w' M m (.string ⟨#[]⟩) (bg (eQ [])):=fun w' M=>(dV (w:=w') (M:=M)).2 ⟨rfl,by decide⟩
  have lG:z.length<=maxLen->∀(w':World) (M:Nat->Prop),aN w' M m (.string ⟨(eQ z).toArray⟩) (bg (eQ z)):=fun o w' M=>(dV (w:=w') (M:=M)).2 ⟨rfl,by rw[W];exact o⟩
  rcases lz.2 with ⟨Z,lH⟩|⟨V,cap,cur,Z,_,lk,la,ll,lf,lg⟩
  ·rw[Y,Z]at U
   have lb:z=[]:=List.eq_nil_of_length_eq_zero lH
   refine(S6 R p w U).mono ?_
   rintro e w' ⟨rfl,L⟩
   subst lb
   exact⟨_,m,_,rfl,done o.size (iG L),le _ _⟩
  ·have la:z.length<=cap:=la
   have lf:cur.size=cap:=lf.trans (Nat.mul_one cap)
   have lg:cur.toList.take z.length=ld:=(congrArg (fun n=>List.take n cur.toList) (Nat.mul_one z.length).symm).trans lg
   rw[Y,Z]at U
   by_cases lb:z=[]
   ·subst lb
    by_cases lm:cap=0
    ·subst lm
     refine(QO R V p cur w U lk).mono ?_
     rintro e w' ⟨rfl,L⟩
     exact⟨_,m,_,rfl,done o.size (iG L),le _ _⟩
    ·refine(L8 R V cap p w lm U).mono ?_
     rintro e w' ⟨rfl,L⟩
     exact⟨_,m,_,rfl,done o.size (iG L),le _ _⟩
   ·have lI:eQ z≠[]:=by
     intro e
     have:=congrArg List.length e
     rw[W]at this
     exact lb (List.eq_nil_of_length_eq_zero this)
    have lJ:w.heap[R]? =some (.cells #[p,.slice (some ⟨V,0,none⟩) (eQ z).length cap] 319 (0,0)):=by rw[W];exact U
    refine(KL R V cap p cur (eQ z) w lI lJ lk (by rw[W];exact la) ll lf ?_).mono ?_
    ·intro j x ln
     have lK:j<z.length:=by rw[<-W];exact(List.getElem?_eq_some_iff.1 ln).1
     have lo:(ee (eQ z))[j]? =some (x.toNat:Int):=by unfold ee;rw[List.getElem?_map,ln];rfl
     rw[lD]at lo
     have lp:ld[j]? =some (Value.int .u8 (x.toNat:Int)):=by rw[lC,List.getElem?_map,lo];rfl
     rw[<-lg,List.getElem?_take,if_pos lK]at lp
     rw[<-Array.getElem?_toList]
     exact lp
    ·rintro e w' ⟨rfl,rfl⟩
     obtain⟨f1,f2,f3,f4⟩:=Tw (w:=w.drew) (b:=V) (n:=(eQ z).length)
     have lc:=lA V (by rw[Z];rfl)
     refine⟨_,m,_,rfl,done o.size (o.frame.step ⟨f2,f3,f4,by rw[f1];exact Nat.le_refl _,fun h=>False.elim h⟩ fun b lj lL=>?_),lG (Nat.le_trans la ll) _ _⟩
     refine LD (w:=w.drew) ?_
     rintro rfl
     rcases lc with lc|lc
     ·omega
     ·exact lL lc
end Go.Ev
namespace Go.Ev
open Go
variable [bV]
end Go.Ev
namespace Go.Ev
open Go Go.Proofs Go.Shelf Go.RowKit
open Go.Sort (flatK HoldsK putRowK)
set_option maxRecDepth 100000
def iU(w:World)(M:Nat->Prop)(t:ag):List (List Value)->List t.el->Prop
 |[],[]=>True
 |c::d,x::xs=>aK w M t c x/\iU w M t d xs
 |_,_=>False
theorem wR{w:World}{M:Nat->Prop}{t:ag}:∀{cells:List Value} {xs:List t.el},bL (aK w M t) cells xs->∃d:List (List Value),d.flatten=cells/\iU w M t d xs
 |cells,[],h=>⟨[],by rw[show cells=[]from h];rfl,trivial⟩
 |cells,x::xs,⟨o,c2,e,q,L⟩=>by
  obtain⟨d,aj,O⟩:=wR L
  exact⟨o::d,by rw[List.flatten_cons,aj,e],q,O⟩
theorem ID{w:World}{M:Nat->Prop}{t:ag}:∀{d:List (List Value)} {xs:List t.el},iU w M t d xs->bL (aK w M t) d.flatten xs
 |[],[],_=>rfl
 |[],_::_,h=>h.elim
 |_::_,[],h=>h.elim
 |c::d,x::xs,⟨o,q⟩=>⟨c,d.flatten,rfl,o,ID q⟩
theorem E5{w:World}{M:Nat->Prop}{t:ag}:∀{d e:List (List Value)} {xs o:List t.el},iU w M t d xs->iU w M t e o->iU w M t (d++e) (xs++o)
 |[],_,[],_,_,h=>h
 |[],_,_::_,_,h,_=>h.elim
 |_::_,_,[],_,h,_=>h.elim
 |_::_,_,_::_,_,⟨q,L⟩,h=>⟨q,E5 L h⟩
theorem DT{w:World}{M:Nat->Prop}{t:ag}:∀{d:List (List Value)} {xs:List t.el},iU w M t d xs->iU w M t d.reverse xs.reverse
 |[],[],_=>trivial
 |[],_::_,h=>h.elim
 |_::_,[],h=>h.elim
 |c::d,x::xs,⟨o,q⟩=>by
  rw[List.reverse_cons,List.reverse_cons]
  exact E5 (DT q) ⟨o,trivial⟩
theorem w7{w:World}{M:Nat->Prop}{t:ag}:∀{d:List (List Value)} {xs:List t.el},iU w M t d xs->d.length=xs.length/\∀c∈d,c.length=t.cells/\∀v∈c,v.oneCell'=true
 |[],[],_=>⟨rfl,fun c h=>by cases h⟩
 |[],_::_,h=>h.elim
 |_::_,[],h=>h.elim
 |c::d,x::xs,⟨q,L⟩=>by
  obtain⟨O,R⟩:=w7 L
  refine⟨by simp[O],fun c' o=>?_⟩
  rcases List.mem_cons.1 o with rfl|o
  ·exact⟨b6 t q,gh t q⟩
  ·exact R c' o
def iX(k:Nat)(c:List Value):List Value:=if c.length=k/\(c.all fun v=>v.oneCell')=true then c else List.replicate k (.int .i64 0)
theorem L5(k:Nat)(c:List Value):(iX k c).length=k:=by
 unfold iX
 split
 ·rename_i h;exact h.1
 ·simp
theorem Uc(k:Nat)(c:List Value):∀v∈iX k c,v.oneCell'=true:=by
 unfold iX
 split
 ·rename_i h;exact List.all_eq_true.1 h.2
 ·intro v o
  rw[List.eq_of_mem_replicate o]
  rfl
theorem RI{k:Nat}{c:List Value}(h:c.length=k)(o:∀v∈c,v.oneCell'=true):iX k c=c:=if_pos ⟨h,List.all_eq_true.2 o⟩
theorem DD{k:Nat}:∀{d:List (List Value)},(∀c∈d,c.length=k)->∀t,t<d.length*k->d.flatten[t]? =((d[t/k]?).getD [])[t %k]?
 |[],_,t,h=>by simp at h
 |c::d,aj,t,h=>by
  have o:=aj c List.mem_cons_self
  have O:0<k:=by
   rcases Nat.eq_zero_or_pos k with q|q
   ·subst q;simp at h
   ·exact q
  rw[List.flatten_cons]
  by_cases L:t<k
  ·rw[List.getElem?_append_left (by omega),Nat.div_eq_of_lt L,Nat.mod_eq_of_lt L]
   rfl
  ·have R:t/k=(t-k)/k+1:=by rw[<-Nat.add_div_right _ O];congr 1;omega
   have U:t %k=(t-k) %k:=by rw[<-Nat.add_mod_right (t-k) k];congr 1;omega
   rw[List.getElem?_append_right (by omega),o,DD (fun c o=>aj c (List.mem_cons_of_mem _ o)) (t-k) (by rw[List.length_cons,Nat.succ_mul]at h;omega),R,U]
   rfl
theorem F9{k:Nat}{d:List (List Value)}(aj:∀c∈d,c.length=k/\∀v∈c,v.oneCell'=true):flatK (iX k) k d.toArray=d.flatten.toArray:=by
 have U:d.flatten.length=d.length*k:=by
  induction d with
  |nil=>simp
  |cons c d V=>
   rw[List.flatten_cons,List.length_append,(aj c List.mem_cons_self).1,V fun c L=>aj c (List.mem_cons_of_mem _ L),List.length_cons,Nat.succ_mul]
   omega
 apply Array.ext'
 apply List.ext_getElem?
 intro t
 by_cases o:t<d.length*k
 ·have W:=DD (fun c L=>(aj c L).1) t o
  have Y:0<k:=by
   rcases Nat.eq_zero_or_pos k with O|O
   ·subst O;simp at o
   ·exact O
  have aY:t/k<d.length:=Nat.div_lt_of_lt_mul (by rw[Nat.mul_comm];exact o)
  have R:t %k<k:=Nat.mod_lt _ Y
  have q:=aj d[t/k] (List.getElem_mem aY)
  rw[show(d.flatten.toArray).toList=d.flatten from rfl,W,Array.getElem?_toList]
  unfold flatK
  rw[Array.getElem?_map,Array.getElem?_range]
  have:t<d.toArray.size*k:=by simpa using o
  rw[if_pos this]
  simp only[Option.map_some]
  rw[List.getElem?_eq_getElem aY,Option.getD_some]
  have Z:d.toArray[t/k]! =d[t/k]:=by simp[aY]
  rw[Z,RI q.1 q.2,List.getElem?_eq_getElem (by rw[q.1];exact R)]
  simp[q.1,R]
 ·rw[List.getElem?_eq_none (by simp[flatK];omega),List.getElem?_eq_none (by simpa[U]using o)]
theorem Gx(w:World)(g b:Nat)(f:Array Value->Array Value):(Go.Sort.mapBlock w g f).heap[b]? =if g=b then(w.heap[b]?).map (Go.Sort.onCells f)else w.heap[b]? :=by
 unfold Go.Sort.mapBlock
 exact Array.getElem?_modify
theorem If{w:World}{M:Nat->Prop}{t:ag}{e g cap n:Nat}{xs:List t.el}{cells:List Value}{d:List (List Value)}(lh:0<t.cells)(V:w.ownsRow 0 e t.cells (.slice (some ⟨g,0,none⟩) xs.length cap) xs.length cells)(aj:d.flatten=cells)(W:iU w M t d xs):
  ∃u L,(Ending.returned (.tuple #[]))=.returned u/\Same w (Go.Sort.putRow id (Sort.ahead w n) g 0 d.reverse.flatten.toArray)/\(∀b,b<w.heap.size->aP (.slice (some ⟨g,0,none⟩) xs.length cap)≠some b->(Go.Sort.putRow id (Sort.ahead w n) g 0 d.reverse.flatten.toArray).heap[b]? =w.heap[b]?)/\
   (Go.Sort.putRow id (Sort.ahead w n) g 0 d.reverse.flatten.toArray).ownsRow 0 e t.cells (.slice (some ⟨g,0,none⟩) xs.length cap) (List.length xs.reverse) L/\bL (aK w M t) L xs.reverse:=by
 rcases V.2 with ⟨o,_⟩|⟨li,lj,cur,o,Y,Z,O,la,R,lk⟩
 ·cases o
 cases o
 have U:=ID (DT W)
 have lb:d.reverse.flatten.length=xs.length*t.cells:=by
  rw[hO (fun _ _=>b6 t) _ _ U,List.length_reverse]
 have ll:xs.length*t.cells<=cur.size:=by rw[R];exact Nat.mul_le_mul_right _ O
 have lc:(Go.Sort.putRow id (Sort.ahead w n) g 0 d.reverse.flatten.toArray).heap[g]? =some (.cells (Go.Sort.putCells id 0 d.reverse.flatten.toArray cur) e (0,0)):=by
  unfold Go.Sort.putRow
  rw[Gx,if_pos rfl]
  have:(Sort.ahead w n).heap[g]? =some (.cells cur e (0,0)):=Z
  rw[this]
  rfl
 refine⟨_,d.reverse.flatten,rfl,⟨rfl,rfl,rfl,?_,fun _=>Nat.le_add_right _ _⟩,?_,⟨?_,.inr ⟨g,cap,Go.Sort.putCells id 0 d.reverse.flatten.toArray cur,by rw[List.length_reverse],Y,lc,by rw[List.length_reverse];exact O,la,?_,?_⟩⟩,U⟩
 ·show w.heap.size<=_
  rw[Go.Sort.size_putRow]
  exact Nat.le_refl _
 ·intro b lm ld
  have le:b≠g:=fun e=>ld (by rw[e];rfl)
  unfold Go.Sort.putRow
  rw[Gx,if_neg le.symm]
  rfl
 ·rw[lb,List.length_reverse]
 ·rw[<-R]
  simp[Go.Sort.putCells]
 ·rw[List.length_reverse]
  apply List.ext_getElem?
  intro j
  by_cases lf:j<xs.length*t.cells
  ·have lg:j<cur.size:=by omega
   have q:j<d.reverse.flatten.length:=by omega
   rw[List.getElem?_take_of_lt lf,Array.getElem?_toList]
   unfold Go.Sort.putCells
   rw[Array.getElem?_mapIdx,Array.getElem?_eq_getElem lg,Option.map_some,if_pos ⟨Nat.zero_le _,by simpa using q⟩,List.getElem?_eq_getElem q]
   simp only[Nat.sub_zero,id]
   rw[getElem!_pos _ j (by simpa using q)]
   simp
  ·rw[List.getElem?_eq_none (by simp;omega),List.getElem?_eq_none (by omega)]
theorem held{w:World}{M:Nat->Prop}{t:ag}{e g cap:Nat}{xs:List t.el}{cells:List Value}(q:w.ownsRow 0 e t.cells (.slice (some ⟨g,0,none⟩) xs.length cap) xs.length cells):Go.Sort.Holds id w g 0 cells.toArray:=by
 rcases q.2 with ⟨o,_⟩|⟨V,W,cur,o,Y,R,Z,la,lb,lc⟩
 ·cases o
 cases o
 intro j L
 have U:j<cells.length:=by simpa using L
 rw[Nat.zero_add]
 refine⟨?_,by simp[World.frozen?,R]⟩
 have O:=q.cells (g:=g) rfl j cells[j] (List.getElem?_eq_getElem U)
 rw[fR,Nat.zero_add]at O
 rw[O,getElem!_pos _ j L]
 rfl
theorem Hd{P:Program}{G:World->Prop}{ρ:Ren}(L:SlLaysE0.n35 P ρ){f e:Nat}{t:ag}(Y:ρ.f 35=f)(Z:ρ.t 23=e)(la:Nat.blt 0 t.cells=true)(lb:∀w,(isAgg e).run P w=.ok true w)(lc:∀w,(Go.sizeOf e).run P w=.ok t.cells w)
  (ld:∀args w,(callFunc f args).run P w=.ok (.enter f args) w):qx P G f e t (fun xs O=>O=xs.reverse) where
 enters:=ld
 calls:=by
  rintro w M v xs O cells _ rfl o R
  subst Y
  subst Z
  rcases o.2 with ⟨q,le⟩|⟨g,cap,cur,q,ll,lm,lf,lg,ln,lo⟩
  ·have lh:xs=[]:=List.length_eq_zero_iff.1 le
   subst lh
   subst q
   refine(AnyQ.slices_Reverse_empty L none 0 w).mono ?_
   rintro e w' ⟨rfl,rfl⟩
   exact⟨_,cells,rfl,⟨rfl,rfl,rfl,Nat.le_refl _,fun _=>Nat.le_refl _⟩,fun _ _ _=>rfl,o,R⟩
  ·subst q
   obtain⟨d,aj,U⟩:=wR R
   obtain⟨V,W⟩:=w7 U
   have li:HoldsK (iX t.cells) t.cells w g 0 d.toArray:=by
    show Go.Sort.Holds id w g 0 (flatK (iX t.cells) t.cells d.toArray)
    rw[F9 W,aj]
    exact held (M:=M) o
   have:=AnyQ.slices_Reverse L t.cells lb lc (iX t.cells) (L5 _) (Uc _) g 0 cap d.toArray w li (by simp[V];exact Nat.le_trans lf lg)
   rw[show d.toArray.size=xs.length from by simp[V]]at this
   refine this.mono ?_
   rintro e w' ⟨rfl,n,rfl⟩
   have lj:putRowK (iX t.cells) t.cells (Sort.ahead w n) g 0 d.toArray.reverse=Go.Sort.putRow id (Sort.ahead w n) g 0 d.reverse.flatten.toArray:=by
    unfold putRowK
    rw[show d.toArray.reverse=d.reverse.toArray from by simp,F9 fun c lk=>W c (List.mem_reverse.1 lk)]
   rw[lj]
   exact If (cw la) o aj U
def ng(v:Value):Value:=if v.oneCell'=true then v else .int .i64 0
theorem FQ{v:Value}(h:v.oneCell'=true):ng v=v:=if_pos h
theorem Q9(v:Value):(ng v).oneCell'=true:=by
 unfold ng
 split
 ·assumption
 ·rfl
theorem single{d:List (List Value)}(h:∀c∈d,c.length=1):d.reverse.flatten=d.flatten.reverse:=by
 induction d with
 |nil=>rfl
 |cons c d o=>
  obtain⟨v,rfl⟩:=List.length_eq_one_iff.1 (h c List.mem_cons_self)
  rw[List.reverse_cons,List.flatten_append,o fun c q=>h c (List.mem_cons_of_mem _ q)]
  simp
theorem GQ{P:Program}{G:World->Prop}{ρ:Ren}(O:SlLaysE.n35 P ρ){f e:Nat}{t:ag}(lb:ρ.f 35=f)(L:Nat.beq t.cells 1=true)
  (lc:∀args w,(callFunc f args).run P w=.ok (.enter f args) w):qx P G f e t (fun xs R=>R=xs.reverse) where
 enters:=lc
 calls:=by
  rintro w M v xs R cells _ rfl q U
  subst lb
  have L:=Nat.eq_of_beq_eq_true L
  rcases q.2 with ⟨o,ld⟩|⟨g,cap,cur,o,lq,lr,le,lf,ls,lt⟩
  ·have lg:xs=[]:=List.length_eq_zero_iff.1 ld
   subst lg
   subst o
   refine(AnyE.slices_Reverse_empty O none 0 w).mono ?_
   rintro e w' ⟨rfl,rfl⟩
   exact⟨_,cells,rfl,⟨rfl,rfl,rfl,Nat.le_refl _,fun _=>Nat.le_refl _⟩,fun _ _ _=>rfl,q,U⟩
  ·subst o
   obtain⟨d,aj,V⟩:=wR U
   obtain⟨lu,W⟩:=w7 V
   have lh:∀c∈d,c.length=1:=fun c li=>by rw[(W c li).1,L]
   have Y:∀v∈cells,v.oneCell'=true:=fun v o=>by
    rw[<-aj]at o
    obtain⟨c,lj,lk⟩:=List.mem_flatten.1 o
    exact(W c lj).2 v lk
   have Z:cells.length=xs.length:=by rw[q.1,L,Nat.mul_one]
   have ll:Go.Sort.Holds id w g 0 cells.toArray:=held (M:=M) q
   have lm:Go.Sort.Holds ng w g 0 cells.toArray:=fun j la=>by
    obtain⟨ln,a2⟩:=ll j la
    refine⟨?_,a2⟩
    rw[ln,FQ]
    ·rfl
    ·rw[getElem!_pos _ j la];exact Y _ (by simp)
   have:=AnyE.slices_Reverse O ng Q9 g 0 cap cells w lm (by rw[Z];exact Nat.le_trans le lf)
   rw[Z]at this
   refine this.mono ?_
   rintro lv w' ⟨rfl,n,rfl⟩
   have lo:Go.Sort.putRow ng (Sort.ahead w n) g 0 cells.reverse.toArray=Go.Sort.putRow id (Sort.ahead w n) g 0 d.reverse.flatten.toArray:=by
    rw[single lh,aj]
    unfold Go.Sort.putRow Go.Sort.putCells
    congr 1
    funext c
    congr 1
    funext k x
    split
    ·rename_i lw
     have lp:k-0<cells.reverse.toArray.size:=by omega
     rw[FQ]
     ·rfl
     ·rw[getElem!_pos cells.reverse.toArray (k-0) lp]
      exact Y _ (List.mem_reverse.1 (by simp))
    ·rfl
   rw[lo]
   exact If (by omega) q aj V
end Go.Ev
namespace Go.Ev
open Go Go.Proofs Go.Shelf Go.RowKit
set_option maxRecDepth 100000
def PO:Ren:=⟨fun|35=>207|n=>n,fun|22=>69|23=>3|3=>3|4=>4|0=>0|n=>n,fun|n=>n⟩
theorem MH:SlLaysE.n35 Tryz.prog PO:={
 mixed:=by kernel_rfl
 f35:=⟨Tryz.f207.name,by kernel_rfl,Tryz.func207.trans (congrArg some (by kernel_rfl))⟩
 t0:=Tryz.underlying0
 a0:=Tryz.isAgg0
 z0:=Tryz.sizeOf0
 v0:=Tryz.zeroValue0
 t3:=Tryz.underlying3
 a3:=Tryz.isAgg3
 z3:=Tryz.sizeOf3
 v3:=Tryz.zeroValue3
 t4:=Tryz.underlying4
 a4:=Tryz.isAgg4
 z4:=Tryz.sizeOf4
 v4:=Tryz.zeroValue4
 t22:=Tryz.underlying69
 a22:=Tryz.isAgg69
 z22:=Tryz.sizeOf69
 v22:=Tryz.zeroValue69
 a23:=Tryz.isAgg3
 z23:=Tryz.sizeOf3}
noncomputable def N4{G:World->Prop}:oA Tryz.prog G:=⟨207,3,(.int .i64),List.reverse,GQ MH rfl (by kernel_rfl) (enters_of Tryz.func207 (by kernel_rfl) rfl)⟩
def Oz:Ren:=⟨fun|35=>131|n=>n,fun|22=>61|23=>21|3=>3|4=>4|0=>0|n=>n,fun|n=>n⟩
theorem Pp:SlLaysE.n35 Tryz.prog Oz:={
 mixed:=by kernel_rfl
 f35:=⟨Tryz.f131.name,by kernel_rfl,Tryz.func131.trans (congrArg some (by kernel_rfl))⟩
 t0:=Tryz.underlying0
 a0:=Tryz.isAgg0
 z0:=Tryz.sizeOf0
 v0:=Tryz.zeroValue0
 t3:=Tryz.underlying3
 a3:=Tryz.isAgg3
 z3:=Tryz.sizeOf3
 v3:=Tryz.zeroValue3
 t4:=Tryz.underlying4
 a4:=Tryz.isAgg4
 z4:=Tryz.sizeOf4
 v4:=Tryz.zeroValue4
 t22:=Tryz.underlying61
 a22:=Tryz.isAgg61
 z22:=Tryz.sizeOf61
 v22:=Tryz.zeroValue61
 a23:=Tryz.isAgg21
 z23:=Tryz.sizeOf21}
noncomputable def rt{G:World->Prop}:oA Tryz.prog G:=⟨131,21,(.int .i32),List.reverse,GQ Pp rfl (by kernel_rfl) (enters_of Tryz.func131 (by kernel_rfl) rfl)⟩
def OF:Ren:=⟨fun|35=>167|n=>n,fun|22=>54|23=>125|3=>3|4=>4|0=>0|n=>n,fun|n=>n⟩
theorem IR:SlLaysE0.n35 Tryz.prog OF:={
 mixed:=by kernel_rfl
 f35:=⟨Tryz.f167.name,by kernel_rfl,Tryz.func167.trans (congrArg some (by kernel_rfl))⟩
 t0:=Tryz.underlying0
 a0:=Tryz.isAgg0
 z0:=Tryz.sizeOf0
 v0:=Tryz.zeroValue0
 t3:=Tryz.underlying3
 a3:=Tryz.isAgg3
 z3:=Tryz.sizeOf3
 v3:=Tryz.zeroValue3
 t4:=Tryz.underlying4
 a4:=Tryz.isAgg4
 z4:=Tryz.sizeOf4
 v4:=Tryz.zeroValue4
 t22:=Tryz.underlying54
 a22:=Tryz.isAgg54
 z22:=Tryz.sizeOf54
 v22:=Tryz.zeroValue54}
noncomputable def T4{G:World->Prop}:oA Tryz.prog G:=⟨167,125,(.pair (.int .i32) (.pair (.int .u32) (.pair (.int .u32) .unit))),List.reverse,Hd IR rfl rfl (by kernel_rfl) Tryz.isAgg125 Tryz.sizeOf125 (enters_of Tryz.func167 (by kernel_rfl) rfl)⟩
def QD:Ren:=⟨fun|35=>168|n=>n,fun|22=>55|23=>127|3=>3|4=>4|0=>0|n=>n,fun|n=>n⟩
theorem J7:SlLaysE0.n35 Tryz.prog QD:={
 mixed:=by kernel_rfl
 f35:=⟨Tryz.f168.name,by kernel_rfl,Tryz.func168.trans (congrArg some (by kernel_rfl))⟩
 t0:=Tryz.underlying0
 a0:=Tryz.isAgg0
 z0:=Tryz.sizeOf0
 v0:=Tryz.zeroValue0
 t3:=Tryz.underlying3
 a3:=Tryz.isAgg3
 z3:=Tryz.sizeOf3
 v3:=Tryz.zeroValue3
 t4:=Tryz.underlying4
 a4:=Tryz.isAgg4
 z4:=Tryz.sizeOf4
 v4:=Tryz.zeroValue4
 t22:=Tryz.underlying55
 a22:=Tryz.isAgg55
 z22:=Tryz.sizeOf55
 v22:=Tryz.zeroValue55}
noncomputable def PR{G:World->Prop}:oA Tryz.prog G:=⟨168,127,(.pair (.int .i32) (.pair (.int .i64) (.pair (.int .u32) (.pair (.int .u32) .unit)))),List.reverse,Hd J7 rfl rfl (by kernel_rfl) Tryz.isAgg127 Tryz.sizeOf127 (enters_of Tryz.func168 (by kernel_rfl) rfl)⟩
end Go.Ev
namespace Go.Ev
open Go Go.Proofs
noncomputable def Tp{G:World->Prop}(k:Nat):cn Tryz.prog G (List Int) Unit:=⟨209,jG k,fun st=>bp st [.rw 21 5 (.int .u8)],fun z=>CO k z,OI k,fun _ _ h=>h⟩
noncomputable def RU{G:World->Prop}(k:Nat):cn Tryz.prog G (List Int) (List UInt8):=⟨200,o3 k,fun st=>bp st [.rw 15 5 (.int .u8)],fun z=>pP k z,IX k,fun _ _ h=>h⟩
end Go.Ev
namespace Go.Ev
open Go Go.Proofs
noncomputable def C8(k:Nat):aQ:=⟨[.str],[.int .i32,.int .i64],[],fun s=>utf8_DecodeRuneInString k s⟩
noncomputable def C3(k:Nat):aD Tryz.prog am:=⟨158,C8 k,NQ (Ly k) (C8 k) fun x y h=>h⟩
end Go.Ev
namespace Go.Ev
open Go
def D8:Nat:=80000
set_option maxRecDepth 100000 in
theorem Nk:AX D8=some true:=by decide+kernel
end Go.Ev
namespace Go.Ev
open Go Go.RowKit Go.WideShapes
variable [bV]
end Go.Ev
