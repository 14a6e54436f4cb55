/- Shallow functions, by program. -/
import Derived.Test.YteopobecmacgdaaGreatDoorMM4
import Derived.Test.YteopobecmacgdaaGreatDoorMM6
import Derived.Test.YteopobecmacgdaaGreatDoorMM7
import Derived.Test.YteopobecmacgdaaGreatDoorMM8
import Derived.Test.YteopobecmacgdaaGreatDoorProg
import Derived.Test.YteopobecmacgdaaGreatDoorMM5
import Derived.WalkKit
import Derived.KernelRfl
import Derived.Lib.Strings
import Derived.Lib.Walk
import Derived.Lib.Builder
import Derived.Lib.UnsafeStr
import Derived.Laws.Externs
import Derived.Shelf.RegionOpenPlain
import Derived.Shelf.SlicesE.Reverse
import Derived.Shelf.SlicesQ.Reverse
import Derived.Lib.DecodeN
import Derived.Test.YteopobecmacgdaaGreatDoorTyA
set_option linter.unusedSectionVars false
set_option linter.unusedVariables false
set_option linter.unusedSimpArgs false
namespace Go.Ev
open Go
set_option linter.unusedVariables false
def AX(k:Nat):Option aC:=
 some ((([([118,111,105,99,101,100]:List UInt8),([118,111,119,101,108]:List UInt8)]:List (List UInt8)),([((112:Int),(0:Int),(3:Int),()),((98:Int),(1:Int),(2:Int),()),((97:Int),(3:Int),(0:Int),())]:List aw),()))
def DN(k:Nat):Option eE:=
 some (((([([118,111,119,101,108]:List UInt8),([110,97,115,97,108]:List UInt8)]:List (List UInt8)),([((97:Int),(1:Int),(2:Int),()),((116:Int),(0:Int),(3:Int),()),((110:Int),(2:Int),(1:Int),())]:List aw),()),(1:Int),(0:Int),([]:List mc),([]:List mn),([(([]:List UInt8),([((116:Int),(0:Int),(0:Int),())]:List aw),([((110:Int),(0:Int),(0:Int),(0:Int),())]:List bG),(([((1:Int),(0:Int),(0:Int),(0:Int),([]:List (Int)),())]:List aD),()),(([((2:Int),(97:Int),(0:Int),(0:Int),([]:List (Int)),())]:List aD),()),(1:Int),false,()),(([]:List UInt8),([((110:Int),(0:Int),(0:Int),())]:List aw),([]:List bG),(([((1:Int),(0:Int),(0:Int),(0:Int),([]:List (Int)),())]:List aD),()),(([((5:Int),(0:Int),(0:Int),(0:Int),([]:List (Int)),())]:List aD),()),(1:Int),false,())]:List fA),([]:List (List UInt8)),()))
def kY(k:Nat)(o:Int)(c2:List UInt8):Option (List UInt8):=
 if o !=(0:Int)then
  some ([]:List UInt8)
 else
  some c2
def pH(k:Nat)(o:cz)(t1:cz)(t2:cz):Option Int:=
 if o.1==t1.1 then
  some ((-1:Int))
 else
  (
   Option.bind (rB k (cA (BitVec.toNat (BitVec.ofInt 32 (cA (BitVec.toNat (BitVec.ofInt 32 o.2.1^^^BitVec.ofInt 32 t2.2.1)))|||BitVec.ofInt 32 (cA (BitVec.toNat (BitVec.ofInt 32 o.2.2.1^^^BitVec.ofInt 32 t2.2.2.1))))))) fun v1=>
   some (v1)
  )
def nN(k:Nat)(o:cz)(q:cz)(L:Int)(c2:Int)(c3:Int)(O:Int)(c5:Int)(R:Int):Option Int:=
 Option.bind (pH k (o.1,o.2.1,o.2.2.1,()) (L,c2,c3,()) (O,c5,R,())) fun v1=>
 Option.bind (pH k (q.1,q.2.1,q.2.2.1,()) (L,c2,c3,()) (O,c5,R,())) fun v2=>
 some (aj (v1-v2))
def tf(o:Int->Int->Int->Int->Option cz)(i1:Int)(m4:Int)(m5:Int)(m6:Int):Option cz:=
 o (aj (i1+(1:Int))) m4 m5 m6
def Kq(k:Nat)(q:List aw)(O:Int)(c2:Int)(c3:Int)(R:Int)(c5:Int)(U:Int)(L:Int->Int->Int->Int->Option cz)(i1:Int)(m1:Int)(m2:Int)(m3:Int):Option cz:=
 if decide (i1<(List.length q:Int))then
  (
   Option.bind (aq q i1) fun o=>
   Option.bind (nN k o (m1,m2,m3,()) O c2 c3 R c5 U) fun v1=>
   if decide (v1<(0:Int))then
    tf L i1 o.1 o.2.1 o.2.2.1
   else
    tf L i1 m1 m2 m3
  )
 else
  some (m1,m2,m3,())
def qI(k:Nat)(o:List aw)(q:Int)(c2:Int)(c3:Int)(L:Int)(c5:Int)(O:Int):Nat->Int->Int->Int->Int->Option cz
 |0,_,_,_,_=>none
 |n+1,i1,m1,m2,m3=>Kq k o q c2 c3 L c5 O (qI k o q c2 c3 L c5 O n) i1 m1 m2 m3
def nH(k:Nat)(o:List aw)(L:Int)(c2:Int)(c3:Int)(O:Int)(c5:Int)(R:Int):Option cz:=
 if decide ((List.length o:Int)<(1:Int))then
  none
 else
  (
   Option.bind (aq o (0:Int)) fun q=>
   qI k o L c2 c3 O c5 R k (1:Int) q.1 q.2.1 q.2.2.1
  )
def vn(o:Int->Int->Int->Option fP)(t4:Int)(q:Int)(L:Int):Option fP:=
 o (aj (t4+(1:Int))) q L
def K7(k:Nat)(L:List (List UInt8))(m2:List bc)(o:cz)(U:List aw)(aP:Int->aG->aJ->aG->aJ->Unit->nB->de->Option fP)(t2:Int)(Y:List aw)(Z:List (List UInt8))(t3:Unit)(m3:List (Int×Int))(W:Int->Int->Int->Option fP)(t4:Int)(O:Int)(R:Int):Option fP:=
 if decide (t4<(List.length L:Int))then
  (
   Option.bind (aq L t4) fun q=>
   if !((bL (aQ .str) m2 q).isSome)then
    vn W t4 O R
   else
    (
     Option.bind (aL (0<=t4)) fun _=>
     Option.bind (aL (0<=((bL (aQ .str) m2 q).getD (0:Int)))) fun _=>
     Option.bind (aL (0<=t4)) fun _=>
     Option.bind (aL (0<=((bL (aQ .str) m2 q).getD (0:Int)))) fun _=>
     vn W t4 (cA (BitVec.toNat (BitVec.ofInt 32 O|||BitVec.ofInt 32 (cA ((cA (BitVec.toNat (BitVec.ofInt 32 (Int.fdiv o.2.1 (2^min (t4).toNat 32))&&&BitVec.ofInt 32 (1:Int))))*2^min ((bL (aQ .str) m2 q).getD (0:Int)).toNat 32))))) (cA (BitVec.toNat (BitVec.ofInt 32 R|||BitVec.ofInt 32 (cA ((cA (BitVec.toNat (BitVec.ofInt 32 (Int.fdiv o.2.2.1 (2^min (t4).toNat 32))&&&BitVec.ofInt 32 (1:Int))))*2^min ((bL (aQ .str) m2 q).getD (0:Int)).toNat 32)))))
    )
  )
 else
  (
   Option.bind (nH k U o.1 o.2.1 o.2.2.1 (0:Int) O R) fun v1=>
   aP (aj (t2+(1:Int))) L Y Z U t3 m2 (cm (aQ (.int .i32)) m3 o.1 v1.1)
  )
def pF(k:Nat)(o:List (List UInt8))(m2:List bc)(q:cz)(L:List aw)(aP:Int->aG->aJ->aG->aJ->Unit->nB->de->Option fP)(t2:Int)(O:List aw)(R:List (List UInt8))(t3:Unit)(m3:List (Int×Int)):Nat->Int->Int->Int->Option fP
 |0,_,_,_=>none
 |n+1,t4,U,W=>K7 k o m2 q L aP t2 O R t3 m3 (pF k o m2 q L aP t2 O R t3 m3 n) t4 U W
def Fc(k:Nat)(o:aC)(aP:Int->aG->aJ->aG->aJ->Unit->nB->de->Option fP)(t2:Int)(q:List (List UInt8))(L:List aw)(O:List (List UInt8))(R:List aw)(t3:Unit)(m2:List bc)(m3:List (Int×Int)):Option fP:=
 if decide (t2<(List.length o.2.1:Int))then
  (
   Option.bind (aq o.2.1 t2) fun U=>
   pF k q m2 U R aP t2 L O t3 m3 k (0:Int) (0:Int) (0:Int)
  )
 else
  some (((some m3,()),()))
def nu(k:Nat)(o:aC):Nat->Int->aG->aJ->aG->aJ->Unit->nB->de->Option fP
 |0,_,_,_,_,_,_,_,_=>none
 |n+1,t2,q,L,O,R,t3,m2,m3=>Fc k o (nu k o n) t2 q L O R t3 m2 m3
def J3(k:Nat)(o:aC)(q:aC)(L:Int->nB->Option fP)(t1:Int)(m1:List bc):Option fP:=
 if decide (t1<(List.length o.1:Int))then
  (
   Option.bind (aq o.1 t1) fun O=>
   L (aj (t1+(1:Int))) (cm (aQ .str) m1 O t1)
  )
 else
  nu k q k (0:Int) q.1 q.2.1 o.1 o.2.1 () m1 ([]:List (Int×Int))
def pR(k:Nat)(o:aC)(q:aC):Nat->Int->nB->Option fP
 |0,_,_=>none
 |n+1,t1,m1=>J3 k o q (pR k o q n) t1 m1
def tw(k:Nat)(o:aC)(q:aC):Option fP:=
 pR k q o k (0:Int) ([]:List bc)
def D9(k:Nat)(o:Int)(t1:Option de):Option Int:=
 some ((bL (aQ (.int .i32)) (t1.getD []) o).getD (0:Int))
def JA(k:Nat)(l1:List (Int))(o:fP)(q:Int->(List (Int))->Option (List UInt8))(t1:Int)(t2:List (Int)):Option (List UInt8):=
 if decide (t1<(List.length l1:Int))then
  (
   Option.bind (aq l1 t1) fun L=>
   Option.bind (D9 k L o.1.1) fun v1=>
   Option.bind (aq t2 t1) fun O=>
   q (aj (t1+(1:Int))) (List.set t2 (t1).toNat v1)
  )
 else
  (
   Option.bind (aL (List.length (cS t2)<=br)) fun _=>
   some (cS t2)
  )
def qZ(k:Nat)(l1:List (Int))(o:fP):Nat->Int->(List (Int))->Option (List UInt8)
 |0,_,_=>none
 |n+1,t1,t2=>JA k l1 o (qZ k l1 o n) t1 t2
def tT(k:Nat)(o:fP)(l1:List (Int)):Option (List UInt8):=
 Option.bind (aL (0<=(List.length l1:Int)/\(List.length l1:Int)<=(List.length l1:Int)/\(List.length l1:Int)<=(br:Int))) fun _=>
 qZ k l1 o k (0:Int) (List.replicate ((List.length l1:Int)).toNat (0:Int))
def fD(k:Nat)(o:aC)(q:aC)(L:List UInt8):Option bc:=
 Option.bind (fR k (o.1,o.2.1,())) fun v1=>
 if v1 !=(0:Int)then
  (
   Option.bind (kY k v1 ([]:List UInt8)) fun v2=>
   some (v2,v1)
  )
 else
  (
   Option.bind (fR k (q.1,q.2.1,())) fun v3=>
   if v3 !=(0:Int)then
    (
     Option.bind (kY k v3 ([]:List UInt8)) fun v4=>
     some (v4,v3)
    )
   else
    (
     Option.bind (kK k (o.1,o.2.1,()) L) fun v5=>
     if v5.2 !=(0:Int)then
      (
       Option.bind (kY k v5.2 ([]:List UInt8)) fun O=>
       some (O,v5.2)
      )
     else
      (
       Option.bind (tw k (o.1,o.2.1,()) (q.1,q.2.1,())) fun R=>
       Option.bind (tT k R v5.1) fun U=>
       Option.bind (kY k v5.2 U) fun v9=>
       some (v9,v5.2)
      )
    )
  )
def RC(o:Int->Option Bool)(t1:Int)(t4:Bool):Option Bool:=
 if t4 then
  some (false)
 else
  o (aj (t1+(1:Int)))
def wj(o:Int->Option Bool)(t1:Int)(q:Int)(t3:Bool):Option Bool:=
 RC o t1 (t3&&(q !=(45:Int)))
def Tm(o:Int->Option Bool)(t1:Int)(q:Int)(t5:Bool):Option Bool:=
 wj o t1 q t5
def V6(q:Int->Option Bool)(t1:Int)(o:Int)(t2:Bool):Option Bool:=
 if t2 then
  Tm q t1 o (decide (o<(48:Int))||(decide ((57:Int)<o)))
 else
  wj q t1 o false
def Rw(o:List UInt8)(L:Int->Option Bool)(t1:Int):Option Bool:=
 if decide (t1<(List.length (eH o):Int))then
  (
   Option.bind (aq (eH o) t1) fun q=>
   V6 L t1 q (decide (q<(97:Int))||(decide ((122:Int)<q)))
  )
 else
  some (decide ((List.length o:Int)<=(32:Int)))
def zt(o:List UInt8):Nat->Int->Option Bool
 |0,_=>none
 |n+1,t1=>Rw o (zt o n) t1
def Is(k:Nat)(o:List UInt8):Option Bool:=
 zt o k (0:Int)
def B3(k:Nat)(o:List UInt8):Option Bool:=
 none
def S8(q:Nat->Option Int)(o:Nat)(L:oz)(t3:Bool):Option Int:=
 if t3 then
  some ((130:Int))
 else
  q (o+iX L.2.1 o)
def Xf(k:Nat)(o:oz)(L:aC)(O:Nat->Option Int)(q:Nat):Option Int:=
 if decide (q<List.length o.2.1)then
  (
   Option.bind (fK k (L.1,L.2.1,()) (gd o.2.1 q)) fun v3=>
   S8 O q o ((v3.2 !=(0:Int))&&((gd o.2.1 q)!=(95:Int)))
  )
 else
  some ((0:Int))
def zh(k:Nat)(o:oz)(q:aC):Nat->Nat->Option Int
 |0,_=>none
 |n+1,L=>Xf k o q (zh k o q n) L
def AI(k:Nat)(o:oz)(q:aC)(t2:Bool):Option Int:=
 if t2 then
  some ((130:Int))
 else
  zh k o q k 0
def zJ(k:Nat)(o:oz)(q:aC)(t1:Bool):Option Int:=
 if t1 then
  some ((130:Int))
 else
  (
   Option.bind (B3 k o.2.1) fun v2=>
   if !v2 then
    AI k o q true
   else
    (
     Option.bind (od k o.2.1) fun v4=>
     AI k o q (decide ((64:Int)<v4))
    )
  )
def HW(k:Nat)(o:aC)(q:oz):Option Int:=
 Option.bind (fR k (o.1,o.2.1,())) fun v1=>
 if v1 !=(0:Int)then
  some (v1)
 else
  (
   if decide ((32:Int)<(List.length q.1:Int))then
    zJ k q o true
   else
    (
     Option.bind (oB k q.1 ([97,98,99,100,101,102,103,104,105,106,107,108,109,110,111,112,113,114,115,116,117,118,119,120,121,122,48,49,50,51,52,53,54,55,56,57,45]:List UInt8)) fun v5=>
     zJ k q o (!(v5==([]:List UInt8)))
    )
  )
def AJ(t4:Bool):Option (Unit×Bool):=
 some ((),t4)
def PJ(t5:Bool):Option (Unit×Bool):=
 AJ t5
def WJ(o:iR)(t3:Bool):Option (Unit×Bool):=
 if t3 then
  PJ ((o.1==(3:Int))||((List.length (eB o.2.2.1):Int)==(0:Int)))
 else
  AJ false
def Dw(t7:Bool):Option (Unit×Bool):=
 some ((),t7)
def Sw(t8:Bool):Option (Unit×Bool):=
 Dw t8
def TF(o:iR)(t6:Bool):Option (Unit×Bool):=
 if t6 then
  Sw ((o.1==(3:Int))||((List.length (eB o.2.2.1):Int)==(0:Int)))
 else
  Dw false
def D1(t10:Bool):Option (Unit×Bool):=
 some ((),t10)
def LV(t11:Bool):Option (Unit×Bool):=
 D1 t11
def UA(o:iR)(t9:Bool):Option (Unit×Bool):=
 if t9 then
  LV ((o.1==(3:Int))||((List.length (eB o.2.2.1):Int)==(0:Int)))
 else
  D1 false
def UC(t13:Bool):Option (Unit×Bool):=
 some ((),t13)
def QW(o:iR)(t12:Bool):Option (Unit×Bool):=
 UC (t12&&((List.length (eB o.2.2.1):Int)==(0:Int)))
def TA(t15:Bool):Option (Unit×Bool):=
 some ((),t15)
def PD(o:iR)(t14:Bool):Option (Unit×Bool):=
 TA (t14&&(o.2.2.2.1==(0:Int)))
def NZ(t17:Bool):Option (Unit×Bool):=
 some ((),t17)
def T6(o:iR)(t16:Bool):Option (Unit×Bool):=
 NZ (t16&&(o.2.2.1==([]:List UInt8)))
def Cq(k:Nat)(o:iR)(t1:Bool)(q:aC)(t2:Bool):Option (Unit×Bool):=
 if o.1==(1:Int)then
  WJ o (t2&&(o.2.2.2.1==(0:Int)))
 else
  (
   if o.1==(2:Int)then
    TF o (t2&&(o.2.2.2.1==(0:Int)))
   else
    (
     if o.1==(3:Int)then
      UA o (t2&&(o.2.2.2.1==(0:Int)))
     else
      (
       if o.1==(4:Int)then
        QW o (t2&&t1)
       else
        (
         if o.1==(5:Int)then
          (
           Option.bind (HW k (q.1,q.2.1,()) (([]:List UInt8),o.2.1,())) fun v2=>
           PD o ((v2==(0:Int))&&(o.2.2.1==([]:List UInt8)))
          )
         else
          (
           if o.1==(6:Int)then
            T6 o (t1&&(o.2.1==([]:List UInt8)))
           else
            some ((),false)
          )
        )
      )
    )
  )
def Kj(k:Nat)(o:iR)(q:aC)(t1:Bool):Option (Unit×Bool):=
 Option.bind (aL (List.length o.2.1<=br)) fun _=>
 Option.bind (aL (List.length o.2.2.1<=br)) fun _=>
 Option.bind (kW k (q.1,q.2.1,()) o.2.1) fun v1=>
 if v1==(0:Int)then
  (
   Option.bind (kW k (q.1,q.2.1,()) o.2.2.1) fun v3=>
   Cq k o t1 q (v3==(0:Int))
  )
 else
  Cq k o t1 q false
def Jz(k:Nat)(q:aC)(o:iR):Option (Unit×Bool):=
 Kj k o q (decide ((0:Int)<=o.2.2.2.1)&&(decide (o.2.2.2.1<=(64:Int))))
def LU(k:Nat)(q:(Int×List (iR)×Unit))(a2:List (List UInt8))(a3:List aw)(L:Int->aG->aJ->Option Int)(t3:Int)(aP:Int->Option Int)(t4:Int):Option Int:=
 if decide (t4<(List.length q.2.1:Int))then
  (
   Option.bind (aq q.2.1 t4) fun o=>
   Option.bind (Jz k (a2,a3,()) (o.1,o.2.1,o.2.2.1,o.2.2.2.1,())) fun v3=>
   if !v3.2 then
    some ((170:Int))
   else
    aP (aj (t4+(1:Int)))
  )
 else
  L (aj (t3+(1:Int))) a2 a3
def wh(k:Nat)(o:(Int×List (iR)×Unit))(a2:List (List UInt8))(a3:List aw)(q:Int->aG->aJ->Option Int)(t3:Int):Nat->Int->Option Int
 |0,_=>none
 |n+1,t4=>LU k o a2 a3 q t3 (wh k o a2 a3 q t3 n) t4
def O2(k:Nat)(o:mN)(L:Int->aG->aJ->Option Int)(t3:Int)(a2:List (List UInt8))(a3:List aw):Option Int:=
 if decide (t3<(List.length o.2.1:Int))then
  (
   Option.bind (aq o.2.1 t3) fun q=>
   if decide ((8:Int)<(List.length q.2.1:Int))then
    some ((170:Int))
   else
    wh k q a2 a3 L t3 k (0:Int)
  )
 else
  some ((0:Int))
def y8(k:Nat)(o:mN):Nat->Int->aG->aJ->Option Int
 |0,_,_,_=>none
 |n+1,t3,a2,a3=>O2 k o (y8 k o n) t3 a2 a3
def Ny(k:Nat)(q:mN)(o:aC)(t2:Bool):Option Int:=
 if t2 then
  some ((170:Int))
 else
  y8 k q k (0:Int) o.1 o.2.1
def L1(k:Nat)(o:mN)(q:aC)(t1:Bool):Option Int:=
 Ny k o q (t1||(decide ((256:Int)<(List.length o.2.1:Int))))
def F1(k:Nat)(o:aC)(q:mN):Option Int:=
 Option.bind (fR k (o.1,o.2.1,())) fun v1=>
 if v1 !=(0:Int)then
  some (v1)
 else
  (
   Option.bind (Is k q.1) fun v2=>
   L1 k q o ((!v2)||(decide ((List.length q.2.1:Int)<(1:Int))))
  )
def RR(t5:Bool):Option Int:=
 if t5 then
  some ((2:Int))
 else
  some ((0:Int))
def UJ(o:p7)(t4:Bool):Option Int:=
 RR (t4||(decide ((1048576:Int)<o.2.2.2.1)))
def AF(o:p7)(t3:Bool):Option Int:=
 UJ o (t3||(decide (o.2.2.2.1<(0:Int))))
def TW(k:Nat)(o:p7)(t2:Bool):Option Int:=
 if t2 then
  some ((8:Int))
 else
  (
   if decide ((32:Int)<(List.length o.2.2.1:Int))then
    AF o true
   else
    (
     Option.bind (B3 k o.2.2.1) fun v2=>
     AF o (!v2)
    )
  )
def Fk(k:Nat)(t1:eE)(o:p7):Option Int:=
 Option.bind (kW k (t1.1.1,t1.1.2.1,()) o.1) fun v1=>
 if v1 !=(0:Int)then
  some (v1)
 else
  TW k o (decide (o.2.1<(0:Int))||(decide ((List.length t1.2.2.2.1:Int)<=o.2.1)))
def Rl(t1:Bool):Option Bool:=
 some (t1)
def Le(k:Nat)(o:Int):Option Bool:=
 Rl (decide (o<(97:Int))||(decide ((122:Int)<o)))
def RI(k:Nat)(q:List UInt8)(L:Bool)(O:Nat->Option Int)(o:Nat):Option Int:=
 if decide (o<List.length q)then
  (
   Option.bind (Le k (gd q o)) fun v1=>
   if v1==L then
    some ((o:Int))
   else
    O (o+iX q o)
  )
 else
  some ((-1:Int))
def yO(k:Nat)(o:List UInt8)(q:Bool):Nat->Nat->Option Int
 |0,_=>none
 |n+1,L=>RI k o q (yO k o q n) L
def Ix(k:Nat)(o:List UInt8)(f1:(Unit))(q:Bool):Option Int:=
 yO k o q k 0
def FR(k:Nat)(o:List UInt8)(f1:(Unit)):Option Int:=
 Option.bind (Ix k o f1 true) fun v1=>
 some (v1)
def E1(k:Nat)(o:List UInt8)(f1:(Unit)):Option Bool:=
 Option.bind (FR k o f1) fun v1=>
 some (decide ((0:Int)<=v1))
def CC(o:Int->(List jz)->Option Int)(t1:Int)(m1:List jz)(q:List UInt8)(t4:Bool):Option Int:=
 if t4 then
  some ((2:Int))
 else
  o (aj (t1+(1:Int))) (cm (aQ .str) m1 q (()))
def Pg(k:Nat)(q:Int->(List jz)->Option Int)(t1:Int)(m1:List jz)(o:List UInt8)(t3:Bool):Option Int:=
 if t3 then
  CC q t1 m1 o true
 else
  (
   Option.bind (E1 k o (())) fun v1=>
   CC q t1 m1 o v1
  )
def Oi(k:Nat)(q:Int->(List jz)->Option Int)(t1:Int)(m1:List jz)(o:List UInt8)(t2:Bool):Option Int:=
 Pg k q t1 m1 o (t2||(decide ((32:Int)<(List.length o:Int))))
def QK(k:Nat)(l1:List (List UInt8))(q:Int->(List jz)->Option Int)(t1:Int)(m1:List jz):Option Int:=
 if decide (t1<(List.length l1:Int))then
  (
   Option.bind (aq l1 t1) fun o=>
   Oi k q t1 m1 o (((bL (aQ .str) m1 o).isSome)||(o==([]:List UInt8)))
  )
 else
  some ((0:Int))
def zH(k:Nat)(l1:List (List UInt8)):Nat->Int->(List jz)->Option Int
 |0,_,_=>none
 |n+1,t1,m1=>QK k l1 (zH k l1 n) t1 m1
def Km(k:Nat)(l1:List (List UInt8)):Option Int:=
 if decide ((64:Int)<(List.length l1:Int))then
  some ((4:Int))
 else
  zH k l1 k (0:Int) ([]:List jz)
def UO(o:mN)(t13:List (List UInt8))(q:Int->aG->aJ->Int->Int->rZ->tZ->sU->aG->Option Int)(t5:Int)(t6:List (List UInt8))(t7:List aw)(t8:Int)(t9:Int)(t10:List mc)(t11:List mn)(t12:List fA)(L:Int->Option Int)(t14:Int):Option Int:=
 if decide (t14<(List.length o.2.1:Int))then
  (
   Option.bind (aq o.2.1 t14) fun O=>
   Option.bind (aL (0<=(List.length t13:Int))) fun _=>
   if(Int.fdiv O.1 (2^min ((List.length t13:Int)).toNat 64))!=(0:Int)then
    some ((170:Int))
   else
    L (aj (t14+(1:Int)))
  )
 else
  q (aj (t5+(1:Int))) t6 t7 t8 t9 t10 t11 t12 t13
def Bq(o:mN)(t13:List (List UInt8))(q:Int->aG->aJ->Int->Int->rZ->tZ->sU->aG->Option Int)(t5:Int)(t6:List (List UInt8))(t7:List aw)(t8:Int)(t9:Int)(t10:List mc)(t11:List mn)(t12:List fA):Nat->Int->Option Int
 |0,_=>none
 |n+1,t14=>UO o t13 q t5 t6 t7 t8 t9 t10 t11 t12 (Bq o t13 q t5 t6 t7 t8 t9 t10 t11 t12 n) t14
def Of(k:Nat)(t1:eE)(o:Int->aG->aJ->Int->Int->rZ->tZ->sU->aG->Option Int)(t5:Int)(t6:List (List UInt8))(t7:List aw)(t8:Int)(t9:Int)(t10:List mc)(t11:List mn)(t12:List fA)(t13:List (List UInt8)):Option Int:=
 if decide (t5<(List.length t1.2.2.2.1:Int))then
  (
   Option.bind (aq t1.2.2.2.1 t5) fun q=>
   Bq q t13 o t5 t6 t7 t8 t9 t10 t11 t12 k (0:Int)
  )
 else
  some ((0:Int))
def Dr(k:Nat)(t1:eE):Nat->Int->aG->aJ->Int->Int->rZ->tZ->sU->aG->Option Int
 |0,_,_,_,_,_,_,_,_,_=>none
 |n+1,t5,t6,t7,t8,t9,t10,t11,t12,t13=>Of k t1 (Dr k t1 n) t5 t6 t7 t8 t9 t10 t11 t12 t13
def Ti(k:Nat)(t1:eE)(aP:Int->Option Int)(t4:Int):Option Int:=
 if decide (t4<(List.length t1.2.2.2.2.1:Int))then
  (
   Option.bind (aq t1.2.2.2.2.1 t4) fun o=>
   Option.bind (Fk k ((t1.1.1,t1.1.2.1,()),t1.2.1,t1.2.2.1,t1.2.2.2.1,t1.2.2.2.2.1,t1.2.2.2.2.2.1,t1.2.2.2.2.2.2.1,()) (o.1,o.2.1,o.2.2.1,o.2.2.2.1,())) fun v3=>
   if v3 !=(0:Int)then
    some (v3)
   else
    aP (aj (t4+(1:Int)))
  )
 else
  (
   Option.bind (wX k (t1.1.1,t1.1.2.1,()) t1.2.2.2.2.2.1) fun v4=>
   if v4 !=(0:Int)then
    some (v4)
   else
    (
     Option.bind (Km k t1.2.2.2.2.2.2.1) fun v5=>
     if v5 !=(0:Int)then
      some (v5)
     else
      Dr k t1 k (0:Int) t1.1.1 t1.1.2.1 t1.2.1 t1.2.2.1 t1.2.2.2.1 t1.2.2.2.2.1 t1.2.2.2.2.2.1 t1.2.2.2.2.2.2.1
    )
  )
def Dx(k:Nat)(t1:eE):Nat->Int->Option Int
 |0,_=>none
 |n+1,t4=>Ti k t1 (Dx k t1 n) t4
def RA(k:Nat)(t1:eE)(q:Int->Option Int)(t3:Int):Option Int:=
 if decide (t3<(List.length t1.2.2.2.1:Int))then
  (
   Option.bind (aq t1.2.2.2.1 t3) fun o=>
   Option.bind (F1 k (t1.1.1,t1.1.2.1,()) (o.1,o.2.1,())) fun v2=>
   if v2 !=(0:Int)then
    some (v2)
   else
    q (aj (t3+(1:Int)))
  )
 else
  (
   if decide ((4096:Int)<(List.length t1.2.2.2.2.1:Int))then
    some ((4:Int))
   else
    Dx k t1 k (0:Int)
  )
def Au(k:Nat)(t1:eE):Nat->Int->Option Int
 |0,_=>none
 |n+1,t3=>RA k t1 (Au k t1 n) t3
def VA(k:Nat)(t1:eE)(t2:Bool):Option Int:=
 if t2 then
  some ((20:Int))
 else
  (
   if decide ((4096:Int)<(List.length t1.2.2.2.1:Int))then
    some ((4:Int))
   else
    Au k t1 k (0:Int)
  )
def Ab(k:Nat)(t1:eE):Option Int:=
 Option.bind (fR k (t1.1.1,t1.1.2.1,())) fun v1=>
 if v1 !=(0:Int)then
  some (v1)
 else
  (
   Option.bind (aL (0<=(List.length t1.1.1:Int))) fun _=>
   VA k t1 ((t1.2.1==(0:Int))||((cA (BitVec.toNat (BitVec.ofInt 32 (cA (BitVec.toNat (BitVec.ofInt 32 t1.2.1|||BitVec.ofInt 32 t1.2.2.1)))&&&BitVec.ofInt 32 (cA ((4294967295:Int)*2^min ((List.length t1.1.1:Int)).toNat 32)))))!=(0:Int)))
  )
def uc(k:Nat)(o:aC)(t1:eE)(q:List UInt8):Option bc:=
 Option.bind (fR k (o.1,o.2.1,())) fun v1=>
 if v1 !=(0:Int)then
  some (([]:List UInt8),v1)
 else
  (
   Option.bind (Ab k ((t1.1.1,t1.1.2.1,()),t1.2.1,t1.2.2.1,t1.2.2.2.1,t1.2.2.2.2.1,t1.2.2.2.2.2.1,t1.2.2.2.2.2.2.1,())) fun v2=>
   if v2 !=(0:Int)then
    some (([]:List UInt8),v2)
   else
    (
     Option.bind (fD k (o.1,o.2.1,()) (t1.1.1,t1.1.2.1,()) q) fun v3=>
     some (v3.1,v3.2)
    )
  )
def PX(k:Nat)(t1:eE)(o:Int)(v1:bc)(t2:Bool):Option bc:=
 if t2 then
  some (([]:List UInt8),(2:Int))
 else
  (
   Option.bind (dx t1.2.2.2.2.2.1 o (t1.2.2.2.2.2.1.length:Int)) fun q=>
   Option.bind (AZ k (t1.1.1,t1.1.2.1,()) q v1.1) fun v2=>
   some (v2.1,v2.2)
  )
def me(k:Nat)(q:aC)(t1:eE)(L:List UInt8)(o:Int):Option bc:=
 Option.bind (uc k (q.1,q.2.1,()) ((t1.1.1,t1.1.2.1,()),t1.2.1,t1.2.2.1,t1.2.2.2.1,t1.2.2.2.2.1,t1.2.2.2.2.2.1,t1.2.2.2.2.2.2.1,()) L) fun v1=>
 if v1.2 !=(0:Int)then
  some (([]:List UInt8),v1.2)
 else
  PX k t1 o v1 (decide (o<(0:Int))||(decide ((List.length t1.2.2.2.2.2.1:Int)<o)))
def Ud(v9:b6)(q:Int->aG->Option mv)(t2:Int)(t3:List (List UInt8)):Option mv:=
 if decide (t2<(List.length v9.2.2.2.2.2.2.2.2.2.2.2:Int))then
  (
   Option.bind (aq t3 t2) fun o=>
   Option.bind (aL (List.length o<=br)) fun _=>
   Option.bind (aL (List.length (cS (List.reverse (eB o)))<=br)) fun _=>
   q (aj (t2+(1:Int))) (List.set t3 (t2).toNat (cS (List.reverse (eB o))))
  )
 else
  some (v9.1,t3)
def zb(v9:b6):Nat->Int->aG->Option mv
 |0,_,_=>none
 |n+1,t2,t3=>Ud v9 (zb v9 n) t2 t3
def tt(k:Nat)(q:aC)(o:dp)(U:List UInt8)(O:Bool):Option mv:=
 Option.bind (rq k (q.1,q.2.1,()) (o.1,o.2.1,o.2.2.1,(o.2.2.2.1.1,()),(o.2.2.2.2.1.1,()),o.2.2.2.2.2.1,o.2.2.2.2.2.2.1,())) fun v1=>
 if v1 !=(0:Int)then
  some (v1,([]:List (List UInt8)))
 else
  (
   Option.bind (pl k (q.1,q.2.1,()) U) fun v2=>
   if v2.1 !=(0:Int)then
    some (v2.1,([]:List (List UInt8)))
   else
    (
     if o.2.2.2.2.2.1==(1:Int)then
      (
       Option.bind (jF k (q.1,q.2.1,()) (o.1,o.2.1,o.2.2.1,(o.2.2.2.1.1,()),(o.2.2.2.2.1.1,()),o.2.2.2.2.2.1,o.2.2.2.2.2.2.1,())) fun v3=>
       Option.bind (o0 k v2.2 O v3.2.2.2.1 v3.2.2.2.2.1 v3.2.2.2.2.2.1 v3.2.2.2.2.2.2.1 v3.2.2.2.2.2.2.2.1 v3.2.2.2.2.2.2.2.2.1 v3.2.2.2.2.2.2.2.2.2 v3.2.2.1 v3.1 v3.2.1) fun v4=>
       some (v4.1,v4.2.2.2.2.2.2.2.2.2.2.2)
      )
     else
      (
       if o.2.2.2.2.2.1==(2:Int)then
        (
         Option.bind (jF k (q.1,q.2.1,()) (o.1,o.2.1,o.2.2.1,(o.2.2.2.1.1,()),(o.2.2.2.2.1.1,()),o.2.2.2.2.2.1,o.2.2.2.2.2.2.1,())) fun v5=>
         Option.bind (kP k v2.2 O v5.2.2.2.1 v5.2.2.2.2.1 v5.2.2.2.2.2.1 v5.2.2.2.2.2.2.1 v5.2.2.2.2.2.2.2.1 v5.2.2.2.2.2.2.2.2.1 v5.2.2.2.2.2.2.2.2.2 v5.2.2.1 v5.1 v5.2.1) fun R=>
         some (R.1,R.2.2.2.2.2.2.2.2.2.2.2)
        )
       else
        (
         Option.bind (xy k (o.1,o.2.1,o.2.2.1,(o.2.2.2.1.1,()),(o.2.2.2.2.1.1,()),o.2.2.2.2.2.1,o.2.2.2.2.2.2.1,())) fun W=>
         Option.bind (jF k (q.1,q.2.1,()) W) fun L=>
         Option.bind (kP k (List.reverse v2.2) O L.2.2.2.1 L.2.2.2.2.1 L.2.2.2.2.2.1 L.2.2.2.2.2.2.1 L.2.2.2.2.2.2.2.1 L.2.2.2.2.2.2.2.2.1 L.2.2.2.2.2.2.2.2.2 L.2.2.1 L.1 L.2.1) fun v9=>
         zb v9 k (0:Int) v9.2.2.2.2.2.2.2.2.2.2.2
        )
      )
    )
  )
def Ht(k:Nat)(o:Int)(q:Int)(t1:Option de):Option Int:=
 some (aj (((bL (aQ (.int .i32)) (t1.getD []) o).getD (0:Int))-((bL (aQ (.int .i32)) (t1.getD []) q).getD (0:Int))))
def U7(k:Nat)(o:List (Int))(q:List (Int))(L:nk)(O:Int->Option Int)(t1:Int):Option Int:=
 if decide (t1<(List.length o:Int))then
  (
   Option.bind (aq o t1) fun R=>
   if decide ((List.length q:Int)<=t1)then
    some ((1:Int))
   else
    (
     Option.bind (aq q t1) fun U=>
     Option.bind (Ht k R U L.1) fun v1=>
     if v1 !=(0:Int)then
      some (v1)
     else
      O (aj (t1+(1:Int)))
    )
  )
 else
  (
   if decide ((List.length o:Int)<(List.length q:Int))then
    some ((-1:Int))
   else
    some ((0:Int))
  )
def DR(k:Nat)(o:List (Int))(q:List (Int))(L:nk):Nat->Int->Option Int
 |0,_=>none
 |n+1,t1=>U7 k o q L (DR k o q L n) t1
def Jy(k:Nat)(o:List (Int))(q:List (Int))(L:nk):Option Int:=
 DR k o q L k (0:Int)
def H8(k:Nat)(o:List UInt8)(q:List UInt8)(t1:Option de):Option Int:=
 Option.bind (aL (List.length o<=br)) fun _=>
 Option.bind (aL (List.length q<=br)) fun _=>
 Option.bind (Jy k (eB o) (eB q) (t1,())) fun v1=>
 some (v1)
def xr(o:Int)(n3:Int):Option Int:=
 Option.bind (dZ ([0,1,2,2,3,3,3,3,4,4,4,4,4,4,4,4,5,5,5,5,5,5,5,5,5,5,5,5,5,5,5,5,6,6,6,6,6,6,6,6,6,6,6,6,6,6,6,6,6,6,6,6,6,6,6,6,6,6,6,6,6,6,6,6,7,7,7,7,7,7,7,7,7,7,7,7,7,7,7,7,7,7,7,7,7,7,7,7,7,7,7,7,7,7,7,7,7,7,7,7,7,7,7,7,7,7,7,7,7,7,7,7,7,7,7,7,7,7,7,7,7,7,7,7,7,7,7,7,8,8,8,8,8,8,8,8,8,8,8,8,8,8,8,8,8,8,8,8,8,8,8,8,8,8,8,8,8,8,8,8,8,8,8,8,8,8,8,8,8,8,8,8,8,8,8,8,8,8,8,8,8,8,8,8,8,8,8,8,8,8,8,8,8,8,8,8,8,8,8,8,8,8,8,8,8,8,8,8,8,8,8,8,8,8,8,8,8,8,8,8,8,8,8,8,8,8,8,8,8,8,8,8,8,8,8,8,8,8,8,8,8,8,8,8,8,8,8,8,8,8,8,8,8,8,8,8]:List UInt8) (kB o)) fun q=>
 some (aj (n3+(aj q)))
def A6(o:Int)(q:Int):Option Int:=
 if decide ((256:Int)<=o)then
  (
   Option.bind (aL (0<=(8:Int))) fun _=>
   xr (Int.fdiv o (2^min ((8:Int)).toNat 64)) (aj (q+(8:Int)))
  )
 else
  xr o q
def Do(o:Int)(q:Int):Option Int:=
 if decide ((65536:Int)<=o)then
  (
   Option.bind (aL (0<=(16:Int))) fun _=>
   A6 (Int.fdiv o (2^min ((16:Int)).toNat 64)) (aj (q+(16:Int)))
  )
 else
  A6 o q
def KP(k:Nat)(o:Int):Option Int:=
 if decide ((4294967296:Int)<=o)then
  (
   Option.bind (aL (0<=(32:Int))) fun _=>
   Do (Int.fdiv o (2^min ((32:Int)).toNat 64)) (32:Int)
  )
 else
  Do o (0:Int)
def B8(k:Nat)(o:Int):Option Int:=
 Option.bind (KP k o) fun v1=>
 some (v1)
def BQ(t3:List (List UInt8))(o:Int)(aP:Int->aG->Option cB)(L:Int->de->aG->Option cB)(i1:Int)(m3:List (Int×Int))(t4:Bool):Option cB:=
 if t4 then
  (
   Option.bind (aq t3 (aj (o-(1:Int)))) fun q=>
   Option.bind (aq t3 o) fun O=>
   Option.bind (aq (List.set t3 (o).toNat q) (aj (o-(1:Int)))) fun R=>
   aP (aj (o-(1:Int))) (List.set (List.set t3 (o).toNat q) (aj (o-(1:Int))).toNat O)
  )
 else
  L (aj (i1+(1:Int))) m3 t3
def Pk(k:Nat)(L:Int)(m3:List (Int×Int))(q:Int->de->aG->Option cB)(i1:Int)(aP:Int->aG->Option cB)(o:Int)(t3:List (List UInt8)):Option cB:=
 if decide (L<o)then
  (
   Option.bind (aq t3 o) fun O=>
   Option.bind (aq t3 (aj (o-(1:Int)))) fun R=>
   Option.bind (H8 k O R (some m3)) fun v1=>
   BQ t3 o aP q i1 m3 (decide (v1<(0:Int)))
  )
 else
  BQ t3 o aP q i1 m3 false
def Br(k:Nat)(o:Int)(m3:List (Int×Int))(q:Int->de->aG->Option cB)(i1:Int):Nat->Int->aG->Option cB
 |0,_,_=>none
 |n+1,L,t3=>Pk k o m3 q i1 (Br k o m3 q i1 n) L t3
def L6(k:Nat)(o:Int)(q:Int)(L:Int->de->aG->Option cB)(i1:Int)(m3:List (Int×Int))(t2:List (List UInt8)):Option cB:=
 if decide (i1<o)then
  Br k q m3 L i1 k i1 t2
 else
  some (m3,t2)
def y7(k:Nat)(o:Int)(q:Int):Nat->Int->de->aG->Option cB
 |0,_,_,_=>none
 |n+1,i1,m3,t2=>L6 k o q (y7 k o q n) i1 m3 t2
def uO(k:Nat)(o:Int)(q:Int)(m1:List (Int×Int))(l1:List (List UInt8)):Option cB:=
 y7 k q o k (aj (o+(1:Int))) m1 l1
def P1(k:Nat)(o:Int)(q:Int)(m1:List (Int×Int))(l1:List (List UInt8))(L:Option cB):Option cB:=
 if decide ((aj (o-q))<=(12:Int))then
  (
   Option.bind (uO k q o m1 l1) fun v1=>
   some (v1.1,v1.2)
  )
 else
  none
def wU(k:Nat)(o:Int)(q:Int)(m1:List (Int×Int))(l1:List (List UInt8)):Nat->Option cB
 |0=>none
 |n+1=>P1 k o q m1 l1 (wU k o q m1 l1 n)
def vD(k:Nat)(o:Int)(q:Int)(L:Int)(m1:List (Int×Int))(l1:List (List UInt8)):Option cB:=
 wU k q o m1 l1 k
def sJ(k:Nat)(m1:List (Int×Int))(l1:List (List UInt8)):Option cB:=
 Option.bind (B8 k (eF (List.length l1:Int))) fun v1=>
 Option.bind (vD k (0:Int) (List.length l1:Int) v1 m1 l1) fun v2=>
 some (v2.1,v2.2)
def Ww(k:Nat)(o:aC)(v1:mv)(q:Int->de->Option bX)(t1:Int)(m1:List (Int×Int)):Option bX:=
 if decide (t1<(List.length o.2.1:Int))then
  (
   Option.bind (aq o.2.1 t1) fun L=>
   q (aj (t1+(1:Int))) (cm (aQ (.int .i32)) m1 L.1 t1)
  )
 else
  (
   Option.bind (sJ k m1 v1.2) fun v2=>
   some (v2.2,(0:Int))
  )
def wO(k:Nat)(o:aC)(v1:mv):Nat->Int->de->Option bX
 |0,_,_=>none
 |n+1,t1,m1=>Ww k o v1 (wO k o v1 n) t1 m1
def GB(k:Nat)(q:aC)(o:dp)(L:List UInt8):Option bX:=
 Option.bind (tt k (q.1,q.2.1,()) (o.1,o.2.1,o.2.2.1,(o.2.2.2.1.1,()),(o.2.2.2.2.1.1,()),o.2.2.2.2.2.1,o.2.2.2.2.2.2.1,()) L o.2.2.2.2.2.2.1) fun v1=>
 if v1.1 !=(0:Int)then
  some (([]:List (List UInt8)),v1.1)
 else
  wO k q v1 k (0:Int) ([]:List (Int×Int))
def I2(k:Nat)(o:Int)(q:Int)(t1:Option de):Option Int:=
 some (aj (((bL (aQ (.int .i32)) (t1.getD []) o).getD (0:Int))-((bL (aQ (.int .i32)) (t1.getD []) q).getD (0:Int))))
def S9(k:Nat)(o:List (Int))(q:List (Int))(L:nk)(O:Int->Option Int)(t1:Int):Option Int:=
 if decide (t1<(List.length o:Int))then
  (
   Option.bind (aq o t1) fun R=>
   if decide ((List.length q:Int)<=t1)then
    some ((1:Int))
   else
    (
     Option.bind (aq q t1) fun U=>
     Option.bind (I2 k R U L.1) fun v1=>
     if v1 !=(0:Int)then
      some (v1)
     else
      O (aj (t1+(1:Int)))
    )
  )
 else
  (
   if decide ((List.length o:Int)<(List.length q:Int))then
    some ((-1:Int))
   else
    some ((0:Int))
  )
def xV(k:Nat)(o:List (Int))(q:List (Int))(L:nk):Nat->Int->Option Int
 |0,_=>none
 |n+1,t1=>S9 k o q L (xV k o q L n) t1
def Hm(k:Nat)(o:List (Int))(q:List (Int))(L:nk):Option Int:=
 xV k o q L k (0:Int)
def KS(k:Nat)(o:List UInt8)(q:List UInt8)(t1:Option de):Option Int:=
 Option.bind (aL (List.length o<=br)) fun _=>
 Option.bind (aL (List.length q<=br)) fun _=>
 Option.bind (Hm k (eB o) (eB q) (t1,())) fun v1=>
 some (v1)
def xE(t3:List (List UInt8))(o:Int)(aP:Int->aG->Option cB)(L:Int->de->aG->Option cB)(i1:Int)(m3:List (Int×Int))(t4:Bool):Option cB:=
 if t4 then
  (
   Option.bind (aq t3 (aj (o-(1:Int)))) fun q=>
   Option.bind (aq t3 o) fun O=>
   Option.bind (aq (List.set t3 (o).toNat q) (aj (o-(1:Int)))) fun R=>
   aP (aj (o-(1:Int))) (List.set (List.set t3 (o).toNat q) (aj (o-(1:Int))).toNat O)
  )
 else
  L (aj (i1+(1:Int))) m3 t3
def Wk(k:Nat)(L:Int)(m3:List (Int×Int))(q:Int->de->aG->Option cB)(i1:Int)(aP:Int->aG->Option cB)(o:Int)(t3:List (List UInt8)):Option cB:=
 if decide (L<o)then
  (
   Option.bind (aq t3 o) fun O=>
   Option.bind (aq t3 (aj (o-(1:Int)))) fun R=>
   Option.bind (KS k O R (some m3)) fun v1=>
   xE t3 o aP q i1 m3 (decide (v1<(0:Int)))
  )
 else
  xE t3 o aP q i1 m3 false
def zA(k:Nat)(o:Int)(m3:List (Int×Int))(q:Int->de->aG->Option cB)(i1:Int):Nat->Int->aG->Option cB
 |0,_,_=>none
 |n+1,L,t3=>Wk k o m3 q i1 (zA k o m3 q i1 n) L t3
def VY(k:Nat)(o:Int)(q:Int)(L:Int->de->aG->Option cB)(i1:Int)(m3:List (Int×Int))(t2:List (List UInt8)):Option cB:=
 if decide (i1<o)then
  zA k q m3 L i1 k i1 t2
 else
  some (m3,t2)
def Dy(k:Nat)(o:Int)(q:Int):Nat->Int->de->aG->Option cB
 |0,_,_,_=>none
 |n+1,i1,m3,t2=>VY k o q (Dy k o q n) i1 m3 t2
def s8(k:Nat)(o:Int)(q:Int)(m1:List (Int×Int))(l1:List (List UInt8)):Option cB:=
 Dy k q o k (aj (o+(1:Int))) m1 l1
def NQ(k:Nat)(o:Int)(q:Int)(m1:List (Int×Int))(l1:List (List UInt8))(L:Option cB):Option cB:=
 if decide ((aj (o-q))<=(12:Int))then
  (
   Option.bind (s8 k q o m1 l1) fun v1=>
   some (v1.1,v1.2)
  )
 else
  none
def Bn(k:Nat)(o:Int)(q:Int)(m1:List (Int×Int))(l1:List (List UInt8)):Nat->Option cB
 |0=>none
 |n+1=>NQ k o q m1 l1 (Bn k o q m1 l1 n)
def sO(k:Nat)(o:Int)(q:Int)(L:Int)(m1:List (Int×Int))(l1:List (List UInt8)):Option cB:=
 Bn k q o m1 l1 k
def rN(k:Nat)(m1:List (Int×Int))(l1:List (List UInt8)):Option cB:=
 Option.bind (B8 k (eF (List.length l1:Int))) fun v1=>
 Option.bind (sO k (0:Int) (List.length l1:Int) v1 m1 l1) fun v2=>
 some (v2.1,v2.2)
def V4(o:List (List UInt8))(L:Int->Option aG)(q:Int):Option aG:=
 if decide (q<(List.length o:Int))then
  (
   Option.bind (aq o q) fun O=>
   Option.bind (aq o (aj (q-(1:Int)))) fun R=>
   if O==R then
    none
   else
    L (aj (q+(1:Int)))
  )
 else
  some (o)
def xF(o:List (List UInt8)):Nat->Int->Option aG
 |0,_=>none
 |n+1,q=>V4 o (xF o n) q
def PR(k:Nat)(o:List (List UInt8)):Option aG:=
 if decide ((List.length o:Int)<(2:Int))then
  some (o)
 else
  xF o k (1:Int)
def Px(l1:List (List UInt8))(q:Int->Option Unit)(o:Int):Option Unit:=
 if decide (o<(List.length l1:Int))then
  (
   Option.bind (aq l1 o) fun L=>
   Option.bind (aq l1 (aj (o-(1:Int)))) fun O=>
   if L==O then
    none
   else
    q (aj (o+(1:Int)))
  )
 else
  some ()
def Dm(l1:List (List UInt8)):Nat->Int->Option Unit
 |0,_=>none
 |n+1,o=>Px l1 (Dm l1 n) o
def ur(k:Nat)(l1:List (List UInt8)):Option Unit:=
 if decide ((List.length l1:Int)<(2:Int))then
  some ()
 else
  Dm l1 k (1:Int)
def O6(k:Nat)(o:aC)(l1:List (List UInt8))(q:Int->de->Option aG)(t2:Int)(m1:List (Int×Int)):Option aG:=
 if decide (t2<(List.length o.2.1:Int))then
  (
   Option.bind (aq o.2.1 t2) fun L=>
   q (aj (t2+(1:Int))) (cm (aQ (.int .i32)) m1 L.1 t2)
  )
 else
  (
   Option.bind (rN k m1 l1) fun v1=>
   Option.bind (ur k v1.2) fun v2=>
   some v1.2
  )
def z6(k:Nat)(o:aC)(l1:List (List UInt8)):Nat->Int->de->Option aG
 |0,_,_=>none
 |n+1,t2,m1=>O6 k o l1 (z6 k o l1 n) t2 m1
def tm(k:Nat)(o:aC)(l1:List (List UInt8)):Option aG:=
 z6 k o l1 k (0:Int) ([]:List (Int×Int))
def DW(o:Int->bQ->aG->Option bX)(t5:Int)(m3:List bw)(q:List (List UInt8)):Option bX:=
 o (aj (t5+(1:Int))) m3 q
def Vf(v2:bX)(aP:Int->aG->aJ->(List UInt8)->aJ->ck->aN->aN->Int->Bool->bQ->aG->aG->Option bX)(t3:Int)(a4:List (List UInt8))(a5:List aw)(O:List UInt8)(bW:List aw)(dJ:List bG)(gn:List aD)(gU:List aD)(gT:Int)(R:Bool)(t4:List (List UInt8))(L:Int->bQ->aG->Option bX)(t5:Int)(m2:List bw)(o:List (List UInt8)):Option bX:=
 if decide (t5<(List.length v2.1:Int))then
  (
   Option.bind (aq v2.1 t5) fun q=>
   if !((bL (aQ .str) m2 q).getD false)then
    (
     Option.bind (aL (List.length o+List.length ([q]:List (List UInt8))<=br)) fun _=>
     DW L t5 (cm (aQ .str) m2 q true) (o++([q]:List (List UInt8)))
    )
   else
    DW L t5 m2 o
  )
 else
  (
   if decide ((1024:Int)<(List.length o:Int))then
    some (([]:List (List UInt8)),(9:Int))
   else
    aP (aj (t3+(1:Int))) a4 a5 O bW dJ gn gU gT R m2 o t4
  )
def wC(v2:bX)(aP:Int->aG->aJ->(List UInt8)->aJ->ck->aN->aN->Int->Bool->bQ->aG->aG->Option bX)(t3:Int)(a4:List (List UInt8))(a5:List aw)(o:List UInt8)(bW:List aw)(dJ:List bG)(gn:List aD)(gU:List aD)(gT:Int)(q:Bool)(t4:List (List UInt8)):Nat->Int->bQ->aG->Option bX
 |0,_,_,_=>none
 |n+1,t5,m2,L=>Vf v2 aP t3 a4 a5 o bW dJ gn gU gT q t4 (wC v2 aP t3 a4 a5 o bW dJ gn gU gT q t4 n) t5 m2 L
def Ss(k:Nat)(t2:List (List UInt8))(O:Int->aG->aJ->aG->Option bX)(t1:Int)(aP:Int->aG->aJ->(List UInt8)->aJ->ck->aN->aN->Int->Bool->bQ->aG->aG->Option bX)(t3:Int)(a4:List (List UInt8))(a5:List aw)(o:List UInt8)(bW:List aw)(dJ:List bG)(gn:List aD)(gU:List aD)(gT:Int)(q:Bool)(m1:List bw)(L:List (List UInt8))(t4:List (List UInt8)):Option bX:=
 if decide (t3<(List.length t2:Int))then
  (
   Option.bind (aq t4 t3) fun R=>
   Option.bind (GB k (a4,a5,()) (o,bW,dJ,(gn,()),(gU,()),gT,q,()) R) fun v2=>
   if v2.2 !=(0:Int)then
    some (([]:List (List UInt8)),v2.2)
   else
    wC v2 aP t3 a4 a5 o bW dJ gn gU gT q t4 k (0:Int) m1 L
  )
 else
  (
   Option.bind (tm k (a4,a5,()) L) fun v3=>
   O (aj (t1+(1:Int))) a4 a5 v3
  )
def EU(k:Nat)(t2:List (List UInt8))(o:Int->aG->aJ->aG->Option bX)(t1:Int):Nat->Int->aG->aJ->(List UInt8)->aJ->ck->aN->aN->Int->Bool->bQ->aG->aG->Option bX
 |0,_,_,_,_,_,_,_,_,_,_,_,_,_=>none
 |n+1,t3,a4,a5,q,bW,dJ,gn,gU,gT,L,m1,O,t4=>Ss k t2 o t1 (EU k t2 o t1 n) t3 a4 a5 q bW dJ gn gU gT L m1 O t4
def RL(k:Nat)(l1:List fA)(q:Int->aG->aJ->aG->Option bX)(t1:Int)(a2:List (List UInt8))(a3:List aw)(t2:List (List UInt8)):Option bX:=
 if decide (t1<(List.length l1:Int))then
  (
   Option.bind (aq l1 t1) fun o=>
   EU k t2 q t1 k (0:Int) a2 a3 o.1 o.2.1 o.2.2.1 o.2.2.2.1.1 o.2.2.2.2.1.1 o.2.2.2.2.2.1 o.2.2.2.2.2.2.1 ([]:List bw) ([]:List (List UInt8)) t2
  )
 else
  some (t2,(0:Int))
def ET(k:Nat)(l1:List fA):Nat->Int->aG->aJ->aG->Option bX
 |0,_,_,_,_=>none
 |n+1,t1,a2,a3,t2=>RL k l1 (ET k l1 n) t1 a2 a3 t2
def Iq(k:Nat)(o:aC)(l1:List fA)(q:List UInt8):Option bX:=
 Option.bind (DK k (o.1,o.2.1,()) q l1) fun v1=>
 if v1 !=(0:Int)then
  some (([]:List (List UInt8)),v1)
 else
  ET k l1 k (0:Int) o.1 o.2.1 ([q]:List (List UInt8))
def Fj(o:List (List UInt8))(v1:List UInt8)(q:Int->Option Int)(t1:Int):Option Int:=
 if decide (t1<(List.length o:Int))then
  (
   Option.bind (aq o t1) fun L=>
   if v1==L then
    some (t1)
   else
    q (aj (t1+(1:Int)))
  )
 else
  some ((-1:Int))
def pQ(o:List (List UInt8))(v1:List UInt8):Nat->Int->Option Int
 |0,_=>none
 |n+1,t1=>Fj o v1 (pQ o v1 n) t1
def qV(k:Nat)(o:List (List UInt8))(v1:List UInt8):Option Int:=
 pQ o v1 k (0:Int)
def xc(k:Nat)(o:List (List UInt8))(v1:List UInt8):Option Bool:=
 Option.bind (qV k o v1) fun v2=>
 some (decide ((0:Int)<=v2))
def wF(o:Int->(List (Int))->Option bF)(t2:Int)(l2:List (Int)):Option bF:=
 o (aj (t2+(1:Int))) l2
def Tp(k:Nat)(t1:eE)(v1:List UInt8)(q:List UInt8)(o:Int->(List (Int))->Option bF)(t2:Int)(l1:List (Int)):Option bF:=
 if decide (t2<(aj ((List.length t1.2.2.2.2.2.1:Int)+(1:Int))))then
  (
   Option.bind (dx t1.2.2.2.2.2.1 t2 (t1.2.2.2.2.2.1.length:Int)) fun L=>
   Option.bind (Iq k (t1.1.1,t1.1.2.1,()) L v1) fun v2=>
   if v2.2 !=(0:Int)then
    some (([]:List (Int)),v2.2)
   else
    (
     Option.bind (xc k v2.1 q) fun v3=>
     if v3 then
      (
       Option.bind (aL (List.length l1+List.length ([t2]:List (Int))<=br)) fun _=>
       wF o t2 (l1++([t2]:List (Int)))
      )
     else
      wF o t2 l1
    )
  )
 else
  some (l1,(0:Int))
def wv(k:Nat)(t1:eE)(v1:List UInt8)(o:List UInt8):Nat->Int->(List (Int))->Option bF
 |0,_,_=>none
 |n+1,t2,l1=>Tp k t1 v1 o (wv k t1 v1 o n) t2 l1
def AK(k:Nat)(t1:eE)(v1:List UInt8)(o:List UInt8):Option bF:=
 wv k t1 v1 o k (0:Int) ([]:List (Int))
def tn(k:Nat)(o:aC)(t1:eE)(L:List UInt8)(q:List UInt8):Option bF:=
 Option.bind (uc k (o.1,o.2.1,()) ((t1.1.1,t1.1.2.1,()),t1.2.1,t1.2.2.1,t1.2.2.2.1,t1.2.2.2.2.1,t1.2.2.2.2.2.1,t1.2.2.2.2.2.2.1,()) L) fun v1=>
 if v1.2 !=(0:Int)then
  some (([]:List (Int)),v1.2)
 else
  (
   Option.bind (kW k (t1.1.1,t1.1.2.1,()) q) fun v2=>
   if v2 !=(0:Int)then
    some (([]:List (Int)),v2)
   else
    (
     Option.bind (AK k ((t1.1.1,t1.1.2.1,()),t1.2.1,t1.2.2.1,t1.2.2.2.1,t1.2.2.2.2.1,t1.2.2.2.2.2.1,t1.2.2.2.2.2.2.1,()) v1.1 q) fun v3=>
     some (v3.1,v3.2)
    )
  )
def jl(k:Nat)(o:Int)(c2:List (Int))(c3:List (Int)):Option (List (Int)×List (Int)):=
 if o !=(0:Int)then
  some (([]:List (Int)),([]:List (Int)))
 else
  some (c2,c3)
def qv(k:Nat)(o:(Int×Int×Unit))(q:(Int×Int×Unit)):Option Int:=
 some (aj (o.2.1-q.2.1))
def wn(t3:List bz)(o:Int)(aP:Int->aA->Option aA)(L:Int->aA->Option aA)(i1:Int)(t4:Bool):Option aA:=
 if t4 then
  (
   Option.bind (aq t3 (aj (o-(1:Int)))) fun q=>
   Option.bind (aq t3 o) fun O=>
   Option.bind (aq (List.set t3 (o).toNat q) (aj (o-(1:Int)))) fun R=>
   aP (aj (o-(1:Int))) (List.set (List.set t3 (o).toNat q) (aj (o-(1:Int))).toNat O)
  )
 else
  L (aj (i1+(1:Int))) t3
def UT(k:Nat)(L:Int)(q:Int->aA->Option aA)(i1:Int)(aP:Int->aA->Option aA)(o:Int)(t3:List bz):Option aA:=
 if decide (L<o)then
  (
   Option.bind (aq t3 o) fun O=>
   Option.bind (aq t3 (aj (o-(1:Int)))) fun R=>
   Option.bind (qv k O R) fun v1=>
   wn t3 o aP q i1 (decide (v1<(0:Int)))
  )
 else
  wn t3 o aP q i1 false
def C8(k:Nat)(o:Int)(q:Int->aA->Option aA)(i1:Int):Nat->Int->aA->Option aA
 |0,_,_=>none
 |n+1,L,t3=>UT k o q i1 (C8 k o q i1 n) L t3
def Ry(k:Nat)(o:Int)(q:Int)(L:Int->aA->Option aA)(i1:Int)(t2:List bz):Option aA:=
 if decide (i1<o)then
  C8 k q L i1 k i1 t2
 else
  some t2
def DI(k:Nat)(o:Int)(q:Int):Nat->Int->aA->Option aA
 |0,_,_=>none
 |n+1,i1,t2=>Ry k o q (DI k o q n) i1 t2
def pj(k:Nat)(o:Int)(q:Int)(l1:List bz):Option aA:=
 DI k q o k (aj (o+(1:Int))) l1
def OD(O:Int)(o:Int)(q:Int)(R:Int->aA->Option aA)(i1:Int)(t2:List bz):Option aA:=
 if decide (i1<O)then
  (
   Option.bind (aq t2 (aj (o+i1))) fun L=>
   Option.bind (aq t2 (aj (q+i1))) fun U=>
   Option.bind (aq (List.set t2 (aj (q+i1)).toNat L) (aj (o+i1))) fun W=>
   R (aj (i1+(1:Int))) (List.set (List.set t2 (aj (q+i1)).toNat L) (aj (o+i1)).toNat U)
  )
 else
  some t2
def A1(o:Int)(q:Int)(L:Int):Nat->Int->aA->Option aA
 |0,_,_=>none
 |n+1,i1,t2=>OD o q L (A1 o q L n) i1 t2
def oH(k:Nat)(o:Int)(q:Int)(L:Int)(l1:List bz):Option aA:=
 A1 L q o k (0:Int) l1
def Rm(k:Nat)(m1:Int)(q:Int->Int->aA->Option aA)(i1:Int)(o:Int)(t2:List bz):Option aA:=
 if i1 !=o then
  (
   if decide (o<i1)then
    (
     Option.bind (oH k (aj (m1-i1)) m1 o t2) fun v1=>
     q (aj (i1-o)) o v1
    )
   else
    (
     Option.bind (oH k (aj (m1-i1)) (aj ((aj (m1+o))-i1)) i1 t2) fun v2=>
     q i1 (aj (o-i1)) v2
    )
  )
 else
  (
   Option.bind (oH k (aj (m1-i1)) m1 i1 t2) fun v3=>
   some v3
  )
def Di(k:Nat)(m1:Int):Nat->Int->Int->aA->Option aA
 |0,_,_,_=>none
 |n+1,i1,o,t2=>Rm k m1 (Di k m1 n) i1 o t2
def sf(k:Nat)(o:Int)(m1:Int)(q:Int)(l1:List bz):Option aA:=
 Di k m1 k (aj (m1-o)) (aj (q-m1)) l1
def Nt(i1:Int)(aP:Int->aA->Option aA)(o:Int)(t2:List bz):Option aA:=
 if decide (o<(aj (i1-(1:Int))))then
  (
   Option.bind (aq t2 (aj (o+(1:Int)))) fun q=>
   Option.bind (aq t2 o) fun L=>
   Option.bind (aq (List.set t2 (o).toNat q) (aj (o+(1:Int)))) fun O=>
   aP (aj (o+(1:Int))) (List.set (List.set t2 (o).toNat q) (aj (o+(1:Int))).toNat L)
  )
 else
  some t2
def EG(i1:Int):Nat->Int->aA->Option aA
 |0,_,_=>none
 |n+1,o,t2=>Nt i1 (EG i1 n) o t2
def SI(k:Nat)(l1:List bz)(q:Int)(L:Int->Int->Option aA)(i1:Int)(o:Int):Option aA:=
 if decide (i1<o)then
  (
   Option.bind (aL (0<=(1:Int))) fun _=>
   Option.bind (aq l1 (aj (Int.fdiv (eF (aj (i1+o))) (2^min ((1:Int)).toNat 64)))) fun O=>
   Option.bind (aq l1 q) fun R=>
   Option.bind (qv k O R) fun v1=>
   if decide (v1<(0:Int))then
    L (aj ((aj (Int.fdiv (eF (aj (i1+o))) (2^min ((1:Int)).toNat 64)))+(1:Int))) o
   else
    L i1 (aj (Int.fdiv (eF (aj (i1+o))) (2^min ((1:Int)).toNat 64)))
  )
 else
  EG i1 k q l1
def ze(k:Nat)(l1:List bz)(o:Int):Nat->Int->Int->Option aA
 |0,_,_=>none
 |n+1,i1,q=>SI k l1 o (ze k l1 o n) i1 q
def RQ(i2:Int)(L:Int->aA->Option aA)(o:Int)(t3:List bz):Option aA:=
 if decide (i2<o)then
  (
   Option.bind (aq t3 (aj (o-(1:Int)))) fun q=>
   Option.bind (aq t3 o) fun O=>
   Option.bind (aq (List.set t3 (o).toNat q) (aj (o-(1:Int)))) fun R=>
   L (aj (o-(1:Int))) (List.set (List.set t3 (o).toNat q) (aj (o-(1:Int))).toNat O)
  )
 else
  some t3
def wJ(i2:Int):Nat->Int->aA->Option aA
 |0,_,_=>none
 |n+1,o,t3=>RQ i2 (wJ i2 n) o t3
def MB(k:Nat)(l1:List bz)(m1:Int)(q:Int->Int->Option aA)(i2:Int)(o:Int):Option aA:=
 if decide (i2<o)then
  (
   Option.bind (aL (0<=(1:Int))) fun _=>
   Option.bind (aq l1 m1) fun L=>
   Option.bind (aq l1 (aj (Int.fdiv (eF (aj (i2+o))) (2^min ((1:Int)).toNat 64)))) fun O=>
   Option.bind (qv k L O) fun v2=>
   if !(decide (v2<(0:Int)))then
    q (aj ((aj (Int.fdiv (eF (aj (i2+o))) (2^min ((1:Int)).toNat 64)))+(1:Int))) o
   else
    q i2 (aj (Int.fdiv (eF (aj (i2+o))) (2^min ((1:Int)).toNat 64)))
  )
 else
  wJ i2 k m1 l1
def CO(k:Nat)(l1:List bz)(m1:Int):Nat->Int->Int->Option aA
 |0,_,_=>none
 |n+1,i2,o=>MB k l1 m1 (CO k l1 m1 n) i2 o
def SP(L:Int->Int->Int->aA->Option aA)(q:Int)(o:Int)(m1:Int)(O:Int)(t5:List bz)(t6:Bool):Option aA:=
 if t6 then
  (
   Option.bind (L (aj (Int.fdiv (eF (aj (q+o))) (2^min ((1:Int)).toNat 64))) (aj ((aj ((aj (Int.fdiv (eF (aj (q+o))) (2^min ((1:Int)).toNat 64)))+m1))-O)) o t5) fun v4=>
   some v4
  )
 else
  some t5
def BN(O:Int->Int->Int->aA->Option aA)(q:Int)(o:Int)(m1:Int)(L:Int)(t5:List bz):Option aA:=
 SP O q o m1 L t5 (decide ((aj (Int.fdiv (eF (aj (q+o))) (2^min ((1:Int)).toNat 64)))<(aj ((aj ((aj (Int.fdiv (eF (aj (q+o))) (2^min ((1:Int)).toNat 64)))+m1))-L)))&&(decide ((aj ((aj ((aj (Int.fdiv (eF (aj (q+o))) (2^min ((1:Int)).toNat 64)))+m1))-L))<o)))
def Oe(q:Int->Int->Int->aA->Option aA)(o:Int)(L:Int)(O:Int)(t4:List bz)(m1:Int)(t7:Bool):Option aA:=
 if t7 then
  (
   Option.bind (q o L (aj (Int.fdiv (eF (aj (o+O))) (2^min ((1:Int)).toNat 64))) t4) fun v5=>
   BN q o O m1 L v5
  )
 else
  BN q o O m1 L t4
def Ci(O:Int->Int->Int->aA->Option aA)(o:Int)(q:Int)(L:Int)(m1:Int)(t4:List bz):Option aA:=
 Oe O o q L t4 m1 (decide (o<q)&&(decide (q<(aj (Int.fdiv (eF (aj (o+L))) (2^min ((1:Int)).toNat 64))))))
def Pe(k:Nat)(o:Int)(m1:Int)(q:Int)(L:Int)(l1:List bz)(O:Int->Int->Int->aA->Option aA)(t8:Bool):Option aA:=
 if t8 then
  (
   Option.bind (sf k o m1 (aj ((aj ((aj (Int.fdiv (eF (aj (q+L))) (2^min ((1:Int)).toNat 64)))+m1))-o)) l1) fun R=>
   Ci O q o L m1 R
  )
 else
  Ci O q o L m1 l1
def XK(k:Nat)(l1:List bz)(q:Int)(L:Int)(m1:Int)(R:Int->Int->Int->aA->Option aA)(O:Int->Int->Option aA)(o:Int)(bW:Int):Option aA:=
 if decide (o<bW)then
  (
   Option.bind (aL (0<=(1:Int))) fun _=>
   Option.bind (aq l1 (aj ((aj ((aj ((aj (Int.fdiv (eF (aj (q+L))) (2^min ((1:Int)).toNat 64)))+m1))-(1:Int)))-(aj (Int.fdiv (eF (aj (o+bW))) (2^min ((1:Int)).toNat 64)))))) fun U=>
   Option.bind (aq l1 (aj (Int.fdiv (eF (aj (o+bW))) (2^min ((1:Int)).toNat 64)))) fun W=>
   Option.bind (qv k U W) fun v3=>
   if !(decide (v3<(0:Int)))then
    O (aj ((aj (Int.fdiv (eF (aj (o+bW))) (2^min ((1:Int)).toNat 64)))+(1:Int))) bW
   else
    O o (aj (Int.fdiv (eF (aj (o+bW))) (2^min ((1:Int)).toNat 64)))
  )
 else
  Pe k o m1 q L l1 R (decide (o<m1)&&(decide (m1<(aj ((aj ((aj (Int.fdiv (eF (aj (q+L))) (2^min ((1:Int)).toNat 64)))+m1))-o)))))
def BU(k:Nat)(l1:List bz)(o:Int)(q:Int)(m1:Int)(L:Int->Int->Int->aA->Option aA):Nat->Int->Int->Option aA
 |0,_,_=>none
 |n+1,O,bW=>XK k l1 o q m1 L (BU k l1 o q m1 L n) O bW
def AV(k:Nat)(l1:List bz)(o:Int)(q:Int)(m1:Int)(L:Int->Int->Int->aA->Option aA)(O:Int)(R:Int):Option aA:=
 BU k l1 o q m1 L k O R
def iY:Nat->Int->Int->Int->aA->Option aA
 |0,_,_,_,_=>none
 |k+1,o,m1,q,l1=>
  if(aj (m1-o))==(1:Int)then
   ze k l1 o k m1 q
  else
   (
    if(aj (q-m1))==(1:Int)then
     CO k l1 m1 k o m1
    else
     (
      Option.bind (aL (0<=(1:Int))) fun _=>
      if decide ((aj (Int.fdiv (eF (aj (o+q))) (2^min ((1:Int)).toNat 64)))<m1)then
       AV k l1 o q m1 (iY k) (aj ((aj ((aj (Int.fdiv (eF (aj (o+q))) (2^min ((1:Int)).toNat 64)))+m1))-q)) (aj (Int.fdiv (eF (aj (o+q))) (2^min ((1:Int)).toNat 64)))
      else
       AV k l1 o q m1 (iY k) o m1
     )
   )
def ww(aP:Int->aA->Option aA)(o:Int)(t5:List bz):Option aA:=
 aP (aj (o*(2:Int))) t5
def Tf(k:Nat)(L:Int)(o:Int)(aP:Int->aA->Option aA)(O:Int->Int->aA->Option aA)(a2:Int)(q:Int)(t4:List bz):Option aA:=
 if decide (q<=L)then
  (
   Option.bind (iY k a2 (aj (a2+o)) q t4) fun v3=>
   O q (aj (q+(aj ((2:Int)*o)))) v3
  )
 else
  (
   if decide ((aj (a2+o))<L)then
    (
     Option.bind (iY k a2 (aj (a2+o)) L t4) fun v4=>
     ww aP o v4
    )
   else
    ww aP o t4
  )
def we(k:Nat)(o:Int)(q:Int)(aP:Int->aA->Option aA):Nat->Int->Int->aA->Option aA
 |0,_,_,_=>none
 |n+1,a2,L,t4=>Tf k o q aP (we k o q aP n) a2 L t4
def QF(k:Nat)(q:Int)(aP:Int->aA->Option aA)(o:Int)(t3:List bz):Option aA:=
 if decide (o<q)then
  we k q o aP k (0:Int) (aj ((2:Int)*o)) t3
 else
  some t3
def xY(k:Nat)(o:Int):Nat->Int->aA->Option aA
 |0,_,_=>none
 |n+1,q,t3=>QF k o (xY k o n) q t3
def UR(k:Nat)(q:Int)(O:Int->Int->aA->Option aA)(L:Int)(o:Int)(t2:List bz):Option aA:=
 if decide (o<=q)then
  (
   Option.bind (pj k L o t2) fun v1=>
   O o (aj (o+(20:Int))) v1
  )
 else
  (
   Option.bind (pj k L q t2) fun v2=>
   xY k q k (20:Int) v2
  )
def AR(k:Nat)(o:Int):Nat->Int->Int->aA->Option aA
 |0,_,_,_=>none
 |n+1,q,L,t2=>UR k o (AR k o n) q L t2
def sr(k:Nat)(o:Int)(l1:List bz):Option aA:=
 AR k o k (0:Int) (20:Int) l1
def vw(k:Nat)(l1:List bz):Option aA:=
 Option.bind (sr k (List.length l1:Int) l1) fun v1=>
 some v1
def yN(aP:Int->Int->aA->Option bS)(t4:Int)(t6:Int)(o:List bz):Option bS:=
 aP (aj (t4+(1:Int))) t6 o
def Nu(k:Nat)(q:List bz)(O:Int->(List (Int))->(List (Int))->Option bS)(t7:Int)(t8:List (Int))(t9:List (Int)):Option bS:=
 if decide (t7<(List.length q:Int))then
  (
   Option.bind (aq q t7) fun o=>
   Option.bind (aL (List.length t8+List.length ([o.1]:List (Int))<=br)) fun _=>
   Option.bind (aL (List.length t9+List.length ([o.2.1]:List (Int))<=br)) fun _=>
   O (aj (t7+(1:Int))) (t8++([o.1]:List (Int))) (t9++([o.2.1]:List (Int)))
  )
 else
  (
   Option.bind (jl k (0:Int) t8 t9) fun L=>
   some (L.1,L.2,(0:Int))
  )
def C5(k:Nat)(o:List bz):Nat->Int->(List (Int))->(List (Int))->Option bS
 |0,_,_,_=>none
 |n+1,t7,t8,t9=>Nu k o (C5 k o n) t7 t8 t9
def VX(k:Nat)(l1:List (List UInt8))(O:aC)(t1:eE)(R:List UInt8)(aP:Int->Int->aA->Option bS)(t4:Int)(t5:Int)(L:List bz):Option bS:=
 if decide (t4<(List.length l1:Int))then
  (
   Option.bind (aq l1 t4) fun Y=>
   Option.bind (fD k (O.1,O.2.1,()) (t1.1.1,t1.1.2.1,()) Y) fun o=>
   if o.2 !=(0:Int)then
    (
     Option.bind (jl k o.2 ([]:List (Int)) ([]:List (Int))) fun v9=>
     some (v9.1,v9.2,o.2)
    )
   else
    (
     Option.bind (AK k ((t1.1.1,t1.1.2.1,()),t1.2.1,t1.2.2.1,t1.2.2.2.1,t1.2.2.2.2.1,t1.2.2.2.2.2.1,t1.2.2.2.2.2.2.1,()) o.1 R) fun q=>
     if q.2 !=(0:Int)then
      (
       Option.bind (jl k q.2 ([]:List (Int)) ([]:List (Int))) fun U=>
       some (U.1,U.2,q.2)
      )
     else
      (
       if(List.length q.1:Int)==(0:Int)then
        yN aP t4 q.2 L
       else
        (
         Option.bind (vq k (t1.1.1,t1.1.2.1,()) o.1 R) fun v12=>
         if v12.2.2 !=(0:Int)then
          (
           Option.bind (jl k v12.2.2 ([]:List (Int)) ([]:List (Int))) fun W=>
           some (W.1,W.2,v12.2.2)
          )
         else
          (
           Option.bind (aL (List.length L+List.length ([(t4,v12.1,())]:List bz)<=br)) fun _=>
           yN aP t4 v12.2.2 (L++([(t4,v12.1,())]:List bz))
          )
        )
      )
    )
  )
 else
  (
   Option.bind (vw k L) fun Z=>
   C5 k Z k (0:Int) ([]:List (Int)) ([]:List (Int))
  )
def Bs(k:Nat)(l1:List (List UInt8))(o:aC)(t1:eE)(q:List UInt8):Nat->Int->Int->aA->Option bS
 |0,_,_,_=>none
 |n+1,t4,t5,L=>VX k l1 o t1 q (Bs k l1 o t1 q n) t4 t5 L
def UK(k:Nat)(l1:List (List UInt8))(q:aC)(t1:eE)(L:List UInt8)(R:Int->Int->Option bS)(t2:Int)(t3:Int):Option bS:=
 if decide (t2<(List.length l1:Int))then
  (
   Option.bind (aq l1 t2) fun U=>
   Option.bind (kW k (q.1,q.2.1,()) U) fun v4=>
   if v4 !=(0:Int)then
    (
     Option.bind (jl k v4 ([]:List (Int)) ([]:List (Int))) fun v5=>
     some (v5.1,v5.2,v4)
    )
   else
    R (aj (t2+(1:Int))) v4
  )
 else
  (
   Option.bind (kW k (t1.1.1,t1.1.2.1,()) L) fun o=>
   if o !=(0:Int)then
    (
     Option.bind (jl k o ([]:List (Int)) ([]:List (Int))) fun O=>
     some (O.1,O.2,o)
    )
   else
    Bs k l1 q t1 L k (0:Int) o ([]:List bz)
  )
def BB(k:Nat)(l1:List (List UInt8))(o:aC)(t1:eE)(q:List UInt8):Nat->Int->Int->Option bS
 |0,_,_=>none
 |n+1,t2,t3=>UK k l1 o t1 q (BB k l1 o t1 q n) t2 t3
def qT(k:Nat)(o:aC)(t1:eE)(l1:List (List UInt8))(q:List UInt8):Option bS:=
 Option.bind (uc k (o.1,o.2.1,()) ((t1.1.1,t1.1.2.1,()),t1.2.1,t1.2.2.1,t1.2.2.2.1,t1.2.2.2.2.1,t1.2.2.2.2.2.1,t1.2.2.2.2.2.2.1,()) ([]:List UInt8)) fun v1=>
 if v1.2 !=(0:Int)then
  (
   Option.bind (jl k v1.2 ([]:List (Int)) ([]:List (Int))) fun v2=>
   some (v2.1,v2.2,v1.2)
  )
 else
  (
   if decide ((4096:Int)<(List.length l1:Int))then
    (
     Option.bind (jl k (4:Int) ([]:List (Int)) ([]:List (Int))) fun v3=>
     some (v3.1,v3.2,(4:Int))
    )
   else
    BB k l1 o t1 q k (0:Int) v1.2
  )
def B6(o:Int->aG->Option bX)(t2:Int)(l2:List (List UInt8)):Option bX:=
 o (aj (t2+(1:Int))) l2
def SK(k:Nat)(t1:eE)(q:List UInt8)(o:Int->aG->Option bX)(t2:Int)(l1:List (List UInt8)):Option bX:=
 if decide (t2<(aj ((List.length t1.2.2.2.2.2.1:Int)+(1:Int))))then
  (
   Option.bind (dx t1.2.2.2.2.2.1 t2 (t1.2.2.2.2.2.1.length:Int)) fun L=>
   Option.bind (AZ k (t1.1.1,t1.1.2.1,()) L q) fun v3=>
   if v3.2 !=(0:Int)then
    some (([]:List (List UInt8)),v3.2)
   else
    (
     Option.bind (xc k l1 v3.1) fun v4=>
     if !v4 then
      (
       Option.bind (aL (List.length l1+List.length ([v3.1]:List (List UInt8))<=br)) fun _=>
       B6 o t2 (l1++([v3.1]:List (List UInt8)))
      )
     else
      B6 o t2 l1
    )
  )
 else
  some (l1,(0:Int))
def C7(k:Nat)(t1:eE)(o:List UInt8):Nat->Int->aG->Option bX
 |0,_,_=>none
 |n+1,t2,l1=>SK k t1 o (C7 k t1 o n) t2 l1
def BL(k:Nat)(t1:eE)(o:List UInt8):Option bX:=
 Option.bind (Ab k ((t1.1.1,t1.1.2.1,()),t1.2.1,t1.2.2.1,t1.2.2.2.1,t1.2.2.2.2.1,t1.2.2.2.2.2.1,t1.2.2.2.2.2.2.1,())) fun v1=>
 if v1 !=(0:Int)then
  some (([]:List (List UInt8)),v1)
 else
  (
   Option.bind (kW k (t1.1.1,t1.1.2.1,()) o) fun v2=>
   if v2 !=(0:Int)then
    some (([]:List (List UInt8)),v2)
   else
    C7 k t1 o k (0:Int) ([]:List (List UInt8))
  )
def B0(t18:Bool):Option Bool:=
 some (t18)
def zC(o:bX)(t17:Bool):Option Bool:=
 if t17 then
  (
   Option.bind (aq o.1 (2:Int)) fun q=>
   B0 (q==([116,97,110]:List UInt8))
  )
 else
  B0 false
def Ex(o:bX)(t16:Bool):Option Bool:=
 if t16 then
  (
   Option.bind (aq o.1 (0:Int)) fun q=>
   zC o (q==([110,97]:List UInt8))
  )
 else
  zC o false
def CX(q:bS)(o:bX)(t15:Bool):Option Bool:=
 if t15 then
  (
   Option.bind (aq q.2.1 (1:Int)) fun L=>
   Ex o (L==(3:Int))
  )
 else
  Ex o false
def EH(o:bS)(q:bX)(t14:Bool):Option Bool:=
 if t14 then
  (
   Option.bind (aq o.1 (1:Int)) fun L=>
   CX o q (L==(1:Int))
  )
 else
  CX o q false
def vX(L:bF)(o:bS)(q:bX)(t13:Bool):Option Bool:=
 if t13 then
  (
   Option.bind (aq L.1 (1:Int)) fun O=>
   EH o q (O==(2:Int))
  )
 else
  EH o q false
def Wc(o:bF)(q:bS)(L:bX)(t12:Bool):Option Bool:=
 if t12 then
  (
   Option.bind (aq o.1 (0:Int)) fun O=>
   vX o q L (O==(1:Int))
  )
 else
  vX o q L false
def Pm(o:bF)(q:bS)(L:bX)(v5:bc)(t11:Bool):Option Bool:=
 Wc o q L (t11&&(v5.1==([110,97,116]:List UInt8)))
def SJ(o:bF)(q:bS)(L:bX)(v5:bc)(v3:bc)(v4:bc)(t10:Bool):Option Bool:=
 if t10 then
  some (false)
 else
  Pm o q L v5 ((v3.1==([116,97,116]:List UInt8))&&(v4.1==([112,97,112]:List UInt8)))
def WT(q:bF)(L:bS)(o:bX)(v5:bc)(v3:bc)(v4:bc)(t9:Bool):Option Bool:=
 SJ q L o v5 v3 v4 (t9||((List.length o.1:Int)!=(3:Int)))
def VS(q:bF)(o:bS)(L:bX)(v5:bc)(v3:bc)(v4:bc)(t8:Bool):Option Bool:=
 WT q o L v5 v3 v4 (t8||((List.length o.2.1:Int)!=(2:Int)))
def Us(q:bF)(o:bS)(L:bX)(v5:bc)(v3:bc)(v4:bc)(t7:Bool):Option Bool:=
 VS q o L v5 v3 v4 (t7||((List.length o.1:Int)!=(2:Int)))
def Ui(o:bF)(q:bS)(L:bX)(v5:bc)(v3:bc)(v4:bc)(t6:Bool):Option Bool:=
 Us o q L v5 v3 v4 (t6||((List.length o.1:Int)!=(2:Int)))
def QC(o:bF)(q:bS)(L:bX)(v5:bc)(v3:bc)(v4:bc)(v9:bc)(t5:Bool):Option Bool:=
 Ui o q L v5 v3 v4 (t5||(v9.2 !=(2:Int)))
def LQ(q:bF)(L:bS)(o:bX)(v5:bc)(v3:bc)(v4:bc)(v9:bc)(t4:Bool):Option Bool:=
 QC q L o v5 v3 v4 v9 (t4||(o.2 !=(0:Int)))
def Oo(q:bF)(o:bS)(L:bX)(v5:bc)(v3:bc)(v4:bc)(v9:bc)(t3:Bool):Option Bool:=
 LQ q o L v5 v3 v4 v9 (t3||(o.2.2 !=(0:Int)))
def M0(o:bF)(q:bS)(L:bX)(v5:bc)(v3:bc)(v4:bc)(v9:bc)(t2:Bool):Option Bool:=
 Oo o q L v5 v3 v4 v9 (t2||(o.2 !=(0:Int)))
def Xs(o:bF)(q:bS)(L:bX)(v5:bc)(v3:bc)(v4:bc)(v9:bc)(t1:Bool):Option Bool:=
 M0 o q L v5 v3 v4 v9 (t1||(v5.2 !=(0:Int)))
def sN(k:Nat):Option Bool:=
 Option.bind (AX k) fun v1=>
 Option.bind (DN k) fun v2=>
 Option.bind (fD k (v1.1,v1.2.1,()) (v2.1.1,v2.1.2.1,()) ([112,97,98]:List UInt8)) fun v3=>
 Option.bind (fD k (v2.1.1,v2.1.2.1,()) (v1.1,v1.2.1,()) ([116,97,110]:List UInt8)) fun v4=>
 Option.bind (me k (v1.1,v1.2.1,()) ((v2.1.1,v2.1.2.1,()),v2.2.1,v2.2.2.1,v2.2.2.2.1,v2.2.2.2.2.1,v2.2.2.2.2.2.1,v2.2.2.2.2.2.2.1,()) ([112,97,98]:List UInt8) (0:Int)) fun v5=>
 Option.bind (tn k (v1.1,v1.2.1,()) ((v2.1.1,v2.1.2.1,()),v2.2.1,v2.2.2.1,v2.2.2.2.1,v2.2.2.2.2.1,v2.2.2.2.2.2.1,v2.2.2.2.2.2.2.1,()) ([112,97]:List UInt8) ([116,97]:List UInt8)) fun o=>
 Option.bind (qT k (v1.1,v1.2.1,()) ((v2.1.1,v2.1.2.1,()),v2.2.1,v2.2.2.1,v2.2.2.2.1,v2.2.2.2.2.1,v2.2.2.2.2.2.1,v2.2.2.2.2.2.2.1,()) ([([112,97]:List UInt8),([98,97]:List UInt8),([97]:List UInt8)]:List (List UInt8)) ([110,97]:List UInt8)) fun q=>
 Option.bind (BL k ((v2.1.1,v2.1.2.1,()),v2.2.1,v2.2.2.1,v2.2.2.2.1,v2.2.2.2.2.1,v2.2.2.2.2.2.1,v2.2.2.2.2.2.2.1,()) ([116,97,110]:List UInt8)) fun L=>
 Option.bind (me k (v1.1,v1.2.1,()) ((v2.1.1,v2.1.2.1,()),v2.2.1,v2.2.2.1,v2.2.2.2.1,v2.2.2.2.2.1,v2.2.2.2.2.2.1,v2.2.2.2.2.2.2.1,()) ([112,97]:List UInt8) (3:Int)) fun v9=>
 Xs o q L v5 v3 v4 v9 ((v3.2 !=(0:Int))||(v4.2 !=(0:Int)))
def RY(o:Int)(q:Int->(List (Int))->Option (List UInt8))(i1:Int)(t1:List (Int)):Option (List UInt8):=
 if decide (i1<o)then
  (
   Option.bind (aq t1 i1) fun L=>
   q (aj (i1+(1:Int))) (List.set t1 (i1).toNat (112:Int))
  )
 else
  some (fa t1)
def Du(o:Int):Nat->Int->(List (Int))->Option (List UInt8)
 |0,_,_=>none
 |n+1,i1,t1=>RY o (Du o n) i1 t1
def As(k:Nat)(o:Int):Option (List UInt8):=
 Option.bind (aL (0<=o/\o<=o/\o<=(br:Int))) fun _=>
 Du o k (0:Int) (List.replicate (o).toNat (0:Int))
def Td(t17:Bool):Option Bool:=
 some (t17)
def Wo(o:bS)(t16:Bool):Option Bool:=
 Td (t16&&((List.length o.2.1:Int)==(0:Int)))
def Tn(o:bS)(t15:Bool):Option Bool:=
 Wo o (t15&&((List.length o.1:Int)==(0:Int)))
def By(o:bS)(t14:Bool):Option Bool:=
 Tn o (t14&&(o.2.2==(5:Int)))
def Uf(v5:bc)(o:bS)(t13:Bool):Option Bool:=
 if t13 then
  some (false)
 else
  (
   if(List.length v5.1:Int)==(64:Int)then
    (
     Option.bind (dZ v5.1 (63:Int)) fun q=>
     By o (q==(116:Int))
    )
   else
    By o false
  )
def UH(v5:bc)(o:bS)(v20:bX)(t12:Bool):Option Bool:=
 Uf v5 o (t12||(v20.2 !=(5:Int)))
def Xj(v5:bc)(o:bS)(v20:bX)(q:bS)(t11:Bool):Option Bool:=
 UH v5 o v20 (t11||(q.2.2 !=(5:Int)))
def TE(v5:bc)(o:bS)(v20:bX)(q:bS)(v17:bS)(t10:Bool):Option Bool:=
 Xj v5 o v20 q (t10||(v17.2.2 !=(4:Int)))
def NX(v5:bc)(o:bS)(v20:bX)(q:bS)(v17:bS)(L:bF)(t9:Bool):Option Bool:=
 TE v5 o v20 q v17 (t9||(L.2 !=(5:Int)))
def QG(v5:bc)(o:bS)(v20:bX)(q:bS)(v17:bS)(L:bF)(O:bF)(t8:Bool):Option Bool:=
 NX v5 o v20 q v17 L (t8||(O.2 !=(5:Int)))
def O8(v5:bc)(o:bS)(v20:bX)(q:bS)(v17:bS)(L:bF)(O:bF)(R:bc)(t7:Bool):Option Bool:=
 QG v5 o v20 q v17 L O (t7||(R.2 !=(20:Int)))
def QO(v5:bc)(o:bS)(v20:bX)(q:bS)(v17:bS)(L:bF)(O:bF)(R:bc)(U:bc)(t6:Bool):Option Bool:=
 O8 v5 o v20 q v17 L O R (t6||(U.2 !=(7:Int)))
def MH(v5:bc)(o:bS)(v20:bX)(q:bS)(v17:bS)(L:bF)(O:bF)(R:bc)(U:bc)(v12:bc)(t5:Bool):Option Bool:=
 QO v5 o v20 q v17 L O R U (t5||(v12.2 !=(5:Int)))
def XA(v5:bc)(o:bS)(v20:bX)(q:bS)(v17:bS)(L:bF)(O:bF)(R:bc)(U:bc)(v12:bc)(W:bc)(t4:Bool):Option Bool:=
 MH v5 o v20 q v17 L O R U v12 (t4||(W.2 !=(2:Int)))
def Ob(v5:bc)(o:bS)(v20:bX)(q:bS)(v17:bS)(L:bF)(O:bF)(R:bc)(U:bc)(v12:bc)(W:bc)(Y:bc)(t3:Bool):Option Bool:=
 XA v5 o v20 q v17 L O R U v12 W (t3||(Y.2 !=(0:Int)))
def Md(v5:bc)(o:bS)(v20:bX)(q:bS)(v17:bS)(L:bF)(O:bF)(R:bc)(U:bc)(v12:bc)(W:bc)(Y:bc)(v9:bc)(t2:Bool):Option Bool:=
 Ob v5 o v20 q v17 L O R U v12 W Y (t2||(v9.2 !=(7:Int)))
def WQ(v5:bc)(o:bS)(v20:bX)(q:bS)(v17:bS)(L:bF)(O:bF)(R:bc)(U:bc)(v12:bc)(W:bc)(Y:bc)(v9:bc)(Z:bc)(t1:Bool):Option Bool:=
 Md v5 o v20 q v17 L O R U v12 W Y v9 (t1||(Z.2 !=(7:Int)))
def Sp(k:Nat):Option Bool:=
 Option.bind (sN k) fun v1=>
 if !v1 then
  some (false)
 else
  (
   Option.bind (AX k) fun v2=>
   Option.bind (DN k) fun v3=>
   Option.bind (As k (64:Int)) fun v4=>
   Option.bind (fD k (v2.1,v2.2.1,()) (v3.1.1,v3.1.2.1,()) v4) fun v5=>
   Option.bind (As k (65:Int)) fun o=>
   Option.bind (fD k (v2.1,v2.2.1,()) (v3.1.1,v3.1.2.1,()) o) fun q=>
   Option.bind (fD k (([]:List (List UInt8)),([]:List aw),()) (([]:List (List UInt8)),([]:List aw),()) ([255]:List UInt8)) fun L=>
   Option.bind (fD k (v2.1,v2.2.1,()) (([]:List (List UInt8)),([]:List aw),()) ([255]:List UInt8)) fun v9=>
   Option.bind (me k (v2.1,v2.2.1,()) ((v3.1.1,v3.1.2.1,()),v3.2.1,v3.2.2.1,v3.2.2.2.1,v3.2.2.2.2.1,v3.2.2.2.2.2.1,v3.2.2.2.2.2.2.1,()) ([112,97]:List UInt8) (2:Int)) fun O=>
   Option.bind (me k (v2.1,v2.2.1,()) ((v3.1.1,v3.1.2.1,()),v3.2.1,v3.2.2.1,v3.2.2.2.1,v3.2.2.2.2.1,v3.2.2.2.2.2.1,v3.2.2.2.2.2.2.1,()) ([112,97]:List UInt8) (-1:Int)) fun R=>
   Option.bind (me k (v2.1,v2.2.1,()) ((v3.1.1,v3.1.2.1,()),v3.2.1,v3.2.2.1,v3.2.2.2.1,v3.2.2.2.2.1,v3.2.2.2.2.2.1,v3.2.2.2.2.2.2.1,()) ([120]:List UInt8) (-1:Int)) fun v12=>
   Option.bind (me k (([]:List (List UInt8)),([]:List aw),()) ((([]:List (List UInt8)),([]:List aw),()),(0:Int),(0:Int),([]:List mc),([]:List mn),([]:List fA),([]:List (List UInt8)),()) ([120]:List UInt8) (-1:Int)) fun U=>
   Option.bind (me k (v2.1,v2.2.1,()) ((v3.1.1,v3.1.2.1,()),(0:Int),(0:Int),([]:List mc),([]:List mn),([]:List fA),([]:List (List UInt8)),()) ([120]:List UInt8) (-1:Int)) fun W=>
   Option.bind (tn k (v2.1,v2.2.1,()) ((v3.1.1,v3.1.2.1,()),v3.2.1,v3.2.2.1,v3.2.2.2.1,v3.2.2.2.2.1,v3.2.2.2.2.2.1,v3.2.2.2.2.2.2.1,()) ([120]:List UInt8) ([112]:List UInt8)) fun Y=>
   Option.bind (tn k (v2.1,v2.2.1,()) ((v3.1.1,v3.1.2.1,()),v3.2.1,v3.2.2.1,v3.2.2.2.1,v3.2.2.2.2.1,v3.2.2.2.2.2.1,v3.2.2.2.2.2.2.1,()) ([112,97]:List UInt8) ([112]:List UInt8)) fun Z=>
   Option.bind (aL (0<=(4097:Int)/\(4097:Int)<=(4097:Int)/\(4097:Int)<=(br:Int))) fun _=>
   Option.bind (qT k (v2.1,v2.2.1,()) ((v3.1.1,v3.1.2.1,()),v3.2.1,v3.2.2.1,v3.2.2.2.1,v3.2.2.2.2.1,v3.2.2.2.2.2.1,v3.2.2.2.2.2.2.1,()) (List.replicate ((4097:Int)).toNat ([]:List UInt8)) ([112]:List UInt8)) fun v17=>
   Option.bind (qT k (v2.1,v2.2.1,()) ((v3.1.1,v3.1.2.1,()),v3.2.1,v3.2.2.1,v3.2.2.2.1,v3.2.2.2.2.1,v3.2.2.2.2.2.1,v3.2.2.2.2.2.2.1,()) ([([120]:List UInt8)]:List (List UInt8)) ([112]:List UInt8)) fun la=>
   Option.bind (qT k (v2.1,v2.2.1,()) ((v3.1.1,v3.1.2.1,()),v3.2.1,v3.2.2.1,v3.2.2.2.1,v3.2.2.2.2.1,v3.2.2.2.2.2.1,v3.2.2.2.2.2.2.1,()) ([([98,97]:List UInt8),([97]:List UInt8),([116,97]:List UInt8),([112,97]:List UInt8)]:List (List UInt8)) ([116,97]:List UInt8)) fun lb=>
   Option.bind (BL k ((v3.1.1,v3.1.2.1,()),v3.2.1,v3.2.2.1,v3.2.2.2.1,v3.2.2.2.2.1,v3.2.2.2.2.2.1,v3.2.2.2.2.2.2.1,()) ([112]:List UInt8)) fun v20=>
   WQ v5 lb v20 la v17 Z Y W U v12 R O v9 L ((v5.2 !=(0:Int))||(q.2 !=(4:Int)))
  )
def uV(k:Nat)(o:aC)(q:List UInt8):Option (Int×Int):=
 Option.bind (fR k (o.1,o.2.1,())) fun v1=>
 if v1 !=(0:Int)then
  some ((0:Int),v1)
 else
  (
   Option.bind (qV k o.1 q) fun v2=>
   if decide (v2<(0:Int))then
    some ((0:Int),(8:Int))
   else
    (
     Option.bind (aL (0<=v2)) fun _=>
     some (cA ((1:Int)*2^min (v2).toNat 32),(0:Int))
    )
  )
def pq(k:Nat)(o:aC)(l1:cz)(q:List UInt8):Option Int:=
 Option.bind (uV k (o.1,o.2.1,()) q) fun v1=>
 if v1.2 !=(0:Int)then
  some ((0:Int))
 else
  (
   if(cA (BitVec.toNat (BitVec.ofInt 32 l1.2.1&&&BitVec.ofInt 32 v1.1)))!=(0:Int)then
    some ((1:Int))
   else
    (
     if(cA (BitVec.toNat (BitVec.ofInt 32 l1.2.2.1&&&BitVec.ofInt 32 v1.1)))!=(0:Int)then
      some ((2:Int))
     else
      some ((0:Int))
    )
  )
def ui(o:Int->Int->Option Int)(i1:Int)(q:Int):Option Int:=
 o q (aj (i1+(1:Int)))
def Hh(k:Nat)(o:aC)(R:aC)(q:cz)(L:cz)(U:Int->Int->Option Int)(O:Int)(i1:Int):Option Int:=
 if decide (i1<(List.length o.1:Int))then
  (
   Option.bind (aq o.1 i1) fun W=>
   Option.bind (pq k (R.1,R.2.1,()) (q.1,q.2.1,q.2.2.1,()) W) fun v1=>
   Option.bind (pq k (o.1,o.2.1,()) (L.1,L.2.1,L.2.2.1,()) W) fun v2=>
   if v1 !=v2 then
    ui U i1 (aj (O+(1:Int)))
   else
    ui U i1 O
  )
 else
  some (O)
def pL(k:Nat)(o:aC)(q:aC)(L:cz)(O:cz):Nat->Int->Int->Option Int
 |0,_,_=>none
 |n+1,R,i1=>Hh k o q L O (pL k o q L O n) R i1
def ng(k:Nat)(o:aC)(q:aC)(L:cz)(O:cz):Option Int:=
 pL k q o L O k (0:Int) (0:Int)
def qh(o:Int->aG->aJ->aG->aJ->Option Bool)(i1:Int)(q:List (List UInt8))(L:List aw)(O:List (List UInt8))(R:List aw):Option Bool:=
 o (aj (i1+(1:Int))) q L O R
def sV(aP:Bool->Int->Option Bool)(t9:Bool)(o:Int)(t10:Bool):Option Bool:=
 if t10 then
  some (false)
 else
  aP t9 (aj (o+(1:Int)))
def JC(aP:Bool->Int->Option Bool)(t9:Bool)(o:Int)(t11:Bool):Option Bool:=
 sV aP t9 o t11
def su(o:Int)(q:Int)(aP:Bool->Int->Option Bool)(L:Int)(t9:Bool):Option Bool:=
 if decide (o<q)then
  sV aP t9 L true
 else
  JC aP t9 L ((o==q)&&(!t9))
def I6(k:Nat)(o:List aw)(O:List (List UInt8))(R:List aw)(U:List (List UInt8))(L:iD)(W:Int)(la:bF)(i1:Int)(lb:Int->aG->aJ->aG->aJ->Option Bool)(aP:Bool->Int->Option Bool)(lc:Bool)(q:Int):Option Bool:=
 if decide (q<(List.length o:Int))then
  (
   Option.bind (aq o q) fun Y=>
   Option.bind (ng k (O,R,()) (U,o,()) (L.1.1,L.1.2.1,L.1.2.2.1,()) Y) fun Z=>
   if lc then
    su Z W aP q true
   else
    (
     Option.bind (aq la.1 i1) fun ld=>
     su Z W aP q (Y.1==ld)
    )
  )
 else
  qh lb i1 O R U o
def qY(k:Nat)(o:List aw)(q:List (List UInt8))(L:List aw)(O:List (List UInt8))(R:iD)(U:Int)(W:bF)(i1:Int)(Y:Int->aG->aJ->aG->aJ->Option Bool):Nat->Bool->Int->Option Bool
 |0,_,_=>none
 |n+1,Z,la=>I6 k o q L O R U W i1 Y (qY k o q L O R U W i1 Y n) Z la
def s5(k:Nat)(v9:iD)(W:Int->aG->aJ->aG->aJ->Option Bool)(i1:Int)(q:List (List UInt8))(L:List aw)(O:List (List UInt8))(R:List aw)(o:iD)(U:iD)(Y:bF)(t8:Bool):Option Bool:=
 if t8 then
  some (false)
 else
  (
   if v9.2==(0:Int)then
    qh W i1 q L O R
   else
    (
     Option.bind (ng k (q,L,()) (O,R,()) (o.1.1,o.1.2.1,o.1.2.2.1,()) (U.1.1,U.1.2.1,U.1.2.2.1,())) fun Z=>
     qY k R q L O o Z Y i1 W k false (0:Int)
    )
  )
def sC(k:Nat)(v9:iD)(o:Int->aG->aJ->aG->aJ->Option Bool)(i1:Int)(q:List (List UInt8))(L:List aw)(O:List (List UInt8))(R:List aw)(U:iD)(W:iD)(Y:bF)(t12:Bool):Option Bool:=
 s5 k v9 o i1 q L O R U W Y t12
def Gr(k:Nat)(v9:iD)(q:Int->aG->aJ->aG->aJ->Option Bool)(i1:Int)(L:List (List UInt8))(O:List aw)(R:List (List UInt8))(U:List aw)(W:iD)(Y:iD)(o:bF)(v5:bF)(t7:Bool):Option Bool:=
 if t7 then
  s5 k v9 q i1 L O R U W Y o true
 else
  (
   if v9.2==(0:Int)then
    (
     Option.bind (aq o.1 i1) fun Z=>
     Option.bind (aq v5.1 i1) fun la=>
     sC k v9 q i1 L O R U W Y o (Z !=la)
    )
   else
    sC k v9 q i1 L O R U W Y o false
  )
def E2(k:Nat)(v5:bF)(i1:Int)(L:List (List UInt8))(O:List aw)(R:bF)(o:List (List UInt8))(q:List aw)(Z:Int->aG->aJ->aG->aJ->Option Bool)(t6:Bool):Option Bool:=
 if t6 then
  (
   Option.bind (aq v5.1 i1) fun U=>
   Option.bind (fK k (L,O,()) U) fun W=>
   Option.bind (aq R.1 i1) fun la=>
   Option.bind (fK k (o,q,()) la) fun Y=>
   Option.bind (fK k (o,q,()) U) fun v9=>
   Gr k v9 Z i1 L O o q W Y R v5 ((W.2 !=(0:Int))||(Y.2 !=(0:Int)))
  )
 else
  some (true)
def Lw(k:Nat)(v5:bF)(o:bF)(q:Int->aG->aJ->aG->aJ->Option Bool)(i1:Int)(L:List (List UInt8))(O:List aw)(R:List (List UInt8))(U:List aw):Option Bool:=
 E2 k v5 i1 L O o R U q (decide (i1<(List.length v5.1:Int))&&(decide (i1<(12:Int))))
def o6(k:Nat)(v5:bF)(o:bF):Nat->Int->aG->aJ->aG->aJ->Option Bool
 |0,_,_,_,_,_=>none
 |n+1,i1,q,L,O,R=>Lw k v5 o (o6 k v5 o n) i1 q L O R
def F5(k:Nat)(v5:bF)(L:bF)(o:aC)(q:aC)(t5:Bool):Option Bool:=
 if t5 then
  some (false)
 else
  o6 k v5 L k (0:Int) o.1 o.2.1 q.1 q.2.1
def IK(k:Nat)(v5:bF)(o:bF)(q:aC)(L:aC)(t4:Bool):Option Bool:=
 F5 k v5 o q L (t4||((List.length v5.1:Int)!=(List.length o.1:Int)))
def JL(k:Nat)(o:aC)(O:List UInt8)(q:aC)(v2:bc)(t3:Bool):Option Bool:=
 if t3 then
  some (false)
 else
  (
   Option.bind (kK k (o.1,o.2.1,()) O) fun v5=>
   Option.bind (kK k (q.1,q.2.1,()) v2.1) fun L=>
   IK k v5 L o q ((v5.2 !=(0:Int))||(L.2 !=(0:Int)))
  )
def JY(k:Nat)(q:aC)(o:List UInt8)(L:aC)(v2:bc)(v4:bc)(t2:Bool):Option Bool:=
 JL k q o L v2 (t2||(!(v4.1==o)))
def I7(k:Nat)(o:aC)(q:List UInt8)(L:aC)(v2:bc)(v4:bc)(v3:bc)(t1:Bool):Option Bool:=
 JY k o q L v2 v4 (t1||(!(v3.1==v2.1)))
def vK(k:Nat)(o:aC)(q:aC)(L:List UInt8):Option Bool:=
 Option.bind (sN k) fun v1=>
 if !v1 then
  some (false)
 else
  (
   if decide ((2000:Int)<(List.length L:Int))then
    some (true)
   else
    (
     Option.bind (fD k (o.1,o.2.1,()) (q.1,q.2.1,()) L) fun v2=>
     if v2.2 !=(0:Int)then
      some (v2.1==([]:List UInt8))
     else
      (
       Option.bind (fD k (q.1,q.2.1,()) (q.1,q.2.1,()) v2.1) fun v3=>
       Option.bind (fD k (o.1,o.2.1,()) (o.1,o.2.1,()) L) fun v4=>
       I7 k o L q v2 v4 v3 ((v3.2 !=(0:Int))||(v4.2 !=(0:Int)))
      )
    )
  )
end Go.Ev
namespace Go.Ev
open Go Go.Proofs Go.RowKit
set_option maxRecDepth 100000
set_option maxHeartbeats 1000000
theorem J2:(Tryz.prog.info? 319).map (·.size)=some 2:=by kernel_rfl
theorem Mi:liesAt Tryz.prog Tryz.prog.depth 319 (2/Tryz.prog.cellsOf 319) 0 319 1=true:=by kernel_rfl
theorem Ot(b:Nat)(w:World)(q:w.cell? ⟨b,0,none⟩=some (.pointer (some ⟨b,0,none⟩))):
  Calls Tryz.prog 209 #[.pointer (some ⟨b,0,none⟩)] w fun e w'=>e=.returned (.tuple #[])/\w'=w:=by
 obtain⟨j,o,_⟩:=Option.map_eq_some_iff.1 J2
 go_enter Tryz.func209,Tryz.ntmps209
 go_wp2
 rw[Lib.run_neq_ptr_same w _ Tryz.underlying317 o]
 go_wp2
 go_end0
 exact⟨rfl,rfl⟩
theorem U3(b:Nat)(w:World)(O:w.cell? ⟨b,0,none⟩=some (.pointer none))(o:w.shape? b=some (319,2))(R:w.frozen? ⟨b,0,none⟩=false):
  Calls Tryz.prog 209 #[.pointer (some ⟨b,0,none⟩)] w fun e w'=>e=.returned (.tuple #[])/\w'=w.setCell ⟨b,0,none⟩ (.pointer (some ⟨b,0,none⟩)):=by
 obtain⟨j,q,L⟩:=Option.map_eq_some_iff.1 J2
 go_enter Tryz.func209,Tryz.ntmps209
 go_wp2
 rw[Lib.run_to_unsafe w ⟨b,0,none⟩ Tryz.underlying317 Tryz.underlying337 q (by rw[L];decide) o (Nat.zero_lt_succ 1)]
 simp only[Result.andThen]
 rw[Oper.upon_value]
 go_wp2
 rw[run_callFunc_extern Tryz.func214 (by kernel_rfl) (by kernel_rfl) (by kernel_rfl) (e:=Extern.AbiNoEscape.same) (by kernel_rfl)]
 rw[Lib.run_noEscape]
 simp only[Result.andThen]
 rw[Oper.upon_value]
 go_wp2
 rw[Lib.run_from_unsafe w ⟨b,0,none⟩ Tryz.underlying337 Tryz.underlying317 q o Mi]
 simp only[Result.andThen]
 rw[Oper.upon_value]
 go_wp2
 go_end0
 exact⟨rfl,rfl⟩
theorem QU:Tryz.prog.cellsOf 5=1:=by kernel_rfl
theorem OO(b g cap:Nat)(p:Value)(cur:Array Value)(l:List UInt8)(w:World)(o:l≠[])(L:w.heap[b]? =some (.cells #[p,.slice (some ⟨g,0,none⟩) l.length cap] 319 (0,0)))
  (O:w.heap[g]? =some (.cells cur 5 (0,0)))(Z:l.length<=cap)(R:cap<=maxLen)(la:cur.size=cap)(U:∀(j:Nat) (x:UInt8),l[j]? =some x->cur[j]? =some (Value.int .u8 (x.toNat:Int))):
  Calls Tryz.prog 200 #[.pointer (some ⟨b,0,none⟩)] w fun e w'=>e=.returned (.string ⟨l.toArray⟩)/\w'=w.drew.freeze ⟨g,0,none⟩ l.length:=by
 have lb:0<l.length:=List.length_pos_iff.2 o
 have lc:w.drew.cell? ⟨b,1,none⟩=some (.slice (some ⟨g,0,none⟩) l.length cap):=by
  have:w.drew.heap[b]? =some (.cells #[p,.slice (some ⟨g,0,none⟩) l.length cap] 319 (0,0)):=L
  rw[Lib.cell_of_heap this];rfl
 have ld:(Builtin.unsafeSliceData_ #[134] 334 #[.slice (some ⟨g,0,none⟩) l.length cap]).run Tryz.prog w.drew=.ok (.pointer (some ⟨g,0,none⟩)) w.drew:=
  Lib.run_unsafeSliceData_row _ _ _ _ _ _ (by omega)
 have le:(Builtin.unsafeString_ #[334,3] 9 #[.pointer (some ⟨g,0,none⟩),.int .i64 l.length]).run Tryz.prog w.drew=.ok (.string ⟨l.toArray⟩) (w.drew.freeze ⟨g,0,none⟩ l.length):=by
  have q:w.drew.heap[g]? =some (.cells cur 5 (0,0)):=O
  refine Lib.run_unsafeString_row w.drew 334 3 9 5 Tryz.underlying334 QU g cur.size (by simp[World.shape?,q]) l o (by omega) (by unfold maxLen at R;omega) ?_
  intro j x W
  have Y:(⟨g,0,none⟩:Addr).add j=⟨g,0+j,none⟩:=by unfold Addr.add;split<;>simp_all
  rw[Y,Lib.cell_of_heap q,Nat.zero_add]
  exact U j x W
 have mixed:Tryz.prog.follows .mixedOrders=true:=by kernel_rfl
 go_enter Tryz.func200,Tryz.ntmps200
 go_wp2
 go_region_o
 all_goals (go_wp2;go_ret;exact⟨rfl,rfl⟩)
theorem SL(b:Nat)(p:Value)(w:World)(o:w.heap[b]? =some (.cells #[p,.slice none 0 0] 319 (0,0))):
  Calls Tryz.prog 200 #[.pointer (some ⟨b,0,none⟩)] w fun e w'=>e=.returned (.string ⟨#[]⟩)/\Below w.heap.size w w':=by
 have q:w.drew.cell? ⟨b,1,none⟩=some (.slice none 0 0):=by
  have:w.drew.heap[b]? =some (.cells #[p,.slice none 0 0] 319 (0,0)):=o
  rw[Lib.cell_of_heap this];rfl
 have L:(Builtin.unsafeSliceData_ #[134] 334 #[.slice none 0 0]).run Tryz.prog w.drew=.ok (.pointer none) w.drew:=rfl
 have O:=Lib.run_unsafeString_none (P:=Tryz.prog) (w:=w.drew) 334 3 9
 have R:(ByteArray.empty)=⟨#[]⟩:=rfl
 have mixed:Tryz.prog.follows .mixedOrders=true:=by kernel_rfl
 go_enter Tryz.func200,Tryz.ntmps200
 go_wp2
 go_region_o
 all_goals (go_wp2;go_ret;exact⟨rfl,(Below.refl _ w).drew⟩)
theorem Q0(b g cap:Nat)(p:Value)(w:World)(o:cap≠0)(q:w.heap[b]? =some (.cells #[p,.slice (some ⟨g,0,none⟩) 0 cap] 319 (0,0))):
  Calls Tryz.prog 200 #[.pointer (some ⟨b,0,none⟩)] w fun e w'=>e=.returned (.string ⟨#[]⟩)/\Below w.heap.size w w':=by
 have L:w.drew.cell? ⟨b,1,none⟩=some (.slice (some ⟨g,0,none⟩) 0 cap):=by
  have:w.drew.heap[b]? =some (.cells #[p,.slice (some ⟨g,0,none⟩) 0 cap] 319 (0,0)):=q
  rw[Lib.cell_of_heap this];rfl
 have O:(Builtin.unsafeSliceData_ #[134] 334 #[.slice (some ⟨g,0,none⟩) 0 cap]).run Tryz.prog w.drew=.ok (.pointer (some ⟨g,0,none⟩)) w.drew:=
  Lib.run_unsafeSliceData_row _ _ _ _ _ _ o
 have R:=Lib.run_unsafeString_none (P:=Tryz.prog) (w:=w.drew) 334 3 9
 have mixed:Tryz.prog.follows .mixedOrders=true:=by kernel_rfl
 go_enter Tryz.func200,Tryz.ntmps200
 go_wp2
 go_region_o
 all_goals (go_wp2;go_ret;exact⟨rfl,(Below.refl _ w).drew⟩)
theorem XG(b g:Nat)(p:Value)(cur:Array Value)(w:World)(o:w.heap[b]? =some (.cells #[p,.slice (some ⟨g,0,none⟩) 0 0] 319 (0,0)))(L:w.heap[g]? =some (.cells cur 5 (0,0))):
  Calls Tryz.prog 200 #[.pointer (some ⟨b,0,none⟩)] w fun e w'=>e=.returned (.string ⟨#[]⟩)/\Below w.heap.size w w':=by
 have O:b<w.heap.size:=(Array.getElem?_eq_some_iff.1 o).1
 have R:w.drew.heap[b]? =some (.cells #[p,.slice (some ⟨g,0,none⟩) 0 0] 319 (0,0)):=o
 have U:w.drew.heap[g]? =some (.cells cur 5 (0,0)):=L
 have q:w.drew.cell? ⟨b,1,none⟩=some (.slice (some ⟨g,0,none⟩) 0 0):=by
  rw[Lib.cell_of_heap R];rfl
 have c2:(w.drew.alloc (.view ⟨g,0,none⟩ 5)).cell? ⟨b,1,none⟩=some (.slice (some ⟨g,0,none⟩) 0 0):=by
  rw[World.cell?_of_block (w:=w.drew) (Below.heap_alloc w.drew _ b O)];exact q
 have Z:(Builtin.unsafeSliceData_ #[134] 334 #[.slice (some ⟨g,0,none⟩) 0 0]).run Tryz.prog w.drew=.ok (.pointer (some ⟨w.drew.heap.size,0,none⟩)) (w.drew.alloc (.view ⟨g,0,none⟩ 5)):=
  Lib.run_unsafeSliceData_zero w.drew _ _ _ Tryz.underlying334 _ _ (5,cur.size) (by simp[World.shape?,U])
 have la:=Lib.run_unsafeString_none (P:=Tryz.prog) (w:=w.drew.alloc (.view ⟨g,0,none⟩ 5)) 334 3 9
 have lb:=Lib.run_unsafeString_none (P:=Tryz.prog) (w:=(w.alloc (.view ⟨g,0,none⟩ 5)).drew) 334 3 9
 have c3:w.cell? ⟨b,1,none⟩=some (.slice (some ⟨g,0,none⟩) 0 0):=q
 have mixed:Tryz.prog.follows .mixedOrders=true:=by kernel_rfl
 have W:Below w.heap.size w (w.drew.alloc (.view ⟨g,0,none⟩ 5)):=⟨rfl,rfl,rfl,by simp,fun k Y=>Below.heap_alloc w.drew _ k Y⟩
 go_enter Tryz.func200,Tryz.ntmps200
 go_wp2
 go_region_o
 all_goals (go_wp2;go_ret;exact⟨rfl,W⟩)
/-! The builder's functions. -/
def jZ(k:Nat):bU (List Int) Unit where
 n:=20
 S:=fun z=>⟨[(0,.ptr 20 0)],[(20,.cells [.eX 20,.row 21] 319)],[(21,⟨5,.int .u8,z⟩)]⟩
 bJ:=fun z _=>⟨[],[(20,.cells [.eX 20,.row 21] 319)],[(21,⟨5,.int .u8,z⟩)]⟩
 ap:=fun _ _=>[]
 rel:=fun z y=>zU k z=some y
def ro(k:Nat):bU (List Int) (List UInt8) where
 n:=14
 S:=fun z=>⟨[(0,.ptr 14 0)],[(14,.cells [.eX 14,.row 15] 319)],[(15,⟨5,.int .u8,z⟩)]⟩
 bJ:=fun _ _=>⟨[],[],[]⟩
 ap:=fun _ y=>[bj y]
 rel:=fun z y=>rj k z=some y
theorem F3{n:Nat}{vs:List Value}{v:Value}(o:vs.length=1)(h:(vs.toArray++Array.replicate (n-vs.toArray.size) undef)[0]? =some v):vs=[v]:=by
 match vs,o with
 |[u],_=>
  rw[Array.getElem?_append_left (by simp)]at h
  simpa using h
theorem Uz{w:World}{b i:Nat}{cs:Array Value}{t:TypeId}(h:w.heap[b]? =some (.cells cs t (0,0)))(v:Value):(w.setCell ⟨b,i,none⟩ v).heap[b]? =some (.cells (cs.setIfInBounds i v) t (0,0)):=by
 simp[World.setCell,Array.getElem?_modify,h]
theorem Ox{w:World}{b i k:Nat}(v:Value)(h:k≠b):(w.setCell ⟨b,i,none⟩ v).heap[k]? =w.heap[k]? :=by
 simp[World.setCell,Array.getElem?_modify,Ne.symm h]
theorem Xx{G:World->Prop}(k:Nat):cb Tryz.prog G 209 (jZ k) where
 enters:=enters_of Tryz.func209 (by kernel_rfl) rfl
 calls:=by
  rintro cx lm Y ln z y lo vs w ld ⟨m,O⟩
  obtain⟨v,le,g,L,rfl⟩:=O.cJ 0 (.ptr 20 0) List.mem_cons_self
  have lf:=F3 (n:=20) ld le
  subst lf
  have Z:(20,bT.cells [.eX 20,.row 21] 319)∈((jZ k).S z).ad:=List.mem_cons_self
  obtain⟨o,la,lp,cells,R,lg⟩:=O.boxes _ _ Z
  have:o=g:=by rw[L]at la;cases la;rfl
  subst this
  obtain⟨p,u,lh,q,U⟩:∃p u,cells.toList=[p,u]/\(p=.pointer none\/p=m 20)/\u=m 21:=by
   match lq:cells.toList,lg with
   |[p,u],⟨q,U,_⟩=>exact⟨p,u,rfl,q,U⟩
  have li:cells=#[p,u]:=Array.ext' (by rw[lh])
  subst li
  have lb:w.cell? ⟨o,0,none⟩=some p:=by rw[mX R];rfl
  have lr:∀i,i∈af.ids ((jZ k).bJ z y)↔i∈af.ids ((jZ k).S z):=fun i=>Iff.rfl
  have lc:∀{w'},an cx m ((jZ k).S z) ([Value.pointer (some ⟨o,0,none⟩)].toArray++Array.replicate ((jZ k).n-[Value.pointer (some ⟨o,0,none⟩)].toArray.size) undef) w'->an cx m ((jZ k).bJ z y) ([Value.pointer (some ⟨o,0,none⟩)].toArray++Array.replicate ((jZ k).n-[Value.pointer (some ⟨o,0,none⟩)].toArray.size) undef) w':=
   fun h=>h.weaken (fun i aO lj=>by cases lj) (fun p W=>W) (fun p W=>W) h.keys
  rcases q with q|q
  ·subst q
   refine(U3 o w lb (by simp[World.shape?,R]) (by simp[World.frozen?,R])).mono ?_
   rintro e w' ⟨rfl,rfl⟩
   refine⟨_,m,_,rfl,lc ?_,trivial⟩
   have lk:(w.setCell ⟨o,0,none⟩ (.pointer (some ⟨o,0,none⟩))).heap[o]? =some (.cells #[.pointer (some ⟨o,0,none⟩),u] 319 (0,0)):=Uz (i:=0) R _
   have Y:Touch m w 20 (w.setCell ⟨o,0,none⟩ (.pointer (some ⟨o,0,none⟩))):=⟨⟨rfl,rfl,rfl,by simp[World.setCell],fun h=>False.elim h⟩,fun b ls ll=>Ox _ (fun e=>ll (by rw[L,e];rfl))⟩
   have:=O.cY (c:=bT.cells [.eX 20,.row 21] 319) Z Y (g:=o) L ⟨_,lk,.inr L.symm,U,trivial⟩
   exact this
  ·refine(Ot o w (by rw[lb,q,L])).mono ?_
   rintro e w' ⟨rfl,rfl⟩
   exact⟨_,m,_,rfl,lc O,trivial⟩
theorem Uc{w:World}{b n k:Nat}(h:k≠b):(w.freeze ⟨b,0,none⟩ n).heap[k]? =w.heap[k]? :=by
 unfold World.freeze
 split
 ·rfl
 ·simp[Array.getElem?_modify,Ne.symm h]
theorem Og{w:World}{b n:Nat}:(w.freeze ⟨b,0,none⟩ n).heap.size=w.heap.size/\(w.freeze ⟨b,0,none⟩ n).os=w.os/\(w.freeze ⟨b,0,none⟩ n).tape=w.tape/\(w.freeze ⟨b,0,none⟩ n).output=w.output:=by
 unfold World.freeze
 split<;>simp
theorem MK{G:World->Prop}(k:Nat):cb Tryz.prog G 200 (ro k) where
 enters:=enters_of Tryz.func200 (by kernel_rfl) rfl
 calls:=by
  rintro cx lM lN lO z y O vs w lq ⟨m,o⟩
  obtain⟨v,lr,g,ls,rfl⟩:=o.cJ 0 (.ptr 14 0) List.mem_cons_self
  have lt:=F3 (n:=14) lq lr
  subst lt
  have lu:(14,bT.cells [.eX 14,.row 15] 319)∈((ro k).S z).ad:=List.mem_cons_self
  obtain⟨R,lh,lP,cells,U,lv⟩:=o.boxes _ _ lu
  have:R=g:=by rw[ls]at lh;cases lh;rfl
  subst this
  obtain⟨p,u,lw,li,Y⟩:∃p u,cells.toList=[p,u]/\(p=.pointer none\/p=m 14)/\u=m 15:=by
   match lQ:cells.toList,lv with
   |[p,u],⟨li,Y,_⟩=>exact⟨p,u,rfl,li,Y⟩
  have lx:cells=#[p,u]:=Array.ext' (by rw[lw])
  subst lx
  have ly:(15,(⟨5,.int .u8,z⟩:cE))∈((ro k).S z).rw:=List.mem_cons_self
  obtain⟨ld,lz,lA,lB⟩:=o.rows _ _ ly
  have lC:ld=z.map (Value.int .u8):=uT lB
  have O:rj k z=some y:=O
  unfold rj at O
  split at O
  case isFalse=>cases O
  rename_i lD
  cases O
  have done:∀{w':World} {T:Array Value},T.size=cx.n->Frame cx.w0 w' cx.X->an cx m ((ro k).bJ z (fa z)) T w':=fun lE lF=>
   {size:=lE,frame:=lF,outer:=o.outer,cJ:=(fun i aO q=>by cases q),boxes:=(fun i c q=>by cases q),rows:=(fun i c q=>by cases q),apart:=(fun i j q=>by cases q),keys:=List.nodup_nil,fixed:=(fun i c q=>by cases q),kept:=(fun i c q=>by cases q)}
  have az:∀{w':World},Below w.heap.size w w'->Frame cx.w0 w' cx.X:=fun L=>o.frame.step ⟨L.os,L.tape,L.output,L.size,fun h=>False.elim h⟩ fun b lj _=>L.block b (Nat.lt_of_lt_of_le lj o.frame.size)
  have W:(fa z).length=z.length:=by simp[fa]
  have le:∀(w':World) (M:Nat->Prop),aS w' M m (.string ⟨#[]⟩) (bj (fa [])):=fun w' M=>(eG (w:=w') (M:=M)).2 ⟨rfl,by decide⟩
  have lG:z.length<=maxLen->∀(w':World) (M:Nat->Prop),aS w' M m (.string ⟨(fa z).toArray⟩) (bj (fa z)):=fun o w' M=>(eG (w:=w') (M:=M)).2 ⟨rfl,by rw[W];exact o⟩
  rcases lz.2 with ⟨Z,lH⟩|⟨bq,cap,cur,Z,_,lk,la,ll,lf,lg⟩
  ·rw[Y,Z]at U
   have lb:z=[]:=List.eq_nil_of_length_eq_zero lH
   refine(SL R p w U).mono ?_
   rintro e w' ⟨rfl,L⟩
   subst lb
   exact⟨_,m,_,rfl,done o.size (az L),le _ _⟩
  ·have la:z.length<=cap:=la
   have lf:cur.size=cap:=lf.trans (Nat.mul_one cap)
   have lg:cur.toList.take z.length=ld:=(congrArg (fun n=>List.take n cur.toList) (Nat.mul_one z.length).symm).trans lg
   rw[Y,Z]at U
   by_cases lb:z=[]
   ·subst lb
    by_cases lm:cap=0
    ·subst lm
     refine(XG R bq p cur w U lk).mono ?_
     rintro e w' ⟨rfl,L⟩
     exact⟨_,m,_,rfl,done o.size (az L),le _ _⟩
    ·refine(Q0 R bq cap p w lm U).mono ?_
     rintro e w' ⟨rfl,L⟩
     exact⟨_,m,_,rfl,done o.size (az L),le _ _⟩
   ·have lI:fa z≠[]:=by
     intro e
     have:=congrArg List.length e
     rw[W]at this
     exact lb (List.eq_nil_of_length_eq_zero this)
    have lJ:w.heap[R]? =some (.cells #[p,.slice (some ⟨bq,0,none⟩) (fa z).length cap] 319 (0,0)):=by rw[W];exact U
    refine(OO R bq cap p cur (fa z) w lI lJ lk (by rw[W];exact la) ll lf ?_).mono ?_
    ·intro j x ln
     have lK:j<z.length:=by rw[<-W];exact(List.getElem?_eq_some_iff.1 ln).1
     have lo:(eH (fa z))[j]? =some (x.toNat:Int):=by unfold eH;rw[List.getElem?_map,ln];rfl
     rw[lD]at lo
     have lp:ld[j]? =some (Value.int .u8 (x.toNat:Int)):=by rw[lC,List.getElem?_map,lo];rfl
     rw[<-lg,List.getElem?_take,if_pos lK]at lp
     rw[<-Array.getElem?_toList]
     exact lp
    ·rintro e w' ⟨rfl,rfl⟩
     obtain⟨f1,f2,f3,f4⟩:=Og (w:=w.drew) (b:=bq) (n:=(fa z).length)
     have lc:=lA bq (by rw[Z];rfl)
     refine⟨_,m,_,rfl,done o.size (o.frame.step ⟨f2,f3,f4,by rw[f1];exact Nat.le_refl _,fun h=>False.elim h⟩ fun b lj lL=>?_),lG (Nat.le_trans la ll) _ _⟩
     refine Uc (w:=w.drew) ?_
     rintro rfl
     rcases lc with lc|lc
     ·omega
     ·exact lL lc
end Go.Ev
namespace Go.Ev
open Go
variable [b8]
end Go.Ev
namespace Go.Ev
open Go Go.Proofs Go.Shelf Go.RowKit
open Go.Sort (flatK HoldsK putRowK)
set_option maxRecDepth 100000
def ju(w:World)(M:Nat->Prop)(t:ag):List (List Value)->List t.el->Prop
 |[],[]=>True
 |c::d,x::xs=>aH w M t c x/\ju w M t d xs
 |_,_=>False
theorem yY{w:World}{M:Nat->Prop}{t:ag}:∀{cells:List Value} {xs:List t.el},bM (aH w M t) cells xs->∃d:List (List Value),d.flatten=cells/\ju w M t d xs
 |cells,[],h=>⟨[],by rw[show cells=[]from h];rfl,trivial⟩
 |cells,x::xs,⟨o,c2,e,q,L⟩=>by
  obtain⟨d,ah,O⟩:=yY L
  exact⟨o::d,by rw[List.flatten_cons,ah,e],q,O⟩
theorem GM{w:World}{M:Nat->Prop}{t:ag}:∀{d:List (List Value)} {xs:List t.el},ju w M t d xs->bM (aH w M t) d.flatten xs
 |[],[],_=>rfl
 |[],_::_,h=>h.elim
 |_::_,[],h=>h.elim
 |c::d,x::xs,⟨o,q⟩=>⟨c,d.flatten,rfl,o,GM q⟩
theorem HA{w:World}{M:Nat->Prop}{t:ag}:∀{d e:List (List Value)} {xs o:List t.el},ju w M t d xs->ju w M t e o->ju w M t (d++e) (xs++o)
 |[],_,[],_,_,h=>h
 |[],_,_::_,_,h,_=>h.elim
 |_::_,_,[],_,h,_=>h.elim
 |_::_,_,_::_,_,⟨q,L⟩,h=>⟨q,HA L h⟩
theorem Iz{w:World}{M:Nat->Prop}{t:ag}:∀{d:List (List Value)} {xs:List t.el},ju w M t d xs->ju w M t d.reverse xs.reverse
 |[],[],_=>trivial
 |[],_::_,h=>h.elim
 |_::_,[],h=>h.elim
 |c::d,x::xs,⟨o,q⟩=>by
  rw[List.reverse_cons,List.reverse_cons]
  exact HA (Iz q) ⟨o,trivial⟩
theorem wW{w:World}{M:Nat->Prop}{t:ag}:∀{d:List (List Value)} {xs:List t.el},ju w M t d xs->d.length=xs.length/\∀c∈d,c.length=t.cells/\∀v∈c,v.oneCell'=true
 |[],[],_=>⟨rfl,fun c h=>by cases h⟩
 |[],_::_,h=>h.elim
 |_::_,[],h=>h.elim
 |c::d,x::xs,⟨q,L⟩=>by
  obtain⟨O,R⟩:=wW L
  refine⟨by simp[O],fun c' o=>?_⟩
  rcases List.mem_cons.1 o with rfl|o
  ·exact⟨cf t q,gy t q⟩
  ·exact R c' o
def jI(k:Nat)(c:List Value):List Value:=if c.length=k/\(c.all fun v=>v.oneCell')=true then c else List.replicate k (.int .i64 0)
theorem PE(k:Nat)(c:List Value):(jI k c).length=k:=by
 unfold jI
 split
 ·rename_i h;exact h.1
 ·simp
theorem PN(k:Nat)(c:List Value):∀v∈jI k c,v.oneCell'=true:=by
 unfold jI
 split
 ·rename_i h;exact List.all_eq_true.1 h.2
 ·intro v o
  rw[List.eq_of_mem_replicate o]
  rfl
theorem Pw{k:Nat}{c:List Value}(h:c.length=k)(o:∀v∈c,v.oneCell'=true):jI k c=c:=if_pos ⟨h,List.all_eq_true.2 o⟩
theorem JT{k:Nat}:∀{d:List (List Value)},(∀c∈d,c.length=k)->∀t,t<d.length*k->d.flatten[t]? =((d[t/k]?).getD [])[t %k]?
 |[],_,t,h=>by simp at h
 |c::d,ah,t,h=>by
  have o:=ah c List.mem_cons_self
  have O:0<k:=by
   rcases Nat.eq_zero_or_pos k with q|q
   ·subst q;simp at h
   ·exact q
  rw[List.flatten_cons]
  by_cases L:t<k
  ·rw[List.getElem?_append_left (by omega),Nat.div_eq_of_lt L,Nat.mod_eq_of_lt L]
   rfl
  ·have R:t/k=(t-k)/k+1:=by rw[<-Nat.add_div_right _ O];congr 1;omega
   have U:t %k=(t-k) %k:=by rw[<-Nat.add_mod_right (t-k) k];congr 1;omega
   rw[List.getElem?_append_right (by omega),o,JT (fun c o=>ah c (List.mem_cons_of_mem _ o)) (t-k) (by rw[List.length_cons,Nat.succ_mul]at h;omega),R,U]
   rfl
theorem Ls{k:Nat}{d:List (List Value)}(ah:∀c∈d,c.length=k/\∀v∈c,v.oneCell'=true):flatK (jI k) k d.toArray=d.flatten.toArray:=by
 have U:d.flatten.length=d.length*k:=by
  induction d with
  |nil=>simp
  |cons c d W=>
   rw[List.flatten_cons,List.length_append,(ah c List.mem_cons_self).1,W fun c L=>ah c (List.mem_cons_of_mem _ L),List.length_cons,Nat.succ_mul]
   omega
 apply Array.ext'
 apply List.ext_getElem?
 intro t
 by_cases o:t<d.length*k
 ·have Y:=JT (fun c L=>(ah c L).1) t o
  have Z:0<k:=by
   rcases Nat.eq_zero_or_pos k with O|O
   ·subst O;simp at o
   ·exact O
  have aK:t/k<d.length:=Nat.div_lt_of_lt_mul (by rw[Nat.mul_comm];exact o)
  have R:t %k<k:=Nat.mod_lt _ Z
  have q:=ah d[t/k] (List.getElem_mem aK)
  rw[show(d.flatten.toArray).toList=d.flatten from rfl,Y,Array.getElem?_toList]
  unfold flatK
  rw[Array.getElem?_map,Array.getElem?_range]
  have:t<d.toArray.size*k:=by simpa using o
  rw[if_pos this]
  simp only[Option.map_some]
  rw[List.getElem?_eq_getElem aK,Option.getD_some]
  have la:d.toArray[t/k]! =d[t/k]:=by simp[aK]
  rw[la,Pw q.1 q.2,List.getElem?_eq_getElem (by rw[q.1];exact R)]
  simp[q.1,R]
 ·rw[List.getElem?_eq_none (by simp[flatK];omega),List.getElem?_eq_none (by simpa[U]using o)]
theorem LB(w:World)(g b:Nat)(f:Array Value->Array Value):(Go.Sort.mapBlock w g f).heap[b]? =if g=b then(w.heap[b]?).map (Go.Sort.onCells f)else w.heap[b]? :=by
 unfold Go.Sort.mapBlock
 exact Array.getElem?_modify
theorem Je{w:World}{M:Nat->Prop}{t:ag}{e g cap n:Nat}{xs:List t.el}{cells:List Value}{d:List (List Value)}(li:0<t.cells)(W:w.ownsRow 0 e t.cells (.slice (some ⟨g,0,none⟩) xs.length cap) xs.length cells)(ah:d.flatten=cells)(Y:ju w M t d xs):
  ∃u L,(Ending.returned (.tuple #[]))=.returned u/\Same w (Go.Sort.putRow id (Sort.ahead w n) g 0 d.reverse.flatten.toArray)/\(∀b,b<w.heap.size->aT (.slice (some ⟨g,0,none⟩) xs.length cap)≠some b->(Go.Sort.putRow id (Sort.ahead w n) g 0 d.reverse.flatten.toArray).heap[b]? =w.heap[b]?)/\
   (Go.Sort.putRow id (Sort.ahead w n) g 0 d.reverse.flatten.toArray).ownsRow 0 e t.cells (.slice (some ⟨g,0,none⟩) xs.length cap) (List.length xs.reverse) L/\bM (aH w M t) L xs.reverse:=by
 rcases W.2 with ⟨o,_⟩|⟨lj,lk,cur,o,Z,la,O,lb,R,ll⟩
 ·cases o
 cases o
 have U:=GM (Iz Y)
 have lc:d.reverse.flatten.length=xs.length*t.cells:=by
  rw[iq (fun _ _=>cf t) _ _ U,List.length_reverse]
 have lm:xs.length*t.cells<=cur.size:=by rw[R];exact Nat.mul_le_mul_right _ O
 have ld:(Go.Sort.putRow id (Sort.ahead w n) g 0 d.reverse.flatten.toArray).heap[g]? =some (.cells (Go.Sort.putCells id 0 d.reverse.flatten.toArray cur) e (0,0)):=by
  unfold Go.Sort.putRow
  rw[LB,if_pos rfl]
  have:(Sort.ahead w n).heap[g]? =some (.cells cur e (0,0)):=la
  rw[this]
  rfl
 refine⟨_,d.reverse.flatten,rfl,⟨rfl,rfl,rfl,?_,fun _=>Nat.le_add_right _ _⟩,?_,⟨?_,.inr ⟨g,cap,Go.Sort.putCells id 0 d.reverse.flatten.toArray cur,by rw[List.length_reverse],Z,ld,by rw[List.length_reverse];exact O,lb,?_,?_⟩⟩,U⟩
 ·show w.heap.size<=_
  rw[Go.Sort.size_putRow]
  exact Nat.le_refl _
 ·intro b ln le
  have lf:b≠g:=fun e=>le (by rw[e];rfl)
  unfold Go.Sort.putRow
  rw[LB,if_neg lf.symm]
  rfl
 ·rw[lc,List.length_reverse]
 ·rw[<-R]
  simp[Go.Sort.putCells]
 ·rw[List.length_reverse]
  apply List.ext_getElem?
  intro j
  by_cases lg:j<xs.length*t.cells
  ·have lh:j<cur.size:=by omega
   have q:j<d.reverse.flatten.length:=by omega
   rw[List.getElem?_take_of_lt lg,Array.getElem?_toList]
   unfold Go.Sort.putCells
   rw[Array.getElem?_mapIdx,Array.getElem?_eq_getElem lh,Option.map_some,if_pos ⟨Nat.zero_le _,by simpa using q⟩,List.getElem?_eq_getElem q]
   simp only[Nat.sub_zero,id]
   rw[getElem!_pos _ j (by simpa using q)]
   simp
  ·rw[List.getElem?_eq_none (by simp;omega),List.getElem?_eq_none (by omega)]
theorem held{w:World}{M:Nat->Prop}{t:ag}{e g cap:Nat}{xs:List t.el}{cells:List Value}(q:w.ownsRow 0 e t.cells (.slice (some ⟨g,0,none⟩) xs.length cap) xs.length cells):Go.Sort.Holds id w g 0 cells.toArray:=by
 rcases q.2 with ⟨o,_⟩|⟨W,Y,cur,o,Z,R,la,lb,lc,ld⟩
 ·cases o
 cases o
 intro j L
 have U:j<cells.length:=by simpa using L
 rw[Nat.zero_add]
 refine⟨?_,by simp[World.frozen?,R]⟩
 have O:=q.cells (g:=g) rfl j cells[j] (List.getElem?_eq_getElem U)
 rw[gl,Nat.zero_add]at O
 rw[O,getElem!_pos _ j L]
 rfl
theorem Kt{P:Program}{G:World->Prop}{ρ:Ren}(L:SlLaysE0.n35 P ρ){f e:Nat}{t:ag}(Z:ρ.f 35=f)(la:ρ.t 23=e)(lb:Nat.blt 0 t.cells=true)(lc:∀w,(isAgg e).run P w=.ok true w)(ld:∀w,(Go.sizeOf e).run P w=.ok t.cells w)
  (le:∀args w,(callFunc f args).run P w=.ok (.enter f args) w):uq P G f e t (fun xs O=>O=xs.reverse) where
 enters:=le
 calls:=by
  rintro w M v xs O cells _ rfl o R
  subst Z
  subst la
  rcases o.2 with ⟨q,lf⟩|⟨g,cap,cur,q,lm,ln,lg,lh,lo,lp⟩
  ·have li:xs=[]:=List.length_eq_zero_iff.1 lf
   subst li
   subst q
   refine(AnyQ.slices_Reverse_empty L none 0 w).mono ?_
   rintro e w' ⟨rfl,rfl⟩
   exact⟨_,cells,rfl,⟨rfl,rfl,rfl,Nat.le_refl _,fun _=>Nat.le_refl _⟩,fun _ _ _=>rfl,o,R⟩
  ·subst q
   obtain⟨d,ah,U⟩:=yY R
   obtain⟨W,Y⟩:=wW U
   have lj:HoldsK (jI t.cells) t.cells w g 0 d.toArray:=by
    show Go.Sort.Holds id w g 0 (flatK (jI t.cells) t.cells d.toArray)
    rw[Ls Y,ah]
    exact held (M:=M) o
   have:=AnyQ.slices_Reverse L t.cells lc ld (jI t.cells) (PE _) (PN _) g 0 cap d.toArray w lj (by simp[W];exact Nat.le_trans lg lh)
   rw[show d.toArray.size=xs.length from by simp[W]]at this
   refine this.mono ?_
   rintro e w' ⟨rfl,n,rfl⟩
   have lk:putRowK (jI t.cells) t.cells (Sort.ahead w n) g 0 d.toArray.reverse=Go.Sort.putRow id (Sort.ahead w n) g 0 d.reverse.flatten.toArray:=by
    unfold putRowK
    rw[show d.toArray.reverse=d.reverse.toArray from by simp,Ls fun c ll=>Y c (List.mem_reverse.1 ll)]
   rw[lk]
   exact Je (cK lb) o ah U
def o4(v:Value):Value:=if v.oneCell'=true then v else .int .i64 0
theorem LN{v:Value}(h:v.oneCell'=true):o4 v=v:=if_pos h
theorem QB(v:Value):(o4 v).oneCell'=true:=by
 unfold o4
 split
 ·assumption
 ·rfl
theorem single{d:List (List Value)}(h:∀c∈d,c.length=1):d.reverse.flatten=d.flatten.reverse:=by
 induction d with
 |nil=>rfl
 |cons c d o=>
  obtain⟨v,rfl⟩:=List.length_eq_one_iff.1 (h c List.mem_cons_self)
  rw[List.reverse_cons,List.flatten_append,o fun c q=>h c (List.mem_cons_of_mem _ q)]
  simp
theorem Fa{P:Program}{G:World->Prop}{ρ:Ren}(O:SlLaysE.n35 P ρ){f e:Nat}{t:ag}(lc:ρ.f 35=f)(L:Nat.beq t.cells 1=true)
  (ld:∀args w,(callFunc f args).run P w=.ok (.enter f args) w):uq P G f e t (fun xs R=>R=xs.reverse) where
 enters:=ld
 calls:=by
  rintro w M v xs R cells _ rfl q U
  subst lc
  have L:=Nat.eq_of_beq_eq_true L
  rcases q.2 with ⟨o,le⟩|⟨g,cap,cur,o,lr,ls,lf,lg,lt,lu⟩
  ·have lh:xs=[]:=List.length_eq_zero_iff.1 le
   subst lh
   subst o
   refine(AnyE.slices_Reverse_empty O none 0 w).mono ?_
   rintro e w' ⟨rfl,rfl⟩
   exact⟨_,cells,rfl,⟨rfl,rfl,rfl,Nat.le_refl _,fun _=>Nat.le_refl _⟩,fun _ _ _=>rfl,q,U⟩
  ·subst o
   obtain⟨d,ah,W⟩:=yY U
   obtain⟨lv,Y⟩:=wW W
   have li:∀c∈d,c.length=1:=fun c lj=>by rw[(Y c lj).1,L]
   have Z:∀v∈cells,v.oneCell'=true:=fun v o=>by
    rw[<-ah]at o
    obtain⟨c,lk,ll⟩:=List.mem_flatten.1 o
    exact(Y c lk).2 v ll
   have la:cells.length=xs.length:=by rw[q.1,L,Nat.mul_one]
   have lm:Go.Sort.Holds id w g 0 cells.toArray:=held (M:=M) q
   have ln:Go.Sort.Holds o4 w g 0 cells.toArray:=fun j lb=>by
    obtain⟨lo,a2⟩:=lm j lb
    refine⟨?_,a2⟩
    rw[lo,LN]
    ·rfl
    ·rw[getElem!_pos _ j lb];exact Z _ (by simp)
   have:=AnyE.slices_Reverse O o4 QB g 0 cap cells w ln (by rw[la];exact Nat.le_trans lf lg)
   rw[la]at this
   refine this.mono ?_
   rintro lw w' ⟨rfl,n,rfl⟩
   have lp:Go.Sort.putRow o4 (Sort.ahead w n) g 0 cells.reverse.toArray=Go.Sort.putRow id (Sort.ahead w n) g 0 d.reverse.flatten.toArray:=by
    rw[single li,ah]
    unfold Go.Sort.putRow Go.Sort.putCells
    congr 1
    funext c
    congr 1
    funext k x
    split
    ·rename_i lx
     have lq:k-0<cells.reverse.toArray.size:=by omega
     rw[LN]
     ·rfl
     ·rw[getElem!_pos cells.reverse.toArray (k-0) lq]
      exact Z _ (List.mem_reverse.1 (by simp))
    ·rfl
   rw[lp]
   exact Je (by omega) q ah W
end Go.Ev
namespace Go.Ev
open Go Go.Proofs Go.Shelf Go.RowKit
set_option maxRecDepth 100000
def UG:Ren:=⟨fun|35=>207|n=>n,fun|22=>69|23=>3|3=>3|4=>4|0=>0|n=>n,fun|n=>n⟩
theorem Ur:SlLaysE.n35 Tryz.prog UG:={
 mixed:=by kernel_rfl
 f35:=⟨Tryz.f207.name,by kernel_rfl,Tryz.func207.trans (congrArg some (by kernel_rfl))⟩
 t0:=Tryz.underlying0
 a0:=Tryz.isAgg0
 z0:=Tryz.sizeOf0
 v0:=Tryz.zeroValue0
 t3:=Tryz.underlying3
 a3:=Tryz.isAgg3
 z3:=Tryz.sizeOf3
 v3:=Tryz.zeroValue3
 t4:=Tryz.underlying4
 a4:=Tryz.isAgg4
 z4:=Tryz.sizeOf4
 v4:=Tryz.zeroValue4
 t22:=Tryz.underlying69
 a22:=Tryz.isAgg69
 z22:=Tryz.sizeOf69
 v22:=Tryz.zeroValue69
 a23:=Tryz.isAgg3
 z23:=Tryz.sizeOf3}
noncomputable def SV{G:World->Prop}:qU Tryz.prog G:=⟨207,3,(.int .i64),List.reverse,Fa Ur rfl (by kernel_rfl) (enters_of Tryz.func207 (by kernel_rfl) rfl)⟩
def SQ:Ren:=⟨fun|35=>131|n=>n,fun|22=>61|23=>21|3=>3|4=>4|0=>0|n=>n,fun|n=>n⟩
theorem Ul:SlLaysE.n35 Tryz.prog SQ:={
 mixed:=by kernel_rfl
 f35:=⟨Tryz.f131.name,by kernel_rfl,Tryz.func131.trans (congrArg some (by kernel_rfl))⟩
 t0:=Tryz.underlying0
 a0:=Tryz.isAgg0
 z0:=Tryz.sizeOf0
 v0:=Tryz.zeroValue0
 t3:=Tryz.underlying3
 a3:=Tryz.isAgg3
 z3:=Tryz.sizeOf3
 v3:=Tryz.zeroValue3
 t4:=Tryz.underlying4
 a4:=Tryz.isAgg4
 z4:=Tryz.sizeOf4
 v4:=Tryz.zeroValue4
 t22:=Tryz.underlying61
 a22:=Tryz.isAgg61
 z22:=Tryz.sizeOf61
 v22:=Tryz.zeroValue61
 a23:=Tryz.isAgg21
 z23:=Tryz.sizeOf21}
noncomputable def ta{G:World->Prop}:qU Tryz.prog G:=⟨131,21,(.int .i32),List.reverse,Fa Ul rfl (by kernel_rfl) (enters_of Tryz.func131 (by kernel_rfl) rfl)⟩
def Sr:Ren:=⟨fun|35=>167|n=>n,fun|22=>54|23=>125|3=>3|4=>4|0=>0|n=>n,fun|n=>n⟩
theorem MF:SlLaysE0.n35 Tryz.prog Sr:={
 mixed:=by kernel_rfl
 f35:=⟨Tryz.f167.name,by kernel_rfl,Tryz.func167.trans (congrArg some (by kernel_rfl))⟩
 t0:=Tryz.underlying0
 a0:=Tryz.isAgg0
 z0:=Tryz.sizeOf0
 v0:=Tryz.zeroValue0
 t3:=Tryz.underlying3
 a3:=Tryz.isAgg3
 z3:=Tryz.sizeOf3
 v3:=Tryz.zeroValue3
 t4:=Tryz.underlying4
 a4:=Tryz.isAgg4
 z4:=Tryz.sizeOf4
 v4:=Tryz.zeroValue4
 t22:=Tryz.underlying54
 a22:=Tryz.isAgg54
 z22:=Tryz.sizeOf54
 v22:=Tryz.zeroValue54}
noncomputable def RN{G:World->Prop}:qU Tryz.prog G:=⟨167,125,(.pair (.int .i32) (.pair (.int .u32) (.pair (.int .u32) .unit))),List.reverse,Kt MF rfl rfl (by kernel_rfl) Tryz.isAgg125 Tryz.sizeOf125 (enters_of Tryz.func167 (by kernel_rfl) rfl)⟩
def V1:Ren:=⟨fun|35=>168|n=>n,fun|22=>55|23=>127|3=>3|4=>4|0=>0|n=>n,fun|n=>n⟩
theorem TX:SlLaysE0.n35 Tryz.prog V1:={
 mixed:=by kernel_rfl
 f35:=⟨Tryz.f168.name,by kernel_rfl,Tryz.func168.trans (congrArg some (by kernel_rfl))⟩
 t0:=Tryz.underlying0
 a0:=Tryz.isAgg0
 z0:=Tryz.sizeOf0
 v0:=Tryz.zeroValue0
 t3:=Tryz.underlying3
 a3:=Tryz.isAgg3
 z3:=Tryz.sizeOf3
 v3:=Tryz.zeroValue3
 t4:=Tryz.underlying4
 a4:=Tryz.isAgg4
 z4:=Tryz.sizeOf4
 v4:=Tryz.zeroValue4
 t22:=Tryz.underlying55
 a22:=Tryz.isAgg55
 z22:=Tryz.sizeOf55
 v22:=Tryz.zeroValue55}
noncomputable def SS{G:World->Prop}:qU Tryz.prog G:=⟨168,127,(.pair (.int .i32) (.pair (.int .i64) (.pair (.int .u32) (.pair (.int .u32) .unit)))),List.reverse,Kt TX rfl rfl (by kernel_rfl) Tryz.isAgg127 Tryz.sizeOf127 (enters_of Tryz.func168 (by kernel_rfl) rfl)⟩
end Go.Ev
namespace Go.Ev
open Go Go.Proofs
noncomputable def Tv{G:World->Prop}(k:Nat):cD Tryz.prog G (List Int) Unit:=⟨209,jZ k,fun st=>bu st [.rw 21 5 (.int .u8)],fun z=>zU k z,Xx k,fun _ _ h=>h⟩
noncomputable def Rq{G:World->Prop}(k:Nat):cD Tryz.prog G (List Int) (List UInt8):=⟨200,ro k,fun st=>bu st [.rw 15 5 (.int .u8)],fun z=>rj k z,MK k,fun _ _ h=>h⟩
end Go.Ev
namespace Go.Ev
open Go Go.Proofs
noncomputable def Hl(k:Nat):aU:=⟨[.str],[.int .i32,.int .i64],[],fun s=>utf8_DecodeRuneInString k s⟩
noncomputable def BK(k:Nat):aF Tryz.prog am:=⟨158,Hl k,QV (WK k) (Hl k) fun x y h=>h⟩
end Go.Ev
namespace Go.Ev
open Go
set_option linter.unusedVariables false
def bq(s:List UInt8)(i:Nat):Nat:=(s.getD i 0).toNat
theorem mi(s:List UInt8)(i:Nat):bq s i<256:=UInt8.toNat_lt _
def g(s:List UInt8)(i:Nat):Nat×Nat:=Lib.decodeN (s.length-i) (bq s i) (bq s (i+1)) (bq s (i+2)) (bq s (i+3))
def bad(s:List UInt8)(i:Nat):Bool:=decide ((g s i).1=65533)&&decide ((g s i).2=1)
theorem xz(s:List UInt8)(i:Nat):Utf8.decode ⟨s.toArray⟩ i=g s i:=by
 rw[Lib.decode_at]
 have e:∀j,(ByteArray.get! ⟨s.toArray⟩ j).toNat=bq s j:=by
  intro j
  unfold bq ByteArray.get!
  show(s.toArray[j]!).toNat=_
  by_cases o:j<s.length
  ·simp[o]
  ·simp[o,List.getD_eq_getElem?_getD]
   rfl
 simp only[e]
 rfl
theorem qp(s:List UInt8)(i:Nat)(h:i<s.length):1<=(g s i).2/\i+(g s i).2<=s.length/\(g s i).2<=4:=by
 unfold g Lib.decodeN
 repeat' split
 all_goals simp only;omega
theorem H3(s:List UInt8)(p:Nat):gd s p=((g s p).1:Int):=by
 unfold gd
 show((Utf8.decode ⟨s.toArray⟩ p).1:Int)=_
 rw[xz]
theorem pG(s:List UInt8)(p:Nat):iX s p=(g s p).2:=by
 unfold iX
 show(Utf8.decode ⟨s.toArray⟩ p).2=_
 rw[xz]
theorem rD{x:Int}(h:-9223372036854775808<=x/\x<9223372036854775808):aj x=x:=by
 unfold aj IntKind.wrap
 simp[IntKind.bits,IntKind.signed]
 omega
theorem wi{x:Int}(h:0<=x/\x<256):kB x=x:=by
 unfold kB IntKind.wrap
 simp[IntKind.bits,IntKind.signed]
 omega
theorem gm{n:Nat}(h:n<9223372036854775807):aj ((n:Int)+1)=((n+1:Nat):Int):=by rw[rD (by omega)];omega
theorem iJ{p:Prop}[Decidable p](h:p):aL p=some ():=by unfold aL;rw[if_pos h]
theorem ym{α:Type}{l:List α}{i:Nat}:aq l (i:Int)=l[i]? :=by
 unfold aq
 rw[if_pos (by omega),Int.toNat_natCast]
theorem fg{α:Type}{l:List α}{i:Nat}(h:i<l.length):aq l (i:Int)=some (l[i]'h):=by rw[ym,List.getElem?_eq_getElem h]
theorem Bm{s:List UInt8}{i:Nat}(h:i<s.length):dZ s (i:Int)=some ((s[i]'h).toNat:Int):=by
 unfold dZ
 rw[fg h]
theorem T5{α:Type}{s:List α}{b:Nat}(h:b<=s.length):dx s 0 (b:Int)=some (s.take b):=by
 unfold dx
 rw[if_pos (by omega),Int.toNat_natCast]
 rfl
theorem Fq{α:Type}{s:List α}{p:Nat}(h:p<=s.length):dx s (p:Int) (s.length:Int)=some (s.drop p):=by
 unfold dx
 rw[if_pos (by omega),Int.toNat_natCast,Int.toNat_natCast,List.take_length]
end Go.Ev
namespace Go.Ev
open Go
set_option linter.unusedVariables false
def mM{α:Type}(x:Option α):Prop:=∃v,x=some v
theorem np{α:Type}(v:α):mM (some v):=⟨v,rfl⟩
theorem JZ{α:Type}{c:Bool}{a b:Option α}(o:c=true->mM a)(q:c=false->mM b):mM (if c then a else b):=by
 cases c with
 |true=>rw[if_pos rfl];exact o rfl
 |false=>rw[if_neg (by simp)];exact q rfl
theorem qM{α:Type}{p:Prop}[Decidable p]{a b:Option α}(o:p->mM a)(q:¬p->mM b):mM (if decide p then a else b):=
 JZ (fun h=>o (of_decide_eq_true h)) (fun h=>q (of_decide_eq_false h))
def mK:List UInt8:=[97,98,99,100,101,102,103,104,105,106,107,108,109,110,111,112,113,114,115,116,117,118,119,120,121,122]
def oK(o:List UInt8):List Bool:=(List.range 256).map fun i=>o.contains (UInt8.ofNat i)
set_option maxRecDepth 100000 in
theorem Sx:tG 80000 mK=some (oK mK,true):=by decide+kernel
abbrev ch:Type:=List (List UInt8)×List cz×Unit
end Go.Ev
