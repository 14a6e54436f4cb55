/- Shallow functions, by program. -/
import Derived.Test.YteopobecmacgdaaGreatDoorMM4
import Derived.Test.YteopobecmacgdaaGreatDoorMM6
import Derived.Test.YteopobecmacgdaaGreatDoorTyA
set_option linter.unusedSectionVars false
set_option linter.unusedVariables false
set_option linter.unusedSimpArgs false
namespace Go.Ev
open Go
set_option linter.unusedVariables false
def HM(o:aH)(q:Int->dz->Option (Option dz×Int))(t1:Int)(m1:List (Int×Int)):Option (Option dz×Int):=
 if decide (t1<(List.length o.2.1:Int))then
  (
   Option.bind (ar o.2.1 t1) fun O=>
   q (ag (t1+(1:Int))) (cn (aR (.int .i32)) m1 O.1 t1)
  )
 else
  some (some m1,(0:Int))
def nK(o:aH):Nat->Int->dz->Option (Option dz×Int)
 |0,_,_=>none
 |n+1,t1,m1=>HM o (nK o n) t1 m1
def yJ(k:Nat)(o:aH):Option (Option dz×Int):=
 Option.bind (eK k (o.1,o.2.1,())) fun v1=>
 if v1 !=(0:Int)then
  some ((none:Option dz),v1)
 else
  nK o k (0:Int) ([]:List (Int×Int))
def wb(k:Nat)(o:List UInt8):Option Int:=
 if decide ((65536:Int)<(List.length o:Int))then
  some ((3:Int))
 else
  some ((0:Int))
def M0(o:Int)(t1:Bool):Option Int:=
 if t1 then
  some ((-1:Int))
 else
  (
   if decide (o<=(65535:Int))then
    some ((3:Int))
   else
    (
     if decide (o<=(1114111:Int))then
      some ((4:Int))
     else
      some ((-1:Int))
    )
  )
def yt(k:Nat)(o:Int):Option Int:=
 if decide (o<(0:Int))then
  some ((-1:Int))
 else
  (
   if decide (o<=(127:Int))then
    some ((1:Int))
   else
    (
     if decide (o<=(2047:Int))then
      some ((2:Int))
     else
      M0 o (decide ((55296:Int)<=o)&&(decide (o<=(57343:Int))))
    )
  )
def qL(k:Nat)(o:kW)(l1:List fY):Option (Bool×List fY):=
 Option.bind (aP (List.length l1+List.length ([(o.1,o.2.1,o.2.2.1,o.2.2.2.1,())]:List fY)<=bF)) fun _=>
 some (true,l1++([(o.1,o.2.1,o.2.2.1,o.2.2.2.1,())]:List fY))
def nn(k:Nat)(q:List UInt8)(o:Nat)(t2:List fY)(O:Nat->ko->Option ko)(R:Int)(U:Bool):Option ko:=
 Option.bind (qL k (gJ q o,(o:Int),R,U,()) t2) fun v2=>
 if !v2.1 then
  some v2.2
 else
  O (o+jd q o) v2.2
def Dl(k:Nat)(o:List UInt8)(O:Nat->ko->Option ko)(q:Nat)(t2:List fY):Option ko:=
 if decide (q<List.length o)then
  (
   Option.bind (yt k (gJ o q)) fun v1=>
   if(gJ o q)==(65533:Int)then
    (
     Option.bind (dK o (q:Int) (o.length:Int)) fun R=>
     Option.bind (utf8_DecodeRuneInString k R) fun v3=>
     if v3.2==(1:Int)then
      nn k o q t2 O (1:Int) true
     else
      nn k o q t2 O v1 false
    )
   else
    nn k o q t2 O v1 false
  )
 else
  some t2
def mX(k:Nat)(o:List UInt8):Nat->Nat->ko->Option ko
 |0,_,_=>none
 |n+1,q,t2=>Dl k o (mX k o n) q t2
def pX(k:Nat)(o:List UInt8)(l1:List fY):Option ko:=
 mX k o k 0 l1
def r4(k:Nat)(o:List UInt8):Option (List fY×Int):=
 Option.bind (wb k o) fun v1=>
 if v1 !=(0:Int)then
  some (([]:List fY),v1)
 else
  (
   Option.bind (pX k o ([]:List fY)) fun v2=>
   some (v2,(0:Int))
  )
def Gl(v1:(List fY×Int))(m1:Option dz)(O:Int->(List (Int))->Option bL)(t1:Int)(o:List (Int)):Option bL:=
 if decide (t1<(List.length v1.1:Int))then
  (
   Option.bind (ar v1.1 t1) fun q=>
   if q.2.2.2.1 then
    some (([]:List (Int)),(6:Int))
   else
    (
     if !((bM (aR (.int .i32)) (m1.getD []) q.1).isSome)then
      some (([]:List (Int)),(5:Int))
     else
      (
       if(List.length o:Int)==(64:Int)then
        some (([]:List (Int)),(4:Int))
       else
        (
         Option.bind (aP (List.length o+List.length ([q.1]:List (Int))<=bF)) fun _=>
         O (ag (t1+(1:Int))) (o++([q.1]:List (Int)))
        )
      )
    )
  )
 else
  some (o,(0:Int))
def nH(v1:(List fY×Int))(m1:Option dz):Nat->Int->(List (Int))->Option bL
 |0,_,_=>none
 |n+1,t1,o=>Gl v1 m1 (nH v1 m1 n) t1 o
def qS(k:Nat)(m1:Option dz)(o:List UInt8):Option bL:=
 Option.bind (r4 k o) fun v1=>
 if v1.2 !=(0:Int)then
  some (([]:List (Int)),v1.2)
 else
  nH v1 m1 k (0:Int) ([]:List (Int))
def tc(k:Nat)(m1:Option dz)(o:List UInt8):Option bL:=
 if decide ((65536:Int)<(List.length o:Int))then
  (
   Option.bind (dK o (0:Int) (65536:Int)) fun q=>
   qS k m1 q
  )
 else
  qS k m1 o
def kY(k:Nat)(o:aH)(q:List UInt8):Option bL:=
 Option.bind (yJ k (o.1,o.2.1,())) fun v1=>
 if v1.2 !=(0:Int)then
  some (([]:List (Int)),v1.2)
 else
  (
   Option.bind (tc k v1.1 q) fun v2=>
   some (v2.1,v2.2)
  )
def oq(k:Nat)(o:Int):Option Int:=
 Option.bind (aP (0<=(24:Int))) fun _=>
 Option.bind (eE ([0,1,1,2,1,2,2,3,1,2,2,3,2,3,3,4,1,2,2,3,2,3,3,4,2,3,3,4,3,4,4,5,1,2,2,3,2,3,3,4,2,3,3,4,3,4,4,5,2,3,3,4,3,4,4,5,3,4,4,5,4,5,5,6,1,2,2,3,2,3,3,4,2,3,3,4,3,4,4,5,2,3,3,4,3,4,4,5,3,4,4,5,4,5,5,6,2,3,3,4,3,4,4,5,3,4,4,5,4,5,5,6,3,4,4,5,4,5,5,6,4,5,5,6,5,6,6,7,1,2,2,3,2,3,3,4,2,3,3,4,3,4,4,5,2,3,3,4,3,4,4,5,3,4,4,5,4,5,5,6,2,3,3,4,3,4,4,5,3,4,4,5,4,5,5,6,3,4,4,5,4,5,5,6,4,5,5,6,5,6,6,7,2,3,3,4,3,4,4,5,3,4,4,5,4,5,5,6,3,4,4,5,4,5,5,6,4,5,5,6,5,6,6,7,3,4,4,5,4,5,5,6,4,5,5,6,5,6,6,7,4,5,5,6,5,6,6,7,5,6,6,7,6,7,7,8]:List UInt8) (Int.fdiv o (2^min ((24:Int)).toNat 32))) fun q=>
 Option.bind (aP (0<=(16:Int))) fun _=>
 Option.bind (eE ([0,1,1,2,1,2,2,3,1,2,2,3,2,3,3,4,1,2,2,3,2,3,3,4,2,3,3,4,3,4,4,5,1,2,2,3,2,3,3,4,2,3,3,4,3,4,4,5,2,3,3,4,3,4,4,5,3,4,4,5,4,5,5,6,1,2,2,3,2,3,3,4,2,3,3,4,3,4,4,5,2,3,3,4,3,4,4,5,3,4,4,5,4,5,5,6,2,3,3,4,3,4,4,5,3,4,4,5,4,5,5,6,3,4,4,5,4,5,5,6,4,5,5,6,5,6,6,7,1,2,2,3,2,3,3,4,2,3,3,4,3,4,4,5,2,3,3,4,3,4,4,5,3,4,4,5,4,5,5,6,2,3,3,4,3,4,4,5,3,4,4,5,4,5,5,6,3,4,4,5,4,5,5,6,4,5,5,6,5,6,6,7,2,3,3,4,3,4,4,5,3,4,4,5,4,5,5,6,3,4,4,5,4,5,5,6,4,5,5,6,5,6,6,7,3,4,4,5,4,5,5,6,4,5,5,6,5,6,6,7,4,5,5,6,5,6,6,7,5,6,6,7,6,7,7,8]:List UInt8) (cH (BitVec.toNat (BitVec.ofInt 32 (Int.fdiv o (2^min ((16:Int)).toNat 32))&&&BitVec.ofInt 32 (255:Int))))) fun O=>
 Option.bind (aP (0<=(8:Int))) fun _=>
 Option.bind (eE ([0,1,1,2,1,2,2,3,1,2,2,3,2,3,3,4,1,2,2,3,2,3,3,4,2,3,3,4,3,4,4,5,1,2,2,3,2,3,3,4,2,3,3,4,3,4,4,5,2,3,3,4,3,4,4,5,3,4,4,5,4,5,5,6,1,2,2,3,2,3,3,4,2,3,3,4,3,4,4,5,2,3,3,4,3,4,4,5,3,4,4,5,4,5,5,6,2,3,3,4,3,4,4,5,3,4,4,5,4,5,5,6,3,4,4,5,4,5,5,6,4,5,5,6,5,6,6,7,1,2,2,3,2,3,3,4,2,3,3,4,3,4,4,5,2,3,3,4,3,4,4,5,3,4,4,5,4,5,5,6,2,3,3,4,3,4,4,5,3,4,4,5,4,5,5,6,3,4,4,5,4,5,5,6,4,5,5,6,5,6,6,7,2,3,3,4,3,4,4,5,3,4,4,5,4,5,5,6,3,4,4,5,4,5,5,6,4,5,5,6,5,6,6,7,3,4,4,5,4,5,5,6,4,5,5,6,5,6,6,7,4,5,5,6,5,6,6,7,5,6,6,7,6,7,7,8]:List UInt8) (cH (BitVec.toNat (BitVec.ofInt 32 (Int.fdiv o (2^min ((8:Int)).toNat 32))&&&BitVec.ofInt 32 (255:Int))))) fun R=>
 Option.bind (eE ([0,1,1,2,1,2,2,3,1,2,2,3,2,3,3,4,1,2,2,3,2,3,3,4,2,3,3,4,3,4,4,5,1,2,2,3,2,3,3,4,2,3,3,4,3,4,4,5,2,3,3,4,3,4,4,5,3,4,4,5,4,5,5,6,1,2,2,3,2,3,3,4,2,3,3,4,3,4,4,5,2,3,3,4,3,4,4,5,3,4,4,5,4,5,5,6,2,3,3,4,3,4,4,5,3,4,4,5,4,5,5,6,3,4,4,5,4,5,5,6,4,5,5,6,5,6,6,7,1,2,2,3,2,3,3,4,2,3,3,4,3,4,4,5,2,3,3,4,3,4,4,5,3,4,4,5,4,5,5,6,2,3,3,4,3,4,4,5,3,4,4,5,4,5,5,6,3,4,4,5,4,5,5,6,4,5,5,6,5,6,6,7,2,3,3,4,3,4,4,5,3,4,4,5,4,5,5,6,3,4,4,5,4,5,5,6,4,5,5,6,5,6,6,7,3,4,4,5,4,5,5,6,4,5,5,6,5,6,6,7,4,5,5,6,5,6,6,7,5,6,6,7,6,7,7,8]:List UInt8) (cH (BitVec.toNat (BitVec.ofInt 32 o&&&BitVec.ofInt 32 (255:Int))))) fun U=>
 some (ag (iv ((iv ((iv (q+O))+R))+U)))
def rn(k:Nat)(o:cK)(q:cK):Option Int:=
 Option.bind (oq k (cH (BitVec.toNat (BitVec.ofInt 32 (cH (BitVec.toNat (BitVec.ofInt 32 o.2.1^^^BitVec.ofInt 32 q.2.1)))|||BitVec.ofInt 32 (cH (BitVec.toNat (BitVec.ofInt 32 o.2.2.1^^^BitVec.ofInt 32 q.2.2.1))))))) fun v1=>
 some (v1)
def Pc(k:Nat)(o:aH)(q:Int)(O:Int):Option (Int×Int):=
 Option.bind (jw k (o.1,o.2.1,()) q) fun v1=>
 if v1.2 !=(0:Int)then
  some ((0:Int),v1.2)
 else
  (
   Option.bind (jw k (o.1,o.2.1,()) O) fun v2=>
   if v2.2 !=(0:Int)then
    some ((0:Int),v2.2)
   else
    (
     Option.bind (rn k (v1.1.1,v1.1.2.1,v1.1.2.2.1,()) (v2.1.1,v2.1.2.1,v2.1.2.2.1,())) fun v3=>
     some (v3,(0:Int))
    )
  )
def acg(k:Nat)(o:aH)(q:Int)(O:Int)(t1:Bool):Option Int:=
 if t1 then
  some ((5:Int))
 else
  (
   Option.bind (Pc k (o.1,o.2.1,()) q O) fun v1=>
   some (ag ((2:Int)+v1.1))
  )
def xx(k:Nat)(O:aH)(o:Int)(q:Int):Option Int:=
 if o==q then
  some ((0:Int))
 else
  acg k O o q ((o==(0:Int))||(q==(0:Int)))
def D6(aC:Int->bR->Option bR)(o:Int)(q:bR):Option bR:=
 aC (ag (o-(1:Int))) q
def Do(i1:Int)(o:Int)(q:bR)(aC:Int->bR->Option bR)(U:Int)(W:Int)(Y:Int)(n3:Int):Option bR:=
 Option.bind (aP (0<=i1/\i1<(65:Int))) fun _=>
 Option.bind (aP (0<=o/\o<(65:Int))) fun _=>
 Option.bind (aP (0<=i1/\i1<(65:Int))) fun _=>
 Option.bind (ar q.2.2.1 i1) fun O=>
 Option.bind (ar O o) fun Z=>
 Option.bind (aP (0<=o/\o<(65:Int))) fun _=>
 Option.bind (ar q.2.2.2.1 i1) fun R=>
 Option.bind (ar R o) fun la=>
 D6 aC o (q.1,q.2.1,List.set q.2.2.1 (i1).toNat (List.set O (o).toNat (fM (fM U W) Y)),List.set q.2.2.2.1 (i1).toNat (List.set R (o).toNat (fM n3 (1048577:Int))),())
def Bw(q:Int)(O:Int)(R:Int)(i1:Int)(o:Int)(U:bR)(aC:Int->bR->Option bR)(W:Int):Option bR:=
 if q==(fM (fM O R) q)then
  (
   Option.bind (aP (0<=i1/\i1<(65:Int))) fun _=>
   Option.bind (aP (0<=(ag (o+(1:Int)))/\(ag (o+(1:Int)))<(65:Int))) fun _=>
   Option.bind (ar U.2.2.2.1 i1) fun Y=>
   Option.bind (ar Y (ag (o+(1:Int)))) fun Z=>
   Do i1 o U aC O R q (ag (W+Z))
  )
 else
  Do i1 o U aC O R q W
def Gq(q:Int)(O:Int)(R:Int)(i1:Int)(o:Int)(U:bR)(aC:Int->bR->Option bR)(W:Int):Option bR:=
 if q==(fM (fM O q) R)then
  (
   Option.bind (aP (0<=(ag (i1+(1:Int)))/\(ag (i1+(1:Int)))<(65:Int))) fun _=>
   Option.bind (aP (0<=o/\o<(65:Int))) fun _=>
   Option.bind (ar U.2.2.2.1 (ag (i1+(1:Int)))) fun Y=>
   Option.bind (ar Y o) fun Z=>
   Bw R O q i1 o U aC (ag (W+Z))
  )
 else
  Bw R O q i1 o U aC W
def EO(q:Int)(O:Int)(i1:Int)(o:Int)(R:bR)(aC:Int->bR->Option bR)(U:Int):Option bR:=
 if q==(fM (fM q O) U)then
  (
   Option.bind (aP (0<=(ag (i1+(1:Int)))/\(ag (i1+(1:Int)))<(65:Int))) fun _=>
   Option.bind (aP (0<=(ag (o+(1:Int)))/\(ag (o+(1:Int)))<(65:Int))) fun _=>
   Option.bind (ar R.2.2.2.1 (ag (i1+(1:Int)))) fun W=>
   Option.bind (ar W (ag (o+(1:Int)))) fun Y=>
   Gq O q U i1 o R aC (ag ((0:Int)+Y))
  )
 else
  Gq O q U i1 o R aC (0:Int)
def CX(o:Int)(U:List (Int))(i1:Int)(q:bR)(O:Int)(aC:Int->bR->Option bR)(R:Int):Option bR:=
 if decide (o<(List.length U:Int))then
  (
   Option.bind (aP (0<=i1/\i1<(65:Int))) fun _=>
   Option.bind (aP (0<=(ag (o+(1:Int)))/\(ag (o+(1:Int)))<(65:Int))) fun _=>
   Option.bind (ar q.2.2.1 i1) fun W=>
   Option.bind (ar W (ag (o+(1:Int)))) fun Y=>
   EO O R i1 o q aC (ag ((5:Int)+Y))
  )
 else
  EO O R i1 o q aC (1073741824:Int)
def Ck(i1:Int)(U:List (Int))(o:Int)(q:bR)(O:List (Int))(aC:Int->bR->Option bR)(R:Int):Option bR:=
 if decide (i1<(List.length U:Int))then
  (
   Option.bind (aP (0<=(ag (i1+(1:Int)))/\(ag (i1+(1:Int)))<(65:Int))) fun _=>
   Option.bind (aP (0<=o/\o<(65:Int))) fun _=>
   Option.bind (ar q.2.2.1 (ag (i1+(1:Int)))) fun W=>
   Option.bind (ar W o) fun Y=>
   CX o O i1 q R aC (ag ((5:Int)+Y))
  )
 else
  CX o O i1 q R aC (1073741824:Int)
def XR(k:Nat)(q:List (Int))(i1:Int)(O:List (Int))(o:Int)(a2:List (List UInt8))(a3:List ax)(R:bR)(aC:Int->bR->Option bR)(t2:Bool):Option bR:=
 if t2 then
  (
   Option.bind (ar q i1) fun U=>
   Option.bind (ar O o) fun W=>
   Option.bind (xx k (a2,a3,()) U W) fun v1=>
   Option.bind (aP (0<=(ag (i1+(1:Int)))/\(ag (i1+(1:Int)))<(65:Int))) fun _=>
   Option.bind (aP (0<=(ag (o+(1:Int)))/\(ag (o+(1:Int)))<(65:Int))) fun _=>
   Option.bind (ar R.2.2.1 (ag (i1+(1:Int)))) fun Y=>
   Option.bind (ar Y (ag (o+(1:Int)))) fun Z=>
   Ck i1 q o R O aC (ag (v1+Z))
  )
 else
  Ck i1 q o R O aC (1073741824:Int)
def aa3(k:Nat)(aC:Int->bR->Option bR)(o:Int)(q:bR)(O:List (Int))(i1:Int)(R:List (Int))(a2:List (List UInt8))(a3:List ax)(t1:Bool):Option bR:=
 if t1 then
  D6 aC o q
 else
  XR k O i1 R o a2 a3 q aC (decide (i1<(List.length O:Int))&&(decide (o<(List.length R:Int))))
def Xg(k:Nat)(q:List (Int))(i1:Int)(O:List (Int))(a2:List (List UInt8))(a3:List ax)(U:Int->aD->aK->bR->Option bR)(aC:Int->bR->Option bR)(o:Int)(R:bR):Option bR:=
 if decide ((0:Int)<=o)then
  aa3 k aC o R q i1 O a2 a3 ((i1==(List.length q:Int))&&(o==(List.length O:Int)))
 else
  U (ag (i1-(1:Int))) a2 a3 R
def GD(k:Nat)(o:List (Int))(i1:Int)(q:List (Int))(a2:List (List UInt8))(a3:List ax)(O:Int->aD->aK->bR->Option bR):Nat->Int->bR->Option bR
 |0,_,_=>none
 |n+1,R,U=>Xg k o i1 q a2 a3 O (GD k o i1 q a2 a3 O n) R U
def V7(k:Nat)(O:List (Int))(o:List (Int))(R:Int->aD->aK->bR->Option bR)(i1:Int)(a2:List (List UInt8))(a3:List ax)(q:bR):Option bR:=
 if decide ((0:Int)<=i1)then
  GD k O i1 o a2 a3 R k (List.length o:Int) q
 else
  some q
def Eg(k:Nat)(o:List (Int))(q:List (Int)):Nat->Int->aD->aK->bR->Option bR
 |0,_,_,_,_=>none
 |n+1,i1,a2,a3,O=>V7 k o q (Eg k o q n) i1 a2 a3 O
def xS(k:Nat)(O:aH)(o:List (Int))(q:List (Int)):Option bR:=
 Option.bind (aP (0<=(List.length o:Int)/\(List.length o:Int)<(65:Int))) fun _=>
 Option.bind (aP (0<=(List.length q:Int)/\(List.length q:Int)<(65:Int))) fun _=>
 Option.bind (ar (List.replicate 65 (List.replicate 65 (0:Int))) (List.length o:Int)) fun R=>
 Option.bind (ar R (List.length q:Int)) fun U=>
 Eg k o q k (List.length o:Int) O.1 O.2.1 (o,q,(List.replicate 65 (List.replicate 65 (0:Int))),List.set (List.replicate 65 (List.replicate 65 (0:Int))) ((List.length o:Int)).toNat (List.set R ((List.length q:Int)).toNat (1:Int)),())
def sd(k:Nat)(o:aH)(q:List UInt8)(O:List UInt8):Option (Sum Int Cx):=
 Option.bind (kY k (o.1,o.2.1,()) q) fun v1=>
 if v1.2 !=(0:Int)then
  some (.inl v1.2)
 else
  (
   Option.bind (kY k (o.1,o.2.1,()) O) fun v2=>
   if v2.2 !=(0:Int)then
    some (.inl v2.2)
   else
    (
     Option.bind (xS k (o.1,o.2.1,()) v1.1 v2.1) fun v3=>
     some (.inr ((0:Int),v3))
    )
  )
def DD(t1:bR)(i1:Int)(l1:List bI)(q:Int->Int->aF->Option aF)(o:Int)(t5:Bool):Option aF:=
 if t5 then
  (
   Option.bind (ar t1.1 i1) fun O=>
   Option.bind (aP (List.length l1+List.length ([(O,(0:Int),())]:List bI)<=bF)) fun _=>
   q (ag (i1+(1:Int))) o (l1++([(O,(0:Int),())]:List bI))
  )
 else
  (
   Option.bind (ar t1.2.1 o) fun R=>
   Option.bind (aP (List.length l1+List.length ([((0:Int),R,())]:List bI)<=bF)) fun _=>
   q i1 (ag (o+(1:Int))) (l1++([((0:Int),R,())]:List bI))
  )
def Bk(t1:bR)(i1:Int)(o:Int)(l1:List bI)(q:Int->Int->aF->Option aF)(U:Int)(t4:Bool):Option aF:=
 if t4 then
  (
   Option.bind (ar t1.1 i1) fun O=>
   Option.bind (ar t1.2.1 o) fun R=>
   Option.bind (aP (List.length l1+List.length ([(O,R,())]:List bI)<=bF)) fun _=>
   q (ag (i1+(1:Int))) (ag (o+(1:Int))) (l1++([(O,R,())]:List bI))
  )
 else
  (
   if decide (i1<(List.length t1.1:Int))then
    (
     Option.bind (ar t1.2.2.1 (ag (i1+(1:Int)))) fun W=>
     Option.bind (ar W o) fun Y=>
     DD t1 i1 l1 q o (U==(ag ((5:Int)+Y)))
    )
   else
    DD t1 i1 l1 q o false
  )
def aap(k:Nat)(t1:bR)(i1:Int)(o:Int)(O:aH)(l1:List bI)(R:Int->Int->aF->Option aF)(q:Int)(t3:Bool):Option aF:=
 if t3 then
  (
   Option.bind (ar t1.1 i1) fun U=>
   Option.bind (ar t1.2.1 o) fun W=>
   Option.bind (xx k (O.1,O.2.1,()) U W) fun v1=>
   Option.bind (ar t1.2.2.1 (ag (i1+(1:Int)))) fun Y=>
   Option.bind (ar Y (ag (o+(1:Int)))) fun Z=>
   Bk t1 i1 o l1 R q (q==(ag (v1+Z)))
  )
 else
  Bk t1 i1 o l1 R q false
def Q8(k:Nat)(t1:bR)(i1:Int)(o:Int)(q:aH)(l1:List bI)(O:Int->Int->aF->Option aF)(t2:Bool):Option aF:=
 if t2 then
  (
   Option.bind (ar t1.2.2.1 i1) fun R=>
   Option.bind (ar R o) fun U=>
   aap k t1 i1 o q l1 O U (decide (i1<(List.length t1.1:Int))&&(decide (o<(List.length t1.2.1:Int))))
  )
 else
  some (l1)
def US(k:Nat)(t1:bR)(q:aH)(O:Int->Int->aF->Option aF)(i1:Int)(o:Int)(l1:List bI):Option aF:=
 Q8 k t1 i1 o q l1 O (decide (i1<(List.length t1.1:Int))||(decide (o<(List.length t1.2.1:Int))))
def Cg(k:Nat)(t1:bR)(o:aH):Nat->Int->Int->aF->Option aF
 |0,_,_,_=>none
 |n+1,i1,q,l1=>US k t1 o (Cg k t1 o n) i1 q l1
def abJ(k:Nat)(t1:bR)(o:aH):Option aF:=
 Cg k t1 o k (0:Int) (0:Int) ([]:List bI)
def F8(q:bR)(i1:Int)(l2:List bI)(O:Int->Int->aF->Option aF)(o:Int)(t4:Bool):Option aF:=
 if t4 then
  (
   Option.bind (ar q.1 i1) fun R=>
   Option.bind (aP (List.length l2+List.length ([(R,(0:Int),())]:List bI)<=bF)) fun _=>
   O (ag (i1+(1:Int))) o (l2++([(R,(0:Int),())]:List bI))
  )
 else
  (
   Option.bind (ar q.2.1 o) fun U=>
   Option.bind (aP (List.length l2+List.length ([((0:Int),U,())]:List bI)<=bF)) fun _=>
   O i1 (ag (o+(1:Int))) (l2++([((0:Int),U,())]:List bI))
  )
def Bu(q:bR)(i1:Int)(o:Int)(l2:List bI)(O:Int->Int->aF->Option aF)(W:Int)(t3:Bool):Option aF:=
 if t3 then
  (
   Option.bind (ar q.1 i1) fun R=>
   Option.bind (ar q.2.1 o) fun U=>
   Option.bind (aP (List.length l2+List.length ([(R,U,())]:List bI)<=bF)) fun _=>
   O (ag (i1+(1:Int))) (ag (o+(1:Int))) (l2++([(R,U,())]:List bI))
  )
 else
  (
   if decide (i1<(List.length q.1:Int))then
    (
     Option.bind (aP (0<=(ag (i1+(1:Int)))/\(ag (i1+(1:Int)))<(65:Int))) fun _=>
     Option.bind (aP (0<=o/\o<(65:Int))) fun _=>
     Option.bind (ar q.2.2.1 (ag (i1+(1:Int)))) fun Y=>
     Option.bind (ar Y o) fun Z=>
     F8 q i1 l2 O o (W==(ag ((5:Int)+Z)))
    )
   else
    F8 q i1 l2 O o false
  )
def UR(k:Nat)(q:bR)(i1:Int)(o:Int)(R:aH)(l2:List bI)(U:Int->Int->aF->Option aF)(O:Int)(t2:Bool):Option aF:=
 if t2 then
  (
   Option.bind (ar q.1 i1) fun W=>
   Option.bind (ar q.2.1 o) fun Y=>
   Option.bind (xx k (R.1,R.2.1,()) W Y) fun v1=>
   Option.bind (aP (0<=(ag (i1+(1:Int)))/\(ag (i1+(1:Int)))<(65:Int))) fun _=>
   Option.bind (aP (0<=(ag (o+(1:Int)))/\(ag (o+(1:Int)))<(65:Int))) fun _=>
   Option.bind (ar q.2.2.1 (ag (i1+(1:Int)))) fun Z=>
   Option.bind (ar Z (ag (o+(1:Int)))) fun la=>
   Bu q i1 o l2 U O (O==(ag (v1+la)))
  )
 else
  Bu q i1 o l2 U O false
def Wj(k:Nat)(i1:Int)(o:Int)(q:bR)(O:aH)(l2:List bI)(R:Int->Int->aF->Option aF)(t1:Bool):Option aF:=
 if t1 then
  (
   Option.bind (aP (0<=i1/\i1<(65:Int))) fun _=>
   Option.bind (aP (0<=o/\o<(65:Int))) fun _=>
   Option.bind (ar q.2.2.1 i1) fun U=>
   Option.bind (ar U o) fun W=>
   UR k q i1 o O l2 R W (decide (i1<(List.length q.1:Int))&&(decide (o<(List.length q.2.1:Int))))
  )
 else
  some l2
def PP(k:Nat)(o:bR)(O:aH)(R:Int->Int->aF->Option aF)(i1:Int)(q:Int)(l2:List bI):Option aF:=
 Wj k i1 q o O l2 R (decide (i1<(List.length o.1:Int))||(decide (q<(List.length o.2.1:Int))))
def Hs(k:Nat)(o:bR)(q:aH):Nat->Int->Int->aF->Option aF
 |0,_,_,_=>none
 |n+1,i1,O,l2=>PP k o q (Hs k o q n) i1 O l2
def yk(k:Nat)(o:aH)(q:bR):Option aF:=
 Hs k q o k (0:Int) (0:Int) ([]:List bI)
def ya(k:Nat)(o:aH)(q:List UInt8)(O:List UInt8):Option (Int×List bI×Int):=
 Option.bind (sd k (o.1,o.2.1,()) q O) fun v1=>Am v1 (fun v2=>
  if v2 !=(0:Int)then
   some ((0:Int),([]:List bI),v2)
  else
   none
 ) fun v3=>
 if v3.1 !=(0:Int)then
  some ((0:Int),([]:List bI),v3.1)
 else
  (
   Option.bind (aP (0<=(0:Int)/\(0:Int)<(65:Int))) fun _=>
   Option.bind (aP (0<=(0:Int)/\(0:Int)<(65:Int))) fun _=>
   Option.bind (ar v3.2.2.2.1 (0:Int)) fun R=>
   Option.bind (ar R (0:Int)) fun U=>
   Option.bind (yk k (o.1,o.2.1,()) v3.2) fun v4=>
   some (U,v4,(0:Int))
  )
end Go.Ev
