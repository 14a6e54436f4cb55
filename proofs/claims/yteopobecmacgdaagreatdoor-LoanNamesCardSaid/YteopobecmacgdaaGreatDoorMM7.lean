/- Shallow functions, by program. -/
import Derived.Test.YteopobecmacgdaaGreatDoorMM4
import Derived.Test.YteopobecmacgdaaGreatDoorMM6
import Derived.Test.YteopobecmacgdaaGreatDoorTyA
set_option linter.unusedSectionVars false
set_option linter.unusedVariables false
set_option linter.unusedSimpArgs false
namespace Go.Ev
open Go
set_option linter.unusedVariables false
def TC(o:aB)(q:Int->cZ->Option (Option cZ×Int))(t1:Int)(m1:List (Int×Int)):Option (Option cZ×Int):=
 if decide (t1<(List.length o.2.1:Int))then
  (
   Option.bind (aq o.2.1 t1) fun L=>
   q (ai (t1+(1:Int))) (cU (aV (.int .i32)) m1 L.1 t1)
  )
 else
  some (some m1,(0:Int))
def A7(o:aB):Nat->Int->cZ->Option (Option cZ×Int)
 |0,_,_=>none
 |n+1,t1,m1=>TC o (A7 o n) t1 m1
def Iz(k:Nat)(o:aB):Option (Option cZ×Int):=
 Option.bind (gi k (o.1,o.2.1,())) fun v1=>
 if v1 !=(0:Int)then
  some ((none:Option cZ),v1)
 else
  A7 o k (0:Int) ([]:List (Int×Int))
def Im(k:Nat)(o:List UInt8):Option Int:=
 if decide ((65536:Int)<(List.length o:Int))then
  some ((3:Int))
 else
  some ((0:Int))
def Jm(o:Int)(t1:Bool):Option Int:=
 if t1 then
  some ((-1:Int))
 else
  (
   if decide (o<=(65535:Int))then
    some ((3:Int))
   else
    (
     if decide (o<=(1114111:Int))then
      some ((4:Int))
     else
      some ((-1:Int))
    )
  )
def Er(k:Nat)(o:Int):Option Int:=
 if decide (o<(0:Int))then
  some ((-1:Int))
 else
  (
   if decide (o<=(127:Int))then
    some ((1:Int))
   else
    (
     if decide (o<=(2047:Int))then
      some ((2:Int))
     else
      Jm o (decide ((55296:Int)<=o)&&(decide (o<=(57343:Int))))
    )
  )
def qQ(k:Nat)(o:(Int×Int×Int×Bool×Unit))(l1:List fe):Option (Bool×List fe):=
 Option.bind (aL (List.length l1+List.length ([(o.1,o.2.1,o.2.2.1,o.2.2.2.1,())]:List fe)<=bq)) fun _=>
 some (true,l1++([(o.1,o.2.1,o.2.2.1,o.2.2.2.1,())]:List fe))
def sV(k:Nat)(q:List UInt8)(o:Nat)(t2:List fe)(L:Nat->iN->Option iN)(O:Int)(R:Bool):Option iN:=
 Option.bind (qQ k (iK q o,(o:Int),O,R,()) t2) fun v2=>
 if !v2.1 then
  some v2.2
 else
  L (o+j6 q o) v2.2
def NG(k:Nat)(o:List UInt8)(L:Nat->iN->Option iN)(q:Nat)(t2:List fe):Option iN:=
 if decide (q<List.length o)then
  (
   Option.bind (Er k (iK o q)) fun v1=>
   if(iK o q)==(65533:Int)then
    (
     Option.bind (dD o (q:Int) (o.length:Int)) fun O=>
     Option.bind (utf8_DecodeRuneInString k O) fun v3=>
     if v3.2==(1:Int)then
      sV k o q t2 L (1:Int) true
     else
      sV k o q t2 L v1 false
    )
   else
    sV k o q t2 L v1 false
  )
 else
  some t2
def wU(k:Nat)(o:List UInt8):Nat->Nat->iN->Option iN
 |0,_,_=>none
 |n+1,q,t2=>NG k o (wU k o n) q t2
def sc(k:Nat)(o:List UInt8)(l1:List fe):Option iN:=
 wU k o k 0 l1
def Fz(k:Nat)(o:List UInt8):Option (List fe×Int):=
 Option.bind (Im k o) fun v1=>
 if v1 !=(0:Int)then
  some (([]:List fe),v1)
 else
  (
   Option.bind (sc k o ([]:List fe)) fun v2=>
   some (v2,(0:Int))
  )
def MA(v1:(List fe×Int))(m1:Option cZ)(L:Int->(List (Int))->Option bC)(t1:Int)(o:List (Int)):Option bC:=
 if decide (t1<(List.length v1.1:Int))then
  (
   Option.bind (aq v1.1 t1) fun q=>
   if q.2.2.2.1 then
    some (([]:List (Int)),(6:Int))
   else
    (
     if !((cD (aV (.int .i32)) (m1.getD []) q.1).isSome)then
      some (([]:List (Int)),(5:Int))
     else
      (
       if(List.length o:Int)==(64:Int)then
        some (([]:List (Int)),(4:Int))
       else
        (
         Option.bind (aL (List.length o+List.length ([q.1]:List (Int))<=bq)) fun _=>
         L (ai (t1+(1:Int))) (o++([q.1]:List (Int)))
        )
      )
    )
  )
 else
  some (o,(0:Int))
def xI(v1:(List fe×Int))(m1:Option cZ):Nat->Int->(List (Int))->Option bC
 |0,_,_=>none
 |n+1,t1,o=>MA v1 m1 (xI v1 m1 n) t1 o
def vZ(k:Nat)(m1:Option cZ)(o:List UInt8):Option bC:=
 Option.bind (Fz k o) fun v1=>
 if v1.2 !=(0:Int)then
  some (([]:List (Int)),v1.2)
 else
  xI v1 m1 k (0:Int) ([]:List (Int))
def Fu(k:Nat)(m1:Option cZ)(o:List UInt8):Option bC:=
 if decide ((65536:Int)<(List.length o:Int))then
  (
   Option.bind (dD o (0:Int) (65536:Int)) fun q=>
   vZ k m1 q
  )
 else
  vZ k m1 o
def mF(k:Nat)(o:aB)(q:List UInt8):Option bC:=
 Option.bind (Iz k (o.1,o.2.1,())) fun v1=>
 if v1.2 !=(0:Int)then
  some (([]:List (Int)),v1.2)
 else
  (
   Option.bind (Fu k v1.1 q) fun v2=>
   some (v2.1,v2.2)
  )
def A4(k:Nat)(o:Int):Option Int:=
 Option.bind (aL (0<=(24:Int))) fun _=>
 Option.bind (fa ([0,1,1,2,1,2,2,3,1,2,2,3,2,3,3,4,1,2,2,3,2,3,3,4,2,3,3,4,3,4,4,5,1,2,2,3,2,3,3,4,2,3,3,4,3,4,4,5,2,3,3,4,3,4,4,5,3,4,4,5,4,5,5,6,1,2,2,3,2,3,3,4,2,3,3,4,3,4,4,5,2,3,3,4,3,4,4,5,3,4,4,5,4,5,5,6,2,3,3,4,3,4,4,5,3,4,4,5,4,5,5,6,3,4,4,5,4,5,5,6,4,5,5,6,5,6,6,7,1,2,2,3,2,3,3,4,2,3,3,4,3,4,4,5,2,3,3,4,3,4,4,5,3,4,4,5,4,5,5,6,2,3,3,4,3,4,4,5,3,4,4,5,4,5,5,6,3,4,4,5,4,5,5,6,4,5,5,6,5,6,6,7,2,3,3,4,3,4,4,5,3,4,4,5,4,5,5,6,3,4,4,5,4,5,5,6,4,5,5,6,5,6,6,7,3,4,4,5,4,5,5,6,4,5,5,6,5,6,6,7,4,5,5,6,5,6,6,7,5,6,6,7,6,7,7,8]:List UInt8) (Int.fdiv o (2^min ((24:Int)).toNat 32))) fun q=>
 Option.bind (aL (0<=(16:Int))) fun _=>
 Option.bind (fa ([0,1,1,2,1,2,2,3,1,2,2,3,2,3,3,4,1,2,2,3,2,3,3,4,2,3,3,4,3,4,4,5,1,2,2,3,2,3,3,4,2,3,3,4,3,4,4,5,2,3,3,4,3,4,4,5,3,4,4,5,4,5,5,6,1,2,2,3,2,3,3,4,2,3,3,4,3,4,4,5,2,3,3,4,3,4,4,5,3,4,4,5,4,5,5,6,2,3,3,4,3,4,4,5,3,4,4,5,4,5,5,6,3,4,4,5,4,5,5,6,4,5,5,6,5,6,6,7,1,2,2,3,2,3,3,4,2,3,3,4,3,4,4,5,2,3,3,4,3,4,4,5,3,4,4,5,4,5,5,6,2,3,3,4,3,4,4,5,3,4,4,5,4,5,5,6,3,4,4,5,4,5,5,6,4,5,5,6,5,6,6,7,2,3,3,4,3,4,4,5,3,4,4,5,4,5,5,6,3,4,4,5,4,5,5,6,4,5,5,6,5,6,6,7,3,4,4,5,4,5,5,6,4,5,5,6,5,6,6,7,4,5,5,6,5,6,6,7,5,6,6,7,6,7,7,8]:List UInt8) (dt (BitVec.toNat (BitVec.ofInt 32 (Int.fdiv o (2^min ((16:Int)).toNat 32))&&&BitVec.ofInt 32 (255:Int))))) fun L=>
 Option.bind (aL (0<=(8:Int))) fun _=>
 Option.bind (fa ([0,1,1,2,1,2,2,3,1,2,2,3,2,3,3,4,1,2,2,3,2,3,3,4,2,3,3,4,3,4,4,5,1,2,2,3,2,3,3,4,2,3,3,4,3,4,4,5,2,3,3,4,3,4,4,5,3,4,4,5,4,5,5,6,1,2,2,3,2,3,3,4,2,3,3,4,3,4,4,5,2,3,3,4,3,4,4,5,3,4,4,5,4,5,5,6,2,3,3,4,3,4,4,5,3,4,4,5,4,5,5,6,3,4,4,5,4,5,5,6,4,5,5,6,5,6,6,7,1,2,2,3,2,3,3,4,2,3,3,4,3,4,4,5,2,3,3,4,3,4,4,5,3,4,4,5,4,5,5,6,2,3,3,4,3,4,4,5,3,4,4,5,4,5,5,6,3,4,4,5,4,5,5,6,4,5,5,6,5,6,6,7,2,3,3,4,3,4,4,5,3,4,4,5,4,5,5,6,3,4,4,5,4,5,5,6,4,5,5,6,5,6,6,7,3,4,4,5,4,5,5,6,4,5,5,6,5,6,6,7,4,5,5,6,5,6,6,7,5,6,6,7,6,7,7,8]:List UInt8) (dt (BitVec.toNat (BitVec.ofInt 32 (Int.fdiv o (2^min ((8:Int)).toNat 32))&&&BitVec.ofInt 32 (255:Int))))) fun O=>
 Option.bind (fa ([0,1,1,2,1,2,2,3,1,2,2,3,2,3,3,4,1,2,2,3,2,3,3,4,2,3,3,4,3,4,4,5,1,2,2,3,2,3,3,4,2,3,3,4,3,4,4,5,2,3,3,4,3,4,4,5,3,4,4,5,4,5,5,6,1,2,2,3,2,3,3,4,2,3,3,4,3,4,4,5,2,3,3,4,3,4,4,5,3,4,4,5,4,5,5,6,2,3,3,4,3,4,4,5,3,4,4,5,4,5,5,6,3,4,4,5,4,5,5,6,4,5,5,6,5,6,6,7,1,2,2,3,2,3,3,4,2,3,3,4,3,4,4,5,2,3,3,4,3,4,4,5,3,4,4,5,4,5,5,6,2,3,3,4,3,4,4,5,3,4,4,5,4,5,5,6,3,4,4,5,4,5,5,6,4,5,5,6,5,6,6,7,2,3,3,4,3,4,4,5,3,4,4,5,4,5,5,6,3,4,4,5,4,5,5,6,4,5,5,6,5,6,6,7,3,4,4,5,4,5,5,6,4,5,5,6,5,6,6,7,4,5,5,6,5,6,6,7,5,6,6,7,6,7,7,8]:List UInt8) (dt (BitVec.toNat (BitVec.ofInt 32 o&&&BitVec.ofInt 32 (255:Int))))) fun R=>
 some (ai (qF ((qF ((qF (q+L))+O))+R)))
def s5(k:Nat)(o:cz)(q:cz):Option Int:=
 Option.bind (A4 k (dt (BitVec.toNat (BitVec.ofInt 32 (dt (BitVec.toNat (BitVec.ofInt 32 o.2.1^^^BitVec.ofInt 32 q.2.1)))|||BitVec.ofInt 32 (dt (BitVec.toNat (BitVec.ofInt 32 o.2.2.1^^^BitVec.ofInt 32 q.2.2.1))))))) fun v1=>
 some (v1)
def Hy(k:Nat)(o:aB)(q:Int)(L:Int):Option (Int×Int):=
 Option.bind (jf k (o.1,o.2.1,()) q) fun v1=>
 if v1.2 !=(0:Int)then
  some ((0:Int),v1.2)
 else
  (
   Option.bind (jf k (o.1,o.2.1,()) L) fun v2=>
   if v2.2 !=(0:Int)then
    some ((0:Int),v2.2)
   else
    (
     Option.bind (s5 k (v1.1.1,v1.1.2.1,v1.1.2.2.1,()) (v2.1.1,v2.1.2.1,v2.1.2.2.1,())) fun v3=>
     some (v3,(0:Int))
    )
  )
def Jd(k:Nat)(o:aB)(q:Int)(L:Int)(t1:Bool):Option Int:=
 if t1 then
  some ((5:Int))
 else
  (
   Option.bind (Hy k (o.1,o.2.1,()) q L) fun v1=>
   some (ai ((2:Int)+v1.1))
  )
def sH(k:Nat)(L:aB)(o:Int)(q:Int):Option Int:=
 if o==q then
  some ((0:Int))
 else
  Jd k L o q ((o==(0:Int))||(q==(0:Int)))
def tR(o:Int->bF->Option bF)(q:Int)(L:bF):Option bF:=
 o (ai (q-(1:Int))) L
def vj(i1:Int)(o:Int)(q:bF)(R:Int->bF->Option bF)(U:Int)(V:Int)(W:Int)(n3:Int):Option bF:=
 Option.bind (aL (0<=i1/\i1<(65:Int))) fun _=>
 Option.bind (aL (0<=o/\o<(65:Int))) fun _=>
 Option.bind (aL (0<=i1/\i1<(65:Int))) fun _=>
 Option.bind (aq q.2.2.1 i1) fun L=>
 Option.bind (aq L o) fun Y=>
 Option.bind (aL (0<=o/\o<(65:Int))) fun _=>
 Option.bind (aq q.2.2.2.1 i1) fun O=>
 Option.bind (aq O o) fun Z=>
 tR R o (q.1,q.2.1,List.set q.2.2.1 (i1).toNat (List.set L (o).toNat (fA (fA U V) W)),List.set q.2.2.2.1 (i1).toNat (List.set O (o).toNat (fA n3 (1048577:Int))),())
def BS(q:Int)(L:Int)(O:Int)(i1:Int)(o:Int)(R:bF)(U:Int->bF->Option bF)(V:Int):Option bF:=
 if q==(fA (fA L O) q)then
  (
   Option.bind (aL (0<=i1/\i1<(65:Int))) fun _=>
   Option.bind (aL (0<=(ai (o+(1:Int)))/\(ai (o+(1:Int)))<(65:Int))) fun _=>
   Option.bind (aq R.2.2.2.1 i1) fun W=>
   Option.bind (aq W (ai (o+(1:Int)))) fun Y=>
   vj i1 o R U L O q (ai (V+Y))
  )
 else
  vj i1 o R U L O q V
def vX(q:Int)(L:Int)(O:Int)(i1:Int)(o:Int)(R:bF)(U:Int->bF->Option bF)(V:Int):Option bF:=
 if q==(fA (fA L q) O)then
  (
   Option.bind (aL (0<=(ai (i1+(1:Int)))/\(ai (i1+(1:Int)))<(65:Int))) fun _=>
   Option.bind (aL (0<=o/\o<(65:Int))) fun _=>
   Option.bind (aq R.2.2.2.1 (ai (i1+(1:Int)))) fun W=>
   Option.bind (aq W o) fun Y=>
   BS O L q i1 o R U (ai (V+Y))
  )
 else
  BS O L q i1 o R U V
def yC(q:Int)(L:Int)(i1:Int)(o:Int)(O:bF)(U:Int->bF->Option bF)(R:Int):Option bF:=
 if q==(fA (fA q L) R)then
  (
   Option.bind (aL (0<=(ai (i1+(1:Int)))/\(ai (i1+(1:Int)))<(65:Int))) fun _=>
   Option.bind (aL (0<=(ai (o+(1:Int)))/\(ai (o+(1:Int)))<(65:Int))) fun _=>
   Option.bind (aq O.2.2.2.1 (ai (i1+(1:Int)))) fun V=>
   Option.bind (aq V (ai (o+(1:Int)))) fun W=>
   vX L q R i1 o O U (ai ((0:Int)+W))
  )
 else
  vX L q R i1 o O U (0:Int)
def wO(o:Int)(U:List (Int))(i1:Int)(q:bF)(L:Int)(O:Int->bF->Option bF)(R:Int):Option bF:=
 if decide (o<(List.length U:Int))then
  (
   Option.bind (aL (0<=i1/\i1<(65:Int))) fun _=>
   Option.bind (aL (0<=(ai (o+(1:Int)))/\(ai (o+(1:Int)))<(65:Int))) fun _=>
   Option.bind (aq q.2.2.1 i1) fun V=>
   Option.bind (aq V (ai (o+(1:Int)))) fun W=>
   yC L R i1 o q O (ai ((5:Int)+W))
  )
 else
  yC L R i1 o q O (1073741824:Int)
def AM(i1:Int)(U:List (Int))(o:Int)(q:bF)(L:List (Int))(O:Int->bF->Option bF)(R:Int):Option bF:=
 if decide (i1<(List.length U:Int))then
  (
   Option.bind (aL (0<=(ai (i1+(1:Int)))/\(ai (i1+(1:Int)))<(65:Int))) fun _=>
   Option.bind (aL (0<=o/\o<(65:Int))) fun _=>
   Option.bind (aq q.2.2.1 (ai (i1+(1:Int)))) fun V=>
   Option.bind (aq V o) fun W=>
   wO o L i1 q R O (ai ((5:Int)+W))
  )
 else
  wO o L i1 q R O (1073741824:Int)
def P1(k:Nat)(q:List (Int))(i1:Int)(L:List (Int))(o:Int)(a2:List (List UInt8))(a3:List aw)(O:bF)(R:Int->bF->Option bF)(t2:Bool):Option bF:=
 if t2 then
  (
   Option.bind (aq q i1) fun U=>
   Option.bind (aq L o) fun V=>
   Option.bind (sH k (a2,a3,()) U V) fun v1=>
   Option.bind (aL (0<=(ai (i1+(1:Int)))/\(ai (i1+(1:Int)))<(65:Int))) fun _=>
   Option.bind (aL (0<=(ai (o+(1:Int)))/\(ai (o+(1:Int)))<(65:Int))) fun _=>
   Option.bind (aq O.2.2.1 (ai (i1+(1:Int)))) fun W=>
   Option.bind (aq W (ai (o+(1:Int)))) fun Y=>
   AM i1 q o O L R (ai (v1+Y))
  )
 else
  AM i1 q o O L R (1073741824:Int)
def IW(k:Nat)(q:Int->bF->Option bF)(o:Int)(L:bF)(O:List (Int))(i1:Int)(R:List (Int))(a2:List (List UInt8))(a3:List aw)(t1:Bool):Option bF:=
 if t1 then
  tR q o L
 else
  P1 k O i1 R o a2 a3 L q (decide (i1<(List.length O:Int))&&(decide (o<(List.length R:Int))))
def Pt(k:Nat)(q:List (Int))(i1:Int)(L:List (Int))(a2:List (List UInt8))(a3:List aw)(R:Int->aF->aI->bF->Option bF)(U:Int->bF->Option bF)(o:Int)(O:bF):Option bF:=
 if decide ((0:Int)<=o)then
  IW k U o O q i1 L a2 a3 ((i1==(List.length q:Int))&&(o==(List.length L:Int)))
 else
  R (ai (i1-(1:Int))) a2 a3 O
def tx(k:Nat)(o:List (Int))(i1:Int)(q:List (Int))(a2:List (List UInt8))(a3:List aw)(L:Int->aF->aI->bF->Option bF):Nat->Int->bF->Option bF
 |0,_,_=>none
 |n+1,O,R=>Pt k o i1 q a2 a3 L (tx k o i1 q a2 a3 L n) O R
def QJ(k:Nat)(L:List (Int))(o:List (Int))(O:Int->aF->aI->bF->Option bF)(i1:Int)(a2:List (List UInt8))(a3:List aw)(q:bF):Option bF:=
 if decide ((0:Int)<=i1)then
  tx k L i1 o a2 a3 O k (List.length o:Int) q
 else
  some q
def tG(k:Nat)(o:List (Int))(q:List (Int)):Nat->Int->aF->aI->bF->Option bF
 |0,_,_,_,_=>none
 |n+1,i1,a2,a3,L=>QJ k o q (tG k o q n) i1 a2 a3 L
def tj(k:Nat)(L:aB)(o:List (Int))(q:List (Int)):Option bF:=
 Option.bind (aL (0<=(List.length o:Int)/\(List.length o:Int)<(65:Int))) fun _=>
 Option.bind (aL (0<=(List.length q:Int)/\(List.length q:Int)<(65:Int))) fun _=>
 Option.bind (aq (List.replicate 65 (List.replicate 65 (0:Int))) (List.length o:Int)) fun O=>
 Option.bind (aq O (List.length q:Int)) fun R=>
 tG k o q k (List.length o:Int) L.1 L.2.1 (o,q,(List.replicate 65 (List.replicate 65 (0:Int))),List.set (List.replicate 65 (List.replicate 65 (0:Int))) ((List.length o:Int)).toNat (List.set O ((List.length q:Int)).toNat (1:Int)),())
def pZ(k:Nat)(o:aB)(q:List UInt8)(L:List UInt8):Option (Sum Int uC):=
 Option.bind (mF k (o.1,o.2.1,()) q) fun v1=>
 if v1.2 !=(0:Int)then
  some (.inl v1.2)
 else
  (
   Option.bind (mF k (o.1,o.2.1,()) L) fun v2=>
   if v2.2 !=(0:Int)then
    some (.inl v2.2)
   else
    (
     Option.bind (tj k (o.1,o.2.1,()) v1.1 v2.1) fun v3=>
     some (.inr ((0:Int),v3))
    )
  )
def Cz(t1:bF)(i1:Int)(l1:List bw)(q:Int->Int->ay->Option ay)(o:Int)(t5:Bool):Option ay:=
 if t5 then
  (
   Option.bind (aq t1.1 i1) fun L=>
   Option.bind (aL (List.length l1+List.length ([(L,(0:Int),())]:List bw)<=bq)) fun _=>
   q (ai (i1+(1:Int))) o (l1++([(L,(0:Int),())]:List bw))
  )
 else
  (
   Option.bind (aq t1.2.1 o) fun O=>
   Option.bind (aL (List.length l1+List.length ([((0:Int),O,())]:List bw)<=bq)) fun _=>
   q i1 (ai (o+(1:Int))) (l1++([((0:Int),O,())]:List bw))
  )
def AF(t1:bF)(i1:Int)(o:Int)(l1:List bw)(q:Int->Int->ay->Option ay)(R:Int)(t4:Bool):Option ay:=
 if t4 then
  (
   Option.bind (aq t1.1 i1) fun L=>
   Option.bind (aq t1.2.1 o) fun O=>
   Option.bind (aL (List.length l1+List.length ([(L,O,())]:List bw)<=bq)) fun _=>
   q (ai (i1+(1:Int))) (ai (o+(1:Int))) (l1++([(L,O,())]:List bw))
  )
 else
  (
   if decide (i1<(List.length t1.1:Int))then
    (
     Option.bind (aq t1.2.2.1 (ai (i1+(1:Int)))) fun U=>
     Option.bind (aq U o) fun V=>
     Cz t1 i1 l1 q o (R==(ai ((5:Int)+V)))
    )
   else
    Cz t1 i1 l1 q o false
  )
def K1(k:Nat)(t1:bF)(i1:Int)(o:Int)(L:aB)(l1:List bw)(O:Int->Int->ay->Option ay)(q:Int)(t3:Bool):Option ay:=
 if t3 then
  (
   Option.bind (aq t1.1 i1) fun R=>
   Option.bind (aq t1.2.1 o) fun U=>
   Option.bind (sH k (L.1,L.2.1,()) R U) fun v1=>
   Option.bind (aq t1.2.2.1 (ai (i1+(1:Int)))) fun V=>
   Option.bind (aq V (ai (o+(1:Int)))) fun W=>
   AF t1 i1 o l1 O q (q==(ai (v1+W)))
  )
 else
  AF t1 i1 o l1 O q false
def R8(k:Nat)(t1:bF)(i1:Int)(o:Int)(q:aB)(l1:List bw)(L:Int->Int->ay->Option ay)(t2:Bool):Option ay:=
 if t2 then
  (
   Option.bind (aq t1.2.2.1 i1) fun O=>
   Option.bind (aq O o) fun R=>
   K1 k t1 i1 o q l1 L R (decide (i1<(List.length t1.1:Int))&&(decide (o<(List.length t1.2.1:Int))))
  )
 else
  some (l1)
def Ja(k:Nat)(t1:bF)(q:aB)(L:Int->Int->ay->Option ay)(i1:Int)(o:Int)(l1:List bw):Option ay:=
 R8 k t1 i1 o q l1 L (decide (i1<(List.length t1.1:Int))||(decide (o<(List.length t1.2.1:Int))))
def wW(k:Nat)(t1:bF)(o:aB):Nat->Int->Int->ay->Option ay
 |0,_,_,_=>none
 |n+1,i1,q,l1=>Ja k t1 o (wW k t1 o n) i1 q l1
def Oe(k:Nat)(t1:bF)(o:aB):Option ay:=
 wW k t1 o k (0:Int) (0:Int) ([]:List bw)
def uS(q:bF)(i1:Int)(l2:List bw)(L:Int->Int->ay->Option ay)(o:Int)(t4:Bool):Option ay:=
 if t4 then
  (
   Option.bind (aq q.1 i1) fun O=>
   Option.bind (aL (List.length l2+List.length ([(O,(0:Int),())]:List bw)<=bq)) fun _=>
   L (ai (i1+(1:Int))) o (l2++([(O,(0:Int),())]:List bw))
  )
 else
  (
   Option.bind (aq q.2.1 o) fun R=>
   Option.bind (aL (List.length l2+List.length ([((0:Int),R,())]:List bw)<=bq)) fun _=>
   L i1 (ai (o+(1:Int))) (l2++([((0:Int),R,())]:List bw))
  )
def yZ(q:bF)(i1:Int)(o:Int)(l2:List bw)(L:Int->Int->ay->Option ay)(U:Int)(t3:Bool):Option ay:=
 if t3 then
  (
   Option.bind (aq q.1 i1) fun O=>
   Option.bind (aq q.2.1 o) fun R=>
   Option.bind (aL (List.length l2+List.length ([(O,R,())]:List bw)<=bq)) fun _=>
   L (ai (i1+(1:Int))) (ai (o+(1:Int))) (l2++([(O,R,())]:List bw))
  )
 else
  (
   if decide (i1<(List.length q.1:Int))then
    (
     Option.bind (aL (0<=(ai (i1+(1:Int)))/\(ai (i1+(1:Int)))<(65:Int))) fun _=>
     Option.bind (aL (0<=o/\o<(65:Int))) fun _=>
     Option.bind (aq q.2.2.1 (ai (i1+(1:Int)))) fun V=>
     Option.bind (aq V o) fun W=>
     uS q i1 l2 L o (U==(ai ((5:Int)+W)))
    )
   else
    uS q i1 l2 L o false
  )
def IQ(k:Nat)(q:bF)(i1:Int)(o:Int)(O:aB)(l2:List bw)(R:Int->Int->ay->Option ay)(L:Int)(t2:Bool):Option ay:=
 if t2 then
  (
   Option.bind (aq q.1 i1) fun U=>
   Option.bind (aq q.2.1 o) fun V=>
   Option.bind (sH k (O.1,O.2.1,()) U V) fun v1=>
   Option.bind (aL (0<=(ai (i1+(1:Int)))/\(ai (i1+(1:Int)))<(65:Int))) fun _=>
   Option.bind (aL (0<=(ai (o+(1:Int)))/\(ai (o+(1:Int)))<(65:Int))) fun _=>
   Option.bind (aq q.2.2.1 (ai (i1+(1:Int)))) fun W=>
   Option.bind (aq W (ai (o+(1:Int)))) fun Y=>
   yZ q i1 o l2 R L (L==(ai (v1+Y)))
  )
 else
  yZ q i1 o l2 R L false
def Mv(k:Nat)(i1:Int)(o:Int)(q:bF)(L:aB)(l2:List bw)(O:Int->Int->ay->Option ay)(t1:Bool):Option ay:=
 if t1 then
  (
   Option.bind (aL (0<=i1/\i1<(65:Int))) fun _=>
   Option.bind (aL (0<=o/\o<(65:Int))) fun _=>
   Option.bind (aq q.2.2.1 i1) fun R=>
   Option.bind (aq R o) fun U=>
   IQ k q i1 o L l2 O U (decide (i1<(List.length q.1:Int))&&(decide (o<(List.length q.2.1:Int))))
  )
 else
  some l2
def Ul(k:Nat)(o:bF)(L:aB)(O:Int->Int->ay->Option ay)(i1:Int)(q:Int)(l2:List bw):Option ay:=
 Mv k i1 q o L l2 O (decide (i1<(List.length o.1:Int))||(decide (q<(List.length o.2.1:Int))))
def vi(k:Nat)(o:bF)(q:aB):Nat->Int->Int->ay->Option ay
 |0,_,_,_=>none
 |n+1,i1,L,l2=>Ul k o q (vi k o q n) i1 L l2
def qN(k:Nat)(o:aB)(q:bF):Option ay:=
 vi k q o k (0:Int) (0:Int) ([]:List bw)
def rr(k:Nat)(o:aB)(q:List UInt8)(L:List UInt8):Option (Int×List bw×Int):=
 Option.bind (pZ k (o.1,o.2.1,()) q L) fun v1=>B5 v1 (fun v2=>
  if v2 !=(0:Int)then
   some ((0:Int),([]:List bw),v2)
  else
   none
 ) fun v3=>
 if v3.1 !=(0:Int)then
  some ((0:Int),([]:List bw),v3.1)
 else
  (
   Option.bind (aL (0<=(0:Int)/\(0:Int)<(65:Int))) fun _=>
   Option.bind (aL (0<=(0:Int)/\(0:Int)<(65:Int))) fun _=>
   Option.bind (aq v3.2.2.2.1 (0:Int)) fun O=>
   Option.bind (aq O (0:Int)) fun R=>
   Option.bind (qN k (o.1,o.2.1,()) v3.2) fun v4=>
   some (R,v4,(0:Int))
  )
end Go.Ev
