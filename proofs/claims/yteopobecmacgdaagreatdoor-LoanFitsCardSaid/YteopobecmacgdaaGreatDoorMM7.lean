/- Shallow functions, by program. -/
import Derived.Test.YteopobecmacgdaaGreatDoorMM4
import Derived.Test.YteopobecmacgdaaGreatDoorMM6
import Derived.Test.YteopobecmacgdaaGreatDoorTyA
set_option linter.unusedSectionVars false
set_option linter.unusedVariables false
set_option linter.unusedSimpArgs false
namespace Go.Ev
open Go
set_option linter.unusedVariables false
def Fu(o:aC)(q:Int->de->Option (Option de×Int))(t1:Int)(m1:List (Int×Int)):Option (Option de×Int):=
 if decide (t1<(List.length o.2.1:Int))then
  (
   Option.bind (aq o.2.1 t1) fun L=>
   q (aj (t1+(1:Int))) (cm (aQ (.int .i32)) m1 L.1 t1)
  )
 else
  some (some m1,(0:Int))
def nP(o:aC):Nat->Int->de->Option (Option de×Int)
 |0,_,_=>none
 |n+1,t1,m1=>Fu o (nP o n) t1 m1
def yD(k:Nat)(o:aC):Option (Option de×Int):=
 Option.bind (fR k (o.1,o.2.1,())) fun v1=>
 if v1 !=(0:Int)then
  some ((none:Option de),v1)
 else
  nP o k (0:Int) ([]:List (Int×Int))
def C3(k:Nat)(o:List UInt8):Option Int:=
 if decide ((65536:Int)<(List.length o:Int))then
  some ((3:Int))
 else
  some ((0:Int))
def Fm(o:Int)(t1:Bool):Option Int:=
 if t1 then
  some ((-1:Int))
 else
  (
   if decide (o<=(65535:Int))then
    some ((3:Int))
   else
    (
     if decide (o<=(1114111:Int))then
      some ((4:Int))
     else
      some ((-1:Int))
    )
  )
def rL(k:Nat)(o:Int):Option Int:=
 if decide (o<(0:Int))then
  some ((-1:Int))
 else
  (
   if decide (o<=(127:Int))then
    some ((1:Int))
   else
    (
     if decide (o<=(2047:Int))then
      some ((2:Int))
     else
      Fm o (decide ((55296:Int)<=o)&&(decide (o<=(57343:Int))))
    )
  )
def rs(k:Nat)(o:mI)(l1:List fG):Option (Bool×List fG):=
 Option.bind (aL (List.length l1+List.length ([(o.1,o.2.1,o.2.2.1,o.2.2.2.1,())]:List fG)<=br)) fun _=>
 some (true,l1++([(o.1,o.2.1,o.2.2.1,o.2.2.2.1,())]:List fG))
def oF(k:Nat)(q:List UInt8)(o:Nat)(t2:List fG)(L:Nat->jn->Option jn)(O:Int)(R:Bool):Option jn:=
 Option.bind (rs k (gd q o,(o:Int),O,R,()) t2) fun v2=>
 if !v2.1 then
  some v2.2
 else
  L (o+iX q o) v2.2
def E8(k:Nat)(o:List UInt8)(L:Nat->jn->Option jn)(q:Nat)(t2:List fG):Option jn:=
 if decide (q<List.length o)then
  (
   Option.bind (rL k (gd o q)) fun v1=>
   if(gd o q)==(65533:Int)then
    (
     Option.bind (dx o (q:Int) (o.length:Int)) fun O=>
     Option.bind (utf8_DecodeRuneInString k O) fun v3=>
     if v3.2==(1:Int)then
      oF k o q t2 L (1:Int) true
     else
      oF k o q t2 L v1 false
    )
   else
    oF k o q t2 L v1 false
  )
 else
  some t2
def oh(k:Nat)(o:List UInt8):Nat->Nat->jn->Option jn
 |0,_,_=>none
 |n+1,q,t2=>E8 k o (oh k o n) q t2
def pW(k:Nat)(o:List UInt8)(l1:List fG):Option jn:=
 oh k o k 0 l1
def wB(k:Nat)(o:List UInt8):Option (List fG×Int):=
 Option.bind (C3 k o) fun v1=>
 if v1 !=(0:Int)then
  some (([]:List fG),v1)
 else
  (
   Option.bind (pW k o ([]:List fG)) fun v2=>
   some (v2,(0:Int))
  )
def G1(v1:(List fG×Int))(m1:Option de)(L:Int->(List (Int))->Option bF)(t1:Int)(o:List (Int)):Option bF:=
 if decide (t1<(List.length v1.1:Int))then
  (
   Option.bind (aq v1.1 t1) fun q=>
   if q.2.2.2.1 then
    some (([]:List (Int)),(6:Int))
   else
    (
     if !((bL (aQ (.int .i32)) (m1.getD []) q.1).isSome)then
      some (([]:List (Int)),(5:Int))
     else
      (
       if(List.length o:Int)==(64:Int)then
        some (([]:List (Int)),(4:Int))
       else
        (
         Option.bind (aL (List.length o+List.length ([q.1]:List (Int))<=br)) fun _=>
         L (aj (t1+(1:Int))) (o++([q.1]:List (Int)))
        )
      )
    )
  )
 else
  some (o,(0:Int))
def nS(v1:(List fG×Int))(m1:Option de):Nat->Int->(List (Int))->Option bF
 |0,_,_=>none
 |n+1,t1,o=>G1 v1 m1 (nS v1 m1 n) t1 o
def rM(k:Nat)(m1:Option de)(o:List UInt8):Option bF:=
 Option.bind (wB k o) fun v1=>
 if v1.2 !=(0:Int)then
  some (([]:List (Int)),v1.2)
 else
  nS v1 m1 k (0:Int) ([]:List (Int))
def EB(k:Nat)(m1:Option de)(o:List UInt8):Option bF:=
 if decide ((65536:Int)<(List.length o:Int))then
  (
   Option.bind (dx o (0:Int) (65536:Int)) fun q=>
   rM k m1 q
  )
 else
  rM k m1 o
def kK(k:Nat)(o:aC)(q:List UInt8):Option bF:=
 Option.bind (yD k (o.1,o.2.1,())) fun v1=>
 if v1.2 !=(0:Int)then
  some (([]:List (Int)),v1.2)
 else
  (
   Option.bind (EB k v1.1 q) fun v2=>
   some (v2.1,v2.2)
  )
def rB(k:Nat)(o:Int):Option Int:=
 Option.bind (aL (0<=(24:Int))) fun _=>
 Option.bind (dZ ([0,1,1,2,1,2,2,3,1,2,2,3,2,3,3,4,1,2,2,3,2,3,3,4,2,3,3,4,3,4,4,5,1,2,2,3,2,3,3,4,2,3,3,4,3,4,4,5,2,3,3,4,3,4,4,5,3,4,4,5,4,5,5,6,1,2,2,3,2,3,3,4,2,3,3,4,3,4,4,5,2,3,3,4,3,4,4,5,3,4,4,5,4,5,5,6,2,3,3,4,3,4,4,5,3,4,4,5,4,5,5,6,3,4,4,5,4,5,5,6,4,5,5,6,5,6,6,7,1,2,2,3,2,3,3,4,2,3,3,4,3,4,4,5,2,3,3,4,3,4,4,5,3,4,4,5,4,5,5,6,2,3,3,4,3,4,4,5,3,4,4,5,4,5,5,6,3,4,4,5,4,5,5,6,4,5,5,6,5,6,6,7,2,3,3,4,3,4,4,5,3,4,4,5,4,5,5,6,3,4,4,5,4,5,5,6,4,5,5,6,5,6,6,7,3,4,4,5,4,5,5,6,4,5,5,6,5,6,6,7,4,5,5,6,5,6,6,7,5,6,6,7,6,7,7,8]:List UInt8) (Int.fdiv o (2^min ((24:Int)).toNat 32))) fun q=>
 Option.bind (aL (0<=(16:Int))) fun _=>
 Option.bind (dZ ([0,1,1,2,1,2,2,3,1,2,2,3,2,3,3,4,1,2,2,3,2,3,3,4,2,3,3,4,3,4,4,5,1,2,2,3,2,3,3,4,2,3,3,4,3,4,4,5,2,3,3,4,3,4,4,5,3,4,4,5,4,5,5,6,1,2,2,3,2,3,3,4,2,3,3,4,3,4,4,5,2,3,3,4,3,4,4,5,3,4,4,5,4,5,5,6,2,3,3,4,3,4,4,5,3,4,4,5,4,5,5,6,3,4,4,5,4,5,5,6,4,5,5,6,5,6,6,7,1,2,2,3,2,3,3,4,2,3,3,4,3,4,4,5,2,3,3,4,3,4,4,5,3,4,4,5,4,5,5,6,2,3,3,4,3,4,4,5,3,4,4,5,4,5,5,6,3,4,4,5,4,5,5,6,4,5,5,6,5,6,6,7,2,3,3,4,3,4,4,5,3,4,4,5,4,5,5,6,3,4,4,5,4,5,5,6,4,5,5,6,5,6,6,7,3,4,4,5,4,5,5,6,4,5,5,6,5,6,6,7,4,5,5,6,5,6,6,7,5,6,6,7,6,7,7,8]:List UInt8) (cA (BitVec.toNat (BitVec.ofInt 32 (Int.fdiv o (2^min ((16:Int)).toNat 32))&&&BitVec.ofInt 32 (255:Int))))) fun L=>
 Option.bind (aL (0<=(8:Int))) fun _=>
 Option.bind (dZ ([0,1,1,2,1,2,2,3,1,2,2,3,2,3,3,4,1,2,2,3,2,3,3,4,2,3,3,4,3,4,4,5,1,2,2,3,2,3,3,4,2,3,3,4,3,4,4,5,2,3,3,4,3,4,4,5,3,4,4,5,4,5,5,6,1,2,2,3,2,3,3,4,2,3,3,4,3,4,4,5,2,3,3,4,3,4,4,5,3,4,4,5,4,5,5,6,2,3,3,4,3,4,4,5,3,4,4,5,4,5,5,6,3,4,4,5,4,5,5,6,4,5,5,6,5,6,6,7,1,2,2,3,2,3,3,4,2,3,3,4,3,4,4,5,2,3,3,4,3,4,4,5,3,4,4,5,4,5,5,6,2,3,3,4,3,4,4,5,3,4,4,5,4,5,5,6,3,4,4,5,4,5,5,6,4,5,5,6,5,6,6,7,2,3,3,4,3,4,4,5,3,4,4,5,4,5,5,6,3,4,4,5,4,5,5,6,4,5,5,6,5,6,6,7,3,4,4,5,4,5,5,6,4,5,5,6,5,6,6,7,4,5,5,6,5,6,6,7,5,6,6,7,6,7,7,8]:List UInt8) (cA (BitVec.toNat (BitVec.ofInt 32 (Int.fdiv o (2^min ((8:Int)).toNat 32))&&&BitVec.ofInt 32 (255:Int))))) fun O=>
 Option.bind (dZ ([0,1,1,2,1,2,2,3,1,2,2,3,2,3,3,4,1,2,2,3,2,3,3,4,2,3,3,4,3,4,4,5,1,2,2,3,2,3,3,4,2,3,3,4,3,4,4,5,2,3,3,4,3,4,4,5,3,4,4,5,4,5,5,6,1,2,2,3,2,3,3,4,2,3,3,4,3,4,4,5,2,3,3,4,3,4,4,5,3,4,4,5,4,5,5,6,2,3,3,4,3,4,4,5,3,4,4,5,4,5,5,6,3,4,4,5,4,5,5,6,4,5,5,6,5,6,6,7,1,2,2,3,2,3,3,4,2,3,3,4,3,4,4,5,2,3,3,4,3,4,4,5,3,4,4,5,4,5,5,6,2,3,3,4,3,4,4,5,3,4,4,5,4,5,5,6,3,4,4,5,4,5,5,6,4,5,5,6,5,6,6,7,2,3,3,4,3,4,4,5,3,4,4,5,4,5,5,6,3,4,4,5,4,5,5,6,4,5,5,6,5,6,6,7,3,4,4,5,4,5,5,6,4,5,5,6,5,6,6,7,4,5,5,6,5,6,6,7,5,6,6,7,6,7,7,8]:List UInt8) (cA (BitVec.toNat (BitVec.ofInt 32 o&&&BitVec.ofInt 32 (255:Int))))) fun R=>
 some (aj (kB ((kB ((kB (q+L))+O))+R)))
def tq(k:Nat)(o:cz)(q:cz):Option Int:=
 Option.bind (rB k (cA (BitVec.toNat (BitVec.ofInt 32 (cA (BitVec.toNat (BitVec.ofInt 32 o.2.1^^^BitVec.ofInt 32 q.2.1)))|||BitVec.ofInt 32 (cA (BitVec.toNat (BitVec.ofInt 32 o.2.2.1^^^BitVec.ofInt 32 q.2.2.1))))))) fun v1=>
 some (v1)
def IM(k:Nat)(o:aC)(q:Int)(L:Int):Option (Int×Int):=
 Option.bind (fK k (o.1,o.2.1,()) q) fun v1=>
 if v1.2 !=(0:Int)then
  some ((0:Int),v1.2)
 else
  (
   Option.bind (fK k (o.1,o.2.1,()) L) fun v2=>
   if v2.2 !=(0:Int)then
    some ((0:Int),v2.2)
   else
    (
     Option.bind (tq k (v1.1.1,v1.1.2.1,v1.1.2.2.1,()) (v2.1.1,v2.1.2.1,v2.1.2.2.1,())) fun v3=>
     some (v3,(0:Int))
    )
  )
def LX(k:Nat)(o:aC)(q:Int)(L:Int)(t1:Bool):Option Int:=
 if t1 then
  some ((5:Int))
 else
  (
   Option.bind (IM k (o.1,o.2.1,()) q L) fun v1=>
   some (aj ((2:Int)+v1.1))
  )
def sY(k:Nat)(L:aC)(o:Int)(q:Int):Option Int:=
 if o==q then
  some ((0:Int))
 else
  LX k L o q ((o==(0:Int))||(q==(0:Int)))
def DU(aP:Int->bK->Option bK)(o:Int)(q:bK):Option bK:=
 aP (aj (o-(1:Int))) q
def EW(i1:Int)(o:Int)(q:bK)(aP:Int->bK->Option bK)(R:Int)(U:Int)(W:Int)(n3:Int):Option bK:=
 Option.bind (aL (0<=i1/\i1<(65:Int))) fun _=>
 Option.bind (aL (0<=o/\o<(65:Int))) fun _=>
 Option.bind (aL (0<=i1/\i1<(65:Int))) fun _=>
 Option.bind (aq q.2.2.1 i1) fun L=>
 Option.bind (aq L o) fun Y=>
 Option.bind (aL (0<=o/\o<(65:Int))) fun _=>
 Option.bind (aq q.2.2.2.1 i1) fun O=>
 Option.bind (aq O o) fun Z=>
 DU aP o (q.1,q.2.1,List.set q.2.2.1 (i1).toNat (List.set L (o).toNat (ga (ga R U) W)),List.set q.2.2.2.1 (i1).toNat (List.set O (o).toNat (ga n3 (1048577:Int))),())
def Ck(q:Int)(L:Int)(O:Int)(i1:Int)(o:Int)(R:bK)(aP:Int->bK->Option bK)(U:Int):Option bK:=
 if q==(ga (ga L O) q)then
  (
   Option.bind (aL (0<=i1/\i1<(65:Int))) fun _=>
   Option.bind (aL (0<=(aj (o+(1:Int)))/\(aj (o+(1:Int)))<(65:Int))) fun _=>
   Option.bind (aq R.2.2.2.1 i1) fun W=>
   Option.bind (aq W (aj (o+(1:Int)))) fun Y=>
   EW i1 o R aP L O q (aj (U+Y))
  )
 else
  EW i1 o R aP L O q U
def DP(q:Int)(L:Int)(O:Int)(i1:Int)(o:Int)(R:bK)(aP:Int->bK->Option bK)(U:Int):Option bK:=
 if q==(ga (ga L q) O)then
  (
   Option.bind (aL (0<=(aj (i1+(1:Int)))/\(aj (i1+(1:Int)))<(65:Int))) fun _=>
   Option.bind (aL (0<=o/\o<(65:Int))) fun _=>
   Option.bind (aq R.2.2.2.1 (aj (i1+(1:Int)))) fun W=>
   Option.bind (aq W o) fun Y=>
   Ck O L q i1 o R aP (aj (U+Y))
  )
 else
  Ck O L q i1 o R aP U
def yp(q:Int)(L:Int)(i1:Int)(o:Int)(O:bK)(aP:Int->bK->Option bK)(R:Int):Option bK:=
 if q==(ga (ga q L) R)then
  (
   Option.bind (aL (0<=(aj (i1+(1:Int)))/\(aj (i1+(1:Int)))<(65:Int))) fun _=>
   Option.bind (aL (0<=(aj (o+(1:Int)))/\(aj (o+(1:Int)))<(65:Int))) fun _=>
   Option.bind (aq O.2.2.2.1 (aj (i1+(1:Int)))) fun U=>
   Option.bind (aq U (aj (o+(1:Int)))) fun W=>
   DP L q R i1 o O aP (aj ((0:Int)+W))
  )
 else
  DP L q R i1 o O aP (0:Int)
def yu(o:Int)(R:List (Int))(i1:Int)(q:bK)(L:Int)(aP:Int->bK->Option bK)(O:Int):Option bK:=
 if decide (o<(List.length R:Int))then
  (
   Option.bind (aL (0<=i1/\i1<(65:Int))) fun _=>
   Option.bind (aL (0<=(aj (o+(1:Int)))/\(aj (o+(1:Int)))<(65:Int))) fun _=>
   Option.bind (aq q.2.2.1 i1) fun U=>
   Option.bind (aq U (aj (o+(1:Int)))) fun W=>
   yp L O i1 o q aP (aj ((5:Int)+W))
  )
 else
  yp L O i1 o q aP (1073741824:Int)
def Ce(i1:Int)(R:List (Int))(o:Int)(q:bK)(L:List (Int))(aP:Int->bK->Option bK)(O:Int):Option bK:=
 if decide (i1<(List.length R:Int))then
  (
   Option.bind (aL (0<=(aj (i1+(1:Int)))/\(aj (i1+(1:Int)))<(65:Int))) fun _=>
   Option.bind (aL (0<=o/\o<(65:Int))) fun _=>
   Option.bind (aq q.2.2.1 (aj (i1+(1:Int)))) fun U=>
   Option.bind (aq U o) fun W=>
   yu o L i1 q O aP (aj ((5:Int)+W))
  )
 else
  yu o L i1 q O aP (1073741824:Int)
def W8(k:Nat)(q:List (Int))(i1:Int)(L:List (Int))(o:Int)(a2:List (List UInt8))(a3:List aw)(O:bK)(aP:Int->bK->Option bK)(t2:Bool):Option bK:=
 if t2 then
  (
   Option.bind (aq q i1) fun R=>
   Option.bind (aq L o) fun U=>
   Option.bind (sY k (a2,a3,()) R U) fun v1=>
   Option.bind (aL (0<=(aj (i1+(1:Int)))/\(aj (i1+(1:Int)))<(65:Int))) fun _=>
   Option.bind (aL (0<=(aj (o+(1:Int)))/\(aj (o+(1:Int)))<(65:Int))) fun _=>
   Option.bind (aq O.2.2.1 (aj (i1+(1:Int)))) fun W=>
   Option.bind (aq W (aj (o+(1:Int)))) fun Y=>
   Ce i1 q o O L aP (aj (v1+Y))
  )
 else
  Ce i1 q o O L aP (1073741824:Int)
def Mj(k:Nat)(aP:Int->bK->Option bK)(o:Int)(q:bK)(L:List (Int))(i1:Int)(O:List (Int))(a2:List (List UInt8))(a3:List aw)(t1:Bool):Option bK:=
 if t1 then
  DU aP o q
 else
  W8 k L i1 O o a2 a3 q aP (decide (i1<(List.length L:Int))&&(decide (o<(List.length O:Int))))
def M3(k:Nat)(q:List (Int))(i1:Int)(L:List (Int))(a2:List (List UInt8))(a3:List aw)(R:Int->aG->aJ->bK->Option bK)(aP:Int->bK->Option bK)(o:Int)(O:bK):Option bK:=
 if decide ((0:Int)<=o)then
  Mj k aP o O q i1 L a2 a3 ((i1==(List.length q:Int))&&(o==(List.length L:Int)))
 else
  R (aj (i1-(1:Int))) a2 a3 O
def Bp(k:Nat)(o:List (Int))(i1:Int)(q:List (Int))(a2:List (List UInt8))(a3:List aw)(L:Int->aG->aJ->bK->Option bK):Nat->Int->bK->Option bK
 |0,_,_=>none
 |n+1,O,R=>M3 k o i1 q a2 a3 L (Bp k o i1 q a2 a3 L n) O R
def OQ(k:Nat)(L:List (Int))(o:List (Int))(O:Int->aG->aJ->bK->Option bK)(i1:Int)(a2:List (List UInt8))(a3:List aw)(q:bK):Option bK:=
 if decide ((0:Int)<=i1)then
  Bp k L i1 o a2 a3 O k (List.length o:Int) q
 else
  some q
def Bc(k:Nat)(o:List (Int))(q:List (Int)):Nat->Int->aG->aJ->bK->Option bK
 |0,_,_,_,_=>none
 |n+1,i1,a2,a3,L=>OQ k o q (Bc k o q n) i1 a2 a3 L
def sw(k:Nat)(L:aC)(o:List (Int))(q:List (Int)):Option bK:=
 Option.bind (aL (0<=(List.length o:Int)/\(List.length o:Int)<(65:Int))) fun _=>
 Option.bind (aL (0<=(List.length q:Int)/\(List.length q:Int)<(65:Int))) fun _=>
 Option.bind (aq (List.replicate 65 (List.replicate 65 (0:Int))) (List.length o:Int)) fun O=>
 Option.bind (aq O (List.length q:Int)) fun R=>
 Bc k o q k (List.length o:Int) L.1 L.2.1 (o,q,(List.replicate 65 (List.replicate 65 (0:Int))),List.set (List.replicate 65 (List.replicate 65 (0:Int))) ((List.length o:Int)).toNat (List.set O ((List.length q:Int)).toNat (1:Int)),())
def qr(k:Nat)(o:aC)(q:List UInt8)(L:List UInt8):Option (Sum Int w7):=
 Option.bind (kK k (o.1,o.2.1,()) q) fun v1=>
 if v1.2 !=(0:Int)then
  some (.inl v1.2)
 else
  (
   Option.bind (kK k (o.1,o.2.1,()) L) fun v2=>
   if v2.2 !=(0:Int)then
    some (.inl v2.2)
   else
    (
     Option.bind (sw k (o.1,o.2.1,()) v1.1 v2.1) fun v3=>
     some (.inr ((0:Int),v3))
    )
  )
def xR(t1:bK)(i1:Int)(l1:List bz)(q:Int->Int->aA->Option aA)(o:Int)(t5:Bool):Option aA:=
 if t5 then
  (
   Option.bind (aq t1.1 i1) fun L=>
   Option.bind (aL (List.length l1+List.length ([(L,(0:Int),())]:List bz)<=br)) fun _=>
   q (aj (i1+(1:Int))) o (l1++([(L,(0:Int),())]:List bz))
  )
 else
  (
   Option.bind (aq t1.2.1 o) fun O=>
   Option.bind (aL (List.length l1+List.length ([((0:Int),O,())]:List bz)<=br)) fun _=>
   q i1 (aj (o+(1:Int))) (l1++([((0:Int),O,())]:List bz))
  )
def Ac(t1:bK)(i1:Int)(o:Int)(l1:List bz)(q:Int->Int->aA->Option aA)(R:Int)(t4:Bool):Option aA:=
 if t4 then
  (
   Option.bind (aq t1.1 i1) fun L=>
   Option.bind (aq t1.2.1 o) fun O=>
   Option.bind (aL (List.length l1+List.length ([(L,O,())]:List bz)<=br)) fun _=>
   q (aj (i1+(1:Int))) (aj (o+(1:Int))) (l1++([(L,O,())]:List bz))
  )
 else
  (
   if decide (i1<(List.length t1.1:Int))then
    (
     Option.bind (aq t1.2.2.1 (aj (i1+(1:Int)))) fun U=>
     Option.bind (aq U o) fun W=>
     xR t1 i1 l1 q o (R==(aj ((5:Int)+W)))
    )
   else
    xR t1 i1 l1 q o false
  )
def NS(k:Nat)(t1:bK)(i1:Int)(o:Int)(L:aC)(l1:List bz)(O:Int->Int->aA->Option aA)(q:Int)(t3:Bool):Option aA:=
 if t3 then
  (
   Option.bind (aq t1.1 i1) fun R=>
   Option.bind (aq t1.2.1 o) fun U=>
   Option.bind (sY k (L.1,L.2.1,()) R U) fun v1=>
   Option.bind (aq t1.2.2.1 (aj (i1+(1:Int)))) fun W=>
   Option.bind (aq W (aj (o+(1:Int)))) fun Y=>
   Ac t1 i1 o l1 O q (q==(aj (v1+Y)))
  )
 else
  Ac t1 i1 o l1 O q false
def RO(k:Nat)(t1:bK)(i1:Int)(o:Int)(q:aC)(l1:List bz)(L:Int->Int->aA->Option aA)(t2:Bool):Option aA:=
 if t2 then
  (
   Option.bind (aq t1.2.2.1 i1) fun O=>
   Option.bind (aq O o) fun R=>
   NS k t1 i1 o q l1 L R (decide (i1<(List.length t1.1:Int))&&(decide (o<(List.length t1.2.1:Int))))
  )
 else
  some (l1)
def T4(k:Nat)(t1:bK)(q:aC)(L:Int->Int->aA->Option aA)(i1:Int)(o:Int)(l1:List bz):Option aA:=
 RO k t1 i1 o q l1 L (decide (i1<(List.length t1.1:Int))||(decide (o<(List.length t1.2.1:Int))))
def Bg(k:Nat)(t1:bK)(o:aC):Nat->Int->Int->aA->Option aA
 |0,_,_,_=>none
 |n+1,i1,q,l1=>T4 k t1 o (Bg k t1 o n) i1 q l1
def Sc(k:Nat)(t1:bK)(o:aC):Option aA:=
 Bg k t1 o k (0:Int) (0:Int) ([]:List bz)
def Ek(q:bK)(i1:Int)(l2:List bz)(L:Int->Int->aA->Option aA)(o:Int)(t4:Bool):Option aA:=
 if t4 then
  (
   Option.bind (aq q.1 i1) fun O=>
   Option.bind (aL (List.length l2+List.length ([(O,(0:Int),())]:List bz)<=br)) fun _=>
   L (aj (i1+(1:Int))) o (l2++([(O,(0:Int),())]:List bz))
  )
 else
  (
   Option.bind (aq q.2.1 o) fun R=>
   Option.bind (aL (List.length l2+List.length ([((0:Int),R,())]:List bz)<=br)) fun _=>
   L i1 (aj (o+(1:Int))) (l2++([((0:Int),R,())]:List bz))
  )
def Cr(q:bK)(i1:Int)(o:Int)(l2:List bz)(L:Int->Int->aA->Option aA)(U:Int)(t3:Bool):Option aA:=
 if t3 then
  (
   Option.bind (aq q.1 i1) fun O=>
   Option.bind (aq q.2.1 o) fun R=>
   Option.bind (aL (List.length l2+List.length ([(O,R,())]:List bz)<=br)) fun _=>
   L (aj (i1+(1:Int))) (aj (o+(1:Int))) (l2++([(O,R,())]:List bz))
  )
 else
  (
   if decide (i1<(List.length q.1:Int))then
    (
     Option.bind (aL (0<=(aj (i1+(1:Int)))/\(aj (i1+(1:Int)))<(65:Int))) fun _=>
     Option.bind (aL (0<=o/\o<(65:Int))) fun _=>
     Option.bind (aq q.2.2.1 (aj (i1+(1:Int)))) fun W=>
     Option.bind (aq W o) fun Y=>
     Ek q i1 l2 L o (U==(aj ((5:Int)+Y)))
    )
   else
    Ek q i1 l2 L o false
  )
def S7(k:Nat)(q:bK)(i1:Int)(o:Int)(O:aC)(l2:List bz)(R:Int->Int->aA->Option aA)(L:Int)(t2:Bool):Option aA:=
 if t2 then
  (
   Option.bind (aq q.1 i1) fun U=>
   Option.bind (aq q.2.1 o) fun W=>
   Option.bind (sY k (O.1,O.2.1,()) U W) fun v1=>
   Option.bind (aL (0<=(aj (i1+(1:Int)))/\(aj (i1+(1:Int)))<(65:Int))) fun _=>
   Option.bind (aL (0<=(aj (o+(1:Int)))/\(aj (o+(1:Int)))<(65:Int))) fun _=>
   Option.bind (aq q.2.2.1 (aj (i1+(1:Int)))) fun Y=>
   Option.bind (aq Y (aj (o+(1:Int)))) fun Z=>
   Cr q i1 o l2 R L (L==(aj (v1+Z)))
  )
 else
  Cr q i1 o l2 R L false
def Vz(k:Nat)(i1:Int)(o:Int)(q:bK)(L:aC)(l2:List bz)(O:Int->Int->aA->Option aA)(t1:Bool):Option aA:=
 if t1 then
  (
   Option.bind (aL (0<=i1/\i1<(65:Int))) fun _=>
   Option.bind (aL (0<=o/\o<(65:Int))) fun _=>
   Option.bind (aq q.2.2.1 i1) fun R=>
   Option.bind (aq R o) fun U=>
   S7 k q i1 o L l2 O U (decide (i1<(List.length q.1:Int))&&(decide (o<(List.length q.2.1:Int))))
  )
 else
  some l2
def TD(k:Nat)(o:bK)(L:aC)(O:Int->Int->aA->Option aA)(i1:Int)(q:Int)(l2:List bz):Option aA:=
 Vz k i1 q o L l2 O (decide (i1<(List.length o.1:Int))||(decide (q<(List.length o.2.1:Int))))
def yz(k:Nat)(o:bK)(q:aC):Nat->Int->Int->aA->Option aA
 |0,_,_,_=>none
 |n+1,i1,L,l2=>TD k o q (yz k o q n) i1 L l2
def tN(k:Nat)(o:aC)(q:bK):Option aA:=
 yz k q o k (0:Int) (0:Int) ([]:List bz)
def vq(k:Nat)(o:aC)(q:List UInt8)(L:List UInt8):Option (Int×List bz×Int):=
 Option.bind (qr k (o.1,o.2.1,()) q L) fun v1=>CQ v1 (fun v2=>
  if v2 !=(0:Int)then
   some ((0:Int),([]:List bz),v2)
  else
   none
 ) fun v3=>
 if v3.1 !=(0:Int)then
  some ((0:Int),([]:List bz),v3.1)
 else
  (
   Option.bind (aL (0<=(0:Int)/\(0:Int)<(65:Int))) fun _=>
   Option.bind (aL (0<=(0:Int)/\(0:Int)<(65:Int))) fun _=>
   Option.bind (aq v3.2.2.2.1 (0:Int)) fun O=>
   Option.bind (aq O (0:Int)) fun R=>
   Option.bind (tN k (o.1,o.2.1,()) v3.2) fun v4=>
   some (R,v4,(0:Int))
  )
end Go.Ev
