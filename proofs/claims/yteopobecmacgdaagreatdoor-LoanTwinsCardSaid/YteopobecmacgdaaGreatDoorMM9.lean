/- Shallow functions, by program. -/
import Derived.Test.YteopobecmacgdaaGreatDoorMM4
import Derived.Test.YteopobecmacgdaaGreatDoorMM6
import Derived.Test.YteopobecmacgdaaGreatDoorMM7
import Derived.Test.YteopobecmacgdaaGreatDoorMM8
import Derived.Test.YteopobecmacgdaaGreatDoorProg
import Derived.Test.YteopobecmacgdaaGreatDoorMM5
import Derived.WalkKit
import Derived.KernelRfl
import Derived.Lib.Strings
import Derived.Lib.Walk
import Derived.Lib.Builder
import Derived.Lib.UnsafeStr
import Derived.Laws.Externs
import Derived.Shelf.RegionOpenPlain
import Derived.Test.YteopobecmacgdaaGreatDoorTyA
set_option linter.unusedSectionVars false
set_option linter.unusedVariables false
set_option linter.unusedSimpArgs false
namespace Go.Ev
open Go
set_option linter.unusedVariables false
def zX(k:Nat):Option aH:=
 some ((([([118,111,105,99,101,100]:List UInt8),([118,111,119,101,108]:List UInt8)]:List (List UInt8)),([((112:Int),(0:Int),(3:Int),()),((98:Int),(1:Int),(2:Int),()),((97:Int),(3:Int),(0:Int),())]:List ax),()))
def Hn(k:Nat):Option cR:=
 some (((([([118,111,119,101,108]:List UInt8),([110,97,115,97,108]:List UInt8)]:List (List UInt8)),([((97:Int),(1:Int),(2:Int),()),((116:Int),(0:Int),(3:Int),()),((110:Int),(2:Int),(1:Int),())]:List ax),()),(1:Int),(0:Int),([]:List iL),([]:List iV),([(([]:List UInt8),([((116:Int),(0:Int),(0:Int),())]:List ax),([((110:Int),(0:Int),(0:Int),(0:Int),())]:List bP),(([((1:Int),(0:Int),(0:Int),(0:Int),([]:List (Int)),())]:List aI),()),(([((2:Int),(97:Int),(0:Int),(0:Int),([]:List (Int)),())]:List aI),()),(1:Int),false,()),(([]:List UInt8),([((110:Int),(0:Int),(0:Int),())]:List ax),([]:List bP),(([((1:Int),(0:Int),(0:Int),(0:Int),([]:List (Int)),())]:List aI),()),(([((5:Int),(0:Int),(0:Int),(0:Int),([]:List (Int)),())]:List aI),()),(1:Int),false,())]:List fr),([]:List (List UInt8)),()))
def nQ(k:Nat)(c1:Int)(c2:List UInt8):Option (List UInt8):=
 if c1 !=(0:Int)then
  some ([]:List UInt8)
 else
  some c2
def se(k:Nat)(o:cK)(t1:cK)(t2:cK):Option Int:=
 if o.1==t1.1 then
  some ((-1:Int))
 else
  (
   Option.bind (oq k (cH (BitVec.toNat (BitVec.ofInt 32 (cH (BitVec.toNat (BitVec.ofInt 32 o.2.1^^^BitVec.ofInt 32 t2.2.1)))|||BitVec.ofInt 32 (cH (BitVec.toNat (BitVec.ofInt 32 o.2.2.1^^^BitVec.ofInt 32 t2.2.2.1))))))) fun v1=>
   some (v1)
  )
def qw(k:Nat)(o:cK)(q:cK)(c1:Int)(c2:Int)(c3:Int)(c4:Int)(c5:Int)(c6:Int):Option Int:=
 Option.bind (se k (o.1,o.2.1,o.2.2.1,()) (c1,c2,c3,()) (c4,c5,c6,())) fun v1=>
 Option.bind (se k (q.1,q.2.1,q.2.2.1,()) (c1,c2,c3,()) (c4,c5,c6,())) fun v2=>
 some (ag (v1-v2))
def wd(o:Int->Int->Int->Int->Option cK)(i1:Int)(m4:Int)(m5:Int)(m6:Int):Option cK:=
 o (ag (i1+(1:Int))) m4 m5 m6
def IG(k:Nat)(q:List ax)(c1:Int)(c2:Int)(c3:Int)(c4:Int)(c5:Int)(c6:Int)(O:Int->Int->Int->Int->Option cK)(i1:Int)(m1:Int)(m2:Int)(m3:Int):Option cK:=
 if decide (i1<(List.length q:Int))then
  (
   Option.bind (ar q i1) fun o=>
   Option.bind (qw k o (m1,m2,m3,()) c1 c2 c3 c4 c5 c6) fun v1=>
   if decide (v1<(0:Int))then
    wd O i1 o.1 o.2.1 o.2.2.1
   else
    wd O i1 m1 m2 m3
  )
 else
  some (m1,m2,m3,())
def tZ(k:Nat)(o:List ax)(c1:Int)(c2:Int)(c3:Int)(c4:Int)(c5:Int)(c6:Int):Nat->Int->Int->Int->Int->Option cK
 |0,_,_,_,_=>none
 |n+1,i1,m1,m2,m3=>IG k o c1 c2 c3 c4 c5 c6 (tZ k o c1 c2 c3 c4 c5 c6 n) i1 m1 m2 m3
def pG(k:Nat)(o:List ax)(c1:Int)(c2:Int)(c3:Int)(c4:Int)(c5:Int)(c6:Int):Option cK:=
 if decide ((List.length o:Int)<(1:Int))then
  none
 else
  (
   Option.bind (ar o (0:Int)) fun q=>
   tZ k o c1 c2 c3 c4 c5 c6 k (1:Int) q.1 q.2.1 q.2.2.1
  )
def xq(o:Int->Int->Int->Option gf)(t4:Int)(q:Int)(O:Int):Option gf:=
 o (ag (t4+(1:Int))) q O
def JR(k:Nat)(O:List (List UInt8))(m2:List bh)(o:cK)(W:List ax)(aC:Int->aD->aK->aD->aK->Unit->ov->dz->Option gf)(t2:Int)(Z:List ax)(la:List (List UInt8))(t3:Unit)(m3:List (Int×Int))(Y:Int->Int->Int->Option gf)(t4:Int)(R:Int)(U:Int):Option gf:=
 if decide (t4<(List.length O:Int))then
  (
   Option.bind (ar O t4) fun q=>
   if !((bM (aR .str) m2 q).isSome)then
    xq Y t4 R U
   else
    (
     Option.bind (aP (0<=t4)) fun _=>
     Option.bind (aP (0<=((bM (aR .str) m2 q).getD (0:Int)))) fun _=>
     Option.bind (aP (0<=t4)) fun _=>
     Option.bind (aP (0<=((bM (aR .str) m2 q).getD (0:Int)))) fun _=>
     xq Y t4 (cH (BitVec.toNat (BitVec.ofInt 32 R|||BitVec.ofInt 32 (cH ((cH (BitVec.toNat (BitVec.ofInt 32 (Int.fdiv o.2.1 (2^min (t4).toNat 32))&&&BitVec.ofInt 32 (1:Int))))*2^min ((bM (aR .str) m2 q).getD (0:Int)).toNat 32))))) (cH (BitVec.toNat (BitVec.ofInt 32 U|||BitVec.ofInt 32 (cH ((cH (BitVec.toNat (BitVec.ofInt 32 (Int.fdiv o.2.2.1 (2^min (t4).toNat 32))&&&BitVec.ofInt 32 (1:Int))))*2^min ((bM (aR .str) m2 q).getD (0:Int)).toNat 32)))))
    )
  )
 else
  (
   Option.bind (pG k W o.1 o.2.1 o.2.2.1 (0:Int) R U) fun v1=>
   aC (ag (t2+(1:Int))) O Z la W t3 m2 (cn (aR (.int .i32)) m3 o.1 v1.1)
  )
def sP(k:Nat)(o:List (List UInt8))(m2:List bh)(q:cK)(O:List ax)(aC:Int->aD->aK->aD->aK->Unit->ov->dz->Option gf)(t2:Int)(R:List ax)(U:List (List UInt8))(t3:Unit)(m3:List (Int×Int)):Nat->Int->Int->Int->Option gf
 |0,_,_,_=>none
 |n+1,t4,W,Y=>JR k o m2 q O aC t2 R U t3 m3 (sP k o m2 q O aC t2 R U t3 m3 n) t4 W Y
def Ou(k:Nat)(o:aH)(aC:Int->aD->aK->aD->aK->Unit->ov->dz->Option gf)(t2:Int)(q:List (List UInt8))(O:List ax)(R:List (List UInt8))(U:List ax)(t3:Unit)(m2:List bh)(m3:List (Int×Int)):Option gf:=
 if decide (t2<(List.length o.2.1:Int))then
  (
   Option.bind (ar o.2.1 t2) fun W=>
   sP k q m2 W U aC t2 O R t3 m3 k (0:Int) (0:Int) (0:Int)
  )
 else
  some (((some m3,()),()))
def pt(k:Nat)(o:aH):Nat->Int->aD->aK->aD->aK->Unit->ov->dz->Option gf
 |0,_,_,_,_,_,_,_,_=>none
 |n+1,t2,q,O,R,U,t3,m2,m3=>Ou k o (pt k o n) t2 q O R U t3 m2 m3
def Kl(k:Nat)(o:aH)(q:aH)(O:Int->ov->Option gf)(t1:Int)(m1:List bh):Option gf:=
 if decide (t1<(List.length o.1:Int))then
  (
   Option.bind (ar o.1 t1) fun R=>
   O (ag (t1+(1:Int))) (cn (aR .str) m1 R t1)
  )
 else
  pt k q k (0:Int) q.1 q.2.1 o.1 o.2.1 () m1 ([]:List (Int×Int))
def tJ(k:Nat)(o:aH)(q:aH):Nat->Int->ov->Option gf
 |0,_,_=>none
 |n+1,t1,m1=>Kl k o q (tJ k o q n) t1 m1
def xJ(k:Nat)(o:aH)(q:aH):Option gf:=
 tJ k q o k (0:Int) ([]:List bh)
def Fs(k:Nat)(o:Int)(t1:Option dz):Option Int:=
 some ((bM (aR (.int .i32)) (t1.getD []) o).getD (0:Int))
def Jw(k:Nat)(l1:List (Int))(o:gf)(q:Int->(List (Int))->Option (List UInt8))(t1:Int)(t2:List (Int)):Option (List UInt8):=
 if decide (t1<(List.length l1:Int))then
  (
   Option.bind (ar l1 t1) fun O=>
   Option.bind (Fs k O o.1.1) fun v1=>
   Option.bind (ar t2 t1) fun R=>
   q (ag (t1+(1:Int))) (List.set t2 (t1).toNat v1)
  )
 else
  (
   Option.bind (aP (List.length (cz t2)<=bF)) fun _=>
   some (cz t2)
  )
def rL(k:Nat)(l1:List (Int))(o:gf):Nat->Int->(List (Int))->Option (List UInt8)
 |0,_,_=>none
 |n+1,t1,t2=>Jw k l1 o (rL k l1 o n) t1 t2
def zJ(k:Nat)(o:gf)(l1:List (Int)):Option (List UInt8):=
 Option.bind (aP (0<=(List.length l1:Int)/\(List.length l1:Int)<=(List.length l1:Int)/\(List.length l1:Int)<=(bF:Int))) fun _=>
 rL k l1 o k (0:Int) (List.replicate ((List.length l1:Int)).toNat (0:Int))
def gl(k:Nat)(o:aH)(q:aH)(O:List UInt8):Option bh:=
 Option.bind (eK k (o.1,o.2.1,())) fun v1=>
 if v1 !=(0:Int)then
  (
   Option.bind (nQ k v1 ([]:List UInt8)) fun v2=>
   some (v2,v1)
  )
 else
  (
   Option.bind (eK k (q.1,q.2.1,())) fun v3=>
   if v3 !=(0:Int)then
    (
     Option.bind (nQ k v3 ([]:List UInt8)) fun v4=>
     some (v4,v3)
    )
   else
    (
     Option.bind (kY k (o.1,o.2.1,()) O) fun v5=>
     if v5.2 !=(0:Int)then
      (
       Option.bind (nQ k v5.2 ([]:List UInt8)) fun R=>
       some (R,v5.2)
      )
     else
      (
       Option.bind (xJ k (o.1,o.2.1,()) (q.1,q.2.1,())) fun U=>
       Option.bind (zJ k U v5.1) fun W=>
       Option.bind (nQ k v5.2 W) fun v9=>
       some (v9,v5.2)
      )
    )
  )
def MG(o:Int->Option Bool)(t1:Int)(t4:Bool):Option Bool:=
 if t4 then
  some (false)
 else
  o (ag (t1+(1:Int)))
def zm(o:Int->Option Bool)(t1:Int)(q:Int)(t3:Bool):Option Bool:=
 MG o t1 (t3&&(q !=(45:Int)))
def M4(o:Int->Option Bool)(t1:Int)(q:Int)(t5:Bool):Option Bool:=
 zm o t1 q t5
def Ni(q:Int->Option Bool)(t1:Int)(o:Int)(t2:Bool):Option Bool:=
 if t2 then
  M4 q t1 o (decide (o<(48:Int))||(decide ((57:Int)<o)))
 else
  zm q t1 o false
def HQ(o:List UInt8)(O:Int->Option Bool)(t1:Int):Option Bool:=
 if decide (t1<(List.length (dM o):Int))then
  (
   Option.bind (ar (dM o) t1) fun q=>
   Ni O t1 q (decide (q<(97:Int))||(decide ((122:Int)<q)))
  )
 else
  some (decide ((List.length o:Int)<=(32:Int)))
def ul(o:List UInt8):Nat->Int->Option Bool
 |0,_=>none
 |n+1,t1=>HQ o (ul o n) t1
def xG(k:Nat)(o:List UInt8):Option Bool:=
 ul o k (0:Int)
def w6(k:Nat)(o:List UInt8):Option Bool:=
 xG (k+List.length o) o
def MM(q:Nat->Option Int)(o:Nat)(O:pV)(t3:Bool):Option Int:=
 if t3 then
  some ((130:Int))
 else
  q (o+jd O.2.1 o)
def IK(k:Nat)(o:pV)(O:aH)(R:Nat->Option Int)(q:Nat):Option Int:=
 if decide (q<List.length o.2.1)then
  (
   Option.bind (jw k (O.1,O.2.1,()) (gJ o.2.1 q)) fun v3=>
   MM R q o ((v3.2 !=(0:Int))&&((gJ o.2.1 q)!=(95:Int)))
  )
 else
  some ((0:Int))
def sM(k:Nat)(o:pV)(q:aH):Nat->Nat->Option Int
 |0,_=>none
 |n+1,O=>IK k o q (sM k o q n) O
def sa(k:Nat)(o:pV)(q:aH)(t2:Bool):Option Int:=
 if t2 then
  some ((130:Int))
 else
  sM k o q k 0
def uE(k:Nat)(o:pV)(q:aH)(t1:Bool):Option Int:=
 if t1 then
  some ((130:Int))
 else
  (
   Option.bind (utf8_ValidString k o.2.1) fun v2=>
   if !v2 then
    sa k o q true
   else
    (
     Option.bind (ma k o.2.1) fun v4=>
     sa k o q (decide ((64:Int)<v4))
    )
  )
def wg(k:Nat)(o:aH)(q:pV):Option Int:=
 Option.bind (eK k (o.1,o.2.1,())) fun v1=>
 if v1 !=(0:Int)then
  some (v1)
 else
  (
   if decide ((32:Int)<(List.length q.1:Int))then
    uE k q o true
   else
    (
     Option.bind (od k q.1 ([97,98,99,100,101,102,103,104,105,106,107,108,109,110,111,112,113,114,115,116,117,118,119,120,121,122,48,49,50,51,52,53,54,55,56,57,45]:List UInt8)) fun v5=>
     uE k q o (!(v5==([]:List UInt8)))
    )
  )
def zx(t4:Bool):Option (Unit×Bool):=
 some ((),t4)
def Nn(t5:Bool):Option (Unit×Bool):=
 zx t5
def JV(o:jh)(t3:Bool):Option (Unit×Bool):=
 if t3 then
  Nn ((o.1==(3:Int))||((List.length (eJ o.2.2.1):Int)==(0:Int)))
 else
  zx false
def yY(t7:Bool):Option (Unit×Bool):=
 some ((),t7)
def Mh(t8:Bool):Option (Unit×Bool):=
 yY t8
def LV(o:jh)(t6:Bool):Option (Unit×Bool):=
 if t6 then
  Mh ((o.1==(3:Int))||((List.length (eJ o.2.2.1):Int)==(0:Int)))
 else
  yY false
def xl(t10:Bool):Option (Unit×Bool):=
 some ((),t10)
def J7(t11:Bool):Option (Unit×Bool):=
 xl t11
def IS(o:jh)(t9:Bool):Option (Unit×Bool):=
 if t9 then
  J7 ((o.1==(3:Int))||((List.length (eJ o.2.2.1):Int)==(0:Int)))
 else
  xl false
def TB(t13:Bool):Option (Unit×Bool):=
 some ((),t13)
def W4(o:jh)(t12:Bool):Option (Unit×Bool):=
 TB (t12&&((List.length (eJ o.2.2.1):Int)==(0:Int)))
def abd(t15:Bool):Option (Unit×Bool):=
 some ((),t15)
def Uu(o:jh)(t14:Bool):Option (Unit×Bool):=
 abd (t14&&(o.2.2.2.1==(0:Int)))
def Sl(t17:Bool):Option (Unit×Bool):=
 some ((),t17)
def SL(o:jh)(t16:Bool):Option (Unit×Bool):=
 Sl (t16&&(o.2.2.1==([]:List UInt8)))
def uQ(k:Nat)(o:jh)(t1:Bool)(q:aH)(t2:Bool):Option (Unit×Bool):=
 if o.1==(1:Int)then
  JV o (t2&&(o.2.2.2.1==(0:Int)))
 else
  (
   if o.1==(2:Int)then
    LV o (t2&&(o.2.2.2.1==(0:Int)))
   else
    (
     if o.1==(3:Int)then
      IS o (t2&&(o.2.2.2.1==(0:Int)))
     else
      (
       if o.1==(4:Int)then
        W4 o (t2&&t1)
       else
        (
         if o.1==(5:Int)then
          (
           Option.bind (wg k (q.1,q.2.1,()) (([]:List UInt8),o.2.1,())) fun v2=>
           Uu o ((v2==(0:Int))&&(o.2.2.1==([]:List UInt8)))
          )
         else
          (
           if o.1==(6:Int)then
            SL o (t1&&(o.2.1==([]:List UInt8)))
           else
            some ((),false)
          )
        )
      )
    )
  )
def A4(k:Nat)(o:aH)(q:jh)(t1:Bool):Option (Unit×Bool):=
 Option.bind (je k (o.1,o.2.1,()) q.2.1) fun v1=>
 if v1==(0:Int)then
  (
   Option.bind (je k (o.1,o.2.1,()) q.2.2.1) fun v3=>
   uQ k q t1 o (v3==(0:Int))
  )
 else
  uQ k q t1 o false
def yH(k:Nat)(q:aH)(o:jh):Option (Unit×Bool):=
 A4 k q o (decide ((0:Int)<=o.2.2.2.1)&&(decide (o.2.2.2.1<=(64:Int))))
def HT(k:Nat)(q:(Int×List (jh)×Unit))(a2:List (List UInt8))(a3:List ax)(O:Int->aD->aK->Option Int)(t3:Int)(aC:Int->Option Int)(t4:Int):Option Int:=
 if decide (t4<(List.length q.2.1:Int))then
  (
   Option.bind (ar q.2.1 t4) fun o=>
   Option.bind (yH k (a2,a3,()) (o.1,o.2.1,o.2.2.1,o.2.2.2.1,())) fun v3=>
   if !v3.2 then
    some ((170:Int))
   else
    aC (ag (t4+(1:Int)))
  )
 else
  O (ag (t3+(1:Int))) a2 a3
def ut(k:Nat)(o:(Int×List (jh)×Unit))(a2:List (List UInt8))(a3:List ax)(q:Int->aD->aK->Option Int)(t3:Int):Nat->Int->Option Int
 |0,_=>none
 |n+1,t4=>HT k o a2 a3 q t3 (ut k o a2 a3 q t3 n) t4
def Oi(k:Nat)(o:nm)(O:Int->aD->aK->Option Int)(t3:Int)(a2:List (List UInt8))(a3:List ax):Option Int:=
 if decide (t3<(List.length o.2.1:Int))then
  (
   Option.bind (ar o.2.1 t3) fun q=>
   if decide ((8:Int)<(List.length q.2.1:Int))then
    some ((170:Int))
   else
    ut k q a2 a3 O t3 k (0:Int)
  )
 else
  some ((0:Int))
def qx(k:Nat)(o:nm):Nat->Int->aD->aK->Option Int
 |0,_,_,_=>none
 |n+1,t3,a2,a3=>Oi k o (qx k o n) t3 a2 a3
def KM(k:Nat)(q:nm)(o:aH)(t2:Bool):Option Int:=
 if t2 then
  some ((170:Int))
 else
  qx k q k (0:Int) o.1 o.2.1
def IT(k:Nat)(o:nm)(q:aH)(t1:Bool):Option Int:=
 KM k o q (t1||(decide ((256:Int)<(List.length o.2.1:Int))))
def vN(k:Nat)(o:aH)(q:nm):Option Int:=
 Option.bind (eK k (o.1,o.2.1,())) fun v1=>
 if v1 !=(0:Int)then
  some (v1)
 else
  (
   Option.bind (w6 k q.1) fun v2=>
   IT k q o ((!v2)||(decide ((List.length q.2.1:Int)<(1:Int))))
  )
def Kb(t5:Bool):Option Int:=
 if t5 then
  some ((2:Int))
 else
  some ((0:Int))
def IZ(o:sl)(t4:Bool):Option Int:=
 Kb (t4||(decide ((1048576:Int)<o.2.2.2.1)))
def sv(o:sl)(t3:Bool):Option Int:=
 IZ o (t3||(decide (o.2.2.2.1<(0:Int))))
def LS(k:Nat)(o:sl)(t2:Bool):Option Int:=
 if t2 then
  some ((8:Int))
 else
  (
   if decide ((32:Int)<(List.length o.2.2.1:Int))then
    sv o true
   else
    (
     Option.bind (utf8_ValidString k o.2.2.1) fun v2=>
     sv o (!v2)
    )
  )
def wu(k:Nat)(t1:cR)(o:sl):Option Int:=
 Option.bind (je k (t1.1.1,t1.1.2.1,()) o.1) fun v1=>
 if v1 !=(0:Int)then
  some (v1)
 else
  LS k o (decide (o.2.1<(0:Int))||(decide ((List.length t1.2.2.2.1:Int)<=o.2.1)))
def aaE(t1:Bool):Option Bool:=
 some (t1)
def In(k:Nat)(o:Int):Option Bool:=
 aaE (decide (o<(97:Int))||(decide ((122:Int)<o)))
def NE(k:Nat)(q:List UInt8)(O:Bool)(R:Nat->Option Int)(o:Nat):Option Int:=
 if decide (o<List.length q)then
  (
   Option.bind (In k (gJ q o)) fun v1=>
   if v1==O then
    some ((o:Int))
   else
    R (o+jd q o)
  )
 else
  some ((-1:Int))
def tY(k:Nat)(o:List UInt8)(q:Bool):Nat->Nat->Option Int
 |0,_=>none
 |n+1,O=>NE k o q (tY k o q n) O
def FC(k:Nat)(o:List UInt8)(f1:(Unit))(q:Bool):Option Int:=
 tY k o q k 0
def CS(k:Nat)(o:List UInt8)(f1:(Unit)):Option Int:=
 Option.bind (FC k o f1 true) fun v1=>
 some (v1)
def yS(k:Nat)(o:List UInt8)(f1:(Unit)):Option Bool:=
 Option.bind (CS k o f1) fun v1=>
 some (decide ((0:Int)<=v1))
def tm(o:Int->(List mc)->Option Int)(t1:Int)(m1:List mc)(q:List UInt8)(t4:Bool):Option Int:=
 if t4 then
  some ((2:Int))
 else
  o (ag (t1+(1:Int))) (cn (aR .str) m1 q (()))
def H0(k:Nat)(q:Int->(List mc)->Option Int)(t1:Int)(m1:List mc)(o:List UInt8)(t3:Bool):Option Int:=
 if t3 then
  tm q t1 m1 o true
 else
  (
   Option.bind (yS k o (())) fun v1=>
   tm q t1 m1 o v1
  )
def No(k:Nat)(q:Int->(List mc)->Option Int)(t1:Int)(m1:List mc)(o:List UInt8)(t2:Bool):Option Int:=
 H0 k q t1 m1 o (t2||(decide ((32:Int)<(List.length o:Int))))
def L1(k:Nat)(l1:List (List UInt8))(q:Int->(List mc)->Option Int)(t1:Int)(m1:List mc):Option Int:=
 if decide (t1<(List.length l1:Int))then
  (
   Option.bind (ar l1 t1) fun o=>
   No k q t1 m1 o (((bM (aR .str) m1 o).isSome)||(o==([]:List UInt8)))
  )
 else
  some ((0:Int))
def pP(k:Nat)(l1:List (List UInt8)):Nat->Int->(List mc)->Option Int
 |0,_,_=>none
 |n+1,t1,m1=>L1 k l1 (pP k l1 n) t1 m1
def zk(k:Nat)(l1:List (List UInt8)):Option Int:=
 if decide ((64:Int)<(List.length l1:Int))then
  some ((4:Int))
 else
  pP k l1 k (0:Int) ([]:List mc)
def Mv(o:nm)(t13:List (List UInt8))(q:Int->aD->aK->Int->Int->kU->kZ->kP->aD->Option Int)(t5:Int)(t6:List (List UInt8))(t7:List ax)(t8:Int)(t9:Int)(t10:List iL)(t11:List iV)(t12:List fr)(O:Int->Option Int)(t14:Int):Option Int:=
 if decide (t14<(List.length o.2.1:Int))then
  (
   Option.bind (ar o.2.1 t14) fun R=>
   Option.bind (aP (0<=(List.length t13:Int))) fun _=>
   if(Int.fdiv R.1 (2^min ((List.length t13:Int)).toNat 64))!=(0:Int)then
    some ((170:Int))
   else
    O (ag (t14+(1:Int)))
  )
 else
  q (ag (t5+(1:Int))) t6 t7 t8 t9 t10 t11 t12 t13
def tg(o:nm)(t13:List (List UInt8))(q:Int->aD->aK->Int->Int->kU->kZ->kP->aD->Option Int)(t5:Int)(t6:List (List UInt8))(t7:List ax)(t8:Int)(t9:Int)(t10:List iL)(t11:List iV)(t12:List fr):Nat->Int->Option Int
 |0,_=>none
 |n+1,t14=>Mv o t13 q t5 t6 t7 t8 t9 t10 t11 t12 (tg o t13 q t5 t6 t7 t8 t9 t10 t11 t12 n) t14
def I7(k:Nat)(t1:cR)(o:Int->aD->aK->Int->Int->kU->kZ->kP->aD->Option Int)(t5:Int)(t6:List (List UInt8))(t7:List ax)(t8:Int)(t9:Int)(t10:List iL)(t11:List iV)(t12:List fr)(t13:List (List UInt8)):Option Int:=
 if decide (t5<(List.length t1.2.2.2.1:Int))then
  (
   Option.bind (ar t1.2.2.2.1 t5) fun q=>
   tg q t13 o t5 t6 t7 t8 t9 t10 t11 t12 k (0:Int)
  )
 else
  some ((0:Int))
def rE(k:Nat)(t1:cR):Nat->Int->aD->aK->Int->Int->kU->kZ->kP->aD->Option Int
 |0,_,_,_,_,_,_,_,_,_=>none
 |n+1,t5,t6,t7,t8,t9,t10,t11,t12,t13=>I7 k t1 (rE k t1 n) t5 t6 t7 t8 t9 t10 t11 t12 t13
def Mx(k:Nat)(t1:cR)(aC:Int->Option Int)(t4:Int):Option Int:=
 if decide (t4<(List.length t1.2.2.2.2.1:Int))then
  (
   Option.bind (ar t1.2.2.2.2.1 t4) fun o=>
   Option.bind (wu k ((t1.1.1,t1.1.2.1,()),t1.2.1,t1.2.2.1,t1.2.2.2.1,t1.2.2.2.2.1,t1.2.2.2.2.2.1,t1.2.2.2.2.2.2.1,()) (o.1,o.2.1,o.2.2.1,o.2.2.2.1,())) fun v3=>
   if v3 !=(0:Int)then
    some (v3)
   else
    aC (ag (t4+(1:Int)))
  )
 else
  (
   Option.bind (uF k (t1.1.1,t1.1.2.1,()) t1.2.2.2.2.2.1) fun v4=>
   if v4 !=(0:Int)then
    some (v4)
   else
    (
     Option.bind (zk k t1.2.2.2.2.2.2.1) fun v5=>
     if v5 !=(0:Int)then
      some (v5)
     else
      rE k t1 k (0:Int) t1.1.1 t1.1.2.1 t1.2.1 t1.2.2.1 t1.2.2.2.1 t1.2.2.2.2.1 t1.2.2.2.2.2.1 t1.2.2.2.2.2.2.1
    )
  )
def uc(k:Nat)(t1:cR):Nat->Int->Option Int
 |0,_=>none
 |n+1,t4=>Mx k t1 (uc k t1 n) t4
def Ma(k:Nat)(t1:cR)(q:Int->Option Int)(t3:Int):Option Int:=
 if decide (t3<(List.length t1.2.2.2.1:Int))then
  (
   Option.bind (ar t1.2.2.2.1 t3) fun o=>
   Option.bind (vN k (t1.1.1,t1.1.2.1,()) (o.1,o.2.1,())) fun v2=>
   if v2 !=(0:Int)then
    some (v2)
   else
    q (ag (t3+(1:Int)))
  )
 else
  (
   if decide ((4096:Int)<(List.length t1.2.2.2.2.1:Int))then
    some ((4:Int))
   else
    uc k t1 k (0:Int)
  )
def ud(k:Nat)(t1:cR):Nat->Int->Option Int
 |0,_=>none
 |n+1,t3=>Ma k t1 (ud k t1 n) t3
def Js(k:Nat)(t1:cR)(t2:Bool):Option Int:=
 if t2 then
  some ((20:Int))
 else
  (
   if decide ((4096:Int)<(List.length t1.2.2.2.1:Int))then
    some ((4:Int))
   else
    ud k t1 k (0:Int)
  )
def kH(k:Nat)(t1:cR):Option Int:=
 Option.bind (eK k (t1.1.1,t1.1.2.1,())) fun v1=>
 if v1 !=(0:Int)then
  some (v1)
 else
  (
   Option.bind (aP (0<=(List.length t1.1.1:Int))) fun _=>
   Js k t1 ((t1.2.1==(0:Int))||((cH (BitVec.toNat (BitVec.ofInt 32 (cH (BitVec.toNat (BitVec.ofInt 32 t1.2.1|||BitVec.ofInt 32 t1.2.2.1)))&&&BitVec.ofInt 32 (cH ((4294967295:Int)*2^min ((List.length t1.1.1:Int)).toNat 32)))))!=(0:Int)))
  )
def px(k:Nat)(o:aH)(t1:cR)(q:List UInt8):Option bh:=
 Option.bind (eK k (o.1,o.2.1,())) fun v1=>
 if v1 !=(0:Int)then
  some (([]:List UInt8),v1)
 else
  (
   Option.bind (kH k ((t1.1.1,t1.1.2.1,()),t1.2.1,t1.2.2.1,t1.2.2.2.1,t1.2.2.2.2.1,t1.2.2.2.2.2.1,t1.2.2.2.2.2.2.1,())) fun v2=>
   if v2 !=(0:Int)then
    some (([]:List UInt8),v2)
   else
    (
     Option.bind (gl k (o.1,o.2.1,()) (t1.1.1,t1.1.2.1,()) q) fun v3=>
     some (v3.1,v3.2)
    )
  )
def Kw(k:Nat)(t1:cR)(o:Int)(v1:bh)(t2:Bool):Option bh:=
 if t2 then
  some (([]:List UInt8),(2:Int))
 else
  (
   Option.bind (dK t1.2.2.2.2.2.1 o (t1.2.2.2.2.2.1.length:Int)) fun q=>
   Option.bind (mq k (t1.1.1,t1.1.2.1,()) q v1.1) fun v2=>
   some (v2.1,v2.2)
  )
def jJ(k:Nat)(q:aH)(t1:cR)(O:List UInt8)(o:Int):Option bh:=
 Option.bind (px k (q.1,q.2.1,()) ((t1.1.1,t1.1.2.1,()),t1.2.1,t1.2.2.1,t1.2.2.2.1,t1.2.2.2.2.1,t1.2.2.2.2.2.1,t1.2.2.2.2.2.2.1,()) O) fun v1=>
 if v1.2 !=(0:Int)then
  some (([]:List UInt8),v1.2)
 else
  Kw k t1 o v1 (decide (o<(0:Int))||(decide ((List.length t1.2.2.2.2.2.1:Int)<o)))
def SX(v9:ch)(q:Int->aD->Option nD)(t2:Int)(t3:List (List UInt8)):Option nD:=
 if decide (t2<(List.length v9.2.2.2.2.2.2.2.2.2.2.2:Int))then
  (
   Option.bind (ar t3 t2) fun o=>
   Option.bind (aP (List.length (cz (List.reverse (eJ o)))<=bF)) fun _=>
   q (ag (t2+(1:Int))) (List.set t3 (t2).toNat (cz (List.reverse (eJ o))))
  )
 else
  some (v9.1,t3)
def G3(v9:ch):Nat->Int->aD->Option nD
 |0,_,_=>none
 |n+1,t2,t3=>SX v9 (G3 v9 n) t2 t3
def zn(k:Nat)(q:aH)(o:dB)(W:List UInt8)(R:Bool):Option nD:=
 Option.bind (mu k (q.1,q.2.1,()) (o.1,o.2.1,o.2.2.1,(o.2.2.2.1.1,()),(o.2.2.2.2.1.1,()),o.2.2.2.2.2.1,o.2.2.2.2.2.2.1,())) fun v1=>
 if v1 !=(0:Int)then
  some (v1,([]:List (List UInt8)))
 else
  (
   Option.bind (pm k (q.1,q.2.1,()) W) fun v2=>
   if v2.1 !=(0:Int)then
    some (v2.1,([]:List (List UInt8)))
   else
    (
     if o.2.2.2.2.2.1==(1:Int)then
      (
       Option.bind (jz k (q.1,q.2.1,()) (o.1,o.2.1,o.2.2.1,(o.2.2.2.1.1,()),(o.2.2.2.2.1.1,()),o.2.2.2.2.2.1,o.2.2.2.2.2.2.1,())) fun v3=>
       Option.bind (nj k v2.2 R v3.2.2.2.1 v3.2.2.2.2.1 v3.2.2.2.2.2.1 v3.2.2.2.2.2.2.1 v3.2.2.2.2.2.2.2.1 v3.2.2.2.2.2.2.2.2.1 v3.2.2.2.2.2.2.2.2.2 v3.2.2.1 v3.1 v3.2.1) fun v4=>
       some (v4.1,v4.2.2.2.2.2.2.2.2.2.2.2)
      )
     else
      (
       if o.2.2.2.2.2.1==(2:Int)then
        (
         Option.bind (jz k (q.1,q.2.1,()) (o.1,o.2.1,o.2.2.1,(o.2.2.2.1.1,()),(o.2.2.2.2.1.1,()),o.2.2.2.2.2.1,o.2.2.2.2.2.2.1,())) fun v5=>
         Option.bind (kS k v2.2 R v5.2.2.2.1 v5.2.2.2.2.1 v5.2.2.2.2.2.1 v5.2.2.2.2.2.2.1 v5.2.2.2.2.2.2.2.1 v5.2.2.2.2.2.2.2.2.1 v5.2.2.2.2.2.2.2.2.2 v5.2.2.1 v5.1 v5.2.1) fun U=>
         some (U.1,U.2.2.2.2.2.2.2.2.2.2.2)
        )
       else
        (
         Option.bind (sf k (o.1,o.2.1,o.2.2.1,(o.2.2.2.1.1,()),(o.2.2.2.2.1.1,()),o.2.2.2.2.2.1,o.2.2.2.2.2.2.1,())) fun Y=>
         Option.bind (jz k (q.1,q.2.1,()) Y) fun O=>
         Option.bind (kS k (List.reverse v2.2) R O.2.2.2.1 O.2.2.2.2.1 O.2.2.2.2.2.1 O.2.2.2.2.2.2.1 O.2.2.2.2.2.2.2.1 O.2.2.2.2.2.2.2.2.1 O.2.2.2.2.2.2.2.2.2 O.2.2.1 O.1 O.2.1) fun v9=>
         G3 v9 k (0:Int) v9.2.2.2.2.2.2.2.2.2.2.2
        )
      )
    )
  )
def Mm(k:Nat)(o:Int)(q:Int)(t1:Option dz):Option Int:=
 some (ag (((bM (aR (.int .i32)) (t1.getD []) o).getD (0:Int))-((bM (aR (.int .i32)) (t1.getD []) q).getD (0:Int))))
def XA(k:Nat)(o:List (Int))(q:List (Int))(O:pe)(R:Int->Option Int)(t1:Int):Option Int:=
 if decide (t1<(List.length o:Int))then
  (
   Option.bind (ar o t1) fun U=>
   if decide ((List.length q:Int)<=t1)then
    some ((1:Int))
   else
    (
     Option.bind (ar q t1) fun W=>
     Option.bind (Mm k U W O.1) fun v1=>
     if v1 !=(0:Int)then
      some (v1)
     else
      R (ag (t1+(1:Int)))
    )
  )
 else
  (
   if decide ((List.length o:Int)<(List.length q:Int))then
    some ((-1:Int))
   else
    some ((0:Int))
  )
def FW(k:Nat)(o:List (Int))(q:List (Int))(O:pe):Nat->Int->Option Int
 |0,_=>none
 |n+1,t1=>XA k o q O (FW k o q O n) t1
def La(k:Nat)(o:List (Int))(q:List (Int))(O:pe):Option Int:=
 FW k o q O k (0:Int)
def NL(k:Nat)(o:List UInt8)(q:List UInt8)(t1:Option dz):Option Int:=
 Option.bind (La k (eJ o) (eJ q) (t1,())) fun v1=>
 some (v1)
def DP(o:Int)(n3:Int):Option Int:=
 Option.bind (eE ([0,1,2,2,3,3,3,3,4,4,4,4,4,4,4,4,5,5,5,5,5,5,5,5,5,5,5,5,5,5,5,5,6,6,6,6,6,6,6,6,6,6,6,6,6,6,6,6,6,6,6,6,6,6,6,6,6,6,6,6,6,6,6,6,7,7,7,7,7,7,7,7,7,7,7,7,7,7,7,7,7,7,7,7,7,7,7,7,7,7,7,7,7,7,7,7,7,7,7,7,7,7,7,7,7,7,7,7,7,7,7,7,7,7,7,7,7,7,7,7,7,7,7,7,7,7,7,7,8,8,8,8,8,8,8,8,8,8,8,8,8,8,8,8,8,8,8,8,8,8,8,8,8,8,8,8,8,8,8,8,8,8,8,8,8,8,8,8,8,8,8,8,8,8,8,8,8,8,8,8,8,8,8,8,8,8,8,8,8,8,8,8,8,8,8,8,8,8,8,8,8,8,8,8,8,8,8,8,8,8,8,8,8,8,8,8,8,8,8,8,8,8,8,8,8,8,8,8,8,8,8,8,8,8,8,8,8,8,8,8,8,8,8,8,8,8,8,8,8,8,8,8,8,8,8,8]:List UInt8) (iv o)) fun q=>
 some (ag (n3+(ag q)))
def AR(o:Int)(q:Int):Option Int:=
 if decide ((256:Int)<=o)then
  (
   Option.bind (aP (0<=(8:Int))) fun _=>
   DP (Int.fdiv o (2^min ((8:Int)).toNat 64)) (ag (q+(8:Int)))
  )
 else
  DP o q
def Hx(o:Int)(q:Int):Option Int:=
 if decide ((65536:Int)<=o)then
  (
   Option.bind (aP (0<=(16:Int))) fun _=>
   AR (Int.fdiv o (2^min ((16:Int)).toNat 64)) (ag (q+(16:Int)))
  )
 else
  AR o q
def JW(k:Nat)(o:Int):Option Int:=
 if decide ((4294967296:Int)<=o)then
  (
   Option.bind (aP (0<=(32:Int))) fun _=>
   Hx (Int.fdiv o (2^min ((32:Int)).toNat 64)) (32:Int)
  )
 else
  Hx o (0:Int)
def AI(k:Nat)(o:Int):Option Int:=
 Option.bind (JW k o) fun v1=>
 some (v1)
def GM(t3:List (List UInt8))(o:Int)(aC:Int->aD->Option cQ)(O:Int->dz->aD->Option cQ)(i1:Int)(m3:List (Int×Int))(t4:Bool):Option cQ:=
 if t4 then
  (
   Option.bind (ar t3 (ag (o-(1:Int)))) fun q=>
   Option.bind (ar t3 o) fun R=>
   Option.bind (ar (List.set t3 (o).toNat q) (ag (o-(1:Int)))) fun U=>
   aC (ag (o-(1:Int))) (List.set (List.set t3 (o).toNat q) (ag (o-(1:Int))).toNat R)
  )
 else
  O (ag (i1+(1:Int))) m3 t3
def SA(k:Nat)(O:Int)(m3:List (Int×Int))(q:Int->dz->aD->Option cQ)(i1:Int)(aC:Int->aD->Option cQ)(o:Int)(t3:List (List UInt8)):Option cQ:=
 if decide (O<o)then
  (
   Option.bind (ar t3 o) fun R=>
   Option.bind (ar t3 (ag (o-(1:Int)))) fun U=>
   Option.bind (NL k R U (some m3)) fun v1=>
   GM t3 o aC q i1 m3 (decide (v1<(0:Int)))
  )
 else
  GM t3 o aC q i1 m3 false
def DK(k:Nat)(o:Int)(m3:List (Int×Int))(q:Int->dz->aD->Option cQ)(i1:Int):Nat->Int->aD->Option cQ
 |0,_,_=>none
 |n+1,O,t3=>SA k o m3 q i1 (DK k o m3 q i1 n) O t3
def VX(k:Nat)(o:Int)(q:Int)(O:Int->dz->aD->Option cQ)(i1:Int)(m3:List (Int×Int))(t2:List (List UInt8)):Option cQ:=
 if decide (i1<o)then
  DK k q m3 O i1 k i1 t2
 else
  some (m3,t2)
def Gt(k:Nat)(o:Int)(q:Int):Nat->Int->dz->aD->Option cQ
 |0,_,_,_=>none
 |n+1,i1,m3,t2=>VX k o q (Gt k o q n) i1 m3 t2
def yz(k:Nat)(o:Int)(q:Int)(m1:List (Int×Int))(l1:List (List UInt8)):Option cQ:=
 Gt k q o k (ag (o+(1:Int))) m1 l1
def UA(k:Nat)(o:Int)(q:Int)(m1:List (Int×Int))(l1:List (List UInt8))(O:Option cQ):Option cQ:=
 if decide ((ag (o-q))<=(12:Int))then
  (
   Option.bind (yz k q o m1 l1) fun v1=>
   some (v1.1,v1.2)
  )
 else
  none
def Cc(k:Nat)(o:Int)(q:Int)(m1:List (Int×Int))(l1:List (List UInt8)):Nat->Option cQ
 |0=>none
 |n+1=>UA k o q m1 l1 (Cc k o q m1 l1 n)
def vK(k:Nat)(o:Int)(q:Int)(O:Int)(m1:List (Int×Int))(l1:List (List UInt8)):Option cQ:=
 Cc k q o m1 l1 k
def vW(k:Nat)(m1:List (Int×Int))(l1:List (List UInt8)):Option cQ:=
 Option.bind (AI k (eY (List.length l1:Int))) fun v1=>
 Option.bind (vK k (0:Int) (List.length l1:Int) v1 m1 l1) fun v2=>
 some (v2.1,v2.2)
def aav(k:Nat)(o:aH)(v1:nD)(q:Int->dz->Option bY)(t1:Int)(m1:List (Int×Int)):Option bY:=
 if decide (t1<(List.length o.2.1:Int))then
  (
   Option.bind (ar o.2.1 t1) fun O=>
   q (ag (t1+(1:Int))) (cn (aR (.int .i32)) m1 O.1 t1)
  )
 else
  (
   Option.bind (vW k m1 v1.2) fun v2=>
   some (v2.2,(0:Int))
  )
def ES(k:Nat)(o:aH)(v1:nD):Nat->Int->dz->Option bY
 |0,_,_=>none
 |n+1,t1,m1=>aav k o v1 (ES k o v1 n) t1 m1
def IE(k:Nat)(q:aH)(o:dB)(O:List UInt8):Option bY:=
 Option.bind (zn k (q.1,q.2.1,()) (o.1,o.2.1,o.2.2.1,(o.2.2.2.1.1,()),(o.2.2.2.2.1.1,()),o.2.2.2.2.2.1,o.2.2.2.2.2.2.1,()) O o.2.2.2.2.2.2.1) fun v1=>
 if v1.1 !=(0:Int)then
  some (([]:List (List UInt8)),v1.1)
 else
  ES k q v1 k (0:Int) ([]:List (Int×Int))
def KY(k:Nat)(o:Int)(q:Int)(t1:Option dz):Option Int:=
 some (ag (((bM (aR (.int .i32)) (t1.getD []) o).getD (0:Int))-((bM (aR (.int .i32)) (t1.getD []) q).getD (0:Int))))
def abK(k:Nat)(o:List (Int))(q:List (Int))(O:pe)(R:Int->Option Int)(t1:Int):Option Int:=
 if decide (t1<(List.length o:Int))then
  (
   Option.bind (ar o t1) fun U=>
   if decide ((List.length q:Int)<=t1)then
    some ((1:Int))
   else
    (
     Option.bind (ar q t1) fun W=>
     Option.bind (KY k U W O.1) fun v1=>
     if v1 !=(0:Int)then
      some (v1)
     else
      R (ag (t1+(1:Int)))
    )
  )
 else
  (
   if decide ((List.length o:Int)<(List.length q:Int))then
    some ((-1:Int))
   else
    some ((0:Int))
  )
def F7(k:Nat)(o:List (Int))(q:List (Int))(O:pe):Nat->Int->Option Int
 |0,_=>none
 |n+1,t1=>abK k o q O (F7 k o q O n) t1
def Mi(k:Nat)(o:List (Int))(q:List (Int))(O:pe):Option Int:=
 F7 k o q O k (0:Int)
def Lw(k:Nat)(o:List UInt8)(q:List UInt8)(t1:Option dz):Option Int:=
 Option.bind (Mi k (eJ o) (eJ q) (t1,())) fun v1=>
 some (v1)
def Bc(t3:List (List UInt8))(o:Int)(aC:Int->aD->Option cQ)(O:Int->dz->aD->Option cQ)(i1:Int)(m3:List (Int×Int))(t4:Bool):Option cQ:=
 if t4 then
  (
   Option.bind (ar t3 (ag (o-(1:Int)))) fun q=>
   Option.bind (ar t3 o) fun R=>
   Option.bind (ar (List.set t3 (o).toNat q) (ag (o-(1:Int)))) fun U=>
   aC (ag (o-(1:Int))) (List.set (List.set t3 (o).toNat q) (ag (o-(1:Int))).toNat R)
  )
 else
  O (ag (i1+(1:Int))) m3 t3
def U5(k:Nat)(O:Int)(m3:List (Int×Int))(q:Int->dz->aD->Option cQ)(i1:Int)(aC:Int->aD->Option cQ)(o:Int)(t3:List (List UInt8)):Option cQ:=
 if decide (O<o)then
  (
   Option.bind (ar t3 o) fun R=>
   Option.bind (ar t3 (ag (o-(1:Int)))) fun U=>
   Option.bind (Lw k R U (some m3)) fun v1=>
   Bc t3 o aC q i1 m3 (decide (v1<(0:Int)))
  )
 else
  Bc t3 o aC q i1 m3 false
def Gp(k:Nat)(o:Int)(m3:List (Int×Int))(q:Int->dz->aD->Option cQ)(i1:Int):Nat->Int->aD->Option cQ
 |0,_,_=>none
 |n+1,O,t3=>U5 k o m3 q i1 (Gp k o m3 q i1 n) O t3
def Rc(k:Nat)(o:Int)(q:Int)(O:Int->dz->aD->Option cQ)(i1:Int)(m3:List (Int×Int))(t2:List (List UInt8)):Option cQ:=
 if decide (i1<o)then
  Gp k q m3 O i1 k i1 t2
 else
  some (m3,t2)
def DH(k:Nat)(o:Int)(q:Int):Nat->Int->dz->aD->Option cQ
 |0,_,_,_=>none
 |n+1,i1,m3,t2=>Rc k o q (DH k o q n) i1 m3 t2
def yu(k:Nat)(o:Int)(q:Int)(m1:List (Int×Int))(l1:List (List UInt8)):Option cQ:=
 DH k q o k (ag (o+(1:Int))) m1 l1
def WX(k:Nat)(o:Int)(q:Int)(m1:List (Int×Int))(l1:List (List UInt8))(O:Option cQ):Option cQ:=
 if decide ((ag (o-q))<=(12:Int))then
  (
   Option.bind (yu k q o m1 l1) fun v1=>
   some (v1.1,v1.2)
  )
 else
  none
def Dy(k:Nat)(o:Int)(q:Int)(m1:List (Int×Int))(l1:List (List UInt8)):Nat->Option cQ
 |0=>none
 |n+1=>WX k o q m1 l1 (Dy k o q m1 l1 n)
def yK(k:Nat)(o:Int)(q:Int)(O:Int)(m1:List (Int×Int))(l1:List (List UInt8)):Option cQ:=
 Dy k q o m1 l1 k
def xF(k:Nat)(m1:List (Int×Int))(l1:List (List UInt8)):Option cQ:=
 Option.bind (AI k (eY (List.length l1:Int))) fun v1=>
 Option.bind (yK k (0:Int) (List.length l1:Int) v1 m1 l1) fun v2=>
 some (v2.1,v2.2)
def RX(o:List (List UInt8))(O:Int->Option aD)(q:Int):Option aD:=
 if decide (q<(List.length o:Int))then
  (
   Option.bind (ar o q) fun R=>
   Option.bind (ar o (ag (q-(1:Int)))) fun U=>
   if R==U then
    none
   else
    O (ag (q+(1:Int)))
  )
 else
  some (o)
def Au(o:List (List UInt8)):Nat->Int->Option aD
 |0,_=>none
 |n+1,q=>RX o (Au o n) q
def Xx(k:Nat)(o:List (List UInt8)):Option aD:=
 if decide ((List.length o:Int)<(2:Int))then
  some (o)
 else
  Au o k (1:Int)
def ZJ(l1:List (List UInt8))(q:Int->Option Unit)(o:Int):Option Unit:=
 if decide (o<(List.length l1:Int))then
  (
   Option.bind (ar l1 o) fun O=>
   Option.bind (ar l1 (ag (o-(1:Int)))) fun R=>
   if O==R then
    none
   else
    q (ag (o+(1:Int)))
  )
 else
  some ()
def CG(l1:List (List UInt8)):Nat->Int->Option Unit
 |0,_=>none
 |n+1,o=>ZJ l1 (CG l1 n) o
def wn(k:Nat)(l1:List (List UInt8)):Option Unit:=
 if decide ((List.length l1:Int)<(2:Int))then
  some ()
 else
  CG l1 k (1:Int)
def T7(k:Nat)(o:aH)(l1:List (List UInt8))(q:Int->dz->Option aD)(t2:Int)(m1:List (Int×Int)):Option aD:=
 if decide (t2<(List.length o.2.1:Int))then
  (
   Option.bind (ar o.2.1 t2) fun O=>
   q (ag (t2+(1:Int))) (cn (aR (.int .i32)) m1 O.1 t2)
  )
 else
  (
   Option.bind (xF k m1 l1) fun v1=>
   Option.bind (wn k v1.2) fun v2=>
   some v1.2
  )
def AH(k:Nat)(o:aH)(l1:List (List UInt8)):Nat->Int->dz->Option aD
 |0,_,_=>none
 |n+1,t2,m1=>T7 k o l1 (AH k o l1 n) t2 m1
def yT(k:Nat)(o:aH)(l1:List (List UInt8)):Option aD:=
 AH k o l1 k (0:Int) ([]:List (Int×Int))
def CF(o:Int->bS->aD->Option bY)(t5:Int)(m3:List bD)(q:List (List UInt8)):Option bY:=
 o (ag (t5+(1:Int))) m3 q
def Vj(v2:bY)(aC:Int->aD->aK->(List UInt8)->aK->cB->aO->aO->Int->Bool->bS->aD->aD->Option bY)(t3:Int)(a4:List (List UInt8))(a5:List ax)(R:List UInt8)(cy:List ax)(dY:List bP)(gQ:List aI)(iA:List aI)(iE:Int)(U:Bool)(t4:List (List UInt8))(O:Int->bS->aD->Option bY)(t5:Int)(m2:List bD)(o:List (List UInt8)):Option bY:=
 if decide (t5<(List.length v2.1:Int))then
  (
   Option.bind (ar v2.1 t5) fun q=>
   if !((bM (aR .str) m2 q).getD false)then
    (
     Option.bind (aP (List.length o+List.length ([q]:List (List UInt8))<=bF)) fun _=>
     CF O t5 (cn (aR .str) m2 q true) (o++([q]:List (List UInt8)))
    )
   else
    CF O t5 m2 o
  )
 else
  (
   if decide ((1024:Int)<(List.length o:Int))then
    some (([]:List (List UInt8)),(9:Int))
   else
    aC (ag (t3+(1:Int))) a4 a5 R cy dY gQ iA iE U m2 o t4
  )
def B3(v2:bY)(aC:Int->aD->aK->(List UInt8)->aK->cB->aO->aO->Int->Bool->bS->aD->aD->Option bY)(t3:Int)(a4:List (List UInt8))(a5:List ax)(o:List UInt8)(cy:List ax)(dY:List bP)(gQ:List aI)(iA:List aI)(iE:Int)(q:Bool)(t4:List (List UInt8)):Nat->Int->bS->aD->Option bY
 |0,_,_,_=>none
 |n+1,t5,m2,O=>Vj v2 aC t3 a4 a5 o cy dY gQ iA iE q t4 (B3 v2 aC t3 a4 a5 o cy dY gQ iA iE q t4 n) t5 m2 O
def P1(k:Nat)(t2:List (List UInt8))(R:Int->aD->aK->aD->Option bY)(t1:Int)(aC:Int->aD->aK->(List UInt8)->aK->cB->aO->aO->Int->Bool->bS->aD->aD->Option bY)(t3:Int)(a4:List (List UInt8))(a5:List ax)(o:List UInt8)(cy:List ax)(dY:List bP)(gQ:List aI)(iA:List aI)(iE:Int)(q:Bool)(m1:List bD)(O:List (List UInt8))(t4:List (List UInt8)):Option bY:=
 if decide (t3<(List.length t2:Int))then
  (
   Option.bind (ar t4 t3) fun U=>
   Option.bind (IE k (a4,a5,()) (o,cy,dY,(gQ,()),(iA,()),iE,q,()) U) fun v2=>
   if v2.2 !=(0:Int)then
    some (([]:List (List UInt8)),v2.2)
   else
    B3 v2 aC t3 a4 a5 o cy dY gQ iA iE q t4 k (0:Int) m1 O
  )
 else
  (
   Option.bind (yT k (a4,a5,()) O) fun v3=>
   R (ag (t1+(1:Int))) a4 a5 v3
  )
def Ej(k:Nat)(t2:List (List UInt8))(o:Int->aD->aK->aD->Option bY)(t1:Int):Nat->Int->aD->aK->(List UInt8)->aK->cB->aO->aO->Int->Bool->bS->aD->aD->Option bY
 |0,_,_,_,_,_,_,_,_,_,_,_,_,_=>none
 |n+1,t3,a4,a5,q,cy,dY,gQ,iA,iE,O,m1,R,t4=>P1 k t2 o t1 (Ej k t2 o t1 n) t3 a4 a5 q cy dY gQ iA iE O m1 R t4
def SE(k:Nat)(l1:List fr)(q:Int->aD->aK->aD->Option bY)(t1:Int)(a2:List (List UInt8))(a3:List ax)(t2:List (List UInt8)):Option bY:=
 if decide (t1<(List.length l1:Int))then
  (
   Option.bind (ar l1 t1) fun o=>
   Ej k t2 q t1 k (0:Int) a2 a3 o.1 o.2.1 o.2.2.1 o.2.2.2.1.1 o.2.2.2.2.1.1 o.2.2.2.2.2.1 o.2.2.2.2.2.2.1 ([]:List bD) ([]:List (List UInt8)) t2
  )
 else
  some (t2,(0:Int))
def E6(k:Nat)(l1:List fr):Nat->Int->aD->aK->aD->Option bY
 |0,_,_,_,_=>none
 |n+1,t1,a2,a3,t2=>SE k l1 (E6 k l1 n) t1 a2 a3 t2
def OP(k:Nat)(o:aH)(l1:List fr)(q:List UInt8):Option bY:=
 Option.bind (sR k (o.1,o.2.1,()) q l1) fun v1=>
 if v1 !=(0:Int)then
  some (([]:List (List UInt8)),v1)
 else
  E6 k l1 k (0:Int) o.1 o.2.1 ([q]:List (List UInt8))
def J0(o:List (List UInt8))(v1:List UInt8)(q:Int->Option Int)(t1:Int):Option Int:=
 if decide (t1<(List.length o:Int))then
  (
   Option.bind (ar o t1) fun O=>
   if v1==O then
    some (t1)
   else
    q (ag (t1+(1:Int)))
  )
 else
  some ((-1:Int))
def sU(o:List (List UInt8))(v1:List UInt8):Nat->Int->Option Int
 |0,_=>none
 |n+1,t1=>J0 o v1 (sU o v1 n) t1
def sC(k:Nat)(o:List (List UInt8))(v1:List UInt8):Option Int:=
 sU o v1 k (0:Int)
def tG(k:Nat)(o:List (List UInt8))(v1:List UInt8):Option Bool:=
 Option.bind (sC k o v1) fun v2=>
 some (decide ((0:Int)<=v2))
def An(o:Int->(List (Int))->Option bL)(t2:Int)(l2:List (Int)):Option bL:=
 o (ag (t2+(1:Int))) l2
def UI(k:Nat)(t1:cR)(v1:List UInt8)(q:List UInt8)(o:Int->(List (Int))->Option bL)(t2:Int)(l1:List (Int)):Option bL:=
 if decide (t2<(ag ((List.length t1.2.2.2.2.2.1:Int)+(1:Int))))then
  (
   Option.bind (dK t1.2.2.2.2.2.1 t2 (t1.2.2.2.2.2.1.length:Int)) fun O=>
   Option.bind (OP k (t1.1.1,t1.1.2.1,()) O v1) fun v2=>
   if v2.2 !=(0:Int)then
    some (([]:List (Int)),v2.2)
   else
    (
     Option.bind (tG k v2.1 q) fun v3=>
     if v3 then
      (
       Option.bind (aP (List.length l1+List.length ([t2]:List (Int))<=bF)) fun _=>
       An o t2 (l1++([t2]:List (Int)))
      )
     else
      An o t2 l1
    )
  )
 else
  some (l1,(0:Int))
def EI(k:Nat)(t1:cR)(v1:List UInt8)(o:List UInt8):Nat->Int->(List (Int))->Option bL
 |0,_,_=>none
 |n+1,t2,l1=>UI k t1 v1 o (EI k t1 v1 o n) t2 l1
def HI(k:Nat)(t1:cR)(v1:List UInt8)(o:List UInt8):Option bL:=
 EI k t1 v1 o k (0:Int) ([]:List (Int))
def zv(k:Nat)(o:aH)(t1:cR)(O:List UInt8)(q:List UInt8):Option bL:=
 Option.bind (px k (o.1,o.2.1,()) ((t1.1.1,t1.1.2.1,()),t1.2.1,t1.2.2.1,t1.2.2.2.1,t1.2.2.2.2.1,t1.2.2.2.2.2.1,t1.2.2.2.2.2.2.1,()) O) fun v1=>
 if v1.2 !=(0:Int)then
  some (([]:List (Int)),v1.2)
 else
  (
   Option.bind (je k (t1.1.1,t1.1.2.1,()) q) fun v2=>
   if v2 !=(0:Int)then
    some (([]:List (Int)),v2)
   else
    (
     Option.bind (HI k ((t1.1.1,t1.1.2.1,()),t1.2.1,t1.2.2.1,t1.2.2.2.1,t1.2.2.2.2.1,t1.2.2.2.2.2.1,t1.2.2.2.2.2.2.1,()) v1.1 q) fun v3=>
     some (v3.1,v3.2)
    )
  )
def ke(k:Nat)(c1:Int)(c2:List (Int))(c3:List (Int)):Option (List (Int)×List (Int)):=
 if c1 !=(0:Int)then
  some (([]:List (Int)),([]:List (Int)))
 else
  some (c2,c3)
def tj(k:Nat)(o:(Int×Int×Unit))(q:(Int×Int×Unit)):Option Int:=
 some (ag (o.2.1-q.2.1))
def GC(t3:List bI)(o:Int)(aC:Int->aF->Option aF)(O:Int->aF->Option aF)(i1:Int)(t4:Bool):Option aF:=
 if t4 then
  (
   Option.bind (ar t3 (ag (o-(1:Int)))) fun q=>
   Option.bind (ar t3 o) fun R=>
   Option.bind (ar (List.set t3 (o).toNat q) (ag (o-(1:Int)))) fun U=>
   aC (ag (o-(1:Int))) (List.set (List.set t3 (o).toNat q) (ag (o-(1:Int))).toNat R)
  )
 else
  O (ag (i1+(1:Int))) t3
def RJ(k:Nat)(O:Int)(q:Int->aF->Option aF)(i1:Int)(aC:Int->aF->Option aF)(o:Int)(t3:List bI):Option aF:=
 if decide (O<o)then
  (
   Option.bind (ar t3 o) fun R=>
   Option.bind (ar t3 (ag (o-(1:Int)))) fun U=>
   Option.bind (tj k R U) fun v1=>
   GC t3 o aC q i1 (decide (v1<(0:Int)))
  )
 else
  GC t3 o aC q i1 false
def Fc(k:Nat)(o:Int)(q:Int->aF->Option aF)(i1:Int):Nat->Int->aF->Option aF
 |0,_,_=>none
 |n+1,O,t3=>RJ k o q i1 (Fc k o q i1 n) O t3
def Sy(k:Nat)(o:Int)(q:Int)(O:Int->aF->Option aF)(i1:Int)(t2:List bI):Option aF:=
 if decide (i1<o)then
  Fc k q O i1 k i1 t2
 else
  some t2
def EU(k:Nat)(o:Int)(q:Int):Nat->Int->aF->Option aF
 |0,_,_=>none
 |n+1,i1,t2=>Sy k o q (EU k o q n) i1 t2
def uL(k:Nat)(o:Int)(q:Int)(l1:List bI):Option aF:=
 EU k q o k (ag (o+(1:Int))) l1
def Vz(R:Int)(o:Int)(q:Int)(U:Int->aF->Option aF)(i1:Int)(t2:List bI):Option aF:=
 if decide (i1<R)then
  (
   Option.bind (ar t2 (ag (o+i1))) fun O=>
   Option.bind (ar t2 (ag (q+i1))) fun W=>
   Option.bind (ar (List.set t2 (ag (q+i1)).toNat O) (ag (o+i1))) fun Y=>
   U (ag (i1+(1:Int))) (List.set (List.set t2 (ag (q+i1)).toNat O) (ag (o+i1)).toNat W)
  )
 else
  some t2
def Co(o:Int)(q:Int)(O:Int):Nat->Int->aF->Option aF
 |0,_,_=>none
 |n+1,i1,t2=>Vz o q O (Co o q O n) i1 t2
def qT(k:Nat)(o:Int)(q:Int)(O:Int)(l1:List bI):Option aF:=
 Co O q o k (0:Int) l1
def St(k:Nat)(m1:Int)(q:Int->Int->aF->Option aF)(i1:Int)(o:Int)(t2:List bI):Option aF:=
 if i1 !=o then
  (
   if decide (o<i1)then
    (
     Option.bind (qT k (ag (m1-i1)) m1 o t2) fun v1=>
     q (ag (i1-o)) o v1
    )
   else
    (
     Option.bind (qT k (ag (m1-i1)) (ag ((ag (m1+o))-i1)) i1 t2) fun v2=>
     q i1 (ag (o-i1)) v2
    )
  )
 else
  (
   Option.bind (qT k (ag (m1-i1)) m1 i1 t2) fun v3=>
   some v3
  )
def GP(k:Nat)(m1:Int):Nat->Int->Int->aF->Option aF
 |0,_,_,_=>none
 |n+1,i1,o,t2=>St k m1 (GP k m1 n) i1 o t2
def yg(k:Nat)(o:Int)(m1:Int)(q:Int)(l1:List bI):Option aF:=
 GP k m1 k (ag (m1-o)) (ag (q-m1)) l1
def Wd(i1:Int)(aC:Int->aF->Option aF)(o:Int)(t2:List bI):Option aF:=
 if decide (o<(ag (i1-(1:Int))))then
  (
   Option.bind (ar t2 (ag (o+(1:Int)))) fun q=>
   Option.bind (ar t2 o) fun O=>
   Option.bind (ar (List.set t2 (o).toNat q) (ag (o+(1:Int)))) fun R=>
   aC (ag (o+(1:Int))) (List.set (List.set t2 (o).toNat q) (ag (o+(1:Int))).toNat O)
  )
 else
  some t2
def Hl(i1:Int):Nat->Int->aF->Option aF
 |0,_,_=>none
 |n+1,o,t2=>Wd i1 (Hl i1 n) o t2
def TM(k:Nat)(l1:List bI)(q:Int)(O:Int->Int->Option aF)(i1:Int)(o:Int):Option aF:=
 if decide (i1<o)then
  (
   Option.bind (aP (0<=(1:Int))) fun _=>
   Option.bind (ar l1 (ag (Int.fdiv (eY (ag (i1+o))) (2^min ((1:Int)).toNat 64)))) fun R=>
   Option.bind (ar l1 q) fun U=>
   Option.bind (tj k R U) fun v1=>
   if decide (v1<(0:Int))then
    O (ag ((ag (Int.fdiv (eY (ag (i1+o))) (2^min ((1:Int)).toNat 64)))+(1:Int))) o
   else
    O i1 (ag (Int.fdiv (eY (ag (i1+o))) (2^min ((1:Int)).toNat 64)))
  )
 else
  Hl i1 k q l1
def Gx(k:Nat)(l1:List bI)(o:Int):Nat->Int->Int->Option aF
 |0,_,_=>none
 |n+1,i1,q=>TM k l1 o (Gx k l1 o n) i1 q
def Qd(i2:Int)(O:Int->aF->Option aF)(o:Int)(t3:List bI):Option aF:=
 if decide (i2<o)then
  (
   Option.bind (ar t3 (ag (o-(1:Int)))) fun q=>
   Option.bind (ar t3 o) fun R=>
   Option.bind (ar (List.set t3 (o).toNat q) (ag (o-(1:Int)))) fun U=>
   O (ag (o-(1:Int))) (List.set (List.set t3 (o).toNat q) (ag (o-(1:Int))).toNat R)
  )
 else
  some t3
def CZ(i2:Int):Nat->Int->aF->Option aF
 |0,_,_=>none
 |n+1,o,t3=>Qd i2 (CZ i2 n) o t3
def Zl(k:Nat)(l1:List bI)(m1:Int)(q:Int->Int->Option aF)(i2:Int)(o:Int):Option aF:=
 if decide (i2<o)then
  (
   Option.bind (aP (0<=(1:Int))) fun _=>
   Option.bind (ar l1 m1) fun O=>
   Option.bind (ar l1 (ag (Int.fdiv (eY (ag (i2+o))) (2^min ((1:Int)).toNat 64)))) fun R=>
   Option.bind (tj k O R) fun v2=>
   if !(decide (v2<(0:Int)))then
    q (ag ((ag (Int.fdiv (eY (ag (i2+o))) (2^min ((1:Int)).toNat 64)))+(1:Int))) o
   else
    q i2 (ag (Int.fdiv (eY (ag (i2+o))) (2^min ((1:Int)).toNat 64)))
  )
 else
  CZ i2 k m1 l1
def Ex(k:Nat)(l1:List bI)(m1:Int):Nat->Int->Int->Option aF
 |0,_,_=>none
 |n+1,i2,o=>Zl k l1 m1 (Ex k l1 m1 n) i2 o
def WM(O:Int->Int->Int->aF->Option aF)(q:Int)(o:Int)(m1:Int)(R:Int)(t5:List bI)(t6:Bool):Option aF:=
 if t6 then
  (
   Option.bind (O (ag (Int.fdiv (eY (ag (q+o))) (2^min ((1:Int)).toNat 64))) (ag ((ag ((ag (Int.fdiv (eY (ag (q+o))) (2^min ((1:Int)).toNat 64)))+m1))-R)) o t5) fun v4=>
   some v4
  )
 else
  some t5
def Fv(R:Int->Int->Int->aF->Option aF)(q:Int)(o:Int)(m1:Int)(O:Int)(t5:List bI):Option aF:=
 WM R q o m1 O t5 (decide ((ag (Int.fdiv (eY (ag (q+o))) (2^min ((1:Int)).toNat 64)))<(ag ((ag ((ag (Int.fdiv (eY (ag (q+o))) (2^min ((1:Int)).toNat 64)))+m1))-O)))&&(decide ((ag ((ag ((ag (Int.fdiv (eY (ag (q+o))) (2^min ((1:Int)).toNat 64)))+m1))-O))<o)))
def abW(q:Int->Int->Int->aF->Option aF)(o:Int)(O:Int)(R:Int)(t4:List bI)(m1:Int)(t7:Bool):Option aF:=
 if t7 then
  (
   Option.bind (q o O (ag (Int.fdiv (eY (ag (o+R))) (2^min ((1:Int)).toNat 64))) t4) fun v5=>
   Fv q o R m1 O v5
  )
 else
  Fv q o R m1 O t4
def BZ(R:Int->Int->Int->aF->Option aF)(o:Int)(q:Int)(O:Int)(m1:Int)(t4:List bI):Option aF:=
 abW R o q O t4 m1 (decide (o<q)&&(decide (q<(ag (Int.fdiv (eY (ag (o+O))) (2^min ((1:Int)).toNat 64))))))
def Zc(k:Nat)(o:Int)(m1:Int)(q:Int)(O:Int)(l1:List bI)(R:Int->Int->Int->aF->Option aF)(t8:Bool):Option aF:=
 if t8 then
  (
   Option.bind (yg k o m1 (ag ((ag ((ag (Int.fdiv (eY (ag (q+O))) (2^min ((1:Int)).toNat 64)))+m1))-o)) l1) fun U=>
   BZ R q o O m1 U
  )
 else
  BZ R q o O m1 l1
def X1(k:Nat)(l1:List bI)(q:Int)(O:Int)(m1:Int)(U:Int->Int->Int->aF->Option aF)(R:Int->Int->Option aF)(o:Int)(cy:Int):Option aF:=
 if decide (o<cy)then
  (
   Option.bind (aP (0<=(1:Int))) fun _=>
   Option.bind (ar l1 (ag ((ag ((ag ((ag (Int.fdiv (eY (ag (q+O))) (2^min ((1:Int)).toNat 64)))+m1))-(1:Int)))-(ag (Int.fdiv (eY (ag (o+cy))) (2^min ((1:Int)).toNat 64)))))) fun W=>
   Option.bind (ar l1 (ag (Int.fdiv (eY (ag (o+cy))) (2^min ((1:Int)).toNat 64)))) fun Y=>
   Option.bind (tj k W Y) fun v3=>
   if !(decide (v3<(0:Int)))then
    R (ag ((ag (Int.fdiv (eY (ag (o+cy))) (2^min ((1:Int)).toNat 64)))+(1:Int))) cy
   else
    R o (ag (Int.fdiv (eY (ag (o+cy))) (2^min ((1:Int)).toNat 64)))
  )
 else
  Zc k o m1 q O l1 U (decide (o<m1)&&(decide (m1<(ag ((ag ((ag (Int.fdiv (eY (ag (q+O))) (2^min ((1:Int)).toNat 64)))+m1))-o)))))
def HF(k:Nat)(l1:List bI)(o:Int)(q:Int)(m1:Int)(O:Int->Int->Int->aF->Option aF):Nat->Int->Int->Option aF
 |0,_,_=>none
 |n+1,R,cy=>X1 k l1 o q m1 O (HF k l1 o q m1 O n) R cy
def Fi(k:Nat)(l1:List bI)(o:Int)(q:Int)(m1:Int)(O:Int->Int->Int->aF->Option aF)(R:Int)(U:Int):Option aF:=
 HF k l1 o q m1 O k R U
def jQ:Nat->Int->Int->Int->aF->Option aF
 |0,_,_,_,_=>none
 |k+1,o,m1,q,l1=>
  if(ag (m1-o))==(1:Int)then
   Gx k l1 o k m1 q
  else
   (
    if(ag (q-m1))==(1:Int)then
     Ex k l1 m1 k o m1
    else
     (
      Option.bind (aP (0<=(1:Int))) fun _=>
      if decide ((ag (Int.fdiv (eY (ag (o+q))) (2^min ((1:Int)).toNat 64)))<m1)then
       Fi k l1 o q m1 (jQ k) (ag ((ag ((ag (Int.fdiv (eY (ag (o+q))) (2^min ((1:Int)).toNat 64)))+m1))-q)) (ag (Int.fdiv (eY (ag (o+q))) (2^min ((1:Int)).toNat 64)))
      else
       Fi k l1 o q m1 (jQ k) o m1
     )
   )
def HE(aC:Int->aF->Option aF)(o:Int)(t5:List bI):Option aF:=
 aC (ag (o*(2:Int))) t5
def Qa(k:Nat)(O:Int)(o:Int)(aC:Int->aF->Option aF)(R:Int->Int->aF->Option aF)(a2:Int)(q:Int)(t4:List bI):Option aF:=
 if decide (q<=O)then
  (
   Option.bind (jQ k a2 (ag (a2+o)) q t4) fun v3=>
   R q (ag (q+(ag ((2:Int)*o)))) v3
  )
 else
  (
   if decide ((ag (a2+o))<O)then
    (
     Option.bind (jQ k a2 (ag (a2+o)) O t4) fun v4=>
     HE aC o v4
    )
   else
    HE aC o t4
  )
def C4(k:Nat)(o:Int)(q:Int)(aC:Int->aF->Option aF):Nat->Int->Int->aF->Option aF
 |0,_,_,_=>none
 |n+1,a2,O,t4=>Qa k o q aC (C4 k o q aC n) a2 O t4
def PZ(k:Nat)(q:Int)(aC:Int->aF->Option aF)(o:Int)(t3:List bI):Option aF:=
 if decide (o<q)then
  C4 k q o aC k (0:Int) (ag ((2:Int)*o)) t3
 else
  some t3
def Em(k:Nat)(o:Int):Nat->Int->aF->Option aF
 |0,_,_=>none
 |n+1,q,t3=>PZ k o (Em k o n) q t3
def QT(k:Nat)(q:Int)(R:Int->Int->aF->Option aF)(O:Int)(o:Int)(t2:List bI):Option aF:=
 if decide (o<=q)then
  (
   Option.bind (uL k O o t2) fun v1=>
   R o (ag (o+(20:Int))) v1
  )
 else
  (
   Option.bind (uL k O q t2) fun v2=>
   Em k q k (20:Int) v2
  )
def EV(k:Nat)(o:Int):Nat->Int->Int->aF->Option aF
 |0,_,_,_=>none
 |n+1,q,O,t2=>QT k o (EV k o n) q O t2
def yi(k:Nat)(o:Int)(l1:List bI):Option aF:=
 EV k o k (0:Int) (20:Int) l1
def yq(k:Nat)(l1:List bI):Option aF:=
 Option.bind (yi k (List.length l1:Int) l1) fun v1=>
 some v1
def BS(aC:Int->Int->aF->Option b6)(t4:Int)(t6:Int)(o:List bI):Option b6:=
 aC (ag (t4+(1:Int))) t6 o
def U4(k:Nat)(q:List bI)(R:Int->(List (Int))->(List (Int))->Option b6)(t7:Int)(t8:List (Int))(t9:List (Int)):Option b6:=
 if decide (t7<(List.length q:Int))then
  (
   Option.bind (ar q t7) fun o=>
   Option.bind (aP (List.length t8+List.length ([o.1]:List (Int))<=bF)) fun _=>
   Option.bind (aP (List.length t9+List.length ([o.2.1]:List (Int))<=bF)) fun _=>
   R (ag (t7+(1:Int))) (t8++([o.1]:List (Int))) (t9++([o.2.1]:List (Int)))
  )
 else
  (
   Option.bind (ke k (0:Int) t8 t9) fun O=>
   some (O.1,O.2,(0:Int))
  )
def Dz(k:Nat)(o:List bI):Nat->Int->(List (Int))->(List (Int))->Option b6
 |0,_,_,_=>none
 |n+1,t7,t8,t9=>U4 k o (Dz k o n) t7 t8 t9
def Rp(k:Nat)(l1:List (List UInt8))(R:aH)(t1:cR)(U:List UInt8)(aC:Int->Int->aF->Option b6)(t4:Int)(t5:Int)(O:List bI):Option b6:=
 if decide (t4<(List.length l1:Int))then
  (
   Option.bind (ar l1 t4) fun Z=>
   Option.bind (gl k (R.1,R.2.1,()) (t1.1.1,t1.1.2.1,()) Z) fun o=>
   if o.2 !=(0:Int)then
    (
     Option.bind (ke k o.2 ([]:List (Int)) ([]:List (Int))) fun v9=>
     some (v9.1,v9.2,o.2)
    )
   else
    (
     Option.bind (HI k ((t1.1.1,t1.1.2.1,()),t1.2.1,t1.2.2.1,t1.2.2.2.1,t1.2.2.2.2.1,t1.2.2.2.2.2.1,t1.2.2.2.2.2.2.1,()) o.1 U) fun q=>
     if q.2 !=(0:Int)then
      (
       Option.bind (ke k q.2 ([]:List (Int)) ([]:List (Int))) fun W=>
       some (W.1,W.2,q.2)
      )
     else
      (
       if(List.length q.1:Int)==(0:Int)then
        BS aC t4 q.2 O
       else
        (
         Option.bind (ya k (t1.1.1,t1.1.2.1,()) o.1 U) fun v12=>
         if v12.2.2 !=(0:Int)then
          (
           Option.bind (ke k v12.2.2 ([]:List (Int)) ([]:List (Int))) fun Y=>
           some (Y.1,Y.2,v12.2.2)
          )
         else
          (
           Option.bind (aP (List.length O+List.length ([(t4,v12.1,())]:List bI)<=bF)) fun _=>
           BS aC t4 v12.2.2 (O++([(t4,v12.1,())]:List bI))
          )
        )
      )
    )
  )
 else
  (
   Option.bind (yq k O) fun la=>
   Dz k la k (0:Int) ([]:List (Int)) ([]:List (Int))
  )
def Cf(k:Nat)(l1:List (List UInt8))(o:aH)(t1:cR)(q:List UInt8):Nat->Int->Int->aF->Option b6
 |0,_,_,_=>none
 |n+1,t4,t5,O=>Rp k l1 o t1 q (Cf k l1 o t1 q n) t4 t5 O
def UW(k:Nat)(l1:List (List UInt8))(q:aH)(t1:cR)(O:List UInt8)(U:Int->Int->Option b6)(t2:Int)(t3:Int):Option b6:=
 if decide (t2<(List.length l1:Int))then
  (
   Option.bind (ar l1 t2) fun W=>
   Option.bind (je k (q.1,q.2.1,()) W) fun v4=>
   if v4 !=(0:Int)then
    (
     Option.bind (ke k v4 ([]:List (Int)) ([]:List (Int))) fun v5=>
     some (v5.1,v5.2,v4)
    )
   else
    U (ag (t2+(1:Int))) v4
  )
 else
  (
   Option.bind (je k (t1.1.1,t1.1.2.1,()) O) fun o=>
   if o !=(0:Int)then
    (
     Option.bind (ke k o ([]:List (Int)) ([]:List (Int))) fun R=>
     some (R.1,R.2,o)
    )
   else
    Cf k l1 q t1 O k (0:Int) o ([]:List bI)
  )
def Cv(k:Nat)(l1:List (List UInt8))(o:aH)(t1:cR)(q:List UInt8):Nat->Int->Int->Option b6
 |0,_,_=>none
 |n+1,t2,t3=>UW k l1 o t1 q (Cv k l1 o t1 q n) t2 t3
def tx(k:Nat)(o:aH)(t1:cR)(l1:List (List UInt8))(q:List UInt8):Option b6:=
 Option.bind (px k (o.1,o.2.1,()) ((t1.1.1,t1.1.2.1,()),t1.2.1,t1.2.2.1,t1.2.2.2.1,t1.2.2.2.2.1,t1.2.2.2.2.2.1,t1.2.2.2.2.2.2.1,()) ([]:List UInt8)) fun v1=>
 if v1.2 !=(0:Int)then
  (
   Option.bind (ke k v1.2 ([]:List (Int)) ([]:List (Int))) fun v2=>
   some (v2.1,v2.2,v1.2)
  )
 else
  (
   if decide ((4096:Int)<(List.length l1:Int))then
    (
     Option.bind (ke k (4:Int) ([]:List (Int)) ([]:List (Int))) fun v3=>
     some (v3.1,v3.2,(4:Int))
    )
   else
    Cv k l1 o t1 q k (0:Int) v1.2
  )
def zd(o:Int->aD->Option bY)(t2:Int)(l2:List (List UInt8)):Option bY:=
 o (ag (t2+(1:Int))) l2
def Mo(k:Nat)(t1:cR)(q:List UInt8)(o:Int->aD->Option bY)(t2:Int)(l1:List (List UInt8)):Option bY:=
 if decide (t2<(ag ((List.length t1.2.2.2.2.2.1:Int)+(1:Int))))then
  (
   Option.bind (dK t1.2.2.2.2.2.1 t2 (t1.2.2.2.2.2.1.length:Int)) fun O=>
   Option.bind (mq k (t1.1.1,t1.1.2.1,()) O q) fun v3=>
   if v3.2 !=(0:Int)then
    some (([]:List (List UInt8)),v3.2)
   else
    (
     Option.bind (tG k l1 v3.1) fun v4=>
     if !v4 then
      (
       Option.bind (aP (List.length l1+List.length ([v3.1]:List (List UInt8))<=bF)) fun _=>
       zd o t2 (l1++([v3.1]:List (List UInt8)))
      )
     else
      zd o t2 l1
    )
  )
 else
  some (l1,(0:Int))
def qF(k:Nat)(t1:cR)(o:List UInt8):Nat->Int->aD->Option bY
 |0,_,_=>none
 |n+1,t2,l1=>Mo k t1 o (qF k t1 o n) t2 l1
def oR(k:Nat)(t1:cR)(o:List UInt8):Option bY:=
 Option.bind (kH k ((t1.1.1,t1.1.2.1,()),t1.2.1,t1.2.2.1,t1.2.2.2.1,t1.2.2.2.2.1,t1.2.2.2.2.2.1,t1.2.2.2.2.2.2.1,())) fun v1=>
 if v1 !=(0:Int)then
  some (([]:List (List UInt8)),v1)
 else
  (
   Option.bind (je k (t1.1.1,t1.1.2.1,()) o) fun v2=>
   if v2 !=(0:Int)then
    some (([]:List (List UInt8)),v2)
   else
    qF k t1 o k (0:Int) ([]:List (List UInt8))
  )
def BM(t18:Bool):Option Bool:=
 some (t18)
def Gh(o:bY)(t17:Bool):Option Bool:=
 if t17 then
  (
   Option.bind (ar o.1 (2:Int)) fun q=>
   BM (q==([116,97,110]:List UInt8))
  )
 else
  BM false
def Bh(o:bY)(t16:Bool):Option Bool:=
 if t16 then
  (
   Option.bind (ar o.1 (0:Int)) fun q=>
   Gh o (q==([110,97]:List UInt8))
  )
 else
  Gh o false
def GY(q:b6)(o:bY)(t15:Bool):Option Bool:=
 if t15 then
  (
   Option.bind (ar q.2.1 (1:Int)) fun O=>
   Bh o (O==(3:Int))
  )
 else
  Bh o false
def G2(o:b6)(q:bY)(t14:Bool):Option Bool:=
 if t14 then
  (
   Option.bind (ar o.1 (1:Int)) fun O=>
   GY o q (O==(1:Int))
  )
 else
  GY o q false
def AV(O:bL)(o:b6)(q:bY)(t13:Bool):Option Bool:=
 if t13 then
  (
   Option.bind (ar O.1 (1:Int)) fun R=>
   G2 o q (R==(2:Int))
  )
 else
  G2 o q false
def QL(o:bL)(q:b6)(O:bY)(t12:Bool):Option Bool:=
 if t12 then
  (
   Option.bind (ar o.1 (0:Int)) fun R=>
   AV o q O (R==(1:Int))
  )
 else
  AV o q O false
def VW(o:bL)(q:b6)(O:bY)(v5:bh)(t11:Bool):Option Bool:=
 QL o q O (t11&&(v5.1==([110,97,116]:List UInt8)))
def R9(o:bL)(q:b6)(O:bY)(v5:bh)(v3:bh)(v4:bh)(t10:Bool):Option Bool:=
 if t10 then
  some (false)
 else
  VW o q O v5 ((v3.1==([116,97,116]:List UInt8))&&(v4.1==([112,97,112]:List UInt8)))
def Tu(q:bL)(O:b6)(o:bY)(v5:bh)(v3:bh)(v4:bh)(t9:Bool):Option Bool:=
 R9 q O o v5 v3 v4 (t9||((List.length o.1:Int)!=(3:Int)))
def Yl(q:bL)(o:b6)(O:bY)(v5:bh)(v3:bh)(v4:bh)(t8:Bool):Option Bool:=
 Tu q o O v5 v3 v4 (t8||((List.length o.2.1:Int)!=(2:Int)))
def Y1(q:bL)(o:b6)(O:bY)(v5:bh)(v3:bh)(v4:bh)(t7:Bool):Option Bool:=
 Yl q o O v5 v3 v4 (t7||((List.length o.1:Int)!=(2:Int)))
def Rg(o:bL)(q:b6)(O:bY)(v5:bh)(v3:bh)(v4:bh)(t6:Bool):Option Bool:=
 Y1 o q O v5 v3 v4 (t6||((List.length o.1:Int)!=(2:Int)))
def QY(o:bL)(q:b6)(O:bY)(v5:bh)(v3:bh)(v4:bh)(v9:bh)(t5:Bool):Option Bool:=
 Rg o q O v5 v3 v4 (t5||(v9.2 !=(2:Int)))
def VA(q:bL)(O:b6)(o:bY)(v5:bh)(v3:bh)(v4:bh)(v9:bh)(t4:Bool):Option Bool:=
 QY q O o v5 v3 v4 v9 (t4||(o.2 !=(0:Int)))
def VB(q:bL)(o:b6)(O:bY)(v5:bh)(v3:bh)(v4:bh)(v9:bh)(t3:Bool):Option Bool:=
 VA q o O v5 v3 v4 v9 (t3||(o.2.2 !=(0:Int)))
def WD(o:bL)(q:b6)(O:bY)(v5:bh)(v3:bh)(v4:bh)(v9:bh)(t2:Bool):Option Bool:=
 VB o q O v5 v3 v4 v9 (t2||(o.2 !=(0:Int)))
def Q0(o:bL)(q:b6)(O:bY)(v5:bh)(v3:bh)(v4:bh)(v9:bh)(t1:Bool):Option Bool:=
 WD o q O v5 v3 v4 v9 (t1||(v5.2 !=(0:Int)))
def qz(k:Nat):Option Bool:=
 Option.bind (zX k) fun v1=>
 Option.bind (Hn k) fun v2=>
 Option.bind (gl k (v1.1,v1.2.1,()) (v2.1.1,v2.1.2.1,()) ([112,97,98]:List UInt8)) fun v3=>
 Option.bind (gl k (v2.1.1,v2.1.2.1,()) (v1.1,v1.2.1,()) ([116,97,110]:List UInt8)) fun v4=>
 Option.bind (jJ k (v1.1,v1.2.1,()) ((v2.1.1,v2.1.2.1,()),v2.2.1,v2.2.2.1,v2.2.2.2.1,v2.2.2.2.2.1,v2.2.2.2.2.2.1,v2.2.2.2.2.2.2.1,()) ([112,97,98]:List UInt8) (0:Int)) fun v5=>
 Option.bind (zv k (v1.1,v1.2.1,()) ((v2.1.1,v2.1.2.1,()),v2.2.1,v2.2.2.1,v2.2.2.2.1,v2.2.2.2.2.1,v2.2.2.2.2.2.1,v2.2.2.2.2.2.2.1,()) ([112,97]:List UInt8) ([116,97]:List UInt8)) fun o=>
 Option.bind (tx k (v1.1,v1.2.1,()) ((v2.1.1,v2.1.2.1,()),v2.2.1,v2.2.2.1,v2.2.2.2.1,v2.2.2.2.2.1,v2.2.2.2.2.2.1,v2.2.2.2.2.2.2.1,()) ([([112,97]:List UInt8),([98,97]:List UInt8),([97]:List UInt8)]:List (List UInt8)) ([110,97]:List UInt8)) fun q=>
 Option.bind (oR k ((v2.1.1,v2.1.2.1,()),v2.2.1,v2.2.2.1,v2.2.2.2.1,v2.2.2.2.2.1,v2.2.2.2.2.2.1,v2.2.2.2.2.2.2.1,()) ([116,97,110]:List UInt8)) fun O=>
 Option.bind (jJ k (v1.1,v1.2.1,()) ((v2.1.1,v2.1.2.1,()),v2.2.1,v2.2.2.1,v2.2.2.2.1,v2.2.2.2.2.1,v2.2.2.2.2.2.1,v2.2.2.2.2.2.2.1,()) ([112,97]:List UInt8) (3:Int)) fun v9=>
 Q0 o q O v5 v3 v4 v9 ((v3.2 !=(0:Int))||(v4.2 !=(0:Int)))
def XV(o:Int)(q:Int->(List (Int))->Option (List UInt8))(i1:Int)(t1:List (Int)):Option (List UInt8):=
 if decide (i1<o)then
  (
   Option.bind (ar t1 i1) fun O=>
   q (ag (i1+(1:Int))) (List.set t1 (i1).toNat (112:Int))
  )
 else
  some (fx t1)
def BC(o:Int):Nat->Int->(List (Int))->Option (List UInt8)
 |0,_,_=>none
 |n+1,i1,t1=>XV o (BC o n) i1 t1
def DS(k:Nat)(o:Int):Option (List UInt8):=
 Option.bind (aP (0<=o/\o<=o/\o<=(bF:Int))) fun _=>
 BC o k (0:Int) (List.replicate (o).toNat (0:Int))
def abj(t17:Bool):Option Bool:=
 some (t17)
def RT(o:b6)(t16:Bool):Option Bool:=
 abj (t16&&((List.length o.2.1:Int)==(0:Int)))
def aaC(o:b6)(t15:Bool):Option Bool:=
 RT o (t15&&((List.length o.1:Int)==(0:Int)))
def BK(o:b6)(t14:Bool):Option Bool:=
 aaC o (t14&&(o.2.2==(5:Int)))
def abB(v5:bh)(o:b6)(t13:Bool):Option Bool:=
 if t13 then
  some (false)
 else
  (
   if(List.length v5.1:Int)==(64:Int)then
    (
     Option.bind (eE v5.1 (63:Int)) fun q=>
     BK o (q==(116:Int))
    )
   else
    BK o false
  )
def SB(v5:bh)(o:b6)(v20:bY)(t12:Bool):Option Bool:=
 abB v5 o (t12||(v20.2 !=(5:Int)))
def aaW(v5:bh)(o:b6)(v20:bY)(q:b6)(t11:Bool):Option Bool:=
 SB v5 o v20 (t11||(q.2.2 !=(5:Int)))
def aa0(v5:bh)(o:b6)(v20:bY)(q:b6)(v17:b6)(t10:Bool):Option Bool:=
 aaW v5 o v20 q (t10||(v17.2.2 !=(4:Int)))
def Vt(v5:bh)(o:b6)(v20:bY)(q:b6)(v17:b6)(O:bL)(t9:Bool):Option Bool:=
 aa0 v5 o v20 q v17 (t9||(O.2 !=(5:Int)))
def abL(v5:bh)(o:b6)(v20:bY)(q:b6)(v17:b6)(O:bL)(R:bL)(t8:Bool):Option Bool:=
 Vt v5 o v20 q v17 O (t8||(R.2 !=(5:Int)))
def Vl(v5:bh)(o:b6)(v20:bY)(q:b6)(v17:b6)(O:bL)(R:bL)(U:bh)(t7:Bool):Option Bool:=
 abL v5 o v20 q v17 O R (t7||(U.2 !=(20:Int)))
def RM(v5:bh)(o:b6)(v20:bY)(q:b6)(v17:b6)(O:bL)(R:bL)(U:bh)(W:bh)(t6:Bool):Option Bool:=
 Vl v5 o v20 q v17 O R U (t6||(W.2 !=(7:Int)))
def Zp(v5:bh)(o:b6)(v20:bY)(q:b6)(v17:b6)(O:bL)(R:bL)(U:bh)(W:bh)(v12:bh)(t5:Bool):Option Bool:=
 RM v5 o v20 q v17 O R U W (t5||(v12.2 !=(5:Int)))
def To(v5:bh)(o:b6)(v20:bY)(q:b6)(v17:b6)(O:bL)(R:bL)(U:bh)(W:bh)(v12:bh)(Y:bh)(t4:Bool):Option Bool:=
 Zp v5 o v20 q v17 O R U W v12 (t4||(Y.2 !=(2:Int)))
def Ys(v5:bh)(o:b6)(v20:bY)(q:b6)(v17:b6)(O:bL)(R:bL)(U:bh)(W:bh)(v12:bh)(Y:bh)(Z:bh)(t3:Bool):Option Bool:=
 To v5 o v20 q v17 O R U W v12 Y (t3||(Z.2 !=(0:Int)))
def XF(v5:bh)(o:b6)(v20:bY)(q:b6)(v17:b6)(O:bL)(R:bL)(U:bh)(W:bh)(v12:bh)(Y:bh)(Z:bh)(v9:bh)(t2:Bool):Option Bool:=
 Ys v5 o v20 q v17 O R U W v12 Y Z (t2||(v9.2 !=(7:Int)))
def Zm(v5:bh)(o:b6)(v20:bY)(q:b6)(v17:b6)(O:bL)(R:bL)(U:bh)(W:bh)(v12:bh)(Y:bh)(Z:bh)(v9:bh)(la:bh)(t1:Bool):Option Bool:=
 XF v5 o v20 q v17 O R U W v12 Y Z v9 (t1||(la.2 !=(7:Int)))
def Yo(k:Nat):Option Bool:=
 Option.bind (qz k) fun v1=>
 if !v1 then
  some (false)
 else
  (
   Option.bind (zX k) fun v2=>
   Option.bind (Hn k) fun v3=>
   Option.bind (DS k (64:Int)) fun v4=>
   Option.bind (gl k (v2.1,v2.2.1,()) (v3.1.1,v3.1.2.1,()) v4) fun v5=>
   Option.bind (DS k (65:Int)) fun o=>
   Option.bind (gl k (v2.1,v2.2.1,()) (v3.1.1,v3.1.2.1,()) o) fun q=>
   Option.bind (gl k (([]:List (List UInt8)),([]:List ax),()) (([]:List (List UInt8)),([]:List ax),()) ([255]:List UInt8)) fun O=>
   Option.bind (gl k (v2.1,v2.2.1,()) (([]:List (List UInt8)),([]:List ax),()) ([255]:List UInt8)) fun v9=>
   Option.bind (jJ k (v2.1,v2.2.1,()) ((v3.1.1,v3.1.2.1,()),v3.2.1,v3.2.2.1,v3.2.2.2.1,v3.2.2.2.2.1,v3.2.2.2.2.2.1,v3.2.2.2.2.2.2.1,()) ([112,97]:List UInt8) (2:Int)) fun R=>
   Option.bind (jJ k (v2.1,v2.2.1,()) ((v3.1.1,v3.1.2.1,()),v3.2.1,v3.2.2.1,v3.2.2.2.1,v3.2.2.2.2.1,v3.2.2.2.2.2.1,v3.2.2.2.2.2.2.1,()) ([112,97]:List UInt8) (-1:Int)) fun U=>
   Option.bind (jJ k (v2.1,v2.2.1,()) ((v3.1.1,v3.1.2.1,()),v3.2.1,v3.2.2.1,v3.2.2.2.1,v3.2.2.2.2.1,v3.2.2.2.2.2.1,v3.2.2.2.2.2.2.1,()) ([120]:List UInt8) (-1:Int)) fun v12=>
   Option.bind (jJ k (([]:List (List UInt8)),([]:List ax),()) ((([]:List (List UInt8)),([]:List ax),()),(0:Int),(0:Int),([]:List iL),([]:List iV),([]:List fr),([]:List (List UInt8)),()) ([120]:List UInt8) (-1:Int)) fun W=>
   Option.bind (jJ k (v2.1,v2.2.1,()) ((v3.1.1,v3.1.2.1,()),(0:Int),(0:Int),([]:List iL),([]:List iV),([]:List fr),([]:List (List UInt8)),()) ([120]:List UInt8) (-1:Int)) fun Y=>
   Option.bind (zv k (v2.1,v2.2.1,()) ((v3.1.1,v3.1.2.1,()),v3.2.1,v3.2.2.1,v3.2.2.2.1,v3.2.2.2.2.1,v3.2.2.2.2.2.1,v3.2.2.2.2.2.2.1,()) ([120]:List UInt8) ([112]:List UInt8)) fun Z=>
   Option.bind (zv k (v2.1,v2.2.1,()) ((v3.1.1,v3.1.2.1,()),v3.2.1,v3.2.2.1,v3.2.2.2.1,v3.2.2.2.2.1,v3.2.2.2.2.2.1,v3.2.2.2.2.2.2.1,()) ([112,97]:List UInt8) ([112]:List UInt8)) fun la=>
   Option.bind (aP (0<=(4097:Int)/\(4097:Int)<=(4097:Int)/\(4097:Int)<=(bF:Int))) fun _=>
   Option.bind (tx k (v2.1,v2.2.1,()) ((v3.1.1,v3.1.2.1,()),v3.2.1,v3.2.2.1,v3.2.2.2.1,v3.2.2.2.2.1,v3.2.2.2.2.2.1,v3.2.2.2.2.2.2.1,()) (List.replicate ((4097:Int)).toNat ([]:List UInt8)) ([112]:List UInt8)) fun v17=>
   Option.bind (tx k (v2.1,v2.2.1,()) ((v3.1.1,v3.1.2.1,()),v3.2.1,v3.2.2.1,v3.2.2.2.1,v3.2.2.2.2.1,v3.2.2.2.2.2.1,v3.2.2.2.2.2.2.1,()) ([([120]:List UInt8)]:List (List UInt8)) ([112]:List UInt8)) fun lb=>
   Option.bind (tx k (v2.1,v2.2.1,()) ((v3.1.1,v3.1.2.1,()),v3.2.1,v3.2.2.1,v3.2.2.2.1,v3.2.2.2.2.1,v3.2.2.2.2.2.1,v3.2.2.2.2.2.2.1,()) ([([98,97]:List UInt8),([97]:List UInt8),([116,97]:List UInt8),([112,97]:List UInt8)]:List (List UInt8)) ([116,97]:List UInt8)) fun lc=>
   Option.bind (oR k ((v3.1.1,v3.1.2.1,()),v3.2.1,v3.2.2.1,v3.2.2.2.1,v3.2.2.2.2.1,v3.2.2.2.2.2.1,v3.2.2.2.2.2.2.1,()) ([112]:List UInt8)) fun v20=>
   Zm v5 lc v20 lb v17 la Z Y W v12 U R v9 O ((v5.2 !=(0:Int))||(q.2 !=(4:Int)))
  )
def I0(k:Nat)(o:aH)(q:List UInt8):Option (Int×Int):=
 Option.bind (eK k (o.1,o.2.1,())) fun v1=>
 if v1 !=(0:Int)then
  some ((0:Int),v1)
 else
  (
   Option.bind (sC k o.1 q) fun v2=>
   if decide (v2<(0:Int))then
    some ((0:Int),(8:Int))
   else
    (
     Option.bind (aP (0<=v2)) fun _=>
     some (cH ((1:Int)*2^min (v2).toNat 32),(0:Int))
    )
  )
def zY(k:Nat)(o:aH)(l1:cK)(q:List UInt8):Option Int:=
 Option.bind (I0 k (o.1,o.2.1,()) q) fun v1=>
 if v1.2 !=(0:Int)then
  some ((0:Int))
 else
  (
   if(cH (BitVec.toNat (BitVec.ofInt 32 l1.2.1&&&BitVec.ofInt 32 v1.1)))!=(0:Int)then
    some ((1:Int))
   else
    (
     if(cH (BitVec.toNat (BitVec.ofInt 32 l1.2.2.1&&&BitVec.ofInt 32 v1.1)))!=(0:Int)then
      some ((2:Int))
     else
      some ((0:Int))
    )
  )
def A8(o:Int->Int->Option Int)(i1:Int)(q:Int):Option Int:=
 o q (ag (i1+(1:Int)))
def VZ(k:Nat)(o:aH)(U:aH)(q:cK)(O:cK)(W:Int->Int->Option Int)(R:Int)(i1:Int):Option Int:=
 if decide (i1<(List.length o.1:Int))then
  (
   Option.bind (ar o.1 i1) fun Y=>
   Option.bind (zY k (U.1,U.2.1,()) (q.1,q.2.1,q.2.2.1,()) Y) fun v1=>
   Option.bind (zY k (o.1,o.2.1,()) (O.1,O.2.1,O.2.2.1,()) Y) fun v2=>
   if v1 !=v2 then
    A8 W i1 (ag (R+(1:Int)))
   else
    A8 W i1 R
  )
 else
  some (R)
def Fj(k:Nat)(o:aH)(q:aH)(O:cK)(R:cK):Nat->Int->Int->Option Int
 |0,_,_=>none
 |n+1,U,i1=>VZ k o q O R (Fj k o q O R n) U i1
def Ch(k:Nat)(o:aH)(q:aH)(O:cK)(R:cK):Option Int:=
 Fj k q o O R k (0:Int) (0:Int)
def C9(o:Int->aD->aK->aD->aK->Option Bool)(i1:Int)(q:List (List UInt8))(O:List ax)(R:List (List UInt8))(U:List ax):Option Bool:=
 o (ag (i1+(1:Int))) q O R U
def Bx(aC:Bool->Int->Option Bool)(t9:Bool)(o:Int)(t10:Bool):Option Bool:=
 if t10 then
  some (false)
 else
  aC t9 (ag (o+(1:Int)))
def Tr(aC:Bool->Int->Option Bool)(t9:Bool)(o:Int)(t11:Bool):Option Bool:=
 Bx aC t9 o t11
def EX(o:Int)(q:Int)(aC:Bool->Int->Option Bool)(O:Int)(t9:Bool):Option Bool:=
 if decide (o<q)then
  Bx aC t9 O true
 else
  Tr aC t9 O ((o==q)&&(!t9))
def aa1(k:Nat)(o:List ax)(R:List (List UInt8))(U:List ax)(W:List (List UInt8))(O:jE)(Y:Int)(lb:bL)(i1:Int)(lc:Int->aD->aK->aD->aK->Option Bool)(aC:Bool->Int->Option Bool)(ld:Bool)(q:Int):Option Bool:=
 if decide (q<(List.length o:Int))then
  (
   Option.bind (ar o q) fun Z=>
   Option.bind (Ch k (R,U,()) (W,o,()) (O.1.1,O.1.2.1,O.1.2.2.1,()) Z) fun la=>
   if ld then
    EX la Y aC q true
   else
    (
     Option.bind (ar lb.1 i1) fun le=>
     EX la Y aC q (Z.1==le)
    )
  )
 else
  C9 lc i1 R U W o
def BR(k:Nat)(o:List ax)(q:List (List UInt8))(O:List ax)(R:List (List UInt8))(U:jE)(W:Int)(Y:bL)(i1:Int)(Z:Int->aD->aK->aD->aK->Option Bool):Nat->Bool->Int->Option Bool
 |0,_,_=>none
 |n+1,la,lb=>aa1 k o q O R U W Y i1 Z (BR k o q O R U W Y i1 Z n) la lb
def DX(k:Nat)(v9:jE)(Y:Int->aD->aK->aD->aK->Option Bool)(i1:Int)(q:List (List UInt8))(O:List ax)(R:List (List UInt8))(U:List ax)(o:jE)(W:jE)(Z:bL)(t8:Bool):Option Bool:=
 if t8 then
  some (false)
 else
  (
   if v9.2==(0:Int)then
    C9 Y i1 q O R U
   else
    (
     Option.bind (Ch k (q,O,()) (R,U,()) (o.1.1,o.1.2.1,o.1.2.2.1,()) (W.1.1,W.1.2.1,W.1.2.2.1,())) fun la=>
     BR k U q O R o la Z i1 Y k false (0:Int)
    )
  )
def FX(k:Nat)(v9:jE)(o:Int->aD->aK->aD->aK->Option Bool)(i1:Int)(q:List (List UInt8))(O:List ax)(R:List (List UInt8))(U:List ax)(W:jE)(Y:jE)(Z:bL)(t12:Bool):Option Bool:=
 DX k v9 o i1 q O R U W Y Z t12
def Xi(k:Nat)(v9:jE)(q:Int->aD->aK->aD->aK->Option Bool)(i1:Int)(O:List (List UInt8))(R:List ax)(U:List (List UInt8))(W:List ax)(Y:jE)(Z:jE)(o:bL)(v5:bL)(t7:Bool):Option Bool:=
 if t7 then
  DX k v9 q i1 O R U W Y Z o true
 else
  (
   if v9.2==(0:Int)then
    (
     Option.bind (ar o.1 i1) fun la=>
     Option.bind (ar v5.1 i1) fun lb=>
     FX k v9 q i1 O R U W Y Z o (la !=lb)
    )
   else
    FX k v9 q i1 O R U W Y Z o false
  )
def TP(k:Nat)(v5:bL)(i1:Int)(O:List (List UInt8))(R:List ax)(U:bL)(o:List (List UInt8))(q:List ax)(la:Int->aD->aK->aD->aK->Option Bool)(t6:Bool):Option Bool:=
 if t6 then
  (
   Option.bind (ar v5.1 i1) fun W=>
   Option.bind (jw k (O,R,()) W) fun Y=>
   Option.bind (ar U.1 i1) fun lb=>
   Option.bind (jw k (o,q,()) lb) fun Z=>
   Option.bind (jw k (o,q,()) W) fun v9=>
   Xi k v9 la i1 O R o q Y Z U v5 ((Y.2 !=(0:Int))||(Z.2 !=(0:Int)))
  )
 else
  some (true)
def U8(k:Nat)(v5:bL)(o:bL)(q:Int->aD->aK->aD->aK->Option Bool)(i1:Int)(O:List (List UInt8))(R:List ax)(U:List (List UInt8))(W:List ax):Option Bool:=
 TP k v5 i1 O R o U W q (decide (i1<(List.length v5.1:Int))&&(decide (i1<(12:Int))))
def HG(k:Nat)(v5:bL)(o:bL):Nat->Int->aD->aK->aD->aK->Option Bool
 |0,_,_,_,_,_=>none
 |n+1,i1,q,O,R,U=>U8 k v5 o (HG k v5 o n) i1 q O R U
def YH(k:Nat)(v5:bL)(O:bL)(o:aH)(q:aH)(t5:Bool):Option Bool:=
 if t5 then
  some (false)
 else
  HG k v5 O k (0:Int) o.1 o.2.1 q.1 q.2.1
def abz(k:Nat)(v5:bL)(o:bL)(q:aH)(O:aH)(t4:Bool):Option Bool:=
 YH k v5 o q O (t4||((List.length v5.1:Int)!=(List.length o.1:Int)))
def abT(k:Nat)(o:aH)(R:List UInt8)(q:aH)(v2:bh)(t3:Bool):Option Bool:=
 if t3 then
  some (false)
 else
  (
   Option.bind (kY k (o.1,o.2.1,()) R) fun v5=>
   Option.bind (kY k (q.1,q.2.1,()) v2.1) fun O=>
   abz k v5 O o q ((v5.2 !=(0:Int))||(O.2 !=(0:Int)))
  )
def Uq(k:Nat)(q:aH)(o:List UInt8)(O:aH)(v2:bh)(v4:bh)(t2:Bool):Option Bool:=
 abT k q o O v2 (t2||(!(v4.1==o)))
def aag(k:Nat)(o:aH)(q:List UInt8)(O:aH)(v2:bh)(v4:bh)(v3:bh)(t1:Bool):Option Bool:=
 Uq k o q O v2 v4 (t1||(!(v3.1==v2.1)))
def X2(k:Nat)(o:aH)(q:aH)(O:List UInt8):Option Bool:=
 Option.bind (qz k) fun v1=>
 if !v1 then
  some (false)
 else
  (
   if decide ((2000:Int)<(List.length O:Int))then
    some (true)
   else
    (
     Option.bind (gl k (o.1,o.2.1,()) (q.1,q.2.1,()) O) fun v2=>
     if v2.2 !=(0:Int)then
      some (v2.1==([]:List UInt8))
     else
      (
       Option.bind (gl k (q.1,q.2.1,()) (q.1,q.2.1,()) v2.1) fun v3=>
       Option.bind (gl k (o.1,o.2.1,()) (o.1,o.2.1,()) O) fun v4=>
       aag k o O q v2 v4 v3 ((v3.2 !=(0:Int))||(v4.2 !=(0:Int)))
      )
    )
  )
def H2(aC:Int->Option Bool)(i2:Int)(t11:Bool):Option Bool:=
 if t11 then
  some (true)
 else
  aC (ag (i2+(1:Int)))
def Kc(aC:Int->Option Bool)(i2:Int)(o:dB)(t10:Bool):Option Bool:=
 H2 aC i2 (t10||(decide ((2000:Int)<(ag ((List.length o.2.2.2.1.1:Int)+(List.length o.2.2.2.2.1.1:Int))))))
def OH(t1:cR)(aC:Int->Option Bool)(i2:Int):Option Bool:=
 if decide (i2<(List.length t1.2.2.2.2.2.1:Int))then
  (
   Option.bind (ar t1.2.2.2.2.2.1 i2) fun o=>
   Kc aC i2 o (decide ((40:Int)<(ag ((List.length o.2.2.2.1.1:Int)+(List.length o.2.2.2.2.1.1:Int))))&&(decide ((ag ((List.length o.2.2.2.1.1:Int)+(List.length o.2.2.2.2.1.1:Int)))<=(512:Int))))
  )
 else
  some (false)
def vh(t1:cR):Nat->Int->Option Bool
 |0,_=>none
 |n+1,i2=>OH t1 (vh t1 n) i2
def Kr(k:Nat)(t1:cR)(i1:Int)(o:Int->Option Bool)(t9:Bool):Option Bool:=
 if t9 then
  (
   Option.bind (ar t1.2.2.2.1 i1) fun q=>
   if decide ((20:Int)<(List.length q.2.1:Int))then
    some (true)
   else
    o (ag (i1+(1:Int)))
  )
 else
  vh t1 k (0:Int)
def N6(k:Nat)(t1:cR)(o:Int->Option Bool)(i1:Int):Option Bool:=
 Kr k t1 i1 o (decide (i1<(List.length t1.2.2.2.1:Int))&&(decide (i1<(12:Int))))
def ug(k:Nat)(t1:cR):Nat->Int->Option Bool
 |0,_=>none
 |n+1,i1=>N6 k t1 (ug k t1 n) i1
def Lf(k:Nat)(t1:cR)(t8:Bool):Option Bool:=
 if t8 then
  some (true)
 else
  ug k t1 k (0:Int)
def L9(k:Nat)(t1:cR)(t7:Bool):Option Bool:=
 Lf k t1 (t7||(decide ((200:Int)<(List.length t1.2.2.2.2.2.2.1:Int))))
def vm(k:Nat)(t1:cR)(t6:Bool):Option Bool:=
 L9 k t1 (t6||(decide ((200:Int)<(List.length t1.2.2.2.2.2.1:Int))))
def JS(k:Nat)(t1:cR)(t12:Bool):Option Bool:=
 vm k t1 t12
def Hq(k:Nat)(t1:cR)(t5:Bool):Option Bool:=
 if t5 then
  vm k t1 true
 else
  JS k t1 (decide ((5:Int)<(List.length t1.2.2.2.2.2.1:Int))&&(decide ((List.length t1.2.2.2.2.2.1:Int)<=(64:Int))))
def yE(k:Nat)(t1:cR)(t4:Bool):Option Bool:=
 Hq k t1 (t4||(decide ((9000:Int)<(List.length t1.2.2.2.2.1:Int))))
def MQ(k:Nat)(t1:cR)(t13:Bool):Option Bool:=
 yE k t1 t13
def Oo(k:Nat)(t1:cR)(t3:Bool):Option Bool:=
 if t3 then
  yE k t1 true
 else
  MQ k t1 (decide ((40:Int)<(List.length t1.2.2.2.2.1:Int))&&(decide ((List.length t1.2.2.2.2.1:Int)<=(4096:Int))))
def Ia(k:Nat)(t1:cR)(t2:Bool):Option Bool:=
 Oo k t1 (t2||(decide ((9000:Int)<(List.length t1.2.2.2.1:Int))))
def rN(k:Nat)(t1:cR):Option Bool:=
 Ia k t1 (decide ((12:Int)<(List.length t1.2.2.2.1:Int))&&(decide ((List.length t1.2.2.2.1:Int)<=(4096:Int))))
def wo(k:Nat)(o:dB)(q:Int):Option Int:=
 if(List.length o.2.1:Int)==(0:Int)then
  some (fM (400:Int) (ag (q+(ag ((ag (q+(1:Int)))*(fM (List.length o.2.2.1:Int) (400:Int)))))))
 else
  (
   Option.bind (aP ((List.length o.2.1:Int)≠0)) fun _=>
   some (fM (400:Int) (ag (q+(ag ((ag (Int.tdiv q (List.length o.2.1:Int)))*(mh (0:Int) (ag ((fM (List.length o.2.2.1:Int) (400:Int))-(List.length o.2.1:Int)))))))))
  )
def uP(k:Nat)(t1:cR)(i1:Int)(o:Int)(aC:Int->Int->Int->Option Bool)(q:Int):Option Bool:=
 Option.bind (ar t1.2.2.2.2.2.1 i1) fun O=>
 Option.bind (wo k O o) fun v1=>
 aC v1 q (ag (i1+(1:Int)))
def ME(k:Nat)(t1:cR)(aC:Int->Int->Int->Option Bool)(o:Int)(q:Int)(i1:Int):Option Bool:=
 if decide (i1<(List.length t1.2.2.2.2.2.1:Int))then
  (
   Option.bind (ar t1.2.2.2.2.2.1 i1) fun O=>
   if O.2.2.2.2.2.2.1 then
    (
     if decide (q<o)then
      some (true)
     else
      uP k t1 i1 o aC (mh (3:Int) (ag (q-(3:Int))))
    )
   else
    uP k t1 i1 o aC q
  )
 else
  some (false)
def rl(k:Nat)(t1:cR):Nat->Int->Int->Int->Option Bool
 |0,_,_,_=>none
 |n+1,o,q,i1=>ME k t1 (rl k t1 n) o q i1
def NM(k:Nat)(t1:cR)(o:Int)(t2:Bool):Option Bool:=
 if t2 then
  some (false)
 else
  rl k t1 k o (8:Int) (0:Int)
def Np(k:Nat)(O:List UInt8)(t1:cR)(R:Int->Nat->Option Bool)(o:Int)(q:Nat):Option Bool:=
 if decide (q<List.length O)then
  R (ag (o+(1:Int))) (q+jd O q)
 else
  NM k t1 o (decide ((64:Int)<o)||(decide ((64:Int)<(List.length t1.2.2.2.2.2.1:Int))))
def su(k:Nat)(o:List UInt8)(t1:cR):Nat->Int->Nat->Option Bool
 |0,_,_=>none
 |n+1,q,O=>Np k o t1 (su k o t1 n) q O
def uJ(k:Nat)(t1:cR)(o:List UInt8):Option Bool:=
 if decide ((2000:Int)<(List.length o:Int))then
  some (true)
 else
  su k o t1 k (0:Int) 0
def tV(o:Int->Int->aD->aK->Int->Int->kU->kZ->kP->aD->Option Bool)(i1:Int)(q:Int)(t12:List (List UInt8))(t13:List ax)(t14:Int)(t15:Int)(t16:List iL)(t17:List iV)(t18:List fr)(t19:List (List UInt8)):Option Bool:=
 o q (ag (i1+(1:Int))) t12 t13 t14 t15 t16 t17 t18 t19
def xc(aC:Bool->Int->Option Bool)(o:Int)(t20:Bool):Option Bool:=
 aC t20 (ag (o+(1:Int)))
def yA(o:Int->Int->aD->aK->Int->Int->kU->kZ->kP->aD->Option Bool)(i1:Int)(q:Int)(t4:List (List UInt8))(t5:List ax)(t6:Int)(t7:Int)(t8:List iL)(t9:List iV)(t10:List fr)(t11:List (List UInt8))(t21:Bool):Option Bool:=
 if t21 then
  some (false)
 else
  tV o i1 (ag (q+(1:Int))) t4 t5 t6 t7 t8 t9 t10 t11
def Iv(o:Int)(v3:bY)(v4:bh)(O:Int->Int->aD->aK->Int->Int->kU->kZ->kP->aD->Option Bool)(i1:Int)(t4:List (List UInt8))(t5:List ax)(t6:Int)(t7:Int)(t8:List iL)(t9:List iV)(t10:List fr)(t11:List (List UInt8))(aC:Bool->Int->Option Bool)(R:Bool)(q:Int):Option Bool:=
 if decide (q<o)then
  (
   if R then
    xc aC q true
   else
    (
     Option.bind (ar v3.1 q) fun U=>
     xc aC q (U==v4.1)
    )
  )
 else
  (
   if R then
    tV O i1 o t4 t5 t6 t7 t8 t9 t10 t11
   else
    (
     if decide ((List.length v3.1:Int)<=o)then
      yA O i1 o t4 t5 t6 t7 t8 t9 t10 t11 true
     else
      (
       Option.bind (ar v3.1 o) fun W=>
       yA O i1 o t4 t5 t6 t7 t8 t9 t10 t11 (!(W==v4.1))
      )
    )
  )
def rp(o:Int)(v3:bY)(v4:bh)(q:Int->Int->aD->aK->Int->Int->kU->kZ->kP->aD->Option Bool)(i1:Int)(t4:List (List UInt8))(t5:List ax)(t6:Int)(t7:Int)(t8:List iL)(t9:List iV)(t10:List fr)(t11:List (List UInt8)):Nat->Bool->Int->Option Bool
 |0,_,_=>none
 |n+1,O,R=>Iv o v3 v4 q i1 t4 t5 t6 t7 t8 t9 t10 t11 (rp o v3 v4 q i1 t4 t5 t6 t7 t8 t9 t10 t11 n) O R
def Lr(k:Nat)(q:List UInt8)(v3:bY)(O:Int->Int->aD->aK->Int->Int->kU->kZ->kP->aD->Option Bool)(o:Int)(i1:Int)(t4:List (List UInt8))(t5:List ax)(t6:Int)(t7:Int)(t8:List iL)(t9:List iV)(t10:List fr)(t11:List (List UInt8)):Option Bool:=
 if decide (i1<=(List.length t10:Int))then
  (
   Option.bind (jJ k (t4,t5,()) ((t4,t5,()),t6,t7,t8,t9,t10,t11,()) q i1) fun v4=>
   if v4.2 !=(0:Int)then
    some (false)
   else
    rp o v3 v4 O i1 t4 t5 t6 t7 t8 t9 t10 t11 k false (0:Int)
  )
 else
  some (o==(List.length v3.1:Int))
def qe(k:Nat)(o:List UInt8)(v3:bY):Nat->Int->Int->aD->aK->Int->Int->kU->kZ->kP->aD->Option Bool
 |0,_,_,_,_,_,_,_,_,_,_=>none
 |n+1,q,i1,t4,t5,t6,t7,t8,t9,t10,t11=>Lr k o v3 (qe k o v3 n) q i1 t4 t5 t6 t7 t8 t9 t10 t11
def vr(k:Nat)(t1:cR)(o:List UInt8)(t3:Bool):Option Bool:=
 if t3 then
  some (true)
 else
  (
   Option.bind (oR k ((t1.1.1,t1.1.2.1,()),t1.2.1,t1.2.2.1,t1.2.2.2.1,t1.2.2.2.2.1,t1.2.2.2.2.2.1,t1.2.2.2.2.2.2.1,()) o) fun v3=>
   if v3.2 !=(0:Int)then
    some ((List.length v3.1:Int)==(0:Int))
   else
    qe k o v3 k (0:Int) (0:Int) t1.1.1 t1.1.2.1 t1.2.1 t1.2.2.1 t1.2.2.2.1 t1.2.2.2.2.1 t1.2.2.2.2.2.1 t1.2.2.2.2.2.2.1
  )
def Mn(k:Nat)(t1:cR)(o:List UInt8)(t2:Bool):Option Bool:=
 if t2 then
  vr k t1 o true
 else
  (
   Option.bind (uJ k ((t1.1.1,t1.1.2.1,()),t1.2.1,t1.2.2.1,t1.2.2.2.1,t1.2.2.2.2.1,t1.2.2.2.2.2.1,t1.2.2.2.2.2.2.1,()) o) fun v5=>
   vr k t1 o v5
  )
def u6(k:Nat)(t1:cR)(o:List UInt8):Option Bool:=
 Option.bind (qz k) fun v1=>
 if !v1 then
  some (false)
 else
  (
   Option.bind (rN k ((t1.1.1,t1.1.2.1,()),t1.2.1,t1.2.2.1,t1.2.2.2.1,t1.2.2.2.2.1,t1.2.2.2.2.2.1,t1.2.2.2.2.2.2.1,())) fun v2=>
   Mn k t1 o (v2||(decide ((5:Int)<(List.length t1.2.2.2.2.2.1:Int))))
  )
end Go.Ev
namespace Go.Ev
open Go Go.Proofs Go.RowKit
set_option maxRecDepth 100000
set_option maxHeartbeats 1000000
theorem MS:(Tryz.prog.info? 319).map (·.size)=some 2:=by kernel_rfl
theorem Zv:liesAt Tryz.prog Tryz.prog.depth 319 (2/Tryz.prog.cellsOf 319) 0 319 1=true:=by kernel_rfl
theorem SC(b:Nat)(w:World)(q:w.cell? ⟨b,0,none⟩=some (.pointer (some ⟨b,0,none⟩))):
  Calls Tryz.prog 209 #[.pointer (some ⟨b,0,none⟩)] w fun e w'=>e=.returned (.tuple #[])/\w'=w:=by
 obtain⟨j,o,_⟩:=Option.map_eq_some_iff.1 MS
 go_enter Tryz.func209,Tryz.ntmps209
 go_wp2
 rw[Lib.run_neq_ptr_same w _ Tryz.underlying317 o]
 go_wp2
 go_end0
 exact⟨rfl,rfl⟩
theorem V1(b:Nat)(w:World)(R:w.cell? ⟨b,0,none⟩=some (.pointer none))(o:w.shape? b=some (319,2))(U:w.frozen? ⟨b,0,none⟩=false):
  Calls Tryz.prog 209 #[.pointer (some ⟨b,0,none⟩)] w fun e w'=>e=.returned (.tuple #[])/\w'=w.setCell ⟨b,0,none⟩ (.pointer (some ⟨b,0,none⟩)):=by
 obtain⟨j,q,O⟩:=Option.map_eq_some_iff.1 MS
 go_enter Tryz.func209,Tryz.ntmps209
 go_wp2
 rw[Lib.run_to_unsafe w ⟨b,0,none⟩ Tryz.underlying317 Tryz.underlying337 q (by rw[O];decide) o (Nat.zero_lt_succ 1)]
 simp only[Result.andThen]
 rw[Oper.upon_value]
 go_wp2
 rw[run_callFunc_extern Tryz.func214 (by kernel_rfl) (by kernel_rfl) (by kernel_rfl) (e:=Extern.AbiNoEscape.same) (by kernel_rfl)]
 rw[Lib.run_noEscape]
 simp only[Result.andThen]
 rw[Oper.upon_value]
 go_wp2
 rw[Lib.run_from_unsafe w ⟨b,0,none⟩ Tryz.underlying337 Tryz.underlying317 q o Zv]
 simp only[Result.andThen]
 rw[Oper.upon_value]
 go_wp2
 go_end0
 exact⟨rfl,rfl⟩
theorem abw:Tryz.prog.cellsOf 5=1:=by kernel_rfl
theorem Uj(b g cap:Nat)(p:Value)(cur:Array Value)(l:List UInt8)(w:World)(o:l≠[])(O:w.heap[b]? =some (.cells #[p,.slice (some ⟨g,0,none⟩) l.length cap] 319 (0,0)))
  (R:w.heap[g]? =some (.cells cur 5 (0,0)))(la:l.length<=cap)(U:cap<=maxLen)(lb:cur.size=cap)(W:∀(j:Nat) (x:UInt8),l[j]? =some x->cur[j]? =some (Value.int .u8 (x.toNat:Int))):
  Calls Tryz.prog 200 #[.pointer (some ⟨b,0,none⟩)] w fun e w'=>e=.returned (.string ⟨l.toArray⟩)/\w'=w.drew.freeze ⟨g,0,none⟩ l.length:=by
 have lc:0<l.length:=List.length_pos_iff.2 o
 have c1:w.drew.cell? ⟨b,1,none⟩=some (.slice (some ⟨g,0,none⟩) l.length cap):=by
  have:w.drew.heap[b]? =some (.cells #[p,.slice (some ⟨g,0,none⟩) l.length cap] 319 (0,0)):=O
  rw[Lib.cell_of_heap this];rfl
 have ld:(Builtin.unsafeSliceData_ #[134] 334 #[.slice (some ⟨g,0,none⟩) l.length cap]).run Tryz.prog w.drew=.ok (.pointer (some ⟨g,0,none⟩)) w.drew:=
  Lib.run_unsafeSliceData_row _ _ _ _ _ _ (by omega)
 have le:(Builtin.unsafeString_ #[334,3] 9 #[.pointer (some ⟨g,0,none⟩),.int .i64 l.length]).run Tryz.prog w.drew=.ok (.string ⟨l.toArray⟩) (w.drew.freeze ⟨g,0,none⟩ l.length):=by
  have q:w.drew.heap[g]? =some (.cells cur 5 (0,0)):=R
  refine Lib.run_unsafeString_row w.drew 334 3 9 5 Tryz.underlying334 abw g cur.size (by simp[World.shape?,q]) l o (by omega) (by unfold maxLen at U;omega) ?_
  intro j x Y
  have Z:(⟨g,0,none⟩:Addr).add j=⟨g,0+j,none⟩:=by unfold Addr.add;split<;>simp_all
  rw[Z,Lib.cell_of_heap q,Nat.zero_add]
  exact W j x Y
 have mixed:Tryz.prog.follows .mixedOrders=true:=by kernel_rfl
 go_enter Tryz.func200,Tryz.ntmps200
 go_wp2
 go_region_o
 all_goals (go_wp2;go_ret;exact⟨rfl,rfl⟩)
theorem UZ(b:Nat)(p:Value)(w:World)(o:w.heap[b]? =some (.cells #[p,.slice none 0 0] 319 (0,0))):
  Calls Tryz.prog 200 #[.pointer (some ⟨b,0,none⟩)] w fun e w'=>e=.returned (.string ⟨#[]⟩)/\Below w.heap.size w w':=by
 have c1:w.drew.cell? ⟨b,1,none⟩=some (.slice none 0 0):=by
  have:w.drew.heap[b]? =some (.cells #[p,.slice none 0 0] 319 (0,0)):=o
  rw[Lib.cell_of_heap this];rfl
 have q:(Builtin.unsafeSliceData_ #[134] 334 #[.slice none 0 0]).run Tryz.prog w.drew=.ok (.pointer none) w.drew:=rfl
 have O:=Lib.run_unsafeString_none (P:=Tryz.prog) (w:=w.drew) 334 3 9
 have R:(ByteArray.empty)=⟨#[]⟩:=rfl
 have mixed:Tryz.prog.follows .mixedOrders=true:=by kernel_rfl
 go_enter Tryz.func200,Tryz.ntmps200
 go_wp2
 go_region_o
 all_goals (go_wp2;go_ret;exact⟨rfl,(Below.refl _ w).drew⟩)
theorem VD(b g cap:Nat)(p:Value)(w:World)(o:cap≠0)(q:w.heap[b]? =some (.cells #[p,.slice (some ⟨g,0,none⟩) 0 cap] 319 (0,0))):
  Calls Tryz.prog 200 #[.pointer (some ⟨b,0,none⟩)] w fun e w'=>e=.returned (.string ⟨#[]⟩)/\Below w.heap.size w w':=by
 have c1:w.drew.cell? ⟨b,1,none⟩=some (.slice (some ⟨g,0,none⟩) 0 cap):=by
  have:w.drew.heap[b]? =some (.cells #[p,.slice (some ⟨g,0,none⟩) 0 cap] 319 (0,0)):=q
  rw[Lib.cell_of_heap this];rfl
 have O:(Builtin.unsafeSliceData_ #[134] 334 #[.slice (some ⟨g,0,none⟩) 0 cap]).run Tryz.prog w.drew=.ok (.pointer (some ⟨g,0,none⟩)) w.drew:=
  Lib.run_unsafeSliceData_row _ _ _ _ _ _ o
 have R:=Lib.run_unsafeString_none (P:=Tryz.prog) (w:=w.drew) 334 3 9
 have mixed:Tryz.prog.follows .mixedOrders=true:=by kernel_rfl
 go_enter Tryz.func200,Tryz.ntmps200
 go_wp2
 go_region_o
 all_goals (go_wp2;go_ret;exact⟨rfl,(Below.refl _ w).drew⟩)
theorem S5(b g:Nat)(p:Value)(cur:Array Value)(w:World)(o:w.heap[b]? =some (.cells #[p,.slice (some ⟨g,0,none⟩) 0 0] 319 (0,0)))(q:w.heap[g]? =some (.cells cur 5 (0,0))):
  Calls Tryz.prog 200 #[.pointer (some ⟨b,0,none⟩)] w fun e w'=>e=.returned (.string ⟨#[]⟩)/\Below w.heap.size w w':=by
 have O:b<w.heap.size:=(Array.getElem?_eq_some_iff.1 o).1
 have R:w.drew.heap[b]? =some (.cells #[p,.slice (some ⟨g,0,none⟩) 0 0] 319 (0,0)):=o
 have U:w.drew.heap[g]? =some (.cells cur 5 (0,0)):=q
 have c1:w.drew.cell? ⟨b,1,none⟩=some (.slice (some ⟨g,0,none⟩) 0 0):=by
  rw[Lib.cell_of_heap R];rfl
 have c2:(w.drew.alloc (.view ⟨g,0,none⟩ 5)).cell? ⟨b,1,none⟩=some (.slice (some ⟨g,0,none⟩) 0 0):=by
  rw[World.cell?_of_block (w:=w.drew) (Below.heap_alloc w.drew _ b O)];exact c1
 have Z:(Builtin.unsafeSliceData_ #[134] 334 #[.slice (some ⟨g,0,none⟩) 0 0]).run Tryz.prog w.drew=.ok (.pointer (some ⟨w.drew.heap.size,0,none⟩)) (w.drew.alloc (.view ⟨g,0,none⟩ 5)):=
  Lib.run_unsafeSliceData_zero w.drew _ _ _ Tryz.underlying334 _ _ (5,cur.size) (by simp[World.shape?,U])
 have la:=Lib.run_unsafeString_none (P:=Tryz.prog) (w:=w.drew.alloc (.view ⟨g,0,none⟩ 5)) 334 3 9
 have lb:=Lib.run_unsafeString_none (P:=Tryz.prog) (w:=(w.alloc (.view ⟨g,0,none⟩ 5)).drew) 334 3 9
 have c3:w.cell? ⟨b,1,none⟩=some (.slice (some ⟨g,0,none⟩) 0 0):=c1
 have mixed:Tryz.prog.follows .mixedOrders=true:=by kernel_rfl
 have W:Below w.heap.size w (w.drew.alloc (.view ⟨g,0,none⟩ 5)):=⟨rfl,rfl,rfl,by simp,fun k Y=>Below.heap_alloc w.drew _ k Y⟩
 go_enter Tryz.func200,Tryz.ntmps200
 go_wp2
 go_region_o
 all_goals (go_wp2;go_ret;exact⟨rfl,W⟩)
/-! The builder's functions. -/
def mj(k:Nat):b8 (List Int) Unit where
 n:=20
 S:=fun z=>⟨[(0,.ptr 20 0)],[(20,.cells [.fC 20,.row 21] 319)],[(21,⟨5,.int .u8,z⟩)]⟩
 bg:=fun z _=>⟨[],[(20,.cells [.fC 20,.row 21] 319)],[(21,⟨5,.int .u8,z⟩)]⟩
 aq:=fun _ _=>[]
 rel:=fun z y=>yG k z=some y
def uk(k:Nat):b8 (List Int) (List UInt8) where
 n:=14
 S:=fun z=>⟨[(0,.ptr 14 0)],[(14,.cells [.fC 14,.row 15] 319)],[(15,⟨5,.int .u8,z⟩)]⟩
 bg:=fun _ _=>⟨[],[],[]⟩
 aq:=fun _ y=>[bo y]
 rel:=fun z y=>rs k z=some y
theorem Nj{n:Nat}{vs:List Value}{v:Value}(o:vs.length=1)(h:(vs.toArray++Array.replicate (n-vs.toArray.size) undef)[0]? =some v):vs=[v]:=by
 match vs,o with
 |[u],_=>
  rw[Array.getElem?_append_left (by simp)]at h
  simpa using h
theorem aac{w:World}{b i:Nat}{cs:Array Value}{t:TypeId}(h:w.heap[b]? =some (.cells cs t (0,0)))(v:Value):(w.setCell ⟨b,i,none⟩ v).heap[b]? =some (.cells (cs.setIfInBounds i v) t (0,0)):=by
 simp[World.setCell,Array.getElem?_modify,h]
theorem W6{w:World}{b i k:Nat}(v:Value)(h:k≠b):(w.setCell ⟨b,i,none⟩ v).heap[k]? =w.heap[k]? :=by
 simp[World.setCell,Array.getElem?_modify,Ne.symm h]
theorem aaU{G:World->Prop}(k:Nat):cq Tryz.prog G 209 (mj k) where
 enters:=enters_of Tryz.func209 (by kernel_rfl) rfl
 calls:=by
  rintro cx ln Z lo z y lp vs w le ⟨m,R⟩
  obtain⟨v,lf,g,O,rfl⟩:=R.de 0 (.ptr 20 0) List.mem_cons_self
  have lg:=Nj (n:=20) le lf
  subst lg
  have la:(20,b7.cells [.fC 20,.row 21] 319)∈((mj k).S z).ae:=List.mem_cons_self
  obtain⟨o,lb,lq,cells,U,lh⟩:=R.boxes _ _ la
  have:o=g:=by rw[O]at lb;cases lb;rfl
  subst this
  obtain⟨p,u,li,q,W⟩:∃p u,cells.toList=[p,u]/\(p=.pointer none\/p=m 20)/\u=m 21:=by
   match lr:cells.toList,lh with
   |[p,u],⟨q,W,_⟩=>exact⟨p,u,rfl,q,W⟩
  have lj:cells=#[p,u]:=Array.ext' (by rw[li])
  subst lj
  have lc:w.cell? ⟨o,0,none⟩=some p:=by rw[oL U];rfl
  have ls:∀i,i∈af.ids ((mj k).bg z y)↔i∈af.ids ((mj k).S z):=fun i=>Iff.rfl
  have ld:∀{w'},ao cx m ((mj k).S z) ([Value.pointer (some ⟨o,0,none⟩)].toArray++Array.replicate ((mj k).n-[Value.pointer (some ⟨o,0,none⟩)].toArray.size) undef) w'->ao cx m ((mj k).bg z y) ([Value.pointer (some ⟨o,0,none⟩)].toArray++Array.replicate ((mj k).n-[Value.pointer (some ⟨o,0,none⟩)].toArray.size) undef) w':=
   fun h=>h.weaken (fun i aU lk=>by cases lk) (fun p Y=>Y) (fun p Y=>Y) h.keys
  rcases q with q|q
  ·subst q
   refine(V1 o w lc (by simp[World.shape?,U]) (by simp[World.frozen?,U])).mono ?_
   rintro e w' ⟨rfl,rfl⟩
   refine⟨_,m,_,rfl,ld ?_,trivial⟩
   have ll:(w.setCell ⟨o,0,none⟩ (.pointer (some ⟨o,0,none⟩))).heap[o]? =some (.cells #[.pointer (some ⟨o,0,none⟩),u] 319 (0,0)):=aac (i:=0) U _
   have Z:Touch m w 20 (w.setCell ⟨o,0,none⟩ (.pointer (some ⟨o,0,none⟩))):=⟨⟨rfl,rfl,rfl,by simp[World.setCell],fun h=>False.elim h⟩,fun b lt lm=>W6 _ (fun e=>lm (by rw[O,e];rfl))⟩
   have:=R.dr (c:=b7.cells [.fC 20,.row 21] 319) la Z (g:=o) O ⟨_,ll,.inr O.symm,W,trivial⟩
   exact this
  ·refine(SC o w (by rw[lc,q,O])).mono ?_
   rintro e w' ⟨rfl,rfl⟩
   exact⟨_,m,_,rfl,ld R,trivial⟩
theorem aam{w:World}{b n k:Nat}(h:k≠b):(w.freeze ⟨b,0,none⟩ n).heap[k]? =w.heap[k]? :=by
 unfold World.freeze
 split
 ·rfl
 ·simp[Array.getElem?_modify,Ne.symm h]
theorem SW{w:World}{b n:Nat}:(w.freeze ⟨b,0,none⟩ n).heap.size=w.heap.size/\(w.freeze ⟨b,0,none⟩ n).os=w.os/\(w.freeze ⟨b,0,none⟩ n).tape=w.tape/\(w.freeze ⟨b,0,none⟩ n).output=w.output:=by
 unfold World.freeze
 split<;>simp
theorem TX{G:World->Prop}(k:Nat):cq Tryz.prog G 200 (uk k) where
 enters:=enters_of Tryz.func200 (by kernel_rfl) rfl
 calls:=by
  rintro cx lN lO lP z y R vs w lr ⟨m,o⟩
  obtain⟨v,ls,g,lt,rfl⟩:=o.de 0 (.ptr 14 0) List.mem_cons_self
  have lu:=Nj (n:=14) lr ls
  subst lu
  have lv:(14,b7.cells [.fC 14,.row 15] 319)∈((uk k).S z).ae:=List.mem_cons_self
  obtain⟨U,li,lQ,cells,W,lw⟩:=o.boxes _ _ lv
  have:U=g:=by rw[lt]at li;cases li;rfl
  subst this
  obtain⟨p,u,lx,lj,Z⟩:∃p u,cells.toList=[p,u]/\(p=.pointer none\/p=m 14)/\u=m 15:=by
   match lR:cells.toList,lw with
   |[p,u],⟨lj,Z,_⟩=>exact⟨p,u,rfl,lj,Z⟩
  have ly:cells=#[p,u]:=Array.ext' (by rw[lx])
  subst ly
  have lz:(15,(⟨5,.int .u8,z⟩:cV))∈((uk k).S z).rw:=List.mem_cons_self
  obtain⟨le,lA,lB,lC⟩:=o.rows _ _ lz
  have lD:le=z.map (Value.int .u8):=w9 lC
  have R:rs k z=some y:=R
  unfold rs at R
  split at R
  case isFalse=>cases R
  rename_i lE
  cases R
  have done:∀{w':World} {T:Array Value},T.size=cx.n->Frame cx.w0 w' cx.X->ao cx m ((uk k).bg z (fx z)) T w':=fun lF lG=>
   {size:=lF,frame:=lG,outer:=o.outer,de:=(fun i aU q=>by cases q),boxes:=(fun i c q=>by cases q),rows:=(fun i c q=>by cases q),apart:=(fun i j q=>by cases q),keys:=List.nodup_nil,fixed:=(fun i c q=>by cases q),kept:=(fun i c q=>by cases q)}
  have bB:∀{w':World},Below w.heap.size w w'->Frame cx.w0 w' cx.X:=fun O=>o.frame.step ⟨O.os,O.tape,O.output,O.size,fun h=>False.elim h⟩ fun b lk _=>O.block b (Nat.lt_of_lt_of_le lk o.frame.size)
  have Y:(fx z).length=z.length:=by simp[fx]
  have lf:∀(w':World) (M:Nat->Prop),aX w' M m (.string ⟨#[]⟩) (bo (fx [])):=fun w' M=>(eW (w:=w') (M:=M)).2 ⟨rfl,by decide⟩
  have lH:z.length<=maxLen->∀(w':World) (M:Nat->Prop),aX w' M m (.string ⟨(fx z).toArray⟩) (bo (fx z)):=fun o w' M=>(eW (w:=w') (M:=M)).2 ⟨rfl,by rw[Y];exact o⟩
  rcases lA.2 with ⟨la,lI⟩|⟨bx,cap,cur,la,_,ll,lb,lm,lg,lh⟩
  ·rw[Z,la]at W
   have lc:z=[]:=List.eq_nil_of_length_eq_zero lI
   refine(UZ U p w W).mono ?_
   rintro e w' ⟨rfl,O⟩
   subst lc
   exact⟨_,m,_,rfl,done o.size (bB O),lf _ _⟩
  ·have lb:z.length<=cap:=lb
   have lg:cur.size=cap:=lg.trans (Nat.mul_one cap)
   have lh:cur.toList.take z.length=le:=(congrArg (fun n=>List.take n cur.toList) (Nat.mul_one z.length).symm).trans lh
   rw[Z,la]at W
   by_cases lc:z=[]
   ·subst lc
    by_cases ln:cap=0
    ·subst ln
     refine(S5 U bx p cur w W ll).mono ?_
     rintro e w' ⟨rfl,O⟩
     exact⟨_,m,_,rfl,done o.size (bB O),lf _ _⟩
    ·refine(VD U bx cap p w ln W).mono ?_
     rintro e w' ⟨rfl,O⟩
     exact⟨_,m,_,rfl,done o.size (bB O),lf _ _⟩
   ·have lJ:fx z≠[]:=by
     intro e
     have:=congrArg List.length e
     rw[Y]at this
     exact lc (List.eq_nil_of_length_eq_zero this)
    have lK:w.heap[U]? =some (.cells #[p,.slice (some ⟨bx,0,none⟩) (fx z).length cap] 319 (0,0)):=by rw[Y];exact W
    refine(Uj U bx cap p cur (fx z) w lJ lK ll (by rw[Y];exact lb) lm lg ?_).mono ?_
    ·intro j x lo
     have lL:j<z.length:=by rw[<-Y];exact(List.getElem?_eq_some_iff.1 lo).1
     have lp:(dM (fx z))[j]? =some (x.toNat:Int):=by unfold dM;rw[List.getElem?_map,lo];rfl
     rw[lE]at lp
     have lq:le[j]? =some (Value.int .u8 (x.toNat:Int)):=by rw[lD,List.getElem?_map,lp];rfl
     rw[<-lh,List.getElem?_take,if_pos lL]at lq
     rw[<-Array.getElem?_toList]
     exact lq
    ·rintro e w' ⟨rfl,rfl⟩
     obtain⟨f1,f2,f3,f4⟩:=SW (w:=w.drew) (b:=bx) (n:=(fx z).length)
     have ld:=lB bx (by rw[la];rfl)
     refine⟨_,m,_,rfl,done o.size (o.frame.step ⟨f2,f3,f4,by rw[f1];exact Nat.le_refl _,fun h=>False.elim h⟩ fun b lk lM=>?_),lH (Nat.le_trans lb lm) _ _⟩
     refine aam (w:=w.drew) ?_
     rintro rfl
     rcases ld with ld|ld
     ·omega
     ·exact lM ld
end Go.Ev
namespace Go.Ev
open Go
variable [cm]
end Go.Ev
