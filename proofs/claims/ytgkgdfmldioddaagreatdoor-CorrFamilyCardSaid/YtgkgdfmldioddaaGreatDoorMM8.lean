/- Shallow functions, by program. -/
import Derived.Test.YtgkgdfmldioddaaGreatDoorMM4
import Derived.Test.YtgkgdfmldioddaaGreatDoorMM6
import Derived.Test.YtgkgdfmldioddaaGreatDoorMM7
import Derived.Test.YtgkgdfmldioddaaGreatDoorProg
import Derived.WalkKit
import Derived.KernelRfl
import Derived.Lib.Strings
import Derived.Lib.Walk
import Derived.Lib.Builder
import Derived.Lib.UnsafeStr
import Derived.Laws.Externs
import Derived.Shelf.RegionOpenPlain
import Derived.Shelf.SlicesE.Reverse
import Derived.Shelf.SlicesQ.Reverse
import Derived.Sort.MapsRangeIn
import Derived.RangeFuncStops
import Derived.RangeFuncBox
import Derived.RangeFuncNested
import Derived.RangeFuncBound
import Derived.RangeFuncCalls
import Derived.RangeFuncLeaves
import Derived.OwnWalkIn
import Derived.TacticsInMore
import Derived.LoopNIn
import Derived.LoopIn
import Derived.Maps.AppendAt
import Derived.Shelf.SlSortCmp.WholeK
import Derived.Shelf.SlSortCmp.NoneTotal
import Derived.Test.YtgkgdfmldioddaaGreatDoorTyA
set_option linter.unusedSectionVars false
set_option linter.unusedVariables false
set_option linter.unusedSimpArgs false
namespace Go.Ev
open Go
set_option linter.unusedVariables false
def rf(go2:Int->Option Bool)(o:Int)(t10:Bool):Option Bool:=
 if t10 then
  some (true)
 else
  go2 (ai (o+(1:Int)))
def qZ(go2:Int->Option Bool)(o:Int)(O:iW)(t9:Bool):Option Bool:=
 if t9 then
  rf go2 o true
 else
  (
   Option.bind (ao O.2.2.1 o) fun U=>
   rf go2 o (decide ((1000:Int)<(List.length U.1:Int)))
  )
def rQ(go2:Int->Option Bool)(o:Int)(O:iW)(t8:Bool):Option Bool:=
 if t8 then
  qZ go2 o O true
 else
  (
   Option.bind (ao O.2.2.1 o) fun U=>
   qZ go2 o O (decide ((100:Int)<(List.length U.2.2.1:Int)))
  )
def vH(go2:Int->Option Bool)(o:Int)(O:iW)(t7:Bool):Option Bool:=
 if t7 then
  rQ go2 o O true
 else
  (
   Option.bind (ao O.2.2.1 o) fun U=>
   rQ go2 o O (decide ((100:Int)<(List.length U.2.1:Int)))
  )
def yA(o:iW)(go1:Int->aS->aN->fx->Option Bool)(i1:Int)(f2:List (List UInt8))(f3:List av)(f4:List dY)(go2:Int->Option Bool)(O:Int):Option Bool:=
 if decide (O<(List.length o.2.2.1:Int))then
  (
   Option.bind (ao o.2.2.1 O) fun U=>
   vH go2 O o (decide ((20:Int)<(List.length U.2.2.2.1.1:Int))||(decide ((20:Int)<(List.length U.2.2.2.2.1.1:Int))))
  )
 else
  go1 (ai (i1+(1:Int))) f2 f3 f4
def jb(o:iW)(go1:Int->aS->aN->fx->Option Bool)(i1:Int)(f2:List (List UInt8))(f3:List av)(f4:List dY):Nat->Int->Option Bool
 |0,_=>none
 |n+1,O=>yA o go1 i1 f2 f3 f4 (jb o go1 i1 f2 f3 f4 n) O
def uu(k:Nat)(o:iW)(go1:Int->aS->aN->fx->Option Bool)(i1:Int)(f2:List (List UInt8))(f3:List av)(f4:List dY)(t6:Bool):Option Bool:=
 if t6 then
  some (true)
 else
  jb o go1 i1 f2 f3 f4 k (0:Int)
def we(k:Nat)(o:iW)(go1:Int->aS->aN->fx->Option Bool)(i1:Int)(f2:List (List UInt8))(f3:List av)(f4:List dY)(t5:Bool):Option Bool:=
 if t5 then
  uu k o go1 i1 f2 f3 f4 true
 else
  (
   Option.bind (ao f4 i1) fun O=>
   uu k o go1 i1 f2 f3 f4 (decide ((1000:Int)<(List.length O.1:Int)))
  )
def zr(k:Nat)(o:iW)(go1:Int->aS->aN->fx->Option Bool)(i1:Int)(f2:List (List UInt8))(f3:List av)(f4:List dY)(t4:Bool):Option Bool:=
 we k o go1 i1 f2 f3 f4 (t4||(decide ((200:Int)<(List.length o.2.2.1:Int))))
def zp(k:Nat)(go1:Int->aS->aN->fx->Option Bool)(i1:Int)(f2:List (List UInt8))(f3:List av)(f4:List dY):Option Bool:=
 if decide (i1<(List.length f4:Int))then
  (
   Option.bind (ao f4 i1) fun o=>
   zr k o go1 i1 f2 f3 f4 (decide ((4:Int)<(List.length o.2.2.1:Int))&&(decide ((List.length o.2.2.1:Int)<=(64:Int))))
  )
 else
  some (false)
def hZ(k:Nat):Nat->Int->aS->aN->fx->Option Bool
 |0,_,_,_,_=>none
 |n+1,i1,f2,f3,f4=>zp k (hZ k n) i1 f2 f3 f4
def sV(k:Nat)(f1:dq)(t3:Bool):Option Bool:=
 if t3 then
  some (true)
 else
  hZ k k (0:Int) f1.1.1 f1.1.2.1 f1.2.1
def yq(k:Nat)(f1:dq)(t2:Bool):Option Bool:=
 if t2 then
  sV k f1 true
 else
  (
   Option.bind (uJ k (f1.1.1,f1.1.2.1,()) ([]:List aS)) fun v1=>
   sV k f1 v1
  )
def xX(k:Nat)(f1:dq)(t1:Bool):Option Bool:=
 yq k f1 (t1||(decide ((100:Int)<(List.length f1.2.1:Int))))
def r8(k:Nat)(f1:dq):Option Bool:=
 xX k f1 (decide ((8:Int)<(List.length f1.2.1:Int))&&(decide ((List.length f1.2.1:Int)<=(32:Int))))
def oC(k:Nat)(f1:dq)(o:Int)(O:List UInt8):Option eB:=
 Option.bind (jk k ((f1.1.1,f1.1.2.1,()),f1.2.1,()) o O) fun v1=>
 if v1.2 !=(0:Int)then
  some (([]:List UInt8),v1.2)
 else
  some (v1.1,(0:Int))
def tH(go2:Int->Int->(List (List (Int)))->Option eQ)(t2:Int)(o:Int)(O:List (List (Int))):Option eQ:=
 go2 o (ai (t2+(1:Int))) O
def FX(v4:(Int×List cz×Int))(go1:Int->aS->aN->fx->(List (List (Int)))->Option eQ)(t1:Int)(f2:List (List UInt8))(f3:List av)(f4:List dY)(go2:Int->Int->(List (List (Int)))->Option eQ)(o:Int)(t2:Int)(O:List (List (Int))):Option eQ:=
 if decide (t2<(List.length v4.2.1:Int))then
  (
   Option.bind (ao v4.2.1 t2) fun U=>
   if U.1 !=(0:Int)then
    (
     Option.bind (aG (0<=o/\o<(List.length O:Int))) fun _=>
     Option.bind (ao O o) fun W=>
     Option.bind (aG (List.length W+List.length ([U.2.1]:List (Int))<=lim)) fun _=>
     Option.bind (aG (0<=o/\o<(List.length O:Int))) fun _=>
     tH go2 t2 (ai (o+(1:Int))) (List.set O (o).toNat (W++([U.2.1]:List (Int))))
    )
   else
    tH go2 t2 o O
  )
 else
  go1 (ai (t1+(1:Int))) f2 f3 f4 O
def tS(v4:(Int×List cz×Int))(go1:Int->aS->aN->fx->(List (List (Int)))->Option eQ)(t1:Int)(f2:List (List UInt8))(f3:List av)(f4:List dY):Nat->Int->Int->(List (List (Int)))->Option eQ
 |0,_,_,_=>none
 |n+1,o,t2,O=>FX v4 go1 t1 f2 f3 f4 (tS v4 go1 t1 f2 f3 f4 n) o t2 O
def In(k:Nat)(f1:dq)(o:List UInt8)(go1:Int->aS->aN->fx->(List (List (Int)))->Option eQ)(t1:Int)(f2:List (List UInt8))(f3:List av)(f4:List dY)(O:List (List (Int))):Option eQ:=
 if decide (t1<(List.length f1.2.1:Int))then
  (
   Option.bind (oC k ((f2,f3,()),f4,()) t1 o) fun v3=>
   if v3.2 !=(0:Int)then
    some (([]:List (List (Int))),v3.2)
   else
    (
     Option.bind (mc k (f2,f3,()) o v3.1) fun v4=>
     if v4.2.2 !=(0:Int)then
      some (([]:List (List (Int))),v4.2.2)
     else
      tS v4 go1 t1 f2 f3 f4 k (0:Int) (0:Int) O
    )
  )
 else
  some (O,(0:Int))
def rC(k:Nat)(f1:dq)(o:List UInt8):Nat->Int->aS->aN->fx->(List (List (Int)))->Option eQ
 |0,_,_,_,_,_=>none
 |n+1,t1,f2,f3,f4,O=>In k f1 o (rC k f1 o n) t1 f2 f3 f4 O
def xW(k:Nat)(f1:dq)(o:List UInt8):Option eQ:=
 Option.bind (ge k ((f1.1.1,f1.1.2.1,()),f1.2.1,())) fun v1=>
 if v1 !=(0:Int)then
  some (([]:List (List (Int))),v1)
 else
  (
   Option.bind (gS k (f1.1.1,f1.1.2.1,()) o) fun v2=>
   if v2.2 !=(0:Int)then
    some (([]:List (List (Int))),v2.2)
   else
    (
     Option.bind (aG (0<=(List.length v2.1:Int)/\(List.length v2.1:Int)<=(List.length v2.1:Int)/\(List.length v2.1:Int)<=(lim:Int))) fun _=>
     rC k f1 o k (0:Int) f1.1.1 f1.1.2.1 f1.2.1 (List.replicate ((List.length v2.1:Int)).toNat ([]:List (Int)))
    )
  )
def As(k:Nat)(l1:List aS)(O:aV)(go1:Int->nq->Option qO)(t2:Int)(o:List bA):Option qO:=
 if decide (t2<(List.length l1:Int))then
  (
   Option.bind (ao l1 t2) fun U=>
   Option.bind (aG (0<=(0:Int)/\(0:Int)<(2:Int))) fun _=>
   Option.bind (ao U (0:Int)) fun W=>
   Option.bind (aG (0<=(1:Int)/\(1:Int)<(2:Int))) fun _=>
   Option.bind (ao U (1:Int)) fun Y=>
   Option.bind (mc k (O.1,O.2.1,()) W Y) fun v2=>
   if v2.2.2 !=(0:Int)then
    some (v2.2.2,([]:List bA))
   else
    (
     Option.bind (aG (List.length o+List.length ([v2.2.1]:List bA)<=lim)) fun _=>
     go1 (ai (t2+(1:Int))) (o++([v2.2.1]:List bA))
    )
  )
 else
  some ((0:Int),o)
def oJ(k:Nat)(l1:List aS)(o:aV):Nat->Int->nq->Option qO
 |0,_,_=>none
 |n+1,t2,O=>As k l1 o (oJ k l1 o n) t2 O
def sq(k:Nat)(o:aV)(l1:List aS):Option qO:=
 Option.bind (fL k (o.1,o.2.1,())) fun v1=>
 if v1 !=(0:Int)then
  some (v1,([]:List bA))
 else
  (
   if decide ((4096:Int)<(List.length l1:Int))then
    some ((4:Int),([]:List bA))
   else
    oJ k l1 o k (0:Int) ([]:List bA)
  )
def Kl(O:List cz)(go1:Int->aS->aN->iq->nq->Option gJ)(t2:Int)(a2:List (List UInt8))(a3:List av)(t3:List bA)(go2:Int->iq->Option gJ)(t4:Int)(m2:List gZ):Option gJ:=
 if decide (t4<(List.length O:Int))then
  (
   Option.bind (ao O t4) fun o=>
   go2 (ai (t4+(1:Int))) (cb (aD dU) m2 (o.1,o.2.1,()) (ai (((bn (aD dU) m2 (o.1,o.2.1,())).getD (0:Int))+(1:Int))))
  )
 else
  go1 (ai (t2+(1:Int))) a2 a3 m2 t3
def sU(o:List cz)(go1:Int->aS->aN->iq->nq->Option gJ)(t2:Int)(a2:List (List UInt8))(a3:List av)(t3:List bA):Nat->Int->iq->Option gJ
 |0,_,_=>none
 |n+1,t4,m2=>Kl o go1 t2 a2 a3 t3 (sU o go1 t2 a2 a3 t3 n) t4 m2
def IQ(v2:List cz)(m1:List gZ)(t3:List bA)(U:Int->fZ->Option gJ)(t6:Int)(O:List eN):Option gJ:=
 if decide (t6<(List.length v2:Int))then
  (
   Option.bind (ao v2 t6) fun o=>
   Option.bind (aG (List.length O+List.length ([((o.1,o.2.1,()),(bn (aD dU) m1 (o.1,o.2.1,())).getD (0:Int),())]:List eN)<=lim)) fun _=>
   U (ai (t6+(1:Int))) (O++([((o.1,o.2.1,()),(bn (aD dU) m1 (o.1,o.2.1,())).getD (0:Int),())]:List eN))
  )
 else
  some (O,t3)
def vg(v2:List cz)(m1:List gZ)(t3:List bA):Nat->Int->fZ->Option gJ
 |0,_,_=>none
 |n+1,t6,o=>IQ v2 m1 t3 (vg v2 m1 t3 n) t6 o
def J1(k:Nat)(a3:List av)(m1:List gZ)(t3:List bA)(o:Int->gq->Option gJ)(t5:Int)(m3:List (Int×Int)):Option gJ:=
 if decide (t5<(List.length a3:Int))then
  (
   Option.bind (ao a3 t5) fun O=>
   o (ai (t5+(1:Int))) (cb (aD (.int .i32)) m3 O.1 (ai (t5+(1:Int))))
  )
 else
  (
   Option.bind (r7 k m1) fun v1=>
   Option.bind (k8 k m1 m3) fun v2=>
   vg v2 m1 t3 k (0:Int) ([]:List eN)
  )
def tV(k:Nat)(a3:List av)(m1:List gZ)(t3:List bA):Nat->Int->gq->Option gJ
 |0,_,_=>none
 |n+1,t5,m3=>J1 k a3 m1 t3 (tV k a3 m1 t3 n) t5 m3
def Jg(k:Nat)(l1:List bA)(go1:Int->aS->aN->iq->nq->Option gJ)(t2:Int)(a2:List (List UInt8))(a3:List av)(m1:List gZ)(t3:List bA):Option gJ:=
 if decide (t2<(List.length l1:Int))then
  (
   Option.bind (ao t3 t2) fun o=>
   sU o go1 t2 a2 a3 t3 k (0:Int) m1
  )
 else
  tV k a3 m1 t3 k (0:Int) ([]:List (Int×Int))
def sh(k:Nat)(l1:List bA):Nat->Int->aS->aN->iq->nq->Option gJ
 |0,_,_,_,_,_=>none
 |n+1,t2,a2,a3,m1,t3=>Jg k l1 (sh k l1 n) t2 a2 a3 m1 t3
def pp(k:Nat)(o:aV)(l1:List bA):Option gJ:=
 sh k l1 k (0:Int) o.1 o.2.1 ([]:List gZ) l1
def oP(k:Nat)(o:aV)(l1:List aS):Option iF:=
 Option.bind (sq k (o.1,o.2.1,()) l1) fun v1=>
 if v1.1 !=(0:Int)then
  some (v1.1,([]:List eN))
 else
  (
   Option.bind (pp k (o.1,o.2.1,()) v1.2) fun v2=>
   some ((0:Int),v2.1)
  )
def FJ(o:List aS)(v2:eB)(v3:eB)(go1:Int->pT->Option jW)(t2:Int)(t3:Bool):Option jW:=
 if t3 then
  some (([]:List eN),(4:Int))
 else
  (
   Option.bind (aG (List.length o+List.length ([([v2.1,v3.1]:List (List UInt8))]:List aS)<=lim)) fun _=>
   go1 (ai (t2+(1:Int))) (o++([([v2.1,v3.1]:List (List UInt8))]:List aS))
  )
def Ry(k:Nat)(l1:List (List UInt8))(f1:dq)(W:Int)(Y:Int)(go1:Int->pT->Option jW)(t2:Int)(o:List aS):Option jW:=
 if decide (t2<(List.length l1:Int))then
  (
   Option.bind (ao l1 t2) fun O=>
   Option.bind (oC k ((f1.1.1,f1.1.2.1,()),f1.2.1,()) W O) fun v2=>
   if v2.2 !=(0:Int)then
    some (([]:List eN),v2.2)
   else
    (
     Option.bind (oC k ((f1.1.1,f1.1.2.1,()),f1.2.1,()) Y O) fun v3=>
     if v3.2 !=(0:Int)then
      some (([]:List eN),v3.2)
     else
      (
       Option.bind (kD k (f1.1.1,f1.1.2.1,()) v2.1) fun v4=>
       if v4 !=(0:Int)then
        FJ o v2 v3 go1 t2 true
       else
        (
         Option.bind (kD k (f1.1.1,f1.1.2.1,()) v3.1) fun v5=>
         FJ o v2 v3 go1 t2 (v5 !=(0:Int))
        )
      )
    )
  )
 else
  (
   Option.bind (oP k (f1.1.1,f1.1.2.1,()) o) fun U=>
   some (U.2,U.1)
  )
def Fs(k:Nat)(l1:List (List UInt8))(f1:dq)(o:Int)(O:Int):Nat->Int->pT->Option jW
 |0,_,_=>none
 |n+1,t2,U=>Ry k l1 f1 o O (Fs k l1 f1 o O n) t2 U
def Vp(k:Nat)(l1:List (List UInt8))(f1:dq)(o:Int)(O:Int)(t1:Bool):Option jW:=
 if t1 then
  some (([]:List eN),(8:Int))
 else
  (
   if decide ((4096:Int)<(List.length l1:Int))then
    some (([]:List eN),(4:Int))
   else
    Fs k l1 f1 o O k (0:Int) ([]:List aS)
  )
def Py(k:Nat)(f1:dq)(o:Int)(O:Int)(l1:List (List UInt8)):Option jW:=
 Option.bind (ge k ((f1.1.1,f1.1.2.1,()),f1.2.1,())) fun v1=>
 if v1 !=(0:Int)then
  some (([]:List eN),v1)
 else
  Vp k l1 f1 o O (decide ((cC o O)<(0:Int))||(decide ((List.length f1.2.1:Int)<=(mu o O))))
def vf(o:List aS)(v2:eB)(v3:eB)(go1:Int->pT->Option iF)(t3:Int)(t4:Bool):Option iF:=
 if t4 then
  some ((4:Int),([]:List eN))
 else
  (
   Option.bind (aG (List.length o+List.length ([([v2.1,v3.1]:List (List UInt8))]:List aS)<=lim)) fun _=>
   go1 (ai (t3+(1:Int))) (o++([([v2.1,v3.1]:List (List UInt8))]:List aS))
  )
def FD(k:Nat)(l1:List (List UInt8))(f1:dq)(W:Int)(Y:Int)(go1:Int->pT->Option iF)(t3:Int)(o:List aS):Option iF:=
 if decide (t3<(List.length l1:Int))then
  (
   Option.bind (ao l1 t3) fun O=>
   Option.bind (oC k ((f1.1.1,f1.1.2.1,()),f1.2.1,()) W O) fun v2=>
   if v2.2 !=(0:Int)then
    some (v2.2,([]:List eN))
   else
    (
     Option.bind (oC k ((f1.1.1,f1.1.2.1,()),f1.2.1,()) Y O) fun v3=>
     if v3.2 !=(0:Int)then
      some (v3.2,([]:List eN))
     else
      (
       Option.bind (kD k (f1.1.1,f1.1.2.1,()) v2.1) fun v4=>
       if v4 !=(0:Int)then
        vf o v2 v3 go1 t3 true
       else
        (
         Option.bind (kD k (f1.1.1,f1.1.2.1,()) v3.1) fun v5=>
         vf o v2 v3 go1 t3 (v5 !=(0:Int))
        )
      )
    )
  )
 else
  (
   Option.bind (oP k (f1.1.1,f1.1.2.1,()) o) fun U=>
   some (U.1,U.2)
  )
def pi(k:Nat)(l1:List (List UInt8))(f1:dq)(o:Int)(O:Int):Nat->Int->pT->Option iF
 |0,_,_=>none
 |n+1,t3,U=>FD k l1 f1 o O (pi k l1 f1 o O n) t3 U
def Io(k:Nat)(l1:List (List UInt8))(f1:dq)(o:Int)(O:Int)(t2:Bool):Option iF:=
 if t2 then
  some ((8:Int),([]:List eN))
 else
  (
   if decide ((4096:Int)<(List.length l1:Int))then
    some ((4:Int),([]:List eN))
   else
    pi k l1 f1 o O k (0:Int) ([]:List aS)
  )
def sa(k:Nat)(f1:dq)(o:Int)(O:Int)(l1:List (List UInt8)):Option iF:=
 Option.bind (ge k ((f1.1.1,f1.1.2.1,()),f1.2.1,())) fun v1=>
 if v1 !=(0:Int)then
  some (v1,([]:List eN))
 else
  Io k l1 f1 o O (decide ((cC o O)<(0:Int))||(decide ((List.length f1.2.1:Int)<=(mu o O))))
def JO(t2:Bool):Option Bool:=
 some (t2)
def xZ(go1:Int->Option Bool)(o:Int)(t4:Bool):Option Bool:=
 if t4 then
  some (false)
 else
  go1 (ai (o+(1:Int)))
def sm(o:Int->Int->aS->aN->fx->(List (Int))->Option Bool)(O:Int)(dS:Int)(f11:List (List UInt8))(f12:List av)(f13:List dY)(t6:List (Int)):Option Bool:=
 o dS (ai (O+(1:Int))) f11 f12 f13 t6
def J7(o:Int->Int->aS->aN->fx->(List (Int))->Option Bool)(O:Int)(U:Int)(f8:List (List UInt8))(f9:List av)(f10:List dY)(t5:List (Int))(t8:Bool):Option Bool:=
 if t8 then
  some (false)
 else
  sm o O (ai (U+(1:Int))) f8 f9 f10 t5
def yw(O:Int->Option Bool)(o:Int)(U:Int->Int->aS->aN->fx->(List (Int))->Option Bool)(W:Int)(f8:List (List UInt8))(f9:List av)(f10:List dY)(t5:List (Int))(Y:eB)(t7:Bool):Option Bool:=
 if t7 then
  O (ai (o+(1:Int)))
 else
  J7 U W o f8 f9 f10 t5 ((Y.2 !=(0:Int))||(o==(List.length t5:Int)))
def Mv(t5:List (Int))(v3:eQ)(O:Int)(i1:Int)(U:Int->Int->aS->aN->fx->(List (Int))->Option Bool)(f8:List (List UInt8))(f9:List av)(f10:List dY)(W:eB)(Y:Int->Option Bool)(o:Int):Option Bool:=
 if decide (o<(List.length t5:Int))then
  (
   Option.bind (ao t5 o) fun Z=>
   Option.bind (ao v3.1 O) fun la=>
   Option.bind (ao la i1) fun lc=>
   yw Y o U O f8 f9 f10 t5 W (Z !=lc)
  )
 else
  yw Y o U O f8 f9 f10 t5 W false
def vq(t5:List (Int))(v3:eQ)(o:Int)(i1:Int)(O:Int->Int->aS->aN->fx->(List (Int))->Option Bool)(f8:List (List UInt8))(f9:List av)(f10:List dY)(U:eB):Nat->Int->Option Bool
 |0,_=>none
 |n+1,W=>Mv t5 v3 o i1 O f8 f9 f10 U (vq t5 v3 o i1 O f8 f9 f10 U n) W
def KW(k:Nat)(v5:dI)(v3:eQ)(i1:Int)(W:eB)(go2:Int->aS->aN->fx->Option Bool)(O:Int->Int->aS->aN->fx->(List (Int))->Option Bool)(U:Int)(o:Int)(f8:List (List UInt8))(f9:List av)(f10:List dY)(t5:List (Int)):Option Bool:=
 if decide (o<(List.length v5.1:Int))then
  (
   Option.bind (ao v3.1 o) fun Y=>
   Option.bind (ao Y i1) fun Z=>
   if Z==(0:Int)then
    sm O o U f8 f9 f10 t5
   else
    vq t5 v3 o i1 O f8 f9 f10 W k U
  )
 else
  go2 (ai (i1+(1:Int))) f8 f9 f10
def tm(k:Nat)(v5:dI)(v3:eQ)(i1:Int)(o:eB)(go2:Int->aS->aN->fx->Option Bool):Nat->Int->Int->aS->aN->fx->(List (Int))->Option Bool
 |0,_,_,_,_,_,_=>none
 |n+1,O,U,f8,f9,f10,t5=>KW k v5 v3 i1 o go2 (tm k v5 v3 i1 o go2 n) O U f8 f9 f10 t5
def HU(k:Nat)(O:List UInt8)(v5:dI)(v3:eQ)(v1:Bool)(go2:Int->aS->aN->fx->Option Bool)(i1:Int)(f5:List (List UInt8))(f6:List av)(f7:List dY):Option Bool:=
 if decide (i1<(List.length f7:Int))then
  (
   Option.bind (jk k ((f5,f6,()),f7,()) i1 O) fun o=>
   Option.bind (aG (List.length o.1<=lim)) fun _=>
   tm k v5 v3 i1 o go2 k (0:Int) (0:Int) f5 f6 f7 (gi o.1)
  )
 else
  some (v1)
def rZ(k:Nat)(o:List UInt8)(v5:dI)(v3:eQ)(v1:Bool):Nat->Int->aS->aN->fx->Option Bool
 |0,_,_,_,_=>none
 |n+1,i1,f5,f6,f7=>HU k o v5 v3 v1 (rZ k o v5 v3 v1 n) i1 f5 f6 f7
def MT(k:Nat)(v5:dI)(v3:eQ)(f4:List dY)(U:List UInt8)(v1:Bool)(f2:List (List UInt8))(f3:List av)(go1:Int->Option Bool)(o:Int):Option Bool:=
 if decide (o<(List.length v5.1:Int))then
  (
   Option.bind (ao v3.1 o) fun O=>
   if(List.length O:Int)!=(List.length f4:Int)then
    xZ go1 o true
   else
    (
     Option.bind (ao O (0:Int)) fun W=>
     Option.bind (ao v5.1 o) fun Y=>
     xZ go1 o (W !=Y)
    )
  )
 else
  rZ k U v5 v3 v1 k (0:Int) f2 f3 f4
def so(k:Nat)(v5:dI)(v3:eQ)(f4:List dY)(o:List UInt8)(v1:Bool)(f2:List (List UInt8))(f3:List av):Nat->Int->Option Bool
 |0,_=>none
 |n+1,O=>MT k v5 v3 f4 o v1 f2 f3 (so k v5 v3 f4 o v1 f2 f3 n) O
def GB(k:Nat)(v5:dI)(v3:eQ)(f4:List dY)(o:List UInt8)(v1:Bool)(f2:List (List UInt8))(f3:List av)(t3:Bool):Option Bool:=
 if t3 then
  some (false)
 else
  so k v5 v3 f4 o v1 f2 f3 k (0:Int)
def ut(k:Nat)(v3:eQ)(v1:Bool)(o:List UInt8)(f2:List (List UInt8))(f3:List av)(f4:List dY):Option Bool:=
 if v3.2 !=(0:Int)then
  JO (v1&&((List.length v3.1:Int)==(0:Int)))
 else
  (
   Option.bind (gS k (f2,f3,()) o) fun v5=>
   GB k v5 v3 f4 o v1 f2 f3 ((v5.2 !=(0:Int))||((List.length v3.1:Int)!=(List.length v5.1:Int)))
  )
def Gb(k:Nat)(v3:eQ)(v1:Bool)(o:List UInt8)(f1:dq)(t10:Bool):Option Bool:=
 if t10 then
  some (false)
 else
  ut k v3 v1 o f1.1.1 f1.1.2.1 f1.2.1
def EL(k:Nat)(v3:eQ)(v1:Bool)(o:List UInt8)(f1:dq)(O:Int)(U:dI)(t9:Bool):Option Bool:=
 Gb k v3 v1 o f1 (t9||(O !=(List.length U.1:Int)))
def JJ(k:Nat)(v4:iF)(v3:eQ)(v1:Bool)(Y:List UInt8)(f1:dq)(U:dI)(Z:eB)(la:Int->Int->Option Bool)(W:Int)(o:Int):Option Bool:=
 if decide (o<(List.length v4.2:Int))then
  (
   Option.bind (ao v4.2 o) fun O=>
   if O.1.1 !=O.1.2.1 then
    some (false)
   else
    la (ai (W+O.2.1)) (ai (o+(1:Int)))
  )
 else
  EL k v3 v1 Y f1 W U ((Z.2 !=(0:Int))||(U.2 !=(0:Int)))
def tw(k:Nat)(v4:iF)(v3:eQ)(v1:Bool)(o:List UInt8)(f1:dq)(O:dI)(U:eB):Nat->Int->Int->Option Bool
 |0,_,_=>none
 |n+1,W,Y=>JJ k v4 v3 v1 o f1 O U (tw k v4 v3 v1 o f1 O U n) W Y
def KX(k:Nat)(v1:Bool)(f1:dq)(o:List UInt8)(O:Int)(t1:Bool):Option Bool:=
 if t1 then
  some (v1)
 else
  (
   Option.bind (xW k ((f1.1.1,f1.1.2.1,()),f1.2.1,()) o) fun v3=>
   Option.bind (sa k ((f1.1.1,f1.1.2.1,()),f1.2.1,()) O O ([o]:List (List UInt8))) fun v4=>
   if v4.1==(0:Int)then
    (
     Option.bind (jk k ((f1.1.1,f1.1.2.1,()),f1.2.1,()) O o) fun U=>
     Option.bind (gS k (f1.1.1,f1.1.2.1,()) U.1) fun W=>
     tw k v4 v3 v1 o f1 W U k (0:Int) (0:Int)
    )
   else
    ut k v3 v1 o f1.1.1 f1.1.2.1 f1.2.1
  )
def ud(k:Nat)(f1:dq)(O:Int)(o:List UInt8):Option Bool:=
 Option.bind (Dz k) fun v1=>
 Option.bind (r8 k ((f1.1.1,f1.1.2.1,()),f1.2.1,())) fun v2=>
 KX k v1 f1 o O (v2||(decide ((1000:Int)<(List.length o:Int))))
end Go.Ev
namespace Go.Ev
open Go Go.Proofs Go.RowKit
set_option maxRecDepth 100000
set_option maxHeartbeats 1000000
theorem Gv:(Tryz.prog.info? 111).map (·.size)=some 2:=by kernel_rfl
theorem U8:liesAt Tryz.prog Tryz.prog.depth 111 (2/Tryz.prog.cellsOf 111) 0 111 1=true:=by kernel_rfl
theorem Ut(b:Nat)(w:World)(O:w.cell? ⟨b,0,none⟩=some (.pointer (some ⟨b,0,none⟩))):
  Calls Tryz.prog 80 #[.pointer (some ⟨b,0,none⟩)] w fun e w'=>e=.returned (.tuple #[])/\w'=w:=by
 obtain⟨j,o,_⟩:=Option.map_eq_some_iff.1 Gv
 go_enter Tryz.func80,Tryz.ntmps80
 go_wp2
 rw[Lib.run_neq_ptr_same w _ Tryz.underlying108 o]
 go_wp2
 go_end0
 exact⟨rfl,rfl⟩
theorem Qd(b:Nat)(w:World)(W:w.cell? ⟨b,0,none⟩=some (.pointer none))(o:w.shape? b=some (111,2))(Y:w.frozen? ⟨b,0,none⟩=false):
  Calls Tryz.prog 80 #[.pointer (some ⟨b,0,none⟩)] w fun e w'=>e=.returned (.tuple #[])/\w'=w.setCell ⟨b,0,none⟩ (.pointer (some ⟨b,0,none⟩)):=by
 obtain⟨j,O,U⟩:=Option.map_eq_some_iff.1 Gv
 go_enter Tryz.func80,Tryz.ntmps80
 go_wp2
 rw[Lib.run_to_unsafe w ⟨b,0,none⟩ Tryz.underlying108 Tryz.underlying186 O (by rw[U];decide) o (Nat.zero_lt_succ 1)]
 simp only[Result.andThen]
 rw[Oper.upon_value]
 go_wp2
 rw[run_callFunc_extern Tryz.func108 (by kernel_rfl) (by kernel_rfl) (by kernel_rfl) (e:=Extern.AbiNoEscape.same) (by kernel_rfl)]
 rw[Lib.run_noEscape]
 simp only[Result.andThen]
 rw[Oper.upon_value]
 go_wp2
 rw[Lib.run_from_unsafe w ⟨b,0,none⟩ Tryz.underlying186 Tryz.underlying108 O o U8]
 simp only[Result.andThen]
 rw[Oper.upon_value]
 go_wp2
 go_end0
 exact⟨rfl,rfl⟩
theorem Vq:Tryz.prog.cellsOf 5=1:=by kernel_rfl
theorem RB(b g cap:Nat)(p:Value)(cur:Array Value)(l:List UInt8)(w:World)(o:l≠[])(U:w.heap[b]? =some (.cells #[p,.slice (some ⟨g,0,none⟩) l.length cap] 111 (0,0)))
  (W:w.heap[g]? =some (.cells cur 5 (0,0)))(ld:l.length<=cap)(Y:cap<=maxLen)(lf:cur.size=cap)(Z:∀(j:Nat) (x:UInt8),l[j]? =some x->cur[j]? =some (Value.int .u8 (x.toNat:Int))):
  Calls Tryz.prog 56 #[.pointer (some ⟨b,0,none⟩)] w fun e w'=>e=.returned (.string ⟨l.toArray⟩)/\w'=w.drew.freeze ⟨g,0,none⟩ l.length:=by
 have lg:0<l.length:=List.length_pos_iff.2 o
 have c1:w.drew.cell? ⟨b,1,none⟩=some (.slice (some ⟨g,0,none⟩) l.length cap):=by
  have:w.drew.heap[b]? =some (.cells #[p,.slice (some ⟨g,0,none⟩) l.length cap] 111 (0,0)):=U
  rw[Lib.cell_of_heap this];rfl
 have lh:(Builtin.unsafeSliceData_ #[109] 159 #[.slice (some ⟨g,0,none⟩) l.length cap]).run Tryz.prog w.drew=.ok (.pointer (some ⟨g,0,none⟩)) w.drew:=
  Lib.run_unsafeSliceData_row _ _ _ _ _ _ (by omega)
 have li:(Builtin.unsafeString_ #[159,3] 9 #[.pointer (some ⟨g,0,none⟩),.int .i64 l.length]).run Tryz.prog w.drew=.ok (.string ⟨l.toArray⟩) (w.drew.freeze ⟨g,0,none⟩ l.length):=by
  have O:w.drew.heap[g]? =some (.cells cur 5 (0,0)):=W
  refine Lib.run_unsafeString_row w.drew 159 3 9 5 Tryz.underlying159 Vq g cur.size (by simp[World.shape?,O]) l o (by omega) (by unfold maxLen at Y;omega) ?_
  intro j x la
  have lc:(⟨g,0,none⟩:Addr).add j=⟨g,0+j,none⟩:=by unfold Addr.add;split<;>simp_all
  rw[lc,Lib.cell_of_heap O,Nat.zero_add]
  exact Z j x la
 have mixed:Tryz.prog.follows .mixedOrders=true:=by kernel_rfl
 go_enter Tryz.func56,Tryz.ntmps56
 go_wp2
 go_region_o
 all_goals (go_wp2;go_ret;exact⟨rfl,rfl⟩)
theorem V4(b:Nat)(p:Value)(w:World)(o:w.heap[b]? =some (.cells #[p,.slice none 0 0] 111 (0,0))):
  Calls Tryz.prog 56 #[.pointer (some ⟨b,0,none⟩)] w fun e w'=>e=.returned (.string ⟨#[]⟩)/\Below w.heap.size w w':=by
 have c1:w.drew.cell? ⟨b,1,none⟩=some (.slice none 0 0):=by
  have:w.drew.heap[b]? =some (.cells #[p,.slice none 0 0] 111 (0,0)):=o
  rw[Lib.cell_of_heap this];rfl
 have O:(Builtin.unsafeSliceData_ #[109] 159 #[.slice none 0 0]).run Tryz.prog w.drew=.ok (.pointer none) w.drew:=rfl
 have U:=Lib.run_unsafeString_none (P:=Tryz.prog) (w:=w.drew) 159 3 9
 have W:(ByteArray.empty)=⟨#[]⟩:=rfl
 have mixed:Tryz.prog.follows .mixedOrders=true:=by kernel_rfl
 go_enter Tryz.func56,Tryz.ntmps56
 go_wp2
 go_region_o
 all_goals (go_wp2;go_ret;exact⟨rfl,(Below.refl _ w).drew⟩)
theorem Pk(b g cap:Nat)(p:Value)(w:World)(o:cap≠0)(O:w.heap[b]? =some (.cells #[p,.slice (some ⟨g,0,none⟩) 0 cap] 111 (0,0))):
  Calls Tryz.prog 56 #[.pointer (some ⟨b,0,none⟩)] w fun e w'=>e=.returned (.string ⟨#[]⟩)/\Below w.heap.size w w':=by
 have c1:w.drew.cell? ⟨b,1,none⟩=some (.slice (some ⟨g,0,none⟩) 0 cap):=by
  have:w.drew.heap[b]? =some (.cells #[p,.slice (some ⟨g,0,none⟩) 0 cap] 111 (0,0)):=O
  rw[Lib.cell_of_heap this];rfl
 have U:(Builtin.unsafeSliceData_ #[109] 159 #[.slice (some ⟨g,0,none⟩) 0 cap]).run Tryz.prog w.drew=.ok (.pointer (some ⟨g,0,none⟩)) w.drew:=
  Lib.run_unsafeSliceData_row _ _ _ _ _ _ o
 have W:=Lib.run_unsafeString_none (P:=Tryz.prog) (w:=w.drew) 159 3 9
 have mixed:Tryz.prog.follows .mixedOrders=true:=by kernel_rfl
 go_enter Tryz.func56,Tryz.ntmps56
 go_wp2
 go_region_o
 all_goals (go_wp2;go_ret;exact⟨rfl,(Below.refl _ w).drew⟩)
theorem VZ(b g:Nat)(p:Value)(cur:Array Value)(w:World)(o:w.heap[b]? =some (.cells #[p,.slice (some ⟨g,0,none⟩) 0 0] 111 (0,0)))(O:w.heap[g]? =some (.cells cur 5 (0,0))):
  Calls Tryz.prog 56 #[.pointer (some ⟨b,0,none⟩)] w fun e w'=>e=.returned (.string ⟨#[]⟩)/\Below w.heap.size w w':=by
 have U:b<w.heap.size:=(Array.getElem?_eq_some_iff.1 o).1
 have W:w.drew.heap[b]? =some (.cells #[p,.slice (some ⟨g,0,none⟩) 0 0] 111 (0,0)):=o
 have Y:w.drew.heap[g]? =some (.cells cur 5 (0,0)):=O
 have c1:w.drew.cell? ⟨b,1,none⟩=some (.slice (some ⟨g,0,none⟩) 0 0):=by
  rw[Lib.cell_of_heap W];rfl
 have c2:(w.drew.alloc (.view ⟨g,0,none⟩ 5)).cell? ⟨b,1,none⟩=some (.slice (some ⟨g,0,none⟩) 0 0):=by
  rw[World.cell?_of_block (w:=w.drew) (Below.heap_alloc w.drew _ b U)];exact c1
 have la:(Builtin.unsafeSliceData_ #[109] 159 #[.slice (some ⟨g,0,none⟩) 0 0]).run Tryz.prog w.drew=.ok (.pointer (some ⟨w.drew.heap.size,0,none⟩)) (w.drew.alloc (.view ⟨g,0,none⟩ 5)):=
  Lib.run_unsafeSliceData_zero w.drew _ _ _ Tryz.underlying159 _ _ (5,cur.size) (by simp[World.shape?,Y])
 have lc:=Lib.run_unsafeString_none (P:=Tryz.prog) (w:=w.drew.alloc (.view ⟨g,0,none⟩ 5)) 159 3 9
 have ld:=Lib.run_unsafeString_none (P:=Tryz.prog) (w:=(w.alloc (.view ⟨g,0,none⟩ 5)).drew) 159 3 9
 have c3:w.cell? ⟨b,1,none⟩=some (.slice (some ⟨g,0,none⟩) 0 0):=c1
 have mixed:Tryz.prog.follows .mixedOrders=true:=by kernel_rfl
 have Z:Below w.heap.size w (w.drew.alloc (.view ⟨g,0,none⟩ 5)):=⟨rfl,rfl,rfl,by simp,fun k hk=>Below.heap_alloc w.drew _ k hk⟩
 go_enter Tryz.func56,Tryz.ntmps56
 go_wp2
 go_region_o
 all_goals (go_wp2;go_ret;exact⟨rfl,Z⟩)
/-! The builder's functions. -/
def mV(k:Nat):cJ (List Int) Unit where
 n:=20
 S:=fun z=>⟨[(0,.ptr 20 0)],[(20,.cells [.fw 20,.row 21] 111)],[(21,⟨5,.int .u8,z⟩)]⟩
 be:=fun z _=>⟨[],[(20,.cells [.fw 20,.row 21] 111)],[(21,⟨5,.int .u8,z⟩)]⟩
 ar:=fun _ _=>[]
 rel:=fun z y=>zm k z=some y
def sJ(k:Nat):cJ (List Int) (List UInt8) where
 n:=14
 S:=fun z=>⟨[(0,.ptr 14 0)],[(14,.cells [.fw 14,.row 15] 111)],[(15,⟨5,.int .u8,z⟩)]⟩
 be:=fun _ _=>⟨[],[],[]⟩
 ar:=fun _ y=>[bd y]
 rel:=fun z y=>q0 k z=some y
theorem Ki{n:Nat}{vs:List Value}{v:Value}(h1:vs.length=1)(h:(vs.toArray++Array.replicate (n-vs.toArray.size) undef)[0]? =some v):vs=[v]:=by
 match vs,h1 with
 |[u],_=>
  rw[Array.getElem?_append_left (by simp)]at h
  simpa using h
theorem OG{w:World}{b i:Nat}{cs:Array Value}{t:TypeId}(h:w.heap[b]? =some (.cells cs t (0,0)))(v:Value):(w.setCell ⟨b,i,none⟩ v).heap[b]? =some (.cells (cs.setIfInBounds i v) t (0,0)):=by
 simp[World.setCell,Array.getElem?_modify,h]
theorem Nf{w:World}{b i k:Nat}(v:Value)(h:k≠b):(w.setCell ⟨b,i,none⟩ v).heap[k]? =w.heap[k]? :=by
 simp[World.setCell,Array.getElem?_modify,Ne.symm h]
theorem Px{G:World->Prop}(k:Nat):cF Tryz.prog G 80 (mV k) where
 enters:=enters_of Tryz.func80 (by kernel_rfl) rfl
 calls:=by
  rintro cx lq la lr z y lt vs w lh ⟨m,U⟩
  obtain⟨v,li,g,O,rfl⟩:=U.cI 0 (.ptr 20 0) List.mem_cons_self
  have lj:=Ki (n:=20) lh li
  subst lj
  have lc:(20,bL.cells [.fw 20,.row 21] 111)∈((mV k).S z).ad:=List.mem_cons_self
  obtain⟨o,ld,lu,cells,W,lk⟩:=U.boxes _ _ lc
  have:o=g:=by rw[O]at ld;cases ld;rfl
  subst this
  obtain⟨p,u,ll,h1,Y⟩:∃p u,cells.toList=[p,u]/\(p=.pointer none\/p=m 20)/\u=m 21:=by
   match lv:cells.toList,lk with
   |[p,u],⟨h1,Y,_⟩=>exact⟨p,u,rfl,h1,Y⟩
  have lm:cells=#[p,u]:=Array.ext' (by rw[ll])
  subst lm
  have lf:w.cell? ⟨o,0,none⟩=some p:=by rw[vo W];rfl
  have lw:∀i,i∈ae.ids ((mV k).be z y)↔i∈ae.ids ((mV k).S z):=fun i=>Iff.rfl
  have lg:∀{w'},am cx m ((mV k).S z) ([Value.pointer (some ⟨o,0,none⟩)].toArray++Array.replicate ((mV k).n-[Value.pointer (some ⟨o,0,none⟩)].toArray.size) undef) w'->am cx m ((mV k).be z y) ([Value.pointer (some ⟨o,0,none⟩)].toArray++Array.replicate ((mV k).n-[Value.pointer (some ⟨o,0,none⟩)].toArray.size) undef) w':=
   fun h=>h.weaken (fun i aJ ln=>by cases ln) (fun p Z=>Z) (fun p Z=>Z) h.keys
  rcases h1 with h1|h1
  ·subst h1
   refine(Qd o w lf (by simp[World.shape?,W]) (by simp[World.frozen?,W])).mono ?_
   rintro e w' ⟨rfl,rfl⟩
   refine⟨_,m,_,rfl,lg ?_,trivial⟩
   have lo:(w.setCell ⟨o,0,none⟩ (.pointer (some ⟨o,0,none⟩))).heap[o]? =some (.cells #[.pointer (some ⟨o,0,none⟩),u] 111 (0,0)):=OG (i:=0) W _
   have la:Touch m w 20 (w.setCell ⟨o,0,none⟩ (.pointer (some ⟨o,0,none⟩))):=⟨⟨rfl,rfl,rfl,by simp[World.setCell],fun h=>False.elim h⟩,fun b lx lp=>Nf _ (fun e=>lp (by rw[O,e];rfl))⟩
   have:=U.db (c:=bL.cells [.fw 20,.row 21] 111) lc la (g:=o) O ⟨_,lo,.inr O.symm,Y,trivial⟩
   exact this
  ·refine(Ut o w (by rw[lf,h1,O])).mono ?_
   rintro e w' ⟨rfl,rfl⟩
   exact⟨_,m,_,rfl,lg U,trivial⟩
theorem Ty{w:World}{b n k:Nat}(h:k≠b):(w.freeze ⟨b,0,none⟩ n).heap[k]? =w.heap[k]? :=by
 unfold World.freeze
 split
 ·rfl
 ·simp[Array.getElem?_modify,Ne.symm h]
theorem SA{w:World}{b n:Nat}:(w.freeze ⟨b,0,none⟩ n).heap.size=w.heap.size/\(w.freeze ⟨b,0,none⟩ n).os=w.os/\(w.freeze ⟨b,0,none⟩ n).tape=w.tape/\(w.freeze ⟨b,0,none⟩ n).output=w.output:=by
 unfold World.freeze
 split<;>simp
theorem Pc{G:World->Prop}(k:Nat):cF Tryz.prog G 56 (sJ k) where
 enters:=enters_of Tryz.func56 (by kernel_rfl) rfl
 calls:=by
  rintro cx lR lS lT z y W vs w lv ⟨m,o⟩
  obtain⟨v,lw,g,lx,rfl⟩:=o.cI 0 (.ptr 14 0) List.mem_cons_self
  have ly:=Ki (n:=14) lv lw
  subst ly
  have lz:(14,bL.cells [.fw 14,.row 15] 111)∈((sJ k).S z).ad:=List.mem_cons_self
  obtain⟨Y,lm,lU,cells,Z,lA⟩:=o.boxes _ _ lz
  have:Y=g:=by rw[lx]at lm;cases lm;rfl
  subst this
  obtain⟨p,u,lB,h1,lc⟩:∃p u,cells.toList=[p,u]/\(p=.pointer none\/p=m 14)/\u=m 15:=by
   match lV:cells.toList,lA with
   |[p,u],⟨h1,lc,_⟩=>exact⟨p,u,rfl,h1,lc⟩
  have lC:cells=#[p,u]:=Array.ext' (by rw[lB])
  subst lC
  have lD:(15,(⟨5,.int .u8,z⟩:cw))∈((sJ k).S z).rw:=List.mem_cons_self
  obtain⟨li,lE,lF,lG⟩:=o.rows _ _ lD
  have lH:li=z.map (Value.int .u8):=wh lG
  have W:q0 k z=some y:=W
  unfold q0 at W
  split at W
  case isFalse=>cases W
  rename_i lI
  cases W
  have done:∀{w':World} {T:Array Value},T.size=cx.n->Frame cx.bC w' cx.X->am cx m ((sJ k).be z (fz z)) T w':=fun lJ lK=>
   {size:=lJ,frame:=lK,outer:=o.outer,cI:=(fun i aJ O=>by cases O),boxes:=(fun i c O=>by cases O),rows:=(fun i c O=>by cases O),apart:=(fun i j O=>by cases O),keys:=List.nodup_nil,fixed:=(fun i c O=>by cases O),kept:=(fun i c O=>by cases O)}
  have kp:∀{w':World},Below w.heap.size w w'->Frame cx.bC w' cx.X:=fun U=>o.frame.step ⟨U.os,U.tape,U.output,U.size,fun h=>False.elim h⟩ fun b ln _=>U.block b (Nat.lt_of_lt_of_le ln o.frame.size)
  have la:(fz z).length=z.length:=by simp[fz]
  have lj:∀(w':World) (M:Nat->Prop),aQ w' M m (.string ⟨#[]⟩) (bd (fz [])):=fun w' M=>(eS (w:=w') (M:=M)).2 ⟨rfl,by decide⟩
  have lL:z.length<=maxLen->∀(w':World) (M:Nat->Prop),aQ w' M m (.string ⟨(fz z).toArray⟩) (bd (fz z)):=fun o w' M=>(eS (w:=w') (M:=M)).2 ⟨rfl,by rw[la];exact o⟩
  rcases lE.2 with ⟨ld,lM⟩|⟨eF,cap,cur,ld,_,lo,lf,lp,lk,ll⟩
  ·rw[lc,ld]at Z
   have lg:z=[]:=List.eq_nil_of_length_eq_zero lM
   refine(V4 Y p w Z).mono ?_
   rintro e w' ⟨rfl,U⟩
   subst lg
   exact⟨_,m,_,rfl,done o.size (kp U),lj _ _⟩
  ·have lf:z.length<=cap:=lf
   have lk:cur.size=cap:=lk.trans (Nat.mul_one cap)
   have ll:cur.toList.take z.length=li:=(congrArg (fun n=>List.take n cur.toList) (Nat.mul_one z.length).symm).trans ll
   rw[lc,ld]at Z
   by_cases lg:z=[]
   ·subst lg
    by_cases lq:cap=0
    ·subst lq
     refine(VZ Y eF p cur w Z lo).mono ?_
     rintro e w' ⟨rfl,U⟩
     exact⟨_,m,_,rfl,done o.size (kp U),lj _ _⟩
    ·refine(Pk Y eF cap p w lq Z).mono ?_
     rintro e w' ⟨rfl,U⟩
     exact⟨_,m,_,rfl,done o.size (kp U),lj _ _⟩
   ·have lN:fz z≠[]:=by
     intro e
     have:=congrArg List.length e
     rw[la]at this
     exact lg (List.eq_nil_of_length_eq_zero this)
    have lO:w.heap[Y]? =some (.cells #[p,.slice (some ⟨eF,0,none⟩) (fz z).length cap] 111 (0,0)):=by rw[la];exact Z
    refine(RB Y eF cap p cur (fz z) w lN lO lo (by rw[la];exact lf) lp lk ?_).mono ?_
    ·intro j x lr
     have lP:j<z.length:=by rw[<-la];exact(List.getElem?_eq_some_iff.1 lr).1
     have lt:(dF (fz z))[j]? =some (x.toNat:Int):=by unfold dF;rw[List.getElem?_map,lr];rfl
     rw[lI]at lt
     have lu:li[j]? =some (Value.int .u8 (x.toNat:Int)):=by rw[lH,List.getElem?_map,lt];rfl
     rw[<-ll,List.getElem?_take,if_pos lP]at lu
     rw[<-Array.getElem?_toList]
     exact lu
    ·rintro e w' ⟨rfl,rfl⟩
     obtain⟨f1,f2,f3,f4⟩:=SA (w:=w.drew) (b:=eF) (n:=(fz z).length)
     have lh:=lF eF (by rw[ld];rfl)
     refine⟨_,m,_,rfl,done o.size (o.frame.step ⟨f2,f3,f4,by rw[f1];exact Nat.le_refl _,fun h=>False.elim h⟩ fun b ln lQ=>?_),lL (Nat.le_trans lf lp) _ _⟩
     refine Ty (w:=w.drew) ?_
     rintro rfl
     rcases lh with lh|lh
     ·omega
     ·exact lQ lh
end Go.Ev
namespace Go.Ev
open Go
variable [b6]
def pa:World->Prop:=fun _=>True
theorem GQ:∀w w',Frame w w' (fun _=>False)->pa w->pa w':=fun _ _ _ _=>trivial
end Go.Ev
namespace Go.Ev
open Go Go.Proofs Go.Shelf Go.RowKit
open Go.Sort (flatK HoldsK putRowK)
set_option maxRecDepth 100000
def kP(w:World)(M:Nat->Prop)(t:ag):List (List Value)->List t.el->Prop
 |[],[]=>True
 |c::d,x::xs=>aF w M t c x/\kP w M t d xs
 |_,_=>False
theorem Cb{w:World}{M:Nat->Prop}{t:ag}:∀{cells:List Value} {xs:List t.el},bD (aF w M t) cells xs->∃d:List (List Value),d.flatten=cells/\kP w M t d xs
 |cells,[],h=>⟨[],by rw[show cells=[]from h];rfl,trivial⟩
 |cells,x::xs,⟨c1,c2,e,h1,o⟩=>by
  obtain⟨d,af,O⟩:=Cb o
  exact⟨c1::d,by rw[List.flatten_cons,af,e],h1,O⟩
theorem LX{w:World}{M:Nat->Prop}{t:ag}:∀{d:List (List Value)} {xs:List t.el},kP w M t d xs->bD (aF w M t) d.flatten xs
 |[],[],_=>rfl
 |[],_::_,h=>h.elim
 |_::_,[],h=>h.elim
 |c::d,x::xs,⟨h1,o⟩=>⟨c,d.flatten,rfl,h1,LX o⟩
theorem Ky{w:World}{M:Nat->Prop}{t:ag}:∀{d e:List (List Value)} {xs o:List t.el},kP w M t d xs->kP w M t e o->kP w M t (d++e) (xs++o)
 |[],_,[],_,_,h=>h
 |[],_,_::_,_,h,_=>h.elim
 |_::_,_,[],_,h,_=>h.elim
 |_::_,_,_::_,_,⟨h1,O⟩,h=>⟨h1,Ky O h⟩
theorem KA{w:World}{M:Nat->Prop}{t:ag}:∀{d:List (List Value)} {xs:List t.el},kP w M t d xs->kP w M t d.reverse xs.reverse
 |[],[],_=>trivial
 |[],_::_,h=>h.elim
 |_::_,[],h=>h.elim
 |c::d,x::xs,⟨h1,o⟩=>by
  rw[List.reverse_cons,List.reverse_cons]
  exact Ky (KA o) ⟨h1,trivial⟩
theorem CX{w:World}{M:Nat->Prop}{t:ag}:∀{d:List (List Value)} {xs:List t.el},kP w M t d xs->d.length=xs.length/\∀c∈d,c.length=t.cells/\∀v∈c,v.oneCell'=true
 |[],[],_=>⟨rfl,fun c h=>by cases h⟩
 |[],_::_,h=>h.elim
 |_::_,[],h=>h.elim
 |c::d,x::xs,⟨h1,O⟩=>by
  obtain⟨U,W⟩:=CX O
  refine⟨by simp[U],fun c' o=>?_⟩
  rcases List.mem_cons.1 o with rfl|o
  ·exact⟨ch t h1,jK t h1⟩
  ·exact W c' o
def kX(k:Nat)(c:List Value):List Value:=if c.length=k/\(c.all fun v=>v.oneCell')=true then c else List.replicate k (.int .i64 0)
theorem Wd(k:Nat)(c:List Value):(kX k c).length=k:=by
 unfold kX
 split
 ·rename_i h;exact h.1
 ·simp
theorem Sh(k:Nat)(c:List Value):∀v∈kX k c,v.oneCell'=true:=by
 unfold kX
 split
 ·rename_i h;exact List.all_eq_true.1 h.2
 ·intro v o
  rw[List.eq_of_mem_replicate o]
  rfl
theorem OJ{k:Nat}{c:List Value}(h:c.length=k)(h1:∀v∈c,v.oneCell'=true):kX k c=c:=if_pos ⟨h,List.all_eq_true.2 h1⟩
theorem Cz{k:Nat}:∀{d:List (List Value)},(∀c∈d,c.length=k)->∀t,t<d.length*k->d.flatten[t]? =((d[t/k]?).getD [])[t %k]?
 |[],_,t,h=>by simp at h
 |c::d,af,t,h=>by
  have o:=af c List.mem_cons_self
  have hk:0<k:=by
   rcases Nat.eq_zero_or_pos k with O|O
   ·subst O;simp at h
   ·exact O
  rw[List.flatten_cons]
  by_cases U:t<k
  ·rw[List.getElem?_append_left (by omega),Nat.div_eq_of_lt U,Nat.mod_eq_of_lt U]
   rfl
  ·have W:t/k=(t-k)/k+1:=by rw[<-Nat.add_div_right _ hk];congr 1;omega
   have Y:t %k=(t-k) %k:=by rw[<-Nat.add_mod_right (t-k) k];congr 1;omega
   rw[List.getElem?_append_right (by omega),o,Cz (fun c o=>af c (List.mem_cons_of_mem _ o)) (t-k) (by rw[List.length_cons,Nat.succ_mul]at h;omega),W,Y]
   rfl
theorem Mi{k:Nat}{d:List (List Value)}(af:∀c∈d,c.length=k/\∀v∈c,v.oneCell'=true):flatK (kX k) k d.toArray=d.flatten.toArray:=by
 have Z:d.flatten.length=d.length*k:=by
  induction d with
  |nil=>simp
  |cons c d la=>
   rw[List.flatten_cons,List.length_append,(af c List.mem_cons_self).1,la fun c U=>af c (List.mem_cons_of_mem _ U),List.length_cons,Nat.succ_mul]
   omega
 apply Array.ext'
 apply List.ext_getElem?
 intro t
 by_cases o:t<d.length*k
 ·have lc:=Cz (fun c U=>(af c U).1) t o
  have hk:0<k:=by
   rcases Nat.eq_zero_or_pos k with W|W
   ·subst W;simp at o
   ·exact W
  have az:t/k<d.length:=Nat.div_lt_of_lt_mul (by rw[Nat.mul_comm];exact o)
  have Y:t %k<k:=Nat.mod_lt _ hk
  have O:=af d[t/k] (List.getElem_mem az)
  rw[show(d.flatten.toArray).toList=d.flatten from rfl,lc,Array.getElem?_toList]
  unfold flatK
  rw[Array.getElem?_map,Array.getElem?_range]
  have:t<d.toArray.size*k:=by simpa using o
  rw[if_pos this]
  simp only[Option.map_some]
  rw[List.getElem?_eq_getElem az,Option.getD_some]
  have ld:d.toArray[t/k]! =d[t/k]:=by simp[az]
  rw[ld,OJ O.1 O.2,List.getElem?_eq_getElem (by rw[O.1];exact Y)]
  simp[O.1,Y]
 ·rw[List.getElem?_eq_none (by simp[flatK];omega),List.getElem?_eq_none (by simpa[Z]using o)]
theorem AE(w:World)(g b:Nat)(f:Array Value->Array Value):(Go.Sort.mapBlock w g f).heap[b]? =if g=b then(w.heap[b]?).map (Go.Sort.onCells f)else w.heap[b]? :=by
 unfold Go.Sort.mapBlock
 exact Array.getElem?_modify
theorem IZ{w:World}{M:Nat->Prop}{t:ag}{e g cap n:Nat}{xs:List t.el}{cells:List Value}{d:List (List Value)}(ln:0<t.cells)(la:w.ownsRow 0 e t.cells (.slice (some ⟨g,0,none⟩) xs.length cap) xs.length cells)(af:d.flatten=cells)(lc:kP w M t d xs):
  ∃u U,(Ending.returned (.tuple #[]))=.returned u/\Same w (Go.Sort.putRow id (Sort.ahead w n) g 0 d.reverse.flatten.toArray)/\(∀b,b<w.heap.size->aO (.slice (some ⟨g,0,none⟩) xs.length cap)≠some b->(Go.Sort.putRow id (Sort.ahead w n) g 0 d.reverse.flatten.toArray).heap[b]? =w.heap[b]?)/\
   (Go.Sort.putRow id (Sort.ahead w n) g 0 d.reverse.flatten.toArray).ownsRow 0 e t.cells (.slice (some ⟨g,0,none⟩) xs.length cap) (List.length xs.reverse) U/\bD (aF w M t) U xs.reverse:=by
 rcases la.2 with ⟨o,_⟩|⟨lo,lp,cur,o,ld,lf,W,lg,Y,lq⟩
 ·cases o
 cases o
 have Z:=LX (KA lc)
 have lh:d.reverse.flatten.length=xs.length*t.cells:=by
  rw[jq (fun _ _=>ch t) _ _ Z,List.length_reverse]
 have lr:xs.length*t.cells<=cur.size:=by rw[Y];exact Nat.mul_le_mul_right _ W
 have li:(Go.Sort.putRow id (Sort.ahead w n) g 0 d.reverse.flatten.toArray).heap[g]? =some (.cells (Go.Sort.putCells id 0 d.reverse.flatten.toArray cur) e (0,0)):=by
  unfold Go.Sort.putRow
  rw[AE,if_pos rfl]
  have:(Sort.ahead w n).heap[g]? =some (.cells cur e (0,0)):=lf
  rw[this]
  rfl
 refine⟨_,d.reverse.flatten,rfl,⟨rfl,rfl,rfl,?_,fun _=>Nat.le_add_right _ _⟩,?_,⟨?_,.inr ⟨g,cap,Go.Sort.putCells id 0 d.reverse.flatten.toArray cur,by rw[List.length_reverse],ld,li,by rw[List.length_reverse];exact W,lg,?_,?_⟩⟩,Z⟩
 ·show w.heap.size<=_
  rw[Go.Sort.size_putRow]
  exact Nat.le_refl _
 ·intro b lt lj
  have lk:b≠g:=fun e=>lj (by rw[e];rfl)
  unfold Go.Sort.putRow
  rw[AE,if_neg lk.symm]
  rfl
 ·rw[lh,List.length_reverse]
 ·rw[<-Y]
  simp[Go.Sort.putCells]
 ·rw[List.length_reverse]
  apply List.ext_getElem?
  intro j
  by_cases ll:j<xs.length*t.cells
  ·have lm:j<cur.size:=by omega
   have O:j<d.reverse.flatten.length:=by omega
   rw[List.getElem?_take_of_lt ll,Array.getElem?_toList]
   unfold Go.Sort.putCells
   rw[Array.getElem?_mapIdx,Array.getElem?_eq_getElem lm,Option.map_some,if_pos ⟨Nat.zero_le _,by simpa using O⟩,List.getElem?_eq_getElem O]
   simp only[Nat.sub_zero,id]
   rw[getElem!_pos _ j (by simpa using O)]
   simp
  ·rw[List.getElem?_eq_none (by simp;omega),List.getElem?_eq_none (by omega)]
theorem held{w:World}{M:Nat->Prop}{t:ag}{e g cap:Nat}{xs:List t.el}{cells:List Value}(O:w.ownsRow 0 e t.cells (.slice (some ⟨g,0,none⟩) xs.length cap) xs.length cells):Go.Sort.Holds id w g 0 cells.toArray:=by
 rcases O.2 with ⟨o,_⟩|⟨Z,la,cur,o,lc,W,ld,lf,lg,lh⟩
 ·cases o
 cases o
 intro j U
 have Y:j<cells.length:=by simpa using U
 rw[Nat.zero_add]
 refine⟨?_,by simp[World.frozen?,W]⟩
 have h1:=O.cells (g:=g) rfl j cells[j] (List.getElem?_eq_getElem Y)
 rw[gL,Nat.zero_add]at h1
 rw[h1,getElem!_pos _ j U]
 rfl
theorem Iy{P:Program}{G:World->Prop}{ρ:Ren}(L:SlLaysE0.n35 P ρ){f e:Nat}{t:ag}(lc:ρ.f 35=f)(ld:ρ.t 23=e)(lf:Nat.blt 0 t.cells=true)(lg:∀w,(isAgg e).run P w=.ok true w)(lh:∀w,(Go.sizeOf e).run P w=.ok t.cells w)
  (li:∀args w,(callFunc f args).run P w=.ok (.enter f args) w):wS P G f e t (fun xs U=>U=xs.reverse) where
 enters:=li
 calls:=by
  rintro w M v xs U cells _ rfl o W
  subst lc
  subst ld
  rcases o.2 with ⟨O,lj⟩|⟨g,cap,cur,O,lp,lq,lk,ll,lr,lt⟩
  ·have lm:xs=[]:=List.length_eq_zero_iff.1 lj
   subst lm
   subst O
   refine(AnyQ.slices_Reverse_empty L none 0 w).mono ?_
   rintro e w' ⟨rfl,rfl⟩
   exact⟨_,cells,rfl,⟨rfl,rfl,rfl,Nat.le_refl _,fun _=>Nat.le_refl _⟩,fun _ _ _=>rfl,o,W⟩
  ·subst O
   obtain⟨d,af,Y⟩:=Cb W
   obtain⟨Z,la⟩:=CX Y
   have hH:HoldsK (kX t.cells) t.cells w g 0 d.toArray:=by
    show Go.Sort.Holds id w g 0 (flatK (kX t.cells) t.cells d.toArray)
    rw[Mi la,af]
    exact held (M:=M) o
   have:=AnyQ.slices_Reverse L t.cells lg lh (kX t.cells) (Wd _) (Sh _) g 0 cap d.toArray w hH (by simp[Z];exact Nat.le_trans lk ll)
   rw[show d.toArray.size=xs.length from by simp[Z]]at this
   refine this.mono ?_
   rintro e w' ⟨rfl,n,rfl⟩
   have ln:putRowK (kX t.cells) t.cells (Sort.ahead w n) g 0 d.toArray.reverse=Go.Sort.putRow id (Sort.ahead w n) g 0 d.reverse.flatten.toArray:=by
    unfold putRowK
    rw[show d.toArray.reverse=d.reverse.toArray from by simp,Mi fun c lo=>la c (List.mem_reverse.1 lo)]
   rw[ln]
   exact IZ (cG lf) o af Y
def rj(v:Value):Value:=if v.oneCell'=true then v else .int .i64 0
theorem HF{v:Value}(h:v.oneCell'=true):rj v=v:=if_pos h
theorem S2(v:Value):(rj v).oneCell'=true:=by
 unfold rj
 split
 ·assumption
 ·rfl
theorem single{d:List (List Value)}(h:∀c∈d,c.length=1):d.reverse.flatten=d.flatten.reverse:=by
 induction d with
 |nil=>rfl
 |cons c d o=>
  obtain⟨v,rfl⟩:=List.length_eq_one_iff.1 (h c List.mem_cons_self)
  rw[List.reverse_cons,List.flatten_append,o fun c O=>h c (List.mem_cons_of_mem _ O)]
  simp
theorem Ku{P:Program}{G:World->Prop}{ρ:Ren}(L:SlLaysE.n35 P ρ){f e:Nat}{t:ag}(lg:ρ.f 35=f)(U:Nat.beq t.cells 1=true)
  (lh:∀args w,(callFunc f args).run P w=.ok (.enter f args) w):wS P G f e t (fun xs W=>W=xs.reverse) where
 enters:=lh
 calls:=by
  rintro w M v xs W cells _ rfl O Y
  subst lg
  have U:=Nat.eq_of_beq_eq_true U
  rcases O.2 with ⟨o,li⟩|⟨g,cap,cur,o,lu,lv,lj,lk,lw,lx⟩
  ·have ll:xs=[]:=List.length_eq_zero_iff.1 li
   subst ll
   subst o
   refine(AnyE.slices_Reverse_empty L none 0 w).mono ?_
   rintro e w' ⟨rfl,rfl⟩
   exact⟨_,cells,rfl,⟨rfl,rfl,rfl,Nat.le_refl _,fun _=>Nat.le_refl _⟩,fun _ _ _=>rfl,O,Y⟩
  ·subst o
   obtain⟨d,af,Z⟩:=Cb Y
   obtain⟨ly,la⟩:=CX Z
   have h1:∀c∈d,c.length=1:=fun c lm=>by rw[(la c lm).1,U]
   have lc:∀v∈cells,v.oneCell'=true:=fun v o=>by
    rw[<-af]at o
    obtain⟨c,ln,lo⟩:=List.mem_flatten.1 o
    exact(la c ln).2 v lo
   have ld:cells.length=xs.length:=by rw[O.1,U,Nat.mul_one]
   have lp:Go.Sort.Holds id w g 0 cells.toArray:=held (M:=M) O
   have hH:Go.Sort.Holds rj w g 0 cells.toArray:=fun j lf=>by
    obtain⟨lq,a2⟩:=lp j lf
    refine⟨?_,a2⟩
    rw[lq,HF]
    ·rfl
    ·rw[getElem!_pos _ j lf];exact lc _ (by simp)
   have:=AnyE.slices_Reverse L rj S2 g 0 cap cells w hH (by rw[ld];exact Nat.le_trans lj lk)
   rw[ld]at this
   refine this.mono ?_
   rintro lz w' ⟨rfl,n,rfl⟩
   have lr:Go.Sort.putRow rj (Sort.ahead w n) g 0 cells.reverse.toArray=Go.Sort.putRow id (Sort.ahead w n) g 0 d.reverse.flatten.toArray:=by
    rw[single h1,af]
    unfold Go.Sort.putRow Go.Sort.putCells
    congr 1
    funext c
    congr 1
    funext k x
    split
    ·rename_i hk
     have lt:k-0<cells.reverse.toArray.size:=by omega
     rw[HF]
     ·rfl
     ·rw[getElem!_pos cells.reverse.toArray (k-0) lt]
      exact lc _ (List.mem_reverse.1 (by simp))
    ·rfl
   rw[lr]
   exact IZ (by omega) O af Z
end Go.Ev
namespace Go.Ev
open Go Go.Proofs Go.Shelf Go.RowKit
set_option maxRecDepth 100000
def R4:Ren:=⟨fun|35=>57|n=>n,fun|22=>62|23=>3|3=>3|4=>4|0=>0|n=>n,fun|n=>n⟩
theorem R0:SlLaysE.n35 Tryz.prog R4:={
 mixed:=by kernel_rfl
 f35:=⟨Tryz.f57.name,by kernel_rfl,Tryz.func57.trans (congrArg some (by kernel_rfl))⟩
 t0:=Tryz.underlying0
 a0:=Tryz.isAgg0
 z0:=Tryz.sizeOf0
 v0:=Tryz.zeroValue0
 t3:=Tryz.underlying3
 a3:=Tryz.isAgg3
 z3:=Tryz.sizeOf3
 v3:=Tryz.zeroValue3
 t4:=Tryz.underlying4
 a4:=Tryz.isAgg4
 z4:=Tryz.sizeOf4
 v4:=Tryz.zeroValue4
 t22:=Tryz.underlying62
 a22:=Tryz.isAgg62
 z22:=Tryz.sizeOf62
 v22:=Tryz.zeroValue62
 a23:=Tryz.isAgg3
 z23:=Tryz.sizeOf3}
noncomputable def FU{G:World->Prop}:tf Tryz.prog G:=⟨57,3,(.int .i64),List.reverse,Ku R0 rfl (by kernel_rfl) (enters_of Tryz.func57 (by kernel_rfl) rfl)⟩
def Oy:Ren:=⟨fun|35=>140|n=>n,fun|22=>50|23=>21|3=>3|4=>4|0=>0|n=>n,fun|n=>n⟩
theorem Q4:SlLaysE.n35 Tryz.prog Oy:={
 mixed:=by kernel_rfl
 f35:=⟨Tryz.f140.name,by kernel_rfl,Tryz.func140.trans (congrArg some (by kernel_rfl))⟩
 t0:=Tryz.underlying0
 a0:=Tryz.isAgg0
 z0:=Tryz.sizeOf0
 v0:=Tryz.zeroValue0
 t3:=Tryz.underlying3
 a3:=Tryz.isAgg3
 z3:=Tryz.sizeOf3
 v3:=Tryz.zeroValue3
 t4:=Tryz.underlying4
 a4:=Tryz.isAgg4
 z4:=Tryz.sizeOf4
 v4:=Tryz.zeroValue4
 t22:=Tryz.underlying50
 a22:=Tryz.isAgg50
 z22:=Tryz.sizeOf50
 v22:=Tryz.zeroValue50
 a23:=Tryz.isAgg21
 z23:=Tryz.sizeOf21}
noncomputable def II{G:World->Prop}:tf Tryz.prog G:=⟨140,21,(.int .i32),List.reverse,Ku Q4 rfl (by kernel_rfl) (enters_of Tryz.func140 (by kernel_rfl) rfl)⟩
def TB:Ren:=⟨fun|35=>173|n=>n,fun|22=>86|23=>166|3=>3|4=>4|0=>0|n=>n,fun|n=>n⟩
theorem PY:SlLaysE0.n35 Tryz.prog TB:={
 mixed:=by kernel_rfl
 f35:=⟨Tryz.f173.name,by kernel_rfl,Tryz.func173.trans (congrArg some (by kernel_rfl))⟩
 t0:=Tryz.underlying0
 a0:=Tryz.isAgg0
 z0:=Tryz.sizeOf0
 v0:=Tryz.zeroValue0
 t3:=Tryz.underlying3
 a3:=Tryz.isAgg3
 z3:=Tryz.sizeOf3
 v3:=Tryz.zeroValue3
 t4:=Tryz.underlying4
 a4:=Tryz.isAgg4
 z4:=Tryz.sizeOf4
 v4:=Tryz.zeroValue4
 t22:=Tryz.underlying86
 a22:=Tryz.isAgg86
 z22:=Tryz.sizeOf86
 v22:=Tryz.zeroValue86}
noncomputable def Qp{G:World->Prop}:tf Tryz.prog G:=⟨173,166,(.pair (.int .i32) (.pair (.int .u32) (.pair (.int .u32) .unit))),List.reverse,Iy PY rfl rfl (by kernel_rfl) Tryz.isAgg166 Tryz.sizeOf166 (enters_of Tryz.func173 (by kernel_rfl) rfl)⟩
def VJ:Ren:=⟨fun|35=>174|n=>n,fun|22=>87|23=>169|3=>3|4=>4|0=>0|n=>n,fun|n=>n⟩
theorem Qr:SlLaysE0.n35 Tryz.prog VJ:={
 mixed:=by kernel_rfl
 f35:=⟨Tryz.f174.name,by kernel_rfl,Tryz.func174.trans (congrArg some (by kernel_rfl))⟩
 t0:=Tryz.underlying0
 a0:=Tryz.isAgg0
 z0:=Tryz.sizeOf0
 v0:=Tryz.zeroValue0
 t3:=Tryz.underlying3
 a3:=Tryz.isAgg3
 z3:=Tryz.sizeOf3
 v3:=Tryz.zeroValue3
 t4:=Tryz.underlying4
 a4:=Tryz.isAgg4
 z4:=Tryz.sizeOf4
 v4:=Tryz.zeroValue4
 t22:=Tryz.underlying87
 a22:=Tryz.isAgg87
 z22:=Tryz.sizeOf87
 v22:=Tryz.zeroValue87}
noncomputable def OI{G:World->Prop}:tf Tryz.prog G:=⟨174,169,(.pair (.int .i32) (.pair (.int .i64) (.pair (.int .u32) (.pair (.int .u32) .unit)))),List.reverse,Iy Qr rfl rfl (by kernel_rfl) Tryz.isAgg169 Tryz.sizeOf169 (enters_of Tryz.func174 (by kernel_rfl) rfl)⟩
end Go.Ev
namespace Go.Ev
open Go Go.Proofs
noncomputable def N8{G:World->Prop}(k:Nat):dp Tryz.prog G (List Int) Unit:=⟨80,mV k,fun st=>bW st [.rw 21 5 (.int .u8)],fun z=>zm k z,Px k,fun _ _ h=>h⟩
noncomputable def Qn{G:World->Prop}(k:Nat):dp Tryz.prog G (List Int) (List UInt8):=⟨56,sJ k,fun st=>bW st [.rw 15 5 (.int .u8)],fun z=>q0 k z,Pc k,fun _ _ h=>h⟩
end Go.Ev
namespace Go.Ev
open Go Go.RowKit
open Go.ChangeMaps (setBlock)
structure eY(w:World)(b r:Nat)(es:Array MapEntry)(clock:Nat)(cW:List MapEntry):Prop where
 map:w.heap[b]? =some (.map es clock)
 born:∀e∈es.toList,e.born<clock
 tp:(es.toList.map (·.born)).Nodup
 it:w.heap[r]? =some (.mapIter (some b) clock (cW.map (·.born)).toArray clock)
 mem:∀e∈cW,e∈es.toList
 jy:(cW.map (·.born)).Nodup
 BW:cW.length+(leftOf es (cW.map (·.born)).toArray).size<=es.size
section
variable {P:Program} {w:World} {b r:Nat} {es:Array MapEntry} {clock:Nat} {cW:List MapEntry}
theorem eY.ne(h:eY w b r es clock cW):b≠r:=fun e=>by
 have:=h.map
 rw[e,h.it]at this
 cases this
theorem eY.walk(h:eY w b r es clock cW):∃aa:Obj,w.heap[r]? =some aa/\aa.isWalk=true:=⟨_,h.it,rfl⟩
theorem eY.left(h:eY w b r es clock cW):w.rangeLeft b r=(leftOf es (cW.map (·.born)).toArray).size:=by
 simp only[World.rangeLeft,h.map,h.it]
theorem eY.of_walks{w':World}(h:eY w b r es clock cW)(hk:KeepsWalks w w'):eY w' b r es clock cW:=by
 exact⟨hk.same b _ h.map rfl,h.born,h.tp,hk.same r _ h.it rfl,h.mem,h.jy,h.BW⟩
theorem eY.start{O U t:TypeId}(W:P.underlying t=some (.map O U))(o:w.heap[b]? =some (.map es clock))(Y:∀e∈es.toList,e.born<clock)(af:(es.toList.map (·.born)).Nodup):
  (Instr.range t (.map (some b))).run P w=.ok (.pointer (some ⟨w.heap.size,0,none⟩)) (w.alloc (.mapIter (some b) clock #[] clock))/\eY (w.alloc (.mapIter (some b) clock #[] clock)) b w.heap.size es clock []:=by
 have Z:b<w.heap.size:=(Array.getElem?_eq_some_iff.1 o).1
 refine⟨run_range_map w t O U b es clock W o,⟨(Below.heap_alloc w _ b Z).trans o,Y,af,World.alloc_heap_new w _,fun _ h=>(by cases h),List.nodup_nil,?_⟩⟩
 simp only[List.length_nil,Nat.zero_add]
 exact Array.size_filter_le ..
theorem eY.step(h:eY w b r es clock cW)(ty:TypeId):
  ((∀e∈es.toList,e∈cW)/\(Instr.next (.pointer (some ⟨r,0,none⟩)) false ty).run P w=.ok (.tuple #[.bool false]) w)\/
  ∃e O,(Instr.next (.pointer (some ⟨r,0,none⟩)) false ty).run P w=.ok (.tuple #[.bool true,e.key,e.val]) O/\eY O b r es clock (cW++[e])/\cW.length<es.size/\O.rangeLeft b r<w.rangeLeft b r/\w.grownBy O (some r)/\O.heap.size=w.heap.size:=by
 have h1:=h.it
 rcases run_next_at (P:=P) w ty r b clock clock _ es clock h1 h.map h.born (Nat.le_refl _)with ⟨lg,Z⟩|⟨e,U,W,Y,Z⟩
 ·refine .inl ⟨fun e U=>?_,Z⟩
  have:=all_seen es _ lg e U
  have lh:e.born∈cW.map (·.born):=by simpa using this
  obtain⟨li,lc,lj⟩:=List.mem_map.1 lh
  rw[<-born_inj h.tp (h.mem li lc) U lj]
  exact lc
 ·obtain⟨lk,ld⟩:=mem_left U
  have ll:r<W.heap.size:=by rcases Y with rfl|rfl<;>exact(Array.getElem?_eq_some_iff.1 h1).1
  have lm:W.heap[b]? =some (.map es clock):=by rcases Y with rfl|rfl<;>exact h.map
  have ln:=left_shrinks es _ e U
  have la:(cW.map (·.born)).toArray.push e.born=((cW++[e]).map (·.born)).toArray:=by simp
  have g:eY (setBlock W r (.mapIter (some b) clock ((cW.map (·.born)).toArray.push e.born) clock)) b r es clock (cW++[e]):=by
   refine⟨?_,h.born,h.tp,?_,fun x o=>?_,?_,?_⟩
   ·show(W.heap.setIfInBounds r _)[b]? =_
    rw[Array.getElem?_setIfInBounds_ne (Ne.symm h.ne)];exact lm
   ·rw[la]
    show(W.heap.setIfInBounds r _)[r]? =_
    rw[Array.getElem?_setIfInBounds_self_of_lt ll]
   ·rcases List.mem_append.1 o with o|o
    ·exact h.mem x o
    ·simp at o;subst o;exact lk
   ·rw[List.map_append,List.nodup_append]
    refine⟨h.jy,by simp,fun a lo c lf=>?_⟩
    simp at lf
    subst lf
    rintro rfl
    have:(cW.map (·.born)).toArray.contains e.born=true:=by simpa using lo
    rw[this]at ld;cases ld
   ·rw[<-la]
    have:=h.BW
    rw[List.length_append]
    simp only[List.length_cons,List.length_nil]
    omega
  refine .inr ⟨e,_,Z,g,by have:=h.BW;omega,by rw[g.left,h.left,<-la];exact ln,?_,?_⟩
  ·rcases Y with rfl|rfl<;>exact⟨rfl,rfl,rfl,by simp[setBlock],fun i _ lp=>Array.getElem?_setIfInBounds_ne (fun lq=>lp (by rw[lq]))⟩
  ·rcases Y with rfl|rfl<;>simp[setBlock]
theorem eY.entry{e:MapEntry}(h:eY w b r es clock (cW++[e])):(Instr.entry (.pointer (some ⟨r,0,none⟩))).run P w=.ok (.tuple #[e.key,e.val]) w:=by
 have h1:=h.it
 have o:((cW++[e]).map (·.born)).toArray=(cW.map (·.born)).toArray.push e.born:=by simp
 rw[o]at h1
 exact run_entry_at w r b clock _ es clock e h1 h.map (h.mem e (by simp)) h.tp
theorem eY.all(h:eY w b r es clock cW)(O:∀e∈es.toList,e∈cW):cW.Perm es.toList:=by
 have o:∀l:List MapEntry,(l.map (·.born)).Nodup->l.Nodup:=fun l U=>(List.pairwise_map.1 U).imp fun W e=>W (by rw[e])
 have Y:cW.Nodup:=o _ h.jy
 have Z:es.toList.Nodup:=o _ h.tp
 exact(List.perm_ext_iff_of_nodup Y Z).2 fun e=>⟨h.mem e,O e⟩
end
section
variable {F:Fence} {n:Nat} {P:Program} {w:World} {ops:Array Oper} {rest:List Oper} {aa:Oper} {a:Act} {Q:Exit->Act->World->Prop} {b r:Nat} {es:Array MapEntry} {clock:Nat} {cW:List MapEntry}
theorem VR(O:aa.guard=none)(m:Operand)(t U W:TypeId)(o:aa.op=Op.range t m)(Y:P.underlying t=some (.map U W))(Z:a.eval m=.map (some b))(la:w.heap[b]? =some (.map es clock))(lc:∀e∈es.toList,e.born<clock)(af:(es.toList.map (·.born)).Nodup)
  (ld:∀w',eY w' b w.heap.size es clock []->w.grownBy w' none->w'.heap.size=w.heap.size+1->wpListIn F n P ops Q rest (a.put aa.dst (.pointer (some ⟨w.heap.size,0,none⟩))) w'):
  wpListIn F n P ops Q (aa::rest) a w:=by
 refine wpListIn_plain O fun lj lf=>?_
 obtain⟨lg,lh⟩:=eY.start (P:=P) Y la lc af
 unfold Oper.wpIn
 refine⟨?_,?_⟩
 ·simp[Oper.about,o]
 ·rw[Oper.semAt_plain F _ _ (by rw[o];intro c li;cases li)]
  simp[execOp,o,Z,lg,Result.andThen]
  exact lf _ _ (ld _ lh (World.grownBy_alloc w _ none) (by simp))
theorem NM(la:aa.guard=none)(it:Operand)(O:aa.op=Op.next it false)(W:a.eval it=.pointer (some ⟨r,0,none⟩))(h:eY w b r es clock cW)
  (lc:(∀e∈es.toList,e∈cW)->wpListIn F n P ops Q rest (a.put aa.dst (.tuple #[.bool false])) w)
  (ld:∀(e:MapEntry) (o:World),eY o b r es clock (cW++[e])->cW.length<es.size->o.rangeLeft b r<w.rangeLeft b r->w.grownBy o (some r)->o.heap.size=w.heap.size->(Instr.entry (.pointer (some ⟨r,0,none⟩))).run P o=.ok (.tuple #[e.key,e.val]) o->wpListIn F n P ops Q rest (a.put aa.dst (.tuple #[.bool true,e.key,e.val])) o):
  wpListIn F n P ops Q (aa::rest) a w:=by
 refine wpListIn_plain la fun lk Y=>?_
 unfold Oper.wpIn
 refine⟨by simp[Oper.about,O],?_⟩
 rw[Oper.semAt_plain F _ _ (by rw[O];intro c lf;cases lf)]
 rcases h.step (P:=P) aa.type with ⟨lg,U⟩|⟨e,o,U,Z,h1,lh,li,lj⟩
 ·simp[execOp,O,W,U,Result.andThen]
  exact Y _ _ (lc lg)
 ·simp[execOp,O,W,U,Result.andThen]
  exact Y _ _ (ld e o Z h1 lh li lj Z.entry)
end
end Go.Ev
namespace Go.Ev
open Go Go.Proofs Go.RowKit Go.Shelf
attribute [local go_sem] Oper.semAt_some
def fr(p:Int×Int×Unit):Value:=.agg #[.int .i32 p.1,.int .i32 p.2.1]
def KG:Value->Int×Int×Unit
 |.agg #[.int _ a,.int _ b]=>(a,b,())
 |_=>(0,0,())
theorem O3{l m:List (Int×Int×Unit)}(h:(l.map fr).Perm (m.map fr)):l.Perm m:=by
 have:=h.map KG
 rw[List.map_map,List.map_map]at this
 have e:KG∘fr=id:=rfl
 rwa [e,List.map_id,List.map_id]at this
set_option maxRecDepth 100000 in
set_option maxHeartbeats 2000000 in
theorem N1(F:Fence)(n:Nat)(hF:F.fn 107)(lm:F.round=none)(lK:1<=n)(U b:Nat)(es:Array MapEntry)(clock:Nat)(lg:List (Int×Int×Unit))(w:World)(ln:U<w.heap.size)(lo:w.cell? ⟨U,0,none⟩=some (.map (some b)))
  (lh:w.heap[b]? =some (.map es clock))(lp:∀e∈es.toList,e.born<clock)(lq:(es.toList.map (·.born)).Nodup)(hk:es.toList.map (·.key)=lg.map fr):
  SeqStops F n Tryz.prog 107 #[.pointer (some ⟨U,0,none⟩)] fr (fun o=>o.Perm lg) (fun _=>True) es.size w:=fun l Z lL W li la lM lr lt=>by
 have lu:b<w.heap.size:=(Array.getElem?_eq_some_iff.1 lh).1
 have lv:W.heap[b]? =some (.map es clock):=(li.block b lu).trans lh
 have lN:W.cell? ⟨U,0,none⟩=some (.map (some b)):=(li.cell (p:=⟨U,0,none⟩) ln).trans lo
 refine callsIn_of_wp Tryz.func107 rfl hF ?_ lm
 simp only[Tryz.ntmps107,List.size_toArray,List.length_cons,List.length_nil,Nat.reduceAdd,Nat.reduceSub,Array.replicate_succ,Array.replicate_zero,List.push_toArray,List.append_toArray,List.nil_append,List.cons_append]
 gi_wp2_with (first
  |(gi_at_range;refine VR rfl _ 145 _ _ rfl Tryz.underlying145 rfl lv lp lq ?_;intro bC lw lx lO)
  |gi_in)
 go_frame
 gi_loopw [3] (fun _ wr=>∃(cW:List MapEntry) (o:List (Int×Int×Unit)),eY wr b W.heap.size es clock cW/\o.map fr=cW.map (·.key)/\Z o wr)
  (fun _ wr=>wr.rangeLeft b W.heap.size)
 case atStart=>
  exact⟨[],[],lw,rfl,la [] W bC none lt lx (fun r e=>by cases e)⟩
 case round=>
  obtain⟨cW,o,lc,ld,lj⟩:=hrel
  gi_wp2_with (first
   |(gi_at_next;refine NM rfl _ rfl rfl lc ?_ ?_)
   |gi_in)
  ·intro ly
   gi_wp2
   go_end0
   refine⟨⟨_,rfl⟩,.inl ⟨o,?_,lj⟩⟩
   have h1:(cW.map (·.key)).Perm (es.toList.map (·.key)):=(lc.all fun e lz=>ly e (by simpa using lz)).map _
   rw[<-ld,hk]at h1
   exact O3 h1
  ·intro e O lf lP lA lB lQ lk
   obtain⟨x,Y⟩:∃x,e.key=fr x:=by
    have:e.key∈es.toList.map (·.key):=List.mem_map.2 ⟨e,lf.mem e (by simp),rfl⟩
    rw[hk]at this
    obtain⟨x,_,Y⟩:=List.mem_map.1 this
    exact⟨x,Y.symm⟩
   rw[Y]at lk⊢
   have lC:Z o O:=la o wr O (some W.heap.size) lj lB (fun r e=>by cases e;exact⟨Nat.le_refl _,lc.walk⟩)
   have lR:o.length=cW.length:=by have:=congrArg List.length ld;simpa using this
   have lD:Z o (O.alloc (.cells #[.int .i32 x.1,.int .i32 x.2.1] 54)):=la o O _ none lC (World.grownBy_alloc O _ none) (fun r e=>by cases e)
   obtain⟨fn,tmps,assign,body,lE,lF⟩:=lr o x _ lD (by omega)
   have lG:=lf.of_walks (KeepsWalks.alloc O (.cells #[.int .i32 x.1,.int .i32 x.2.1] 54))
   unfold fr at lk lE⊢
   gi_wp2
   refine lF.mono ?_
   rintro lS lT (⟨rfl,lH,lI⟩|⟨rfl,lJ⟩)
   ·gi_wp2
    have ll:=lG.of_walks lI
    go_roundw
    case rel=>exact⟨cW++[e],o++[x],ll,by rw[List.map_append,List.map_append,ld];simp[Y],lH⟩
    case measure=>rw[ll.left,<-lf.left];exact lA
   ·gi_wp2
    refine bodyPost_ret (results_none rfl _ _ _) rfl ?_
    exact⟨⟨_,rfl⟩,.inr ⟨o++[x],trivial,lJ⟩⟩
theorem Qy:(Tryz.prog.info? 54).map (fun i=>(i.zero,i.size,i.bytes))=some (some (.agg #[.int .i32 0,.int .i32 0]),2,8):=by kernel_rfl
def ce(p:Int×Int×Unit):List Value:=[.int .i32 p.1,.int .i32 p.2.1]
set_option maxRecDepth 100000 in
set_option maxHeartbeats 2000000 in
theorem Ux(F:Fence)(n:Nat)(hF:F.fn 143)(lj:F.round=none)(lL:2<=n)(g:Nat)(lb:Array Value)(lp:F.fn g)(lq:∀args w,(callFunc g args).run Tryz.prog w=.ok (.enter g args) w)
  (S lk:List (Int×Int×Unit)->Prop)(N:Nat)(lM:N<=maxLen)(lN:N*8<=140737488355328)(w:World)(lr:SeqStops F (n-1) Tryz.prog g lb fr S lk N w):
  CallsIn F n Tryz.prog 143 #[.slice none 0 0,.func (.func g) #[] lb] w fun e w'=>∃(v:Value) (Z:List (Int×Int×Unit)),e=.returned v/\S Z/\w'.ownsRow w.heap.size 54 2 v Z.length (Z.flatMap ce)/\Below w.heap.size w w':=by
 have h1:1<=n:=by omega
 obtain⟨i0,lt,lu,lv,lw⟩:=info_parts Qy
 refine callsIn_of_wp_marks Tryz.func143 rfl hF ?_ lj
 simp only[Tryz.ntmps143,List.size_toArray,List.length_cons,List.length_nil,Nat.reduceAdd,Nat.reduceSub,Array.replicate_succ,Array.replicate_zero,List.push_toArray,List.append_toArray,List.nil_append,List.cons_append]
 gi_wp2
 refine wpIn_rangeFunc_ownH lj h1 (gf:=g) (lb:=lb) rfl lp lq (show SeqStopsK F (n-1) Tryz.prog g lb (fun x=>#[fr x]) KeepsWalks S lk N w from lr) walksK_t walksK_b ((Below.refl _ w).alloc (Nat.le_refl _) _) (fun _=>rfl)
  (fun pre W=>(∃v,Boxed W w.heap.size 90 v/\W.ownsRow w.heap.size 54 2 v pre.length (pre.flatMap ce)/\True)/\Below w.heap.size w W)
  (fun _ _ _=>False)
  (OwnFrom.and (Own.from (holdsRow_own w.heap.size w.heap.size 90 54 2 (fun pre:List (Int×Int×Unit)=>pre.length) (fun pre=>pre.flatMap ce) (fun _ _=>True)) _) (ownFrom_below (Nat.le_refl _) (by simp)))
  (fun _ _ _ _ _ lx _ _=>lx)
  ⟨⟨.slice none 0 0,Boxed.new w _ _,World.ownsRow_nil _ _ _ _,trivial⟩,(Below.refl _ w).alloc (Nat.le_refl _) _⟩
  (fun x lg W=>∃o,w.heap.size<o/\W.heap[o]? =some (.cells #[.int .i32 x.1,.int .i32 x.2.1] 54 (0,0))/\
   lg={tmps:=#[.slice none 0 0,.func (.func g) #[] lb,.pointer (some ⟨w.heap.size,0,none⟩),undef,.slice none 0 0,.pointer (some ⟨o,0,none⟩),.func (.func g) #[] lb,fr x,undef,undef,undef,undef,undef],defers:=[]})
  ?hAx ?assign ?body ?done ?stop
 case hAx=>
  rintro x lg _ X lO row ⟨o,ly,lh,lz⟩ lA la
  refine⟨o,ly,(lA.block o (Array.getElem?_eq_some_iff.1 lh).1 (fun e=>?_)).trans lh,lz⟩
  obtain⟨_,aa,lc,lB⟩:=la o e.symm
  rw[lh]at lc;cases lc;cases lB
 case assign=>
  rintro l pre x W K ⟨⟨v,Y,la,_⟩,U⟩ ld
  unfold fr
  gi_wp2
  exact ld _ _ ((KeepsOthers.alloc _ _).from _) (KeepsWalks.alloc _ _) ⟨⟨v,Y.alloc _,la.alloc _,trivial⟩,U.alloc U.size _⟩ ⟨W.heap.size,Y.lt,World.alloc_heap_new W _,rfl⟩
 case body=>
  rintro l pre x lg W lP ⟨r,la⟩ ⟨⟨v,Y,lf,_⟩,U⟩ ⟨o,lQ,ll,rfl⟩ lR
  have lC:=Y.cell
  have lS:W.cell? ⟨o,0,none⟩=some (.int .i32 x.1):=by simp[World.cell?,ll]
  have lT:W.cell? ⟨o,1,none⟩=some (.int .i32 x.2.1):=by simp[World.cell?,ll]
  have lD:∀(j:Nat) (u:Value),(ce x)[j]? =some u->(W.alloc (.cells #[.int .i32 x.1,.int .i32 x.2.1] 54)).cell? ((⟨W.heap.size,0,none⟩:Addr).add j)=some u:=by
   intro j u O
   have lE:(⟨W.heap.size,0,none⟩:Addr).add j=⟨W.heap.size,0+j,none⟩:=by unfold Addr.add;split<;>simp_all
   rw[lE,Nat.zero_add]
   simp only[World.cell?,World.alloc_heap_new]
   unfold ce at O
   match j,O with
   |0,O=>simpa using O
   |1,O=>simpa using O
   |j+2,O=>simp at O
  gi_wp2_with (gi_at_builtin;refine wpListIn_append_own _ rfl _ _ 90 rfl w.heap.size 54 i0 (.agg #[.int .i32 0,.int .i32 0]) 2 8 Tryz.underlying90 lt lu lv lw rfl (by decide) _ _ _ rfl (lf.alloc _) ⟨W.heap.size,0,none⟩ 1 1 (ce x) rfl rfl lD (by simp[ce,Value.oneCell']) (by omega) (by omega) (by have:=U.size;simp;omega) ?_;intro v' lU lm lF _;obtain⟨lV,lW,rfl⟩:=ownsRow_succ lm;obtain⟨ln,lG,lH,li,lI⟩:=Y.appended (by decide) lf U.size (Nat.le_refl _) lm lF;have lX:=ln.cell;have lY:=ln.frozen)
  exact⟨li.from _,⟨li.size,fun j aa O lc=>li.same j aa O (Obj.not_cells_of_walk lc)⟩,⟨_,lG,by rw[List.length_append,List.flatMap_append];simpa using lH,trivial⟩,U.trans lI⟩
 case done=>
  rintro lo Z W lJ lK ⟨⟨v,Y,lf,_⟩,U⟩ ld
  have lC:=Y.cell
  gi_wp2
  refine⟨by simp,.inl ⟨_,_,rfl,run_takeDeferred ld,?_⟩⟩
  exact⟨_,results_tmp rfl _ _ _,v,Z,rfl,lK,ownsRow_putObj lf _ ld rfl,U.grown (grownBy_putObj' _ lo _) U.size (fun k e=>by cases e;simp at lJ;omega)⟩
 case stop=>
  rintro lo c pre W _ _ h _
  exact h.elim
set_option maxHeartbeats 2000000 in
theorem WM(F:Fence)(n:Nat)(hF:F.fn 105)(W:F.fn 143)(O:F.round=none)(li:3<=n)(g:Nat)(lb:Array Value)(Y:F.fn g)(Z:∀args w,(callFunc g args).run Tryz.prog w=.ok (.enter g args) w)
  (S U:List (Int×Int×Unit)->Prop)(N:Nat)(la:N<=maxLen)(lc:N*8<=140737488355328)(w:World)(ld:SeqStops F (n-1-1) Tryz.prog g lb fr S U N w):
  CallsIn F n Tryz.prog 105 #[.func (.func g) #[] lb] w fun e w'=>∃(v:Value) (o:List (Int×Int×Unit)),e=.returned v/\S o/\w'.ownsRow w.heap.size 54 2 v o.length (o.flatMap ce)/\Below w.heap.size w w':=by
 have h1:1<=n:=by omega
 refine callsIn_of_wp Tryz.func105 rfl hF ?_ O
 simp only[Tryz.ntmps105,List.size_toArray,List.length_cons,List.length_nil,Nat.reduceAdd,Nat.reduceSub,Array.replicate_succ,Array.replicate_zero,List.push_toArray,List.append_toArray,List.nil_append,List.cons_append]
 gi_wp2_with (gi_at_call 143;refine(Ux F (n-1) W O (by omega) g lb Y Z S U N la lc _ ld).mono ?_;rintro e w' ⟨v,o,rfl,lf,lg,lh⟩)
 go_ret
 exact⟨v,o,rfl,lf,lg,lh⟩
end Go.Ev
namespace Go.Ev
open Go Go.Proofs Go.Shelf Go.RowKit
set_option maxRecDepth 100000
def Dm:Ren:=⟨fun|6=>106|14=>144|15=>145|20=>177|21=>178|22=>179|23=>180|24=>181|25=>182|26=>183|27=>184|28=>185|29=>186|46=>201|47=>202|48=>203|49=>204|50=>205|57=>219|n=>n,fun|0=>0|3=>3|4=>4|5=>5|9=>9|22=>90|24=>54|25=>151|39=>153|45=>262|46=>263|50=>144|53=>102|55=>190|66=>282|70=>286|76=>298|77=>299|n=>n,fun|n=>n⟩
theorem Hn:SlLaysF0.n6 Tryz.prog Dm:={
 mixed:=by kernel_rfl
 f6:=⟨Tryz.f106.name,by kernel_rfl,Tryz.func106.trans (congrArg some (by kernel_rfl))⟩
 f14:=⟨Tryz.f144.name,by kernel_rfl,Tryz.func144.trans (congrArg some (by kernel_rfl))⟩
 f15:=Tryz.func145.trans (congrArg some (by kernel_rfl))
 f20:=⟨Tryz.f177.name,by kernel_rfl,Tryz.func177.trans (congrArg some (by kernel_rfl))⟩
 f21:=⟨Tryz.f178.name,by kernel_rfl,Tryz.func178.trans (congrArg some (by kernel_rfl))⟩
 f22:=⟨Tryz.f179.name,by kernel_rfl,Tryz.func179.trans (congrArg some (by kernel_rfl))⟩
 f23:=⟨Tryz.f180.name,by kernel_rfl,Tryz.func180.trans (congrArg some (by kernel_rfl))⟩
 f24:=⟨Tryz.f181.name,by kernel_rfl,Tryz.func181.trans (congrArg some (by kernel_rfl))⟩
 f25:=⟨Tryz.f182.name,by kernel_rfl,Tryz.func182.trans (congrArg some (by kernel_rfl))⟩
 f26:=⟨Tryz.f183.name,by kernel_rfl,Tryz.func183.trans (congrArg some (by kernel_rfl))⟩
 f27:=⟨Tryz.f184.name,by kernel_rfl,Tryz.func184.trans (congrArg some (by kernel_rfl))⟩
 f28:=Tryz.func185.trans (congrArg some (by kernel_rfl))
 f29:=Tryz.func186.trans (congrArg some (by kernel_rfl))
 f46:=⟨Tryz.f201.name,by kernel_rfl,Tryz.func201.trans (congrArg some (by kernel_rfl))⟩
 f47:=Tryz.func202.trans (congrArg some (by kernel_rfl))
 f48:=Tryz.func203.trans (congrArg some (by kernel_rfl))
 f49:=⟨Tryz.f204.name,by kernel_rfl,Tryz.func204.trans (congrArg some (by kernel_rfl))⟩
 f50:=⟨Tryz.f205.name,by kernel_rfl,Tryz.func205.trans (congrArg some (by kernel_rfl))⟩
 f57:=⟨Tryz.f219.name,by kernel_rfl,Tryz.func219.trans (congrArg some (by kernel_rfl))⟩
 t0:=Tryz.underlying0
 a0:=Tryz.isAgg0
 z0:=Tryz.sizeOf0
 v0:=Tryz.zeroValue0
 t3:=Tryz.underlying3
 a3:=Tryz.isAgg3
 z3:=Tryz.sizeOf3
 v3:=Tryz.zeroValue3
 t4:=Tryz.underlying4
 a4:=Tryz.isAgg4
 z4:=Tryz.sizeOf4
 v4:=Tryz.zeroValue4
 t5:=Tryz.underlying5
 a5:=Tryz.isAgg5
 z5:=Tryz.sizeOf5
 v5:=Tryz.zeroValue5
 t9:=Tryz.underlying9
 a9:=Tryz.isAgg9
 z9:=Tryz.sizeOf9
 v9:=Tryz.zeroValue9
 t22:=Tryz.underlying90
 a22:=Tryz.isAgg90
 z22:=Tryz.sizeOf90
 v22:=Tryz.zeroValue90
 t25:=Tryz.underlying151
 a25:=Tryz.isAgg151
 z25:=Tryz.sizeOf151
 v25:=Tryz.zeroValue151
 t39:=Tryz.underlying153
 a39:=Tryz.isAgg153
 z39:=Tryz.sizeOf153
 v39:=Tryz.zeroValue153
 t45:=Tryz.underlying262
 a45:=Tryz.isAgg262
 z45:=Tryz.sizeOf262
 v45:=Tryz.zeroValue262
 t46:=Tryz.underlying263
 a46:=Tryz.isAgg263
 z46:=Tryz.sizeOf263
 v46:=Tryz.zeroValue263
 t50:=Tryz.underlying144
 a50:=Tryz.isAgg144
 z50:=Tryz.sizeOf144
 v50:=Tryz.zeroValue144
 t53:=Tryz.underlying102
 a53:=Tryz.isAgg102
 z53:=Tryz.sizeOf102
 v53:=Tryz.zeroValue102
 t55:=Tryz.underlying190
 a55:=Tryz.isAgg190
 z55:=Tryz.sizeOf190
 v55:=Tryz.zeroValue190
 t66:=Tryz.underlying282
 a66:=Tryz.isAgg282
 z66:=Tryz.sizeOf282
 v66:=Tryz.zeroValue282
 t70:=Tryz.underlying286
 a70:=Tryz.isAgg286
 z70:=Tryz.sizeOf286
 v70:=Tryz.zeroValue286
 t76:=Tryz.underlying298
 a76:=Tryz.isAgg298
 z76:=Tryz.sizeOf298
 v76:=Tryz.zeroValue298
 t77:=Tryz.underlying299
 a77:=Tryz.isAgg299
 z77:=Tryz.sizeOf299
 v77:=Tryz.zeroValue299}
end Go.Ev
namespace Go.Ev
open Go Go.Proofs Go.RowKit Go.Shelf Go.Sort
theorem EW{α:Type}[Inhabited α]{k:Nat}(enc:α->List Value)(hk:∀x,(enc x).length=k)(d:Array α):flatK enc k d=(d.toList.flatMap enc).toArray:=by
 have W:(d.toList.map enc).flatten.length=d.size*k:=by
  rw[List.length_flatten,List.map_map]
  have:(List.length∘enc)=fun _=>k:=funext hk
  have Y:∀l:List α,(l.map fun _=>k).sum=l.length*k:=fun l=>by
   induction l with
   |nil=>simp
   |cons a l Z=>rw[List.map_cons,List.sum_cons,Z,List.length_cons,Nat.succ_mul,Nat.add_comm]
  rw[this,Y]
  simp
 apply Array.ext'
 apply List.ext_getElem?
 intro t
 show _=(d.toList.flatMap enc)[t]?
 rw[List.flatMap_def]
 by_cases o:t<d.size*k
 ·have la:0<k:=by
   rcases Nat.eq_zero_or_pos k with O|O
   ·subst O;simp at o
   ·exact O
  have az:t/k<d.size:=Nat.div_lt_of_lt_mul (by rw[Nat.mul_comm];exact o)
  have U:t %k<k:=Nat.mod_lt _ la
  rw[Cz (k:=k) (fun c lc=>by obtain⟨x,_,rfl⟩:=List.mem_map.1 lc;exact hk x) t (by simpa using o),Array.getElem?_toList]
  unfold flatK
  rw[Array.getElem?_map,Array.getElem?_range,if_pos o]
  simp only[Option.map_some,List.getElem?_map,Array.getElem?_toList]
  rw[Array.getElem?_eq_getElem az]
  simp only[Option.map_some,Option.getD_some]
  rw[getElem!_pos d _ az,List.getElem?_eq_getElem (by rw[hk];exact U)]
  simp[hk,U]
 ·rw[List.getElem?_eq_none (by simp[flatK];omega),List.getElem?_eq_none (by rw[W];omega)]
section
variable {α:Type} [Inhabited α] {enc:α->List Value} {w:World} {g cap n m:Nat} {cells:List Value} {base e:Nat} {os:Array Obj}
theorem Pr(hk:∀x,(enc x).length=2){d:Array α}(O:w.ownsRow base e 2 (.slice (some ⟨g,0,none⟩) n cap) n (d.toList.flatMap enc)):HoldsK enc 2 w g 0 d:=by
 show Go.Sort.Holds id w g 0 (flatK enc 2 d)
 rw[EW enc hk]
 rcases O.2 with ⟨o,_⟩|⟨Z,la,cur,o,lc,W,ld,lf,lg,lh⟩
 ·cases o
 cases o
 intro j U
 have Y:j<(d.toList.flatMap enc).length:=by simpa using U
 rw[Nat.zero_add]
 refine⟨?_,by simp[World.frozen?,W]⟩
 have h1:=O.cells (g:=g) rfl j _ (List.getElem?_eq_getElem Y)
 rw[gL,Nat.zero_add]at h1
 rw[h1,getElem!_pos _ j U]
 rfl
theorem A7(hk:∀x,(enc x).length=2){d:Array α}(lc:d.size=n)(ld:w.ownsRow base e 2 (.slice (some ⟨g,0,none⟩) n cap) n cells):
  (sortWorldK enc 2 w g 0 m d os).ownsRow base e 2 (.slice (some ⟨g,0,none⟩) n cap) n (d.toList.flatMap enc)/\(∀j,j<w.heap.size->j≠g->(sortWorldK enc 2 w g 0 m d os).heap[j]? =w.heap[j]?):=by
 rcases ld.2 with ⟨O,_⟩|⟨ll,lm,cur,O,lf,W,Y,lg,Z,ln⟩
 ·cases O
 cases O
 have lh:g<w.heap.size:=(Array.getElem?_eq_some_iff.1 W).1
 have li:(d.toList.flatMap enc).length=n*2:=by
  have:=congrArg Array.size (EW enc hk d)
  rw[size_flatK,lc]at this
  simpa using this.symm
 have la:∀j,j<w.heap.size->(sortWorldK enc 2 w g 0 m d os).heap[j]? =if g=j then(w.heap[j]?).map (Go.Sort.onCells (Go.Sort.putCells id 0 (flatK enc 2 d)))else w.heap[j]? :=by
  intro j o
  unfold sortWorldK
  rw[heap_grow_old _ _ (by simpa[putRowK,Go.Sort.size_putRow]using o)]
  unfold putRowK Go.Sort.putRow
  rw[AE]
  rfl
 refine⟨⟨li,.inr ⟨g,cap,_,rfl,lf,by rw[la g lh,if_pos rfl,W];rfl,Y,lg,by simp[Go.Sort.putCells,Z],?_⟩⟩,fun j o lj=>by rw[la j o,if_neg (fun e=>lj e.symm)]⟩
 apply List.ext_getElem?
 intro j
 rw[EW enc hk]
 have lo:n*2<=cur.size:=by rw[Z];exact Nat.mul_le_mul_right _ Y
 by_cases o:j<n*2
 ·have lk:j<cur.size:=by omega
  have U:j<(d.toList.flatMap enc).length:=by omega
  rw[List.getElem?_take_of_lt o,Array.getElem?_toList]
  unfold Go.Sort.putCells
  rw[Array.getElem?_mapIdx,Array.getElem?_eq_getElem lk,Option.map_some,if_pos ⟨Nat.zero_le _,by simpa using U⟩,List.getElem?_eq_getElem U]
  simp only[Nat.sub_zero,id]
  rw[getElem!_pos _ j (by simpa using U)]
  simp
 ·rw[List.getElem?_eq_none (by simp;omega),List.getElem?_eq_none (by omega)]
end
theorem JG{α:Type}{p:α->Prop}:∀(l:List α),(∀x∈l,p x)->∃d:List {x//p x},d.map (·.1)=l
 |[],_=>⟨[],rfl⟩
 |x::l,h=>let⟨d,af⟩:=JG l fun y o=>h y (List.mem_cons_of_mem _ o);⟨⟨x,h x List.mem_cons_self⟩::d,by simp[af]⟩
set_option maxRecDepth 100000 in
set_option maxHeartbeats 4000000 in
theorem QA(lf b:Nat)(es:Array MapEntry)(clock:Nat)(o:List (Int×Int×Unit))(w:World)(lz:lf<w.heap.size)(lA:w.cell? ⟨lf,0,none⟩=some (.map (some b)))
  (lB:w.heap[b]? =some (.map es clock))(lC:∀e∈es.toList,e.born<clock)(lD:(es.toList.map (·.born)).Nodup)(hk:es.toList.map (·.key)=o.map fr)(l8:o.length<=maxLen)(l9:o.length*8<=140737488355328)
  (c:(Int×Int×Unit)->(Int×Int×Unit)->Option Int)(lE:mO c o=true)(g:Nat)(bN:Array Value)(lF:∀args w,(callFunc g args).run Tryz.prog w=.ok (.enter g args) w)
  (hcmp:∀W:World,W.os=w.os->W.tape=w.tape->W.output=w.output->w.heap.size<=W.heap.size->(∀j,j<w.heap.size->W.heap[j]? =w.heap[j]?)->∀x y n,c x y=some n->
   Calls Tryz.prog g (#[fr x,fr y]++bN) W fun e O=>e=.returned (.int .i64 n)/\∃q os,O=grow (W.drewN q) os):
  Calls Tryz.prog 75 #[.func (.func 107) #[] #[.pointer (some ⟨lf,0,none⟩)],.func (.func g) #[] bN] w fun e w'=>
   ∃v,e=.returned v/\w'.ownsRow w.heap.size 54 2 v o.length ((jY (eh c) o).flatMap ce)/\Below w.heap.size w w':=by
 have aa:es.size=o.length:=by
  have:=congrArg List.length hk
  simpa using this
 obtain⟨lq,lG⟩:=Mr lE
 refine(callsIn_wide (n:=6)).1 ?_
 refine callsIn_of_wp Tryz.func75 rfl trivial ?_ rfl
 simp only[Tryz.ntmps75,List.size_toArray,List.length_cons,List.length_nil,Nat.reduceAdd,Nat.reduceSub,Array.replicate_succ,Array.replicate_zero,List.push_toArray,List.append_toArray,List.nil_append,List.cons_append]
 have lH:=WM Fence.wide 5 trivial trivial rfl (by omega) 107 #[.pointer (some ⟨lf,0,none⟩)] trivial (enters_of Tryz.func107 (by kernel_rfl) rfl) (fun Y=>Y.Perm o) (fun _=>True) es.size (by omega) (by omega) w (N1 Fence.wide 3 trivial rfl (by omega) lf b es clock o w lz lA lB lC lD hk)
 gi_wp2_with (refine⟨trivial,?_⟩;gi_at_call 105;refine lH.mono ?_;rintro e W ⟨v,Y,rfl,li,la,U⟩)
 have lm:Y.length=o.length:=li.length_eq
 obtain⟨O,lI,lJ,lK⟩:∃R:World->Prop,Calls Tryz.prog 106 #[v,.func (.func g) #[] bN] W (fun e O=>e=.returned (.tuple #[])/\R O)/\
   (∀O,R O->O.ownsRow w.heap.size 54 2 v o.length ((jY (eh c) o).flatMap ce))/\(∀O,R O->Below w.heap.size w O):=by
  by_cases lj:Y=[]
  ·have lL:o=[]:=List.eq_nil_of_length_eq_zero (by rw[<-lm,lj];rfl)
   subst lj
   refine⟨fun O=>O=W,?_,fun O e=>?_,fun O e=>by rw[e];exact U⟩
   ·have lc:∃p cap,v=.slice p 0 cap:=by
     rcases la.2 with ⟨lc,_⟩|⟨Z,cap,cur,lc,_⟩
     ·exact⟨none,0,lc⟩
     ·exact⟨_,cap,lc⟩
    obtain⟨p,cap,rfl⟩:=lc
    exact AnyF.slices_SortFunc_none (P:=Tryz.prog) (ρ:=Dm) Hn p cap _ W
   ·rw[e,lL]
    exact la
  ·rcases la.2 with ⟨_,lM⟩|⟨Z,cap,cur,lc,ab,lN,ad,ae,ag,ah⟩
   ·exact absurd (List.eq_nil_of_length_eq_zero lM) lj
   subst lc
   have lO:Z<W.heap.size:=(Array.getElem?_eq_some_iff.1 lN).1
   obtain⟨lP,lQ⟩:=List.exists_mem_of_ne_nil Y lj
   haveI:Inhabited {x//x∈o}:=⟨⟨lP,li.mem_iff.1 lQ⟩⟩
   obtain⟨d,af⟩:∃d:Array {x//x∈o},d.toList.map (·.1)=Y:=let⟨l,lR⟩:=JG Y fun x lS=>li.mem_iff.1 lS;⟨l.toArray,lR⟩
   have lk:d.size=Y.length:=by have:=congrArg List.length af;simpa using this
   obtain⟨enc,ll⟩:∃enc:{x//x∈o}->List Value,enc=fun x=>ce x.1:=⟨_,rfl⟩
   have lg:∀x,(enc x).length=2:=fun x=>by rw[ll];rfl
   have lr:∀l:List {x//x∈o},l.flatMap enc=(l.map (·.1)).flatMap ce:=fun l=>by rw[ll,List.flatMap_map]
   obtain⟨ld,lT⟩:∃ld:{x//x∈o}->{x//x∈o}->Int,ld=fun x y=>(c x.1 y.1).getD 0:=⟨_,rfl⟩
   have lt:∀x y,c x.1 y.1=some (ld x y):=fun x y=>by
    obtain⟨n,lU⟩:=lG x.1 x.2 y.1 y.2
    rw[lT];simp only[lU];rfl
   have lu:∀x y,ltOf ld x y=eh c x.1 y.1:=fun x y=>by unfold ltOf eh;rw[lt]
   have hO:=lq.swo lu
   have lV:W.ownsRow w.heap.size 54 2 (.slice (some ⟨Z,0,none⟩) Y.length cap) Y.length (d.toList.flatMap enc):=by rw[lr,af];exact la
   have hH:HoldsK enc 2 W Z 0 d:=Pr lg lV
   have lW:∀x,∀u∈enc x,u.oneCell'=true:=fun x u ln=>by rw[ll]at ln;simp[ce]at ln;rcases ln with rfl|rfl<;>rfl
   have lX:CmpLays Tryz.prog g bN enc 2 ld Z 0 d.size W:=by
    intro m os lv ai x y
    have lY:=A7 (m:=m) (os:=os) lg (d:=lv) (n:=Y.length) (by omega) la
    have lZ:#[Value.agg (enc x).toArray,Value.agg (enc y).toArray]++bN=#[fr x.1,fr y.1]++bN:=by rw[ll];rfl
    rw[lZ]
    refine hcmp (sortWorldK enc 2 W Z 0 m lv os) U.os U.tape U.output ?_ (fun j lh=>?_) x.1 y.1 _ (lt x y)
    ·refine Nat.le_trans U.size ?_
     unfold sortWorldK
     rw[size_grow]
     exact Nat.le_trans (by simp[putRowK,Go.Sort.size_putRow]) (Nat.le_add_right _ _)
    ·rw[lY.2 j (Nat.lt_of_lt_of_le lh U.size) (by omega)]
     exact U.block j lh
   have lw:=AnyQ.slices_SortFunc (P:=Tryz.prog) (ρ:=Dm) Hn 2 Tryz.isAgg54 Tryz.sizeOf54 enc lg lW ld hO g bN Z 0 cap d W lF lX hH lO (by omega)
   rw[lk]at lw
   refine⟨fun O=>∃d':Array {x//x∈o},∃n os,d'.toList.map (·.1)=jY (eh c) o/\d'.size=Y.length/\O=sortWorldK enc 2 W Z 0 n d' os,lw.mono ?_,?_,?_⟩
   ·rintro e O ⟨rfl,d',n,os,l0,l3,rfl⟩
    have lo:=NZ (show PermIn 0 d.size d d' by rw[lk];exact l0)
    have l4:=R6 (show SortedIn (ltOf ld) 0 d'.size d' by rw[lo.2,lk];exact l3)
    refine⟨rfl,d',n,os,RP lq (fun y l5=>l5) ?_ ?_,by rw[lo.2,lk],rfl⟩
    ·exact((lo.1.map (·.1)).trans (by rw[af])).trans li
    ·rw[List.pairwise_map]
     exact l4.imp fun h=>by rw[<-lu];exact h
   ·rintro O ⟨d',n,os,lx,lp,rfl⟩
    have:=(A7 (m:=n) (os:=os) lg (d:=d') lp la).1
    rw[lr,lx,lm]at this
    rw[lm]
    exact this
   ·rintro O ⟨d',n,os,lx,lp,rfl⟩
    have l6:=(A7 (m:=n) (os:=os) lg (d:=d') lp la).2
    refine⟨U.os,U.tape,U.output,?_,fun j lh=>?_⟩
    ·refine Nat.le_trans U.size ?_
     unfold sortWorldK
     rw[size_grow]
     exact Nat.le_trans (by simp[putRowK,Go.Sort.size_putRow]) (Nat.le_add_right _ _)
    ·rw[l6 j (Nat.lt_of_lt_of_le lh U.size) (by omega)]
     exact U.block j lh
 have l7:=(callsIn_wide (n:=5)).2 lI
 gi_wp2_with (refine⟨trivial,?_⟩;gi_at_call 106;refine l7.mono ?_;rintro e aj ⟨rfl,ly⟩)
 go_ret
 exact⟨_,rfl,lJ _ ly,lK _ ly⟩
end Go.Ev
