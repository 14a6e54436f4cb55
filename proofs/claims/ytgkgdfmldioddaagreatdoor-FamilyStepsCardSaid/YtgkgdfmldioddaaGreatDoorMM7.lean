/- Shallow functions, by program. -/
import Derived.Test.YtgkgdfmldioddaaGreatDoorMM4
import Derived.Test.YtgkgdfmldioddaaGreatDoorMM6
import Derived.Test.YtgkgdfmldioddaaGreatDoorTyA
set_option linter.unusedSectionVars false
set_option linter.unusedVariables false
set_option linter.unusedSimpArgs false
namespace Go.Ev
open Go
set_option linter.unusedVariables false
def zeg (k : Nat) (a1 : yT42) (w1 : List UInt8) : Option Int :=
 Option.bind (word_Letters k (a1.1, a1.2.1, ()) w1) fun v1 =>
 some (v1.2)
def law_nothing (k : Nat) (a1 : yT42) : Option yT27 :=
 Option.bind (at? a1.2.1 (0 : Int)) fun x1 =>
 some ((([] : List UInt8), ([(x1.1, (0 : Int), (0 : Int), ())] : List yT61), ([(x1.1, (0 : Int), (0 : Int), (0 : Int), ())] : List yT57), (([((7 : Int), (0 : Int), (0 : Int), (0 : Int), ([] : List (Int)), ())] : List yT47), ()), (([((7 : Int), (0 : Int), (0 : Int), (0 : Int), ([] : List (Int)), ())] : List yT47), ()), (1 : Int), false, ()))
def rule_letters_j1 (k : Nat) (a1 : yT42) (v1 : (Int × Int)) (out1 : List (Int)) (w2 : List UInt8) (go1 : (List UInt8) -> (List (Int)) -> Option yT73) (t1 : Bool) : Option yT73 :=
 if t1 then
  some (([] : List (Int)), (6 : Int))
 else
  (
   Option.bind (rule_letter k (a1.1, a1.2.1, ()) v1.1) fun v2 =>
   if !v2 then
    some (([] : List (Int)), (5 : Int))
   else
    (
     if (List.length out1 : Int) == (256 : Int) then
      some (([] : List (Int)), (4 : Int))
     else
      (
       Option.bind (chk (List.length out1 + List.length ([v1.1] : List (Int)) <= lim)) fun _ =>
       Option.bind (sub? w2 v1.2 (w2.length : Int)) fun s1 =>
       go1 s1 (out1 ++ ([v1.1] : List (Int)))
      )
    )
  )
def rule_letters_b1 (k : Nat) (a1 : yT42) (go1 : (List UInt8) -> (List (Int)) -> Option yT73) (w2 : List UInt8) (out1 : List (Int)) : Option yT73 :=
 if !(w2 == ([] : List UInt8)) then
  (
   Option.bind (utf8_DecodeRuneInString k w2) fun v1 =>
   rule_letters_j1 k a1 v1 out1 w2 go1 ((v1.1 == (65533 : Int)) && (v1.2 == (1 : Int)))
  )
 else
  some (out1, (0 : Int))
def zeh (k : Nat) (a1 : yT42) : Nat -> (List UInt8) -> (List (Int)) -> Option yT73
 | 0, _, _ => none
 | n + 1, w2, out1 => rule_letters_b1 k a1 (zeh k a1 n) w2 out1
def rule_letters (k : Nat) (a1 : yT42) (w1 : List UInt8) : Option yT73 :=
 zeh k a1 k w1 ([] : List (Int))
def feature_like_j1  (t1 : Bool) : Option Bool :=
 some (t1)
def feature_like (k : Nat) (l1 : yT64) (plus1 : Int) (minus1 : Int) : Option Bool :=
 feature_like_j1 (((wu32 (BitVec.toNat (BitVec.ofInt 32 plus1 &&& ~~~BitVec.ofInt 32 l1.2.1))) == (0 : Int)) && ((wu32 (BitVec.toNat (BitVec.ofInt 32 minus1 &&& ~~~BitVec.ofInt 32 l1.2.2.1))) == (0 : Int)))
def zei (go1 : Int -> (List (Int)) -> Option yT73) (t1 : Int) (out2 : List (Int)) : Option yT73 :=
 go1 (wi64 (t1 + (1 : Int))) out2
def feature_Class_b1 (k : Nat) (a1 : yT42) (plus1 : Int) (minus1 : Int) (go1 : Int -> (List (Int)) -> Option yT73) (t1 : Int) (out1 : List (Int)) : Option yT73 :=
 if decide (t1 < (List.length a1.2.1 : Int)) then
  (
   Option.bind (at? a1.2.1 t1) fun x1 =>
   Option.bind (feature_like k (x1.1, x1.2.1, x1.2.2.1, ()) plus1 minus1) fun v3 =>
   if v3 then
    (
     Option.bind (chk (List.length out1 + List.length ([x1.1] : List (Int)) <= lim)) fun _ =>
     zei go1 t1 (out1 ++ ([x1.1] : List (Int)))
    )
   else
    zei go1 t1 out1
  )
 else
  some (out1, (0 : Int))
def zej (k : Nat) (a1 : yT42) (plus1 : Int) (minus1 : Int) : Nat -> Int -> (List (Int)) -> Option yT73
 | 0, _, _ => none
 | n + 1, t1, out1 => feature_Class_b1 k a1 plus1 minus1 (zej k a1 plus1 minus1 n) t1 out1
def feature_Class (k : Nat) (a1 : yT42) (plus1 : Int) (minus1 : Int) : Option yT73 :=
 Option.bind (zcw k (a1.1, a1.2.1, ())) fun v1 =>
 if v1 != (0 : Int) then
  some (([] : List (Int)), v1)
 else
  (
   Option.bind (zcs k (a1.1, a1.2.1, ()) plus1 minus1) fun v2 =>
   if !v2 then
    some (([] : List (Int)), (20 : Int))
   else
    zej k a1 plus1 minus1 k (0 : Int) ([] : List (Int))
  )
def rule_ready_c1_i1_b1 (v1 : yT73) (m1 : List yT50) (plus1 : Int) (minus1 : Int) (go1 : Int -> yT69 -> Option yT46) (t1 : Int) (m3 : List (Int × Bool)) : Option yT46 :=
 if decide (t1 < (List.length v1.1 : Int)) then
  (
   Option.bind (at? v1.1 t1) fun x1 =>
   go1 (wi64 (t1 + (1 : Int))) (mset (eqEl (.int .i32)) m3 x1 true)
  )
 else
  some (mset (eqEl yT66) m1 ([plus1, minus1] : List (Int)) (some m3))
def zek (v1 : yT73) (m1 : List yT50) (plus1 : Int) (minus1 : Int) : Nat -> Int -> yT69 -> Option yT46
 | 0, _, _ => none
 | n + 1, t1, m3 => rule_ready_c1_i1_b1 v1 m1 plus1 minus1 (zek v1 m1 plus1 minus1 n) t1 m3
def zel (k : Nat) (plus1 : Int) (minus1 : Int) (c1 : List (List UInt8)) (c2 : List yT61) (c3 : List UInt8) (c4 : List yT61) (c5 : List yT57) (c6 : List yT47) (c7 : List yT47) (c8 : Int) (c9 : Bool) (m1 : List yT50) : Option yT46 :=
 Option.bind (feature_Class k (c1, c2, ()) plus1 minus1) fun v1 =>
 zek v1 m1 plus1 minus1 k (0 : Int) ([] : List (Int × Bool))
def rule_ready_i1_b3 (k : Nat) (x2 : yT43) (a4 : List (List UInt8)) (a5 : List yT61) (t10 : List UInt8) (t11 : List yT61) (t12 : List yT57) (t13 : List yT47) (t14 : List yT47) (t15 : Int) (t16 : Bool) (go2 : Int -> yT70 -> yT54 -> yT46 -> (List UInt8) -> yT54 -> yT53 -> yT44 -> yT44 -> Int -> Bool -> yT38 -> Option yT21) (t9 : Int) (t17 : List yT41) (go3 : Int -> yT46 -> Option yT21) (t18 : Int) (m4 : List yT50) : Option yT21 :=
 if decide (t18 < (List.length x2.1 : Int)) then
  (
   Option.bind (at? x2.1 t18) fun x3 =>
   Option.bind (zel k x3.2.2.1 x3.2.2.2.1 a4 a5 t10 t11 t12 t13 t14 t15 t16 m4) fun v2 =>
   go3 (wi64 (t18 + (1 : Int))) v2
  )
 else
  go2 (wi64 (t9 + (1 : Int))) a4 a5 m4 t10 t11 t12 t13 t14 t15 t16 t17
def zem (k : Nat) (x2 : yT43) (a4 : List (List UInt8)) (a5 : List yT61) (t10 : List UInt8) (t11 : List yT61) (t12 : List yT57) (t13 : List yT47) (t14 : List yT47) (t15 : Int) (t16 : Bool) (go2 : Int -> yT70 -> yT54 -> yT46 -> (List UInt8) -> yT54 -> yT53 -> yT44 -> yT44 -> Int -> Bool -> yT38 -> Option yT21) (t9 : Int) (t17 : List yT41) : Nat -> Int -> yT46 -> Option yT21
 | 0, _, _ => none
 | n + 1, t18, m4 => rule_ready_i1_b3 k x2 a4 a5 t10 t11 t12 t13 t14 t15 t16 go2 t9 t17 (zem k x2 a4 a5 t10 t11 t12 t13 t14 t15 t16 go2 t9 t17 n) t18 m4
def rule_ready_i1_b2 (k : Nat) (r1 : yT27) (go2 : Int -> yT70 -> yT54 -> yT46 -> (List UInt8) -> yT54 -> yT53 -> yT44 -> yT44 -> Int -> Bool -> yT38 -> Option yT21) (t9 : Int) (a4 : List (List UInt8)) (a5 : List yT61) (m3 : List yT50) (t10 : List UInt8) (t11 : List yT61) (t12 : List yT57) (t13 : List yT47) (t14 : List yT47) (t15 : Int) (t16 : Bool) (t17 : List yT41) : Option yT21 :=
 if decide (t9 < (List.length ([(r1.2.2.2.1.1, ()), (r1.2.2.2.2.1.1, ())] : List yT41) : Int)) then
  (
   Option.bind (at? t17 t9) fun x2 =>
   zem k x2 a4 a5 t10 t11 t12 t13 t14 t15 t16 go2 t9 t17 k (0 : Int) m3
  )
 else
  some (a4, a5, m3, t10, t11, t12, t13, t14, t15, t16)
def zen (k : Nat) (r1 : yT27) : Nat -> Int -> yT70 -> yT54 -> yT46 -> (List UInt8) -> yT54 -> yT53 -> yT44 -> yT44 -> Int -> Bool -> yT38 -> Option yT21
 | 0, _, _, _, _, _, _, _, _, _, _, _, _ => none
 | n + 1, t9, a4, a5, m3, t10, t11, t12, t13, t14, t15, t16, t17 => rule_ready_i1_b2 k r1 (zen k r1 n) t9 a4 a5 m3 t10 t11 t12 t13 t14 t15 t16 t17
def rule_ready_i1_b1 (k : Nat) (r1 : yT27) (a1 : yT42) (go1 : Int -> yT46 -> Option yT21) (t8 : Int) (m2 : List yT50) : Option yT21 :=
 if decide (t8 < (List.length r1.2.1 : Int)) then
  (
   Option.bind (at? r1.2.1 t8) fun x1 =>
   Option.bind (zel k x1.2.1 x1.2.2.1 a1.1 a1.2.1 r1.1 r1.2.1 r1.2.2.1 r1.2.2.2.1.1 r1.2.2.2.2.1.1 r1.2.2.2.2.2.1 r1.2.2.2.2.2.2.1 m2) fun v1 =>
   go1 (wi64 (t8 + (1 : Int))) v1
  )
 else
  zen k r1 k (0 : Int) a1.1 a1.2.1 m2 r1.1 r1.2.1 r1.2.2.1 r1.2.2.2.1.1 r1.2.2.2.2.1.1 r1.2.2.2.2.2.1 r1.2.2.2.2.2.2.1 ([(r1.2.2.2.1.1, ()), (r1.2.2.2.2.1.1, ())] : List yT41)
def zeo (k : Nat) (r1 : yT27) (a1 : yT42) : Nat -> Int -> yT46 -> Option yT21
 | 0, _, _ => none
 | n + 1, t8, m2 => rule_ready_i1_b1 k r1 a1 (zeo k r1 a1 n) t8 m2
def zep (k : Nat) (a1 : yT42) (r1 : yT27) : Option yT21 :=
 zeo k r1 a1 k (0 : Int) ([] : List yT50)
def zeq (k : Nat) (x1 : Int) (r1 : Int) (plus1 : Int) (minus1 : Int) (c1 : List UInt8) (c2 : List yT61) (c3 : List yT57) (c4 : List yT47) (c5 : List yT47) (c6 : Int) (c7 : Bool) (m1 : List yT50) (c8 : List (List UInt8)) (c9 : List yT61) : Option Bool :=
 if r1 != (0 : Int) then
  some (x1 == r1)
 else
  some ((mget (eqEl (.int .i32)) (((mget (eqEl yT66) m1 ([plus1, minus1] : List (Int))).getD (none : Option yT69)).getD []) x1).getD false)
def zer  (t14 : List yT47) (t15 : List (Int)) (t16 : List UInt8) (t17 : List yT61) (t18 : List yT57) (t19 : List yT47) (t20 : List yT47) (t21 : Int) (t22 : Bool) (m3 : List yT50) (t23 : List (List UInt8)) (t24 : List yT61) (t25 : List (Bool)) (t26 : List (Bool)) : Option yT6 :=
 some (t14, t15, t16, t17, t18, t19, t20, t21, t22, m3, t23, t24, t25, t26)
def zes (t29 : List (Bool)) (t28 : Int) (go1 : Int -> (List (Bool)) -> Option yT6) (t30 : Bool) : Option yT6 :=
 Option.bind (at? t29 (wi64 (t28 + (1 : Int)))) fun x4 =>
 go1 (wi64 (t28 + (1 : Int))) (List.set t29 (wi64 (t28 + (1 : Int))).toNat t30)
def zet (t29 : List (Bool)) (t28 : Int) (go1 : Int -> (List (Bool)) -> Option yT6) (t31 : Bool) : Option yT6 :=
 zes t29 t28 go1 t31
def zeu (k : Nat) (c2 : List (Int)) (l1 : List (Bool)) (x1 : yT49) (c3 : List UInt8) (c4 : List yT61) (c5 : List yT57) (c6 : List yT47) (c7 : List yT47) (c8 : Int) (c9 : Bool) (m1 : List yT50) (c10 : List (List UInt8)) (c11 : List yT61) (c1 : List yT47) (go1 : Int -> (List (Bool)) -> Option yT6) (t28 : Int) (t29 : List (Bool)) : Option yT6 :=
 if decide (t28 < (List.length c2 : Int)) then
  (
   Option.bind (at? c2 t28) fun x2 =>
   Option.bind (at? l1 t28) fun x3 =>
   if x3 then
    (
     if x1.1 == (4 : Int) then
      zet t29 t28 go1 true
     else
      (
       Option.bind (zeq k x2 x1.2.1 x1.2.2.1 x1.2.2.2.1 c3 c4 c5 c6 c7 c8 c9 m1 c10 c11) fun v1 =>
       zet t29 t28 go1 v1
      )
    )
   else
    zes t29 t28 go1 false
  )
 else
  zer c1 c2 c3 c4 c5 c6 c7 c8 c9 m1 c10 c11 t29 l1
def zev (k : Nat) (c2 : List (Int)) (l1 : List (Bool)) (x1 : yT49) (c3 : List UInt8) (c4 : List yT61) (c5 : List yT57) (c6 : List yT47) (c7 : List yT47) (c8 : Int) (c9 : Bool) (m1 : List yT50) (c10 : List (List UInt8)) (c11 : List yT61) (c1 : List yT47) : Nat -> Int -> (List (Bool)) -> Option yT6
 | 0, _, _ => none
 | n + 1, t28, t29 => zeu k c2 l1 x1 c3 c4 c5 c6 c7 c8 c9 m1 c10 c11 c1 (zev k c2 l1 x1 c3 c4 c5 c6 c7 c8 c9 m1 c10 c11 c1 n) t28 t29
def zew (x1 : yT49) (rec1 : Int -> yT44 -> (List (Int)) -> (List UInt8) -> yT54 -> yT53 -> yT44 -> yT44 -> Int -> Bool -> yT46 -> yT70 -> yT54 -> (List (Bool)) -> Option yT6) (l1 : List (Bool)) (go2 : Int -> yT44 -> (List (Int)) -> (List UInt8) -> yT54 -> yT53 -> yT44 -> yT44 -> Int -> Bool -> yT46 -> yT70 -> yT54 -> (List (Bool)) -> Option yT6) (t32 : Int) (t33 : List yT47) (t34 : List (Int)) (t35 : List UInt8) (t36 : List yT61) (t37 : List yT57) (t38 : List yT47) (t39 : List yT47) (t40 : Int) (t41 : Bool) (m4 : List yT50) (t42 : List (List UInt8)) (t43 : List yT61) (t44 : List (Bool)) : Option yT6 :=
 if decide (t32 < (List.length x1.2.2.2.2.1 : Int)) then
  (
   Option.bind (at? x1.2.2.2.2.1 t32) fun x9 =>
   Option.bind (rec1 x9 t33 t34 t35 t36 t37 t38 t39 t40 t41 m4 t42 t43 t44) fun v2 =>
   go2 (wi64 (t32 + (1 : Int))) v2.1 v2.2.1 v2.2.2.1 v2.2.2.2.1 v2.2.2.2.2.1 v2.2.2.2.2.2.1 v2.2.2.2.2.2.2.1 v2.2.2.2.2.2.2.2.1 v2.2.2.2.2.2.2.2.2.1 v2.2.2.2.2.2.2.2.2.2.1 v2.2.2.2.2.2.2.2.2.2.2.1 v2.2.2.2.2.2.2.2.2.2.2.2.1 v2.2.2.2.2.2.2.2.2.2.2.2.2.1
  )
 else
  zer t33 t34 t35 t36 t37 t38 t39 t40 t41 m4 t42 t43 t44 l1
def zex (x1 : yT49) (rec1 : Int -> yT44 -> (List (Int)) -> (List UInt8) -> yT54 -> yT53 -> yT44 -> yT44 -> Int -> Bool -> yT46 -> yT70 -> yT54 -> (List (Bool)) -> Option yT6) (l1 : List (Bool)) : Nat -> Int -> yT44 -> (List (Int)) -> (List UInt8) -> yT54 -> yT53 -> yT44 -> yT44 -> Int -> Bool -> yT46 -> yT70 -> yT54 -> (List (Bool)) -> Option yT6
 | 0, _, _, _, _, _, _, _, _, _, _, _, _, _, _ => none
 | n + 1, t32, t33, t34, t35, t36, t37, t38, t39, t40, t41, m4, t42, t43, t44 => zew x1 rec1 l1 (zex x1 rec1 l1 n) t32 t33 t34 t35 t36 t37 t38 t39 t40 t41 m4 t42 t43 t44
def zey (t60 : List (Bool)) (t59 : Int) (go4 : Int -> (List (Bool)) -> Option yT6) (t61 : Bool) : Option yT6 :=
 Option.bind (at? t60 t59) fun x13 =>
 go4 (wi64 (t59 + (1 : Int))) (List.set t60 (t59).toNat t61)
def zez (v3 : yT6) (go3 : Int -> yT44 -> (List (Int)) -> (List UInt8) -> yT54 -> yT53 -> yT44 -> yT44 -> Int -> Bool -> yT46 -> yT70 -> yT54 -> (List (Bool)) -> (List (Bool)) -> Option yT6) (t45 : Int) (go4 : Int -> (List (Bool)) -> Option yT6) (t59 : Int) (t60 : List (Bool)) : Option yT6 :=
 if decide (t59 < (List.length v3.2.2.2.2.2.2.2.2.2.2.2.2.1 : Int)) then
  (
   Option.bind (at? v3.2.2.2.2.2.2.2.2.2.2.2.2.1 t59) fun x11 =>
   Option.bind (at? t60 t59) fun x12 =>
   zey t60 t59 go4 (x12 || x11)
  )
 else
  go3 (wi64 (t45 + (1 : Int))) v3.1 v3.2.1 v3.2.2.1 v3.2.2.2.1 v3.2.2.2.2.1 v3.2.2.2.2.2.1 v3.2.2.2.2.2.2.1 v3.2.2.2.2.2.2.2.1 v3.2.2.2.2.2.2.2.2.1 v3.2.2.2.2.2.2.2.2.2.1 v3.2.2.2.2.2.2.2.2.2.2.1 v3.2.2.2.2.2.2.2.2.2.2.2.1 t60 v3.2.2.2.2.2.2.2.2.2.2.2.2.2
def ze0 (v3 : yT6) (go3 : Int -> yT44 -> (List (Int)) -> (List UInt8) -> yT54 -> yT53 -> yT44 -> yT44 -> Int -> Bool -> yT46 -> yT70 -> yT54 -> (List (Bool)) -> (List (Bool)) -> Option yT6) (t45 : Int) : Nat -> Int -> (List (Bool)) -> Option yT6
 | 0, _, _ => none
 | n + 1, t59, t60 => zez v3 go3 t45 (ze0 v3 go3 t45 n) t59 t60
def ze1 (k : Nat) (x1 : yT49) (rec1 : Int -> yT44 -> (List (Int)) -> (List UInt8) -> yT54 -> yT53 -> yT44 -> yT44 -> Int -> Bool -> yT46 -> yT70 -> yT54 -> (List (Bool)) -> Option yT6) (go3 : Int -> yT44 -> (List (Int)) -> (List UInt8) -> yT54 -> yT53 -> yT44 -> yT44 -> Int -> Bool -> yT46 -> yT70 -> yT54 -> (List (Bool)) -> (List (Bool)) -> Option yT6) (t45 : Int) (t46 : List yT47) (t47 : List (Int)) (t48 : List UInt8) (t49 : List yT61) (t50 : List yT57) (t51 : List yT47) (t52 : List yT47) (t53 : Int) (t54 : Bool) (m5 : List yT50) (t55 : List (List UInt8)) (t56 : List yT61) (t57 : List (Bool)) (t58 : List (Bool)) : Option yT6 :=
 if decide (t45 < (List.length x1.2.2.2.2.1 : Int)) then
  (
   Option.bind (at? x1.2.2.2.2.1 t45) fun x10 =>
   Option.bind (rec1 x10 t46 t47 t48 t49 t50 t51 t52 t53 t54 m5 t55 t56 t58) fun v3 =>
   ze0 v3 go3 t45 k (0 : Int) t57
  )
 else
  zer t46 t47 t48 t49 t50 t51 t52 t53 t54 m5 t55 t56 t57 t58
def ze2 (k : Nat) (x1 : yT49) (rec1 : Int -> yT44 -> (List (Int)) -> (List UInt8) -> yT54 -> yT53 -> yT44 -> yT44 -> Int -> Bool -> yT46 -> yT70 -> yT54 -> (List (Bool)) -> Option yT6) : Nat -> Int -> yT44 -> (List (Int)) -> (List UInt8) -> yT54 -> yT53 -> yT44 -> yT44 -> Int -> Bool -> yT46 -> yT70 -> yT54 -> (List (Bool)) -> (List (Bool)) -> Option yT6
 | 0, _, _, _, _, _, _, _, _, _, _, _, _, _, _, _ => none
 | n + 1, t45, t46, t47, t48, t49, t50, t51, t52, t53, t54, m5, t55, t56, t57, t58 => ze1 k x1 rec1 (ze2 k x1 rec1 n) t45 t46 t47 t48 t49 t50 t51 t52 t53 t54 m5 t55 t56 t57 t58
def ze3 (t63 : List (Bool)) (t62 : Int) (go5 : Int -> (List (Bool)) -> Option yT6) (t64 : Bool) : Option yT6 :=
 Option.bind (at? t63 t62) fun x17 =>
 go5 (wi64 (t62 + (1 : Int))) (List.set t63 (t62).toNat t64)
def ze4 (v4 : yT6) (go5 : Int -> (List (Bool)) -> Option yT6) (t62 : Int) (t63 : List (Bool)) : Option yT6 :=
 if decide (t62 < (List.length v4.2.2.2.2.2.2.2.2.2.2.2.2.2 : Int)) then
  (
   Option.bind (at? v4.2.2.2.2.2.2.2.2.2.2.2.2.2 t62) fun x15 =>
   Option.bind (at? t63 t62) fun x16 =>
   ze3 t63 t62 go5 (x16 || x15)
  )
 else
  zer v4.1 v4.2.1 v4.2.2.1 v4.2.2.2.1 v4.2.2.2.2.1 v4.2.2.2.2.2.1 v4.2.2.2.2.2.2.1 v4.2.2.2.2.2.2.2.1 v4.2.2.2.2.2.2.2.2.1 v4.2.2.2.2.2.2.2.2.2.1 v4.2.2.2.2.2.2.2.2.2.2.1 v4.2.2.2.2.2.2.2.2.2.2.2.1 t63 v4.2.2.2.2.2.2.2.2.2.2.2.2.2
def ze5 (v4 : yT6) : Nat -> Int -> (List (Bool)) -> Option yT6
 | 0, _, _ => none
 | n + 1, t62, t63 => ze4 v4 (ze5 v4 n) t62 t63
def ze6 (go7 : Bool -> Int -> (List (Bool)) -> Option yT6) (t78 : Int) (more2 : Bool) (t80 : List (Bool)) : Option yT6 :=
 go7 more2 (wi64 (t78 + (1 : Int))) t80
def ze7 (t79 : List (Bool)) (t78 : Int) (go7 : Bool -> Int -> (List (Bool)) -> Option yT6) (more1 : Bool) (t81 : Bool) : Option yT6 :=
 if t81 then
  (
   Option.bind (at? t79 t78) fun x20 =>
   ze6 go7 t78 true (List.set t79 (t78).toNat true)
  )
 else
  ze6 go7 t78 more1 t79
def ze8 (v5 : yT6) (t77 : List (Bool)) (go6 : Int -> Int -> Int -> Int -> (List (Int)) -> yT44 -> (List (Int)) -> (List UInt8) -> yT54 -> yT53 -> yT44 -> yT44 -> Int -> Bool -> yT46 -> yT70 -> yT54 -> (List (Bool)) -> (List (Bool)) -> Option yT6) (n1 : Int) (n2 : Int) (n3 : Int) (n4 : Int) (n5 : List (Int)) (go7 : Bool -> Int -> (List (Bool)) -> Option yT6) (more1 : Bool) (t78 : Int) (t79 : List (Bool)) : Option yT6 :=
 if decide (t78 < (List.length v5.2.2.2.2.2.2.2.2.2.2.2.2.1 : Int)) then
  (
   Option.bind (at? v5.2.2.2.2.2.2.2.2.2.2.2.2.1 t78) fun x19 =>
   if x19 then
    (
     Option.bind (at? t79 t78) fun x21 =>
     ze7 t79 t78 go7 more1 (!x21)
    )
   else
    ze7 t79 t78 go7 more1 false
  )
 else
  (
   if !more1 then
    zer v5.1 v5.2.1 v5.2.2.1 v5.2.2.2.1 v5.2.2.2.2.1 v5.2.2.2.2.2.1 v5.2.2.2.2.2.2.1 v5.2.2.2.2.2.2.2.1 v5.2.2.2.2.2.2.2.2.1 v5.2.2.2.2.2.2.2.2.2.1 v5.2.2.2.2.2.2.2.2.2.2.1 v5.2.2.2.2.2.2.2.2.2.2.2.1 t79 t77
   else
    go6 n1 n2 n3 n4 n5 v5.1 v5.2.1 v5.2.2.1 v5.2.2.2.1 v5.2.2.2.2.1 v5.2.2.2.2.2.1 v5.2.2.2.2.2.2.1 v5.2.2.2.2.2.2.2.1 v5.2.2.2.2.2.2.2.2.1 v5.2.2.2.2.2.2.2.2.2.1 v5.2.2.2.2.2.2.2.2.2.2.1 v5.2.2.2.2.2.2.2.2.2.2.2.1 t79 t77
  )
def ze9 (v5 : yT6) (t77 : List (Bool)) (go6 : Int -> Int -> Int -> Int -> (List (Int)) -> yT44 -> (List (Int)) -> (List UInt8) -> yT54 -> yT53 -> yT44 -> yT44 -> Int -> Bool -> yT46 -> yT70 -> yT54 -> (List (Bool)) -> (List (Bool)) -> Option yT6) (n1 : Int) (n2 : Int) (n3 : Int) (n4 : Int) (n5 : List (Int)) : Nat -> Bool -> Int -> (List (Bool)) -> Option yT6
 | 0, _, _, _ => none
 | n + 1, more1, t78, t79 => ze8 v5 t77 go6 n1 n2 n3 n4 n5 (ze9 v5 t77 go6 n1 n2 n3 n4 n5 n) more1 t78 t79
def zfa (k : Nat) (rec1 : Int -> yT44 -> (List (Int)) -> (List UInt8) -> yT54 -> yT53 -> yT44 -> yT44 -> Int -> Bool -> yT46 -> yT70 -> yT54 -> (List (Bool)) -> Option yT6) (go6 : Int -> Int -> Int -> Int -> (List (Int)) -> yT44 -> (List (Int)) -> (List UInt8) -> yT54 -> yT53 -> yT44 -> yT44 -> Int -> Bool -> yT46 -> yT70 -> yT54 -> (List (Bool)) -> (List (Bool)) -> Option yT6) (n1 : Int) (n2 : Int) (n3 : Int) (n4 : Int) (n5 : List (Int)) (t65 : List yT47) (t66 : List (Int)) (t67 : List UInt8) (t68 : List yT61) (t69 : List yT57) (t70 : List yT47) (t71 : List yT47) (t72 : Int) (t73 : Bool) (m6 : List yT50) (t74 : List (List UInt8)) (t75 : List yT61) (t76 : List (Bool)) (t77 : List (Bool)) : Option yT6 :=
 Option.bind (at? n5 (0 : Int)) fun x18 =>
 Option.bind (rec1 x18 t65 t66 t67 t68 t69 t70 t71 t72 t73 m6 t74 t75 t76) fun v5 =>
 ze9 v5 t77 go6 n1 n2 n3 n4 n5 k false (0 : Int) v5.2.2.2.2.2.2.2.2.2.2.2.2.2
def zfb (k : Nat) (rec1 : Int -> yT44 -> (List (Int)) -> (List UInt8) -> yT54 -> yT53 -> yT44 -> yT44 -> Int -> Bool -> yT46 -> yT70 -> yT54 -> (List (Bool)) -> Option yT6) : Nat -> Int -> Int -> Int -> Int -> (List (Int)) -> yT44 -> (List (Int)) -> (List UInt8) -> yT54 -> yT53 -> yT44 -> yT44 -> Int -> Bool -> yT46 -> yT70 -> yT54 -> (List (Bool)) -> (List (Bool)) -> Option yT6
 | 0, _, _, _, _, _, _, _, _, _, _, _, _, _, _, _, _, _, _, _ => none
 | n + 1, n1, n2, n3, n4, n5, t65, t66, t67, t68, t69, t70, t71, t72, t73, m6, t74, t75, t76, t77 => zfa k rec1 (zfb k rec1 n) n1 n2 n3 n4 n5 t65 t66 t67 t68 t69 t70 t71 t72 t73 m6 t74 t75 t76 t77
def zfc (k : Nat) (c2 : List (Int)) (l1 : List (Bool)) (x1 : yT49) (c3 : List UInt8) (c4 : List yT61) (c5 : List yT57) (c6 : List yT47) (c7 : List yT47) (c8 : Int) (c9 : Bool) (m1 : List yT50) (c10 : List (List UInt8)) (c11 : List yT61) (c1 : List yT47) (rec1 : Int -> yT44 -> (List (Int)) -> (List UInt8) -> yT54 -> yT53 -> yT44 -> yT44 -> Int -> Bool -> yT46 -> yT70 -> yT54 -> (List (Bool)) -> Option yT6) (t27 : Bool) : Option yT6 :=
 if t27 then
  zev k c2 l1 x1 c3 c4 c5 c6 c7 c8 c9 m1 c10 c11 c1 k (0 : Int) (List.replicate (wi64 ((List.length c2 : Int) + (1 : Int))).toNat false)
 else
  (
   if x1.1 == (5 : Int) then
    (
     Option.bind (at? l1 (0 : Int)) fun x5 =>
     Option.bind (at? (List.replicate (wi64 ((List.length c2 : Int) + (1 : Int))).toNat false) (0 : Int)) fun x6 =>
     Option.bind (at? l1 (List.length c2 : Int)) fun x7 =>
     Option.bind (at? (List.set (List.replicate (wi64 ((List.length c2 : Int) + (1 : Int))).toNat false) ((0 : Int)).toNat x5) (List.length c2 : Int)) fun x8 =>
     zer c1 c2 c3 c4 c5 c6 c7 c8 c9 m1 c10 c11 (List.set (List.set (List.replicate (wi64 ((List.length c2 : Int) + (1 : Int))).toNat false) ((0 : Int)).toNat x5) ((List.length c2 : Int)).toNat x7) l1
    )
   else
    (
     if x1.1 == (6 : Int) then
      (
       Option.bind (chk (List.length l1 <= List.length (List.replicate (wi64 ((List.length c2 : Int) + (1 : Int))).toNat false))) fun _ =>
       zex x1 rec1 l1 k (0 : Int) c1 c2 c3 c4 c5 c6 c7 c8 c9 m1 c10 c11 (l1 ++ List.drop (List.length l1) (List.replicate (wi64 ((List.length c2 : Int) + (1 : Int))).toNat false))
      )
     else
      (
       if x1.1 == (7 : Int) then
        ze2 k x1 rec1 k (0 : Int) c1 c2 c3 c4 c5 c6 c7 c8 c9 m1 c10 c11 (List.replicate (wi64 ((List.length c2 : Int) + (1 : Int))).toNat false) l1
       else
        (
         if x1.1 == (9 : Int) then
          (
           Option.bind (at? x1.2.2.2.2.1 (0 : Int)) fun x14 =>
           Option.bind (rec1 x14 c1 c2 c3 c4 c5 c6 c7 c8 c9 m1 c10 c11 l1) fun v4 =>
           Option.bind (chk (List.length v4.2.2.2.2.2.2.2.2.2.2.2.2.1 <= List.length (List.replicate (wi64 ((List.length c2 : Int) + (1 : Int))).toNat false))) fun _ =>
           ze5 v4 k (0 : Int) (v4.2.2.2.2.2.2.2.2.2.2.2.2.1 ++ List.drop (List.length v4.2.2.2.2.2.2.2.2.2.2.2.2.1) (List.replicate (wi64 ((List.length c2 : Int) + (1 : Int))).toNat false))
          )
         else
          (
           if x1.1 == (8 : Int) then
            (
             Option.bind (chk (List.length l1 <= List.length (List.replicate (wi64 ((List.length c2 : Int) + (1 : Int))).toNat false))) fun _ =>
             zfb k rec1 k x1.1 x1.2.1 x1.2.2.1 x1.2.2.2.1 x1.2.2.2.2.1 c1 c2 c3 c4 c5 c6 c7 c8 c9 m1 c10 c11 (l1 ++ List.drop (List.length l1) (List.replicate (wi64 ((List.length c2 : Int) + (1 : Int))).toNat false)) l1
            )
           else
            zer c1 c2 c3 c4 c5 c6 c7 c8 c9 m1 c10 c11 (List.replicate (wi64 ((List.length c2 : Int) + (1 : Int))).toNat false) l1
          )
        )
      )
    )
  )
def zfd : Nat -> Int -> yT44 -> (List (Int)) -> (List UInt8) -> yT54 -> yT53 -> yT44 -> yT44 -> Int -> Bool -> yT46 -> yT70 -> yT54 -> (List (Bool)) -> Option yT6
 | 0, _, _, _, _, _, _, _, _, _, _, _, _, _, _ => none
 | k + 1, at1, c1, c2, c3, c4, c5, c6, c7, c8, c9, m1, c10, c11, l1 =>
  Option.bind (at? c1 at1) fun x1 =>
  Option.bind (chk (0 <= (wi64 ((List.length c2 : Int) + (1 : Int))) /\ (wi64 ((List.length c2 : Int) + (1 : Int))) <= (wi64 ((List.length c2 : Int) + (1 : Int))) /\ (wi64 ((List.length c2 : Int) + (1 : Int))) <= (lim : Int))) fun _ =>
  if x1.1 == (1 : Int) then
   (
    Option.bind (chk (List.length l1 <= List.length (List.replicate (wi64 ((List.length c2 : Int) + (1 : Int))).toNat false))) fun _ =>
    zer c1 c2 c3 c4 c5 c6 c7 c8 c9 m1 c10 c11 (l1 ++ List.drop (List.length l1) (List.replicate (wi64 ((List.length c2 : Int) + (1 : Int))).toNat false)) l1
   )
  else
   (
    if x1.1 == (2 : Int) then
     zfc k c2 l1 x1 c3 c4 c5 c6 c7 c8 c9 m1 c10 c11 c1 (zfd k) (x1.1 == (2 : Int))
    else
     (
      if x1.1 == (3 : Int) then
       zfc k c2 l1 x1 c3 c4 c5 c6 c7 c8 c9 m1 c10 c11 c1 (zfd k) (x1.1 == (3 : Int))
      else
       zfc k c2 l1 x1 c3 c4 c5 c6 c7 c8 c9 m1 c10 c11 c1 (zfd k) (x1.1 == (4 : Int))
     )
   )
def zfe (k : Nat) (p1 : yT43) (l1 : List (Int)) (c1 : List UInt8) (c2 : List yT61) (c3 : List yT57) (c4 : List yT47) (c5 : List yT47) (c6 : Int) (c7 : Bool) (m1 : List yT50) (c8 : List (List UInt8)) (c9 : List yT61) (l2 : List (Bool)) : Option yT12 :=
 Option.bind (zfd k (0 : Int) p1.1 l1 c1 c2 c3 c4 c5 c6 c7 m1 c8 c9 l2) fun v1 =>
 some (v1.2.2.1, v1.2.2.2.1, v1.2.2.2.2.1, v1.2.2.2.2.2.1, v1.2.2.2.2.2.2.1, v1.2.2.2.2.2.2.2.1, v1.2.2.2.2.2.2.2.2.1, v1.2.2.2.2.2.2.2.2.2.1, v1.2.2.2.2.2.2.2.2.2.2.1, v1.2.2.2.2.2.2.2.2.2.2.2.1, v1.2.2.2.2.2.2.2.2.2.2.2.2.1, v1.2.2.2.2.2.2.2.2.2.2.2.2.2)
def rule_maker_lies_i1_b2 (k : Nat) (l1 : List (Int)) (c4 : List yT47) (c1 : List UInt8) (c2 : List yT61) (c3 : List yT57) (c5 : List yT47) (c6 : Int) (c7 : Bool) (m1 : List yT50) (c8 : List (List UInt8)) (c9 : List yT61) (at1 : Int) (go2 : Int -> (List (Bool)) -> Option yT20) (t11 : Int) (t12 : List (Bool)) : Option yT20 :=
 if decide (t11 < (List.length (List.replicate (wi64 ((List.length l1 : Int) + (1 : Int))).toNat false) : Int)) then
  (
   Option.bind (at? t12 t11) fun x3 =>
   go2 (wi64 (t11 + (1 : Int))) (List.set t12 (t11).toNat true)
  )
 else
  (
   Option.bind (zfe k (c4, ()) l1 c1 c2 c3 c4 c5 c6 c7 m1 c8 c9 t12) fun v2 =>
   Option.bind (at? v2.2.2.2.2.2.2.2.2.2.2.1 at1) fun x4 =>
   if !x4 then
    some (false, v2.1, v2.2.1, v2.2.2.1, v2.2.2.2.1, v2.2.2.2.2.1, v2.2.2.2.2.2.1, v2.2.2.2.2.2.2.1, v2.2.2.2.2.2.2.2.1, v2.2.2.2.2.2.2.2.2.1, v2.2.2.2.2.2.2.2.2.2.1)
   else
    (
     Option.bind (at? (List.replicate (List.length v2.2.2.2.2.2.2.2.2.2.2.2) false) (wi64 (at1 + (List.length c2 : Int)))) fun x5 =>
     Option.bind (zfe k (v2.2.2.2.2.1, ()) l1 v2.1 v2.2.1 v2.2.2.1 v2.2.2.2.1 v2.2.2.2.2.1 v2.2.2.2.2.2.1 v2.2.2.2.2.2.2.1 v2.2.2.2.2.2.2.2.1 v2.2.2.2.2.2.2.2.2.1 v2.2.2.2.2.2.2.2.2.2.1 (List.set (List.replicate (List.length v2.2.2.2.2.2.2.2.2.2.2.2) false) (wi64 (at1 + (List.length c2 : Int))).toNat true)) fun v3 =>
     Option.bind (zdl k v3.2.2.2.2.2.2.2.2.2.2.1 true) fun v4 =>
     some (v4, v3.1, v3.2.1, v3.2.2.1, v3.2.2.2.1, v3.2.2.2.2.1, v3.2.2.2.2.2.1, v3.2.2.2.2.2.2.1, v3.2.2.2.2.2.2.2.1, v3.2.2.2.2.2.2.2.2.1, v3.2.2.2.2.2.2.2.2.2.1)
    )
  )
def zff (k : Nat) (l1 : List (Int)) (c4 : List yT47) (c1 : List UInt8) (c2 : List yT61) (c3 : List yT57) (c5 : List yT47) (c6 : Int) (c7 : Bool) (m1 : List yT50) (c8 : List (List UInt8)) (c9 : List yT61) (at1 : Int) : Nat -> Int -> (List (Bool)) -> Option yT20
 | 0, _, _ => none
 | n + 1, t11, t12 => rule_maker_lies_i1_b2 k l1 c4 c1 c2 c3 c5 c6 c7 m1 c8 c9 at1 (zff k l1 c4 c1 c2 c3 c5 c6 c7 m1 c8 c9 at1 n) t11 t12
def rule_maker_lies_i1_b1 (k : Nat) (c2 : List yT61) (l1 : List (Int)) (at1 : Int) (c1 : List UInt8) (c3 : List yT57) (c4 : List yT47) (c5 : List yT47) (c6 : Int) (c7 : Bool) (m1 : List yT50) (c8 : List (List UInt8)) (c9 : List yT61) (go1 : Int -> Option yT20) (t10 : Int) : Option yT20 :=
 if decide (t10 < (List.length c2 : Int)) then
  (
   Option.bind (at? c2 t10) fun x1 =>
   Option.bind (at? l1 (wi64 (at1 + t10))) fun x2 =>
   Option.bind (zeq k x2 x1.1 x1.2.1 x1.2.2.1 c1 c2 c3 c4 c5 c6 c7 m1 c8 c9) fun v1 =>
   if !v1 then
    some (false, c1, c2, c3, c4, c5, c6, c7, m1, c8, c9)
   else
    go1 (wi64 (t10 + (1 : Int)))
  )
 else
  (
   Option.bind (chk (0 <= (wi64 ((List.length l1 : Int) + (1 : Int))) /\ (wi64 ((List.length l1 : Int) + (1 : Int))) <= (wi64 ((List.length l1 : Int) + (1 : Int))) /\ (wi64 ((List.length l1 : Int) + (1 : Int))) <= (lim : Int))) fun _ =>
   zff k l1 c4 c1 c2 c3 c5 c6 c7 m1 c8 c9 at1 k (0 : Int) (List.replicate (wi64 ((List.length l1 : Int) + (1 : Int))).toNat false)
  )
def zfg (k : Nat) (c2 : List yT61) (l1 : List (Int)) (at1 : Int) (c1 : List UInt8) (c3 : List yT57) (c4 : List yT47) (c5 : List yT47) (c6 : Int) (c7 : Bool) (m1 : List yT50) (c8 : List (List UInt8)) (c9 : List yT61) : Nat -> Int -> Option yT20
 | 0, _ => none
 | n + 1, t10 => rule_maker_lies_i1_b1 k c2 l1 at1 c1 c3 c4 c5 c6 c7 m1 c8 c9 (zfg k c2 l1 at1 c1 c3 c4 c5 c6 c7 m1 c8 c9 n) t10
def zfh (k : Nat) (l1 : List (Int)) (at1 : Int) (c1 : List UInt8) (c2 : List yT61) (c3 : List yT57) (c4 : List yT47) (c5 : List yT47) (c6 : Int) (c7 : Bool) (m1 : List yT50) (c8 : List (List UInt8)) (c9 : List yT61) : Option yT20 :=
 if decide ((List.length l1 : Int) < (wi64 (at1 + (List.length c2 : Int)))) then
  some (false, c1, c2, c3, c4, c5, c6, c7, m1, c8, c9)
 else
  zfg k c2 l1 at1 c1 c3 c4 c5 c6 c7 m1 c8 c9 k (0 : Int)
def rule_Places_j1 (go1 : Int -> yT70 -> yT54 -> (List UInt8) -> yT54 -> yT53 -> yT44 -> yT44 -> Int -> Bool -> yT46 -> (List yT67) -> Option yT56) (t1 : Int) (t11 : List (List UInt8)) (t12 : List yT61) (t13 : List UInt8) (t14 : List yT61) (t15 : List yT57) (t16 : List yT47) (t17 : List yT47) (t18 : Int) (t19 : Bool) (m2 : List yT50) (out2 : List yT67) : Option yT56 :=
 go1 (wi64 (t1 + (1 : Int))) t11 t12 t13 t14 t15 t16 t17 t18 t19 m2 out2
def rule_Places_b1 (k : Nat) (v2 : yT73) (r1 : yT27) (go1 : Int -> yT70 -> yT54 -> (List UInt8) -> yT54 -> yT53 -> yT44 -> yT44 -> Int -> Bool -> yT46 -> (List yT67) -> Option yT56) (t1 : Int) (t2 : List (List UInt8)) (t3 : List yT61) (t4 : List UInt8) (t5 : List yT61) (t6 : List yT57) (t7 : List yT47) (t8 : List yT47) (t9 : Int) (t10 : Bool) (m1 : List yT50) (out1 : List yT67) : Option yT56 :=
 if decide (t1 < (wi64 ((List.length v2.1 : Int) + (1 : Int)))) then
  (
   Option.bind (zfh k v2.1 t1 t4 t5 t6 t7 t8 t9 t10 m1 t2 t3) fun v4 =>
   if v4.1 then
    (
     Option.bind (chk (List.length out1 + List.length ([(t1, wi64 (t1 + (List.length r1.2.1 : Int)), ())] : List yT67) <= lim)) fun _ =>
     rule_Places_j1 go1 t1 v4.2.2.2.2.2.2.2.2.2.1 v4.2.2.2.2.2.2.2.2.2.2 v4.2.1 v4.2.2.1 v4.2.2.2.1 v4.2.2.2.2.1 v4.2.2.2.2.2.1 v4.2.2.2.2.2.2.1 v4.2.2.2.2.2.2.2.1 v4.2.2.2.2.2.2.2.2.1 (out1 ++ ([(t1, wi64 (t1 + (List.length r1.2.1 : Int)), ())] : List yT67))
    )
   else
    rule_Places_j1 go1 t1 v4.2.2.2.2.2.2.2.2.2.1 v4.2.2.2.2.2.2.2.2.2.2 v4.2.1 v4.2.2.1 v4.2.2.2.1 v4.2.2.2.2.1 v4.2.2.2.2.2.1 v4.2.2.2.2.2.2.1 v4.2.2.2.2.2.2.2.1 v4.2.2.2.2.2.2.2.2.1 out1
  )
 else
  some (out1, (0 : Int))
def zfi (k : Nat) (v2 : yT73) (r1 : yT27) : Nat -> Int -> yT70 -> yT54 -> (List UInt8) -> yT54 -> yT53 -> yT44 -> yT44 -> Int -> Bool -> yT46 -> (List yT67) -> Option yT56
 | 0, _, _, _, _, _, _, _, _, _, _, _, _ => none
 | n + 1, t1, t2, t3, t4, t5, t6, t7, t8, t9, t10, m1, out1 => rule_Places_b1 k v2 r1 (zfi k v2 r1 n) t1 t2 t3 t4 t5 t6 t7 t8 t9 t10 m1 out1
def rule_Places (k : Nat) (a1 : yT42) (r1 : yT27) (w1 : List UInt8) : Option yT56 :=
 Option.bind (rule_Check k (a1.1, a1.2.1, ()) (r1.1, r1.2.1, r1.2.2.1, (r1.2.2.2.1.1, ()), (r1.2.2.2.2.1.1, ()), r1.2.2.2.2.2.1, r1.2.2.2.2.2.2.1, ())) fun v1 =>
 if v1 != (0 : Int) then
  some (([] : List yT67), v1)
 else
  (
   Option.bind (rule_letters k (a1.1, a1.2.1, ()) w1) fun v2 =>
   if v2.2 != (0 : Int) then
    some (([] : List yT67), v2.2)
   else
    (
     Option.bind (zep k (a1.1, a1.2.1, ()) (r1.1, r1.2.1, r1.2.2.1, (r1.2.2.2.1.1, ()), (r1.2.2.2.2.1.1, ()), r1.2.2.2.2.2.1, r1.2.2.2.2.2.2.1, ())) fun v3 =>
     zfi k v2 r1 k (0 : Int) v3.1 v3.2.1 v3.2.2.2.1 v3.2.2.2.2.1 v3.2.2.2.2.2.1 v3.2.2.2.2.2.2.1 v3.2.2.2.2.2.2.2.1 v3.2.2.2.2.2.2.2.2.1 v3.2.2.2.2.2.2.2.2.2 v3.2.2.1 ([] : List yT67)
    )
  )
def law_worded (k : Nat) (a1 : yT42) (w1 : List UInt8) : Option Int :=
 Option.bind (law_nothing k (a1.1, a1.2.1, ())) fun v1 =>
 Option.bind (rule_Places k (a1.1, a1.2.1, ()) v1 w1) fun v2 =>
 some (v2.2)
def law_asked (k : Nat) (a1 : yT42) (w1 : List UInt8) (l1 : List yT26) : Option Int :=
 Option.bind (law_Check k (a1.1, a1.2.1, ()) l1) fun v1 =>
 if v1 != (0 : Int) then
  some (v1)
 else
  (
   Option.bind (law_worded k (a1.1, a1.2.1, ()) w1) fun v2 =>
   some (v2)
  )
def rule_letters_i1_j1 (k : Nat) (a1 : yT42) (v1 : (Int × Int)) (out1 : List (Int)) (w2 : List UInt8) (go1 : (List UInt8) -> (List (Int)) -> Option (Int × List (Int))) (t2 : Bool) : Option (Int × List (Int)) :=
 if t2 then
  some ((6 : Int), ([] : List (Int)))
 else
  (
   Option.bind (rule_letter k (a1.1, a1.2.1, ()) v1.1) fun v2 =>
   if !v2 then
    some ((5 : Int), ([] : List (Int)))
   else
    (
     if (List.length out1 : Int) == (256 : Int) then
      some ((4 : Int), ([] : List (Int)))
     else
      (
       Option.bind (chk (List.length out1 + List.length ([v1.1] : List (Int)) <= lim)) fun _ =>
       Option.bind (sub? w2 v1.2 (w2.length : Int)) fun s1 =>
       go1 s1 (out1 ++ ([v1.1] : List (Int)))
      )
    )
  )
def rule_letters_i1_b1 (k : Nat) (a1 : yT42) (go1 : (List UInt8) -> (List (Int)) -> Option (Int × List (Int))) (w2 : List UInt8) (out1 : List (Int)) : Option (Int × List (Int)) :=
 if !(w2 == ([] : List UInt8)) then
  (
   Option.bind (utf8_DecodeRuneInString k w2) fun v1 =>
   rule_letters_i1_j1 k a1 v1 out1 w2 go1 ((v1.1 == (65533 : Int)) && (v1.2 == (1 : Int)))
  )
 else
  some ((0 : Int), out1)
def zfj (k : Nat) (a1 : yT42) : Nat -> (List UInt8) -> (List (Int)) -> Option (Int × List (Int))
 | 0, _, _ => none
 | n + 1, w2, out1 => rule_letters_i1_b1 k a1 (zfj k a1 n) w2 out1
def zfk (k : Nat) (a1 : yT42) (w1 : List UInt8) : Option (Int × List (Int)) :=
 zfj k a1 k w1 ([] : List (Int))
def zfl (go1 : Int -> (List UInt8) -> yT54 -> yT53 -> yT44 -> yT44 -> Int -> Bool -> yT46 -> yT70 -> yT54 -> (List (Bool)) -> Option yT17) (i2 : Int) (t21 : List UInt8) (t22 : List yT61) (t23 : List yT57) (t24 : List yT47) (t25 : List yT47) (t26 : Int) (t27 : Bool) (m4 : List yT50) (t28 : List (List UInt8)) (t29 : List yT61) (t30 : List (Bool)) : Option yT17 :=
 go1 (wi64 (i2 + (1 : Int))) t21 t22 t23 t24 t25 t26 t27 m4 t28 t29 t30
def rule_maker_all_i1_b1 (k : Nat) (l1 : List (Int)) (go1 : Int -> (List UInt8) -> yT54 -> yT53 -> yT44 -> yT44 -> Int -> Bool -> yT46 -> yT70 -> yT54 -> (List (Bool)) -> Option yT17) (i1 : Int) (t11 : List UInt8) (t12 : List yT61) (t13 : List yT57) (t14 : List yT47) (t15 : List yT47) (t16 : Int) (t17 : Bool) (m3 : List yT50) (t18 : List (List UInt8)) (t19 : List yT61) (t20 : List (Bool)) : Option yT17 :=
 if decide (i1 <= (List.length l1 : Int)) then
  (
   Option.bind (zfh k l1 i1 t11 t12 t13 t14 t15 t16 t17 m3 t18 t19) fun v1 =>
   if v1.1 then
    (
     Option.bind (at? t20 i1) fun x1 =>
     zfl go1 (wi64 (i1 + (mxI (0 : Int) (wi64 ((List.length v1.2.2.1 : Int) - (1 : Int)))))) v1.2.1 v1.2.2.1 v1.2.2.2.1 v1.2.2.2.2.1 v1.2.2.2.2.2.1 v1.2.2.2.2.2.2.1 v1.2.2.2.2.2.2.2.1 v1.2.2.2.2.2.2.2.2.1 v1.2.2.2.2.2.2.2.2.2.1 v1.2.2.2.2.2.2.2.2.2.2 (List.set t20 (i1).toNat true)
    )
   else
    zfl go1 i1 v1.2.1 v1.2.2.1 v1.2.2.2.1 v1.2.2.2.2.1 v1.2.2.2.2.2.1 v1.2.2.2.2.2.2.1 v1.2.2.2.2.2.2.2.1 v1.2.2.2.2.2.2.2.2.1 v1.2.2.2.2.2.2.2.2.2.1 v1.2.2.2.2.2.2.2.2.2.2 t20
  )
 else
  some (t11, t12, t13, t14, t15, t16, t17, m3, t18, t19, t20)
def zfm (k : Nat) (l1 : List (Int)) : Nat -> Int -> (List UInt8) -> yT54 -> yT53 -> yT44 -> yT44 -> Int -> Bool -> yT46 -> yT70 -> yT54 -> (List (Bool)) -> Option yT17
 | 0, _, _, _, _, _, _, _, _, _, _, _, _ => none
 | n + 1, i1, t11, t12, t13, t14, t15, t16, t17, m3, t18, t19, t20 => rule_maker_all_i1_b1 k l1 (zfm k l1 n) i1 t11 t12 t13 t14 t15 t16 t17 m3 t18 t19 t20
def zfn (k : Nat) (l1 : List (Int)) (c1 : List UInt8) (c2 : List yT61) (c3 : List yT57) (c4 : List yT47) (c5 : List yT47) (c6 : Int) (c7 : Bool) (m1 : List yT50) (c8 : List (List UInt8)) (c9 : List yT61) : Option yT17 :=
 Option.bind (chk (0 <= (wi64 ((List.length l1 : Int) + (1 : Int))) /\ (wi64 ((List.length l1 : Int) + (1 : Int))) <= (wi64 ((List.length l1 : Int) + (1 : Int))) /\ (wi64 ((List.length l1 : Int) + (1 : Int))) <= (lim : Int))) fun _ =>
 zfm k l1 k (0 : Int) c1 c2 c3 c4 c5 c6 c7 m1 c8 c9 (List.replicate (wi64 ((List.length l1 : Int) + (1 : Int))).toNat false)
def zfo (s1 : List UInt8) (go1 : Int -> Nat -> Option Int) (n1 : Int) (pos1 : Nat) : Option Int :=
 if decide (pos1 < List.length s1) then
  go1 (wi64 (n1 + (1 : Int))) (pos1 + widthAt s1 pos1)
 else
  some (n1)
def zfp (s1 : List UInt8) : Nat -> Int -> Nat -> Option Int
 | 0, _, _ => none
 | n + 1, n1, pos1 => zfo s1 (zfp s1 n) n1 pos1
def zfq (k : Nat) (s1 : List UInt8) : Option Int :=
 zfp s1 k (0 : Int) 0
def rule_maker_all_c1 (k : Nat) (x1 : List UInt8) (at1 : Int) (t1 : List (Bool)) : Option Bool :=
 Option.bind (at? t1 at1) fun x2 =>
 some (x2)
def feature_Near_c1 (k : Nat) (x1 : yT64) (y1 : yT64) (t1 : yT64) : Option Int :=
 Option.bind (zef k (x1.1, x1.2.1, x1.2.2.1, ()) t1) fun v1 =>
 Option.bind (zef k (y1.1, y1.2.1, y1.2.2.1, ()) t1) fun v2 =>
 some (wi64 (v1 - v2))
def zfr (go1 : Int -> Int -> Int -> Int -> Option yT64) (i1 : Int) (m4 : Int) (m5 : Int) (m6 : Int) : Option yT64 :=
 go1 (wi64 (i1 + (1 : Int))) m4 m5 m6
def zfs (k : Nat) (x1 : List yT61) (cmp1 : (yT64 × Unit)) (go1 : Int -> Int -> Int -> Int -> Option yT64) (i1 : Int) (m1 : Int) (m2 : Int) (m3 : Int) : Option yT64 :=
 if decide (i1 < (List.length x1 : Int)) then
  (
   Option.bind (at? x1 i1) fun x3 =>
   Option.bind (feature_Near_c1 k x3 (m1, m2, m3, ()) cmp1.1) fun v1 =>
   if decide (v1 < (0 : Int)) then
    zfr go1 i1 x3.1 x3.2.1 x3.2.2.1
   else
    zfr go1 i1 m1 m2 m3
  )
 else
  some ((m1, m2, m3, ()))
def zft (k : Nat) (x1 : List yT61) (cmp1 : (yT64 × Unit)) : Nat -> Int -> Int -> Int -> Int -> Option yT64
 | 0, _, _, _, _ => none
 | n + 1, i1, m1, m2, m3 => zfs k x1 cmp1 (zft k x1 cmp1 n) i1 m1 m2 m3
def zfu (k : Nat) (x1 : List yT61) (cmp1 : (yT64 × Unit)) : Option yT64 :=
 if decide ((List.length x1 : Int) < (1 : Int)) then
  none
 else
  (
   Option.bind (at? x1 (0 : Int)) fun x2 =>
   zft k x1 cmp1 k (1 : Int) x2.1 x2.2.1 x2.2.2.1
  )
def feature_Near (k : Nat) (a1 : yT42) (r1 : Int) (plus1 : Int) (minus1 : Int) : Option (Int × Int) :=
 Option.bind (feature_Of k (a1.1, a1.2.1, ()) r1) fun v1 =>
 if v1.2 != (0 : Int) then
  some ((0 : Int), v1.2)
 else
  (
   Option.bind (zcs k (a1.1, a1.2.1, ()) plus1 minus1) fun v2 =>
   if !v2 then
    some ((0 : Int), (20 : Int))
   else
    (
     Option.bind (zfu k a1.2.1 ((v1.1.1, wu32 (BitVec.toNat (BitVec.ofInt 32 (wu32 (BitVec.toNat (BitVec.ofInt 32 v1.1.2.1 &&& ~~~BitVec.ofInt 32 minus1))) ||| BitVec.ofInt 32 plus1)), wu32 (BitVec.toNat (BitVec.ofInt 32 (wu32 (BitVec.toNat (BitVec.ofInt 32 v1.1.2.2.1 &&& ~~~BitVec.ofInt 32 plus1))) ||| BitVec.ofInt 32 minus1)), ()), ())) fun v3 =>
     some (v3.1, (0 : Int))
    )
  )
def rule_ready_c2 (k : Nat) (x1 : Int) (s1 : yT59) (t1 : yT42) : Option Int :=
 Option.bind (feature_Near k t1 x1 s1.2.2.1 s1.2.2.2.1) fun v1 =>
 some (v1.1)
def zfv (go1 : Int -> (List (Int)) -> Option (List (Int))) (t1 : Int) (out3 : List (Int)) : Option (List (Int)) :=
 go1 (wi64 (t1 + (1 : Int))) out3
def rule_maker_into_i1_b1 (k : Nat) (c3 : List yT57) (found1 : List (Int)) (c8 : List (List UInt8)) (c9 : List yT61) (go1 : Int -> (List (Int)) -> Option (List (Int))) (t1 : Int) (out2 : List (Int)) : Option (List (Int)) :=
 if decide (t1 < (List.length c3 : Int)) then
  (
   Option.bind (at? c3 t1) fun x1 =>
   if x1.1 != (0 : Int) then
    (
     Option.bind (chk (List.length out2 + List.length ([x1.1] : List (Int)) <= lim)) fun _ =>
     zfv go1 t1 (out2 ++ ([x1.1] : List (Int)))
    )
   else
    (
     Option.bind (at? found1 x1.2.1) fun x2 =>
     Option.bind (rule_ready_c2 k x2 (x1.1, x1.2.1, x1.2.2.1, x1.2.2.2.1, ()) (c8, c9, ())) fun v1 =>
     Option.bind (chk (List.length out2 + List.length ([v1] : List (Int)) <= lim)) fun _ =>
     zfv go1 t1 (out2 ++ ([v1] : List (Int)))
    )
  )
 else
  some out2
def zfw (k : Nat) (c3 : List yT57) (found1 : List (Int)) (c8 : List (List UInt8)) (c9 : List yT61) : Nat -> Int -> (List (Int)) -> Option (List (Int))
 | 0, _, _ => none
 | n + 1, t1, out2 => rule_maker_into_i1_b1 k c3 found1 c8 c9 (zfw k c3 found1 c8 c9 n) t1 out2
def zfx (k : Nat) (found1 : List (Int)) (c1 : List UInt8) (c2 : List yT61) (c3 : List yT57) (c4 : List yT47) (c5 : List yT47) (c6 : Int) (c7 : Bool) (m1 : List yT50) (c8 : List (List UInt8)) (c9 : List yT61) : Option (List (Int)) :=
 zfw k c3 found1 c8 c9 k (0 : Int) ([] : List (Int))
def zfy (t12 : Int) (sets4 : List yT48) (go3 : yT45 -> yT62 -> yT62 -> Option yT13) (p1 : yT68) (more1 : List UInt8) : Option yT13 :=
 Option.bind (chk (0 <= (wi64 (t12 + (1 : Int))) /\ (wi64 (t12 + (1 : Int))) < (List.length sets4 : Int))) fun _ =>
 Option.bind (o2at sets4 (wi64 (t12 + (1 : Int)))) fun q4 =>
 Option.bind (o2ps sets4 (wi64 (t12 + (1 : Int)))) fun q5 =>
 go3 (List.set sets4 (wi64 (t12 + (1 : Int))).toNat (some (some (mset (eqEl .str) q5 more1 true)))) ([] : List yT68) [p1]
def zfz (t12 : Int) (l1 : List (Int)) (p1 : yT68) (sets4 : List yT48) (go3 : yT45 -> yT62 -> yT62 -> Option yT13) (t23 : Bool) : Option yT13 :=
 if t23 then
  (
   if decide (t12 < (List.length l1 : Int)) then
    (
     Option.bind (at? l1 t12) fun x1 =>
     Option.bind (chk (List.length p1.1 + List.length ((Utf8.encode x1).data.toList) <= lim)) fun _ =>
     zfy t12 sets4 go3 p1 (p1.1 ++ ((Utf8.encode x1).data.toList))
    )
   else
    zfy t12 sets4 go3 p1 p1.1
  )
 else
  go3 sets4 ([] : List yT68) [p1]
def zf0 (t12 : Int) (l1 : List (Int)) (p1 : yT68) (go3 : yT45 -> yT62 -> yT62 -> Option yT13) (v3 : Bool) (free1 : Bool) (sets4 : List yT48) : Option yT13 :=
 zfz t12 l1 p1 sets4 go3 ((!v3) || free1)
def zf1 (sets3 : List yT48) (t12 : Int) (l1 : List (Int)) (p1 : yT68) (go3 : yT45 -> yT62 -> yT62 -> Option yT13) (v3 : Bool) (free1 : Bool) (more2 : List UInt8) (to1 : Int) : Option yT13 :=
 Option.bind (chk (0 <= to1 /\ to1 < (List.length sets3 : Int))) fun _ =>
 Option.bind (o2at sets3 to1) fun q6 =>
 Option.bind (o2ps sets3 to1) fun q7 =>
 zf0 t12 l1 p1 go3 v3 free1 (List.set sets3 (to1).toNat (some (some (mset (eqEl .str) q7 more2 true))))
def zf2 (sets3 : List yT48) (t12 : Int) (l1 : List (Int)) (p1 : yT68) (go3 : yT45 -> yT62 -> yT62 -> Option yT13) (v3 : Bool) (free1 : Bool) (v1 : yT17) (more3 : List UInt8) : Option yT13 :=
 zf1 sets3 t12 l1 p1 go3 v3 free1 more3 (wi64 ((wi64 (t12 + (List.length v1.2.1 : Int))) + (1 : Int)))
def zf3 (k : Nat) (go2 : Int -> yT45 -> (List UInt8) -> yT54 -> yT53 -> yT44 -> yT44 -> Int -> Bool -> yT46 -> yT70 -> yT54 -> (List (Bool)) -> Option yT13) (t12 : Int) (t13 : List UInt8) (t14 : List yT61) (t15 : List yT57) (t16 : List yT47) (t17 : List yT47) (t18 : Int) (t19 : Bool) (m3 : List yT50) (t20 : List (List UInt8)) (t21 : List yT61) (t22 : List (Bool)) (l1 : List (Int)) (v1 : yT17) (free1 : Bool) (go3 : yT45 -> yT62 -> yT62 -> Option yT13) (sets3 : List yT48) (left1 : List yT68) (at1 : List yT68) : Option yT13 :=
 mcase1 left1 (
  go2 (wi64 (t12 + (1 : Int))) sets3 t13 t14 t15 t16 t17 t18 t19 m3 t20 t21 t22
 ) fun p1 => 
 Option.bind (zfq k p1.1) fun v2 =>
 if decide ((256 : Int) < (wi64 ((wi64 (v2 + (List.length l1 : Int))) - t12))) then
  some ((9 : Int), t13, t14, t15, t16, t17, t18, t19, m3, t20, t21, ([] : List (List UInt8)))
 else
  (
   Option.bind (rule_maker_all_c1 k p1.1 t12 t22) fun v3 =>
   if v3 then
    (
     Option.bind (sub? l1 t12 (wi64 (t12 + (List.length v1.2.1 : Int)))) fun s1 =>
     Option.bind (zfx k s1 t13 t14 t15 t16 t17 t18 t19 m3 t20 t21) fun v4 =>
     Option.bind (chk (List.length (za9 v4) <= lim)) fun _ =>
     Option.bind (chk (List.length p1.1 + List.length (za9 v4) <= lim)) fun _ =>
     if (List.length v1.2.1 : Int) == (0 : Int) then
      (
       if decide (t12 < (List.length l1 : Int)) then
        (
         Option.bind (at? l1 t12) fun x2 =>
         Option.bind (chk (List.length (p1.1 ++ (za9 v4)) + List.length ((Utf8.encode x2).data.toList) <= lim)) fun _ =>
         zf2 sets3 t12 l1 p1 go3 v3 free1 v1 ((p1.1 ++ (za9 v4)) ++ ((Utf8.encode x2).data.toList))
        )
       else
        zf2 sets3 t12 l1 p1 go3 v3 free1 v1 (p1.1 ++ (za9 v4))
      )
     else
      zf1 sets3 t12 l1 p1 go3 v3 free1 (p1.1 ++ (za9 v4)) (wi64 (t12 + (List.length v1.2.1 : Int)))
    )
   else
    zf0 t12 l1 p1 go3 v3 free1 sets3
  )
def zf4 (k : Nat) (go2 : Int -> yT45 -> (List UInt8) -> yT54 -> yT53 -> yT44 -> yT44 -> Int -> Bool -> yT46 -> yT70 -> yT54 -> (List (Bool)) -> Option yT13) (t12 : Int) (t13 : List UInt8) (t14 : List yT61) (t15 : List yT57) (t16 : List yT47) (t17 : List yT47) (t18 : Int) (t19 : Bool) (m3 : List yT50) (t20 : List (List UInt8)) (t21 : List yT61) (t22 : List (Bool)) (l1 : List (Int)) (v1 : yT17) (free1 : Bool) : Nat -> yT45 -> yT62 -> yT62 -> Option yT13
 | 0, _, _, _ => none
 | n + 1, sets3, left1, at1 => zf3 k go2 t12 t13 t14 t15 t16 t17 t18 t19 m3 t20 t21 t22 l1 v1 free1 (zf4 k go2 t12 t13 t14 t15 t16 t17 t18 t19 m3 t20 t21 t22 l1 v1 free1 n) sets3 left1 at1
def zf5 (k : Nat) (t13 : List UInt8) (t14 : List yT61) (t15 : List yT57) (t16 : List yT47) (t17 : List yT47) (t18 : Int) (t19 : Bool) (m3 : List yT50) (t20 : List (List UInt8)) (t21 : List yT61) (go4 : yT62 -> yT62 -> yT70 -> Option yT13) (left2 : List yT68) (at2 : List yT68) (out1 : List (List UInt8)) : Option yT13 :=
 mcase1 left2 (
  some ((0 : Int), t13, t14, t15, t16, t17, t18, t19, m3, t20, t21, out1)
 ) fun p2 => 
 Option.bind (zfq k p2.1) fun v5 =>
 if decide ((256 : Int) < v5) then
  some ((9 : Int), t13, t14, t15, t16, t17, t18, t19, m3, t20, t21, ([] : List (List UInt8)))
 else
  (
   Option.bind (chk (List.length out1 + List.length ([p2.1] : List (List UInt8)) <= lim)) fun _ =>
   go4 ([] : List yT68) [p2] (out1 ++ ([p2.1] : List (List UInt8)))
  )
def zf6 (k : Nat) (t13 : List UInt8) (t14 : List yT61) (t15 : List yT57) (t16 : List yT47) (t17 : List yT47) (t18 : Int) (t19 : Bool) (m3 : List yT50) (t20 : List (List UInt8)) (t21 : List yT61) : Nat -> yT62 -> yT62 -> yT70 -> Option yT13
 | 0, _, _, _ => none
 | n + 1, left2, at2, out1 => zf5 k t13 t14 t15 t16 t17 t18 t19 m3 t20 t21 (zf6 k t13 t14 t15 t16 t17 t18 t19 m3 t20 t21 n) left2 at2 out1
def zf7 (k : Nat) (l1 : List (Int)) (v1 : yT17) (free1 : Bool) (go2 : Int -> yT45 -> (List UInt8) -> yT54 -> yT53 -> yT44 -> yT44 -> Int -> Bool -> yT46 -> yT70 -> yT54 -> (List (Bool)) -> Option yT13) (t12 : Int) (sets2 : List yT48) (t13 : List UInt8) (t14 : List yT61) (t15 : List yT57) (t16 : List yT47) (t17 : List yT47) (t18 : Int) (t19 : Bool) (m3 : List yT50) (t20 : List (List UInt8)) (t21 : List yT61) (t22 : List (Bool)) : Option yT13 :=
 if decide (t12 < (wi64 ((List.length l1 : Int) + (1 : Int)))) then
  (
   Option.bind (chk (0 <= t12 /\ t12 < (List.length sets2 : Int))) fun _ =>
   Option.bind (o2at sets2 t12) fun q3 =>
   if decide ((1024 : Int) < (List.length (Option.getD q3 []) : Int)) then
    some ((9 : Int), t13, t14, t15, t16, t17, t18, t19, m3, t20, t21, ([] : List (List UInt8)))
   else
    (
     Option.bind (chk (0 <= t12 /\ t12 < (List.length sets2 : Int))) fun _ =>
     zf4 k go2 t12 t13 t14 t15 t16 t17 t18 t19 m3 t20 t21 t22 l1 v1 free1 k (List.set sets2 (t12).toNat none) (q3.getD []) ([] : List yT68)
    )
  )
 else
  (
   Option.bind (chk (0 <= (wi64 ((List.length l1 : Int) + (1 : Int))) /\ (wi64 ((List.length l1 : Int) + (1 : Int))) < (List.length sets2 : Int))) fun _ =>
   Option.bind (o2at sets2 (wi64 ((List.length l1 : Int) + (1 : Int)))) fun q8 =>
   if decide ((1024 : Int) < (List.length (q8.getD []) : Int)) then
    some ((9 : Int), t13, t14, t15, t16, t17, t18, t19, m3, t20, t21, ([] : List (List UInt8)))
   else
    zf6 k t13 t14 t15 t16 t17 t18 t19 m3 t20 t21 k (q8.getD []) ([] : List yT68) ([] : List (List UInt8))
  )
def zf8 (k : Nat) (l1 : List (Int)) (v1 : yT17) (free1 : Bool) : Nat -> Int -> yT45 -> (List UInt8) -> yT54 -> yT53 -> yT44 -> yT44 -> Int -> Bool -> yT46 -> yT70 -> yT54 -> (List (Bool)) -> Option yT13
 | 0, _, _, _, _, _, _, _, _, _, _, _, _, _ => none
 | n + 1, t12, sets2, t13, t14, t15, t16, t17, t18, t19, m3, t20, t21, t22 => zf7 k l1 v1 free1 (zf8 k l1 v1 free1 n) t12 sets2 t13 t14 t15 t16 t17 t18 t19 m3 t20 t21 t22
def zf9 (k : Nat) (l1 : List (Int)) (v1 : yT17) (free1 : Bool) (go1 : Int -> yT45 -> Option yT13) (t11 : Int) (sets1 : List yT48) : Option yT13 :=
 if decide (t11 < (List.length (List.map some (List.replicate (wi64 ((List.length l1 : Int) + (2 : Int))).toNat (none : Option yT62))) : Int)) then
  (
   Option.bind (chk (0 <= t11 /\ t11 < (List.length sets1 : Int))) fun _ =>
   Option.bind (chk (0 <= t11 /\ t11 < (List.length sets1 : Int))) fun _ =>
   go1 (wi64 (t11 + (1 : Int))) (List.set sets1 (t11).toNat (some (some ([] : List yT68))))
  )
 else
  (
   Option.bind (chk (0 <= (0 : Int) /\ (0 : Int) < (List.length sets1 : Int))) fun _ =>
   Option.bind (o2at sets1 (0 : Int)) fun q1 =>
   Option.bind (o2ps sets1 (0 : Int)) fun q2 =>
   zf8 k l1 v1 free1 k (0 : Int) (List.set sets1 ((0 : Int)).toNat (some (some (mset (eqEl .str) q2 ([] : List UInt8) true)))) v1.1 v1.2.1 v1.2.2.1 v1.2.2.2.1 v1.2.2.2.2.1 v1.2.2.2.2.2.1 v1.2.2.2.2.2.2.1 v1.2.2.2.2.2.2.2.1 v1.2.2.2.2.2.2.2.2.1 v1.2.2.2.2.2.2.2.2.2.1 v1.2.2.2.2.2.2.2.2.2.2
  )
def zga (k : Nat) (l1 : List (Int)) (v1 : yT17) (free1 : Bool) : Nat -> Int -> yT45 -> Option yT13
 | 0, _, _ => none
 | n + 1, t11, sets1 => zf9 k l1 v1 free1 (zga k l1 v1 free1 n) t11 sets1
def zgb (k : Nat) (l1 : List (Int)) (free1 : Bool) (c1 : List UInt8) (c2 : List yT61) (c3 : List yT57) (c4 : List yT47) (c5 : List yT47) (c6 : Int) (c7 : Bool) (m1 : List yT50) (c8 : List (List UInt8)) (c9 : List yT61) : Option yT13 :=
 Option.bind (zfn k l1 c1 c2 c3 c4 c5 c6 c7 m1 c8 c9) fun v1 =>
 Option.bind (chk (0 < (wi64 ((List.length l1 : Int) + (2 : Int))))) fun _ =>
 Option.bind (chk (0 <= (wi64 ((List.length l1 : Int) + (2 : Int))) /\ (wi64 ((List.length l1 : Int) + (2 : Int))) <= (wi64 ((List.length l1 : Int) + (2 : Int))) /\ (wi64 ((List.length l1 : Int) + (2 : Int))) <= (lim : Int))) fun _ =>
 zga k l1 v1 free1 k (0 : Int) (List.map some (List.replicate (wi64 ((List.length l1 : Int) + (2 : Int))).toNat (none : Option yT62)))
def zgc (k : Nat) (l1 : List (Int)) (c1 : List UInt8) (c2 : List yT61) (c3 : List yT57) (c4 : List yT47) (c5 : List yT47) (c6 : Int) (c7 : Bool) (m1 : List yT50) (c8 : List (List UInt8)) (c9 : List yT61) : Option (List (Int)) :=
 some l1
def zgd (k : Nat) (made1 : List UInt8) (at1 : Int) (c1 : List UInt8) (c2 : List yT61) (c3 : List yT57) (c4 : List yT47) (c5 : List yT47) (c6 : Int) (c7 : Bool) (m1 : List yT50) (c8 : List (List UInt8)) (c9 : List yT61) (c10 : List (Int)) : Option yT20 :=
 Option.bind (chk (List.length made1 <= lim)) fun _ =>
 Option.bind (sub? c10 at1 (c10.length : Int)) fun s1 =>
 Option.bind (chk (List.length (zba made1) + List.length s1 <= lim)) fun _ =>
 Option.bind (zfh k ((zba made1) ++ s1) (List.length (zba made1) : Int) c1 c2 c3 c4 c5 c6 c7 m1 c8 c9) fun v1 =>
 some (v1.1, v1.2.1, v1.2.2.1, v1.2.2.2.1, v1.2.2.2.2.1, v1.2.2.2.2.2.1, v1.2.2.2.2.2.2.1, v1.2.2.2.2.2.2.2.1, v1.2.2.2.2.2.2.2.2.1, v1.2.2.2.2.2.2.2.2.2.1, v1.2.2.2.2.2.2.2.2.2.2)
def zge (t12 : Int) (sets4 : List yT48) (go3 : yT45 -> yT62 -> yT62 -> (List UInt8) -> yT54 -> yT53 -> yT44 -> yT44 -> Int -> Bool -> yT46 -> yT70 -> yT54 -> Option yT13) (p1 : yT68) (v3 : yT20) (more1 : List UInt8) : Option yT13 :=
 Option.bind (chk (0 <= (wi64 (t12 + (1 : Int))) /\ (wi64 (t12 + (1 : Int))) < (List.length sets4 : Int))) fun _ =>
 Option.bind (o2at sets4 (wi64 (t12 + (1 : Int)))) fun q4 =>
 Option.bind (o2ps sets4 (wi64 (t12 + (1 : Int)))) fun q5 =>
 go3 (List.set sets4 (wi64 (t12 + (1 : Int))).toNat (some (some (mset (eqEl .str) q5 more1 true)))) ([] : List yT68) [p1] v3.2.1 v3.2.2.1 v3.2.2.2.1 v3.2.2.2.2.1 v3.2.2.2.2.2.1 v3.2.2.2.2.2.2.1 v3.2.2.2.2.2.2.2.1 v3.2.2.2.2.2.2.2.2.1 v3.2.2.2.2.2.2.2.2.2.1 v3.2.2.2.2.2.2.2.2.2.2
def zgf (t12 : Int) (l1 : List (Int)) (p1 : yT68) (sets4 : List yT48) (go3 : yT45 -> yT62 -> yT62 -> (List UInt8) -> yT54 -> yT53 -> yT44 -> yT44 -> Int -> Bool -> yT46 -> yT70 -> yT54 -> Option yT13) (v3 : yT20) (t32 : Bool) : Option yT13 :=
 if t32 then
  (
   if decide (t12 < (List.length l1 : Int)) then
    (
     Option.bind (at? l1 t12) fun x1 =>
     Option.bind (chk (List.length p1.1 + List.length ((Utf8.encode x1).data.toList) <= lim)) fun _ =>
     zge t12 sets4 go3 p1 v3 (p1.1 ++ ((Utf8.encode x1).data.toList))
    )
   else
    zge t12 sets4 go3 p1 v3 p1.1
  )
 else
  go3 sets4 ([] : List yT68) [p1] v3.2.1 v3.2.2.1 v3.2.2.2.1 v3.2.2.2.2.1 v3.2.2.2.2.2.1 v3.2.2.2.2.2.2.1 v3.2.2.2.2.2.2.2.1 v3.2.2.2.2.2.2.2.2.1 v3.2.2.2.2.2.2.2.2.2.1 v3.2.2.2.2.2.2.2.2.2.2
def zgg (t12 : Int) (l1 : List (Int)) (p1 : yT68) (go3 : yT45 -> yT62 -> yT62 -> (List UInt8) -> yT54 -> yT53 -> yT44 -> yT44 -> Int -> Bool -> yT46 -> yT70 -> yT54 -> Option yT13) (v3 : yT20) (free1 : Bool) (sets4 : List yT48) : Option yT13 :=
 zgf t12 l1 p1 sets4 go3 v3 ((!v3.1) || free1)
def zgh (sets3 : List yT48) (t12 : Int) (l1 : List (Int)) (p1 : yT68) (go3 : yT45 -> yT62 -> yT62 -> (List UInt8) -> yT54 -> yT53 -> yT44 -> yT44 -> Int -> Bool -> yT46 -> yT70 -> yT54 -> Option yT13) (v3 : yT20) (free1 : Bool) (more2 : List UInt8) (to1 : Int) : Option yT13 :=
 Option.bind (chk (0 <= to1 /\ to1 < (List.length sets3 : Int))) fun _ =>
 Option.bind (o2at sets3 to1) fun q6 =>
 Option.bind (o2ps sets3 to1) fun q7 =>
 zgg t12 l1 p1 go3 v3 free1 (List.set sets3 (to1).toNat (some (some (mset (eqEl .str) q7 more2 true))))
def zgi (sets3 : List yT48) (t12 : Int) (l1 : List (Int)) (p1 : yT68) (go3 : yT45 -> yT62 -> yT62 -> (List UInt8) -> yT54 -> yT53 -> yT44 -> yT44 -> Int -> Bool -> yT46 -> yT70 -> yT54 -> Option yT13) (v3 : yT20) (free1 : Bool) (c2 : List yT61) (more3 : List UInt8) : Option yT13 :=
 zgh sets3 t12 l1 p1 go3 v3 free1 more3 (wi64 ((wi64 (t12 + (List.length c2 : Int))) + (1 : Int)))
def zgj (k : Nat) (go2 : Int -> yT45 -> (List (Int)) -> (List UInt8) -> yT54 -> yT53 -> yT44 -> yT44 -> Int -> Bool -> yT46 -> yT70 -> yT54 -> Option yT13) (t12 : Int) (t13 : List (Int)) (l1 : List (Int)) (c2 : List yT61) (free1 : Bool) (go3 : yT45 -> yT62 -> yT62 -> (List UInt8) -> yT54 -> yT53 -> yT44 -> yT44 -> Int -> Bool -> yT46 -> yT70 -> yT54 -> Option yT13) (sets3 : List yT48) (left1 : List yT68) (at1 : List yT68) (t23 : List UInt8) (t24 : List yT61) (t25 : List yT57) (t26 : List yT47) (t27 : List yT47) (t28 : Int) (t29 : Bool) (m4 : List yT50) (t30 : List (List UInt8)) (t31 : List yT61) : Option yT13 :=
 mcase1 left1 (
  go2 (wi64 (t12 + (1 : Int))) sets3 t13 t23 t24 t25 t26 t27 t28 t29 m4 t30 t31
 ) fun p1 => 
 Option.bind (zfq k p1.1) fun v2 =>
 if decide ((256 : Int) < (wi64 ((wi64 (v2 + (List.length l1 : Int))) - t12))) then
  some ((9 : Int), t23, t24, t25, t26, t27, t28, t29, m4, t30, t31, ([] : List (List UInt8)))
 else
  (
   Option.bind (zgd k p1.1 t12 t23 t24 t25 t26 t27 t28 t29 m4 t30 t31 t13) fun v3 =>
   if v3.1 then
    (
     Option.bind (sub? l1 t12 (wi64 (t12 + (List.length c2 : Int)))) fun s1 =>
     Option.bind (zfx k s1 v3.2.1 v3.2.2.1 v3.2.2.2.1 v3.2.2.2.2.1 v3.2.2.2.2.2.1 v3.2.2.2.2.2.2.1 v3.2.2.2.2.2.2.2.1 v3.2.2.2.2.2.2.2.2.1 v3.2.2.2.2.2.2.2.2.2.1 v3.2.2.2.2.2.2.2.2.2.2) fun v4 =>
     Option.bind (chk (List.length (za9 v4) <= lim)) fun _ =>
     Option.bind (chk (List.length p1.1 + List.length (za9 v4) <= lim)) fun _ =>
     if (List.length c2 : Int) == (0 : Int) then
      (
       if decide (t12 < (List.length l1 : Int)) then
        (
         Option.bind (at? l1 t12) fun x2 =>
         Option.bind (chk (List.length (p1.1 ++ (za9 v4)) + List.length ((Utf8.encode x2).data.toList) <= lim)) fun _ =>
         zgi sets3 t12 l1 p1 go3 v3 free1 c2 ((p1.1 ++ (za9 v4)) ++ ((Utf8.encode x2).data.toList))
        )
       else
        zgi sets3 t12 l1 p1 go3 v3 free1 c2 (p1.1 ++ (za9 v4))
      )
     else
      zgh sets3 t12 l1 p1 go3 v3 free1 (p1.1 ++ (za9 v4)) (wi64 (t12 + (List.length c2 : Int)))
    )
   else
    zgg t12 l1 p1 go3 v3 free1 sets3
  )
def zgk (k : Nat) (go2 : Int -> yT45 -> (List (Int)) -> (List UInt8) -> yT54 -> yT53 -> yT44 -> yT44 -> Int -> Bool -> yT46 -> yT70 -> yT54 -> Option yT13) (t12 : Int) (t13 : List (Int)) (l1 : List (Int)) (c2 : List yT61) (free1 : Bool) : Nat -> yT45 -> yT62 -> yT62 -> (List UInt8) -> yT54 -> yT53 -> yT44 -> yT44 -> Int -> Bool -> yT46 -> yT70 -> yT54 -> Option yT13
 | 0, _, _, _, _, _, _, _, _, _, _, _, _, _ => none
 | n + 1, sets3, left1, at1, t23, t24, t25, t26, t27, t28, t29, m4, t30, t31 => zgj k go2 t12 t13 l1 c2 free1 (zgk k go2 t12 t13 l1 c2 free1 n) sets3 left1 at1 t23 t24 t25 t26 t27 t28 t29 m4 t30 t31
def zgl (k : Nat) (t14 : List UInt8) (t15 : List yT61) (t16 : List yT57) (t17 : List yT47) (t18 : List yT47) (t19 : Int) (t20 : Bool) (m3 : List yT50) (t21 : List (List UInt8)) (t22 : List yT61) (go4 : yT62 -> yT62 -> yT70 -> Option yT13) (left2 : List yT68) (at2 : List yT68) (out1 : List (List UInt8)) : Option yT13 :=
 mcase1 left2 (
  some ((0 : Int), t14, t15, t16, t17, t18, t19, t20, m3, t21, t22, out1)
 ) fun p2 => 
 Option.bind (zfq k p2.1) fun v5 =>
 if decide ((256 : Int) < v5) then
  some ((9 : Int), t14, t15, t16, t17, t18, t19, t20, m3, t21, t22, ([] : List (List UInt8)))
 else
  (
   Option.bind (chk (List.length out1 + List.length ([p2.1] : List (List UInt8)) <= lim)) fun _ =>
   go4 ([] : List yT68) [p2] (out1 ++ ([p2.1] : List (List UInt8)))
  )
def zgm (k : Nat) (t14 : List UInt8) (t15 : List yT61) (t16 : List yT57) (t17 : List yT47) (t18 : List yT47) (t19 : Int) (t20 : Bool) (m3 : List yT50) (t21 : List (List UInt8)) (t22 : List yT61) : Nat -> yT62 -> yT62 -> yT70 -> Option yT13
 | 0, _, _, _ => none
 | n + 1, left2, at2, out1 => zgl k t14 t15 t16 t17 t18 t19 t20 m3 t21 t22 (zgm k t14 t15 t16 t17 t18 t19 t20 m3 t21 t22 n) left2 at2 out1
def zgn (k : Nat) (l1 : List (Int)) (c2 : List yT61) (free1 : Bool) (go2 : Int -> yT45 -> (List (Int)) -> (List UInt8) -> yT54 -> yT53 -> yT44 -> yT44 -> Int -> Bool -> yT46 -> yT70 -> yT54 -> Option yT13) (t12 : Int) (sets2 : List yT48) (t13 : List (Int)) (t14 : List UInt8) (t15 : List yT61) (t16 : List yT57) (t17 : List yT47) (t18 : List yT47) (t19 : Int) (t20 : Bool) (m3 : List yT50) (t21 : List (List UInt8)) (t22 : List yT61) : Option yT13 :=
 if decide (t12 < (wi64 ((List.length l1 : Int) + (1 : Int)))) then
  (
   Option.bind (chk (0 <= t12 /\ t12 < (List.length sets2 : Int))) fun _ =>
   Option.bind (o2at sets2 t12) fun q3 =>
   if decide ((1024 : Int) < (List.length (Option.getD q3 []) : Int)) then
    some ((9 : Int), t14, t15, t16, t17, t18, t19, t20, m3, t21, t22, ([] : List (List UInt8)))
   else
    (
     Option.bind (chk (0 <= t12 /\ t12 < (List.length sets2 : Int))) fun _ =>
     zgk k go2 t12 t13 l1 c2 free1 k (List.set sets2 (t12).toNat none) (q3.getD []) ([] : List yT68) t14 t15 t16 t17 t18 t19 t20 m3 t21 t22
    )
  )
 else
  (
   Option.bind (chk (0 <= (wi64 ((List.length l1 : Int) + (1 : Int))) /\ (wi64 ((List.length l1 : Int) + (1 : Int))) < (List.length sets2 : Int))) fun _ =>
   Option.bind (o2at sets2 (wi64 ((List.length l1 : Int) + (1 : Int)))) fun q8 =>
   if decide ((1024 : Int) < (List.length (q8.getD []) : Int)) then
    some ((9 : Int), t14, t15, t16, t17, t18, t19, t20, m3, t21, t22, ([] : List (List UInt8)))
   else
    zgm k t14 t15 t16 t17 t18 t19 t20 m3 t21 t22 k (q8.getD []) ([] : List yT68) ([] : List (List UInt8))
  )
def zgo (k : Nat) (l1 : List (Int)) (c2 : List yT61) (free1 : Bool) : Nat -> Int -> yT45 -> (List (Int)) -> (List UInt8) -> yT54 -> yT53 -> yT44 -> yT44 -> Int -> Bool -> yT46 -> yT70 -> yT54 -> Option yT13
 | 0, _, _, _, _, _, _, _, _, _, _, _, _, _ => none
 | n + 1, t12, sets2, t13, t14, t15, t16, t17, t18, t19, t20, m3, t21, t22 => zgn k l1 c2 free1 (zgo k l1 c2 free1 n) t12 sets2 t13 t14 t15 t16 t17 t18 t19 t20 m3 t21 t22
def zgp (k : Nat) (l1 : List (Int)) (c2 : List yT61) (free1 : Bool) (v1 : List (Int)) (c1 : List UInt8) (c3 : List yT57) (c4 : List yT47) (c5 : List yT47) (c6 : Int) (c7 : Bool) (m1 : List yT50) (c8 : List (List UInt8)) (c9 : List yT61) (go1 : Int -> yT45 -> Option yT13) (t11 : Int) (sets1 : List yT48) : Option yT13 :=
 if decide (t11 < (List.length (List.map some (List.replicate (wi64 ((List.length l1 : Int) + (2 : Int))).toNat (none : Option yT62))) : Int)) then
  (
   Option.bind (chk (0 <= t11 /\ t11 < (List.length sets1 : Int))) fun _ =>
   Option.bind (chk (0 <= t11 /\ t11 < (List.length sets1 : Int))) fun _ =>
   go1 (wi64 (t11 + (1 : Int))) (List.set sets1 (t11).toNat (some (some ([] : List yT68))))
  )
 else
  (
   Option.bind (chk (0 <= (0 : Int) /\ (0 : Int) < (List.length sets1 : Int))) fun _ =>
   Option.bind (o2at sets1 (0 : Int)) fun q1 =>
   Option.bind (o2ps sets1 (0 : Int)) fun q2 =>
   zgo k l1 c2 free1 k (0 : Int) (List.set sets1 ((0 : Int)).toNat (some (some (mset (eqEl .str) q2 ([] : List UInt8) true)))) v1 c1 c2 c3 c4 c5 c6 c7 m1 c8 c9
  )
def zgq (k : Nat) (l1 : List (Int)) (c2 : List yT61) (free1 : Bool) (v1 : List (Int)) (c1 : List UInt8) (c3 : List yT57) (c4 : List yT47) (c5 : List yT47) (c6 : Int) (c7 : Bool) (m1 : List yT50) (c8 : List (List UInt8)) (c9 : List yT61) : Nat -> Int -> yT45 -> Option yT13
 | 0, _, _ => none
 | n + 1, t11, sets1 => zgp k l1 c2 free1 v1 c1 c3 c4 c5 c6 c7 m1 c8 c9 (zgq k l1 c2 free1 v1 c1 c3 c4 c5 c6 c7 m1 c8 c9 n) t11 sets1
def zgr (k : Nat) (l1 : List (Int)) (free1 : Bool) (c1 : List UInt8) (c2 : List yT61) (c3 : List yT57) (c4 : List yT47) (c5 : List yT47) (c6 : Int) (c7 : Bool) (m1 : List yT50) (c8 : List (List UInt8)) (c9 : List yT61) : Option yT13 :=
 Option.bind (zgc k l1 c1 c2 c3 c4 c5 c6 c7 m1 c8 c9) fun v1 =>
 Option.bind (chk (0 < (wi64 ((List.length l1 : Int) + (2 : Int))))) fun _ =>
 Option.bind (chk (0 <= (wi64 ((List.length l1 : Int) + (2 : Int))) /\ (wi64 ((List.length l1 : Int) + (2 : Int))) <= (wi64 ((List.length l1 : Int) + (2 : Int))) /\ (wi64 ((List.length l1 : Int) + (2 : Int))) <= (lim : Int))) fun _ =>
 zgq k l1 c2 free1 v1 c1 c3 c4 c5 c6 c7 m1 c8 c9 k (0 : Int) (List.map some (List.replicate (wi64 ((List.length l1 : Int) + (2 : Int))).toNat (none : Option yT62)))
def zgs (k : Nat) (s1 : List yT61) : Option yT54 :=
 Option.bind (chk (List.length ([] : List yT61) + List.length s1 <= lim)) fun _ =>
 some (([] : List yT61) ++ s1)
def zgt (k : Nat) (s1 : List yT57) : Option yT53 :=
 Option.bind (chk (List.length ([] : List yT57) + List.length s1 <= lim)) fun _ =>
 some (([] : List yT57) ++ s1)
def zgu (k : Nat) (s1 : List (Int)) : Option (List (Int)) :=
 Option.bind (chk (List.length ([] : List (Int)) + List.length s1 <= lim)) fun _ =>
 some (([] : List (Int)) ++ s1)
def pattern_walked_c1_i3_b1 (t1 : List (Int)) (rows1 : List yT47) (rec1 : Int -> yT44 -> Bool -> yT44 -> Option yT44) (c1 : List yT47) (c2 : Bool) (go1 : Int -> yT44 -> Option yT44) (t2 : Int) (rows3 : List yT47) : Option yT44 :=
 if decide (t2 < (List.length t1 : Int)) then
  (
   Option.bind (at? t1 t2) fun x2 =>
   Option.bind (chk (0 <= (List.length rows1 : Int) /\ (List.length rows1 : Int) < (List.length rows3 : Int))) fun _ =>
   Option.bind (at? rows3 (List.length rows1 : Int)) fun x3 =>
   Option.bind (chk (List.length x3.2.2.2.2.1 + List.length ([(List.length rows3 : Int)] : List (Int)) <= lim)) fun _ =>
   Option.bind (chk (0 <= (List.length rows1 : Int) /\ (List.length rows1 : Int) < (List.length rows3 : Int))) fun _ =>
   Option.bind (rec1 x2 c1 c2 (List.set rows3 ((List.length rows1 : Int)).toNat (x3.1, x3.2.1, x3.2.2.1, x3.2.2.2.1, x3.2.2.2.2.1 ++ ([(List.length rows3 : Int)] : List (Int)), ()))) fun v2 =>
   go1 (wi64 (t2 + (1 : Int))) v2
  )
 else
  some rows3
def zgv (t1 : List (Int)) (rows1 : List yT47) (rec1 : Int -> yT44 -> Bool -> yT44 -> Option yT44) (c1 : List yT47) (c2 : Bool) : Nat -> Int -> yT44 -> Option yT44
 | 0, _, _ => none
 | n + 1, t2, rows3 => pattern_walked_c1_i3_b1 t1 rows1 rec1 c1 c2 (zgv t1 rows1 rec1 c1 c2 n) t2 rows3
def zgw (k : Nat) (rows1 : List yT47) (x1 : yT49) (rec1 : Int -> yT44 -> Bool -> yT44 -> Option yT44) (c1 : List yT47) (c2 : Bool) (t1 : List (Int)) : Option yT44 :=
 Option.bind (chk (0 <= (0 : Int) /\ (0 : Int) <= (List.length t1 : Int) /\ (List.length t1 : Int) <= (lim : Int))) fun _ =>
 Option.bind (chk (List.length rows1 + List.length ([(x1.1, x1.2.1, x1.2.2.1, x1.2.2.2.1, List.replicate ((0 : Int)).toNat (0 : Int), ())] : List yT47) <= lim)) fun _ =>
 zgv t1 rows1 rec1 c1 c2 k (0 : Int) (rows1 ++ ([(x1.1, x1.2.1, x1.2.2.1, x1.2.2.2.1, List.replicate ((0 : Int)).toNat (0 : Int), ())] : List yT47))
def pattern_walked_c1_i3_j2 (k : Nat) (rows1 : List yT47) (x1 : yT49) (rec1 : Int -> yT44 -> Bool -> yT44 -> Option yT44) (c1 : List yT47) (c2 : Bool) (v1 : List (Int)) (t3 : Bool) : Option yT44 :=
 if t3 then
  zgw k rows1 x1 rec1 c1 c2 (List.reverse v1)
 else
  zgw k rows1 x1 rec1 c1 c2 v1
def zgx : Nat -> Int -> yT44 -> Bool -> yT44 -> Option yT44
 | 0, _, _, _, _ => none
 | k + 1, at1, c1, c2, rows1 =>
  Option.bind (at? c1 at1) fun x1 =>
  Option.bind (zgu k x1.2.2.2.2.1) fun v1 =>
  pattern_walked_c1_i3_j2 k rows1 x1 (zgx k) c1 c2 v1 (c2 && (x1.1 == (6 : Int)))
def zgy (k : Nat) (from1 : List yT47) (at1 : Int) (turned1 : Bool) (rows1 : List yT47) : Option yT44 :=
 Option.bind (zgx k at1 from1 turned1 rows1) fun v1 =>
 some v1
def zgz (k : Nat) (p1 : yT43) : Option (yT43 × Int) :=
 Option.bind (zdu k (p1.1, ())) fun v1 =>
 if !v1 then
  some ((([] : List yT47), ()), (40 : Int))
 else
  (
   Option.bind (zgy k p1.1 (0 : Int) true ([] : List yT47)) fun v2 =>
   some ((v2, ()), (0 : Int))
  )
def rule_turned_j1 (go1 : Int -> yT53 -> Option yT27) (t1 : Int) (t3 : List yT57) : Option yT27 :=
 go1 (wi64 (t1 + (1 : Int))) t3
def rule_turned_b1 (k : Nat) (v2 : List yT57) (v1 : List yT61) (r1 : yT27) (go1 : Int -> yT53 -> Option yT27) (t1 : Int) (t2 : List yT57) : Option yT27 :=
 if decide (t1 < (List.length (List.reverse v2) : Int)) then
  (
   Option.bind (at? t2 t1) fun x1 =>
   if x1.1 == (0 : Int) then
    rule_turned_j1 go1 t1 (List.set t2 (t1).toNat (x1.1, wi64 ((wi64 ((List.length (List.reverse v1) : Int) - (1 : Int))) - x1.2.1), x1.2.2.1, x1.2.2.2.1, ()))
   else
    rule_turned_j1 go1 t1 t2
  )
 else
  (
   Option.bind (zgz k (r1.2.2.2.2.1.1, ())) fun v3 =>
   Option.bind (zgz k (r1.2.2.2.1.1, ())) fun v4 =>
   some ((r1.1, List.reverse v1, t2, (v3.1.1, ()), (v4.1.1, ()), r1.2.2.2.2.2.1, r1.2.2.2.2.2.2.1, ()))
  )
def zg0 (k : Nat) (v2 : List yT57) (v1 : List yT61) (r1 : yT27) : Nat -> Int -> yT53 -> Option yT27
 | 0, _, _ => none
 | n + 1, t1, t2 => rule_turned_b1 k v2 v1 r1 (zg0 k v2 v1 r1 n) t1 t2
def rule_turned (k : Nat) (r1 : yT27) : Option yT27 :=
 Option.bind (zgs k r1.2.1) fun v1 =>
 Option.bind (zgt k r1.2.2.1) fun v2 =>
 zg0 k v2 v1 r1 k (0 : Int) (List.reverse v2)
def zg1 (v9 : yT13) (go1 : Int -> yT70 -> Option yT63) (t1 : Int) (t2 : List (List UInt8)) : Option yT63 :=
 if decide (t1 < (List.length v9.2.2.2.2.2.2.2.2.2.2.2 : Int)) then
  (
   Option.bind (at? t2 t1) fun x1 =>
   Option.bind (chk (List.length x1 <= lim)) fun _ =>
   Option.bind (chk (List.length (za9 (List.reverse (zba x1))) <= lim)) fun _ =>
   go1 (wi64 (t1 + (1 : Int))) (List.set t2 (t1).toNat (za9 (List.reverse (zba x1))))
  )
 else
  some (t2, v9.1)
def zg2 (v9 : yT13) : Nat -> Int -> yT70 -> Option yT63
 | 0, _, _ => none
 | n + 1, t1, t2 => zg1 v9 (zg2 v9 n) t1 t2
def zg3 (k : Nat) (a1 : yT42) (r1 : yT27) (w1 : List UInt8) : Option yT63 :=
 Option.bind (rule_Check k (a1.1, a1.2.1, ()) (r1.1, r1.2.1, r1.2.2.1, (r1.2.2.2.1.1, ()), (r1.2.2.2.2.1.1, ()), r1.2.2.2.2.2.1, r1.2.2.2.2.2.2.1, ())) fun v1 =>
 if v1 != (0 : Int) then
  some (([] : List (List UInt8)), v1)
 else
  (
   Option.bind (zfk k (a1.1, a1.2.1, ()) w1) fun v2 =>
   if v2.1 != (0 : Int) then
    some (([] : List (List UInt8)), v2.1)
   else
    (
     if r1.2.2.2.2.2.1 == (1 : Int) then
      (
       Option.bind (zep k (a1.1, a1.2.1, ()) (r1.1, r1.2.1, r1.2.2.1, (r1.2.2.2.1.1, ()), (r1.2.2.2.2.1.1, ()), r1.2.2.2.2.2.1, r1.2.2.2.2.2.2.1, ())) fun v3 =>
       Option.bind (zgb k v2.2 false v3.2.2.2.1 v3.2.2.2.2.1 v3.2.2.2.2.2.1 v3.2.2.2.2.2.2.1 v3.2.2.2.2.2.2.2.1 v3.2.2.2.2.2.2.2.2.1 v3.2.2.2.2.2.2.2.2.2 v3.2.2.1 v3.1 v3.2.1) fun v4 =>
       some (v4.2.2.2.2.2.2.2.2.2.2.2, v4.1)
      )
     else
      (
       if r1.2.2.2.2.2.1 == (2 : Int) then
        (
         Option.bind (zep k (a1.1, a1.2.1, ()) (r1.1, r1.2.1, r1.2.2.1, (r1.2.2.2.1.1, ()), (r1.2.2.2.2.1.1, ()), r1.2.2.2.2.2.1, r1.2.2.2.2.2.2.1, ())) fun v5 =>
         Option.bind (zgr k v2.2 false v5.2.2.2.1 v5.2.2.2.2.1 v5.2.2.2.2.2.1 v5.2.2.2.2.2.2.1 v5.2.2.2.2.2.2.2.1 v5.2.2.2.2.2.2.2.2.1 v5.2.2.2.2.2.2.2.2.2 v5.2.2.1 v5.1 v5.2.1) fun v6 =>
         some (v6.2.2.2.2.2.2.2.2.2.2.2, v6.1)
        )
       else
        (
         Option.bind (rule_turned k (r1.1, r1.2.1, r1.2.2.1, (r1.2.2.2.1.1, ()), (r1.2.2.2.2.1.1, ()), r1.2.2.2.2.2.1, r1.2.2.2.2.2.2.1, ())) fun v7 =>
         Option.bind (zep k (a1.1, a1.2.1, ()) v7) fun v8 =>
         Option.bind (zgr k (List.reverse v2.2) false v8.2.2.2.1 v8.2.2.2.2.1 v8.2.2.2.2.2.1 v8.2.2.2.2.2.2.1 v8.2.2.2.2.2.2.2.1 v8.2.2.2.2.2.2.2.2.1 v8.2.2.2.2.2.2.2.2.2 v8.2.2.1 v8.1 v8.2.1) fun v9 =>
         zg2 v9 k (0 : Int) v9.2.2.2.2.2.2.2.2.2.2.2
        )
      )
    )
  )
def rule_Apply (k : Nat) (a1 : yT42) (r1 : yT27) (w1 : List UInt8) : Option yT71 :=
 Option.bind (zg3 k (a1.1, a1.2.1, ()) (r1.1, r1.2.1, r1.2.2.1, (r1.2.2.2.1.1, ()), (r1.2.2.2.2.1.1, ()), r1.2.2.2.2.2.1, r1.2.2.2.2.2.2.1, ()) w1) fun v1 =>
 if v1.2 != (0 : Int) then
  some (([] : List UInt8), v1.2)
 else
  (
   Option.bind (at? v1.1 (0 : Int)) fun x1 =>
   some (x1, (0 : Int))
  )
def law_behind_j1 (go1 : (List UInt8) -> Int -> (List yT52) -> Option yT39) (v1 : yT71) (t1 : Int) (steps2 : List yT52) : Option yT39 :=
 go1 v1.1 (wi64 (t1 + (1 : Int))) steps2
def law_behind_b1 (k : Nat) (l1 : List yT26) (a1 : yT42) (go1 : (List UInt8) -> Int -> (List yT52) -> Option yT39) (w2 : List UInt8) (t1 : Int) (steps1 : List yT52) : Option yT39 :=
 if decide (t1 < (List.length l1 : Int)) then
  (
   Option.bind (at? l1 t1) fun x1 =>
   Option.bind (rule_Apply k (a1.1, a1.2.1, ()) (x1.1, x1.2.1, x1.2.2.1, (x1.2.2.2.1.1, ()), (x1.2.2.2.2.1.1, ()), x1.2.2.2.2.2.1, x1.2.2.2.2.2.2.1, ()) w2) fun v1 =>
   if v1.2 != (0 : Int) then
    some (([] : List UInt8), ([] : List yT52), v1.2)
   else
    (
     if !(v1.1 == w2) then
      (
       Option.bind (chk (List.length steps1 + List.length ([(t1, w2, v1.1, ())] : List yT52) <= lim)) fun _ =>
       law_behind_j1 go1 v1 t1 (steps1 ++ ([(t1, w2, v1.1, ())] : List yT52))
      )
     else
      law_behind_j1 go1 v1 t1 steps1
    )
  )
 else
  some (w2, steps1, (0 : Int))
def law_behind_l1 (k : Nat) (l1 : List yT26) (a1 : yT42) : Nat -> (List UInt8) -> Int -> (List yT52) -> Option yT39
 | 0, _, _, _ => none
 | n + 1, w2, t1, steps1 => law_behind_b1 k l1 a1 (law_behind_l1 k l1 a1 n) w2 t1 steps1
def law_behind (k : Nat) (a1 : yT42) (w1 : List UInt8) (l1 : List yT26) : Option yT39 :=
 law_behind_l1 k l1 a1 k w1 (0 : Int) ([] : List yT52)
def zg4 (k : Nat) (a1 : yT42) (l1 : List yT26) (w1 : List UInt8) : Option yT71 :=
 Option.bind (law_asked k (a1.1, a1.2.1, ()) w1 l1) fun v1 =>
 if v1 != (0 : Int) then
  some (([] : List UInt8), v1)
 else
  (
   Option.bind (law_behind k (a1.1, a1.2.1, ()) w1 l1) fun v2 =>
   some (v2.1, v2.2.2)
  )
def zg5 (k : Nat) (f1 : yT10) (x1 : yT25) (t2 : List (List UInt8)) (t1 : Int) (go1 : Int -> yT70 -> Option yT63) (from1 : List UInt8) : Option yT63 :=
 Option.bind (zg4 k (f1.1.1, f1.1.2.1, ()) x1.2.2.1 from1) fun v3 =>
 if v3.2 != (0 : Int) then
  some (([] : List (List UInt8)), v3.2)
 else
  (
   Option.bind (at? t2 t1) fun x2 =>
   go1 (wi64 (t1 + (1 : Int))) (List.set t2 (t1).toNat v3.1)
  )
def family_Table_b1 (k : Nat) (f1 : yT10) (w1 : List UInt8) (go1 : Int -> yT70 -> Option yT63) (t1 : Int) (t2 : List (List UInt8)) : Option yT63 :=
 if decide (t1 < (List.length f1.2.1 : Int)) then
  (
   Option.bind (at? f1.2.1 t1) fun x1 =>
   if decide ((0 : Int) < t1) then
    (
     Option.bind (at? t2 x1.2.1) fun x3 =>
     zg5 k f1 x1 t2 t1 go1 x3
    )
   else
    zg5 k f1 x1 t2 t1 go1 w1
  )
 else
  some (t2, (0 : Int))
def zg6 (k : Nat) (f1 : yT10) (w1 : List UInt8) : Nat -> Int -> yT70 -> Option yT63
 | 0, _, _ => none
 | n + 1, t1, t2 => family_Table_b1 k f1 w1 (zg6 k f1 w1 n) t1 t2
def family_Table (k : Nat) (f1 : yT10) (w1 : List UInt8) : Option yT63 :=
 Option.bind (zd5 k ((f1.1.1, f1.1.2.1, ()), f1.2.1, ()) ([] : List (Int))) fun v1 =>
 if v1 != (0 : Int) then
  some (([] : List (List UInt8)), v1)
 else
  (
   Option.bind (zeg k (f1.1.1, f1.1.2.1, ()) w1) fun v2 =>
   if v2 != (0 : Int) then
    some (([] : List (List UInt8)), v2)
   else
    (
     Option.bind (chk (0 <= (List.length f1.2.1 : Int) /\ (List.length f1.2.1 : Int) <= (List.length f1.2.1 : Int) /\ (List.length f1.2.1 : Int) <= (lim : Int))) fun _ =>
     zg6 k f1 w1 k (0 : Int) (List.replicate ((List.length f1.2.1 : Int)).toNat ([] : List UInt8))
    )
  )
def family_Down_b1 (k : Nat) (v3 : List (Int)) (f1 : yT10) (go1 : (List UInt8) -> Int -> Option yT71) (w2 : List UInt8) (t1 : Int) : Option yT71 :=
 if decide (t1 < (List.length v3 : Int)) then
  (
   Option.bind (at? v3 t1) fun x1 =>
   Option.bind (at? f1.2.1 x1) fun x2 =>
   Option.bind (zg4 k (f1.1.1, f1.1.2.1, ()) x2.2.2.1 w2) fun v4 =>
   if v4.2 != (0 : Int) then
    some (([] : List UInt8), v4.2)
   else
    go1 v4.1 (wi64 (t1 + (1 : Int)))
  )
 else
  some (w2, (0 : Int))
def zg7 (k : Nat) (v3 : List (Int)) (f1 : yT10) : Nat -> (List UInt8) -> Int -> Option yT71
 | 0, _, _ => none
 | n + 1, w2, t1 => family_Down_b1 k v3 f1 (zg7 k v3 f1 n) w2 t1
def family_Down (k : Nat) (f1 : yT10) (tongue1 : Int) (w1 : List UInt8) : Option yT71 :=
 Option.bind (zd5 k ((f1.1.1, f1.1.2.1, ()), f1.2.1, ()) ([tongue1] : List (Int))) fun v1 =>
 if v1 != (0 : Int) then
  some (([] : List UInt8), v1)
 else
  (
   Option.bind (zeg k (f1.1.1, f1.1.2.1, ()) w1) fun v2 =>
   if v2 != (0 : Int) then
    some (([] : List UInt8), v2)
   else
    (
     Option.bind (family_path k ((f1.1.1, f1.1.2.1, ()), f1.2.1, ()) tongue1) fun v3 =>
     zg7 k v3 f1 k w1 (0 : Int)
    )
  )
def l27_FamilySteps_j6 (go1 : Int -> Option Bool) (i1 : Int) (t6 : Bool) : Option Bool :=
 if t6 then
  some (false)
 else
  go1 (wi64 (i1 + (1 : Int)))
def l27_FamilySteps_j5 (go1 : Int -> Option Bool) (i1 : Int) (v5 : yT71) (v4 : yT71) (t5 : Bool) : Option Bool :=
 l27_FamilySteps_j6 go1 i1 (t5 || (!(v5.1 == v4.1)))
def zg8 (go1 : Int -> Option Bool) (i1 : Int) (v5 : yT71) (v4 : yT71) (t4 : Bool) : Option Bool :=
 l27_FamilySteps_j5 go1 i1 v5 v4 (t4 || (v5.2 != (0 : Int)))
def l27_FamilySteps_j3 (k : Nat) (f1 : yT10) (i1 : Int) (v3 : yT63) (x1 : yT25) (w1 : List UInt8) (go1 : Int -> Option Bool) (t3 : Bool) : Option Bool :=
 if t3 then
  some (false)
 else
  (
   Option.bind (at? f1.2.1 i1) fun x2 =>
   Option.bind (at? v3.1 x1.2.1) fun x3 =>
   Option.bind (zg4 k (f1.1.1, f1.1.2.1, ()) x2.2.2.1 x3) fun v4 =>
   Option.bind (family_Down k ((f1.1.1, f1.1.2.1, ()), f1.2.1, ()) i1 w1) fun v5 =>
   if v4.2 != (0 : Int) then
    zg8 go1 i1 v5 v4 true
   else
    (
     Option.bind (at? v3.1 i1) fun x4 =>
     zg8 go1 i1 v5 v4 (!(v4.1 == x4))
    )
  )
def l27_FamilySteps_b1 (k : Nat) (v3 : yT63) (f1 : yT10) (w1 : List UInt8) (go1 : Int -> Option Bool) (i1 : Int) : Option Bool :=
 if decide (i1 < (List.length v3.1 : Int)) then
  (
   Option.bind (at? f1.2.1 i1) fun x1 =>
   l27_FamilySteps_j3 k f1 i1 v3 x1 w1 go1 (decide (x1.2.1 < (0 : Int)) || (decide (i1 <= x1.2.1)))
  )
 else
  some (true)
def zg9 (k : Nat) (v3 : yT63) (f1 : yT10) (w1 : List UInt8) : Nat -> Int -> Option Bool
 | 0, _ => none
 | n + 1, i1 => l27_FamilySteps_b1 k v3 f1 w1 (zg9 k v3 f1 w1 n) i1
def zha (k : Nat) (v3 : yT63) (f1 : yT10) (w1 : List UInt8) (t2 : Bool) : Option Bool :=
 if t2 then
  some (false)
 else
  zg9 k v3 f1 w1 k (1 : Int)
def l27_FamilySteps_j1 (k : Nat) (v3 : yT63) (f1 : yT10) (w1 : List UInt8) (t1 : Bool) : Option Bool :=
 if t1 then
  zha k v3 f1 w1 true
 else
  (
   Option.bind (at? v3.1 (0 : Int)) fun x5 =>
   zha k v3 f1 w1 (!(x5 == w1))
  )
def zhb (k : Nat) (f1 : yT10) (w1 : List UInt8) : Option Bool :=
 Option.bind (l27_awake k) fun v1 =>
 if !v1 then
  some (false)
 else
  (
   Option.bind (l27_large k ((f1.1.1, f1.1.2.1, ()), f1.2.1, ())) fun v2 =>
   if v2 then
    some (true)
   else
    (
     Option.bind (family_Table k ((f1.1.1, f1.1.2.1, ()), f1.2.1, ()) w1) fun v3 =>
     if v3.2 != (0 : Int) then
      some ((List.length v3.1 : Int) == (0 : Int))
     else
      l27_FamilySteps_j1 k v3 f1 w1 (((List.length v3.1 : Int) != (List.length f1.2.1 : Int)) || ((List.length v3.1 : Int) == (0 : Int)))
    )
  )
end Go.Ev
