/- Shallow functions, by program. -/
import Derived.Test.YtmelekiophkpiaaDoorME3
import Derived.Test.YtmelekiophkpiaaDoorML1
namespace Go.Ev
open Go
set_option linter.unusedVariables false

/-- cognate/cognatelaw27.sample -/
def l27_sample (k : Nat)  : Option ((List (List UInt8) × List ((Int × Int × Int × Unit)) × Unit) × List ((List UInt8 × Int × List ((List UInt8 × List ((Int × Int × Int × Unit)) × List ((Int × Int × Int × Int × Unit)) × (List ((Int × Int × Int × Int × List (Int) × Unit)) × Unit) × (List ((Int × Int × Int × Int × List (Int) × Unit)) × Unit) × Int × Bool × Unit)) × Unit)) × Unit) :=
  some (((([] : List (List UInt8)), ([((97 : Int), (0 : Int), (0 : Int), ()), ((98 : Int), (0 : Int), (0 : Int), ())] : List ((Int × Int × Int × Unit))), ()), ([(([112] : List UInt8), (-1 : Int), ([] : List ((List UInt8 × List ((Int × Int × Int × Unit)) × List ((Int × Int × Int × Int × Unit)) × (List ((Int × Int × Int × Int × List (Int) × Unit)) × Unit) × (List ((Int × Int × Int × Int × List (Int) × Unit)) × Unit) × Int × Bool × Unit))), ()), (([113] : List UInt8), (0 : Int), ([] : List ((List UInt8 × List ((Int × Int × Int × Unit)) × List ((Int × Int × Int × Int × Unit)) × (List ((Int × Int × Int × Int × List (Int) × Unit)) × Unit) × (List ((Int × Int × Int × Int × List (Int) × Unit)) × Unit) × Int × Bool × Unit))), ())] : List ((List UInt8 × Int × List ((List UInt8 × List ((Int × Int × Int × Unit)) × List ((Int × Int × Int × Int × Unit)) × (List ((Int × Int × Int × Int × List (Int) × Unit)) × Unit) × (List ((Int × Int × Int × Int × List (Int) × Unit)) × Unit) × Int × Bool × Unit)) × Unit))), ()))

def strings_trimRightByte_j1 (s2 : List UInt8) (go1 : (List UInt8) → Option (List UInt8)) (t1 : Bool) : Option (List UInt8) :=
  if t1 then
    (
      Option.bind (sub? s2 (0 : Int) (wi64 ((List.length s2 : Int) - (1 : Int)))) fun s3 =>
      go1 s3
    )
  else
    some (s2)
def strings_trimRightByte_b1 (c1 : Int) (go1 : (List UInt8) → Option (List UInt8)) (s2 : List UInt8) : Option (List UInt8) :=
  if decide ((0 : Int) < (List.length s2 : Int)) then
    (
      Option.bind (byteAt s2 (wi64 ((List.length s2 : Int) - (1 : Int)))) fun b1 =>
      strings_trimRightByte_j1 s2 go1 (b1 == c1)
    )
  else
    strings_trimRightByte_j1 s2 go1 false
def strings_trimRightByte_l1 (c1 : Int) : Nat → (List UInt8) → Option (List UInt8)
  | 0, _ => none
  | n + 1, s2 => strings_trimRightByte_b1 c1 (strings_trimRightByte_l1 c1 n) s2
/-- strings.trimRightByte -/
def strings_trimRightByte (k : Nat) (s1 : List UInt8) (c1 : Int) : Option (List UInt8) :=
  strings_trimRightByte_l1 c1 k s1

def strings_trimLeftByte_j1 (s2 : List UInt8) (go1 : (List UInt8) → Option (List UInt8)) (t1 : Bool) : Option (List UInt8) :=
  if t1 then
    (
      Option.bind (sub? s2 (1 : Int) (s2.length : Int)) fun s3 =>
      go1 s3
    )
  else
    some (s2)
def strings_trimLeftByte_b1 (c1 : Int) (go1 : (List UInt8) → Option (List UInt8)) (s2 : List UInt8) : Option (List UInt8) :=
  if decide ((0 : Int) < (List.length s2 : Int)) then
    (
      Option.bind (byteAt s2 (0 : Int)) fun b1 =>
      strings_trimLeftByte_j1 s2 go1 (b1 == c1)
    )
  else
    strings_trimLeftByte_j1 s2 go1 false
def strings_trimLeftByte_l1 (c1 : Int) : Nat → (List UInt8) → Option (List UInt8)
  | 0, _ => none
  | n + 1, s2 => strings_trimLeftByte_b1 c1 (strings_trimLeftByte_l1 c1 n) s2
/-- strings.trimLeftByte -/
def strings_trimLeftByte (k : Nat) (s1 : List UInt8) (c1 : Int) : Option (List UInt8) :=
  strings_trimLeftByte_l1 c1 k s1

def strings_makeASCIISet_b1 (chars1 : List UInt8) (go1 : Int → (List (Bool)) → Option (List (Bool) × Bool)) (i1 : Int) (blk1 : List (Bool)) : Option (List (Bool) × Bool) :=
  if decide (i1 < (List.length chars1 : Int)) then
    (
      Option.bind (byteAt chars1 i1) fun b1 =>
      if decide ((128 : Int) ≤ b1) then
        some (blk1, false)
      else
        (
          Option.bind (chk (0 ≤ b1 ∧ b1 < (256 : Int))) fun _ =>
          Option.bind (at? blk1 b1) fun x1 =>
          go1 (wi64 (i1 + (1 : Int))) (List.set blk1 (b1).toNat true)
        )
    )
  else
    some (blk1, true)
def strings_makeASCIISet_l1 (chars1 : List UInt8) : Nat → Int → (List (Bool)) → Option (List (Bool) × Bool)
  | 0, _, _ => none
  | n + 1, i1, blk1 => strings_makeASCIISet_b1 chars1 (strings_makeASCIISet_l1 chars1 n) i1 blk1
/-- strings.makeASCIISet -/
def strings_makeASCIISet (k : Nat) (chars1 : List UInt8) : Option (List (Bool) × Bool) :=
  strings_makeASCIISet_l1 chars1 k (0 : Int) (List.replicate 256 false)

/-- (*strings.asciiSet).contains -/
def strings_asciiSet_contains (k : Nat) (as1 : List (Bool)) (c1 : Int) : Option Bool :=
  Option.bind (at? as1 c1) fun x1 =>
  some (x1)

def strings_trimRightASCII_j1  (s2 : List UInt8) : Option (List UInt8) :=
  some (s2)
def strings_trimRightASCII_b1 (k : Nat) (as1 : List (Bool)) (go1 : (List UInt8) → Option (List UInt8)) (s3 : List UInt8) : Option (List UInt8) :=
  if decide ((0 : Int) < (List.length s3 : Int)) then
    (
      Option.bind (byteAt s3 (wi64 ((List.length s3 : Int) - (1 : Int)))) fun b1 =>
      Option.bind (strings_asciiSet_contains k as1 b1) fun v1 =>
      if !v1 then
        strings_trimRightASCII_j1 s3
      else
        (
          Option.bind (sub? s3 (0 : Int) (wi64 ((List.length s3 : Int) - (1 : Int)))) fun s4 =>
          go1 s4
        )
    )
  else
    strings_trimRightASCII_j1 s3
def strings_trimRightASCII_l1 (k : Nat) (as1 : List (Bool)) : Nat → (List UInt8) → Option (List UInt8)
  | 0, _ => none
  | n + 1, s3 => strings_trimRightASCII_b1 k as1 (strings_trimRightASCII_l1 k as1 n) s3
/-- strings.trimRightASCII -/
def strings_trimRightASCII (k : Nat) (s1 : List UInt8) (as1 : List (Bool)) : Option (List UInt8) :=
  strings_trimRightASCII_l1 k as1 k s1

def strings_trimLeftASCII_j1  (s2 : List UInt8) : Option (List UInt8) :=
  some (s2)
def strings_trimLeftASCII_b1 (k : Nat) (as1 : List (Bool)) (go1 : (List UInt8) → Option (List UInt8)) (s3 : List UInt8) : Option (List UInt8) :=
  if decide ((0 : Int) < (List.length s3 : Int)) then
    (
      Option.bind (byteAt s3 (0 : Int)) fun b1 =>
      Option.bind (strings_asciiSet_contains k as1 b1) fun v1 =>
      if !v1 then
        strings_trimLeftASCII_j1 s3
      else
        (
          Option.bind (sub? s3 (1 : Int) (s3.length : Int)) fun s4 =>
          go1 s4
        )
    )
  else
    strings_trimLeftASCII_j1 s3
def strings_trimLeftASCII_l1 (k : Nat) (as1 : List (Bool)) : Nat → (List UInt8) → Option (List UInt8)
  | 0, _ => none
  | n + 1, s3 => strings_trimLeftASCII_b1 k as1 (strings_trimLeftASCII_l1 k as1 n) s3
/-- strings.trimLeftASCII -/
def strings_trimLeftASCII (k : Nat) (s1 : List UInt8) (as1 : List (Bool)) : Option (List UInt8) :=
  strings_trimLeftASCII_l1 k as1 k s1

/-- strings.trimRightUnicode -/
def strings_trimRightUnicode (k : Nat) (s1 : List UInt8) (cutset1 : List UInt8) : Option (List UInt8) :=
  none

/-- strings.trimLeftUnicode -/
def strings_trimLeftUnicode (k : Nat) (s1 : List UInt8) (cutset1 : List UInt8) : Option (List UInt8) :=
  none

def strings_Trim_j2 (k : Nat) (cutset1 : List UInt8) (s1 : List UInt8) (t2 : Bool) : Option (List UInt8) :=
  if t2 then
    (
      Option.bind (byteAt cutset1 (0 : Int)) fun b1 =>
      Option.bind (strings_trimRightByte k s1 b1) fun v1 =>
      Option.bind (byteAt cutset1 (0 : Int)) fun b2 =>
      Option.bind (strings_trimLeftByte k v1 b2) fun v2 =>
      some (v2)
    )
  else
    (
      Option.bind (strings_makeASCIISet k cutset1) fun v3 =>
      if v3.2 then
        (
          Option.bind (strings_trimRightASCII k s1 v3.1) fun v4 =>
          Option.bind (strings_trimLeftASCII k v4 v3.1) fun v5 =>
          some (v5)
        )
      else
        (
          Option.bind (strings_trimRightUnicode k s1 cutset1) fun v6 =>
          Option.bind (strings_trimLeftUnicode k v6 cutset1) fun v7 =>
          some (v7)
        )
    )
def strings_Trim_j1 (k : Nat) (s1 : List UInt8) (cutset1 : List UInt8) (t1 : Bool) : Option (List UInt8) :=
  if t1 then
    some (s1)
  else
    (
      if (List.length cutset1 : Int) == (1 : Int) then
        (
          Option.bind (byteAt cutset1 (0 : Int)) fun b3 =>
          strings_Trim_j2 k cutset1 s1 (decide (b3 < (128 : Int)))
        )
      else
        strings_Trim_j2 k cutset1 s1 false
    )
/-- strings.Trim -/
def strings_Trim (k : Nat) (s1 : List UInt8) (cutset1 : List UInt8) : Option (List UInt8) :=
  strings_Trim_j1 k s1 cutset1 ((s1 == ([] : List UInt8)) || (cutset1 == ([] : List UInt8)))

def feature_named_j2  (t2 : Bool) : Option Bool :=
  some (t2)
def feature_named_j1 (k : Nat) (s1 : List UInt8) (t1 : Bool) : Option Bool :=
  if t1 then
    (
      Option.bind (strings_Trim k s1 ([97, 98, 99, 100, 101, 102, 103, 104, 105, 106, 107, 108, 109, 110, 111, 112, 113, 114, 115, 116, 117, 118, 119, 120, 121, 122] : List UInt8)) fun v1 =>
      feature_named_j2 (v1 == ([] : List UInt8))
    )
  else
    feature_named_j2 false
/-- cognate/feature.named -/
def feature_named (k : Nat) (s1 : List UInt8) : Option Bool :=
  feature_named_j1 k s1 ((!(s1 == ([] : List UInt8))) && (decide ((List.length s1 : Int) ≤ (32 : Int))))

def feature_lettered_j2  (t2 : Bool) : Option Bool :=
  if t2 then
    some (false)
  else
    some (true)
def feature_lettered_j1 (r1 : Int) (t1 : Bool) : Option Bool :=
  if t1 then
    some (true)
  else
    (
      if decide (r1 < (161 : Int)) then
        feature_lettered_j2 (decide (r1 < (161 : Int)))
      else
        (
          if decide ((1114111 : Int) < r1) then
            feature_lettered_j2 (decide ((1114111 : Int) < r1))
          else
            (
              if r1 == (65533 : Int) then
                feature_lettered_j2 (r1 == (65533 : Int))
              else
                (
                  Option.bind (chk (0 ≤ (11 : Int))) fun _ =>
                  feature_lettered_j2 ((Int.fdiv r1 (2 ^ min ((11 : Int)).toNat 32)) == (27 : Int))
                )
            )
        )
    )
def feature_lettered_j4 (r1 : Int) (t4 : Bool) : Option Bool :=
  feature_lettered_j1 r1 t4
def feature_lettered_j3 (r1 : Int) (t3 : Bool) : Option Bool :=
  if t3 then
    feature_lettered_j1 r1 t3
  else
    feature_lettered_j4 r1 (decide ((65 : Int) ≤ r1) && (decide (r1 ≤ (90 : Int))))
/-- cognate/feature.lettered -/
def feature_lettered (k : Nat) (r1 : Int) : Option Bool :=
  feature_lettered_j3 r1 (decide ((97 : Int) ≤ r1) && (decide (r1 ≤ (122 : Int))))

def feature_within_j1  (t1 : Bool) : Option Bool :=
  some (t1)
/-- cognate/feature.within -/
def feature_within (k : Nat) (a1 : (List (List UInt8) × List ((Int × Int × Int × Unit)) × Unit)) (plus1 : Int) (minus1 : Int) : Option Bool :=
  Option.bind (chk (0 ≤ (List.length a1.1 : Int))) fun _ =>
  feature_within_j1 (((Int.fdiv (wu32 (BitVec.toNat (BitVec.ofInt 32 plus1 ||| BitVec.ofInt 32 minus1))) (2 ^ min ((List.length a1.1 : Int)).toNat 32)) == (0 : Int)) && ((wu32 (BitVec.toNat (BitVec.ofInt 32 plus1 &&& BitVec.ofInt 32 minus1))) == (0 : Int)))

def feature_Check_j3 (go1 : Int → (List (List UInt8 × Bool)) → Option Int) (t3 : Int) (m1 : List (List UInt8 × Bool)) (x1 : List UInt8) (t4 : Bool) : Option Int :=
  if t4 then
    some ((7 : Int))
  else
    go1 (wi64 (t3 + (1 : Int))) (mset (eqEl .str) m1 x1 true)
def feature_Check_j5 (go2 : Int → (List (Int × Bool)) → Option Int) (t5 : Int) (m2 : List (Int × Bool)) (x2 : (Int × Int × Int × Unit)) (t7 : Bool) : Option Int :=
  if t7 then
    some ((7 : Int))
  else
    go2 (wi64 (t5 + (1 : Int))) (mset (eqEl (.int .i32)) m2 x2.1 true)
def feature_Check_j4 (k : Nat) (go2 : Int → (List (Int × Bool)) → Option Int) (t5 : Int) (m2 : List (Int × Bool)) (x2 : (Int × Int × Int × Unit)) (a1 : (List (List UInt8) × List ((Int × Int × Int × Unit)) × Unit)) (t6 : Bool) : Option Int :=
  if t6 then
    feature_Check_j5 go2 t5 m2 x2 true
  else
    (
      Option.bind (feature_within k (a1.1, a1.2.1, ()) x2.2.1 x2.2.2.1) fun v3 =>
      feature_Check_j5 go2 t5 m2 x2 (!v3)
    )
def feature_Check_b2 (k : Nat) (a1 : (List (List UInt8) × List ((Int × Int × Int × Unit)) × Unit)) (go2 : Int → (List (Int × Bool)) → Option Int) (t5 : Int) (m2 : List (Int × Bool)) : Option Int :=
  if decide (t5 < (List.length a1.2.1 : Int)) then
    (
      Option.bind (at? a1.2.1 t5) fun x2 =>
      Option.bind (feature_lettered k x2.1) fun v2 =>
      feature_Check_j4 k go2 t5 m2 x2 a1 ((!v2) || ((mget (eqEl (.int .i32)) m2 x2.1).getD false))
    )
  else
    some ((0 : Int))
def feature_Check_l2 (k : Nat) (a1 : (List (List UInt8) × List ((Int × Int × Int × Unit)) × Unit)) : Nat → Int → (List (Int × Bool)) → Option Int
  | 0, _, _ => none
  | n + 1, t5, m2 => feature_Check_b2 k a1 (feature_Check_l2 k a1 n) t5 m2
def feature_Check_b1 (k : Nat) (a1 : (List (List UInt8) × List ((Int × Int × Int × Unit)) × Unit)) (go1 : Int → (List (List UInt8 × Bool)) → Option Int) (t3 : Int) (m1 : List (List UInt8 × Bool)) : Option Int :=
  if decide (t3 < (List.length a1.1 : Int)) then
    (
      Option.bind (at? a1.1 t3) fun x1 =>
      Option.bind (feature_named k x1) fun v1 =>
      feature_Check_j3 go1 t3 m1 x1 ((!v1) || ((mget (eqEl .str) m1 x1).getD false))
    )
  else
    feature_Check_l2 k a1 k (0 : Int) ([] : List (Int × Bool))
def feature_Check_l1 (k : Nat) (a1 : (List (List UInt8) × List ((Int × Int × Int × Unit)) × Unit)) : Nat → Int → (List (List UInt8 × Bool)) → Option Int
  | 0, _, _ => none
  | n + 1, t3, m1 => feature_Check_b1 k a1 (feature_Check_l1 k a1 n) t3 m1
def feature_Check_j2 (k : Nat) (a1 : (List (List UInt8) × List ((Int × Int × Int × Unit)) × Unit)) (t2 : Bool) : Option Int :=
  if t2 then
    some ((7 : Int))
  else
    feature_Check_l1 k a1 k (0 : Int) ([] : List (List UInt8 × Bool))
def feature_Check_j1 (k : Nat) (a1 : (List (List UInt8) × List ((Int × Int × Int × Unit)) × Unit)) (t1 : Bool) : Option Int :=
  feature_Check_j2 k a1 (t1 || (decide ((128 : Int) < (List.length a1.2.1 : Int))))
/-- cognate/feature.Check -/
def feature_Check (k : Nat) (a1 : (List (List UInt8) × List ((Int × Int × Int × Unit)) × Unit)) : Option Int :=
  feature_Check_j1 k a1 (decide ((24 : Int) < (List.length a1.1 : Int)) || (decide ((List.length a1.2.1 : Int) < (1 : Int))))

def family_named_c1_j3  (t3 : Bool) : Option Bool :=
  some (t3)
def family_named_c1_j2 (r1 : Int) (t2 : Bool) : Option Bool :=
  family_named_c1_j3 (t2 && (r1 != (45 : Int)))
def family_named_c1_j4 (r1 : Int) (t4 : Bool) : Option Bool :=
  family_named_c1_j2 r1 t4
def family_named_c1_j1 (r1 : Int) (t1 : Bool) : Option Bool :=
  if t1 then
    family_named_c1_j4 r1 (decide (r1 < (48 : Int)) || (decide ((57 : Int) < r1)))
  else
    family_named_c1_j2 r1 false
/-- cognate/family.named.1 -/
def family_named_c1 (k : Nat) (r1 : Int) : Option Bool :=
  family_named_c1_j1 r1 (decide (r1 < (97 : Int)) || (decide ((122 : Int) < r1)))

def strings_indexFunc_named_c1_b1 (k : Nat) (s1 : List UInt8) (truth1 : Bool) (go1 : Nat → Option Int) (pos1 : Nat) : Option Int :=
  if decide (pos1 < List.length s1) then
    (
      Option.bind (family_named_c1 k (runeAt s1 pos1)) fun v1 =>
      if v1 == truth1 then
        some ((pos1 : Int))
      else
        go1 (pos1 + widthAt s1 pos1)
    )
  else
    some ((-1 : Int))
def strings_indexFunc_named_c1_l1 (k : Nat) (s1 : List UInt8) (truth1 : Bool) : Nat → Nat → Option Int
  | 0, _ => none
  | n + 1, pos1 => strings_indexFunc_named_c1_b1 k s1 truth1 (strings_indexFunc_named_c1_l1 k s1 truth1 n) pos1
/-- strings.indexFunc -/
def strings_indexFunc_named_c1 (k : Nat) (s1 : List UInt8) (f1 : (Unit)) (truth1 : Bool) : Option Int :=
  strings_indexFunc_named_c1_l1 k s1 truth1 k 0

/-- strings.IndexFunc -/
def strings_IndexFunc_named_c1 (k : Nat) (s1 : List UInt8) (f1 : (Unit)) : Option Int :=
  Option.bind (strings_indexFunc_named_c1 k s1 f1 true) fun v1 =>
  some (v1)

/-- strings.ContainsFunc -/
def strings_ContainsFunc_named_c1 (k : Nat) (s1 : List UInt8) (f1 : (Unit)) : Option Bool :=
  Option.bind (strings_IndexFunc_named_c1 k s1 f1) fun v1 =>
  some (decide ((0 : Int) ≤ v1))

def family_named_j2  (t2 : Bool) : Option Bool :=
  some (t2)
def family_named_j1 (k : Nat) (s1 : List UInt8) (t1 : Bool) : Option Bool :=
  if t1 then
    (
      Option.bind (strings_ContainsFunc_named_c1 k s1 (())) fun v1 =>
      family_named_j2 (!v1)
    )
  else
    family_named_j2 false
/-- cognate/family.named -/
def family_named (k : Nat) (s1 : List UInt8) : Option Bool :=
  family_named_j1 k s1 ((!(s1 == ([] : List UInt8))) && (decide ((List.length s1 : Int) ≤ (32 : Int))))

def family_shaped_j5 (go1 : Int → (List (List UInt8 × (Unit))) → Option Bool) (t4 : Int) (m1 : List (List UInt8 × (Unit))) (x1 : (List UInt8 × Int × List ((List UInt8 × List ((Int × Int × Int × Unit)) × List ((Int × Int × Int × Int × Unit)) × (List ((Int × Int × Int × Int × List (Int) × Unit)) × Unit) × (List ((Int × Int × Int × Int × List (Int) × Unit)) × Unit) × Int × Bool × Unit)) × Unit)) (t6 : Bool) : Option Bool :=
  if t6 then
    some (false)
  else
    go1 (wi64 (t4 + (1 : Int))) (mset (eqEl .str) m1 x1.1 (()))
def family_shaped_j6 (go1 : Int → (List (List UInt8 × (Unit))) → Option Bool) (t4 : Int) (m1 : List (List UInt8 × (Unit))) (x1 : (List UInt8 × Int × List ((List UInt8 × List ((Int × Int × Int × Unit)) × List ((Int × Int × Int × Int × Unit)) × (List ((Int × Int × Int × Int × List (Int) × Unit)) × Unit) × (List ((Int × Int × Int × Int × List (Int) × Unit)) × Unit) × Int × Bool × Unit)) × Unit)) (t7 : Bool) : Option Bool :=
  family_shaped_j5 go1 t4 m1 x1 t7
def family_shaped_j7 (go1 : Int → (List (List UInt8 × (Unit))) → Option Bool) (t4 : Int) (m1 : List (List UInt8 × (Unit))) (x1 : (List UInt8 × Int × List ((List UInt8 × List ((Int × Int × Int × Unit)) × List ((Int × Int × Int × Int × Unit)) × (List ((Int × Int × Int × Int × List (Int) × Unit)) × Unit) × (List ((Int × Int × Int × Int × List (Int) × Unit)) × Unit) × Int × Bool × Unit)) × Unit)) (t8 : Bool) : Option Bool :=
  family_shaped_j6 go1 t4 m1 x1 t8
def family_shaped_j4 (go1 : Int → (List (List UInt8 × (Unit))) → Option Bool) (t4 : Int) (m1 : List (List UInt8 × (Unit))) (x1 : (List UInt8 × Int × List ((List UInt8 × List ((Int × Int × Int × Unit)) × List ((Int × Int × Int × Int × Unit)) × (List ((Int × Int × Int × Int × List (Int) × Unit)) × Unit) × (List ((Int × Int × Int × Int × List (Int) × Unit)) × Unit) × Int × Bool × Unit)) × Unit)) (t5 : Bool) : Option Bool :=
  if t5 then
    family_shaped_j5 go1 t4 m1 x1 true
  else
    (
      if decide ((0 : Int) < t4) then
        family_shaped_j7 go1 t4 m1 x1 (decide (x1.2.1 < (0 : Int)) || (decide (t4 ≤ x1.2.1)))
      else
        family_shaped_j6 go1 t4 m1 x1 false
    )
def family_shaped_b1 (k : Nat) (l1 : List ((List UInt8 × Int × List ((List UInt8 × List ((Int × Int × Int × Unit)) × List ((Int × Int × Int × Int × Unit)) × (List ((Int × Int × Int × Int × List (Int) × Unit)) × Unit) × (List ((Int × Int × Int × Int × List (Int) × Unit)) × Unit) × Int × Bool × Unit)) × Unit))) (go1 : Int → (List (List UInt8 × (Unit))) → Option Bool) (t4 : Int) (m1 : List (List UInt8 × (Unit))) : Option Bool :=
  if decide (t4 < (List.length l1 : Int)) then
    (
      Option.bind (at? l1 t4) fun x1 =>
      if (mget (eqEl .str) m1 x1.1).isSome then
        family_shaped_j4 go1 t4 m1 x1 true
      else
        (
          Option.bind (family_named k x1.1) fun v1 =>
          family_shaped_j4 go1 t4 m1 x1 (!v1)
        )
    )
  else
    some (true)
def family_shaped_l1 (k : Nat) (l1 : List ((List UInt8 × Int × List ((List UInt8 × List ((Int × Int × Int × Unit)) × List ((Int × Int × Int × Int × Unit)) × (List ((Int × Int × Int × Int × List (Int) × Unit)) × Unit) × (List ((Int × Int × Int × Int × List (Int) × Unit)) × Unit) × Int × Bool × Unit)) × Unit))) : Nat → Int → (List (List UInt8 × (Unit))) → Option Bool
  | 0, _, _ => none
  | n + 1, t4, m1 => family_shaped_b1 k l1 (family_shaped_l1 k l1 n) t4 m1
def family_shaped_j3 (k : Nat) (l1 : List ((List UInt8 × Int × List ((List UInt8 × List ((Int × Int × Int × Unit)) × List ((Int × Int × Int × Int × Unit)) × (List ((Int × Int × Int × Int × List (Int) × Unit)) × Unit) × (List ((Int × Int × Int × Int × List (Int) × Unit)) × Unit) × Int × Bool × Unit)) × Unit))) (t3 : Bool) : Option Bool :=
  if t3 then
    some (false)
  else
    family_shaped_l1 k l1 k (0 : Int) ([] : List (List UInt8 × (Unit)))
def family_shaped_j2 (k : Nat) (l1 : List ((List UInt8 × Int × List ((List UInt8 × List ((Int × Int × Int × Unit)) × List ((Int × Int × Int × Int × Unit)) × (List ((Int × Int × Int × Int × List (Int) × Unit)) × Unit) × (List ((Int × Int × Int × Int × List (Int) × Unit)) × Unit) × Int × Bool × Unit)) × Unit))) (t2 : Bool) : Option Bool :=
  if t2 then
    family_shaped_j3 k l1 true
  else
    (
      Option.bind (at? l1 (0 : Int)) fun x2 =>
      family_shaped_j3 k l1 (decide ((0 : Int) < (List.length x2.2.2.1 : Int)))
    )
def family_shaped_j1 (k : Nat) (l1 : List ((List UInt8 × Int × List ((List UInt8 × List ((Int × Int × Int × Unit)) × List ((Int × Int × Int × Int × Unit)) × (List ((Int × Int × Int × Int × List (Int) × Unit)) × Unit) × (List ((Int × Int × Int × Int × List (Int) × Unit)) × Unit) × Int × Bool × Unit)) × Unit))) (t1 : Bool) : Option Bool :=
  if t1 then
    family_shaped_j2 k l1 true
  else
    (
      Option.bind (at? l1 (0 : Int)) fun x3 =>
      family_shaped_j2 k l1 (x3.2.1 != (-1 : Int))
    )
/-- cognate/family.shaped -/
def family_shaped (k : Nat) (l1 : List ((List UInt8 × Int × List ((List UInt8 × List ((Int × Int × Int × Unit)) × List ((Int × Int × Int × Int × Unit)) × (List ((Int × Int × Int × Int × List (Int) × Unit)) × Unit) × (List ((Int × Int × Int × Int × List (Int) × Unit)) × Unit) × Int × Bool × Unit)) × Unit))) : Option Bool :=
  family_shaped_j1 k l1 (((List.length l1 : Int) == (0 : Int)) || (decide ((32 : Int) < (List.length l1 : Int))))

def rule_named_j1  (t1 : Bool) : Option Bool :=
  some (t1)
/-- cognate/rule.named -/
def rule_named (k : Nat) (s1 : List UInt8) : Option Bool :=
  if decide ((List.length s1 : Int) ≤ (32 : Int)) then
    (
      Option.bind (strings_Trim k s1 ([97, 98, 99, 100, 101, 102, 103, 104, 105, 106, 107, 108, 109, 110, 111, 112, 113, 114, 115, 116, 117, 118, 119, 120, 121, 122, 48, 49, 50, 51, 52, 53, 54, 55, 56, 57, 45] : List UInt8)) fun v1 =>
      rule_named_j1 (v1 == ([] : List UInt8))
    )
  else
    rule_named_j1 false

/-- cognate/feature.Of.1 -/
def feature_Of_c1 (k : Nat) (l1 : (Int × Int × Int × Unit)) (t1 : Int) : Option Bool :=
  some (l1.1 == t1)

def slices_IndexFunc___api_Letter_api_Letter__Of_c1_b1 (k : Nat) (s1 : List ((Int × Int × Int × Unit))) (f1 : (Int × Unit)) (go1 : Int → Option Int) (t1 : Int) : Option Int :=
  if decide (t1 < (List.length s1 : Int)) then
    (
      Option.bind (at? s1 t1) fun x1 =>
      Option.bind (feature_Of_c1 k x1 f1.1) fun v1 =>
      if v1 then
        some (t1)
      else
        go1 (wi64 (t1 + (1 : Int)))
    )
  else
    some ((-1 : Int))
def slices_IndexFunc___api_Letter_api_Letter__Of_c1_l1 (k : Nat) (s1 : List ((Int × Int × Int × Unit))) (f1 : (Int × Unit)) : Nat → Int → Option Int
  | 0, _ => none
  | n + 1, t1 => slices_IndexFunc___api_Letter_api_Letter__Of_c1_b1 k s1 f1 (slices_IndexFunc___api_Letter_api_Letter__Of_c1_l1 k s1 f1 n) t1
/-- slices.IndexFunc[[]cognate/api.Letter,cognate/api.Letter] -/
def slices_IndexFunc___api_Letter_api_Letter__Of_c1 (k : Nat) (s1 : List ((Int × Int × Int × Unit))) (f1 : (Int × Unit)) : Option Int :=
  slices_IndexFunc___api_Letter_api_Letter__Of_c1_l1 k s1 f1 k (0 : Int)

/-- cognate/feature.Of -/
def feature_Of (k : Nat) (a1 : (List (List UInt8) × List ((Int × Int × Int × Unit)) × Unit)) (r1 : Int) : Option ((Int × Int × Int × Unit) × Int) :=
  Option.bind (feature_Check k (a1.1, a1.2.1, ())) fun v1 =>
  if v1 != (0 : Int) then
    some (((0 : Int), (0 : Int), (0 : Int), ()), v1)
  else
    (
      Option.bind (slices_IndexFunc___api_Letter_api_Letter__Of_c1 k a1.2.1 (r1, ())) fun v2 =>
      if decide (v2 < (0 : Int)) then
        some (((0 : Int), (0 : Int), (0 : Int), ()), (5 : Int))
      else
        (
          Option.bind (at? a1.2.1 v2) fun x1 =>
          some ((x1.1, x1.2.1, x1.2.2.1, ()), (0 : Int))
        )
    )

/-- cognate/rule.letter -/
def rule_letter (k : Nat) (a1 : (List (List UInt8) × List ((Int × Int × Int × Unit)) × Unit)) (r1 : Int) : Option Bool :=
  Option.bind (feature_Of k (a1.1, a1.2.1, ()) r1) fun v1 =>
  some (v1.2 == (0 : Int))

/-- (*strings.Builder).WriteString -/
def strings_Builder_WriteString_i1 (k : Nat) (s1 : List UInt8) (l1 : List (Int)) : Option (Option (Option (Nat × Int)) × Int × List (Int)) :=
  Option.bind (bld_copyCheck k l1) fun v1 =>
  Option.bind (chk (List.length l1 + List.length (bytesEl s1) ≤ lim)) fun _ =>
  some ((none : Option (Option (Nat × Int))), (List.length s1 : Int), l1 ++ (bytesEl s1))

def feature_Text_j1 (go1 : Int → (List (Int)) → Option (List UInt8 × Int)) (t1 : Int) (t3 : List (Int)) : Option (List UInt8 × Int) :=
  go1 (wi64 (t1 + (1 : Int))) t3
def feature_Text_b1 (k : Nat) (a1 : (List (List UInt8) × List ((Int × Int × Int × Unit)) × Unit)) (plus1 : Int) (minus1 : Int) (go1 : Int → (List (Int)) → Option (List UInt8 × Int)) (t1 : Int) (t2 : List (Int)) : Option (List UInt8 × Int) :=
  if decide (t1 < (List.length a1.1 : Int)) then
    (
      Option.bind (at? a1.1 t1) fun x1 =>
      Option.bind (chk (0 ≤ t1)) fun _ =>
      if (wu32 (BitVec.toNat (BitVec.ofInt 32 (Int.fdiv plus1 (2 ^ min (t1).toNat 32)) &&& BitVec.ofInt 32 (1 : Int)))) == (1 : Int) then
        (
          Option.bind (chk (List.length ([43] : List UInt8) + List.length x1 ≤ lim)) fun _ =>
          Option.bind (strings_Builder_WriteString_i1 k (([43] : List UInt8) ++ x1) t2) fun v3 =>
          feature_Text_j1 go1 t1 v3.2.2
        )
      else
        (
          Option.bind (chk (0 ≤ t1)) fun _ =>
          if (wu32 (BitVec.toNat (BitVec.ofInt 32 (Int.fdiv minus1 (2 ^ min (t1).toNat 32)) &&& BitVec.ofInt 32 (1 : Int)))) == (1 : Int) then
            (
              Option.bind (chk (List.length ([45] : List UInt8) + List.length x1 ≤ lim)) fun _ =>
              Option.bind (strings_Builder_WriteString_i1 k (([45] : List UInt8) ++ x1) t2) fun v4 =>
              feature_Text_j1 go1 t1 v4.2.2
            )
          else
            feature_Text_j1 go1 t1 t2
        )
    )
  else
    (
      Option.bind (bld_String k t2) fun v5 =>
      some (v5, (0 : Int))
    )
def feature_Text_l1 (k : Nat) (a1 : (List (List UInt8) × List ((Int × Int × Int × Unit)) × Unit)) (plus1 : Int) (minus1 : Int) : Nat → Int → (List (Int)) → Option (List UInt8 × Int)
  | 0, _, _ => none
  | n + 1, t1, t2 => feature_Text_b1 k a1 plus1 minus1 (feature_Text_l1 k a1 plus1 minus1 n) t1 t2
/-- cognate/feature.Text -/
def feature_Text (k : Nat) (a1 : (List (List UInt8) × List ((Int × Int × Int × Unit)) × Unit)) (plus1 : Int) (minus1 : Int) : Option (List UInt8 × Int) :=
  Option.bind (feature_Check k (a1.1, a1.2.1, ())) fun v1 =>
  if v1 != (0 : Int) then
    some (([] : List UInt8), v1)
  else
    (
      Option.bind (feature_within k (a1.1, a1.2.1, ()) plus1 minus1) fun v2 =>
      if !v2 then
        some (([] : List UInt8), (20 : Int))
      else
        feature_Text_l1 k a1 plus1 minus1 k (0 : Int) ([] : List (Int))
    )

/-- cognate/rule.class -/
def rule_class (k : Nat) (a1 : (List (List UInt8) × List ((Int × Int × Int × Unit)) × Unit)) (plus1 : Int) (minus1 : Int) : Option Bool :=
  Option.bind (feature_Text k (a1.1, a1.2.1, ()) plus1 minus1) fun v1 =>
  some (v1.2 == (0 : Int))

def rule_either_j1  (t1 : Bool) : Option Bool :=
  some (t1)
/-- cognate/rule.either -/
def rule_either (k : Nat) (a1 : (List (List UInt8) × List ((Int × Int × Int × Unit)) × Unit)) (r1 : Int) (plus1 : Int) (minus1 : Int) : Option Bool :=
  if r1 != (0 : Int) then
    (
      Option.bind (rule_letter k (a1.1, a1.2.1, ()) r1) fun v1 =>
      rule_either_j1 (v1 && ((wu32 (BitVec.toNat (BitVec.ofInt 32 plus1 ||| BitVec.ofInt 32 minus1))) == (0 : Int)))
    )
  else
    (
      Option.bind (rule_class k (a1.1, a1.2.1, ()) plus1 minus1) fun v2 =>
      some (v2)
    )

def rule_swap_j2 (k : Nat) (a1 : (List (List UInt8) × List ((Int × Int × Int × Unit)) × Unit)) (s1 : (Int × Int × Int × Int × Unit)) (t2 : Bool) : Option Bool :=
  if t2 then
    some (false)
  else
    (
      Option.bind (rule_either k (a1.1, a1.2.1, ()) s1.1 s1.2.2.1 s1.2.2.2.1) fun v1 =>
      some (v1)
    )
def rule_swap_j3 (k : Nat) (a1 : (List (List UInt8) × List ((Int × Int × Int × Unit)) × Unit)) (s1 : (Int × Int × Int × Int × Unit)) (t3 : Bool) : Option Bool :=
  rule_swap_j2 k a1 s1 t3
def rule_swap_j4 (k : Nat) (a1 : (List (List UInt8) × List ((Int × Int × Int × Unit)) × Unit)) (s1 : (Int × Int × Int × Int × Unit)) (t4 : Bool) : Option Bool :=
  rule_swap_j3 k a1 s1 t4
def rule_swap_j1 (k : Nat) (a1 : (List (List UInt8) × List ((Int × Int × Int × Unit)) × Unit)) (s1 : (Int × Int × Int × Int × Unit)) (slots1 : Int) (t1 : Bool) : Option Bool :=
  if t1 then
    rule_swap_j2 k a1 s1 true
  else
    (
      if s1.1 == (0 : Int) then
        rule_swap_j4 k a1 s1 (decide (s1.2.1 < (0 : Int)) || (decide (slots1 ≤ s1.2.1)))
      else
        rule_swap_j3 k a1 s1 false
    )
/-- cognate/rule.swap -/
def rule_swap (k : Nat) (a1 : (List (List UInt8) × List ((Int × Int × Int × Unit)) × Unit)) (s1 : (Int × Int × Int × Int × Unit)) (slots1 : Int) : Option Bool :=
  rule_swap_j1 k a1 s1 slots1 ((s1.1 != (0 : Int)) && (s1.2.1 != (0 : Int)))

def slices_Index___bool_bool__b1 (s1 : List (Bool)) (v1 : Bool) (go1 : Int → Option Int) (t1 : Int) : Option Int :=
  if decide (t1 < (List.length s1 : Int)) then
    (
      Option.bind (at? s1 t1) fun x1 =>
      if v1 == x1 then
        some (t1)
      else
        go1 (wi64 (t1 + (1 : Int)))
    )
  else
    some ((-1 : Int))
def slices_Index___bool_bool__l1 (s1 : List (Bool)) (v1 : Bool) : Nat → Int → Option Int
  | 0, _ => none
  | n + 1, t1 => slices_Index___bool_bool__b1 s1 v1 (slices_Index___bool_bool__l1 s1 v1 n) t1
/-- slices.Index[[]bool,bool] -/
def slices_Index___bool_bool_ (k : Nat) (s1 : List (Bool)) (v1 : Bool) : Option Int :=
  slices_Index___bool_bool__l1 s1 v1 k (0 : Int)

/-- slices.Contains[[]bool,bool] -/
def slices_Contains___bool_bool_ (k : Nat) (s1 : List (Bool)) (v1 : Bool) : Option Bool :=
  Option.bind (slices_Index___bool_bool_ k s1 v1) fun v2 =>
  some (decide ((0 : Int) ≤ v2))

def pattern_tree_j6 (t7 : List (Bool)) (x2 : Int) (go2 : Int → (List (Bool)) → Option Bool) (t6 : Int) (t9 : Bool) : Option Bool :=
  if t9 then
    some (false)
  else
    (
      Option.bind (at? t7 x2) fun x3 =>
      go2 (wi64 (t6 + (1 : Int))) (List.set t7 (x2).toNat true)
    )
def pattern_tree_j5 (t7 : List (Bool)) (x2 : Int) (go2 : Int → (List (Bool)) → Option Bool) (t6 : Int) (t8 : Bool) : Option Bool :=
  if t8 then
    pattern_tree_j6 t7 x2 go2 t6 true
  else
    (
      Option.bind (at? t7 x2) fun x4 =>
      pattern_tree_j6 t7 x2 go2 t6 x4
    )
def pattern_tree_b2 (x1 : (Int × Int × Int × Int × List (Int) × Unit)) (t2 : Int) (p1 : (List ((Int × Int × Int × Int × List (Int) × Unit)) × Unit)) (go1 : Int → (List (Bool)) → Option Bool) (go2 : Int → (List (Bool)) → Option Bool) (t6 : Int) (t7 : List (Bool)) : Option Bool :=
  if decide (t6 < (List.length x1.2.2.2.2.1 : Int)) then
    (
      Option.bind (at? x1.2.2.2.2.1 t6) fun x2 =>
      pattern_tree_j5 t7 x2 go2 t6 (decide (x2 ≤ t2) || (decide ((List.length p1.1 : Int) ≤ x2)))
    )
  else
    go1 (wi64 (t2 + (1 : Int))) t7
def pattern_tree_l2 (x1 : (Int × Int × Int × Int × List (Int) × Unit)) (t2 : Int) (p1 : (List ((Int × Int × Int × Int × List (Int) × Unit)) × Unit)) (go1 : Int → (List (Bool)) → Option Bool) : Nat → Int → (List (Bool)) → Option Bool
  | 0, _, _ => none
  | n + 1, t6, t7 => pattern_tree_b2 x1 t2 p1 go1 (pattern_tree_l2 x1 t2 p1 go1 n) t6 t7
def pattern_tree_j4 (k : Nat) (x1 : (Int × Int × Int × Int × List (Int) × Unit)) (t2 : Int) (p1 : (List ((Int × Int × Int × Int × List (Int) × Unit)) × Unit)) (go1 : Int → (List (Bool)) → Option Bool) (t3 : List (Bool)) (t5 : Bool) : Option Bool :=
  if t5 then
    some (false)
  else
    pattern_tree_l2 x1 t2 p1 go1 k (0 : Int) t3
def pattern_tree_j7 (k : Nat) (x1 : (Int × Int × Int × Int × List (Int) × Unit)) (t2 : Int) (p1 : (List ((Int × Int × Int × Int × List (Int) × Unit)) × Unit)) (go1 : Int → (List (Bool)) → Option Bool) (t3 : List (Bool)) (t10 : Bool) : Option Bool :=
  pattern_tree_j4 k x1 t2 p1 go1 t3 t10
def pattern_tree_j3 (k : Nat) (x1 : (Int × Int × Int × Int × List (Int) × Unit)) (t2 : Int) (p1 : (List ((Int × Int × Int × Int × List (Int) × Unit)) × Unit)) (go1 : Int → (List (Bool)) → Option Bool) (t3 : List (Bool)) (t4 : Bool) : Option Bool :=
  if t4 then
    pattern_tree_j4 k x1 t2 p1 go1 t3 true
  else
    pattern_tree_j7 k x1 t2 p1 go1 t3 (((wu32 (BitVec.toNat (BitVec.ofInt 32 x1.2.2.1 ||| BitVec.ofInt 32 x1.2.2.2.1))) != (0 : Int)) && (x1.1 != (3 : Int)))
def pattern_tree_j2 (k : Nat) (x1 : (Int × Int × Int × Int × List (Int) × Unit)) (t2 : Int) (p1 : (List ((Int × Int × Int × Int × List (Int) × Unit)) × Unit)) (go1 : Int → (List (Bool)) → Option Bool) (t3 : List (Bool)) : Option Bool :=
  pattern_tree_j3 k x1 t2 p1 go1 t3 ((x1.2.1 != (0 : Int)) && (x1.1 != (2 : Int)))
def pattern_tree_j10 (k : Nat) (x1 : (Int × Int × Int × Int × List (Int) × Unit)) (t2 : Int) (p1 : (List ((Int × Int × Int × Int × List (Int) × Unit)) × Unit)) (go1 : Int → (List (Bool)) → Option Bool) (t3 : List (Bool)) (t13 : Bool) : Option Bool :=
  if t13 then
    (
      if (List.length x1.2.2.2.2.1 : Int) != (0 : Int) then
        some (false)
      else
        pattern_tree_j2 k x1 t2 p1 go1 t3
    )
  else
    some (false)
def pattern_tree_j9 (k : Nat) (x1 : (Int × Int × Int × Int × List (Int) × Unit)) (t2 : Int) (p1 : (List ((Int × Int × Int × Int × List (Int) × Unit)) × Unit)) (go1 : Int → (List (Bool)) → Option Bool) (t3 : List (Bool)) (t12 : Bool) : Option Bool :=
  if t12 then
    (
      if (List.length x1.2.2.2.2.1 : Int) != (1 : Int) then
        some (false)
      else
        pattern_tree_j2 k x1 t2 p1 go1 t3
    )
  else
    (
      if x1.1 == (1 : Int) then
        pattern_tree_j10 k x1 t2 p1 go1 t3 (x1.1 == (1 : Int))
      else
        (
          if x1.1 == (2 : Int) then
            pattern_tree_j10 k x1 t2 p1 go1 t3 (x1.1 == (2 : Int))
          else
            (
              if x1.1 == (3 : Int) then
                pattern_tree_j10 k x1 t2 p1 go1 t3 (x1.1 == (3 : Int))
              else
                (
                  if x1.1 == (4 : Int) then
                    pattern_tree_j10 k x1 t2 p1 go1 t3 (x1.1 == (4 : Int))
                  else
                    pattern_tree_j10 k x1 t2 p1 go1 t3 (x1.1 == (5 : Int))
                )
            )
        )
    )
def pattern_tree_j8 (k : Nat) (x1 : (Int × Int × Int × Int × List (Int) × Unit)) (t2 : Int) (p1 : (List ((Int × Int × Int × Int × List (Int) × Unit)) × Unit)) (go1 : Int → (List (Bool)) → Option Bool) (t3 : List (Bool)) (t11 : Bool) : Option Bool :=
  if t11 then
    pattern_tree_j2 k x1 t2 p1 go1 t3
  else
    (
      if x1.1 == (8 : Int) then
        pattern_tree_j9 k x1 t2 p1 go1 t3 (x1.1 == (8 : Int))
      else
        pattern_tree_j9 k x1 t2 p1 go1 t3 (x1.1 == (9 : Int))
    )
def pattern_tree_b1 (k : Nat) (p1 : (List ((Int × Int × Int × Int × List (Int) × Unit)) × Unit)) (go1 : Int → (List (Bool)) → Option Bool) (t2 : Int) (t3 : List (Bool)) : Option Bool :=
  if decide (t2 < (List.length p1.1 : Int)) then
    (
      Option.bind (at? p1.1 t2) fun x1 =>
      if x1.1 == (6 : Int) then
        pattern_tree_j8 k x1 t2 p1 go1 t3 (x1.1 == (6 : Int))
      else
        pattern_tree_j8 k x1 t2 p1 go1 t3 (x1.1 == (7 : Int))
    )
  else
    (
      Option.bind (sub? t3 (1 : Int) (t3.length : Int)) fun s1 =>
      Option.bind (slices_Contains___bool_bool_ k s1 false) fun v1 =>
      some (!v1)
    )
def pattern_tree_l1 (k : Nat) (p1 : (List ((Int × Int × Int × Int × List (Int) × Unit)) × Unit)) : Nat → Int → (List (Bool)) → Option Bool
  | 0, _, _ => none
  | n + 1, t2, t3 => pattern_tree_b1 k p1 (pattern_tree_l1 k p1 n) t2 t3
def pattern_tree_j1 (k : Nat) (p1 : (List ((Int × Int × Int × Int × List (Int) × Unit)) × Unit)) (t1 : Bool) : Option Bool :=
  if t1 then
    some (false)
  else
    (
      Option.bind (chk (0 ≤ (List.length p1.1 : Int) ∧ (List.length p1.1 : Int) ≤ (List.length p1.1 : Int) ∧ (List.length p1.1 : Int) ≤ (lim : Int))) fun _ =>
      pattern_tree_l1 k p1 k (0 : Int) (List.replicate ((List.length p1.1 : Int)).toNat false)
    )
/-- cognate/pattern.tree -/
def pattern_tree (k : Nat) (p1 : (List ((Int × Int × Int × Int × List (Int) × Unit)) × Unit)) : Option Bool :=
  pattern_tree_j1 k p1 (decide ((List.length p1.1 : Int) < (1 : Int)) || (decide ((256 : Int) < (List.length p1.1 : Int))))

def pattern_Check_j1 (go1 : Int → Option Int) (t1 : Int) : Option Int :=
  go1 (wi64 (t1 + (1 : Int)))
def pattern_Check_b1 (k : Nat) (p1 : (List ((Int × Int × Int × Int × List (Int) × Unit)) × Unit)) (a1 : (List (List UInt8) × List ((Int × Int × Int × Unit)) × Unit)) (go1 : Int → Option Int) (t1 : Int) : Option Int :=
  if decide (t1 < (List.length p1.1 : Int)) then
    (
      Option.bind (at? p1.1 t1) fun x1 =>
      if x1.1 == (2 : Int) then
        (
          Option.bind (feature_Of k (a1.1, a1.2.1, ()) x1.2.1) fun v3 =>
          if v3.2 != (0 : Int) then
            some ((40 : Int))
          else
            pattern_Check_j1 go1 t1
        )
      else
        (
          if x1.1 == (3 : Int) then
            (
              Option.bind (feature_Text k (a1.1, a1.2.1, ()) x1.2.2.1 x1.2.2.2.1) fun v4 =>
              if v4.2 != (0 : Int) then
                some ((40 : Int))
              else
                pattern_Check_j1 go1 t1
            )
          else
            pattern_Check_j1 go1 t1
        )
    )
  else
    some ((0 : Int))
def pattern_Check_l1 (k : Nat) (p1 : (List ((Int × Int × Int × Int × List (Int) × Unit)) × Unit)) (a1 : (List (List UInt8) × List ((Int × Int × Int × Unit)) × Unit)) : Nat → Int → Option Int
  | 0, _ => none
  | n + 1, t1 => pattern_Check_b1 k p1 a1 (pattern_Check_l1 k p1 a1 n) t1
/-- cognate/pattern.Check -/
def pattern_Check (k : Nat) (a1 : (List (List UInt8) × List ((Int × Int × Int × Unit)) × Unit)) (p1 : (List ((Int × Int × Int × Int × List (Int) × Unit)) × Unit)) : Option Int :=
  Option.bind (feature_Check k (a1.1, a1.2.1, ())) fun v1 =>
  if v1 != (0 : Int) then
    some (v1)
  else
    (
      Option.bind (pattern_tree k (p1.1, ())) fun v2 =>
      if !v2 then
        some ((40 : Int))
      else
        pattern_Check_l1 k p1 a1 k (0 : Int)
    )

def rule_Check_j6  (t8 : Bool) : Option Int :=
  if t8 then
    some ((70 : Int))
  else
    some ((0 : Int))
def rule_Check_b2 (k : Nat) (r1 : (List UInt8 × List ((Int × Int × Int × Unit)) × List ((Int × Int × Int × Int × Unit)) × (List ((Int × Int × Int × Int × List (Int) × Unit)) × Unit) × (List ((Int × Int × Int × Int × List (Int) × Unit)) × Unit) × Int × Bool × Unit)) (a1 : (List (List UInt8) × List ((Int × Int × Int × Unit)) × Unit)) (go2 : Int → Option Int) (t7 : Int) : Option Int :=
  if decide (t7 < (List.length r1.2.2.1 : Int)) then
    (
      Option.bind (at? r1.2.2.1 t7) fun x2 =>
      Option.bind (rule_swap k (a1.1, a1.2.1, ()) (x2.1, x2.2.1, x2.2.2.1, x2.2.2.2.1, ()) (List.length r1.2.1 : Int)) fun v4 =>
      if !v4 then
        some ((70 : Int))
      else
        go2 (wi64 (t7 + (1 : Int)))
    )
  else
    (
      Option.bind (pattern_Check k (a1.1, a1.2.1, ()) (r1.2.2.2.1.1, ())) fun v5 =>
      if v5 != (0 : Int) then
        rule_Check_j6 true
      else
        (
          Option.bind (pattern_Check k (a1.1, a1.2.1, ()) (r1.2.2.2.2.1.1, ())) fun v6 =>
          rule_Check_j6 (v6 != (0 : Int))
        )
    )
def rule_Check_l2 (k : Nat) (r1 : (List UInt8 × List ((Int × Int × Int × Unit)) × List ((Int × Int × Int × Int × Unit)) × (List ((Int × Int × Int × Int × List (Int) × Unit)) × Unit) × (List ((Int × Int × Int × Int × List (Int) × Unit)) × Unit) × Int × Bool × Unit)) (a1 : (List (List UInt8) × List ((Int × Int × Int × Unit)) × Unit)) : Nat → Int → Option Int
  | 0, _ => none
  | n + 1, t7 => rule_Check_b2 k r1 a1 (rule_Check_l2 k r1 a1 n) t7
def rule_Check_b1 (k : Nat) (r1 : (List UInt8 × List ((Int × Int × Int × Unit)) × List ((Int × Int × Int × Int × Unit)) × (List ((Int × Int × Int × Int × List (Int) × Unit)) × Unit) × (List ((Int × Int × Int × Int × List (Int) × Unit)) × Unit) × Int × Bool × Unit)) (a1 : (List (List UInt8) × List ((Int × Int × Int × Unit)) × Unit)) (go1 : Int → Option Int) (t6 : Int) : Option Int :=
  if decide (t6 < (List.length r1.2.1 : Int)) then
    (
      Option.bind (at? r1.2.1 t6) fun x1 =>
      Option.bind (rule_either k (a1.1, a1.2.1, ()) x1.1 x1.2.1 x1.2.2.1) fun v3 =>
      if !v3 then
        some ((70 : Int))
      else
        go1 (wi64 (t6 + (1 : Int)))
    )
  else
    rule_Check_l2 k r1 a1 k (0 : Int)
def rule_Check_l1 (k : Nat) (r1 : (List UInt8 × List ((Int × Int × Int × Unit)) × List ((Int × Int × Int × Int × Unit)) × (List ((Int × Int × Int × Int × List (Int) × Unit)) × Unit) × (List ((Int × Int × Int × Int × List (Int) × Unit)) × Unit) × Int × Bool × Unit)) (a1 : (List (List UInt8) × List ((Int × Int × Int × Unit)) × Unit)) : Nat → Int → Option Int
  | 0, _ => none
  | n + 1, t6 => rule_Check_b1 k r1 a1 (rule_Check_l1 k r1 a1 n) t6
def rule_Check_j5 (k : Nat) (r1 : (List UInt8 × List ((Int × Int × Int × Unit)) × List ((Int × Int × Int × Int × Unit)) × (List ((Int × Int × Int × Int × List (Int) × Unit)) × Unit) × (List ((Int × Int × Int × Int × List (Int) × Unit)) × Unit) × Int × Bool × Unit)) (a1 : (List (List UInt8) × List ((Int × Int × Int × Unit)) × Unit)) (t5 : Bool) : Option Int :=
  if t5 then
    some ((70 : Int))
  else
    rule_Check_l1 k r1 a1 k (0 : Int)
def rule_Check_j4 (k : Nat) (r1 : (List UInt8 × List ((Int × Int × Int × Unit)) × List ((Int × Int × Int × Int × Unit)) × (List ((Int × Int × Int × Int × List (Int) × Unit)) × Unit) × (List ((Int × Int × Int × Int × List (Int) × Unit)) × Unit) × Int × Bool × Unit)) (a1 : (List (List UInt8) × List ((Int × Int × Int × Unit)) × Unit)) (t4 : Bool) : Option Int :=
  rule_Check_j5 k r1 a1 (t4 || ((wi64 ((List.length r1.2.1 : Int) + (List.length r1.2.2.1 : Int))) == (0 : Int)))
def rule_Check_j3 (k : Nat) (r1 : (List UInt8 × List ((Int × Int × Int × Unit)) × List ((Int × Int × Int × Int × Unit)) × (List ((Int × Int × Int × Int × List (Int) × Unit)) × Unit) × (List ((Int × Int × Int × Int × List (Int) × Unit)) × Unit) × Int × Bool × Unit)) (a1 : (List (List UInt8) × List ((Int × Int × Int × Unit)) × Unit)) (t3 : Bool) : Option Int :=
  rule_Check_j4 k r1 a1 (t3 || (decide ((8 : Int) < (List.length r1.2.2.1 : Int))))
def rule_Check_j2 (k : Nat) (r1 : (List UInt8 × List ((Int × Int × Int × Unit)) × List ((Int × Int × Int × Int × Unit)) × (List ((Int × Int × Int × Int × List (Int) × Unit)) × Unit) × (List ((Int × Int × Int × Int × List (Int) × Unit)) × Unit) × Int × Bool × Unit)) (a1 : (List (List UInt8) × List ((Int × Int × Int × Unit)) × Unit)) (t2 : Bool) : Option Int :=
  rule_Check_j3 k r1 a1 (t2 || (decide ((8 : Int) < (List.length r1.2.1 : Int))))
def rule_Check_j1 (k : Nat) (r1 : (List UInt8 × List ((Int × Int × Int × Unit)) × List ((Int × Int × Int × Int × Unit)) × (List ((Int × Int × Int × Int × List (Int) × Unit)) × Unit) × (List ((Int × Int × Int × Int × List (Int) × Unit)) × Unit) × Int × Bool × Unit)) (a1 : (List (List UInt8) × List ((Int × Int × Int × Unit)) × Unit)) (t1 : Bool) : Option Int :=
  rule_Check_j2 k r1 a1 (t1 || (decide ((3 : Int) < r1.2.2.2.2.2.1)))
/-- cognate/rule.Check -/
def rule_Check (k : Nat) (a1 : (List (List UInt8) × List ((Int × Int × Int × Unit)) × Unit)) (r1 : (List UInt8 × List ((Int × Int × Int × Unit)) × List ((Int × Int × Int × Int × Unit)) × (List ((Int × Int × Int × Int × List (Int) × Unit)) × Unit) × (List ((Int × Int × Int × Int × List (Int) × Unit)) × Unit) × Int × Bool × Unit)) : Option Int :=
  Option.bind (feature_Check k (a1.1, a1.2.1, ())) fun v1 =>
  if v1 != (0 : Int) then
    some (v1)
  else
    (
      Option.bind (rule_named k r1.1) fun v2 =>
      rule_Check_j1 k r1 a1 ((!v2) || (decide (r1.2.2.2.2.2.1 < (1 : Int))))
    )

def law_Check_b1 (k : Nat) (l1 : List ((List UInt8 × List ((Int × Int × Int × Unit)) × List ((Int × Int × Int × Int × Unit)) × (List ((Int × Int × Int × Int × List (Int) × Unit)) × Unit) × (List ((Int × Int × Int × Int × List (Int) × Unit)) × Unit) × Int × Bool × Unit))) (a1 : (List (List UInt8) × List ((Int × Int × Int × Unit)) × Unit)) (go1 : Int → Option Int) (t1 : Int) : Option Int :=
  if decide (t1 < (List.length l1 : Int)) then
    (
      Option.bind (at? l1 t1) fun x1 =>
      Option.bind (rule_Check k (a1.1, a1.2.1, ()) (x1.1, x1.2.1, x1.2.2.1, (x1.2.2.2.1.1, ()), (x1.2.2.2.2.1.1, ()), x1.2.2.2.2.2.1, x1.2.2.2.2.2.2.1, ())) fun v2 =>
      if v2 != (0 : Int) then
        some (v2)
      else
        go1 (wi64 (t1 + (1 : Int)))
    )
  else
    some ((0 : Int))
def law_Check_l1 (k : Nat) (l1 : List ((List UInt8 × List ((Int × Int × Int × Unit)) × List ((Int × Int × Int × Int × Unit)) × (List ((Int × Int × Int × Int × List (Int) × Unit)) × Unit) × (List ((Int × Int × Int × Int × List (Int) × Unit)) × Unit) × Int × Bool × Unit))) (a1 : (List (List UInt8) × List ((Int × Int × Int × Unit)) × Unit)) : Nat → Int → Option Int
  | 0, _ => none
  | n + 1, t1 => law_Check_b1 k l1 a1 (law_Check_l1 k l1 a1 n) t1
/-- cognate/law.Check -/
def law_Check (k : Nat) (a1 : (List (List UInt8) × List ((Int × Int × Int × Unit)) × Unit)) (l1 : List ((List UInt8 × List ((Int × Int × Int × Unit)) × List ((Int × Int × Int × Int × Unit)) × (List ((Int × Int × Int × Int × List (Int) × Unit)) × Unit) × (List ((Int × Int × Int × Int × List (Int) × Unit)) × Unit) × Int × Bool × Unit))) : Option Int :=
  Option.bind (feature_Check k (a1.1, a1.2.1, ())) fun v1 =>
  if v1 != (0 : Int) then
    some (v1)
  else
    (
      if decide ((64 : Int) < (List.length l1 : Int)) then
        some ((4 : Int))
      else
        law_Check_l1 k l1 a1 k (0 : Int)
    )

def family_Check_b1 (k : Nat) (f1 : ((List (List UInt8) × List ((Int × Int × Int × Unit)) × Unit) × List ((List UInt8 × Int × List ((List UInt8 × List ((Int × Int × Int × Unit)) × List ((Int × Int × Int × Int × Unit)) × (List ((Int × Int × Int × Int × List (Int) × Unit)) × Unit) × (List ((Int × Int × Int × Int × List (Int) × Unit)) × Unit) × Int × Bool × Unit)) × Unit)) × Unit)) (go1 : Int → Option Int) (t1 : Int) : Option Int :=
  if decide (t1 < (List.length f1.2.1 : Int)) then
    (
      Option.bind (at? f1.2.1 t1) fun x1 =>
      Option.bind (law_Check k (f1.1.1, f1.1.2.1, ()) x1.2.2.1) fun v3 =>
      if v3 != (0 : Int) then
        some (v3)
      else
        go1 (wi64 (t1 + (1 : Int)))
    )
  else
    some ((0 : Int))
def family_Check_l1 (k : Nat) (f1 : ((List (List UInt8) × List ((Int × Int × Int × Unit)) × Unit) × List ((List UInt8 × Int × List ((List UInt8 × List ((Int × Int × Int × Unit)) × List ((Int × Int × Int × Int × Unit)) × (List ((Int × Int × Int × Int × List (Int) × Unit)) × Unit) × (List ((Int × Int × Int × Int × List (Int) × Unit)) × Unit) × Int × Bool × Unit)) × Unit)) × Unit)) : Nat → Int → Option Int
  | 0, _ => none
  | n + 1, t1 => family_Check_b1 k f1 (family_Check_l1 k f1 n) t1
/-- cognate/family.Check -/
def family_Check (k : Nat) (f1 : ((List (List UInt8) × List ((Int × Int × Int × Unit)) × Unit) × List ((List UInt8 × Int × List ((List UInt8 × List ((Int × Int × Int × Unit)) × List ((Int × Int × Int × Int × Unit)) × (List ((Int × Int × Int × Int × List (Int) × Unit)) × Unit) × (List ((Int × Int × Int × Int × List (Int) × Unit)) × Unit) × Int × Bool × Unit)) × Unit)) × Unit)) : Option Int :=
  Option.bind (feature_Check k (f1.1.1, f1.1.2.1, ())) fun v1 =>
  if v1 != (0 : Int) then
    some (v1)
  else
    (
      Option.bind (family_shaped k f1.2.1) fun v2 =>
      if !v2 then
        some ((270 : Int))
      else
        family_Check_l1 k f1 k (0 : Int)
    )

def family_asked_j1 (go1 : Int → Option Int) (t1 : Int) (t2 : Bool) : Option Int :=
  if t2 then
    some ((8 : Int))
  else
    go1 (wi64 (t1 + (1 : Int)))
def family_asked_b1 (tongues1 : List (Int)) (f1 : ((List (List UInt8) × List ((Int × Int × Int × Unit)) × Unit) × List ((List UInt8 × Int × List ((List UInt8 × List ((Int × Int × Int × Unit)) × List ((Int × Int × Int × Int × Unit)) × (List ((Int × Int × Int × Int × List (Int) × Unit)) × Unit) × (List ((Int × Int × Int × Int × List (Int) × Unit)) × Unit) × Int × Bool × Unit)) × Unit)) × Unit)) (go1 : Int → Option Int) (t1 : Int) : Option Int :=
  if decide (t1 < (List.length tongues1 : Int)) then
    (
      Option.bind (at? tongues1 t1) fun x1 =>
      family_asked_j1 go1 t1 (decide (x1 < (0 : Int)) || (decide ((List.length f1.2.1 : Int) ≤ x1)))
    )
  else
    some ((0 : Int))
def family_asked_l1 (tongues1 : List (Int)) (f1 : ((List (List UInt8) × List ((Int × Int × Int × Unit)) × Unit) × List ((List UInt8 × Int × List ((List UInt8 × List ((Int × Int × Int × Unit)) × List ((Int × Int × Int × Int × Unit)) × (List ((Int × Int × Int × Int × List (Int) × Unit)) × Unit) × (List ((Int × Int × Int × Int × List (Int) × Unit)) × Unit) × Int × Bool × Unit)) × Unit)) × Unit)) : Nat → Int → Option Int
  | 0, _ => none
  | n + 1, t1 => family_asked_b1 tongues1 f1 (family_asked_l1 tongues1 f1 n) t1
/-- cognate/family.asked -/
def family_asked (k : Nat) (f1 : ((List (List UInt8) × List ((Int × Int × Int × Unit)) × Unit) × List ((List UInt8 × Int × List ((List UInt8 × List ((Int × Int × Int × Unit)) × List ((Int × Int × Int × Int × Unit)) × (List ((Int × Int × Int × Int × List (Int) × Unit)) × Unit) × (List ((Int × Int × Int × Int × List (Int) × Unit)) × Unit) × Int × Bool × Unit)) × Unit)) × Unit)) (tongues1 : List (Int)) : Option Int :=
  Option.bind (family_Check k ((f1.1.1, f1.1.2.1, ()), f1.2.1, ())) fun v1 =>
  if v1 != (0 : Int) then
    some (v1)
  else
    family_asked_l1 tongues1 f1 k (0 : Int)

def family_Text_c1_i1_j1 (go1 : Int → (List (Int)) → Option (List (Int))) (t2 : Int) (t4 : List (Int)) : Option (List (Int)) :=
  go1 (wi64 (t2 + (1 : Int))) t4
def family_Text_c1_i1_b1 (c3 : List ((List UInt8 × Int × List ((List UInt8 × List ((Int × Int × Int × Unit)) × List ((Int × Int × Int × Int × Unit)) × (List ((Int × Int × Int × Int × List (Int) × Unit)) × Unit) × (List ((Int × Int × Int × Int × List (Int) × Unit)) × Unit) × Int × Bool × Unit)) × Unit))) (tongue1 : Int) (rec1 : Int → Int → (List (List UInt8)) → (List ((Int × Int × Int × Unit))) → (List ((List UInt8 × Int × List ((List UInt8 × List ((Int × Int × Int × Unit)) × List ((Int × Int × Int × Int × Unit)) × (List ((Int × Int × Int × Int × List (Int) × Unit)) × Unit) × (List ((Int × Int × Int × Int × List (Int) × Unit)) × Unit) × Int × Bool × Unit)) × Unit))) → (List (Int)) → Option (List (Int))) (deep1 : Int) (c1 : List (List UInt8)) (c2 : List ((Int × Int × Int × Unit))) (go1 : Int → (List (Int)) → Option (List (Int))) (t2 : Int) (t3 : List (Int)) : Option (List (Int)) :=
  if decide (t2 < (List.length c3 : Int)) then
    (
      Option.bind (at? c3 t2) fun x2 =>
      if x2.2.1 == tongue1 then
        (
          Option.bind (rec1 t2 (wi64 (deep1 + (1 : Int))) c1 c2 c3 t3) fun v3 =>
          family_Text_c1_i1_j1 go1 t2 v3
        )
      else
        family_Text_c1_i1_j1 go1 t2 t3
    )
  else
    some t3
def family_Text_c1_i1_l1 (c3 : List ((List UInt8 × Int × List ((List UInt8 × List ((Int × Int × Int × Unit)) × List ((Int × Int × Int × Int × Unit)) × (List ((Int × Int × Int × Int × List (Int) × Unit)) × Unit) × (List ((Int × Int × Int × Int × List (Int) × Unit)) × Unit) × Int × Bool × Unit)) × Unit))) (tongue1 : Int) (rec1 : Int → Int → (List (List UInt8)) → (List ((Int × Int × Int × Unit))) → (List ((List UInt8 × Int × List ((List UInt8 × List ((Int × Int × Int × Unit)) × List ((Int × Int × Int × Int × Unit)) × (List ((Int × Int × Int × Int × List (Int) × Unit)) × Unit) × (List ((Int × Int × Int × Int × List (Int) × Unit)) × Unit) × Int × Bool × Unit)) × Unit))) → (List (Int)) → Option (List (Int))) (deep1 : Int) (c1 : List (List UInt8)) (c2 : List ((Int × Int × Int × Unit))) : Nat → Int → (List (Int)) → Option (List (Int))
  | 0, _, _ => none
  | n + 1, t2, t3 => family_Text_c1_i1_b1 c3 tongue1 rec1 deep1 c1 c2 (family_Text_c1_i1_l1 c3 tongue1 rec1 deep1 c1 c2 n) t2 t3
/-- cognate/family.Text.1 -/
def family_Text_c1_i1 : Nat → Int → Int → (List (List UInt8)) → (List ((Int × Int × Int × Unit))) → (List ((List UInt8 × Int × List ((List UInt8 × List ((Int × Int × Int × Unit)) × List ((Int × Int × Int × Int × Unit)) × (List ((Int × Int × Int × Int × List (Int) × Unit)) × Unit) × (List ((Int × Int × Int × Int × List (Int) × Unit)) × Unit) × Int × Bool × Unit)) × Unit))) → (List (Int)) → Option (List (Int))
  | 0, _, _, _, _, _, _ => none
  | k + 1, tongue1, deep1, c1, c2, c3, l1 =>
    Option.bind (strings_Repeat k ([32, 32] : List UInt8) deep1) fun v1 =>
    Option.bind (at? c3 tongue1) fun x1 =>
    Option.bind (chk (List.length v1 + List.length x1.1 ≤ lim)) fun _ =>
    Option.bind (chk (List.length (v1 ++ x1.1) + List.length ([10] : List UInt8) ≤ lim)) fun _ =>
    Option.bind (strings_Builder_WriteString_i1 k ((v1 ++ x1.1) ++ ([10] : List UInt8)) l1) fun v2 =>
    family_Text_c1_i1_l1 c3 tongue1 (family_Text_c1_i1 k) deep1 c1 c2 k (0 : Int) v2.2.2

/-- cognate/family.Text -/
def family_Text (k : Nat) (f1 : ((List (List UInt8) × List ((Int × Int × Int × Unit)) × Unit) × List ((List UInt8 × Int × List ((List UInt8 × List ((Int × Int × Int × Unit)) × List ((Int × Int × Int × Int × Unit)) × (List ((Int × Int × Int × Int × List (Int) × Unit)) × Unit) × (List ((Int × Int × Int × Int × List (Int) × Unit)) × Unit) × Int × Bool × Unit)) × Unit)) × Unit)) : Option (List UInt8 × Int) :=
  Option.bind (family_asked k ((f1.1.1, f1.1.2.1, ()), f1.2.1, ()) ([] : List (Int))) fun v1 =>
  if v1 != (0 : Int) then
    some (([] : List UInt8), v1)
  else
    (
      Option.bind (family_Text_c1_i1 k (0 : Int) (0 : Int) f1.1.1 f1.1.2.1 f1.2.1 ([] : List (Int))) fun v2 =>
      Option.bind (bld_String k v2) fun v3 =>
      some (v3, (0 : Int))
    )

def l27_awake_j1  (t1 : Bool) : Option Bool :=
  some (t1)
/-- cognate/cognatelaw27.awake -/
def l27_awake (k : Nat)  : Option Bool :=
  Option.bind (l27_sample k) fun v1 =>
  Option.bind (family_Text k v1) fun v2 =>
  l27_awake_j1 ((v2.2 == (0 : Int)) && (v2.1 == ([112, 10, 32, 32, 113, 10] : List UInt8)))

def l27_large_j2 (go1 : Int → Int → Option Bool) (i1 : Int) (n2 : Int) : Option Bool :=
  go1 n2 (wi64 (i1 + (1 : Int)))
def l27_large_j1 (f1 : ((List (List UInt8) × List ((Int × Int × Int × Unit)) × Unit) × List ((List UInt8 × Int × List ((List UInt8 × List ((Int × Int × Int × Unit)) × List ((Int × Int × Int × Int × Unit)) × (List ((Int × Int × Int × Int × List (Int) × Unit)) × Unit) × (List ((Int × Int × Int × Int × List (Int) × Unit)) × Unit) × Int × Bool × Unit)) × Unit)) × Unit)) (i1 : Int) (go1 : Int → Int → Option Bool) (n1 : Int) (t1 : Bool) : Option Bool :=
  if t1 then
    (
      Option.bind (at? f1.2.1 i1) fun x1 =>
      if decide ((List.length x1.2.2.1 : Int) ≤ (64 : Int)) then
        l27_large_j2 go1 i1 (wi64 (n1 + (List.length x1.2.2.1 : Int)))
      else
        l27_large_j2 go1 i1 n1
    )
  else
    some (decide ((60 : Int) < n1))
def l27_large_b1 (f1 : ((List (List UInt8) × List ((Int × Int × Int × Unit)) × Unit) × List ((List UInt8 × Int × List ((List UInt8 × List ((Int × Int × Int × Unit)) × List ((Int × Int × Int × Int × Unit)) × (List ((Int × Int × Int × Int × List (Int) × Unit)) × Unit) × (List ((Int × Int × Int × Int × List (Int) × Unit)) × Unit) × Int × Bool × Unit)) × Unit)) × Unit)) (go1 : Int → Int → Option Bool) (n1 : Int) (i1 : Int) : Option Bool :=
  l27_large_j1 f1 i1 go1 n1 (decide (i1 < (List.length f1.2.1 : Int)) && (decide (i1 < (40 : Int))))
def l27_large_l1 (f1 : ((List (List UInt8) × List ((Int × Int × Int × Unit)) × Unit) × List ((List UInt8 × Int × List ((List UInt8 × List ((Int × Int × Int × Unit)) × List ((Int × Int × Int × Int × Unit)) × (List ((Int × Int × Int × Int × List (Int) × Unit)) × Unit) × (List ((Int × Int × Int × Int × List (Int) × Unit)) × Unit) × Int × Bool × Unit)) × Unit)) × Unit)) : Nat → Int → Int → Option Bool
  | 0, _, _ => none
  | n + 1, n1, i1 => l27_large_b1 f1 (l27_large_l1 f1 n) n1 i1
/-- cognate/cognatelaw27.large -/
def l27_large (k : Nat) (f1 : ((List (List UInt8) × List ((Int × Int × Int × Unit)) × Unit) × List ((List UInt8 × Int × List ((List UInt8 × List ((Int × Int × Int × Unit)) × List ((Int × Int × Int × Int × Unit)) × (List ((Int × Int × Int × Int × List (Int) × Unit)) × Unit) × (List ((Int × Int × Int × Int × List (Int) × Unit)) × Unit) × Int × Bool × Unit)) × Unit)) × Unit)) : Option Bool :=
  l27_large_l1 f1 k (0 : Int) (0 : Int)

def family_path_b1 (f1 : ((List (List UInt8) × List ((Int × Int × Int × Unit)) × Unit) × List ((List UInt8 × Int × List ((List UInt8 × List ((Int × Int × Int × Unit)) × List ((Int × Int × Int × Int × Unit)) × (List ((Int × Int × Int × Int × List (Int) × Unit)) × Unit) × (List ((Int × Int × Int × Int × List (Int) × Unit)) × Unit) × Int × Bool × Unit)) × Unit)) × Unit)) (go1 : Int → (List (Int)) → Option (List (Int))) (tongue2 : Int) (out1 : List (Int)) : Option (List (Int)) :=
  if decide ((0 : Int) ≤ tongue2) then
    (
      Option.bind (chk (List.length out1 + List.length ([tongue2] : List (Int)) ≤ lim)) fun _ =>
      Option.bind (at? f1.2.1 tongue2) fun x1 =>
      go1 x1.2.1 (out1 ++ ([tongue2] : List (Int)))
    )
  else
    some (List.reverse out1)
def family_path_l1 (f1 : ((List (List UInt8) × List ((Int × Int × Int × Unit)) × Unit) × List ((List UInt8 × Int × List ((List UInt8 × List ((Int × Int × Int × Unit)) × List ((Int × Int × Int × Int × Unit)) × (List ((Int × Int × Int × Int × List (Int) × Unit)) × Unit) × (List ((Int × Int × Int × Int × List (Int) × Unit)) × Unit) × Int × Bool × Unit)) × Unit)) × Unit)) : Nat → Int → (List (Int)) → Option (List (Int))
  | 0, _, _ => none
  | n + 1, tongue2, out1 => family_path_b1 f1 (family_path_l1 f1 n) tongue2 out1
/-- cognate/family.path -/
def family_path (k : Nat) (f1 : ((List (List UInt8) × List ((Int × Int × Int × Unit)) × Unit) × List ((List UInt8 × Int × List ((List UInt8 × List ((Int × Int × Int × Unit)) × List ((Int × Int × Int × Int × Unit)) × (List ((Int × Int × Int × Int × List (Int) × Unit)) × Unit) × (List ((Int × Int × Int × Int × List (Int) × Unit)) × Unit) × Int × Bool × Unit)) × Unit)) × Unit)) (tongue1 : Int) : Option (List (Int)) :=
  family_path_l1 f1 k tongue1 ([] : List (Int))

/-- cognate/family.Path -/
def family_Path (k : Nat) (f1 : ((List (List UInt8) × List ((Int × Int × Int × Unit)) × Unit) × List ((List UInt8 × Int × List ((List UInt8 × List ((Int × Int × Int × Unit)) × List ((Int × Int × Int × Int × Unit)) × (List ((Int × Int × Int × Int × List (Int) × Unit)) × Unit) × (List ((Int × Int × Int × Int × List (Int) × Unit)) × Unit) × Int × Bool × Unit)) × Unit)) × Unit)) (tongue1 : Int) : Option (List (Int) × Int) :=
  Option.bind (family_asked k ((f1.1.1, f1.1.2.1, ()), f1.2.1, ()) ([tongue1] : List (Int))) fun v1 =>
  if v1 != (0 : Int) then
    some (([] : List (Int)), v1)
  else
    (
      Option.bind (family_path k ((f1.1.1, f1.1.2.1, ()), f1.2.1, ()) tongue1) fun v2 =>
      some (v2, (0 : Int))
    )

def family_Near_b1 (f1 : ((List (List UInt8) × List ((Int × Int × Int × Unit)) × Unit) × List ((List UInt8 × Int × List ((List UInt8 × List ((Int × Int × Int × Unit)) × List ((Int × Int × Int × Int × Unit)) × (List ((Int × Int × Int × Int × List (Int) × Unit)) × Unit) × (List ((Int × Int × Int × Int × List (Int) × Unit)) × Unit) × Int × Bool × Unit)) × Unit)) × Unit)) (go1 : Int → Int → Option (Int × Int)) (x2 : Int) (y2 : Int) : Option (Int × Int) :=
  if x2 != y2 then
    (
      if decide (y2 < x2) then
        (
          Option.bind (at? f1.2.1 x2) fun x3 =>
          go1 x3.2.1 y2
        )
      else
        (
          Option.bind (at? f1.2.1 y2) fun x4 =>
          go1 x2 x4.2.1
        )
    )
  else
    some (x2, (0 : Int))
def family_Near_l1 (f1 : ((List (List UInt8) × List ((Int × Int × Int × Unit)) × Unit) × List ((List UInt8 × Int × List ((List UInt8 × List ((Int × Int × Int × Unit)) × List ((Int × Int × Int × Int × Unit)) × (List ((Int × Int × Int × Int × List (Int) × Unit)) × Unit) × (List ((Int × Int × Int × Int × List (Int) × Unit)) × Unit) × Int × Bool × Unit)) × Unit)) × Unit)) : Nat → Int → Int → Option (Int × Int)
  | 0, _, _ => none
  | n + 1, x2, y2 => family_Near_b1 f1 (family_Near_l1 f1 n) x2 y2
/-- cognate/family.Near -/
def family_Near (k : Nat) (f1 : ((List (List UInt8) × List ((Int × Int × Int × Unit)) × Unit) × List ((List UInt8 × Int × List ((List UInt8 × List ((Int × Int × Int × Unit)) × List ((Int × Int × Int × Int × Unit)) × (List ((Int × Int × Int × Int × List (Int) × Unit)) × Unit) × (List ((Int × Int × Int × Int × List (Int) × Unit)) × Unit) × Int × Bool × Unit)) × Unit)) × Unit)) (x1 : Int) (y1 : Int) : Option (Int × Int) :=
  Option.bind (family_asked k ((f1.1.1, f1.1.2.1, ()), f1.2.1, ()) ([x1, y1] : List (Int))) fun v1 =>
  if v1 != (0 : Int) then
    some ((0 : Int), v1)
  else
    family_Near_l1 f1 k x1 y1

/-- cognate/family.Leaves.1 -/
def family_Leaves_c1 (k : Nat) (b1 : (List UInt8 × Int × List ((List UInt8 × List ((Int × Int × Int × Unit)) × List ((Int × Int × Int × Int × Unit)) × (List ((Int × Int × Int × Int × List (Int) × Unit)) × Unit) × (List ((Int × Int × Int × Int × List (Int) × Unit)) × Unit) × Int × Bool × Unit)) × Unit)) (t1 : Int) : Option Bool :=
  some (b1.2.1 == t1)

def slices_IndexFunc___api_Branch_api_Branch__Leaves_c1_b1 (k : Nat) (s1 : List ((List UInt8 × Int × List ((List UInt8 × List ((Int × Int × Int × Unit)) × List ((Int × Int × Int × Int × Unit)) × (List ((Int × Int × Int × Int × List (Int) × Unit)) × Unit) × (List ((Int × Int × Int × Int × List (Int) × Unit)) × Unit) × Int × Bool × Unit)) × Unit))) (f1 : (Int × Unit)) (go1 : Int → Option Int) (t1 : Int) : Option Int :=
  if decide (t1 < (List.length s1 : Int)) then
    (
      Option.bind (at? s1 t1) fun x1 =>
      Option.bind (family_Leaves_c1 k x1 f1.1) fun v1 =>
      if v1 then
        some (t1)
      else
        go1 (wi64 (t1 + (1 : Int)))
    )
  else
    some ((-1 : Int))
def slices_IndexFunc___api_Branch_api_Branch__Leaves_c1_l1 (k : Nat) (s1 : List ((List UInt8 × Int × List ((List UInt8 × List ((Int × Int × Int × Unit)) × List ((Int × Int × Int × Int × Unit)) × (List ((Int × Int × Int × Int × List (Int) × Unit)) × Unit) × (List ((Int × Int × Int × Int × List (Int) × Unit)) × Unit) × Int × Bool × Unit)) × Unit))) (f1 : (Int × Unit)) : Nat → Int → Option Int
  | 0, _ => none
  | n + 1, t1 => slices_IndexFunc___api_Branch_api_Branch__Leaves_c1_b1 k s1 f1 (slices_IndexFunc___api_Branch_api_Branch__Leaves_c1_l1 k s1 f1 n) t1
/-- slices.IndexFunc[[]cognate/api.Branch,cognate/api.Branch] -/
def slices_IndexFunc___api_Branch_api_Branch__Leaves_c1 (k : Nat) (s1 : List ((List UInt8 × Int × List ((List UInt8 × List ((Int × Int × Int × Unit)) × List ((Int × Int × Int × Int × Unit)) × (List ((Int × Int × Int × Int × List (Int) × Unit)) × Unit) × (List ((Int × Int × Int × Int × List (Int) × Unit)) × Unit) × Int × Bool × Unit)) × Unit))) (f1 : (Int × Unit)) : Option Int :=
  slices_IndexFunc___api_Branch_api_Branch__Leaves_c1_l1 k s1 f1 k (0 : Int)

/-- slices.ContainsFunc[[]cognate/api.Branch,cognate/api.Branch] -/
def slices_ContainsFunc___api_Branch_api_Branch__Leaves_c1 (k : Nat) (s1 : List ((List UInt8 × Int × List ((List UInt8 × List ((Int × Int × Int × Unit)) × List ((Int × Int × Int × Int × Unit)) × (List ((Int × Int × Int × Int × List (Int) × Unit)) × Unit) × (List ((Int × Int × Int × Int × List (Int) × Unit)) × Unit) × Int × Bool × Unit)) × Unit))) (f1 : (Int × Unit)) : Option Bool :=
  Option.bind (slices_IndexFunc___api_Branch_api_Branch__Leaves_c1 k s1 f1) fun v1 =>
  some (decide ((0 : Int) ≤ v1))

def family_Leaves_j1 (go1 : Int → (List (Int)) → Option (List (Int) × Int)) (t1 : Int) (out2 : List (Int)) : Option (List (Int) × Int) :=
  go1 (wi64 (t1 + (1 : Int))) out2
def family_Leaves_b1 (k : Nat) (f1 : ((List (List UInt8) × List ((Int × Int × Int × Unit)) × Unit) × List ((List UInt8 × Int × List ((List UInt8 × List ((Int × Int × Int × Unit)) × List ((Int × Int × Int × Int × Unit)) × (List ((Int × Int × Int × Int × List (Int) × Unit)) × Unit) × (List ((Int × Int × Int × Int × List (Int) × Unit)) × Unit) × Int × Bool × Unit)) × Unit)) × Unit)) (go1 : Int → (List (Int)) → Option (List (Int) × Int)) (t1 : Int) (out1 : List (Int)) : Option (List (Int) × Int) :=
  if decide (t1 < (List.length f1.2.1 : Int)) then
    (
      Option.bind (slices_ContainsFunc___api_Branch_api_Branch__Leaves_c1 k f1.2.1 (t1, ())) fun v2 =>
      if !v2 then
        (
          Option.bind (chk (List.length out1 + List.length ([t1] : List (Int)) ≤ lim)) fun _ =>
          family_Leaves_j1 go1 t1 (out1 ++ ([t1] : List (Int)))
        )
      else
        family_Leaves_j1 go1 t1 out1
    )
  else
    some (out1, (0 : Int))
def family_Leaves_l1 (k : Nat) (f1 : ((List (List UInt8) × List ((Int × Int × Int × Unit)) × Unit) × List ((List UInt8 × Int × List ((List UInt8 × List ((Int × Int × Int × Unit)) × List ((Int × Int × Int × Int × Unit)) × (List ((Int × Int × Int × Int × List (Int) × Unit)) × Unit) × (List ((Int × Int × Int × Int × List (Int) × Unit)) × Unit) × Int × Bool × Unit)) × Unit)) × Unit)) : Nat → Int → (List (Int)) → Option (List (Int) × Int)
  | 0, _, _ => none
  | n + 1, t1, out1 => family_Leaves_b1 k f1 (family_Leaves_l1 k f1 n) t1 out1
/-- cognate/family.Leaves -/
def family_Leaves (k : Nat) (f1 : ((List (List UInt8) × List ((Int × Int × Int × Unit)) × Unit) × List ((List UInt8 × Int × List ((List UInt8 × List ((Int × Int × Int × Unit)) × List ((Int × Int × Int × Int × Unit)) × (List ((Int × Int × Int × Int × List (Int) × Unit)) × Unit) × (List ((Int × Int × Int × Int × List (Int) × Unit)) × Unit) × Int × Bool × Unit)) × Unit)) × Unit)) : Option (List (Int) × Int) :=
  Option.bind (family_asked k ((f1.1.1, f1.1.2.1, ()), f1.2.1, ()) ([] : List (Int))) fun v1 =>
  if v1 != (0 : Int) then
    some (([] : List (Int)), v1)
  else
    family_Leaves_l1 k f1 k (0 : Int) ([] : List (Int))

def l27_FamilyPaths_j4  (t4 : Bool) : Option Bool :=
  some (t4)
def l27_FamilyPaths_j3 (v6 : (Int × Int)) (t3 : Bool) : Option Bool :=
  l27_FamilyPaths_j4 (t3 && (v6.1 == (0 : Int)))
def l27_FamilyPaths_j2 (v6 : (Int × Int)) (v5 : (Int × Int)) (t2 : Bool) : Option Bool :=
  l27_FamilyPaths_j3 v6 (t2 && (v5.1 == (0 : Int)))
def l27_FamilyPaths_j11 (go1 : Int → Option Bool) (k1 : Int) (t11 : Bool) : Option Bool :=
  if t11 then
    some (false)
  else
    go1 (wi64 (k1 + (1 : Int)))
def l27_FamilyPaths_j10 (go1 : Int → Option Bool) (k1 : Int) (v3 : (List (Int) × Int)) (f1 : ((List (List UInt8) × List ((Int × Int × Int × Unit)) × Unit) × List ((List UInt8 × Int × List ((List UInt8 × List ((Int × Int × Int × Unit)) × List ((Int × Int × Int × Int × Unit)) × (List ((Int × Int × Int × Int × List (Int) × Unit)) × Unit) × (List ((Int × Int × Int × Int × List (Int) × Unit)) × Unit) × Int × Bool × Unit)) × Unit)) × Unit)) (t10 : Bool) : Option Bool :=
  if t10 then
    l27_FamilyPaths_j11 go1 k1 true
  else
    (
      Option.bind (at? v3.1 k1) fun x4 =>
      Option.bind (at? f1.2.1 x4) fun x5 =>
      Option.bind (at? v3.1 (wi64 (k1 - (1 : Int)))) fun x6 =>
      l27_FamilyPaths_j11 go1 k1 (x5.2.1 != x6)
    )
def l27_FamilyPaths_j12 (go3 : Int → Int → Option Bool) (j1 : Int) (last3 : Int) : Option Bool :=
  go3 last3 (wi64 (j1 + (1 : Int)))
def l27_FamilyPaths_b3 (v4 : (List (Int) × Int)) (v3 : (List (Int) × Int)) (k2 : Int) (go2 : Int → Int → (List (List UInt8)) → (List ((Int × Int × Int × Unit))) → (List ((List UInt8 × Int × List ((List UInt8 × List ((Int × Int × Int × Unit)) × List ((Int × Int × Int × Int × Unit)) × (List ((Int × Int × Int × Int × List (Int) × Unit)) × Unit) × (List ((Int × Int × Int × Int × List (Int) × Unit)) × Unit) × Int × Bool × Unit)) × Unit))) → Option Bool) (f2 : List (List UInt8)) (f3 : List ((Int × Int × Int × Unit))) (f4 : List ((List UInt8 × Int × List ((List UInt8 × List ((Int × Int × Int × Unit)) × List ((Int × Int × Int × Int × Unit)) × (List ((Int × Int × Int × Int × List (Int) × Unit)) × Unit) × (List ((Int × Int × Int × Int × List (Int) × Unit)) × Unit) × Int × Bool × Unit)) × Unit))) (go3 : Int → Int → Option Bool) (last2 : Int) (j1 : Int) : Option Bool :=
  if decide (j1 < (List.length v4.1 : Int)) then
    (
      Option.bind (at? v3.1 k2) fun x7 =>
      Option.bind (at? v4.1 j1) fun x8 =>
      if x7 == x8 then
        l27_FamilyPaths_j12 go3 j1 x7
      else
        l27_FamilyPaths_j12 go3 j1 last2
    )
  else
    go2 last2 (wi64 (k2 + (1 : Int))) f2 f3 f4
def l27_FamilyPaths_l3 (v4 : (List (Int) × Int)) (v3 : (List (Int) × Int)) (k2 : Int) (go2 : Int → Int → (List (List UInt8)) → (List ((Int × Int × Int × Unit))) → (List ((List UInt8 × Int × List ((List UInt8 × List ((Int × Int × Int × Unit)) × List ((Int × Int × Int × Int × Unit)) × (List ((Int × Int × Int × Int × List (Int) × Unit)) × Unit) × (List ((Int × Int × Int × Int × List (Int) × Unit)) × Unit) × Int × Bool × Unit)) × Unit))) → Option Bool) (f2 : List (List UInt8)) (f3 : List ((Int × Int × Int × Unit))) (f4 : List ((List UInt8 × Int × List ((List UInt8 × List ((Int × Int × Int × Unit)) × List ((Int × Int × Int × Int × Unit)) × (List ((Int × Int × Int × Int × List (Int) × Unit)) × Unit) × (List ((Int × Int × Int × Int × List (Int) × Unit)) × Unit) × Int × Bool × Unit)) × Unit))) : Nat → Int → Int → Option Bool
  | 0, _, _ => none
  | n + 1, last2, j1 => l27_FamilyPaths_b3 v4 v3 k2 go2 f2 f3 f4 (l27_FamilyPaths_l3 v4 v3 k2 go2 f2 f3 f4 n) last2 j1
def l27_FamilyPaths_b5 (f7 : List ((List UInt8 × Int × List ((List UInt8 × List ((Int × Int × Int × Unit)) × List ((Int × Int × Int × Int × Unit)) × (List ((Int × Int × Int × Int × List (Int) × Unit)) × Unit) × (List ((Int × Int × Int × Int × List (Int) × Unit)) × Unit) × Int × Bool × Unit)) × Unit))) (v7 : (List (Int) × Int)) (k3 : Int) (go4 : Int → (List (List UInt8)) → (List ((Int × Int × Int × Unit))) → (List ((List UInt8 × Int × List ((List UInt8 × List ((Int × Int × Int × Unit)) × List ((Int × Int × Int × Int × Unit)) × (List ((Int × Int × Int × Int × List (Int) × Unit)) × Unit) × (List ((Int × Int × Int × Int × List (Int) × Unit)) × Unit) × Int × Bool × Unit)) × Unit))) → Option Bool) (f5 : List (List UInt8)) (f6 : List ((Int × Int × Int × Unit))) (go5 : Int → Option Bool) (j2 : Int) : Option Bool :=
  if decide (j2 < (List.length f7 : Int)) then
    (
      Option.bind (at? f7 j2) fun x9 =>
      Option.bind (at? v7.1 k3) fun x10 =>
      if x9.2.1 == x10 then
        some (false)
      else
        go5 (wi64 (j2 + (1 : Int)))
    )
  else
    go4 (wi64 (k3 + (1 : Int))) f5 f6 f7
def l27_FamilyPaths_l5 (f7 : List ((List UInt8 × Int × List ((List UInt8 × List ((Int × Int × Int × Unit)) × List ((Int × Int × Int × Int × Unit)) × (List ((Int × Int × Int × Int × List (Int) × Unit)) × Unit) × (List ((Int × Int × Int × Int × List (Int) × Unit)) × Unit) × Int × Bool × Unit)) × Unit))) (v7 : (List (Int) × Int)) (k3 : Int) (go4 : Int → (List (List UInt8)) → (List ((Int × Int × Int × Unit))) → (List ((List UInt8 × Int × List ((List UInt8 × List ((Int × Int × Int × Unit)) × List ((Int × Int × Int × Int × Unit)) × (List ((Int × Int × Int × Int × List (Int) × Unit)) × Unit) × (List ((Int × Int × Int × Int × List (Int) × Unit)) × Unit) × Int × Bool × Unit)) × Unit))) → Option Bool) (f5 : List (List UInt8)) (f6 : List ((Int × Int × Int × Unit))) : Nat → Int → Option Bool
  | 0, _ => none
  | n + 1, j2 => l27_FamilyPaths_b5 f7 v7 k3 go4 f5 f6 (l27_FamilyPaths_l5 f7 v7 k3 go4 f5 f6 n) j2
def l27_FamilyPaths_j17 (go6 : Int → Int → Option Bool) (k4 : Int) (lines2 : Int) : Option Bool :=
  go6 lines2 (wi64 (k4 + (1 : Int)))
def l27_FamilyPaths_b6 (v8 : (List UInt8 × Int)) (f7 : List ((List UInt8 × Int × List ((List UInt8 × List ((Int × Int × Int × Unit)) × List ((Int × Int × Int × Int × Unit)) × (List ((Int × Int × Int × Int × List (Int) × Unit)) × Unit) × (List ((Int × Int × Int × Int × List (Int) × Unit)) × Unit) × Int × Bool × Unit)) × Unit))) (go6 : Int → Int → Option Bool) (lines1 : Int) (k4 : Int) : Option Bool :=
  if decide (k4 < (List.length v8.1 : Int)) then
    (
      Option.bind (byteAt v8.1 k4) fun b1 =>
      if b1 == (10 : Int) then
        l27_FamilyPaths_j17 go6 k4 (wi64 (lines1 + (1 : Int)))
      else
        l27_FamilyPaths_j17 go6 k4 lines1
    )
  else
    some (lines1 == (List.length f7 : Int))
def l27_FamilyPaths_l6 (v8 : (List UInt8 × Int)) (f7 : List ((List UInt8 × Int × List ((List UInt8 × List ((Int × Int × Int × Unit)) × List ((Int × Int × Int × Int × Unit)) × (List ((Int × Int × Int × Int × List (Int) × Unit)) × Unit) × (List ((Int × Int × Int × Int × List (Int) × Unit)) × Unit) × Int × Bool × Unit)) × Unit))) : Nat → Int → Int → Option Bool
  | 0, _, _ => none
  | n + 1, lines1, k4 => l27_FamilyPaths_b6 v8 f7 (l27_FamilyPaths_l6 v8 f7 n) lines1 k4
def l27_FamilyPaths_b4 (k : Nat) (v7 : (List (Int) × Int)) (v8 : (List UInt8 × Int)) (go4 : Int → (List (List UInt8)) → (List ((Int × Int × Int × Unit))) → (List ((List UInt8 × Int × List ((List UInt8 × List ((Int × Int × Int × Unit)) × List ((Int × Int × Int × Int × Unit)) × (List ((Int × Int × Int × Int × List (Int) × Unit)) × Unit) × (List ((Int × Int × Int × Int × List (Int) × Unit)) × Unit) × Int × Bool × Unit)) × Unit))) → Option Bool) (k3 : Int) (f5 : List (List UInt8)) (f6 : List ((Int × Int × Int × Unit))) (f7 : List ((List UInt8 × Int × List ((List UInt8 × List ((Int × Int × Int × Unit)) × List ((Int × Int × Int × Int × Unit)) × (List ((Int × Int × Int × Int × List (Int) × Unit)) × Unit) × (List ((Int × Int × Int × Int × List (Int) × Unit)) × Unit) × Int × Bool × Unit)) × Unit))) : Option Bool :=
  if decide (k3 < (List.length v7.1 : Int)) then
    l27_FamilyPaths_l5 f7 v7 k3 go4 f5 f6 k (0 : Int)
  else
    l27_FamilyPaths_l6 v8 f7 k (0 : Int) (0 : Int)
def l27_FamilyPaths_l4 (k : Nat) (v7 : (List (Int) × Int)) (v8 : (List UInt8 × Int)) : Nat → Int → (List (List UInt8)) → (List ((Int × Int × Int × Unit))) → (List ((List UInt8 × Int × List ((List UInt8 × List ((Int × Int × Int × Unit)) × List ((Int × Int × Int × Int × Unit)) × (List ((Int × Int × Int × Int × List (Int) × Unit)) × Unit) × (List ((Int × Int × Int × Int × List (Int) × Unit)) × Unit) × Int × Bool × Unit)) × Unit))) → Option Bool
  | 0, _, _, _, _ => none
  | n + 1, k3, f5, f6, f7 => l27_FamilyPaths_b4 k v7 v8 (l27_FamilyPaths_l4 k v7 v8 n) k3 f5 f6 f7
def l27_FamilyPaths_j16 (k : Nat) (v7 : (List (Int) × Int)) (v8 : (List UInt8 × Int)) (f2 : List (List UInt8)) (f3 : List ((Int × Int × Int × Unit))) (f4 : List ((List UInt8 × Int × List ((List UInt8 × List ((Int × Int × Int × Unit)) × List ((Int × Int × Int × Int × Unit)) × (List ((Int × Int × Int × Int × List (Int) × Unit)) × Unit) × (List ((Int × Int × Int × Int × List (Int) × Unit)) × Unit) × Int × Bool × Unit)) × Unit))) (t15 : Bool) : Option Bool :=
  if t15 then
    some (false)
  else
    l27_FamilyPaths_l4 k v7 v8 k (0 : Int) f2 f3 f4
def l27_FamilyPaths_j15 (k : Nat) (v7 : (List (Int) × Int)) (v8 : (List UInt8 × Int)) (f2 : List (List UInt8)) (f3 : List ((Int × Int × Int × Unit))) (f4 : List ((List UInt8 × Int × List ((List UInt8 × List ((Int × Int × Int × Unit)) × List ((Int × Int × Int × Int × Unit)) × (List ((Int × Int × Int × Int × List (Int) × Unit)) × Unit) × (List ((Int × Int × Int × Int × List (Int) × Unit)) × Unit) × Int × Bool × Unit)) × Unit))) (t14 : Bool) : Option Bool :=
  l27_FamilyPaths_j16 k v7 v8 f2 f3 f4 (t14 || ((List.length v7.1 : Int) == (0 : Int)))
def l27_FamilyPaths_j14 (k : Nat) (v7 : (List (Int) × Int)) (v8 : (List UInt8 × Int)) (f2 : List (List UInt8)) (f3 : List ((Int × Int × Int × Unit))) (f4 : List ((List UInt8 × Int × List ((List UInt8 × List ((Int × Int × Int × Unit)) × List ((Int × Int × Int × Int × Unit)) × (List ((Int × Int × Int × Int × List (Int) × Unit)) × Unit) × (List ((Int × Int × Int × Int × List (Int) × Unit)) × Unit) × Int × Bool × Unit)) × Unit))) (t13 : Bool) : Option Bool :=
  l27_FamilyPaths_j15 k v7 v8 f2 f3 f4 (t13 || (v8.2 != (0 : Int)))
def l27_FamilyPaths_j13 (k : Nat) (v7 : (List (Int) × Int)) (v8 : (List UInt8 × Int)) (f2 : List (List UInt8)) (f3 : List ((Int × Int × Int × Unit))) (f4 : List ((List UInt8 × Int × List ((List UInt8 × List ((Int × Int × Int × Unit)) × List ((Int × Int × Int × Int × Unit)) × (List ((Int × Int × Int × Int × List (Int) × Unit)) × Unit) × (List ((Int × Int × Int × Int × List (Int) × Unit)) × Unit) × Int × Bool × Unit)) × Unit))) (t12 : Bool) : Option Bool :=
  l27_FamilyPaths_j14 k v7 v8 f2 f3 f4 (t12 || (v7.2 != (0 : Int)))
def l27_FamilyPaths_j18 (k : Nat) (v7 : (List (Int) × Int)) (v8 : (List UInt8 × Int)) (f2 : List (List UInt8)) (f3 : List ((Int × Int × Int × Unit))) (f4 : List ((List UInt8 × Int × List ((List UInt8 × List ((Int × Int × Int × Unit)) × List ((Int × Int × Int × Int × Unit)) × (List ((Int × Int × Int × Int × List (Int) × Unit)) × Unit) × (List ((Int × Int × Int × Int × List (Int) × Unit)) × Unit) × Int × Bool × Unit)) × Unit))) (t16 : Bool) : Option Bool :=
  l27_FamilyPaths_j13 k v7 v8 f2 f3 f4 t16
def l27_FamilyPaths_b2 (k : Nat) (v3 : (List (Int) × Int)) (v4 : (List (Int) × Int)) (v5 : (Int × Int)) (x1 : Int) (y1 : Int) (go2 : Int → Int → (List (List UInt8)) → (List ((Int × Int × Int × Unit))) → (List ((List UInt8 × Int × List ((List UInt8 × List ((Int × Int × Int × Unit)) × List ((Int × Int × Int × Int × Unit)) × (List ((Int × Int × Int × Int × List (Int) × Unit)) × Unit) × (List ((Int × Int × Int × Int × List (Int) × Unit)) × Unit) × Int × Bool × Unit)) × Unit))) → Option Bool) (last1 : Int) (k2 : Int) (f2 : List (List UInt8)) (f3 : List ((Int × Int × Int × Unit))) (f4 : List ((List UInt8 × Int × List ((List UInt8 × List ((Int × Int × Int × Unit)) × List ((Int × Int × Int × Int × Unit)) × (List ((Int × Int × Int × Int × List (Int) × Unit)) × Unit) × (List ((Int × Int × Int × Int × List (Int) × Unit)) × Unit) × Int × Bool × Unit)) × Unit))) : Option Bool :=
  if decide (k2 < (List.length v3.1 : Int)) then
    l27_FamilyPaths_l3 v4 v3 k2 go2 f2 f3 f4 k last1 (0 : Int)
  else
    (
      Option.bind (family_Leaves k ((f2, f3, ()), f4, ())) fun v7 =>
      Option.bind (family_Text k ((f2, f3, ()), f4, ())) fun v8 =>
      if last1 != v5.1 then
        l27_FamilyPaths_j13 k v7 v8 f2 f3 f4 true
      else
        l27_FamilyPaths_j18 k v7 v8 f2 f3 f4 ((x1 == y1) && (v5.1 != x1))
    )
def l27_FamilyPaths_l2 (k : Nat) (v3 : (List (Int) × Int)) (v4 : (List (Int) × Int)) (v5 : (Int × Int)) (x1 : Int) (y1 : Int) : Nat → Int → Int → (List (List UInt8)) → (List ((Int × Int × Int × Unit))) → (List ((List UInt8 × Int × List ((List UInt8 × List ((Int × Int × Int × Unit)) × List ((Int × Int × Int × Int × Unit)) × (List ((Int × Int × Int × Int × List (Int) × Unit)) × Unit) × (List ((Int × Int × Int × Int × List (Int) × Unit)) × Unit) × Int × Bool × Unit)) × Unit))) → Option Bool
  | 0, _, _, _, _, _ => none
  | n + 1, last1, k2, f2, f3, f4 => l27_FamilyPaths_b2 k v3 v4 v5 x1 y1 (l27_FamilyPaths_l2 k v3 v4 v5 x1 y1 n) last1 k2 f2 f3 f4
def l27_FamilyPaths_b1 (k : Nat) (v3 : (List (Int) × Int)) (f1 : ((List (List UInt8) × List ((Int × Int × Int × Unit)) × Unit) × List ((List UInt8 × Int × List ((List UInt8 × List ((Int × Int × Int × Unit)) × List ((Int × Int × Int × Int × Unit)) × (List ((Int × Int × Int × Int × List (Int) × Unit)) × Unit) × (List ((Int × Int × Int × Int × List (Int) × Unit)) × Unit) × Int × Bool × Unit)) × Unit)) × Unit)) (v4 : (List (Int) × Int)) (v5 : (Int × Int)) (x1 : Int) (y1 : Int) (go1 : Int → Option Bool) (k1 : Int) : Option Bool :=
  if decide (k1 < (List.length v3.1 : Int)) then
    (
      Option.bind (at? v3.1 k1) fun x2 =>
      Option.bind (at? v3.1 (wi64 (k1 - (1 : Int)))) fun x3 =>
      l27_FamilyPaths_j10 go1 k1 v3 f1 (decide (x2 ≤ x3) || (decide ((List.length f1.2.1 : Int) ≤ x2)))
    )
  else
    l27_FamilyPaths_l2 k v3 v4 v5 x1 y1 k (-1 : Int) (0 : Int) f1.1.1 f1.1.2.1 f1.2.1
def l27_FamilyPaths_l1 (k : Nat) (v3 : (List (Int) × Int)) (f1 : ((List (List UInt8) × List ((Int × Int × Int × Unit)) × Unit) × List ((List UInt8 × Int × List ((List UInt8 × List ((Int × Int × Int × Unit)) × List ((Int × Int × Int × Int × Unit)) × (List ((Int × Int × Int × Int × List (Int) × Unit)) × Unit) × (List ((Int × Int × Int × Int × List (Int) × Unit)) × Unit) × Int × Bool × Unit)) × Unit)) × Unit)) (v4 : (List (Int) × Int)) (v5 : (Int × Int)) (x1 : Int) (y1 : Int) : Nat → Int → Option Bool
  | 0, _ => none
  | n + 1, k1 => l27_FamilyPaths_b1 k v3 f1 v4 v5 x1 y1 (l27_FamilyPaths_l1 k v3 f1 v4 v5 x1 y1 n) k1
def l27_FamilyPaths_j9 (k : Nat) (v3 : (List (Int) × Int)) (f1 : ((List (List UInt8) × List ((Int × Int × Int × Unit)) × Unit) × List ((List UInt8 × Int × List ((List UInt8 × List ((Int × Int × Int × Unit)) × List ((Int × Int × Int × Int × Unit)) × (List ((Int × Int × Int × Int × List (Int) × Unit)) × Unit) × (List ((Int × Int × Int × Int × List (Int) × Unit)) × Unit) × Int × Bool × Unit)) × Unit)) × Unit)) (v4 : (List (Int) × Int)) (v5 : (Int × Int)) (x1 : Int) (y1 : Int) (t9 : Bool) : Option Bool :=
  if t9 then
    some (false)
  else
    l27_FamilyPaths_l1 k v3 f1 v4 v5 x1 y1 k (1 : Int)
def l27_FamilyPaths_j8 (k : Nat) (v3 : (List (Int) × Int)) (f1 : ((List (List UInt8) × List ((Int × Int × Int × Unit)) × Unit) × List ((List UInt8 × Int × List ((List UInt8 × List ((Int × Int × Int × Unit)) × List ((Int × Int × Int × Int × Unit)) × (List ((Int × Int × Int × Int × List (Int) × Unit)) × Unit) × (List ((Int × Int × Int × Int × List (Int) × Unit)) × Unit) × Int × Bool × Unit)) × Unit)) × Unit)) (v4 : (List (Int) × Int)) (v5 : (Int × Int)) (x1 : Int) (y1 : Int) (t8 : Bool) : Option Bool :=
  if t8 then
    l27_FamilyPaths_j9 k v3 f1 v4 v5 x1 y1 true
  else
    (
      Option.bind (at? v3.1 (wi64 ((List.length v3.1 : Int) - (1 : Int)))) fun x11 =>
      l27_FamilyPaths_j9 k v3 f1 v4 v5 x1 y1 (x11 != x1)
    )
def l27_FamilyPaths_j7 (k : Nat) (v3 : (List (Int) × Int)) (f1 : ((List (List UInt8) × List ((Int × Int × Int × Unit)) × Unit) × List ((List UInt8 × Int × List ((List UInt8 × List ((Int × Int × Int × Unit)) × List ((Int × Int × Int × Int × Unit)) × (List ((Int × Int × Int × Int × List (Int) × Unit)) × Unit) × (List ((Int × Int × Int × Int × List (Int) × Unit)) × Unit) × Int × Bool × Unit)) × Unit)) × Unit)) (v4 : (List (Int) × Int)) (v5 : (Int × Int)) (x1 : Int) (y1 : Int) (t7 : Bool) : Option Bool :=
  if t7 then
    l27_FamilyPaths_j8 k v3 f1 v4 v5 x1 y1 true
  else
    (
      Option.bind (at? v3.1 (0 : Int)) fun x12 =>
      l27_FamilyPaths_j8 k v3 f1 v4 v5 x1 y1 (x12 != (0 : Int))
    )
def l27_FamilyPaths_j6 (k : Nat) (v3 : (List (Int) × Int)) (f1 : ((List (List UInt8) × List ((Int × Int × Int × Unit)) × Unit) × List ((List UInt8 × Int × List ((List UInt8 × List ((Int × Int × Int × Unit)) × List ((Int × Int × Int × Int × Unit)) × (List ((Int × Int × Int × Int × List (Int) × Unit)) × Unit) × (List ((Int × Int × Int × Int × List (Int) × Unit)) × Unit) × Int × Bool × Unit)) × Unit)) × Unit)) (v4 : (List (Int) × Int)) (v5 : (Int × Int)) (x1 : Int) (y1 : Int) (t6 : Bool) : Option Bool :=
  l27_FamilyPaths_j7 k v3 f1 v4 v5 x1 y1 (t6 || ((List.length v3.1 : Int) == (0 : Int)))
def l27_FamilyPaths_j5 (k : Nat) (v3 : (List (Int) × Int)) (f1 : ((List (List UInt8) × List ((Int × Int × Int × Unit)) × Unit) × List ((List UInt8 × Int × List ((List UInt8 × List ((Int × Int × Int × Unit)) × List ((Int × Int × Int × Int × Unit)) × (List ((Int × Int × Int × Int × List (Int) × Unit)) × Unit) × (List ((Int × Int × Int × Int × List (Int) × Unit)) × Unit) × Int × Bool × Unit)) × Unit)) × Unit)) (v4 : (List (Int) × Int)) (v5 : (Int × Int)) (x1 : Int) (y1 : Int) (v6 : (Int × Int)) (t5 : Bool) : Option Bool :=
  l27_FamilyPaths_j6 k v3 f1 v4 v5 x1 y1 (t5 || (v5.1 != v6.1))
def l27_FamilyPaths_j1 (k : Nat) (v6 : (Int × Int)) (v5 : (Int × Int)) (v3 : (List (Int) × Int)) (f1 : ((List (List UInt8) × List ((Int × Int × Int × Unit)) × Unit) × List ((List UInt8 × Int × List ((List UInt8 × List ((Int × Int × Int × Unit)) × List ((Int × Int × Int × Int × Unit)) × (List ((Int × Int × Int × Int × List (Int) × Unit)) × Unit) × (List ((Int × Int × Int × Int × List (Int) × Unit)) × Unit) × Int × Bool × Unit)) × Unit)) × Unit)) (v4 : (List (Int) × Int)) (x1 : Int) (y1 : Int) (t1 : Bool) : Option Bool :=
  if t1 then
    l27_FamilyPaths_j2 v6 v5 ((v5.2 != (0 : Int)) && (v6.2 != (0 : Int)))
  else
    l27_FamilyPaths_j5 k v3 f1 v4 v5 x1 y1 v6 ((v5.2 != (0 : Int)) || (v6.2 != (0 : Int)))
/-- cognate/cognatelaw27.FamilyPaths -/
def l27_FamilyPaths (k : Nat) (f1 : ((List (List UInt8) × List ((Int × Int × Int × Unit)) × Unit) × List ((List UInt8 × Int × List ((List UInt8 × List ((Int × Int × Int × Unit)) × List ((Int × Int × Int × Int × Unit)) × (List ((Int × Int × Int × Int × List (Int) × Unit)) × Unit) × (List ((Int × Int × Int × Int × List (Int) × Unit)) × Unit) × Int × Bool × Unit)) × Unit)) × Unit)) (x1 : Int) (y1 : Int) : Option Bool :=
  Option.bind (l27_awake k) fun v1 =>
  if !v1 then
    some (false)
  else
    (
      Option.bind (l27_large k ((f1.1.1, f1.1.2.1, ()), f1.2.1, ())) fun v2 =>
      if v2 then
        some (true)
      else
        (
          Option.bind (family_Path k ((f1.1.1, f1.1.2.1, ()), f1.2.1, ()) x1) fun v3 =>
          Option.bind (family_Path k ((f1.1.1, f1.1.2.1, ()), f1.2.1, ()) y1) fun v4 =>
          Option.bind (family_Near k ((f1.1.1, f1.1.2.1, ()), f1.2.1, ()) x1 y1) fun v5 =>
          Option.bind (family_Near k ((f1.1.1, f1.1.2.1, ()), f1.2.1, ()) y1 x1) fun v6 =>
          l27_FamilyPaths_j1 k v6 v5 v3 f1 v4 x1 y1 ((v3.2 != (0 : Int)) || (v4.2 != (0 : Int)))
        )
    )

end Go.Ev
