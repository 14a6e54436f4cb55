/- Shallow functions, by program. -/
import Derived.Test.YtgkgdfmldioddaaGreatDoorMM4
import Derived.Test.YtgkgdfmldioddaaGreatDoorMM6
import Derived.Test.YtgkgdfmldioddaaGreatDoorTyA
set_option linter.unusedSectionVars false
set_option linter.unusedVariables false
set_option linter.unusedSimpArgs false
namespace Go.Ev
open Go
set_option linter.unusedVariables false
def l28_letters (k : Nat)  : Option yT49 :=
 some ((([([118, 111, 105, 99, 101, 100] : List UInt8), ([110, 97, 115, 97, 108] : List UInt8), ([118, 111, 119, 101, 108] : List UInt8)] : List (List UInt8)), ([((112 : Int), (0 : Int), (7 : Int), ()), ((98 : Int), (1 : Int), (6 : Int), ()), ((109 : Int), (3 : Int), (4 : Int), ()), ((97 : Int), (4 : Int), (3 : Int), ())] : List yT80), ()))
def l28_three (k : Nat)  : Option yT81 :=
 some (([([([112, 97] : List UInt8), ([98, 97] : List UInt8)] : List (List UInt8)), ([([97, 112] : List UInt8), ([97, 98] : List UInt8)] : List (List UInt8)), ([([112, 97] : List UInt8), ([97] : List UInt8)] : List (List UInt8))] : List yT88))
def strings_trimRightByte_j1 (s2 : List UInt8) (go1 : (List UInt8) -> Option (List UInt8)) (t1 : Bool) : Option (List UInt8) :=
 if t1 then
  (
   Option.bind (sub? s2 (0 : Int) (wi64 ((List.length s2 : Int) - (1 : Int)))) fun s3 =>
   go1 s3
  )
 else
  some (s2)
def strings_trimRightByte_b1 (c1 : Int) (go1 : (List UInt8) -> Option (List UInt8)) (s2 : List UInt8) : Option (List UInt8) :=
 if decide ((0 : Int) < (List.length s2 : Int)) then
  (
   Option.bind (byteAt s2 (wi64 ((List.length s2 : Int) - (1 : Int)))) fun b1 =>
   strings_trimRightByte_j1 s2 go1 (b1 == c1)
  )
 else
  strings_trimRightByte_j1 s2 go1 false
def strings_trimRightByte_l1 (c1 : Int) : Nat -> (List UInt8) -> Option (List UInt8)
 | 0, _ => none
 | n + 1, s2 => strings_trimRightByte_b1 c1 (strings_trimRightByte_l1 c1 n) s2
def strings_trimRightByte (k : Nat) (s1 : List UInt8) (c1 : Int) : Option (List UInt8) :=
 strings_trimRightByte_l1 c1 k s1
def strings_trimLeftByte_j1 (s2 : List UInt8) (go1 : (List UInt8) -> Option (List UInt8)) (t1 : Bool) : Option (List UInt8) :=
 if t1 then
  (
   Option.bind (sub? s2 (1 : Int) (s2.length : Int)) fun s3 =>
   go1 s3
  )
 else
  some (s2)
def strings_trimLeftByte_b1 (c1 : Int) (go1 : (List UInt8) -> Option (List UInt8)) (s2 : List UInt8) : Option (List UInt8) :=
 if decide ((0 : Int) < (List.length s2 : Int)) then
  (
   Option.bind (byteAt s2 (0 : Int)) fun b1 =>
   strings_trimLeftByte_j1 s2 go1 (b1 == c1)
  )
 else
  strings_trimLeftByte_j1 s2 go1 false
def strings_trimLeftByte_l1 (c1 : Int) : Nat -> (List UInt8) -> Option (List UInt8)
 | 0, _ => none
 | n + 1, s2 => strings_trimLeftByte_b1 c1 (strings_trimLeftByte_l1 c1 n) s2
def strings_trimLeftByte (k : Nat) (s1 : List UInt8) (c1 : Int) : Option (List UInt8) :=
 strings_trimLeftByte_l1 c1 k s1
def strings_makeASCIISet_b1 (chars1 : List UInt8) (go1 : Int -> (List (Bool)) -> Option (List (Bool) × Bool)) (i1 : Int) (blk1 : List (Bool)) : Option (List (Bool) × Bool) :=
 if decide (i1 < (List.length chars1 : Int)) then
  (
   Option.bind (byteAt chars1 i1) fun b1 =>
   if decide ((128 : Int) <= b1) then
    some (blk1, false)
   else
    (
     Option.bind (chk (0 <= b1 /\ b1 < (256 : Int))) fun _ =>
     Option.bind (at? blk1 b1) fun x1 =>
     go1 (wi64 (i1 + (1 : Int))) (List.set blk1 (b1).toNat true)
    )
  )
 else
  some (blk1, true)
def strings_makeASCIISet_l1 (chars1 : List UInt8) : Nat -> Int -> (List (Bool)) -> Option (List (Bool) × Bool)
 | 0, _, _ => none
 | n + 1, i1, blk1 => strings_makeASCIISet_b1 chars1 (strings_makeASCIISet_l1 chars1 n) i1 blk1
def strings_makeASCIISet (k : Nat) (chars1 : List UInt8) : Option (List (Bool) × Bool) :=
 strings_makeASCIISet_l1 chars1 k (0 : Int) (List.replicate 256 false)
def strings_asciiSet_contains (k : Nat) (as1 : List (Bool)) (c1 : Int) : Option Bool :=
 Option.bind (at? as1 c1) fun x1 =>
 some (x1)
def strings_trimRightASCII_j1  (s2 : List UInt8) : Option (List UInt8) :=
 some (s2)
def strings_trimRightASCII_b1 (k : Nat) (as1 : List (Bool)) (go1 : (List UInt8) -> Option (List UInt8)) (s3 : List UInt8) : Option (List UInt8) :=
 if decide ((0 : Int) < (List.length s3 : Int)) then
  (
   Option.bind (byteAt s3 (wi64 ((List.length s3 : Int) - (1 : Int)))) fun b1 =>
   Option.bind (strings_asciiSet_contains k as1 b1) fun v1 =>
   if !v1 then
    strings_trimRightASCII_j1 s3
   else
    (
     Option.bind (sub? s3 (0 : Int) (wi64 ((List.length s3 : Int) - (1 : Int)))) fun s4 =>
     go1 s4
    )
  )
 else
  strings_trimRightASCII_j1 s3
def strings_trimRightASCII_l1 (k : Nat) (as1 : List (Bool)) : Nat -> (List UInt8) -> Option (List UInt8)
 | 0, _ => none
 | n + 1, s3 => strings_trimRightASCII_b1 k as1 (strings_trimRightASCII_l1 k as1 n) s3
def strings_trimRightASCII (k : Nat) (s1 : List UInt8) (as1 : List (Bool)) : Option (List UInt8) :=
 strings_trimRightASCII_l1 k as1 k s1
def strings_trimLeftASCII_j1  (s2 : List UInt8) : Option (List UInt8) :=
 some (s2)
def strings_trimLeftASCII_b1 (k : Nat) (as1 : List (Bool)) (go1 : (List UInt8) -> Option (List UInt8)) (s3 : List UInt8) : Option (List UInt8) :=
 if decide ((0 : Int) < (List.length s3 : Int)) then
  (
   Option.bind (byteAt s3 (0 : Int)) fun b1 =>
   Option.bind (strings_asciiSet_contains k as1 b1) fun v1 =>
   if !v1 then
    strings_trimLeftASCII_j1 s3
   else
    (
     Option.bind (sub? s3 (1 : Int) (s3.length : Int)) fun s4 =>
     go1 s4
    )
  )
 else
  strings_trimLeftASCII_j1 s3
def strings_trimLeftASCII_l1 (k : Nat) (as1 : List (Bool)) : Nat -> (List UInt8) -> Option (List UInt8)
 | 0, _ => none
 | n + 1, s3 => strings_trimLeftASCII_b1 k as1 (strings_trimLeftASCII_l1 k as1 n) s3
def strings_trimLeftASCII (k : Nat) (s1 : List UInt8) (as1 : List (Bool)) : Option (List UInt8) :=
 strings_trimLeftASCII_l1 k as1 k s1
def strings_trimRightUnicode (k : Nat) (s1 : List UInt8) (cutset1 : List UInt8) : Option (List UInt8) :=
 none
def strings_trimLeftUnicode (k : Nat) (s1 : List UInt8) (cutset1 : List UInt8) : Option (List UInt8) :=
 none
def strings_Trim_j2 (k : Nat) (cutset1 : List UInt8) (s1 : List UInt8) (t2 : Bool) : Option (List UInt8) :=
 if t2 then
  (
   Option.bind (byteAt cutset1 (0 : Int)) fun b1 =>
   Option.bind (strings_trimRightByte k s1 b1) fun v1 =>
   Option.bind (byteAt cutset1 (0 : Int)) fun b2 =>
   Option.bind (strings_trimLeftByte k v1 b2) fun v2 =>
   some (v2)
  )
 else
  (
   Option.bind (strings_makeASCIISet k cutset1) fun v3 =>
   if v3.2 then
    (
     Option.bind (strings_trimRightASCII k s1 v3.1) fun v4 =>
     Option.bind (strings_trimLeftASCII k v4 v3.1) fun v5 =>
     some (v5)
    )
   else
    (
     Option.bind (strings_trimRightUnicode k s1 cutset1) fun v6 =>
     Option.bind (strings_trimLeftUnicode k v6 cutset1) fun v7 =>
     some (v7)
    )
  )
def strings_Trim_j1 (k : Nat) (s1 : List UInt8) (cutset1 : List UInt8) (t1 : Bool) : Option (List UInt8) :=
 if t1 then
  some (s1)
 else
  (
   if (List.length cutset1 : Int) == (1 : Int) then
    (
     Option.bind (byteAt cutset1 (0 : Int)) fun b3 =>
     strings_Trim_j2 k cutset1 s1 (decide (b3 < (128 : Int)))
    )
   else
    strings_Trim_j2 k cutset1 s1 false
  )
def strings_Trim (k : Nat) (s1 : List UInt8) (cutset1 : List UInt8) : Option (List UInt8) :=
 strings_Trim_j1 k s1 cutset1 ((s1 == ([] : List UInt8)) || (cutset1 == ([] : List UInt8)))
def feature_named_j2  (t2 : Bool) : Option Bool :=
 some (t2)
def feature_named_j1 (k : Nat) (s1 : List UInt8) (t1 : Bool) : Option Bool :=
 if t1 then
  (
   Option.bind (strings_Trim k s1 ([97, 98, 99, 100, 101, 102, 103, 104, 105, 106, 107, 108, 109, 110, 111, 112, 113, 114, 115, 116, 117, 118, 119, 120, 121, 122] : List UInt8)) fun v1 =>
   feature_named_j2 (v1 == ([] : List UInt8))
  )
 else
  feature_named_j2 false
def feature_named (k : Nat) (s1 : List UInt8) : Option Bool :=
 feature_named_j1 k s1 ((!(s1 == ([] : List UInt8))) && (decide ((List.length s1 : Int) <= (32 : Int))))
def feature_lettered_j2  (t2 : Bool) : Option Bool :=
 if t2 then
  some (false)
 else
  some (true)
def feature_lettered_j1 (r1 : Int) (t1 : Bool) : Option Bool :=
 if t1 then
  some (true)
 else
  (
   if decide (r1 < (161 : Int)) then
    feature_lettered_j2 (decide (r1 < (161 : Int)))
   else
    (
     if decide ((1114111 : Int) < r1) then
      feature_lettered_j2 (decide ((1114111 : Int) < r1))
     else
      (
       if r1 == (65533 : Int) then
        feature_lettered_j2 (r1 == (65533 : Int))
       else
        (
         Option.bind (chk (0 <= (11 : Int))) fun _ =>
         feature_lettered_j2 ((Int.fdiv r1 (2 ^ min ((11 : Int)).toNat 32)) == (27 : Int))
        )
      )
    )
  )
def feature_lettered_j4 (r1 : Int) (t4 : Bool) : Option Bool :=
 feature_lettered_j1 r1 t4
def feature_lettered_j3 (r1 : Int) (t3 : Bool) : Option Bool :=
 if t3 then
  feature_lettered_j1 r1 t3
 else
  feature_lettered_j4 r1 (decide ((65 : Int) <= r1) && (decide (r1 <= (90 : Int))))
def feature_lettered (k : Nat) (r1 : Int) : Option Bool :=
 feature_lettered_j3 r1 (decide ((97 : Int) <= r1) && (decide (r1 <= (122 : Int))))
def feature_within_j1  (t1 : Bool) : Option Bool :=
 some (t1)
def feature_within (k : Nat) (a1 : yT49) (plus1 : Int) (minus1 : Int) : Option Bool :=
 Option.bind (chk (0 <= (List.length a1.1 : Int))) fun _ =>
 feature_within_j1 (((Int.fdiv (wu32 (BitVec.toNat (BitVec.ofInt 32 plus1 ||| BitVec.ofInt 32 minus1))) (2 ^ min ((List.length a1.1 : Int)).toNat 32)) == (0 : Int)) && ((wu32 (BitVec.toNat (BitVec.ofInt 32 plus1 &&& BitVec.ofInt 32 minus1))) == (0 : Int)))
def feature_Check_j3 (go1 : Int -> yT82 -> Option Int) (t3 : Int) (m1 : List yT89) (x1 : List UInt8) (t4 : Bool) : Option Int :=
 if t4 then
  some ((7 : Int))
 else
  go1 (wi64 (t3 + (1 : Int))) (mset (eqEl .str) m1 x1 true)
def feature_Check_j5 (go2 : Int -> (List (Int × Bool)) -> Option Int) (t5 : Int) (m2 : List (Int × Bool)) (x2 : yT84) (t7 : Bool) : Option Int :=
 if t7 then
  some ((7 : Int))
 else
  go2 (wi64 (t5 + (1 : Int))) (mset (eqEl (.int .i32)) m2 x2.1 true)
def feature_Check_j4 (k : Nat) (go2 : Int -> (List (Int × Bool)) -> Option Int) (t5 : Int) (m2 : List (Int × Bool)) (x2 : yT84) (a1 : yT49) (t6 : Bool) : Option Int :=
 if t6 then
  feature_Check_j5 go2 t5 m2 x2 true
 else
  (
   Option.bind (feature_within k (a1.1, a1.2.1, ()) x2.2.1 x2.2.2.1) fun v3 =>
   feature_Check_j5 go2 t5 m2 x2 (!v3)
  )
def feature_Check_b2 (k : Nat) (a1 : yT49) (go2 : Int -> (List (Int × Bool)) -> Option Int) (t5 : Int) (m2 : List (Int × Bool)) : Option Int :=
 if decide (t5 < (List.length a1.2.1 : Int)) then
  (
   Option.bind (at? a1.2.1 t5) fun x2 =>
   Option.bind (feature_lettered k x2.1) fun v2 =>
   feature_Check_j4 k go2 t5 m2 x2 a1 ((!v2) || ((mget (eqEl (.int .i32)) m2 x2.1).getD false))
  )
 else
  some ((0 : Int))
def feature_Check_l2 (k : Nat) (a1 : yT49) : Nat -> Int -> (List (Int × Bool)) -> Option Int
 | 0, _, _ => none
 | n + 1, t5, m2 => feature_Check_b2 k a1 (feature_Check_l2 k a1 n) t5 m2
def feature_Check_b1 (k : Nat) (a1 : yT49) (go1 : Int -> yT82 -> Option Int) (t3 : Int) (m1 : List yT89) : Option Int :=
 if decide (t3 < (List.length a1.1 : Int)) then
  (
   Option.bind (at? a1.1 t3) fun x1 =>
   Option.bind (feature_named k x1) fun v1 =>
   feature_Check_j3 go1 t3 m1 x1 ((!v1) || ((mget (eqEl .str) m1 x1).getD false))
  )
 else
  feature_Check_l2 k a1 k (0 : Int) ([] : List (Int × Bool))
def feature_Check_l1 (k : Nat) (a1 : yT49) : Nat -> Int -> yT82 -> Option Int
 | 0, _, _ => none
 | n + 1, t3, m1 => feature_Check_b1 k a1 (feature_Check_l1 k a1 n) t3 m1
def feature_Check_j2 (k : Nat) (a1 : yT49) (t2 : Bool) : Option Int :=
 if t2 then
  some ((7 : Int))
 else
  feature_Check_l1 k a1 k (0 : Int) ([] : List yT89)
def feature_Check_j1 (k : Nat) (a1 : yT49) (t1 : Bool) : Option Int :=
 feature_Check_j2 k a1 (t1 || (decide ((128 : Int) < (List.length a1.2.1 : Int))))
def feature_Check (k : Nat) (a1 : yT49) : Option Int :=
 feature_Check_j1 k a1 (decide ((24 : Int) < (List.length a1.1 : Int)) || (decide ((List.length a1.2.1 : Int) < (1 : Int))))
def word_ranks_b1 (a1 : yT49) (go1 : Int -> yT90 -> Option (Option yT90 × Int)) (t1 : Int) (m1 : List (Int × Int)) : Option (Option yT90 × Int) :=
 if decide (t1 < (List.length a1.2.1 : Int)) then
  (
   Option.bind (at? a1.2.1 t1) fun x1 =>
   go1 (wi64 (t1 + (1 : Int))) (mset (eqEl (.int .i32)) m1 x1.1 t1)
  )
 else
  some (some m1, (0 : Int))
def word_ranks_l1 (a1 : yT49) : Nat -> Int -> yT90 -> Option (Option yT90 × Int)
 | 0, _, _ => none
 | n + 1, t1, m1 => word_ranks_b1 a1 (word_ranks_l1 a1 n) t1 m1
def word_ranks (k : Nat) (a1 : yT49) : Option (Option yT90 × Int) :=
 Option.bind (feature_Check k (a1.1, a1.2.1, ())) fun v1 =>
 if v1 != (0 : Int) then
  some ((none : Option yT90), v1)
 else
  word_ranks_l1 a1 k (0 : Int) ([] : List (Int × Int))
def runes_long (k : Nat) (s1 : List UInt8) : Option Int :=
 if decide ((65536 : Int) < (List.length s1 : Int)) then
  some ((3 : Int))
 else
  some ((0 : Int))
def unicode_utf8_RuneLen_j1 (r1 : Int) (t1 : Bool) : Option Int :=
 if t1 then
  some ((-1 : Int))
 else
  (
   if decide (r1 <= (65535 : Int)) then
    some ((3 : Int))
   else
    (
     if decide (r1 <= (1114111 : Int)) then
      some ((4 : Int))
     else
      some ((-1 : Int))
    )
  )
def unicode_utf8_RuneLen (k : Nat) (r1 : Int) : Option Int :=
 if decide (r1 < (0 : Int)) then
  some ((-1 : Int))
 else
  (
   if decide (r1 <= (127 : Int)) then
    some ((1 : Int))
   else
    (
     if decide (r1 <= (2047 : Int)) then
      some ((2 : Int))
     else
      unicode_utf8_RuneLen_j1 r1 (decide ((55296 : Int) <= r1) && (decide (r1 <= (57343 : Int))))
    )
  )
def runes_Pieces_c1_i1 (k : Nat) (p1 : (Int × Int × Int × Bool × Unit)) (l1 : List yT72) : Option (Bool × List yT72) :=
 Option.bind (chk (List.length l1 + List.length ([(p1.1, p1.2.1, p1.2.2.1, p1.2.2.2.1, ())] : List yT72) <= lim)) fun _ =>
 some (true, l1 ++ ([(p1.1, p1.2.1, p1.2.2.1, p1.2.2.2.1, ())] : List yT72))
def runes_each_i1_j1 (k : Nat) (s1 : List UInt8) (pos1 : Nat) (t2 : List yT72) (go1 : Nat -> yT64 -> Option yT64) (p1 : Int) (p2 : Bool) : Option yT64 :=
 Option.bind (runes_Pieces_c1_i1 k (runeAt s1 pos1, (pos1 : Int), p1, p2, ()) t2) fun v2 =>
 if !v2.1 then
  some v2.2
 else
  go1 (pos1 + widthAt s1 pos1) v2.2
def runes_each_i1_b1 (k : Nat) (s1 : List UInt8) (go1 : Nat -> yT64 -> Option yT64) (pos1 : Nat) (t2 : List yT72) : Option yT64 :=
 if decide (pos1 < List.length s1) then
  (
   Option.bind (unicode_utf8_RuneLen k (runeAt s1 pos1)) fun v1 =>
   if (runeAt s1 pos1) == (65533 : Int) then
    (
     Option.bind (sub? s1 (pos1 : Int) (s1.length : Int)) fun s2 =>
     Option.bind (utf8_DecodeRuneInString k s2) fun v3 =>
     if v3.2 == (1 : Int) then
      runes_each_i1_j1 k s1 pos1 t2 go1 (1 : Int) true
     else
      runes_each_i1_j1 k s1 pos1 t2 go1 v1 false
    )
   else
    runes_each_i1_j1 k s1 pos1 t2 go1 v1 false
  )
 else
  some t2
def runes_each_i1_l1 (k : Nat) (s1 : List UInt8) : Nat -> Nat -> yT64 -> Option yT64
 | 0, _, _ => none
 | n + 1, pos1, t2 => runes_each_i1_b1 k s1 (runes_each_i1_l1 k s1 n) pos1 t2
def runes_each_i1 (k : Nat) (s1 : List UInt8) (l1 : List yT72) : Option yT64 :=
 runes_each_i1_l1 k s1 k 0 l1
def runes_Pieces (k : Nat) (s1 : List UInt8) : Option (List yT72 × Int) :=
 Option.bind (runes_long k s1) fun v1 =>
 if v1 != (0 : Int) then
  some (([] : List yT72), v1)
 else
  (
   Option.bind (runes_each_i1 k s1 ([] : List yT72)) fun v2 =>
   some (v2, (0 : Int))
  )
def word_read_b1 (v1 : (List yT72 × Int)) (m1 : Option yT90) (go1 : Int -> (List (Int)) -> Option yT91) (t1 : Int) (out1 : List (Int)) : Option yT91 :=
 if decide (t1 < (List.length v1.1 : Int)) then
  (
   Option.bind (at? v1.1 t1) fun x1 =>
   if x1.2.2.2.1 then
    some (([] : List (Int)), (6 : Int))
   else
    (
     if !((mget (eqEl (.int .i32)) (m1.getD []) x1.1).isSome) then
      some (([] : List (Int)), (5 : Int))
     else
      (
       if (List.length out1 : Int) == (64 : Int) then
        some (([] : List (Int)), (4 : Int))
       else
        (
         Option.bind (chk (List.length out1 + List.length ([x1.1] : List (Int)) <= lim)) fun _ =>
         go1 (wi64 (t1 + (1 : Int))) (out1 ++ ([x1.1] : List (Int)))
        )
      )
    )
  )
 else
  some (out1, (0 : Int))
def word_read_l1 (v1 : (List yT72 × Int)) (m1 : Option yT90) : Nat -> Int -> (List (Int)) -> Option yT91
 | 0, _, _ => none
 | n + 1, t1, out1 => word_read_b1 v1 m1 (word_read_l1 v1 m1 n) t1 out1
def word_read_j1 (k : Nat) (m1 : Option yT90) (w2 : List UInt8) : Option yT91 :=
 Option.bind (runes_Pieces k w2) fun v1 =>
 if v1.2 != (0 : Int) then
  some (([] : List (Int)), v1.2)
 else
  word_read_l1 v1 m1 k (0 : Int) ([] : List (Int))
def word_read (k : Nat) (m1 : Option yT90) (w1 : List UInt8) : Option yT91 :=
 if decide ((65536 : Int) < (List.length w1 : Int)) then
  (
   Option.bind (sub? w1 (0 : Int) (65536 : Int)) fun s1 =>
   word_read_j1 k m1 s1
  )
 else
  word_read_j1 k m1 w1
def word_Letters (k : Nat) (a1 : yT49) (w1 : List UInt8) : Option yT91 :=
 Option.bind (word_ranks k (a1.1, a1.2.1, ())) fun v1 =>
 if v1.2 != (0 : Int) then
  some (([] : List (Int)), v1.2)
 else
  (
   Option.bind (word_read k v1.1 w1) fun v2 =>
   some (v2.1, v2.2)
  )
def feature_Of_c1 (k : Nat) (l1 : yT84) (t1 : Int) : Option Bool :=
 some (l1.1 == t1)
def slices_IndexFunc___api_Letter_api_Letter__Of_c1_b1 (k : Nat) (s1 : List yT80) (f1 : (Int × Unit)) (go1 : Int -> Option Int) (t1 : Int) : Option Int :=
 if decide (t1 < (List.length s1 : Int)) then
  (
   Option.bind (at? s1 t1) fun x1 =>
   Option.bind (feature_Of_c1 k x1 f1.1) fun v1 =>
   if v1 then
    some (t1)
   else
    go1 (wi64 (t1 + (1 : Int)))
  )
 else
  some ((-1 : Int))
def slices_IndexFunc___api_Letter_api_Letter__Of_c1_l1 (k : Nat) (s1 : List yT80) (f1 : (Int × Unit)) : Nat -> Int -> Option Int
 | 0, _ => none
 | n + 1, t1 => slices_IndexFunc___api_Letter_api_Letter__Of_c1_b1 k s1 f1 (slices_IndexFunc___api_Letter_api_Letter__Of_c1_l1 k s1 f1 n) t1
def slices_IndexFunc___api_Letter_api_Letter__Of_c1 (k : Nat) (s1 : List yT80) (f1 : (Int × Unit)) : Option Int :=
 slices_IndexFunc___api_Letter_api_Letter__Of_c1_l1 k s1 f1 k (0 : Int)
def feature_Of (k : Nat) (a1 : yT49) (r1 : Int) : Option (yT84 × Int) :=
 Option.bind (feature_Check k (a1.1, a1.2.1, ())) fun v1 =>
 if v1 != (0 : Int) then
  some (((0 : Int), (0 : Int), (0 : Int), ()), v1)
 else
  (
   Option.bind (slices_IndexFunc___api_Letter_api_Letter__Of_c1 k a1.2.1 (r1, ())) fun v2 =>
   if decide (v2 < (0 : Int)) then
    some (((0 : Int), (0 : Int), (0 : Int), ()), (5 : Int))
   else
    (
     Option.bind (at? a1.2.1 v2) fun x1 =>
     some ((x1.1, x1.2.1, x1.2.2.1, ()), (0 : Int))
    )
  )
def math_bits_OnesCount32 (k : Nat) (x1 : Int) : Option Int :=
 Option.bind (chk (0 <= (24 : Int))) fun _ =>
 Option.bind (byteAt ([0, 1, 1, 2, 1, 2, 2, 3, 1, 2, 2, 3, 2, 3, 3, 4, 1, 2, 2, 3, 2, 3, 3, 4, 2, 3, 3, 4, 3, 4, 4, 5, 1, 2, 2, 3, 2, 3, 3, 4, 2, 3, 3, 4, 3, 4, 4, 5, 2, 3, 3, 4, 3, 4, 4, 5, 3, 4, 4, 5, 4, 5, 5, 6, 1, 2, 2, 3, 2, 3, 3, 4, 2, 3, 3, 4, 3, 4, 4, 5, 2, 3, 3, 4, 3, 4, 4, 5, 3, 4, 4, 5, 4, 5, 5, 6, 2, 3, 3, 4, 3, 4, 4, 5, 3, 4, 4, 5, 4, 5, 5, 6, 3, 4, 4, 5, 4, 5, 5, 6, 4, 5, 5, 6, 5, 6, 6, 7, 1, 2, 2, 3, 2, 3, 3, 4, 2, 3, 3, 4, 3, 4, 4, 5, 2, 3, 3, 4, 3, 4, 4, 5, 3, 4, 4, 5, 4, 5, 5, 6, 2, 3, 3, 4, 3, 4, 4, 5, 3, 4, 4, 5, 4, 5, 5, 6, 3, 4, 4, 5, 4, 5, 5, 6, 4, 5, 5, 6, 5, 6, 6, 7, 2, 3, 3, 4, 3, 4, 4, 5, 3, 4, 4, 5, 4, 5, 5, 6, 3, 4, 4, 5, 4, 5, 5, 6, 4, 5, 5, 6, 5, 6, 6, 7, 3, 4, 4, 5, 4, 5, 5, 6, 4, 5, 5, 6, 5, 6, 6, 7, 4, 5, 5, 6, 5, 6, 6, 7, 5, 6, 6, 7, 6, 7, 7, 8] : List UInt8) (Int.fdiv x1 (2 ^ min ((24 : Int)).toNat 32))) fun b1 =>
 Option.bind (chk (0 <= (16 : Int))) fun _ =>
 Option.bind (byteAt ([0, 1, 1, 2, 1, 2, 2, 3, 1, 2, 2, 3, 2, 3, 3, 4, 1, 2, 2, 3, 2, 3, 3, 4, 2, 3, 3, 4, 3, 4, 4, 5, 1, 2, 2, 3, 2, 3, 3, 4, 2, 3, 3, 4, 3, 4, 4, 5, 2, 3, 3, 4, 3, 4, 4, 5, 3, 4, 4, 5, 4, 5, 5, 6, 1, 2, 2, 3, 2, 3, 3, 4, 2, 3, 3, 4, 3, 4, 4, 5, 2, 3, 3, 4, 3, 4, 4, 5, 3, 4, 4, 5, 4, 5, 5, 6, 2, 3, 3, 4, 3, 4, 4, 5, 3, 4, 4, 5, 4, 5, 5, 6, 3, 4, 4, 5, 4, 5, 5, 6, 4, 5, 5, 6, 5, 6, 6, 7, 1, 2, 2, 3, 2, 3, 3, 4, 2, 3, 3, 4, 3, 4, 4, 5, 2, 3, 3, 4, 3, 4, 4, 5, 3, 4, 4, 5, 4, 5, 5, 6, 2, 3, 3, 4, 3, 4, 4, 5, 3, 4, 4, 5, 4, 5, 5, 6, 3, 4, 4, 5, 4, 5, 5, 6, 4, 5, 5, 6, 5, 6, 6, 7, 2, 3, 3, 4, 3, 4, 4, 5, 3, 4, 4, 5, 4, 5, 5, 6, 3, 4, 4, 5, 4, 5, 5, 6, 4, 5, 5, 6, 5, 6, 6, 7, 3, 4, 4, 5, 4, 5, 5, 6, 4, 5, 5, 6, 5, 6, 6, 7, 4, 5, 5, 6, 5, 6, 6, 7, 5, 6, 6, 7, 6, 7, 7, 8] : List UInt8) (wu32 (BitVec.toNat (BitVec.ofInt 32 (Int.fdiv x1 (2 ^ min ((16 : Int)).toNat 32)) &&& BitVec.ofInt 32 (255 : Int))))) fun b2 =>
 Option.bind (chk (0 <= (8 : Int))) fun _ =>
 Option.bind (byteAt ([0, 1, 1, 2, 1, 2, 2, 3, 1, 2, 2, 3, 2, 3, 3, 4, 1, 2, 2, 3, 2, 3, 3, 4, 2, 3, 3, 4, 3, 4, 4, 5, 1, 2, 2, 3, 2, 3, 3, 4, 2, 3, 3, 4, 3, 4, 4, 5, 2, 3, 3, 4, 3, 4, 4, 5, 3, 4, 4, 5, 4, 5, 5, 6, 1, 2, 2, 3, 2, 3, 3, 4, 2, 3, 3, 4, 3, 4, 4, 5, 2, 3, 3, 4, 3, 4, 4, 5, 3, 4, 4, 5, 4, 5, 5, 6, 2, 3, 3, 4, 3, 4, 4, 5, 3, 4, 4, 5, 4, 5, 5, 6, 3, 4, 4, 5, 4, 5, 5, 6, 4, 5, 5, 6, 5, 6, 6, 7, 1, 2, 2, 3, 2, 3, 3, 4, 2, 3, 3, 4, 3, 4, 4, 5, 2, 3, 3, 4, 3, 4, 4, 5, 3, 4, 4, 5, 4, 5, 5, 6, 2, 3, 3, 4, 3, 4, 4, 5, 3, 4, 4, 5, 4, 5, 5, 6, 3, 4, 4, 5, 4, 5, 5, 6, 4, 5, 5, 6, 5, 6, 6, 7, 2, 3, 3, 4, 3, 4, 4, 5, 3, 4, 4, 5, 4, 5, 5, 6, 3, 4, 4, 5, 4, 5, 5, 6, 4, 5, 5, 6, 5, 6, 6, 7, 3, 4, 4, 5, 4, 5, 5, 6, 4, 5, 5, 6, 5, 6, 6, 7, 4, 5, 5, 6, 5, 6, 6, 7, 5, 6, 6, 7, 6, 7, 7, 8] : List UInt8) (wu32 (BitVec.toNat (BitVec.ofInt 32 (Int.fdiv x1 (2 ^ min ((8 : Int)).toNat 32)) &&& BitVec.ofInt 32 (255 : Int))))) fun b3 =>
 Option.bind (byteAt ([0, 1, 1, 2, 1, 2, 2, 3, 1, 2, 2, 3, 2, 3, 3, 4, 1, 2, 2, 3, 2, 3, 3, 4, 2, 3, 3, 4, 3, 4, 4, 5, 1, 2, 2, 3, 2, 3, 3, 4, 2, 3, 3, 4, 3, 4, 4, 5, 2, 3, 3, 4, 3, 4, 4, 5, 3, 4, 4, 5, 4, 5, 5, 6, 1, 2, 2, 3, 2, 3, 3, 4, 2, 3, 3, 4, 3, 4, 4, 5, 2, 3, 3, 4, 3, 4, 4, 5, 3, 4, 4, 5, 4, 5, 5, 6, 2, 3, 3, 4, 3, 4, 4, 5, 3, 4, 4, 5, 4, 5, 5, 6, 3, 4, 4, 5, 4, 5, 5, 6, 4, 5, 5, 6, 5, 6, 6, 7, 1, 2, 2, 3, 2, 3, 3, 4, 2, 3, 3, 4, 3, 4, 4, 5, 2, 3, 3, 4, 3, 4, 4, 5, 3, 4, 4, 5, 4, 5, 5, 6, 2, 3, 3, 4, 3, 4, 4, 5, 3, 4, 4, 5, 4, 5, 5, 6, 3, 4, 4, 5, 4, 5, 5, 6, 4, 5, 5, 6, 5, 6, 6, 7, 2, 3, 3, 4, 3, 4, 4, 5, 3, 4, 4, 5, 4, 5, 5, 6, 3, 4, 4, 5, 4, 5, 5, 6, 4, 5, 5, 6, 5, 6, 6, 7, 3, 4, 4, 5, 4, 5, 5, 6, 4, 5, 5, 6, 5, 6, 6, 7, 4, 5, 5, 6, 5, 6, 6, 7, 5, 6, 6, 7, 6, 7, 7, 8] : List UInt8) (wu32 (BitVec.toNat (BitVec.ofInt 32 x1 &&& BitVec.ofInt 32 (255 : Int))))) fun b4 =>
 some (wi64 (wu8 ((wu8 ((wu8 (b1 + b2)) + b3)) + b4)))
def feature_unlike (k : Nat) (x1 : yT84) (y1 : yT84) : Option Int :=
 Option.bind (math_bits_OnesCount32 k (wu32 (BitVec.toNat (BitVec.ofInt 32 (wu32 (BitVec.toNat (BitVec.ofInt 32 x1.2.1 ^^^ BitVec.ofInt 32 y1.2.1))) ||| BitVec.ofInt 32 (wu32 (BitVec.toNat (BitVec.ofInt 32 x1.2.2.1 ^^^ BitVec.ofInt 32 y1.2.2.1))))))) fun v1 =>
 some (v1)
def feature_Far (k : Nat) (a1 : yT49) (x1 : Int) (y1 : Int) : Option (Int × Int) :=
 Option.bind (feature_Of k (a1.1, a1.2.1, ()) x1) fun v1 =>
 if v1.2 != (0 : Int) then
  some ((0 : Int), v1.2)
 else
  (
   Option.bind (feature_Of k (a1.1, a1.2.1, ()) y1) fun v2 =>
   if v2.2 != (0 : Int) then
    some ((0 : Int), v2.2)
   else
    (
     Option.bind (feature_unlike k (v1.1.1, v1.1.2.1, v1.1.2.2.1, ()) (v2.1.1, v2.1.2.1, v2.1.2.2.1, ())) fun v3 =>
     some (v3, (0 : Int))
    )
  )
def align_far_j1 (k : Nat) (a1 : yT49) (x1 : Int) (y1 : Int) (t1 : Bool) : Option Int :=
 if t1 then
  some ((5 : Int))
 else
  (
   Option.bind (feature_Far k (a1.1, a1.2.1, ()) x1 y1) fun v1 =>
   some (wi64 ((2 : Int) + v1.1))
  )
def align_far (k : Nat) (a1 : yT49) (x1 : Int) (y1 : Int) : Option Int :=
 if x1 == y1 then
  some ((0 : Int))
 else
  align_far_j1 k a1 x1 y1 ((x1 == (0 : Int)) || (y1 == (0 : Int)))
def align_filled_i1_j1 (go2 : Int -> yT43 -> Option yT43) (k1 : Int) (blk4 : yT43) : Option yT43 :=
 go2 (wi64 (k1 - (1 : Int))) blk4
def align_filled_i1_j8 (i1 : Int) (k1 : Int) (blk3 : yT43) (go2 : Int -> yT43 -> Option yT43) (both1 : Int) (left1 : Int) (right1 : Int) (n3 : Int) : Option yT43 :=
 Option.bind (chk (0 <= i1 /\ i1 < (65 : Int))) fun _ =>
 Option.bind (chk (0 <= k1 /\ k1 < (65 : Int))) fun _ =>
 Option.bind (chk (0 <= i1 /\ i1 < (65 : Int))) fun _ =>
 Option.bind (at? blk3.2.2.1 i1) fun x4 =>
 Option.bind (at? x4 k1) fun x5 =>
 Option.bind (chk (0 <= k1 /\ k1 < (65 : Int))) fun _ =>
 Option.bind (at? blk3.2.2.2.1 i1) fun x6 =>
 Option.bind (at? x6 k1) fun x7 =>
 align_filled_i1_j1 go2 k1 (blk3.1, blk3.2.1, List.set blk3.2.2.1 (i1).toNat (List.set x4 (k1).toNat (mnI (mnI both1 left1) right1)), List.set blk3.2.2.2.1 (i1).toNat (List.set x6 (k1).toNat (mnI n3 (1048577 : Int))), ())
def align_filled_i1_j7 (right1 : Int) (both1 : Int) (left1 : Int) (i1 : Int) (k1 : Int) (blk3 : yT43) (go2 : Int -> yT43 -> Option yT43) (n2 : Int) : Option yT43 :=
 if right1 == (mnI (mnI both1 left1) right1) then
  (
   Option.bind (chk (0 <= i1 /\ i1 < (65 : Int))) fun _ =>
   Option.bind (chk (0 <= (wi64 (k1 + (1 : Int))) /\ (wi64 (k1 + (1 : Int))) < (65 : Int))) fun _ =>
   Option.bind (at? blk3.2.2.2.1 i1) fun x8 =>
   Option.bind (at? x8 (wi64 (k1 + (1 : Int)))) fun x9 =>
   align_filled_i1_j8 i1 k1 blk3 go2 both1 left1 right1 (wi64 (n2 + x9))
  )
 else
  align_filled_i1_j8 i1 k1 blk3 go2 both1 left1 right1 n2
def align_filled_i1_j6 (left1 : Int) (both1 : Int) (right1 : Int) (i1 : Int) (k1 : Int) (blk3 : yT43) (go2 : Int -> yT43 -> Option yT43) (n1 : Int) : Option yT43 :=
 if left1 == (mnI (mnI both1 left1) right1) then
  (
   Option.bind (chk (0 <= (wi64 (i1 + (1 : Int))) /\ (wi64 (i1 + (1 : Int))) < (65 : Int))) fun _ =>
   Option.bind (chk (0 <= k1 /\ k1 < (65 : Int))) fun _ =>
   Option.bind (at? blk3.2.2.2.1 (wi64 (i1 + (1 : Int)))) fun x10 =>
   Option.bind (at? x10 k1) fun x11 =>
   align_filled_i1_j7 right1 both1 left1 i1 k1 blk3 go2 (wi64 (n1 + x11))
  )
 else
  align_filled_i1_j7 right1 both1 left1 i1 k1 blk3 go2 n1
def align_filled_i1_j5 (both1 : Int) (left1 : Int) (i1 : Int) (k1 : Int) (blk3 : yT43) (go2 : Int -> yT43 -> Option yT43) (right1 : Int) : Option yT43 :=
 if both1 == (mnI (mnI both1 left1) right1) then
  (
   Option.bind (chk (0 <= (wi64 (i1 + (1 : Int))) /\ (wi64 (i1 + (1 : Int))) < (65 : Int))) fun _ =>
   Option.bind (chk (0 <= (wi64 (k1 + (1 : Int))) /\ (wi64 (k1 + (1 : Int))) < (65 : Int))) fun _ =>
   Option.bind (at? blk3.2.2.2.1 (wi64 (i1 + (1 : Int)))) fun x12 =>
   Option.bind (at? x12 (wi64 (k1 + (1 : Int)))) fun x13 =>
   align_filled_i1_j6 left1 both1 right1 i1 k1 blk3 go2 (wi64 ((0 : Int) + x13))
  )
 else
  align_filled_i1_j6 left1 both1 right1 i1 k1 blk3 go2 (0 : Int)
def align_filled_i1_j4 (k1 : Int) (y1 : List (Int)) (i1 : Int) (blk3 : yT43) (both1 : Int) (go2 : Int -> yT43 -> Option yT43) (left1 : Int) : Option yT43 :=
 if decide (k1 < (List.length y1 : Int)) then
  (
   Option.bind (chk (0 <= i1 /\ i1 < (65 : Int))) fun _ =>
   Option.bind (chk (0 <= (wi64 (k1 + (1 : Int))) /\ (wi64 (k1 + (1 : Int))) < (65 : Int))) fun _ =>
   Option.bind (at? blk3.2.2.1 i1) fun x14 =>
   Option.bind (at? x14 (wi64 (k1 + (1 : Int)))) fun x15 =>
   align_filled_i1_j5 both1 left1 i1 k1 blk3 go2 (wi64 ((5 : Int) + x15))
  )
 else
  align_filled_i1_j5 both1 left1 i1 k1 blk3 go2 (1073741824 : Int)
def align_filled_i1_j3 (i1 : Int) (x1 : List (Int)) (k1 : Int) (blk3 : yT43) (y1 : List (Int)) (go2 : Int -> yT43 -> Option yT43) (both1 : Int) : Option yT43 :=
 if decide (i1 < (List.length x1 : Int)) then
  (
   Option.bind (chk (0 <= (wi64 (i1 + (1 : Int))) /\ (wi64 (i1 + (1 : Int))) < (65 : Int))) fun _ =>
   Option.bind (chk (0 <= k1 /\ k1 < (65 : Int))) fun _ =>
   Option.bind (at? blk3.2.2.1 (wi64 (i1 + (1 : Int)))) fun x16 =>
   Option.bind (at? x16 k1) fun x17 =>
   align_filled_i1_j4 k1 y1 i1 blk3 both1 go2 (wi64 ((5 : Int) + x17))
  )
 else
  align_filled_i1_j4 k1 y1 i1 blk3 both1 go2 (1073741824 : Int)
def align_filled_i1_j9 (k : Nat) (x1 : List (Int)) (i1 : Int) (y1 : List (Int)) (k1 : Int) (a2 : List (List UInt8)) (a3 : List yT80) (blk3 : yT43) (go2 : Int -> yT43 -> Option yT43) (t2 : Bool) : Option yT43 :=
 if t2 then
  (
   Option.bind (at? x1 i1) fun x18 =>
   Option.bind (at? y1 k1) fun x19 =>
   Option.bind (align_far k (a2, a3, ()) x18 x19) fun v1 =>
   Option.bind (chk (0 <= (wi64 (i1 + (1 : Int))) /\ (wi64 (i1 + (1 : Int))) < (65 : Int))) fun _ =>
   Option.bind (chk (0 <= (wi64 (k1 + (1 : Int))) /\ (wi64 (k1 + (1 : Int))) < (65 : Int))) fun _ =>
   Option.bind (at? blk3.2.2.1 (wi64 (i1 + (1 : Int)))) fun x20 =>
   Option.bind (at? x20 (wi64 (k1 + (1 : Int)))) fun x21 =>
   align_filled_i1_j3 i1 x1 k1 blk3 y1 go2 (wi64 (v1 + x21))
  )
 else
  align_filled_i1_j3 i1 x1 k1 blk3 y1 go2 (1073741824 : Int)
def align_filled_i1_j2 (k : Nat) (go2 : Int -> yT43 -> Option yT43) (k1 : Int) (blk3 : yT43) (x1 : List (Int)) (i1 : Int) (y1 : List (Int)) (a2 : List (List UInt8)) (a3 : List yT80) (t1 : Bool) : Option yT43 :=
 if t1 then
  align_filled_i1_j1 go2 k1 blk3
 else
  align_filled_i1_j9 k x1 i1 y1 k1 a2 a3 blk3 go2 (decide (i1 < (List.length x1 : Int)) && (decide (k1 < (List.length y1 : Int))))
def align_filled_i1_b2 (k : Nat) (x1 : List (Int)) (i1 : Int) (y1 : List (Int)) (a2 : List (List UInt8)) (a3 : List yT80) (go1 : Int -> yT88 -> yT73 -> yT43 -> Option yT43) (go2 : Int -> yT43 -> Option yT43) (k1 : Int) (blk3 : yT43) : Option yT43 :=
 if decide ((0 : Int) <= k1) then
  align_filled_i1_j2 k go2 k1 blk3 x1 i1 y1 a2 a3 ((i1 == (List.length x1 : Int)) && (k1 == (List.length y1 : Int)))
 else
  go1 (wi64 (i1 - (1 : Int))) a2 a3 blk3
def align_filled_i1_l2 (k : Nat) (x1 : List (Int)) (i1 : Int) (y1 : List (Int)) (a2 : List (List UInt8)) (a3 : List yT80) (go1 : Int -> yT88 -> yT73 -> yT43 -> Option yT43) : Nat -> Int -> yT43 -> Option yT43
 | 0, _, _ => none
 | n + 1, k1, blk3 => align_filled_i1_b2 k x1 i1 y1 a2 a3 go1 (align_filled_i1_l2 k x1 i1 y1 a2 a3 go1 n) k1 blk3
def align_filled_i1_b1 (k : Nat) (x1 : List (Int)) (y1 : List (Int)) (go1 : Int -> yT88 -> yT73 -> yT43 -> Option yT43) (i1 : Int) (a2 : List (List UInt8)) (a3 : List yT80) (blk2 : yT43) : Option yT43 :=
 if decide ((0 : Int) <= i1) then
  align_filled_i1_l2 k x1 i1 y1 a2 a3 go1 k (List.length y1 : Int) blk2
 else
  some blk2
def align_filled_i1_l1 (k : Nat) (x1 : List (Int)) (y1 : List (Int)) : Nat -> Int -> yT88 -> yT73 -> yT43 -> Option yT43
 | 0, _, _, _, _ => none
 | n + 1, i1, a2, a3, blk2 => align_filled_i1_b1 k x1 y1 (align_filled_i1_l1 k x1 y1 n) i1 a2 a3 blk2
def align_filled_i1 (k : Nat) (a1 : yT49) (x1 : List (Int)) (y1 : List (Int)) : Option yT43 :=
 Option.bind (chk (0 <= (List.length x1 : Int) /\ (List.length x1 : Int) < (65 : Int))) fun _ =>
 Option.bind (chk (0 <= (List.length y1 : Int) /\ (List.length y1 : Int) < (65 : Int))) fun _ =>
 Option.bind (at? (List.replicate 65 (List.replicate 65 (0 : Int))) (List.length x1 : Int)) fun x2 =>
 Option.bind (at? x2 (List.length y1 : Int)) fun x3 =>
 align_filled_i1_l1 k x1 y1 k (List.length x1 : Int) a1.1 a1.2.1 (x1, y1, (List.replicate 65 (List.replicate 65 (0 : Int))), List.set (List.replicate 65 (List.replicate 65 (0 : Int))) ((List.length x1 : Int)).toNat (List.set x2 ((List.length y1 : Int)).toNat (1 : Int)), ())
def align_tabled_i1 (k : Nat) (a1 : yT49) (x1 : List UInt8) (y1 : List UInt8) : Option (Sum Int yT39) :=
 Option.bind (word_Letters k (a1.1, a1.2.1, ()) x1) fun v1 =>
 if v1.2 != (0 : Int) then
  some (.inl v1.2)
 else
  (
   Option.bind (word_Letters k (a1.1, a1.2.1, ()) y1) fun v2 =>
   if v2.2 != (0 : Int) then
    some (.inl v2.2)
   else
    (
     Option.bind (align_filled_i1 k (a1.1, a1.2.1, ()) v1.1 v2.1) fun v3 =>
     some (.inr ((0 : Int), v3))
    )
  )
def align_table_first_j4 (t1 : yT43) (i1 : Int) (l1 : List yT86) (go1 : Int -> Int -> yT78 -> Option yT78) (k1 : Int) (t5 : Bool) : Option yT78 :=
 if t5 then
  (
   Option.bind (at? t1.1 i1) fun x5 =>
   Option.bind (chk (List.length l1 + List.length ([(x5, (0 : Int), ())] : List yT86) <= lim)) fun _ =>
   go1 (wi64 (i1 + (1 : Int))) k1 (l1 ++ ([(x5, (0 : Int), ())] : List yT86))
  )
 else
  (
   Option.bind (at? t1.2.1 k1) fun x6 =>
   Option.bind (chk (List.length l1 + List.length ([((0 : Int), x6, ())] : List yT86) <= lim)) fun _ =>
   go1 i1 (wi64 (k1 + (1 : Int))) (l1 ++ ([((0 : Int), x6, ())] : List yT86))
  )
def align_table_first_j3 (t1 : yT43) (i1 : Int) (k1 : Int) (l1 : List yT86) (go1 : Int -> Int -> yT78 -> Option yT78) (x2 : Int) (t4 : Bool) : Option yT78 :=
 if t4 then
  (
   Option.bind (at? t1.1 i1) fun x3 =>
   Option.bind (at? t1.2.1 k1) fun x4 =>
   Option.bind (chk (List.length l1 + List.length ([(x3, x4, ())] : List yT86) <= lim)) fun _ =>
   go1 (wi64 (i1 + (1 : Int))) (wi64 (k1 + (1 : Int))) (l1 ++ ([(x3, x4, ())] : List yT86))
  )
 else
  (
   if decide (i1 < (List.length t1.1 : Int)) then
    (
     Option.bind (at? t1.2.2.1 (wi64 (i1 + (1 : Int)))) fun x7 =>
     Option.bind (at? x7 k1) fun x8 =>
     align_table_first_j4 t1 i1 l1 go1 k1 (x2 == (wi64 ((5 : Int) + x8)))
    )
   else
    align_table_first_j4 t1 i1 l1 go1 k1 false
  )
def align_table_first_j2 (k : Nat) (t1 : yT43) (i1 : Int) (k1 : Int) (a1 : yT49) (l1 : List yT86) (go1 : Int -> Int -> yT78 -> Option yT78) (x2 : Int) (t3 : Bool) : Option yT78 :=
 if t3 then
  (
   Option.bind (at? t1.1 i1) fun x9 =>
   Option.bind (at? t1.2.1 k1) fun x10 =>
   Option.bind (align_far k (a1.1, a1.2.1, ()) x9 x10) fun v1 =>
   Option.bind (at? t1.2.2.1 (wi64 (i1 + (1 : Int)))) fun x11 =>
   Option.bind (at? x11 (wi64 (k1 + (1 : Int)))) fun x12 =>
   align_table_first_j3 t1 i1 k1 l1 go1 x2 (x2 == (wi64 (v1 + x12)))
  )
 else
  align_table_first_j3 t1 i1 k1 l1 go1 x2 false
def align_table_first_j1 (k : Nat) (t1 : yT43) (i1 : Int) (k1 : Int) (a1 : yT49) (l1 : List yT86) (go1 : Int -> Int -> yT78 -> Option yT78) (t2 : Bool) : Option yT78 :=
 if t2 then
  (
   Option.bind (at? t1.2.2.1 i1) fun x1 =>
   Option.bind (at? x1 k1) fun x2 =>
   align_table_first_j2 k t1 i1 k1 a1 l1 go1 x2 (decide (i1 < (List.length t1.1 : Int)) && (decide (k1 < (List.length t1.2.1 : Int))))
  )
 else
  some (l1)
def align_table_first_b1 (k : Nat) (t1 : yT43) (a1 : yT49) (go1 : Int -> Int -> yT78 -> Option yT78) (i1 : Int) (k1 : Int) (l1 : List yT86) : Option yT78 :=
 align_table_first_j1 k t1 i1 k1 a1 l1 go1 (decide (i1 < (List.length t1.1 : Int)) || (decide (k1 < (List.length t1.2.1 : Int))))
def align_table_first_l1 (k : Nat) (t1 : yT43) (a1 : yT49) : Nat -> Int -> Int -> yT78 -> Option yT78
 | 0, _, _, _ => none
 | n + 1, i1, k1, l1 => align_table_first_b1 k t1 a1 (align_table_first_l1 k t1 a1 n) i1 k1 l1
def align_table_first (k : Nat) (t1 : yT43) (a1 : yT49) : Option yT78 :=
 align_table_first_l1 k t1 a1 k (0 : Int) (0 : Int) ([] : List yT86)
def align_table_first_i1_j4 (blk1 : yT43) (i1 : Int) (l2 : List yT86) (go1 : Int -> Int -> yT78 -> Option yT78) (k1 : Int) (t4 : Bool) : Option yT78 :=
 if t4 then
  (
   Option.bind (at? blk1.1 i1) fun x5 =>
   Option.bind (chk (List.length l2 + List.length ([(x5, (0 : Int), ())] : List yT86) <= lim)) fun _ =>
   go1 (wi64 (i1 + (1 : Int))) k1 (l2 ++ ([(x5, (0 : Int), ())] : List yT86))
  )
 else
  (
   Option.bind (at? blk1.2.1 k1) fun x6 =>
   Option.bind (chk (List.length l2 + List.length ([((0 : Int), x6, ())] : List yT86) <= lim)) fun _ =>
   go1 i1 (wi64 (k1 + (1 : Int))) (l2 ++ ([((0 : Int), x6, ())] : List yT86))
  )
def align_table_first_i1_j3 (blk1 : yT43) (i1 : Int) (k1 : Int) (l2 : List yT86) (go1 : Int -> Int -> yT78 -> Option yT78) (x2 : Int) (t3 : Bool) : Option yT78 :=
 if t3 then
  (
   Option.bind (at? blk1.1 i1) fun x3 =>
   Option.bind (at? blk1.2.1 k1) fun x4 =>
   Option.bind (chk (List.length l2 + List.length ([(x3, x4, ())] : List yT86) <= lim)) fun _ =>
   go1 (wi64 (i1 + (1 : Int))) (wi64 (k1 + (1 : Int))) (l2 ++ ([(x3, x4, ())] : List yT86))
  )
 else
  (
   if decide (i1 < (List.length blk1.1 : Int)) then
    (
     Option.bind (chk (0 <= (wi64 (i1 + (1 : Int))) /\ (wi64 (i1 + (1 : Int))) < (65 : Int))) fun _ =>
     Option.bind (chk (0 <= k1 /\ k1 < (65 : Int))) fun _ =>
     Option.bind (at? blk1.2.2.1 (wi64 (i1 + (1 : Int)))) fun x7 =>
     Option.bind (at? x7 k1) fun x8 =>
     align_table_first_i1_j4 blk1 i1 l2 go1 k1 (x2 == (wi64 ((5 : Int) + x8)))
    )
   else
    align_table_first_i1_j4 blk1 i1 l2 go1 k1 false
  )
def align_table_first_i1_j2 (k : Nat) (blk1 : yT43) (i1 : Int) (k1 : Int) (a1 : yT49) (l2 : List yT86) (go1 : Int -> Int -> yT78 -> Option yT78) (x2 : Int) (t2 : Bool) : Option yT78 :=
 if t2 then
  (
   Option.bind (at? blk1.1 i1) fun x9 =>
   Option.bind (at? blk1.2.1 k1) fun x10 =>
   Option.bind (align_far k (a1.1, a1.2.1, ()) x9 x10) fun v1 =>
   Option.bind (chk (0 <= (wi64 (i1 + (1 : Int))) /\ (wi64 (i1 + (1 : Int))) < (65 : Int))) fun _ =>
   Option.bind (chk (0 <= (wi64 (k1 + (1 : Int))) /\ (wi64 (k1 + (1 : Int))) < (65 : Int))) fun _ =>
   Option.bind (at? blk1.2.2.1 (wi64 (i1 + (1 : Int)))) fun x11 =>
   Option.bind (at? x11 (wi64 (k1 + (1 : Int)))) fun x12 =>
   align_table_first_i1_j3 blk1 i1 k1 l2 go1 x2 (x2 == (wi64 (v1 + x12)))
  )
 else
  align_table_first_i1_j3 blk1 i1 k1 l2 go1 x2 false
def align_table_first_i1_j1 (k : Nat) (i1 : Int) (k1 : Int) (blk1 : yT43) (a1 : yT49) (l2 : List yT86) (go1 : Int -> Int -> yT78 -> Option yT78) (t1 : Bool) : Option yT78 :=
 if t1 then
  (
   Option.bind (chk (0 <= i1 /\ i1 < (65 : Int))) fun _ =>
   Option.bind (chk (0 <= k1 /\ k1 < (65 : Int))) fun _ =>
   Option.bind (at? blk1.2.2.1 i1) fun x1 =>
   Option.bind (at? x1 k1) fun x2 =>
   align_table_first_i1_j2 k blk1 i1 k1 a1 l2 go1 x2 (decide (i1 < (List.length blk1.1 : Int)) && (decide (k1 < (List.length blk1.2.1 : Int))))
  )
 else
  some l2
def align_table_first_i1_b1 (k : Nat) (blk1 : yT43) (a1 : yT49) (go1 : Int -> Int -> yT78 -> Option yT78) (i1 : Int) (k1 : Int) (l2 : List yT86) : Option yT78 :=
 align_table_first_i1_j1 k i1 k1 blk1 a1 l2 go1 (decide (i1 < (List.length blk1.1 : Int)) || (decide (k1 < (List.length blk1.2.1 : Int))))
def align_table_first_i1_l1 (k : Nat) (blk1 : yT43) (a1 : yT49) : Nat -> Int -> Int -> yT78 -> Option yT78
 | 0, _, _, _ => none
 | n + 1, i1, k1, l2 => align_table_first_i1_b1 k blk1 a1 (align_table_first_i1_l1 k blk1 a1 n) i1 k1 l2
def align_table_first_i1 (k : Nat) (a1 : yT49) (blk1 : yT43) : Option yT78 :=
 align_table_first_i1_l1 k blk1 a1 k (0 : Int) (0 : Int) ([] : List yT86)
def align_Words (k : Nat) (a1 : yT49) (x1 : List UInt8) (y1 : List UInt8) : Option (Int × List yT86 × Int) :=
 Option.bind (align_tabled_i1 k (a1.1, a1.2.1, ()) x1 y1) fun v1 => sumCase v1 (fun v2 =>
  if v2 != (0 : Int) then
   some ((0 : Int), ([] : List yT86), v2)
  else
   none
 ) fun v3 =>
 if v3.1 != (0 : Int) then
  some ((0 : Int), ([] : List yT86), v3.1)
 else
  (
   Option.bind (chk (0 <= (0 : Int) /\ (0 : Int) < (65 : Int))) fun _ =>
   Option.bind (chk (0 <= (0 : Int) /\ (0 : Int) < (65 : Int))) fun _ =>
   Option.bind (at? v3.2.2.2.1 (0 : Int)) fun x2 =>
   Option.bind (at? x2 (0 : Int)) fun x3 =>
   Option.bind (align_table_first_i1 k (a1.1, a1.2.1, ()) v3.2) fun v4 =>
   some (x3, v4, (0 : Int))
  )
def corr_aligned_b1 (k : Nat) (l1 : List yT88) (a1 : yT49) (go1 : Int -> yT70 -> Option yT65) (t1 : Int) (out1 : List yT78) : Option yT65 :=
 if decide (t1 < (List.length l1 : Int)) then
  (
   Option.bind (at? l1 t1) fun x1 =>
   Option.bind (chk (0 <= (0 : Int) /\ (0 : Int) < (2 : Int))) fun _ =>
   Option.bind (at? x1 (0 : Int)) fun x2 =>
   Option.bind (chk (0 <= (1 : Int) /\ (1 : Int) < (2 : Int))) fun _ =>
   Option.bind (at? x1 (1 : Int)) fun x3 =>
   Option.bind (align_Words k (a1.1, a1.2.1, ()) x2 x3) fun v2 =>
   if v2.2.2 != (0 : Int) then
    some (([] : List yT78), v2.2.2)
   else
    (
     Option.bind (chk (List.length out1 + List.length ([v2.2.1] : List yT78) <= lim)) fun _ =>
     go1 (wi64 (t1 + (1 : Int))) (out1 ++ ([v2.2.1] : List yT78))
    )
  )
 else
  some (out1, (0 : Int))
def corr_aligned_l1 (k : Nat) (l1 : List yT88) (a1 : yT49) : Nat -> Int -> yT70 -> Option yT65
 | 0, _, _ => none
 | n + 1, t1, out1 => corr_aligned_b1 k l1 a1 (corr_aligned_l1 k l1 a1 n) t1 out1
def corr_aligned (k : Nat) (a1 : yT49) (l1 : List yT88) : Option yT65 :=
 Option.bind (feature_Check k (a1.1, a1.2.1, ())) fun v1 =>
 if v1 != (0 : Int) then
  some (([] : List yT78), v1)
 else
  (
   if decide ((4096 : Int) < (List.length l1 : Int)) then
    some (([] : List yT78), (4 : Int))
   else
    corr_aligned_l1 k l1 a1 k (0 : Int) ([] : List yT78)
  )
def corr_Regular_j1 (go2 : Int -> yT90 -> Option yT92) (t2 : Int) (m3 : List (Int × Int)) : Option yT92 :=
 go2 (wi64 (t2 + (1 : Int))) m3
def corr_Regular_j2 (t1 : Int) (go2 : Int -> yT90 -> Option yT92) (t2 : Int) (m2 : List (Int × Int)) (x2 : (Int × Int × Unit)) (t3 : Bool) : Option yT92 :=
 if t3 then
  some (false, t1, (0 : Int))
 else
  corr_Regular_j1 go2 t2 (mset (eqEl (.int .i32)) m2 x2.1 x2.2.1)
def corr_Regular_b2 (x1 : List yT86) (t1 : Int) (go1 : Int -> yT90 -> Option yT92) (go2 : Int -> yT90 -> Option yT92) (t2 : Int) (m2 : List (Int × Int)) : Option yT92 :=
 if decide (t2 < (List.length x1 : Int)) then
  (
   Option.bind (at? x1 t2) fun x2 =>
   if x2.1 == (0 : Int) then
    corr_Regular_j1 go2 t2 m2
   else
    corr_Regular_j2 t1 go2 t2 m2 x2 (((mget (eqEl (.int .i32)) m2 x2.1).isSome) && (((mget (eqEl (.int .i32)) m2 x2.1).getD (0 : Int)) != x2.2.1))
  )
 else
  go1 (wi64 (t1 + (1 : Int))) m2
def corr_Regular_l2 (x1 : List yT86) (t1 : Int) (go1 : Int -> yT90 -> Option yT92) : Nat -> Int -> yT90 -> Option yT92
 | 0, _, _ => none
 | n + 1, t2, m2 => corr_Regular_b2 x1 t1 go1 (corr_Regular_l2 x1 t1 go1 n) t2 m2
def corr_Regular_b1 (k : Nat) (v1 : yT65) (go1 : Int -> yT90 -> Option yT92) (t1 : Int) (m1 : List (Int × Int)) : Option yT92 :=
 if decide (t1 < (List.length v1.1 : Int)) then
  (
   Option.bind (at? v1.1 t1) fun x1 =>
   corr_Regular_l2 x1 t1 go1 k (0 : Int) m1
  )
 else
  some (true, (-1 : Int), (0 : Int))
def corr_Regular_l1 (k : Nat) (v1 : yT65) : Nat -> Int -> yT90 -> Option yT92
 | 0, _, _ => none
 | n + 1, t1, m1 => corr_Regular_b1 k v1 (corr_Regular_l1 k v1 n) t1 m1
def corr_Regular (k : Nat) (a1 : yT49) (l1 : List yT88) : Option yT92 :=
 Option.bind (corr_aligned k (a1.1, a1.2.1, ()) l1) fun v1 =>
 if v1.2 != (0 : Int) then
  some (false, (0 : Int), v1.2)
 else
  corr_Regular_l1 k v1 k (0 : Int) ([] : List (Int × Int))
def maps_Keys_map_api_Pair_int_api_Pair_int__i1 (k : Nat) (m1 : List yT79) : Option Unit :=
 some ()
def corr_counted_b2 (x1 : List yT86) (go1 : Int -> yT88 -> yT73 -> yT71 -> Option yT62) (t1 : Int) (a2 : List (List UInt8)) (a3 : List yT80) (go2 : Int -> yT71 -> Option yT62) (t2 : Int) (m2 : List yT79) : Option yT62 :=
 if decide (t2 < (List.length x1 : Int)) then
  (
   Option.bind (at? x1 t2) fun x2 =>
   go2 (wi64 (t2 + (1 : Int))) (mset (eqEl yT58) m2 (x2.1, x2.2.1, ()) (wi64 (((mget (eqEl yT58) m2 (x2.1, x2.2.1, ())).getD (0 : Int)) + (1 : Int))))
  )
 else
  go1 (wi64 (t1 + (1 : Int))) a2 a3 m2
def corr_counted_l2 (x1 : List yT86) (go1 : Int -> yT88 -> yT73 -> yT71 -> Option yT62) (t1 : Int) (a2 : List (List UInt8)) (a3 : List yT80) : Nat -> Int -> yT71 -> Option yT62
 | 0, _, _ => none
 | n + 1, t2, m2 => corr_counted_b2 x1 go1 t1 a2 a3 (corr_counted_l2 x1 go1 t1 a2 a3 n) t2 m2
def corr_counted_b4 (v2 : List yT86) (m1 : List yT79) (go4 : Int -> yT62 -> Option yT62) (t4 : Int) (out1 : List yT69) : Option yT62 :=
 if decide (t4 < (List.length v2 : Int)) then
  (
   Option.bind (at? v2 t4) fun x4 =>
   Option.bind (chk (List.length out1 + List.length ([((x4.1, x4.2.1, ()), (mget (eqEl yT58) m1 (x4.1, x4.2.1, ())).getD (0 : Int), ())] : List yT69) <= lim)) fun _ =>
   go4 (wi64 (t4 + (1 : Int))) (out1 ++ ([((x4.1, x4.2.1, ()), (mget (eqEl yT58) m1 (x4.1, x4.2.1, ())).getD (0 : Int), ())] : List yT69))
  )
 else
  some (out1)
def corr_counted_l4 (v2 : List yT86) (m1 : List yT79) : Nat -> Int -> yT62 -> Option yT62
 | 0, _, _ => none
 | n + 1, t4, out1 => corr_counted_b4 v2 m1 (corr_counted_l4 v2 m1 n) t4 out1
def corr_counted_b3 (k : Nat) (a3 : List yT80) (m1 : List yT79) (go3 : Int -> yT90 -> Option yT62) (t3 : Int) (m3 : List (Int × Int)) : Option yT62 :=
 if decide (t3 < (List.length a3 : Int)) then
  (
   Option.bind (at? a3 t3) fun x3 =>
   go3 (wi64 (t3 + (1 : Int))) (mset (eqEl (.int .i32)) m3 x3.1 (wi64 (t3 + (1 : Int))))
  )
 else
  (
   Option.bind (maps_Keys_map_api_Pair_int_api_Pair_int__i1 k m1) fun v1 =>
   Option.bind (sortedPairs k m1 m3) fun v2 =>
   corr_counted_l4 v2 m1 k (0 : Int) ([] : List yT69)
  )
def corr_counted_l3 (k : Nat) (a3 : List yT80) (m1 : List yT79) : Nat -> Int -> yT90 -> Option yT62
 | 0, _, _ => none
 | n + 1, t3, m3 => corr_counted_b3 k a3 m1 (corr_counted_l3 k a3 m1 n) t3 m3
def corr_counted_b1 (k : Nat) (l1 : List yT78) (go1 : Int -> yT88 -> yT73 -> yT71 -> Option yT62) (t1 : Int) (a2 : List (List UInt8)) (a3 : List yT80) (m1 : List yT79) : Option yT62 :=
 if decide (t1 < (List.length l1 : Int)) then
  (
   Option.bind (at? l1 t1) fun x1 =>
   corr_counted_l2 x1 go1 t1 a2 a3 k (0 : Int) m1
  )
 else
  corr_counted_l3 k a3 m1 k (0 : Int) ([] : List (Int × Int))
def corr_counted_l1 (k : Nat) (l1 : List yT78) : Nat -> Int -> yT88 -> yT73 -> yT71 -> Option yT62
 | 0, _, _, _, _ => none
 | n + 1, t1, a2, a3, m1 => corr_counted_b1 k l1 (corr_counted_l1 k l1 n) t1 a2 a3 m1
def corr_counted (k : Nat) (a1 : yT49) (l1 : List yT78) : Option yT62 :=
 corr_counted_l1 k l1 k (0 : Int) a1.1 a1.2.1 ([] : List yT79)
def corr_Odd_c1_j1  (t2 : Bool) : Option Bool :=
 some (t2)
def corr_Odd_c1 (k : Nat) (x1 : (Int × Int × Unit)) (t1 : Option yT90) : Option Bool :=
 corr_Odd_c1_j1 ((x1.1 != (0 : Int)) && (((mget (eqEl (.int .i32)) (t1.getD []) x1.1).getD (0 : Int)) != x1.2.1))
def slices_IndexFunc___api_Pair_api_Pair__Odd_c1_b1 (k : Nat) (s1 : List yT86) (f1 : (Option yT90 × Unit)) (go1 : Int -> Option Int) (t1 : Int) : Option Int :=
 if decide (t1 < (List.length s1 : Int)) then
  (
   Option.bind (at? s1 t1) fun x1 =>
   Option.bind (corr_Odd_c1 k x1 f1.1) fun v1 =>
   if v1 then
    some (t1)
   else
    go1 (wi64 (t1 + (1 : Int)))
  )
 else
  some ((-1 : Int))
def slices_IndexFunc___api_Pair_api_Pair__Odd_c1_l1 (k : Nat) (s1 : List yT86) (f1 : (Option yT90 × Unit)) : Nat -> Int -> Option Int
 | 0, _ => none
 | n + 1, t1 => slices_IndexFunc___api_Pair_api_Pair__Odd_c1_b1 k s1 f1 (slices_IndexFunc___api_Pair_api_Pair__Odd_c1_l1 k s1 f1 n) t1
def slices_IndexFunc___api_Pair_api_Pair__Odd_c1 (k : Nat) (s1 : List yT86) (f1 : (Option yT90 × Unit)) : Option Int :=
 slices_IndexFunc___api_Pair_api_Pair__Odd_c1_l1 k s1 f1 k (0 : Int)
def slices_ContainsFunc___api_Pair_api_Pair__Odd_c1 (k : Nat) (s1 : List yT86) (f1 : (Option yT90 × Unit)) : Option Bool :=
 Option.bind (slices_IndexFunc___api_Pair_api_Pair__Odd_c1 k s1 f1) fun v1 =>
 some (decide ((0 : Int) <= v1))
def corr_Odd_j1 (go1 : Int -> yT90 -> Option yT91) (t1 : Int) (m2 : List (Int × Int)) : Option yT91 :=
 go1 (wi64 (t1 + (1 : Int))) m2
def corr_Odd_j2 (go2 : Int -> (List (Int)) -> Option yT91) (t2 : Int) (out2 : List (Int)) : Option yT91 :=
 go2 (wi64 (t2 + (1 : Int))) out2
def corr_Odd_b2 (k : Nat) (v1 : yT65) (m1 : List (Int × Int)) (go2 : Int -> (List (Int)) -> Option yT91) (t2 : Int) (out1 : List (Int)) : Option yT91 :=
 if decide (t2 < (List.length v1.1 : Int)) then
  (
   Option.bind (at? v1.1 t2) fun x2 =>
   Option.bind (slices_ContainsFunc___api_Pair_api_Pair__Odd_c1 k x2 (some m1, ())) fun v3 =>
   if v3 then
    (
     Option.bind (chk (List.length out1 + List.length ([t2] : List (Int)) <= lim)) fun _ =>
     corr_Odd_j2 go2 t2 (out1 ++ ([t2] : List (Int)))
    )
   else
    corr_Odd_j2 go2 t2 out1
  )
 else
  some (out1, (0 : Int))
def corr_Odd_l2 (k : Nat) (v1 : yT65) (m1 : List (Int × Int)) : Nat -> Int -> (List (Int)) -> Option yT91
 | 0, _, _ => none
 | n + 1, t2, out1 => corr_Odd_b2 k v1 m1 (corr_Odd_l2 k v1 m1 n) t2 out1
def corr_Odd_b1 (k : Nat) (v2 : List yT69) (v1 : yT65) (go1 : Int -> yT90 -> Option yT91) (t1 : Int) (m1 : List (Int × Int)) : Option yT91 :=
 if decide (t1 < (List.length v2 : Int)) then
  (
   Option.bind (at? v2 t1) fun x1 =>
   if !((mget (eqEl (.int .i32)) m1 x1.1.1).isSome) then
    corr_Odd_j1 go1 t1 (mset (eqEl (.int .i32)) m1 x1.1.1 x1.1.2.1)
   else
    corr_Odd_j1 go1 t1 m1
  )
 else
  corr_Odd_l2 k v1 m1 k (0 : Int) ([] : List (Int))
def corr_Odd_l1 (k : Nat) (v2 : List yT69) (v1 : yT65) : Nat -> Int -> yT90 -> Option yT91
 | 0, _, _ => none
 | n + 1, t1, m1 => corr_Odd_b1 k v2 v1 (corr_Odd_l1 k v2 v1 n) t1 m1
def corr_Odd (k : Nat) (a1 : yT49) (l1 : List yT88) : Option yT91 :=
 Option.bind (corr_aligned k (a1.1, a1.2.1, ()) l1) fun v1 =>
 if v1.2 != (0 : Int) then
  some (([] : List (Int)), v1.2)
 else
  (
   Option.bind (corr_counted k (a1.1, a1.2.1, ()) v1.1) fun v2 =>
   corr_Odd_l1 k v2 v1 k (0 : Int) ([] : List (Int × Int))
  )
def corr_aligned_i2_b1 (k : Nat) (l1 : List yT88) (a1 : yT49) (go1 : Int -> yT70 -> Option yT66) (t2 : Int) (out1 : List yT78) : Option yT66 :=
 if decide (t2 < (List.length l1 : Int)) then
  (
   Option.bind (at? l1 t2) fun x1 =>
   Option.bind (chk (0 <= (0 : Int) /\ (0 : Int) < (2 : Int))) fun _ =>
   Option.bind (at? x1 (0 : Int)) fun x2 =>
   Option.bind (chk (0 <= (1 : Int) /\ (1 : Int) < (2 : Int))) fun _ =>
   Option.bind (at? x1 (1 : Int)) fun x3 =>
   Option.bind (align_Words k (a1.1, a1.2.1, ()) x2 x3) fun v2 =>
   if v2.2.2 != (0 : Int) then
    some (v2.2.2, ([] : List yT78))
   else
    (
     Option.bind (chk (List.length out1 + List.length ([v2.2.1] : List yT78) <= lim)) fun _ =>
     go1 (wi64 (t2 + (1 : Int))) (out1 ++ ([v2.2.1] : List yT78))
    )
  )
 else
  some ((0 : Int), out1)
def corr_aligned_i2_l1 (k : Nat) (l1 : List yT88) (a1 : yT49) : Nat -> Int -> yT70 -> Option yT66
 | 0, _, _ => none
 | n + 1, t2, out1 => corr_aligned_i2_b1 k l1 a1 (corr_aligned_i2_l1 k l1 a1 n) t2 out1
def corr_aligned_i2 (k : Nat) (a1 : yT49) (l1 : List yT88) : Option yT66 :=
 Option.bind (feature_Check k (a1.1, a1.2.1, ())) fun v1 =>
 if v1 != (0 : Int) then
  some (v1, ([] : List yT78))
 else
  (
   if decide ((4096 : Int) < (List.length l1 : Int)) then
    some ((4 : Int), ([] : List yT78))
   else
    corr_aligned_i2_l1 k l1 a1 k (0 : Int) ([] : List yT78)
  )
def corr_counted_i2_b2 (x1 : List yT86) (go1 : Int -> yT88 -> yT73 -> yT71 -> yT70 -> Option yT42) (t2 : Int) (a2 : List (List UInt8)) (a3 : List yT80) (t3 : List yT78) (go2 : Int -> yT71 -> Option yT42) (t4 : Int) (m2 : List yT79) : Option yT42 :=
 if decide (t4 < (List.length x1 : Int)) then
  (
   Option.bind (at? x1 t4) fun x2 =>
   go2 (wi64 (t4 + (1 : Int))) (mset (eqEl yT58) m2 (x2.1, x2.2.1, ()) (wi64 (((mget (eqEl yT58) m2 (x2.1, x2.2.1, ())).getD (0 : Int)) + (1 : Int))))
  )
 else
  go1 (wi64 (t2 + (1 : Int))) a2 a3 m2 t3
def corr_counted_i2_l2 (x1 : List yT86) (go1 : Int -> yT88 -> yT73 -> yT71 -> yT70 -> Option yT42) (t2 : Int) (a2 : List (List UInt8)) (a3 : List yT80) (t3 : List yT78) : Nat -> Int -> yT71 -> Option yT42
 | 0, _, _ => none
 | n + 1, t4, m2 => corr_counted_i2_b2 x1 go1 t2 a2 a3 t3 (corr_counted_i2_l2 x1 go1 t2 a2 a3 t3 n) t4 m2
def corr_counted_i2_b4 (v2 : List yT86) (m1 : List yT79) (t3 : List yT78) (go4 : Int -> yT62 -> Option yT42) (t6 : Int) (out2 : List yT69) : Option yT42 :=
 if decide (t6 < (List.length v2 : Int)) then
  (
   Option.bind (at? v2 t6) fun x4 =>
   Option.bind (chk (List.length out2 + List.length ([((x4.1, x4.2.1, ()), (mget (eqEl yT58) m1 (x4.1, x4.2.1, ())).getD (0 : Int), ())] : List yT69) <= lim)) fun _ =>
   go4 (wi64 (t6 + (1 : Int))) (out2 ++ ([((x4.1, x4.2.1, ()), (mget (eqEl yT58) m1 (x4.1, x4.2.1, ())).getD (0 : Int), ())] : List yT69))
  )
 else
  some (out2, t3)
def corr_counted_i2_l4 (v2 : List yT86) (m1 : List yT79) (t3 : List yT78) : Nat -> Int -> yT62 -> Option yT42
 | 0, _, _ => none
 | n + 1, t6, out2 => corr_counted_i2_b4 v2 m1 t3 (corr_counted_i2_l4 v2 m1 t3 n) t6 out2
def corr_counted_i2_b3 (k : Nat) (a3 : List yT80) (m1 : List yT79) (t3 : List yT78) (go3 : Int -> yT90 -> Option yT42) (t5 : Int) (m3 : List (Int × Int)) : Option yT42 :=
 if decide (t5 < (List.length a3 : Int)) then
  (
   Option.bind (at? a3 t5) fun x3 =>
   go3 (wi64 (t5 + (1 : Int))) (mset (eqEl (.int .i32)) m3 x3.1 (wi64 (t5 + (1 : Int))))
  )
 else
  (
   Option.bind (maps_Keys_map_api_Pair_int_api_Pair_int__i1 k m1) fun v1 =>
   Option.bind (sortedPairs k m1 m3) fun v2 =>
   corr_counted_i2_l4 v2 m1 t3 k (0 : Int) ([] : List yT69)
  )
def corr_counted_i2_l3 (k : Nat) (a3 : List yT80) (m1 : List yT79) (t3 : List yT78) : Nat -> Int -> yT90 -> Option yT42
 | 0, _, _ => none
 | n + 1, t5, m3 => corr_counted_i2_b3 k a3 m1 t3 (corr_counted_i2_l3 k a3 m1 t3 n) t5 m3
def corr_counted_i2_b1 (k : Nat) (l1 : List yT78) (go1 : Int -> yT88 -> yT73 -> yT71 -> yT70 -> Option yT42) (t2 : Int) (a2 : List (List UInt8)) (a3 : List yT80) (m1 : List yT79) (t3 : List yT78) : Option yT42 :=
 if decide (t2 < (List.length l1 : Int)) then
  (
   Option.bind (at? t3 t2) fun x1 =>
   corr_counted_i2_l2 x1 go1 t2 a2 a3 t3 k (0 : Int) m1
  )
 else
  corr_counted_i2_l3 k a3 m1 t3 k (0 : Int) ([] : List (Int × Int))
def corr_counted_i2_l1 (k : Nat) (l1 : List yT78) : Nat -> Int -> yT88 -> yT73 -> yT71 -> yT70 -> Option yT42
 | 0, _, _, _, _, _ => none
 | n + 1, t2, a2, a3, m1, t3 => corr_counted_i2_b1 k l1 (corr_counted_i2_l1 k l1 n) t2 a2 a3 m1 t3
def corr_counted_i2 (k : Nat) (a1 : yT49) (l1 : List yT78) : Option yT42 :=
 corr_counted_i2_l1 k l1 k (0 : Int) a1.1 a1.2.1 ([] : List yT79) l1
def corr_Odd_i2_j1 (go1 : Int -> yT90 -> Option yT93) (t2 : Int) (m2 : List (Int × Int)) : Option yT93 :=
 go1 (wi64 (t2 + (1 : Int))) m2
def corr_Odd_i2_j2 (go2 : Int -> (List (Int)) -> Option yT93) (t3 : Int) (out2 : List (Int)) : Option yT93 :=
 go2 (wi64 (t3 + (1 : Int))) out2
def corr_Odd_i2_b2 (k : Nat) (v2 : yT42) (m1 : List (Int × Int)) (go2 : Int -> (List (Int)) -> Option yT93) (t3 : Int) (out1 : List (Int)) : Option yT93 :=
 if decide (t3 < (List.length v2.2 : Int)) then
  (
   Option.bind (at? v2.2 t3) fun x2 =>
   Option.bind (slices_ContainsFunc___api_Pair_api_Pair__Odd_c1 k x2 (some m1, ())) fun v3 =>
   if v3 then
    (
     Option.bind (chk (List.length out1 + List.length ([t3] : List (Int)) <= lim)) fun _ =>
     corr_Odd_i2_j2 go2 t3 (out1 ++ ([t3] : List (Int)))
    )
   else
    corr_Odd_i2_j2 go2 t3 out1
  )
 else
  some ((0 : Int), out1)
def corr_Odd_i2_l2 (k : Nat) (v2 : yT42) (m1 : List (Int × Int)) : Nat -> Int -> (List (Int)) -> Option yT93
 | 0, _, _ => none
 | n + 1, t3, out1 => corr_Odd_i2_b2 k v2 m1 (corr_Odd_i2_l2 k v2 m1 n) t3 out1
def corr_Odd_i2_b1 (k : Nat) (v2 : yT42) (go1 : Int -> yT90 -> Option yT93) (t2 : Int) (m1 : List (Int × Int)) : Option yT93 :=
 if decide (t2 < (List.length v2.1 : Int)) then
  (
   Option.bind (at? v2.1 t2) fun x1 =>
   if !((mget (eqEl (.int .i32)) m1 x1.1.1).isSome) then
    corr_Odd_i2_j1 go1 t2 (mset (eqEl (.int .i32)) m1 x1.1.1 x1.1.2.1)
   else
    corr_Odd_i2_j1 go1 t2 m1
  )
 else
  corr_Odd_i2_l2 k v2 m1 k (0 : Int) ([] : List (Int))
def corr_Odd_i2_l1 (k : Nat) (v2 : yT42) : Nat -> Int -> yT90 -> Option yT93
 | 0, _, _ => none
 | n + 1, t2, m1 => corr_Odd_i2_b1 k v2 (corr_Odd_i2_l1 k v2 n) t2 m1
def corr_Odd_i2 (k : Nat) (a1 : yT49) (l1 : List yT88) : Option yT93 :=
 Option.bind (corr_aligned_i2 k (a1.1, a1.2.1, ()) l1) fun v1 =>
 if v1.1 != (0 : Int) then
  some (v1.1, ([] : List (Int)))
 else
  (
   Option.bind (corr_counted_i2 k (a1.1, a1.2.1, ()) v1.2) fun v2 =>
   corr_Odd_i2_l1 k v2 k (0 : Int) ([] : List (Int × Int))
  )
def family_named_c1_j3  (t3 : Bool) : Option Bool :=
 some (t3)
def family_named_c1_j2 (r1 : Int) (t2 : Bool) : Option Bool :=
 family_named_c1_j3 (t2 && (r1 != (45 : Int)))
def family_named_c1_j4 (r1 : Int) (t4 : Bool) : Option Bool :=
 family_named_c1_j2 r1 t4
def family_named_c1_j1 (r1 : Int) (t1 : Bool) : Option Bool :=
 if t1 then
  family_named_c1_j4 r1 (decide (r1 < (48 : Int)) || (decide ((57 : Int) < r1)))
 else
  family_named_c1_j2 r1 false
def family_named_c1 (k : Nat) (r1 : Int) : Option Bool :=
 family_named_c1_j1 r1 (decide (r1 < (97 : Int)) || (decide ((122 : Int) < r1)))
def strings_indexFunc_named_c1_b1 (k : Nat) (s1 : List UInt8) (truth1 : Bool) (go1 : Nat -> Option Int) (pos1 : Nat) : Option Int :=
 if decide (pos1 < List.length s1) then
  (
   Option.bind (family_named_c1 k (runeAt s1 pos1)) fun v1 =>
   if v1 == truth1 then
    some ((pos1 : Int))
   else
    go1 (pos1 + widthAt s1 pos1)
  )
 else
  some ((-1 : Int))
def strings_indexFunc_named_c1_l1 (k : Nat) (s1 : List UInt8) (truth1 : Bool) : Nat -> Nat -> Option Int
 | 0, _ => none
 | n + 1, pos1 => strings_indexFunc_named_c1_b1 k s1 truth1 (strings_indexFunc_named_c1_l1 k s1 truth1 n) pos1
def strings_indexFunc_named_c1 (k : Nat) (s1 : List UInt8) (f1 : (Unit)) (truth1 : Bool) : Option Int :=
 strings_indexFunc_named_c1_l1 k s1 truth1 k 0
def strings_IndexFunc_named_c1 (k : Nat) (s1 : List UInt8) (f1 : (Unit)) : Option Int :=
 Option.bind (strings_indexFunc_named_c1 k s1 f1 true) fun v1 =>
 some (v1)
def strings_ContainsFunc_named_c1 (k : Nat) (s1 : List UInt8) (f1 : (Unit)) : Option Bool :=
 Option.bind (strings_IndexFunc_named_c1 k s1 f1) fun v1 =>
 some (decide ((0 : Int) <= v1))
def family_named_j2  (t2 : Bool) : Option Bool :=
 some (t2)
def family_named_j1 (k : Nat) (s1 : List UInt8) (t1 : Bool) : Option Bool :=
 if t1 then
  (
   Option.bind (strings_ContainsFunc_named_c1 k s1 (())) fun v1 =>
   family_named_j2 (!v1)
  )
 else
  family_named_j2 false
def family_named (k : Nat) (s1 : List UInt8) : Option Bool :=
 family_named_j1 k s1 ((!(s1 == ([] : List UInt8))) && (decide ((List.length s1 : Int) <= (32 : Int))))
def family_shaped_j5 (go1 : Int -> yT77 -> Option Bool) (t4 : Int) (m1 : List (List UInt8 × (Unit))) (x1 : yT24) (t6 : Bool) : Option Bool :=
 if t6 then
  some (false)
 else
  go1 (wi64 (t4 + (1 : Int))) (mset (eqEl .str) m1 x1.1 (()))
def family_shaped_j6 (go1 : Int -> yT77 -> Option Bool) (t4 : Int) (m1 : List (List UInt8 × (Unit))) (x1 : yT24) (t7 : Bool) : Option Bool :=
 family_shaped_j5 go1 t4 m1 x1 t7
def family_shaped_j7 (go1 : Int -> yT77 -> Option Bool) (t4 : Int) (m1 : List (List UInt8 × (Unit))) (x1 : yT24) (t8 : Bool) : Option Bool :=
 family_shaped_j6 go1 t4 m1 x1 t8
def family_shaped_j4 (go1 : Int -> yT77 -> Option Bool) (t4 : Int) (m1 : List (List UInt8 × (Unit))) (x1 : yT24) (t5 : Bool) : Option Bool :=
 if t5 then
  family_shaped_j5 go1 t4 m1 x1 true
 else
  (
   if decide ((0 : Int) < t4) then
    family_shaped_j7 go1 t4 m1 x1 (decide (x1.2.1 < (0 : Int)) || (decide (t4 <= x1.2.1)))
   else
    family_shaped_j6 go1 t4 m1 x1 false
  )
def family_shaped_b1 (k : Nat) (l1 : List yT23) (go1 : Int -> yT77 -> Option Bool) (t4 : Int) (m1 : List (List UInt8 × (Unit))) : Option Bool :=
 if decide (t4 < (List.length l1 : Int)) then
  (
   Option.bind (at? l1 t4) fun x1 =>
   if (mget (eqEl .str) m1 x1.1).isSome then
    family_shaped_j4 go1 t4 m1 x1 true
   else
    (
     Option.bind (family_named k x1.1) fun v1 =>
     family_shaped_j4 go1 t4 m1 x1 (!v1)
    )
  )
 else
  some (true)
def family_shaped_l1 (k : Nat) (l1 : List yT23) : Nat -> Int -> yT77 -> Option Bool
 | 0, _, _ => none
 | n + 1, t4, m1 => family_shaped_b1 k l1 (family_shaped_l1 k l1 n) t4 m1
def family_shaped_j3 (k : Nat) (l1 : List yT23) (t3 : Bool) : Option Bool :=
 if t3 then
  some (false)
 else
  family_shaped_l1 k l1 k (0 : Int) ([] : List (List UInt8 × (Unit)))
def family_shaped_j2 (k : Nat) (l1 : List yT23) (t2 : Bool) : Option Bool :=
 if t2 then
  family_shaped_j3 k l1 true
 else
  (
   Option.bind (at? l1 (0 : Int)) fun x2 =>
   family_shaped_j3 k l1 (decide ((0 : Int) < (List.length x2.2.2.1 : Int)))
  )
def family_shaped_j1 (k : Nat) (l1 : List yT23) (t1 : Bool) : Option Bool :=
 if t1 then
  family_shaped_j2 k l1 true
 else
  (
   Option.bind (at? l1 (0 : Int)) fun x3 =>
   family_shaped_j2 k l1 (x3.2.1 != (-1 : Int))
  )
def family_shaped (k : Nat) (l1 : List yT23) : Option Bool :=
 family_shaped_j1 k l1 (((List.length l1 : Int) == (0 : Int)) || (decide ((32 : Int) < (List.length l1 : Int))))
def rule_named_j1  (t1 : Bool) : Option Bool :=
 some (t1)
def rule_named (k : Nat) (s1 : List UInt8) : Option Bool :=
 if decide ((List.length s1 : Int) <= (32 : Int)) then
  (
   Option.bind (strings_Trim k s1 ([97, 98, 99, 100, 101, 102, 103, 104, 105, 106, 107, 108, 109, 110, 111, 112, 113, 114, 115, 116, 117, 118, 119, 120, 121, 122, 48, 49, 50, 51, 52, 53, 54, 55, 56, 57, 45] : List UInt8)) fun v1 =>
   rule_named_j1 (v1 == ([] : List UInt8))
  )
 else
  rule_named_j1 false
def rule_letter (k : Nat) (a1 : yT49) (r1 : Int) : Option Bool :=
 Option.bind (feature_Of k (a1.1, a1.2.1, ()) r1) fun v1 =>
 some (v1.2 == (0 : Int))
def strings_Builder_WriteString_i1 (k : Nat) (s1 : List UInt8) (l1 : List (Int)) : Option (Option (Option (Nat × Int)) × Int × List (Int)) :=
 Option.bind (bld_copyCheck k l1) fun v1 =>
 Option.bind (chk (List.length l1 + List.length (bytesEl s1) <= lim)) fun _ =>
 some ((none : Option (Option (Nat × Int))), (List.length s1 : Int), l1 ++ (bytesEl s1))
def feature_Text_j1 (go1 : Int -> (List (Int)) -> Option yT94) (t1 : Int) (t3 : List (Int)) : Option yT94 :=
 go1 (wi64 (t1 + (1 : Int))) t3
def feature_Text_b1 (k : Nat) (a1 : yT49) (plus1 : Int) (minus1 : Int) (go1 : Int -> (List (Int)) -> Option yT94) (t1 : Int) (t2 : List (Int)) : Option yT94 :=
 if decide (t1 < (List.length a1.1 : Int)) then
  (
   Option.bind (at? a1.1 t1) fun x1 =>
   Option.bind (chk (0 <= t1)) fun _ =>
   if (wu32 (BitVec.toNat (BitVec.ofInt 32 (Int.fdiv plus1 (2 ^ min (t1).toNat 32)) &&& BitVec.ofInt 32 (1 : Int)))) == (1 : Int) then
    (
     Option.bind (chk (List.length ([43] : List UInt8) + List.length x1 <= lim)) fun _ =>
     Option.bind (strings_Builder_WriteString_i1 k (([43] : List UInt8) ++ x1) t2) fun v3 =>
     feature_Text_j1 go1 t1 v3.2.2
    )
   else
    (
     Option.bind (chk (0 <= t1)) fun _ =>
     if (wu32 (BitVec.toNat (BitVec.ofInt 32 (Int.fdiv minus1 (2 ^ min (t1).toNat 32)) &&& BitVec.ofInt 32 (1 : Int)))) == (1 : Int) then
      (
       Option.bind (chk (List.length ([45] : List UInt8) + List.length x1 <= lim)) fun _ =>
       Option.bind (strings_Builder_WriteString_i1 k (([45] : List UInt8) ++ x1) t2) fun v4 =>
       feature_Text_j1 go1 t1 v4.2.2
      )
     else
      feature_Text_j1 go1 t1 t2
    )
  )
 else
  (
   Option.bind (bld_String k t2) fun v5 =>
   some (v5, (0 : Int))
  )
def feature_Text_l1 (k : Nat) (a1 : yT49) (plus1 : Int) (minus1 : Int) : Nat -> Int -> (List (Int)) -> Option yT94
 | 0, _, _ => none
 | n + 1, t1, t2 => feature_Text_b1 k a1 plus1 minus1 (feature_Text_l1 k a1 plus1 minus1 n) t1 t2
def feature_Text (k : Nat) (a1 : yT49) (plus1 : Int) (minus1 : Int) : Option yT94 :=
 Option.bind (feature_Check k (a1.1, a1.2.1, ())) fun v1 =>
 if v1 != (0 : Int) then
  some (([] : List UInt8), v1)
 else
  (
   Option.bind (feature_within k (a1.1, a1.2.1, ()) plus1 minus1) fun v2 =>
   if !v2 then
    some (([] : List UInt8), (20 : Int))
   else
    feature_Text_l1 k a1 plus1 minus1 k (0 : Int) ([] : List (Int))
  )
def rule_class (k : Nat) (a1 : yT49) (plus1 : Int) (minus1 : Int) : Option Bool :=
 Option.bind (feature_Text k (a1.1, a1.2.1, ()) plus1 minus1) fun v1 =>
 some (v1.2 == (0 : Int))
def rule_either_j1  (t1 : Bool) : Option Bool :=
 some (t1)
def rule_either (k : Nat) (a1 : yT49) (r1 : Int) (plus1 : Int) (minus1 : Int) : Option Bool :=
 if r1 != (0 : Int) then
  (
   Option.bind (rule_letter k (a1.1, a1.2.1, ()) r1) fun v1 =>
   rule_either_j1 (v1 && ((wu32 (BitVec.toNat (BitVec.ofInt 32 plus1 ||| BitVec.ofInt 32 minus1))) == (0 : Int)))
  )
 else
  (
   Option.bind (rule_class k (a1.1, a1.2.1, ()) plus1 minus1) fun v2 =>
   some (v2)
  )
def rule_swap_j2 (k : Nat) (a1 : yT49) (s1 : yT76) (t2 : Bool) : Option Bool :=
 if t2 then
  some (false)
 else
  (
   Option.bind (rule_either k (a1.1, a1.2.1, ()) s1.1 s1.2.2.1 s1.2.2.2.1) fun v1 =>
   some (v1)
  )
def rule_swap_j3 (k : Nat) (a1 : yT49) (s1 : yT76) (t3 : Bool) : Option Bool :=
 rule_swap_j2 k a1 s1 t3
def rule_swap_j4 (k : Nat) (a1 : yT49) (s1 : yT76) (t4 : Bool) : Option Bool :=
 rule_swap_j3 k a1 s1 t4
def rule_swap_j1 (k : Nat) (a1 : yT49) (s1 : yT76) (slots1 : Int) (t1 : Bool) : Option Bool :=
 if t1 then
  rule_swap_j2 k a1 s1 true
 else
  (
   if s1.1 == (0 : Int) then
    rule_swap_j4 k a1 s1 (decide (s1.2.1 < (0 : Int)) || (decide (slots1 <= s1.2.1)))
   else
    rule_swap_j3 k a1 s1 false
  )
def rule_swap (k : Nat) (a1 : yT49) (s1 : yT76) (slots1 : Int) : Option Bool :=
 rule_swap_j1 k a1 s1 slots1 ((s1.1 != (0 : Int)) && (s1.2.1 != (0 : Int)))
def slices_Index___bool_bool__b1 (s1 : List (Bool)) (v1 : Bool) (go1 : Int -> Option Int) (t1 : Int) : Option Int :=
 if decide (t1 < (List.length s1 : Int)) then
  (
   Option.bind (at? s1 t1) fun x1 =>
   if v1 == x1 then
    some (t1)
   else
    go1 (wi64 (t1 + (1 : Int)))
  )
 else
  some ((-1 : Int))
def slices_Index___bool_bool__l1 (s1 : List (Bool)) (v1 : Bool) : Nat -> Int -> Option Int
 | 0, _ => none
 | n + 1, t1 => slices_Index___bool_bool__b1 s1 v1 (slices_Index___bool_bool__l1 s1 v1 n) t1
def slices_Index___bool_bool_ (k : Nat) (s1 : List (Bool)) (v1 : Bool) : Option Int :=
 slices_Index___bool_bool__l1 s1 v1 k (0 : Int)
def slices_Contains___bool_bool_ (k : Nat) (s1 : List (Bool)) (v1 : Bool) : Option Bool :=
 Option.bind (slices_Index___bool_bool_ k s1 v1) fun v2 =>
 some (decide ((0 : Int) <= v2))
def pattern_tree_j6 (t7 : List (Bool)) (x2 : Int) (go2 : Int -> (List (Bool)) -> Option Bool) (t6 : Int) (t9 : Bool) : Option Bool :=
 if t9 then
  some (false)
 else
  (
   Option.bind (at? t7 x2) fun x3 =>
   go2 (wi64 (t6 + (1 : Int))) (List.set t7 (x2).toNat true)
  )
def pattern_tree_j5 (t7 : List (Bool)) (x2 : Int) (go2 : Int -> (List (Bool)) -> Option Bool) (t6 : Int) (t8 : Bool) : Option Bool :=
 if t8 then
  pattern_tree_j6 t7 x2 go2 t6 true
 else
  (
   Option.bind (at? t7 x2) fun x4 =>
   pattern_tree_j6 t7 x2 go2 t6 x4
  )
def pattern_tree_b2 (x1 : yT61) (t2 : Int) (p1 : yT50) (go1 : Int -> (List (Bool)) -> Option Bool) (go2 : Int -> (List (Bool)) -> Option Bool) (t6 : Int) (t7 : List (Bool)) : Option Bool :=
 if decide (t6 < (List.length x1.2.2.2.2.1 : Int)) then
  (
   Option.bind (at? x1.2.2.2.2.1 t6) fun x2 =>
   pattern_tree_j5 t7 x2 go2 t6 (decide (x2 <= t2) || (decide ((List.length p1.1 : Int) <= x2)))
  )
 else
  go1 (wi64 (t2 + (1 : Int))) t7
def pattern_tree_l2 (x1 : yT61) (t2 : Int) (p1 : yT50) (go1 : Int -> (List (Bool)) -> Option Bool) : Nat -> Int -> (List (Bool)) -> Option Bool
 | 0, _, _ => none
 | n + 1, t6, t7 => pattern_tree_b2 x1 t2 p1 go1 (pattern_tree_l2 x1 t2 p1 go1 n) t6 t7
def pattern_tree_j4 (k : Nat) (x1 : yT61) (t2 : Int) (p1 : yT50) (go1 : Int -> (List (Bool)) -> Option Bool) (t3 : List (Bool)) (t5 : Bool) : Option Bool :=
 if t5 then
  some (false)
 else
  pattern_tree_l2 x1 t2 p1 go1 k (0 : Int) t3
def pattern_tree_j7 (k : Nat) (x1 : yT61) (t2 : Int) (p1 : yT50) (go1 : Int -> (List (Bool)) -> Option Bool) (t3 : List (Bool)) (t10 : Bool) : Option Bool :=
 pattern_tree_j4 k x1 t2 p1 go1 t3 t10
def pattern_tree_j3 (k : Nat) (x1 : yT61) (t2 : Int) (p1 : yT50) (go1 : Int -> (List (Bool)) -> Option Bool) (t3 : List (Bool)) (t4 : Bool) : Option Bool :=
 if t4 then
  pattern_tree_j4 k x1 t2 p1 go1 t3 true
 else
  pattern_tree_j7 k x1 t2 p1 go1 t3 (((wu32 (BitVec.toNat (BitVec.ofInt 32 x1.2.2.1 ||| BitVec.ofInt 32 x1.2.2.2.1))) != (0 : Int)) && (x1.1 != (3 : Int)))
def pattern_tree_j2 (k : Nat) (x1 : yT61) (t2 : Int) (p1 : yT50) (go1 : Int -> (List (Bool)) -> Option Bool) (t3 : List (Bool)) : Option Bool :=
 pattern_tree_j3 k x1 t2 p1 go1 t3 ((x1.2.1 != (0 : Int)) && (x1.1 != (2 : Int)))
def pattern_tree_j10 (k : Nat) (x1 : yT61) (t2 : Int) (p1 : yT50) (go1 : Int -> (List (Bool)) -> Option Bool) (t3 : List (Bool)) (t13 : Bool) : Option Bool :=
 if t13 then
  (
   if (List.length x1.2.2.2.2.1 : Int) != (0 : Int) then
    some (false)
   else
    pattern_tree_j2 k x1 t2 p1 go1 t3
  )
 else
  some (false)
def pattern_tree_j9 (k : Nat) (x1 : yT61) (t2 : Int) (p1 : yT50) (go1 : Int -> (List (Bool)) -> Option Bool) (t3 : List (Bool)) (t12 : Bool) : Option Bool :=
 if t12 then
  (
   if (List.length x1.2.2.2.2.1 : Int) != (1 : Int) then
    some (false)
   else
    pattern_tree_j2 k x1 t2 p1 go1 t3
  )
 else
  (
   if x1.1 == (1 : Int) then
    pattern_tree_j10 k x1 t2 p1 go1 t3 (x1.1 == (1 : Int))
   else
    (
     if x1.1 == (2 : Int) then
      pattern_tree_j10 k x1 t2 p1 go1 t3 (x1.1 == (2 : Int))
     else
      (
       if x1.1 == (3 : Int) then
        pattern_tree_j10 k x1 t2 p1 go1 t3 (x1.1 == (3 : Int))
       else
        (
         if x1.1 == (4 : Int) then
          pattern_tree_j10 k x1 t2 p1 go1 t3 (x1.1 == (4 : Int))
         else
          pattern_tree_j10 k x1 t2 p1 go1 t3 (x1.1 == (5 : Int))
        )
      )
    )
  )
def pattern_tree_j8 (k : Nat) (x1 : yT61) (t2 : Int) (p1 : yT50) (go1 : Int -> (List (Bool)) -> Option Bool) (t3 : List (Bool)) (t11 : Bool) : Option Bool :=
 if t11 then
  pattern_tree_j2 k x1 t2 p1 go1 t3
 else
  (
   if x1.1 == (8 : Int) then
    pattern_tree_j9 k x1 t2 p1 go1 t3 (x1.1 == (8 : Int))
   else
    pattern_tree_j9 k x1 t2 p1 go1 t3 (x1.1 == (9 : Int))
  )
def pattern_tree_b1 (k : Nat) (p1 : yT50) (go1 : Int -> (List (Bool)) -> Option Bool) (t2 : Int) (t3 : List (Bool)) : Option Bool :=
 if decide (t2 < (List.length p1.1 : Int)) then
  (
   Option.bind (at? p1.1 t2) fun x1 =>
   if x1.1 == (6 : Int) then
    pattern_tree_j8 k x1 t2 p1 go1 t3 (x1.1 == (6 : Int))
   else
    pattern_tree_j8 k x1 t2 p1 go1 t3 (x1.1 == (7 : Int))
  )
 else
  (
   Option.bind (sub? t3 (1 : Int) (t3.length : Int)) fun s1 =>
   Option.bind (slices_Contains___bool_bool_ k s1 false) fun v1 =>
   some (!v1)
  )
def pattern_tree_l1 (k : Nat) (p1 : yT50) : Nat -> Int -> (List (Bool)) -> Option Bool
 | 0, _, _ => none
 | n + 1, t2, t3 => pattern_tree_b1 k p1 (pattern_tree_l1 k p1 n) t2 t3
def pattern_tree_j1 (k : Nat) (p1 : yT50) (t1 : Bool) : Option Bool :=
 if t1 then
  some (false)
 else
  (
   Option.bind (chk (0 <= (List.length p1.1 : Int) /\ (List.length p1.1 : Int) <= (List.length p1.1 : Int) /\ (List.length p1.1 : Int) <= (lim : Int))) fun _ =>
   pattern_tree_l1 k p1 k (0 : Int) (List.replicate ((List.length p1.1 : Int)).toNat false)
  )
def pattern_tree (k : Nat) (p1 : yT50) : Option Bool :=
 pattern_tree_j1 k p1 (decide ((List.length p1.1 : Int) < (1 : Int)) || (decide ((256 : Int) < (List.length p1.1 : Int))))
def pattern_Check_j1 (go1 : Int -> Option Int) (t1 : Int) : Option Int :=
 go1 (wi64 (t1 + (1 : Int)))
def pattern_Check_b1 (k : Nat) (p1 : yT50) (a1 : yT49) (go1 : Int -> Option Int) (t1 : Int) : Option Int :=
 if decide (t1 < (List.length p1.1 : Int)) then
  (
   Option.bind (at? p1.1 t1) fun x1 =>
   if x1.1 == (2 : Int) then
    (
     Option.bind (feature_Of k (a1.1, a1.2.1, ()) x1.2.1) fun v3 =>
     if v3.2 != (0 : Int) then
      some ((40 : Int))
     else
      pattern_Check_j1 go1 t1
    )
   else
    (
     if x1.1 == (3 : Int) then
      (
       Option.bind (feature_Text k (a1.1, a1.2.1, ()) x1.2.2.1 x1.2.2.2.1) fun v4 =>
       if v4.2 != (0 : Int) then
        some ((40 : Int))
       else
        pattern_Check_j1 go1 t1
      )
     else
      pattern_Check_j1 go1 t1
    )
  )
 else
  some ((0 : Int))
def pattern_Check_l1 (k : Nat) (p1 : yT50) (a1 : yT49) : Nat -> Int -> Option Int
 | 0, _ => none
 | n + 1, t1 => pattern_Check_b1 k p1 a1 (pattern_Check_l1 k p1 a1 n) t1
def pattern_Check (k : Nat) (a1 : yT49) (p1 : yT50) : Option Int :=
 Option.bind (feature_Check k (a1.1, a1.2.1, ())) fun v1 =>
 if v1 != (0 : Int) then
  some (v1)
 else
  (
   Option.bind (pattern_tree k (p1.1, ())) fun v2 =>
   if !v2 then
    some ((40 : Int))
   else
    pattern_Check_l1 k p1 a1 k (0 : Int)
  )
def rule_Check_j6  (t8 : Bool) : Option Int :=
 if t8 then
  some ((70 : Int))
 else
  some ((0 : Int))
def rule_Check_b2 (k : Nat) (r1 : yT26) (a1 : yT49) (go2 : Int -> Option Int) (t7 : Int) : Option Int :=
 if decide (t7 < (List.length r1.2.2.1 : Int)) then
  (
   Option.bind (at? r1.2.2.1 t7) fun x2 =>
   Option.bind (rule_swap k (a1.1, a1.2.1, ()) (x2.1, x2.2.1, x2.2.2.1, x2.2.2.2.1, ()) (List.length r1.2.1 : Int)) fun v4 =>
   if !v4 then
    some ((70 : Int))
   else
    go2 (wi64 (t7 + (1 : Int)))
  )
 else
  (
   Option.bind (pattern_Check k (a1.1, a1.2.1, ()) (r1.2.2.2.1.1, ())) fun v5 =>
   if v5 != (0 : Int) then
    rule_Check_j6 true
   else
    (
     Option.bind (pattern_Check k (a1.1, a1.2.1, ()) (r1.2.2.2.2.1.1, ())) fun v6 =>
     rule_Check_j6 (v6 != (0 : Int))
    )
  )
def rule_Check_l2 (k : Nat) (r1 : yT26) (a1 : yT49) : Nat -> Int -> Option Int
 | 0, _ => none
 | n + 1, t7 => rule_Check_b2 k r1 a1 (rule_Check_l2 k r1 a1 n) t7
def rule_Check_b1 (k : Nat) (r1 : yT26) (a1 : yT49) (go1 : Int -> Option Int) (t6 : Int) : Option Int :=
 if decide (t6 < (List.length r1.2.1 : Int)) then
  (
   Option.bind (at? r1.2.1 t6) fun x1 =>
   Option.bind (rule_either k (a1.1, a1.2.1, ()) x1.1 x1.2.1 x1.2.2.1) fun v3 =>
   if !v3 then
    some ((70 : Int))
   else
    go1 (wi64 (t6 + (1 : Int)))
  )
 else
  rule_Check_l2 k r1 a1 k (0 : Int)
def rule_Check_l1 (k : Nat) (r1 : yT26) (a1 : yT49) : Nat -> Int -> Option Int
 | 0, _ => none
 | n + 1, t6 => rule_Check_b1 k r1 a1 (rule_Check_l1 k r1 a1 n) t6
def rule_Check_j5 (k : Nat) (r1 : yT26) (a1 : yT49) (t5 : Bool) : Option Int :=
 if t5 then
  some ((70 : Int))
 else
  rule_Check_l1 k r1 a1 k (0 : Int)
def rule_Check_j4 (k : Nat) (r1 : yT26) (a1 : yT49) (t4 : Bool) : Option Int :=
 rule_Check_j5 k r1 a1 (t4 || ((wi64 ((List.length r1.2.1 : Int) + (List.length r1.2.2.1 : Int))) == (0 : Int)))
def rule_Check_j3 (k : Nat) (r1 : yT26) (a1 : yT49) (t3 : Bool) : Option Int :=
 rule_Check_j4 k r1 a1 (t3 || (decide ((8 : Int) < (List.length r1.2.2.1 : Int))))
def rule_Check_j2 (k : Nat) (r1 : yT26) (a1 : yT49) (t2 : Bool) : Option Int :=
 rule_Check_j3 k r1 a1 (t2 || (decide ((8 : Int) < (List.length r1.2.1 : Int))))
def rule_Check_j1 (k : Nat) (r1 : yT26) (a1 : yT49) (t1 : Bool) : Option Int :=
 rule_Check_j2 k r1 a1 (t1 || (decide ((3 : Int) < r1.2.2.2.2.2.1)))
def rule_Check (k : Nat) (a1 : yT49) (r1 : yT26) : Option Int :=
 Option.bind (feature_Check k (a1.1, a1.2.1, ())) fun v1 =>
 if v1 != (0 : Int) then
  some (v1)
 else
  (
   Option.bind (rule_named k r1.1) fun v2 =>
   rule_Check_j1 k r1 a1 ((!v2) || (decide (r1.2.2.2.2.2.1 < (1 : Int))))
  )
def law_Check_b1 (k : Nat) (l1 : List yT25) (a1 : yT49) (go1 : Int -> Option Int) (t1 : Int) : Option Int :=
 if decide (t1 < (List.length l1 : Int)) then
  (
   Option.bind (at? l1 t1) fun x1 =>
   Option.bind (rule_Check k (a1.1, a1.2.1, ()) (x1.1, x1.2.1, x1.2.2.1, (x1.2.2.2.1.1, ()), (x1.2.2.2.2.1.1, ()), x1.2.2.2.2.2.1, x1.2.2.2.2.2.2.1, ())) fun v2 =>
   if v2 != (0 : Int) then
    some (v2)
   else
    go1 (wi64 (t1 + (1 : Int)))
  )
 else
  some ((0 : Int))
def law_Check_l1 (k : Nat) (l1 : List yT25) (a1 : yT49) : Nat -> Int -> Option Int
 | 0, _ => none
 | n + 1, t1 => law_Check_b1 k l1 a1 (law_Check_l1 k l1 a1 n) t1
def law_Check (k : Nat) (a1 : yT49) (l1 : List yT25) : Option Int :=
 Option.bind (feature_Check k (a1.1, a1.2.1, ())) fun v1 =>
 if v1 != (0 : Int) then
  some (v1)
 else
  (
   if decide ((64 : Int) < (List.length l1 : Int)) then
    some ((4 : Int))
   else
    law_Check_l1 k l1 a1 k (0 : Int)
  )
def family_Check_b1 (k : Nat) (f1 : yT9) (go1 : Int -> Option Int) (t1 : Int) : Option Int :=
 if decide (t1 < (List.length f1.2.1 : Int)) then
  (
   Option.bind (at? f1.2.1 t1) fun x1 =>
   Option.bind (law_Check k (f1.1.1, f1.1.2.1, ()) x1.2.2.1) fun v3 =>
   if v3 != (0 : Int) then
    some (v3)
   else
    go1 (wi64 (t1 + (1 : Int)))
  )
 else
  some ((0 : Int))
def family_Check_l1 (k : Nat) (f1 : yT9) : Nat -> Int -> Option Int
 | 0, _ => none
 | n + 1, t1 => family_Check_b1 k f1 (family_Check_l1 k f1 n) t1
def family_Check (k : Nat) (f1 : yT9) : Option Int :=
 Option.bind (feature_Check k (f1.1.1, f1.1.2.1, ())) fun v1 =>
 if v1 != (0 : Int) then
  some (v1)
 else
  (
   Option.bind (family_shaped k f1.2.1) fun v2 =>
   if !v2 then
    some ((270 : Int))
   else
    family_Check_l1 k f1 k (0 : Int)
  )
def family_asked_j1 (go1 : Int -> Option Int) (t1 : Int) (t2 : Bool) : Option Int :=
 if t2 then
  some ((8 : Int))
 else
  go1 (wi64 (t1 + (1 : Int)))
def family_asked_b1 (tongues1 : List (Int)) (f1 : yT9) (go1 : Int -> Option Int) (t1 : Int) : Option Int :=
 if decide (t1 < (List.length tongues1 : Int)) then
  (
   Option.bind (at? tongues1 t1) fun x1 =>
   family_asked_j1 go1 t1 (decide (x1 < (0 : Int)) || (decide ((List.length f1.2.1 : Int) <= x1)))
  )
 else
  some ((0 : Int))
def family_asked_l1 (tongues1 : List (Int)) (f1 : yT9) : Nat -> Int -> Option Int
 | 0, _ => none
 | n + 1, t1 => family_asked_b1 tongues1 f1 (family_asked_l1 tongues1 f1 n) t1
def family_asked (k : Nat) (f1 : yT9) (tongues1 : List (Int)) : Option Int :=
 Option.bind (family_Check k ((f1.1.1, f1.1.2.1, ()), f1.2.1, ())) fun v1 =>
 if v1 != (0 : Int) then
  some (v1)
 else
  family_asked_l1 tongues1 f1 k (0 : Int)
def word_Check (k : Nat) (a1 : yT49) (w1 : List UInt8) : Option Int :=
 Option.bind (word_Letters k (a1.1, a1.2.1, ()) w1) fun v1 =>
 some (v1.2)
def family_path_b1 (f1 : yT9) (go1 : Int -> (List (Int)) -> Option (List (Int))) (tongue2 : Int) (out1 : List (Int)) : Option (List (Int)) :=
 if decide ((0 : Int) <= tongue2) then
  (
   Option.bind (chk (List.length out1 + List.length ([tongue2] : List (Int)) <= lim)) fun _ =>
   Option.bind (at? f1.2.1 tongue2) fun x1 =>
   go1 x1.2.1 (out1 ++ ([tongue2] : List (Int)))
  )
 else
  some (List.reverse out1)
def family_path_l1 (f1 : yT9) : Nat -> Int -> (List (Int)) -> Option (List (Int))
 | 0, _, _ => none
 | n + 1, tongue2, out1 => family_path_b1 f1 (family_path_l1 f1 n) tongue2 out1
def family_path (k : Nat) (f1 : yT9) (tongue1 : Int) : Option (List (Int)) :=
 family_path_l1 f1 k tongue1 ([] : List (Int))
def law_nothing (k : Nat) (a1 : yT49) : Option yT26 :=
 Option.bind (at? a1.2.1 (0 : Int)) fun x1 =>
 some ((([] : List UInt8), ([(x1.1, (0 : Int), (0 : Int), ())] : List yT80), ([(x1.1, (0 : Int), (0 : Int), (0 : Int), ())] : List yT75), (([((7 : Int), (0 : Int), (0 : Int), (0 : Int), ([] : List (Int)), ())] : List yT59), ()), (([((7 : Int), (0 : Int), (0 : Int), (0 : Int), ([] : List (Int)), ())] : List yT59), ()), (1 : Int), false, ()))
def rule_letters_j1 (k : Nat) (a1 : yT49) (v1 : (Int × Int)) (out1 : List (Int)) (w2 : List UInt8) (go1 : (List UInt8) -> (List (Int)) -> Option yT91) (t1 : Bool) : Option yT91 :=
 if t1 then
  some (([] : List (Int)), (6 : Int))
 else
  (
   Option.bind (rule_letter k (a1.1, a1.2.1, ()) v1.1) fun v2 =>
   if !v2 then
    some (([] : List (Int)), (5 : Int))
   else
    (
     if (List.length out1 : Int) == (256 : Int) then
      some (([] : List (Int)), (4 : Int))
     else
      (
       Option.bind (chk (List.length out1 + List.length ([v1.1] : List (Int)) <= lim)) fun _ =>
       Option.bind (sub? w2 v1.2 (w2.length : Int)) fun s1 =>
       go1 s1 (out1 ++ ([v1.1] : List (Int)))
      )
    )
  )
def rule_letters_b1 (k : Nat) (a1 : yT49) (go1 : (List UInt8) -> (List (Int)) -> Option yT91) (w2 : List UInt8) (out1 : List (Int)) : Option yT91 :=
 if !(w2 == ([] : List UInt8)) then
  (
   Option.bind (utf8_DecodeRuneInString k w2) fun v1 =>
   rule_letters_j1 k a1 v1 out1 w2 go1 ((v1.1 == (65533 : Int)) && (v1.2 == (1 : Int)))
  )
 else
  some (out1, (0 : Int))
def rule_letters_l1 (k : Nat) (a1 : yT49) : Nat -> (List UInt8) -> (List (Int)) -> Option yT91
 | 0, _, _ => none
 | n + 1, w2, out1 => rule_letters_b1 k a1 (rule_letters_l1 k a1 n) w2 out1
def rule_letters (k : Nat) (a1 : yT49) (w1 : List UInt8) : Option yT91 :=
 rule_letters_l1 k a1 k w1 ([] : List (Int))
def feature_like_j1  (t1 : Bool) : Option Bool :=
 some (t1)
def feature_like (k : Nat) (l1 : yT84) (plus1 : Int) (minus1 : Int) : Option Bool :=
 feature_like_j1 (((wu32 (BitVec.toNat (BitVec.ofInt 32 plus1 &&& ~~~BitVec.ofInt 32 l1.2.1))) == (0 : Int)) && ((wu32 (BitVec.toNat (BitVec.ofInt 32 minus1 &&& ~~~BitVec.ofInt 32 l1.2.2.1))) == (0 : Int)))
def feature_Class_j1 (go1 : Int -> (List (Int)) -> Option yT91) (t1 : Int) (out2 : List (Int)) : Option yT91 :=
 go1 (wi64 (t1 + (1 : Int))) out2
def feature_Class_b1 (k : Nat) (a1 : yT49) (plus1 : Int) (minus1 : Int) (go1 : Int -> (List (Int)) -> Option yT91) (t1 : Int) (out1 : List (Int)) : Option yT91 :=
 if decide (t1 < (List.length a1.2.1 : Int)) then
  (
   Option.bind (at? a1.2.1 t1) fun x1 =>
   Option.bind (feature_like k (x1.1, x1.2.1, x1.2.2.1, ()) plus1 minus1) fun v3 =>
   if v3 then
    (
     Option.bind (chk (List.length out1 + List.length ([x1.1] : List (Int)) <= lim)) fun _ =>
     feature_Class_j1 go1 t1 (out1 ++ ([x1.1] : List (Int)))
    )
   else
    feature_Class_j1 go1 t1 out1
  )
 else
  some (out1, (0 : Int))
def feature_Class_l1 (k : Nat) (a1 : yT49) (plus1 : Int) (minus1 : Int) : Nat -> Int -> (List (Int)) -> Option yT91
 | 0, _, _ => none
 | n + 1, t1, out1 => feature_Class_b1 k a1 plus1 minus1 (feature_Class_l1 k a1 plus1 minus1 n) t1 out1
def feature_Class (k : Nat) (a1 : yT49) (plus1 : Int) (minus1 : Int) : Option yT91 :=
 Option.bind (feature_Check k (a1.1, a1.2.1, ())) fun v1 =>
 if v1 != (0 : Int) then
  some (([] : List (Int)), v1)
 else
  (
   Option.bind (feature_within k (a1.1, a1.2.1, ()) plus1 minus1) fun v2 =>
   if !v2 then
    some (([] : List (Int)), (20 : Int))
   else
    feature_Class_l1 k a1 plus1 minus1 k (0 : Int) ([] : List (Int))
  )
def rule_ready_c1_i1_b1 (v1 : yT91) (m1 : List yT63) (plus1 : Int) (minus1 : Int) (go1 : Int -> (List (Int × Bool)) -> Option yT55) (t1 : Int) (m3 : List (Int × Bool)) : Option yT55 :=
 if decide (t1 < (List.length v1.1 : Int)) then
  (
   Option.bind (at? v1.1 t1) fun x1 =>
   go1 (wi64 (t1 + (1 : Int))) (mset (eqEl (.int .i32)) m3 x1 true)
  )
 else
  some (mset (eqEl yT87) m1 ([plus1, minus1] : List (Int)) (some m3))
def rule_ready_c1_i1_l1 (v1 : yT91) (m1 : List yT63) (plus1 : Int) (minus1 : Int) : Nat -> Int -> (List (Int × Bool)) -> Option yT55
 | 0, _, _ => none
 | n + 1, t1, m3 => rule_ready_c1_i1_b1 v1 m1 plus1 minus1 (rule_ready_c1_i1_l1 v1 m1 plus1 minus1 n) t1 m3
def rule_ready_c1_i1 (k : Nat) (plus1 : Int) (minus1 : Int) (c1 : List (List UInt8)) (c2 : List yT80) (c3 : List UInt8) (c4 : List yT80) (c5 : List yT75) (c6 : List yT59) (c7 : List yT59) (c8 : Int) (c9 : Bool) (m1 : List yT63) : Option yT55 :=
 Option.bind (feature_Class k (c1, c2, ()) plus1 minus1) fun v1 =>
 rule_ready_c1_i1_l1 v1 m1 plus1 minus1 k (0 : Int) ([] : List (Int × Bool))
def rule_ready_i1_b3 (k : Nat) (x2 : yT50) (a4 : List (List UInt8)) (a5 : List yT80) (t10 : List UInt8) (t11 : List yT80) (t12 : List yT75) (t13 : List yT59) (t14 : List yT59) (t15 : Int) (t16 : Bool) (go2 : Int -> yT88 -> yT73 -> yT55 -> (List UInt8) -> yT73 -> yT68 -> yT52 -> yT52 -> Int -> Bool -> yT45 -> Option yT20) (t9 : Int) (t17 : List yT48) (go3 : Int -> yT55 -> Option yT20) (t18 : Int) (m4 : List yT63) : Option yT20 :=
 if decide (t18 < (List.length x2.1 : Int)) then
  (
   Option.bind (at? x2.1 t18) fun x3 =>
   Option.bind (rule_ready_c1_i1 k x3.2.2.1 x3.2.2.2.1 a4 a5 t10 t11 t12 t13 t14 t15 t16 m4) fun v2 =>
   go3 (wi64 (t18 + (1 : Int))) v2
  )
 else
  go2 (wi64 (t9 + (1 : Int))) a4 a5 m4 t10 t11 t12 t13 t14 t15 t16 t17
def rule_ready_i1_l3 (k : Nat) (x2 : yT50) (a4 : List (List UInt8)) (a5 : List yT80) (t10 : List UInt8) (t11 : List yT80) (t12 : List yT75) (t13 : List yT59) (t14 : List yT59) (t15 : Int) (t16 : Bool) (go2 : Int -> yT88 -> yT73 -> yT55 -> (List UInt8) -> yT73 -> yT68 -> yT52 -> yT52 -> Int -> Bool -> yT45 -> Option yT20) (t9 : Int) (t17 : List yT48) : Nat -> Int -> yT55 -> Option yT20
 | 0, _, _ => none
 | n + 1, t18, m4 => rule_ready_i1_b3 k x2 a4 a5 t10 t11 t12 t13 t14 t15 t16 go2 t9 t17 (rule_ready_i1_l3 k x2 a4 a5 t10 t11 t12 t13 t14 t15 t16 go2 t9 t17 n) t18 m4
def rule_ready_i1_b2 (k : Nat) (r1 : yT26) (go2 : Int -> yT88 -> yT73 -> yT55 -> (List UInt8) -> yT73 -> yT68 -> yT52 -> yT52 -> Int -> Bool -> yT45 -> Option yT20) (t9 : Int) (a4 : List (List UInt8)) (a5 : List yT80) (m3 : List yT63) (t10 : List UInt8) (t11 : List yT80) (t12 : List yT75) (t13 : List yT59) (t14 : List yT59) (t15 : Int) (t16 : Bool) (t17 : List yT48) : Option yT20 :=
 if decide (t9 < (List.length ([(r1.2.2.2.1.1, ()), (r1.2.2.2.2.1.1, ())] : List yT48) : Int)) then
  (
   Option.bind (at? t17 t9) fun x2 =>
   rule_ready_i1_l3 k x2 a4 a5 t10 t11 t12 t13 t14 t15 t16 go2 t9 t17 k (0 : Int) m3
  )
 else
  some (a4, a5, m3, t10, t11, t12, t13, t14, t15, t16)
def rule_ready_i1_l2 (k : Nat) (r1 : yT26) : Nat -> Int -> yT88 -> yT73 -> yT55 -> (List UInt8) -> yT73 -> yT68 -> yT52 -> yT52 -> Int -> Bool -> yT45 -> Option yT20
 | 0, _, _, _, _, _, _, _, _, _, _, _, _ => none
 | n + 1, t9, a4, a5, m3, t10, t11, t12, t13, t14, t15, t16, t17 => rule_ready_i1_b2 k r1 (rule_ready_i1_l2 k r1 n) t9 a4 a5 m3 t10 t11 t12 t13 t14 t15 t16 t17
def rule_ready_i1_b1 (k : Nat) (r1 : yT26) (a1 : yT49) (go1 : Int -> yT55 -> Option yT20) (t8 : Int) (m2 : List yT63) : Option yT20 :=
 if decide (t8 < (List.length r1.2.1 : Int)) then
  (
   Option.bind (at? r1.2.1 t8) fun x1 =>
   Option.bind (rule_ready_c1_i1 k x1.2.1 x1.2.2.1 a1.1 a1.2.1 r1.1 r1.2.1 r1.2.2.1 r1.2.2.2.1.1 r1.2.2.2.2.1.1 r1.2.2.2.2.2.1 r1.2.2.2.2.2.2.1 m2) fun v1 =>
   go1 (wi64 (t8 + (1 : Int))) v1
  )
 else
  rule_ready_i1_l2 k r1 k (0 : Int) a1.1 a1.2.1 m2 r1.1 r1.2.1 r1.2.2.1 r1.2.2.2.1.1 r1.2.2.2.2.1.1 r1.2.2.2.2.2.1 r1.2.2.2.2.2.2.1 ([(r1.2.2.2.1.1, ()), (r1.2.2.2.2.1.1, ())] : List yT48)
def rule_ready_i1_l1 (k : Nat) (r1 : yT26) (a1 : yT49) : Nat -> Int -> yT55 -> Option yT20
 | 0, _, _ => none
 | n + 1, t8, m2 => rule_ready_i1_b1 k r1 a1 (rule_ready_i1_l1 k r1 a1 n) t8 m2
def rule_ready_i1 (k : Nat) (a1 : yT49) (r1 : yT26) : Option yT20 :=
 rule_ready_i1_l1 k r1 a1 k (0 : Int) ([] : List yT63)
def rule_maker_is_i1 (k : Nat) (x1 : Int) (r1 : Int) (plus1 : Int) (minus1 : Int) (c1 : List UInt8) (c2 : List yT80) (c3 : List yT75) (c4 : List yT59) (c5 : List yT59) (c6 : Int) (c7 : Bool) (m1 : List yT63) (c8 : List (List UInt8)) (c9 : List yT80) : Option Bool :=
 if r1 != (0 : Int) then
  some (x1 == r1)
 else
  some ((mget (eqEl (.int .i32)) (((mget (eqEl yT87) m1 ([plus1, minus1] : List (Int))).getD (none : Option (List (Int × Bool)))).getD []) x1).getD false)
def rule_maker_ends_c1_i2_j1  (t14 : List yT59) (t15 : List (Int)) (t16 : List UInt8) (t17 : List yT80) (t18 : List yT75) (t19 : List yT59) (t20 : List yT59) (t21 : Int) (t22 : Bool) (m3 : List yT63) (t23 : List (List UInt8)) (t24 : List yT80) (t25 : List (Bool)) (t26 : List (Bool)) : Option yT5 :=
 some (t14, t15, t16, t17, t18, t19, t20, t21, t22, m3, t23, t24, t25, t26)
def rule_maker_ends_c1_i2_j3 (t29 : List (Bool)) (t28 : Int) (go1 : Int -> (List (Bool)) -> Option yT5) (t30 : Bool) : Option yT5 :=
 Option.bind (at? t29 (wi64 (t28 + (1 : Int)))) fun x4 =>
 go1 (wi64 (t28 + (1 : Int))) (List.set t29 (wi64 (t28 + (1 : Int))).toNat t30)
def rule_maker_ends_c1_i2_j4 (t29 : List (Bool)) (t28 : Int) (go1 : Int -> (List (Bool)) -> Option yT5) (t31 : Bool) : Option yT5 :=
 rule_maker_ends_c1_i2_j3 t29 t28 go1 t31
def rule_maker_ends_c1_i2_b1 (k : Nat) (c2 : List (Int)) (l1 : List (Bool)) (x1 : yT61) (c3 : List UInt8) (c4 : List yT80) (c5 : List yT75) (c6 : List yT59) (c7 : List yT59) (c8 : Int) (c9 : Bool) (m1 : List yT63) (c10 : List (List UInt8)) (c11 : List yT80) (c1 : List yT59) (go1 : Int -> (List (Bool)) -> Option yT5) (t28 : Int) (t29 : List (Bool)) : Option yT5 :=
 if decide (t28 < (List.length c2 : Int)) then
  (
   Option.bind (at? c2 t28) fun x2 =>
   Option.bind (at? l1 t28) fun x3 =>
   if x3 then
    (
     if x1.1 == (4 : Int) then
      rule_maker_ends_c1_i2_j4 t29 t28 go1 true
     else
      (
       Option.bind (rule_maker_is_i1 k x2 x1.2.1 x1.2.2.1 x1.2.2.2.1 c3 c4 c5 c6 c7 c8 c9 m1 c10 c11) fun v1 =>
       rule_maker_ends_c1_i2_j4 t29 t28 go1 v1
      )
    )
   else
    rule_maker_ends_c1_i2_j3 t29 t28 go1 false
  )
 else
  rule_maker_ends_c1_i2_j1 c1 c2 c3 c4 c5 c6 c7 c8 c9 m1 c10 c11 t29 l1
def rule_maker_ends_c1_i2_l1 (k : Nat) (c2 : List (Int)) (l1 : List (Bool)) (x1 : yT61) (c3 : List UInt8) (c4 : List yT80) (c5 : List yT75) (c6 : List yT59) (c7 : List yT59) (c8 : Int) (c9 : Bool) (m1 : List yT63) (c10 : List (List UInt8)) (c11 : List yT80) (c1 : List yT59) : Nat -> Int -> (List (Bool)) -> Option yT5
 | 0, _, _ => none
 | n + 1, t28, t29 => rule_maker_ends_c1_i2_b1 k c2 l1 x1 c3 c4 c5 c6 c7 c8 c9 m1 c10 c11 c1 (rule_maker_ends_c1_i2_l1 k c2 l1 x1 c3 c4 c5 c6 c7 c8 c9 m1 c10 c11 c1 n) t28 t29
def rule_maker_ends_c1_i2_b2 (x1 : yT61) (rec1 : Int -> yT52 -> (List (Int)) -> (List UInt8) -> yT73 -> yT68 -> yT52 -> yT52 -> Int -> Bool -> yT55 -> yT88 -> yT73 -> (List (Bool)) -> Option yT5) (l1 : List (Bool)) (go2 : Int -> yT52 -> (List (Int)) -> (List UInt8) -> yT73 -> yT68 -> yT52 -> yT52 -> Int -> Bool -> yT55 -> yT88 -> yT73 -> (List (Bool)) -> Option yT5) (t32 : Int) (t33 : List yT59) (t34 : List (Int)) (t35 : List UInt8) (t36 : List yT80) (t37 : List yT75) (t38 : List yT59) (t39 : List yT59) (t40 : Int) (t41 : Bool) (m4 : List yT63) (t42 : List (List UInt8)) (t43 : List yT80) (t44 : List (Bool)) : Option yT5 :=
 if decide (t32 < (List.length x1.2.2.2.2.1 : Int)) then
  (
   Option.bind (at? x1.2.2.2.2.1 t32) fun x9 =>
   Option.bind (rec1 x9 t33 t34 t35 t36 t37 t38 t39 t40 t41 m4 t42 t43 t44) fun v2 =>
   go2 (wi64 (t32 + (1 : Int))) v2.1 v2.2.1 v2.2.2.1 v2.2.2.2.1 v2.2.2.2.2.1 v2.2.2.2.2.2.1 v2.2.2.2.2.2.2.1 v2.2.2.2.2.2.2.2.1 v2.2.2.2.2.2.2.2.2.1 v2.2.2.2.2.2.2.2.2.2.1 v2.2.2.2.2.2.2.2.2.2.2.1 v2.2.2.2.2.2.2.2.2.2.2.2.1 v2.2.2.2.2.2.2.2.2.2.2.2.2.1
  )
 else
  rule_maker_ends_c1_i2_j1 t33 t34 t35 t36 t37 t38 t39 t40 t41 m4 t42 t43 t44 l1
def rule_maker_ends_c1_i2_l2 (x1 : yT61) (rec1 : Int -> yT52 -> (List (Int)) -> (List UInt8) -> yT73 -> yT68 -> yT52 -> yT52 -> Int -> Bool -> yT55 -> yT88 -> yT73 -> (List (Bool)) -> Option yT5) (l1 : List (Bool)) : Nat -> Int -> yT52 -> (List (Int)) -> (List UInt8) -> yT73 -> yT68 -> yT52 -> yT52 -> Int -> Bool -> yT55 -> yT88 -> yT73 -> (List (Bool)) -> Option yT5
 | 0, _, _, _, _, _, _, _, _, _, _, _, _, _, _ => none
 | n + 1, t32, t33, t34, t35, t36, t37, t38, t39, t40, t41, m4, t42, t43, t44 => rule_maker_ends_c1_i2_b2 x1 rec1 l1 (rule_maker_ends_c1_i2_l2 x1 rec1 l1 n) t32 t33 t34 t35 t36 t37 t38 t39 t40 t41 m4 t42 t43 t44
def rule_maker_ends_c1_i2_j5 (t60 : List (Bool)) (t59 : Int) (go4 : Int -> (List (Bool)) -> Option yT5) (t61 : Bool) : Option yT5 :=
 Option.bind (at? t60 t59) fun x13 =>
 go4 (wi64 (t59 + (1 : Int))) (List.set t60 (t59).toNat t61)
def rule_maker_ends_c1_i2_b4 (v3 : yT5) (go3 : Int -> yT52 -> (List (Int)) -> (List UInt8) -> yT73 -> yT68 -> yT52 -> yT52 -> Int -> Bool -> yT55 -> yT88 -> yT73 -> (List (Bool)) -> (List (Bool)) -> Option yT5) (t45 : Int) (go4 : Int -> (List (Bool)) -> Option yT5) (t59 : Int) (t60 : List (Bool)) : Option yT5 :=
 if decide (t59 < (List.length v3.2.2.2.2.2.2.2.2.2.2.2.2.1 : Int)) then
  (
   Option.bind (at? v3.2.2.2.2.2.2.2.2.2.2.2.2.1 t59) fun x11 =>
   Option.bind (at? t60 t59) fun x12 =>
   rule_maker_ends_c1_i2_j5 t60 t59 go4 (x12 || x11)
  )
 else
  go3 (wi64 (t45 + (1 : Int))) v3.1 v3.2.1 v3.2.2.1 v3.2.2.2.1 v3.2.2.2.2.1 v3.2.2.2.2.2.1 v3.2.2.2.2.2.2.1 v3.2.2.2.2.2.2.2.1 v3.2.2.2.2.2.2.2.2.1 v3.2.2.2.2.2.2.2.2.2.1 v3.2.2.2.2.2.2.2.2.2.2.1 v3.2.2.2.2.2.2.2.2.2.2.2.1 t60 v3.2.2.2.2.2.2.2.2.2.2.2.2.2
def rule_maker_ends_c1_i2_l4 (v3 : yT5) (go3 : Int -> yT52 -> (List (Int)) -> (List UInt8) -> yT73 -> yT68 -> yT52 -> yT52 -> Int -> Bool -> yT55 -> yT88 -> yT73 -> (List (Bool)) -> (List (Bool)) -> Option yT5) (t45 : Int) : Nat -> Int -> (List (Bool)) -> Option yT5
 | 0, _, _ => none
 | n + 1, t59, t60 => rule_maker_ends_c1_i2_b4 v3 go3 t45 (rule_maker_ends_c1_i2_l4 v3 go3 t45 n) t59 t60
def rule_maker_ends_c1_i2_b3 (k : Nat) (x1 : yT61) (rec1 : Int -> yT52 -> (List (Int)) -> (List UInt8) -> yT73 -> yT68 -> yT52 -> yT52 -> Int -> Bool -> yT55 -> yT88 -> yT73 -> (List (Bool)) -> Option yT5) (go3 : Int -> yT52 -> (List (Int)) -> (List UInt8) -> yT73 -> yT68 -> yT52 -> yT52 -> Int -> Bool -> yT55 -> yT88 -> yT73 -> (List (Bool)) -> (List (Bool)) -> Option yT5) (t45 : Int) (t46 : List yT59) (t47 : List (Int)) (t48 : List UInt8) (t49 : List yT80) (t50 : List yT75) (t51 : List yT59) (t52 : List yT59) (t53 : Int) (t54 : Bool) (m5 : List yT63) (t55 : List (List UInt8)) (t56 : List yT80) (t57 : List (Bool)) (t58 : List (Bool)) : Option yT5 :=
 if decide (t45 < (List.length x1.2.2.2.2.1 : Int)) then
  (
   Option.bind (at? x1.2.2.2.2.1 t45) fun x10 =>
   Option.bind (rec1 x10 t46 t47 t48 t49 t50 t51 t52 t53 t54 m5 t55 t56 t58) fun v3 =>
   rule_maker_ends_c1_i2_l4 v3 go3 t45 k (0 : Int) t57
  )
 else
  rule_maker_ends_c1_i2_j1 t46 t47 t48 t49 t50 t51 t52 t53 t54 m5 t55 t56 t57 t58
def rule_maker_ends_c1_i2_l3 (k : Nat) (x1 : yT61) (rec1 : Int -> yT52 -> (List (Int)) -> (List UInt8) -> yT73 -> yT68 -> yT52 -> yT52 -> Int -> Bool -> yT55 -> yT88 -> yT73 -> (List (Bool)) -> Option yT5) : Nat -> Int -> yT52 -> (List (Int)) -> (List UInt8) -> yT73 -> yT68 -> yT52 -> yT52 -> Int -> Bool -> yT55 -> yT88 -> yT73 -> (List (Bool)) -> (List (Bool)) -> Option yT5
 | 0, _, _, _, _, _, _, _, _, _, _, _, _, _, _, _ => none
 | n + 1, t45, t46, t47, t48, t49, t50, t51, t52, t53, t54, m5, t55, t56, t57, t58 => rule_maker_ends_c1_i2_b3 k x1 rec1 (rule_maker_ends_c1_i2_l3 k x1 rec1 n) t45 t46 t47 t48 t49 t50 t51 t52 t53 t54 m5 t55 t56 t57 t58
def rule_maker_ends_c1_i2_j6 (t63 : List (Bool)) (t62 : Int) (go5 : Int -> (List (Bool)) -> Option yT5) (t64 : Bool) : Option yT5 :=
 Option.bind (at? t63 t62) fun x17 =>
 go5 (wi64 (t62 + (1 : Int))) (List.set t63 (t62).toNat t64)
def rule_maker_ends_c1_i2_b5 (v4 : yT5) (go5 : Int -> (List (Bool)) -> Option yT5) (t62 : Int) (t63 : List (Bool)) : Option yT5 :=
 if decide (t62 < (List.length v4.2.2.2.2.2.2.2.2.2.2.2.2.2 : Int)) then
  (
   Option.bind (at? v4.2.2.2.2.2.2.2.2.2.2.2.2.2 t62) fun x15 =>
   Option.bind (at? t63 t62) fun x16 =>
   rule_maker_ends_c1_i2_j6 t63 t62 go5 (x16 || x15)
  )
 else
  rule_maker_ends_c1_i2_j1 v4.1 v4.2.1 v4.2.2.1 v4.2.2.2.1 v4.2.2.2.2.1 v4.2.2.2.2.2.1 v4.2.2.2.2.2.2.1 v4.2.2.2.2.2.2.2.1 v4.2.2.2.2.2.2.2.2.1 v4.2.2.2.2.2.2.2.2.2.1 v4.2.2.2.2.2.2.2.2.2.2.1 v4.2.2.2.2.2.2.2.2.2.2.2.1 t63 v4.2.2.2.2.2.2.2.2.2.2.2.2.2
def rule_maker_ends_c1_i2_l5 (v4 : yT5) : Nat -> Int -> (List (Bool)) -> Option yT5
 | 0, _, _ => none
 | n + 1, t62, t63 => rule_maker_ends_c1_i2_b5 v4 (rule_maker_ends_c1_i2_l5 v4 n) t62 t63
def rule_maker_ends_c1_i2_j7 (go7 : Bool -> Int -> (List (Bool)) -> Option yT5) (t78 : Int) (more2 : Bool) (t80 : List (Bool)) : Option yT5 :=
 go7 more2 (wi64 (t78 + (1 : Int))) t80
def rule_maker_ends_c1_i2_j8 (t79 : List (Bool)) (t78 : Int) (go7 : Bool -> Int -> (List (Bool)) -> Option yT5) (more1 : Bool) (t81 : Bool) : Option yT5 :=
 if t81 then
  (
   Option.bind (at? t79 t78) fun x20 =>
   rule_maker_ends_c1_i2_j7 go7 t78 true (List.set t79 (t78).toNat true)
  )
 else
  rule_maker_ends_c1_i2_j7 go7 t78 more1 t79
def rule_maker_ends_c1_i2_b7 (v5 : yT5) (t77 : List (Bool)) (go6 : Int -> Int -> Int -> Int -> (List (Int)) -> yT52 -> (List (Int)) -> (List UInt8) -> yT73 -> yT68 -> yT52 -> yT52 -> Int -> Bool -> yT55 -> yT88 -> yT73 -> (List (Bool)) -> (List (Bool)) -> Option yT5) (n1 : Int) (n2 : Int) (n3 : Int) (n4 : Int) (n5 : List (Int)) (go7 : Bool -> Int -> (List (Bool)) -> Option yT5) (more1 : Bool) (t78 : Int) (t79 : List (Bool)) : Option yT5 :=
 if decide (t78 < (List.length v5.2.2.2.2.2.2.2.2.2.2.2.2.1 : Int)) then
  (
   Option.bind (at? v5.2.2.2.2.2.2.2.2.2.2.2.2.1 t78) fun x19 =>
   if x19 then
    (
     Option.bind (at? t79 t78) fun x21 =>
     rule_maker_ends_c1_i2_j8 t79 t78 go7 more1 (!x21)
    )
   else
    rule_maker_ends_c1_i2_j8 t79 t78 go7 more1 false
  )
 else
  (
   if !more1 then
    rule_maker_ends_c1_i2_j1 v5.1 v5.2.1 v5.2.2.1 v5.2.2.2.1 v5.2.2.2.2.1 v5.2.2.2.2.2.1 v5.2.2.2.2.2.2.1 v5.2.2.2.2.2.2.2.1 v5.2.2.2.2.2.2.2.2.1 v5.2.2.2.2.2.2.2.2.2.1 v5.2.2.2.2.2.2.2.2.2.2.1 v5.2.2.2.2.2.2.2.2.2.2.2.1 t79 t77
   else
    go6 n1 n2 n3 n4 n5 v5.1 v5.2.1 v5.2.2.1 v5.2.2.2.1 v5.2.2.2.2.1 v5.2.2.2.2.2.1 v5.2.2.2.2.2.2.1 v5.2.2.2.2.2.2.2.1 v5.2.2.2.2.2.2.2.2.1 v5.2.2.2.2.2.2.2.2.2.1 v5.2.2.2.2.2.2.2.2.2.2.1 v5.2.2.2.2.2.2.2.2.2.2.2.1 t79 t77
  )
def rule_maker_ends_c1_i2_l7 (v5 : yT5) (t77 : List (Bool)) (go6 : Int -> Int -> Int -> Int -> (List (Int)) -> yT52 -> (List (Int)) -> (List UInt8) -> yT73 -> yT68 -> yT52 -> yT52 -> Int -> Bool -> yT55 -> yT88 -> yT73 -> (List (Bool)) -> (List (Bool)) -> Option yT5) (n1 : Int) (n2 : Int) (n3 : Int) (n4 : Int) (n5 : List (Int)) : Nat -> Bool -> Int -> (List (Bool)) -> Option yT5
 | 0, _, _, _ => none
 | n + 1, more1, t78, t79 => rule_maker_ends_c1_i2_b7 v5 t77 go6 n1 n2 n3 n4 n5 (rule_maker_ends_c1_i2_l7 v5 t77 go6 n1 n2 n3 n4 n5 n) more1 t78 t79
def rule_maker_ends_c1_i2_b6 (k : Nat) (rec1 : Int -> yT52 -> (List (Int)) -> (List UInt8) -> yT73 -> yT68 -> yT52 -> yT52 -> Int -> Bool -> yT55 -> yT88 -> yT73 -> (List (Bool)) -> Option yT5) (go6 : Int -> Int -> Int -> Int -> (List (Int)) -> yT52 -> (List (Int)) -> (List UInt8) -> yT73 -> yT68 -> yT52 -> yT52 -> Int -> Bool -> yT55 -> yT88 -> yT73 -> (List (Bool)) -> (List (Bool)) -> Option yT5) (n1 : Int) (n2 : Int) (n3 : Int) (n4 : Int) (n5 : List (Int)) (t65 : List yT59) (t66 : List (Int)) (t67 : List UInt8) (t68 : List yT80) (t69 : List yT75) (t70 : List yT59) (t71 : List yT59) (t72 : Int) (t73 : Bool) (m6 : List yT63) (t74 : List (List UInt8)) (t75 : List yT80) (t76 : List (Bool)) (t77 : List (Bool)) : Option yT5 :=
 Option.bind (at? n5 (0 : Int)) fun x18 =>
 Option.bind (rec1 x18 t65 t66 t67 t68 t69 t70 t71 t72 t73 m6 t74 t75 t76) fun v5 =>
 rule_maker_ends_c1_i2_l7 v5 t77 go6 n1 n2 n3 n4 n5 k false (0 : Int) v5.2.2.2.2.2.2.2.2.2.2.2.2.2
def rule_maker_ends_c1_i2_l6 (k : Nat) (rec1 : Int -> yT52 -> (List (Int)) -> (List UInt8) -> yT73 -> yT68 -> yT52 -> yT52 -> Int -> Bool -> yT55 -> yT88 -> yT73 -> (List (Bool)) -> Option yT5) : Nat -> Int -> Int -> Int -> Int -> (List (Int)) -> yT52 -> (List (Int)) -> (List UInt8) -> yT73 -> yT68 -> yT52 -> yT52 -> Int -> Bool -> yT55 -> yT88 -> yT73 -> (List (Bool)) -> (List (Bool)) -> Option yT5
 | 0, _, _, _, _, _, _, _, _, _, _, _, _, _, _, _, _, _, _, _ => none
 | n + 1, n1, n2, n3, n4, n5, t65, t66, t67, t68, t69, t70, t71, t72, t73, m6, t74, t75, t76, t77 => rule_maker_ends_c1_i2_b6 k rec1 (rule_maker_ends_c1_i2_l6 k rec1 n) n1 n2 n3 n4 n5 t65 t66 t67 t68 t69 t70 t71 t72 t73 m6 t74 t75 t76 t77
def rule_maker_ends_c1_i2_j2 (k : Nat) (c2 : List (Int)) (l1 : List (Bool)) (x1 : yT61) (c3 : List UInt8) (c4 : List yT80) (c5 : List yT75) (c6 : List yT59) (c7 : List yT59) (c8 : Int) (c9 : Bool) (m1 : List yT63) (c10 : List (List UInt8)) (c11 : List yT80) (c1 : List yT59) (rec1 : Int -> yT52 -> (List (Int)) -> (List UInt8) -> yT73 -> yT68 -> yT52 -> yT52 -> Int -> Bool -> yT55 -> yT88 -> yT73 -> (List (Bool)) -> Option yT5) (t27 : Bool) : Option yT5 :=
 if t27 then
  rule_maker_ends_c1_i2_l1 k c2 l1 x1 c3 c4 c5 c6 c7 c8 c9 m1 c10 c11 c1 k (0 : Int) (List.replicate (wi64 ((List.length c2 : Int) + (1 : Int))).toNat false)
 else
  (
   if x1.1 == (5 : Int) then
    (
     Option.bind (at? l1 (0 : Int)) fun x5 =>
     Option.bind (at? (List.replicate (wi64 ((List.length c2 : Int) + (1 : Int))).toNat false) (0 : Int)) fun x6 =>
     Option.bind (at? l1 (List.length c2 : Int)) fun x7 =>
     Option.bind (at? (List.set (List.replicate (wi64 ((List.length c2 : Int) + (1 : Int))).toNat false) ((0 : Int)).toNat x5) (List.length c2 : Int)) fun x8 =>
     rule_maker_ends_c1_i2_j1 c1 c2 c3 c4 c5 c6 c7 c8 c9 m1 c10 c11 (List.set (List.set (List.replicate (wi64 ((List.length c2 : Int) + (1 : Int))).toNat false) ((0 : Int)).toNat x5) ((List.length c2 : Int)).toNat x7) l1
    )
   else
    (
     if x1.1 == (6 : Int) then
      (
       Option.bind (chk (List.length l1 <= List.length (List.replicate (wi64 ((List.length c2 : Int) + (1 : Int))).toNat false))) fun _ =>
       rule_maker_ends_c1_i2_l2 x1 rec1 l1 k (0 : Int) c1 c2 c3 c4 c5 c6 c7 c8 c9 m1 c10 c11 (l1 ++ List.drop (List.length l1) (List.replicate (wi64 ((List.length c2 : Int) + (1 : Int))).toNat false))
      )
     else
      (
       if x1.1 == (7 : Int) then
        rule_maker_ends_c1_i2_l3 k x1 rec1 k (0 : Int) c1 c2 c3 c4 c5 c6 c7 c8 c9 m1 c10 c11 (List.replicate (wi64 ((List.length c2 : Int) + (1 : Int))).toNat false) l1
       else
        (
         if x1.1 == (9 : Int) then
          (
           Option.bind (at? x1.2.2.2.2.1 (0 : Int)) fun x14 =>
           Option.bind (rec1 x14 c1 c2 c3 c4 c5 c6 c7 c8 c9 m1 c10 c11 l1) fun v4 =>
           Option.bind (chk (List.length v4.2.2.2.2.2.2.2.2.2.2.2.2.1 <= List.length (List.replicate (wi64 ((List.length c2 : Int) + (1 : Int))).toNat false))) fun _ =>
           rule_maker_ends_c1_i2_l5 v4 k (0 : Int) (v4.2.2.2.2.2.2.2.2.2.2.2.2.1 ++ List.drop (List.length v4.2.2.2.2.2.2.2.2.2.2.2.2.1) (List.replicate (wi64 ((List.length c2 : Int) + (1 : Int))).toNat false))
          )
         else
          (
           if x1.1 == (8 : Int) then
            (
             Option.bind (chk (List.length l1 <= List.length (List.replicate (wi64 ((List.length c2 : Int) + (1 : Int))).toNat false))) fun _ =>
             rule_maker_ends_c1_i2_l6 k rec1 k x1.1 x1.2.1 x1.2.2.1 x1.2.2.2.1 x1.2.2.2.2.1 c1 c2 c3 c4 c5 c6 c7 c8 c9 m1 c10 c11 (l1 ++ List.drop (List.length l1) (List.replicate (wi64 ((List.length c2 : Int) + (1 : Int))).toNat false)) l1
            )
           else
            rule_maker_ends_c1_i2_j1 c1 c2 c3 c4 c5 c6 c7 c8 c9 m1 c10 c11 (List.replicate (wi64 ((List.length c2 : Int) + (1 : Int))).toNat false) l1
          )
        )
      )
    )
  )
def rule_maker_ends_c1_i2 : Nat -> Int -> yT52 -> (List (Int)) -> (List UInt8) -> yT73 -> yT68 -> yT52 -> yT52 -> Int -> Bool -> yT55 -> yT88 -> yT73 -> (List (Bool)) -> Option yT5
 | 0, _, _, _, _, _, _, _, _, _, _, _, _, _, _ => none
 | k + 1, at1, c1, c2, c3, c4, c5, c6, c7, c8, c9, m1, c10, c11, l1 =>
  Option.bind (at? c1 at1) fun x1 =>
  Option.bind (chk (0 <= (wi64 ((List.length c2 : Int) + (1 : Int))) /\ (wi64 ((List.length c2 : Int) + (1 : Int))) <= (wi64 ((List.length c2 : Int) + (1 : Int))) /\ (wi64 ((List.length c2 : Int) + (1 : Int))) <= (lim : Int))) fun _ =>
  if x1.1 == (1 : Int) then
   (
    Option.bind (chk (List.length l1 <= List.length (List.replicate (wi64 ((List.length c2 : Int) + (1 : Int))).toNat false))) fun _ =>
    rule_maker_ends_c1_i2_j1 c1 c2 c3 c4 c5 c6 c7 c8 c9 m1 c10 c11 (l1 ++ List.drop (List.length l1) (List.replicate (wi64 ((List.length c2 : Int) + (1 : Int))).toNat false)) l1
   )
  else
   (
    if x1.1 == (2 : Int) then
     rule_maker_ends_c1_i2_j2 k c2 l1 x1 c3 c4 c5 c6 c7 c8 c9 m1 c10 c11 c1 (rule_maker_ends_c1_i2 k) (x1.1 == (2 : Int))
    else
     (
      if x1.1 == (3 : Int) then
       rule_maker_ends_c1_i2_j2 k c2 l1 x1 c3 c4 c5 c6 c7 c8 c9 m1 c10 c11 c1 (rule_maker_ends_c1_i2 k) (x1.1 == (3 : Int))
      else
       rule_maker_ends_c1_i2_j2 k c2 l1 x1 c3 c4 c5 c6 c7 c8 c9 m1 c10 c11 c1 (rule_maker_ends_c1_i2 k) (x1.1 == (4 : Int))
     )
   )
def rule_maker_ends_i2 (k : Nat) (p1 : yT50) (l1 : List (Int)) (c1 : List UInt8) (c2 : List yT80) (c3 : List yT75) (c4 : List yT59) (c5 : List yT59) (c6 : Int) (c7 : Bool) (m1 : List yT63) (c8 : List (List UInt8)) (c9 : List yT80) (l2 : List (Bool)) : Option yT11 :=
 Option.bind (rule_maker_ends_c1_i2 k (0 : Int) p1.1 l1 c1 c2 c3 c4 c5 c6 c7 m1 c8 c9 l2) fun v1 =>
 some (v1.2.2.1, v1.2.2.2.1, v1.2.2.2.2.1, v1.2.2.2.2.2.1, v1.2.2.2.2.2.2.1, v1.2.2.2.2.2.2.2.1, v1.2.2.2.2.2.2.2.2.1, v1.2.2.2.2.2.2.2.2.2.1, v1.2.2.2.2.2.2.2.2.2.2.1, v1.2.2.2.2.2.2.2.2.2.2.2.1, v1.2.2.2.2.2.2.2.2.2.2.2.2.1, v1.2.2.2.2.2.2.2.2.2.2.2.2.2)
def rule_maker_lies_i1_b2 (k : Nat) (l1 : List (Int)) (c4 : List yT59) (c1 : List UInt8) (c2 : List yT80) (c3 : List yT75) (c5 : List yT59) (c6 : Int) (c7 : Bool) (m1 : List yT63) (c8 : List (List UInt8)) (c9 : List yT80) (at1 : Int) (go2 : Int -> (List (Bool)) -> Option yT19) (t11 : Int) (t12 : List (Bool)) : Option yT19 :=
 if decide (t11 < (List.length (List.replicate (wi64 ((List.length l1 : Int) + (1 : Int))).toNat false) : Int)) then
  (
   Option.bind (at? t12 t11) fun x3 =>
   go2 (wi64 (t11 + (1 : Int))) (List.set t12 (t11).toNat true)
  )
 else
  (
   Option.bind (rule_maker_ends_i2 k (c4, ()) l1 c1 c2 c3 c4 c5 c6 c7 m1 c8 c9 t12) fun v2 =>
   Option.bind (at? v2.2.2.2.2.2.2.2.2.2.2.1 at1) fun x4 =>
   if !x4 then
    some (false, v2.1, v2.2.1, v2.2.2.1, v2.2.2.2.1, v2.2.2.2.2.1, v2.2.2.2.2.2.1, v2.2.2.2.2.2.2.1, v2.2.2.2.2.2.2.2.1, v2.2.2.2.2.2.2.2.2.1, v2.2.2.2.2.2.2.2.2.2.1)
   else
    (
     Option.bind (at? (List.replicate (List.length v2.2.2.2.2.2.2.2.2.2.2.2) false) (wi64 (at1 + (List.length c2 : Int)))) fun x5 =>
     Option.bind (rule_maker_ends_i2 k (v2.2.2.2.2.1, ()) l1 v2.1 v2.2.1 v2.2.2.1 v2.2.2.2.1 v2.2.2.2.2.1 v2.2.2.2.2.2.1 v2.2.2.2.2.2.2.1 v2.2.2.2.2.2.2.2.1 v2.2.2.2.2.2.2.2.2.1 v2.2.2.2.2.2.2.2.2.2.1 (List.set (List.replicate (List.length v2.2.2.2.2.2.2.2.2.2.2.2) false) (wi64 (at1 + (List.length c2 : Int))).toNat true)) fun v3 =>
     Option.bind (slices_Contains___bool_bool_ k v3.2.2.2.2.2.2.2.2.2.2.1 true) fun v4 =>
     some (v4, v3.1, v3.2.1, v3.2.2.1, v3.2.2.2.1, v3.2.2.2.2.1, v3.2.2.2.2.2.1, v3.2.2.2.2.2.2.1, v3.2.2.2.2.2.2.2.1, v3.2.2.2.2.2.2.2.2.1, v3.2.2.2.2.2.2.2.2.2.1)
    )
  )
def rule_maker_lies_i1_l2 (k : Nat) (l1 : List (Int)) (c4 : List yT59) (c1 : List UInt8) (c2 : List yT80) (c3 : List yT75) (c5 : List yT59) (c6 : Int) (c7 : Bool) (m1 : List yT63) (c8 : List (List UInt8)) (c9 : List yT80) (at1 : Int) : Nat -> Int -> (List (Bool)) -> Option yT19
 | 0, _, _ => none
 | n + 1, t11, t12 => rule_maker_lies_i1_b2 k l1 c4 c1 c2 c3 c5 c6 c7 m1 c8 c9 at1 (rule_maker_lies_i1_l2 k l1 c4 c1 c2 c3 c5 c6 c7 m1 c8 c9 at1 n) t11 t12
def rule_maker_lies_i1_b1 (k : Nat) (c2 : List yT80) (l1 : List (Int)) (at1 : Int) (c1 : List UInt8) (c3 : List yT75) (c4 : List yT59) (c5 : List yT59) (c6 : Int) (c7 : Bool) (m1 : List yT63) (c8 : List (List UInt8)) (c9 : List yT80) (go1 : Int -> Option yT19) (t10 : Int) : Option yT19 :=
 if decide (t10 < (List.length c2 : Int)) then
  (
   Option.bind (at? c2 t10) fun x1 =>
   Option.bind (at? l1 (wi64 (at1 + t10))) fun x2 =>
   Option.bind (rule_maker_is_i1 k x2 x1.1 x1.2.1 x1.2.2.1 c1 c2 c3 c4 c5 c6 c7 m1 c8 c9) fun v1 =>
   if !v1 then
    some (false, c1, c2, c3, c4, c5, c6, c7, m1, c8, c9)
   else
    go1 (wi64 (t10 + (1 : Int)))
  )
 else
  (
   Option.bind (chk (0 <= (wi64 ((List.length l1 : Int) + (1 : Int))) /\ (wi64 ((List.length l1 : Int) + (1 : Int))) <= (wi64 ((List.length l1 : Int) + (1 : Int))) /\ (wi64 ((List.length l1 : Int) + (1 : Int))) <= (lim : Int))) fun _ =>
   rule_maker_lies_i1_l2 k l1 c4 c1 c2 c3 c5 c6 c7 m1 c8 c9 at1 k (0 : Int) (List.replicate (wi64 ((List.length l1 : Int) + (1 : Int))).toNat false)
  )
def rule_maker_lies_i1_l1 (k : Nat) (c2 : List yT80) (l1 : List (Int)) (at1 : Int) (c1 : List UInt8) (c3 : List yT75) (c4 : List yT59) (c5 : List yT59) (c6 : Int) (c7 : Bool) (m1 : List yT63) (c8 : List (List UInt8)) (c9 : List yT80) : Nat -> Int -> Option yT19
 | 0, _ => none
 | n + 1, t10 => rule_maker_lies_i1_b1 k c2 l1 at1 c1 c3 c4 c5 c6 c7 m1 c8 c9 (rule_maker_lies_i1_l1 k c2 l1 at1 c1 c3 c4 c5 c6 c7 m1 c8 c9 n) t10
def rule_maker_lies_i1 (k : Nat) (l1 : List (Int)) (at1 : Int) (c1 : List UInt8) (c2 : List yT80) (c3 : List yT75) (c4 : List yT59) (c5 : List yT59) (c6 : Int) (c7 : Bool) (m1 : List yT63) (c8 : List (List UInt8)) (c9 : List yT80) : Option yT19 :=
 if decide ((List.length l1 : Int) < (wi64 (at1 + (List.length c2 : Int)))) then
  some (false, c1, c2, c3, c4, c5, c6, c7, m1, c8, c9)
 else
  rule_maker_lies_i1_l1 k c2 l1 at1 c1 c3 c4 c5 c6 c7 m1 c8 c9 k (0 : Int)
def rule_Places_j1 (go1 : Int -> yT88 -> yT73 -> (List UInt8) -> yT73 -> yT68 -> yT52 -> yT52 -> Int -> Bool -> yT55 -> yT78 -> Option yT74) (t1 : Int) (t11 : List (List UInt8)) (t12 : List yT80) (t13 : List UInt8) (t14 : List yT80) (t15 : List yT75) (t16 : List yT59) (t17 : List yT59) (t18 : Int) (t19 : Bool) (m2 : List yT63) (out2 : List yT86) : Option yT74 :=
 go1 (wi64 (t1 + (1 : Int))) t11 t12 t13 t14 t15 t16 t17 t18 t19 m2 out2
def rule_Places_b1 (k : Nat) (v2 : yT91) (r1 : yT26) (go1 : Int -> yT88 -> yT73 -> (List UInt8) -> yT73 -> yT68 -> yT52 -> yT52 -> Int -> Bool -> yT55 -> yT78 -> Option yT74) (t1 : Int) (t2 : List (List UInt8)) (t3 : List yT80) (t4 : List UInt8) (t5 : List yT80) (t6 : List yT75) (t7 : List yT59) (t8 : List yT59) (t9 : Int) (t10 : Bool) (m1 : List yT63) (out1 : List yT86) : Option yT74 :=
 if decide (t1 < (wi64 ((List.length v2.1 : Int) + (1 : Int)))) then
  (
   Option.bind (rule_maker_lies_i1 k v2.1 t1 t4 t5 t6 t7 t8 t9 t10 m1 t2 t3) fun v4 =>
   if v4.1 then
    (
     Option.bind (chk (List.length out1 + List.length ([(t1, wi64 (t1 + (List.length r1.2.1 : Int)), ())] : List yT86) <= lim)) fun _ =>
     rule_Places_j1 go1 t1 v4.2.2.2.2.2.2.2.2.2.1 v4.2.2.2.2.2.2.2.2.2.2 v4.2.1 v4.2.2.1 v4.2.2.2.1 v4.2.2.2.2.1 v4.2.2.2.2.2.1 v4.2.2.2.2.2.2.1 v4.2.2.2.2.2.2.2.1 v4.2.2.2.2.2.2.2.2.1 (out1 ++ ([(t1, wi64 (t1 + (List.length r1.2.1 : Int)), ())] : List yT86))
    )
   else
    rule_Places_j1 go1 t1 v4.2.2.2.2.2.2.2.2.2.1 v4.2.2.2.2.2.2.2.2.2.2 v4.2.1 v4.2.2.1 v4.2.2.2.1 v4.2.2.2.2.1 v4.2.2.2.2.2.1 v4.2.2.2.2.2.2.1 v4.2.2.2.2.2.2.2.1 v4.2.2.2.2.2.2.2.2.1 out1
  )
 else
  some (out1, (0 : Int))
def rule_Places_l1 (k : Nat) (v2 : yT91) (r1 : yT26) : Nat -> Int -> yT88 -> yT73 -> (List UInt8) -> yT73 -> yT68 -> yT52 -> yT52 -> Int -> Bool -> yT55 -> yT78 -> Option yT74
 | 0, _, _, _, _, _, _, _, _, _, _, _, _ => none
 | n + 1, t1, t2, t3, t4, t5, t6, t7, t8, t9, t10, m1, out1 => rule_Places_b1 k v2 r1 (rule_Places_l1 k v2 r1 n) t1 t2 t3 t4 t5 t6 t7 t8 t9 t10 m1 out1
def rule_Places (k : Nat) (a1 : yT49) (r1 : yT26) (w1 : List UInt8) : Option yT74 :=
 Option.bind (rule_Check k (a1.1, a1.2.1, ()) (r1.1, r1.2.1, r1.2.2.1, (r1.2.2.2.1.1, ()), (r1.2.2.2.2.1.1, ()), r1.2.2.2.2.2.1, r1.2.2.2.2.2.2.1, ())) fun v1 =>
 if v1 != (0 : Int) then
  some (([] : List yT86), v1)
 else
  (
   Option.bind (rule_letters k (a1.1, a1.2.1, ()) w1) fun v2 =>
   if v2.2 != (0 : Int) then
    some (([] : List yT86), v2.2)
   else
    (
     Option.bind (rule_ready_i1 k (a1.1, a1.2.1, ()) (r1.1, r1.2.1, r1.2.2.1, (r1.2.2.2.1.1, ()), (r1.2.2.2.2.1.1, ()), r1.2.2.2.2.2.1, r1.2.2.2.2.2.2.1, ())) fun v3 =>
     rule_Places_l1 k v2 r1 k (0 : Int) v3.1 v3.2.1 v3.2.2.2.1 v3.2.2.2.2.1 v3.2.2.2.2.2.1 v3.2.2.2.2.2.2.1 v3.2.2.2.2.2.2.2.1 v3.2.2.2.2.2.2.2.2.1 v3.2.2.2.2.2.2.2.2.2 v3.2.2.1 ([] : List yT86)
    )
  )
def law_worded (k : Nat) (a1 : yT49) (w1 : List UInt8) : Option Int :=
 Option.bind (law_nothing k (a1.1, a1.2.1, ())) fun v1 =>
 Option.bind (rule_Places k (a1.1, a1.2.1, ()) v1 w1) fun v2 =>
 some (v2.2)
def law_asked (k : Nat) (a1 : yT49) (w1 : List UInt8) (l1 : List yT25) : Option Int :=
 Option.bind (law_Check k (a1.1, a1.2.1, ()) l1) fun v1 =>
 if v1 != (0 : Int) then
  some (v1)
 else
  (
   Option.bind (law_worded k (a1.1, a1.2.1, ()) w1) fun v2 =>
   some (v2)
  )
def rule_letters_i1_j1 (k : Nat) (a1 : yT49) (v1 : (Int × Int)) (out1 : List (Int)) (w2 : List UInt8) (go1 : (List UInt8) -> (List (Int)) -> Option yT93) (t2 : Bool) : Option yT93 :=
 if t2 then
  some ((6 : Int), ([] : List (Int)))
 else
  (
   Option.bind (rule_letter k (a1.1, a1.2.1, ()) v1.1) fun v2 =>
   if !v2 then
    some ((5 : Int), ([] : List (Int)))
   else
    (
     if (List.length out1 : Int) == (256 : Int) then
      some ((4 : Int), ([] : List (Int)))
     else
      (
       Option.bind (chk (List.length out1 + List.length ([v1.1] : List (Int)) <= lim)) fun _ =>
       Option.bind (sub? w2 v1.2 (w2.length : Int)) fun s1 =>
       go1 s1 (out1 ++ ([v1.1] : List (Int)))
      )
    )
  )
def rule_letters_i1_b1 (k : Nat) (a1 : yT49) (go1 : (List UInt8) -> (List (Int)) -> Option yT93) (w2 : List UInt8) (out1 : List (Int)) : Option yT93 :=
 if !(w2 == ([] : List UInt8)) then
  (
   Option.bind (utf8_DecodeRuneInString k w2) fun v1 =>
   rule_letters_i1_j1 k a1 v1 out1 w2 go1 ((v1.1 == (65533 : Int)) && (v1.2 == (1 : Int)))
  )
 else
  some ((0 : Int), out1)
def rule_letters_i1_l1 (k : Nat) (a1 : yT49) : Nat -> (List UInt8) -> (List (Int)) -> Option yT93
 | 0, _, _ => none
 | n + 1, w2, out1 => rule_letters_i1_b1 k a1 (rule_letters_i1_l1 k a1 n) w2 out1
def rule_letters_i1 (k : Nat) (a1 : yT49) (w1 : List UInt8) : Option yT93 :=
 rule_letters_i1_l1 k a1 k w1 ([] : List (Int))
def rule_maker_all_i1_j1 (go1 : Int -> (List UInt8) -> yT73 -> yT68 -> yT52 -> yT52 -> Int -> Bool -> yT55 -> yT88 -> yT73 -> (List (Bool)) -> Option yT16) (i2 : Int) (t21 : List UInt8) (t22 : List yT80) (t23 : List yT75) (t24 : List yT59) (t25 : List yT59) (t26 : Int) (t27 : Bool) (m4 : List yT63) (t28 : List (List UInt8)) (t29 : List yT80) (t30 : List (Bool)) : Option yT16 :=
 go1 (wi64 (i2 + (1 : Int))) t21 t22 t23 t24 t25 t26 t27 m4 t28 t29 t30
def rule_maker_all_i1_b1 (k : Nat) (l1 : List (Int)) (go1 : Int -> (List UInt8) -> yT73 -> yT68 -> yT52 -> yT52 -> Int -> Bool -> yT55 -> yT88 -> yT73 -> (List (Bool)) -> Option yT16) (i1 : Int) (t11 : List UInt8) (t12 : List yT80) (t13 : List yT75) (t14 : List yT59) (t15 : List yT59) (t16 : Int) (t17 : Bool) (m3 : List yT63) (t18 : List (List UInt8)) (t19 : List yT80) (t20 : List (Bool)) : Option yT16 :=
 if decide (i1 <= (List.length l1 : Int)) then
  (
   Option.bind (rule_maker_lies_i1 k l1 i1 t11 t12 t13 t14 t15 t16 t17 m3 t18 t19) fun v1 =>
   if v1.1 then
    (
     Option.bind (at? t20 i1) fun x1 =>
     rule_maker_all_i1_j1 go1 (wi64 (i1 + (mxI (0 : Int) (wi64 ((List.length v1.2.2.1 : Int) - (1 : Int)))))) v1.2.1 v1.2.2.1 v1.2.2.2.1 v1.2.2.2.2.1 v1.2.2.2.2.2.1 v1.2.2.2.2.2.2.1 v1.2.2.2.2.2.2.2.1 v1.2.2.2.2.2.2.2.2.1 v1.2.2.2.2.2.2.2.2.2.1 v1.2.2.2.2.2.2.2.2.2.2 (List.set t20 (i1).toNat true)
    )
   else
    rule_maker_all_i1_j1 go1 i1 v1.2.1 v1.2.2.1 v1.2.2.2.1 v1.2.2.2.2.1 v1.2.2.2.2.2.1 v1.2.2.2.2.2.2.1 v1.2.2.2.2.2.2.2.1 v1.2.2.2.2.2.2.2.2.1 v1.2.2.2.2.2.2.2.2.2.1 v1.2.2.2.2.2.2.2.2.2.2 t20
  )
 else
  some (t11, t12, t13, t14, t15, t16, t17, m3, t18, t19, t20)
def rule_maker_all_i1_l1 (k : Nat) (l1 : List (Int)) : Nat -> Int -> (List UInt8) -> yT73 -> yT68 -> yT52 -> yT52 -> Int -> Bool -> yT55 -> yT88 -> yT73 -> (List (Bool)) -> Option yT16
 | 0, _, _, _, _, _, _, _, _, _, _, _, _ => none
 | n + 1, i1, t11, t12, t13, t14, t15, t16, t17, m3, t18, t19, t20 => rule_maker_all_i1_b1 k l1 (rule_maker_all_i1_l1 k l1 n) i1 t11 t12 t13 t14 t15 t16 t17 m3 t18 t19 t20
def rule_maker_all_i1 (k : Nat) (l1 : List (Int)) (c1 : List UInt8) (c2 : List yT80) (c3 : List yT75) (c4 : List yT59) (c5 : List yT59) (c6 : Int) (c7 : Bool) (m1 : List yT63) (c8 : List (List UInt8)) (c9 : List yT80) : Option yT16 :=
 Option.bind (chk (0 <= (wi64 ((List.length l1 : Int) + (1 : Int))) /\ (wi64 ((List.length l1 : Int) + (1 : Int))) <= (wi64 ((List.length l1 : Int) + (1 : Int))) /\ (wi64 ((List.length l1 : Int) + (1 : Int))) <= (lim : Int))) fun _ =>
 rule_maker_all_i1_l1 k l1 k (0 : Int) c1 c2 c3 c4 c5 c6 c7 m1 c8 c9 (List.replicate (wi64 ((List.length l1 : Int) + (1 : Int))).toNat false)
def unicode_utf8_RuneCountInString_b1 (s1 : List UInt8) (go1 : Int -> Nat -> Option Int) (n1 : Int) (pos1 : Nat) : Option Int :=
 if decide (pos1 < List.length s1) then
  go1 (wi64 (n1 + (1 : Int))) (pos1 + widthAt s1 pos1)
 else
  some (n1)
def unicode_utf8_RuneCountInString_l1 (s1 : List UInt8) : Nat -> Int -> Nat -> Option Int
 | 0, _, _ => none
 | n + 1, n1, pos1 => unicode_utf8_RuneCountInString_b1 s1 (unicode_utf8_RuneCountInString_l1 s1 n) n1 pos1
def unicode_utf8_RuneCountInString (k : Nat) (s1 : List UInt8) : Option Int :=
 unicode_utf8_RuneCountInString_l1 s1 k (0 : Int) 0
def rule_maker_all_c1 (k : Nat) (x1 : List UInt8) (at1 : Int) (t1 : List (Bool)) : Option Bool :=
 Option.bind (at? t1 at1) fun x2 =>
 some (x2)
def feature_Near_c1 (k : Nat) (x1 : yT84) (y1 : yT84) (t1 : yT84) : Option Int :=
 Option.bind (feature_unlike k (x1.1, x1.2.1, x1.2.2.1, ()) t1) fun v1 =>
 Option.bind (feature_unlike k (y1.1, y1.2.1, y1.2.2.1, ()) t1) fun v2 =>
 some (wi64 (v1 - v2))
def slices_MinFunc___api_Letter_api_Letter__Near_c1_j1 (go1 : Int -> Int -> Int -> Int -> Option yT84) (i1 : Int) (m4 : Int) (m5 : Int) (m6 : Int) : Option yT84 :=
 go1 (wi64 (i1 + (1 : Int))) m4 m5 m6
def slices_MinFunc___api_Letter_api_Letter__Near_c1_b1 (k : Nat) (x1 : List yT80) (cmp1 : (yT84 × Unit)) (go1 : Int -> Int -> Int -> Int -> Option yT84) (i1 : Int) (m1 : Int) (m2 : Int) (m3 : Int) : Option yT84 :=
 if decide (i1 < (List.length x1 : Int)) then
  (
   Option.bind (at? x1 i1) fun x3 =>
   Option.bind (feature_Near_c1 k x3 (m1, m2, m3, ()) cmp1.1) fun v1 =>
   if decide (v1 < (0 : Int)) then
    slices_MinFunc___api_Letter_api_Letter__Near_c1_j1 go1 i1 x3.1 x3.2.1 x3.2.2.1
   else
    slices_MinFunc___api_Letter_api_Letter__Near_c1_j1 go1 i1 m1 m2 m3
  )
 else
  some ((m1, m2, m3, ()))
def slices_MinFunc___api_Letter_api_Letter__Near_c1_l1 (k : Nat) (x1 : List yT80) (cmp1 : (yT84 × Unit)) : Nat -> Int -> Int -> Int -> Int -> Option yT84
 | 0, _, _, _, _ => none
 | n + 1, i1, m1, m2, m3 => slices_MinFunc___api_Letter_api_Letter__Near_c1_b1 k x1 cmp1 (slices_MinFunc___api_Letter_api_Letter__Near_c1_l1 k x1 cmp1 n) i1 m1 m2 m3
def slices_MinFunc___api_Letter_api_Letter__Near_c1 (k : Nat) (x1 : List yT80) (cmp1 : (yT84 × Unit)) : Option yT84 :=
 if decide ((List.length x1 : Int) < (1 : Int)) then
  none
 else
  (
   Option.bind (at? x1 (0 : Int)) fun x2 =>
   slices_MinFunc___api_Letter_api_Letter__Near_c1_l1 k x1 cmp1 k (1 : Int) x2.1 x2.2.1 x2.2.2.1
  )
def feature_Near (k : Nat) (a1 : yT49) (r1 : Int) (plus1 : Int) (minus1 : Int) : Option (Int × Int) :=
 Option.bind (feature_Of k (a1.1, a1.2.1, ()) r1) fun v1 =>
 if v1.2 != (0 : Int) then
  some ((0 : Int), v1.2)
 else
  (
   Option.bind (feature_within k (a1.1, a1.2.1, ()) plus1 minus1) fun v2 =>
   if !v2 then
    some ((0 : Int), (20 : Int))
   else
    (
     Option.bind (slices_MinFunc___api_Letter_api_Letter__Near_c1 k a1.2.1 ((v1.1.1, wu32 (BitVec.toNat (BitVec.ofInt 32 (wu32 (BitVec.toNat (BitVec.ofInt 32 v1.1.2.1 &&& ~~~BitVec.ofInt 32 minus1))) ||| BitVec.ofInt 32 plus1)), wu32 (BitVec.toNat (BitVec.ofInt 32 (wu32 (BitVec.toNat (BitVec.ofInt 32 v1.1.2.2.1 &&& ~~~BitVec.ofInt 32 plus1))) ||| BitVec.ofInt 32 minus1)), ()), ())) fun v3 =>
     some (v3.1, (0 : Int))
    )
  )
def rule_ready_c2 (k : Nat) (x1 : Int) (s1 : yT76) (t1 : yT49) : Option Int :=
 Option.bind (feature_Near k t1 x1 s1.2.2.1 s1.2.2.2.1) fun v1 =>
 some (v1.1)
def rule_maker_into_i1_j1 (go1 : Int -> (List (Int)) -> Option (List (Int))) (t1 : Int) (out3 : List (Int)) : Option (List (Int)) :=
 go1 (wi64 (t1 + (1 : Int))) out3
def rule_maker_into_i1_b1 (k : Nat) (c3 : List yT75) (found1 : List (Int)) (c8 : List (List UInt8)) (c9 : List yT80) (go1 : Int -> (List (Int)) -> Option (List (Int))) (t1 : Int) (out2 : List (Int)) : Option (List (Int)) :=
 if decide (t1 < (List.length c3 : Int)) then
  (
   Option.bind (at? c3 t1) fun x1 =>
   if x1.1 != (0 : Int) then
    (
     Option.bind (chk (List.length out2 + List.length ([x1.1] : List (Int)) <= lim)) fun _ =>
     rule_maker_into_i1_j1 go1 t1 (out2 ++ ([x1.1] : List (Int)))
    )
   else
    (
     Option.bind (at? found1 x1.2.1) fun x2 =>
     Option.bind (rule_ready_c2 k x2 (x1.1, x1.2.1, x1.2.2.1, x1.2.2.2.1, ()) (c8, c9, ())) fun v1 =>
     Option.bind (chk (List.length out2 + List.length ([v1] : List (Int)) <= lim)) fun _ =>
     rule_maker_into_i1_j1 go1 t1 (out2 ++ ([v1] : List (Int)))
    )
  )
 else
  some out2
def rule_maker_into_i1_l1 (k : Nat) (c3 : List yT75) (found1 : List (Int)) (c8 : List (List UInt8)) (c9 : List yT80) : Nat -> Int -> (List (Int)) -> Option (List (Int))
 | 0, _, _ => none
 | n + 1, t1, out2 => rule_maker_into_i1_b1 k c3 found1 c8 c9 (rule_maker_into_i1_l1 k c3 found1 c8 c9 n) t1 out2
def rule_maker_into_i1 (k : Nat) (found1 : List (Int)) (c1 : List UInt8) (c2 : List yT80) (c3 : List yT75) (c4 : List yT59) (c5 : List yT59) (c6 : Int) (c7 : Bool) (m1 : List yT63) (c8 : List (List UInt8)) (c9 : List yT80) : Option (List (Int)) :=
 rule_maker_into_i1_l1 k c3 found1 c8 c9 k (0 : Int) ([] : List (Int))
def rule_maker_run_i6_j3 (t12 : Int) (sets4 : List yT60) (go3 : yT53 -> yT82 -> yT82 -> Option yT12) (p1 : yT89) (more1 : List UInt8) : Option yT12 :=
 Option.bind (chk (0 <= (wi64 (t12 + (1 : Int))) /\ (wi64 (t12 + (1 : Int))) < (List.length sets4 : Int))) fun _ =>
 Option.bind (o2at sets4 (wi64 (t12 + (1 : Int)))) fun q4 =>
 Option.bind (o2ps sets4 (wi64 (t12 + (1 : Int)))) fun q5 =>
 go3 (List.set sets4 (wi64 (t12 + (1 : Int))).toNat (some (some (mset (eqEl .str) q5 more1 true)))) ([] : List yT89) [p1]
def rule_maker_run_i6_j2 (t12 : Int) (l1 : List (Int)) (p1 : yT89) (sets4 : List yT60) (go3 : yT53 -> yT82 -> yT82 -> Option yT12) (t23 : Bool) : Option yT12 :=
 if t23 then
  (
   if decide (t12 < (List.length l1 : Int)) then
    (
     Option.bind (at? l1 t12) fun x1 =>
     Option.bind (chk (List.length p1.1 + List.length ((Utf8.encode x1).data.toList) <= lim)) fun _ =>
     rule_maker_run_i6_j3 t12 sets4 go3 p1 (p1.1 ++ ((Utf8.encode x1).data.toList))
    )
   else
    rule_maker_run_i6_j3 t12 sets4 go3 p1 p1.1
  )
 else
  go3 sets4 ([] : List yT89) [p1]
def rule_maker_run_i6_j1 (t12 : Int) (l1 : List (Int)) (p1 : yT89) (go3 : yT53 -> yT82 -> yT82 -> Option yT12) (v3 : Bool) (free1 : Bool) (sets4 : List yT60) : Option yT12 :=
 rule_maker_run_i6_j2 t12 l1 p1 sets4 go3 ((!v3) || free1)
def rule_maker_run_i6_j4 (sets3 : List yT60) (t12 : Int) (l1 : List (Int)) (p1 : yT89) (go3 : yT53 -> yT82 -> yT82 -> Option yT12) (v3 : Bool) (free1 : Bool) (more2 : List UInt8) (to1 : Int) : Option yT12 :=
 Option.bind (chk (0 <= to1 /\ to1 < (List.length sets3 : Int))) fun _ =>
 Option.bind (o2at sets3 to1) fun q6 =>
 Option.bind (o2ps sets3 to1) fun q7 =>
 rule_maker_run_i6_j1 t12 l1 p1 go3 v3 free1 (List.set sets3 (to1).toNat (some (some (mset (eqEl .str) q7 more2 true))))
def rule_maker_run_i6_j5 (sets3 : List yT60) (t12 : Int) (l1 : List (Int)) (p1 : yT89) (go3 : yT53 -> yT82 -> yT82 -> Option yT12) (v3 : Bool) (free1 : Bool) (v1 : yT16) (more3 : List UInt8) : Option yT12 :=
 rule_maker_run_i6_j4 sets3 t12 l1 p1 go3 v3 free1 more3 (wi64 ((wi64 (t12 + (List.length v1.2.1 : Int))) + (1 : Int)))
def rule_maker_run_i6_b3 (k : Nat) (go2 : Int -> yT53 -> (List UInt8) -> yT73 -> yT68 -> yT52 -> yT52 -> Int -> Bool -> yT55 -> yT88 -> yT73 -> (List (Bool)) -> Option yT12) (t12 : Int) (t13 : List UInt8) (t14 : List yT80) (t15 : List yT75) (t16 : List yT59) (t17 : List yT59) (t18 : Int) (t19 : Bool) (m3 : List yT63) (t20 : List (List UInt8)) (t21 : List yT80) (t22 : List (Bool)) (l1 : List (Int)) (v1 : yT16) (free1 : Bool) (go3 : yT53 -> yT82 -> yT82 -> Option yT12) (sets3 : List yT60) (left1 : List yT89) (at1 : List yT89) : Option yT12 :=
 mcase1 left1 (
  go2 (wi64 (t12 + (1 : Int))) sets3 t13 t14 t15 t16 t17 t18 t19 m3 t20 t21 t22
 ) fun p1 => 
 Option.bind (unicode_utf8_RuneCountInString k p1.1) fun v2 =>
 if decide ((256 : Int) < (wi64 ((wi64 (v2 + (List.length l1 : Int))) - t12))) then
  some ((9 : Int), t13, t14, t15, t16, t17, t18, t19, m3, t20, t21, ([] : List (List UInt8)))
 else
  (
   Option.bind (rule_maker_all_c1 k p1.1 t12 t22) fun v3 =>
   if v3 then
    (
     Option.bind (sub? l1 t12 (wi64 (t12 + (List.length v1.2.1 : Int)))) fun s1 =>
     Option.bind (rule_maker_into_i1 k s1 t13 t14 t15 t16 t17 t18 t19 m3 t20 t21) fun v4 =>
     Option.bind (chk (List.length (runesStr v4) <= lim)) fun _ =>
     Option.bind (chk (List.length p1.1 + List.length (runesStr v4) <= lim)) fun _ =>
     if (List.length v1.2.1 : Int) == (0 : Int) then
      (
       if decide (t12 < (List.length l1 : Int)) then
        (
         Option.bind (at? l1 t12) fun x2 =>
         Option.bind (chk (List.length (p1.1 ++ (runesStr v4)) + List.length ((Utf8.encode x2).data.toList) <= lim)) fun _ =>
         rule_maker_run_i6_j5 sets3 t12 l1 p1 go3 v3 free1 v1 ((p1.1 ++ (runesStr v4)) ++ ((Utf8.encode x2).data.toList))
        )
       else
        rule_maker_run_i6_j5 sets3 t12 l1 p1 go3 v3 free1 v1 (p1.1 ++ (runesStr v4))
      )
     else
      rule_maker_run_i6_j4 sets3 t12 l1 p1 go3 v3 free1 (p1.1 ++ (runesStr v4)) (wi64 (t12 + (List.length v1.2.1 : Int)))
    )
   else
    rule_maker_run_i6_j1 t12 l1 p1 go3 v3 free1 sets3
  )
def rule_maker_run_i6_l3 (k : Nat) (go2 : Int -> yT53 -> (List UInt8) -> yT73 -> yT68 -> yT52 -> yT52 -> Int -> Bool -> yT55 -> yT88 -> yT73 -> (List (Bool)) -> Option yT12) (t12 : Int) (t13 : List UInt8) (t14 : List yT80) (t15 : List yT75) (t16 : List yT59) (t17 : List yT59) (t18 : Int) (t19 : Bool) (m3 : List yT63) (t20 : List (List UInt8)) (t21 : List yT80) (t22 : List (Bool)) (l1 : List (Int)) (v1 : yT16) (free1 : Bool) : Nat -> yT53 -> yT82 -> yT82 -> Option yT12
 | 0, _, _, _ => none
 | n + 1, sets3, left1, at1 => rule_maker_run_i6_b3 k go2 t12 t13 t14 t15 t16 t17 t18 t19 m3 t20 t21 t22 l1 v1 free1 (rule_maker_run_i6_l3 k go2 t12 t13 t14 t15 t16 t17 t18 t19 m3 t20 t21 t22 l1 v1 free1 n) sets3 left1 at1
def rule_maker_run_i6_b4 (k : Nat) (t13 : List UInt8) (t14 : List yT80) (t15 : List yT75) (t16 : List yT59) (t17 : List yT59) (t18 : Int) (t19 : Bool) (m3 : List yT63) (t20 : List (List UInt8)) (t21 : List yT80) (go4 : yT82 -> yT82 -> yT88 -> Option yT12) (left2 : List yT89) (at2 : List yT89) (out1 : List (List UInt8)) : Option yT12 :=
 mcase1 left2 (
  some ((0 : Int), t13, t14, t15, t16, t17, t18, t19, m3, t20, t21, out1)
 ) fun p2 => 
 Option.bind (unicode_utf8_RuneCountInString k p2.1) fun v5 =>
 if decide ((256 : Int) < v5) then
  some ((9 : Int), t13, t14, t15, t16, t17, t18, t19, m3, t20, t21, ([] : List (List UInt8)))
 else
  (
   Option.bind (chk (List.length out1 + List.length ([p2.1] : List (List UInt8)) <= lim)) fun _ =>
   go4 ([] : List yT89) [p2] (out1 ++ ([p2.1] : List (List UInt8)))
  )
def rule_maker_run_i6_l4 (k : Nat) (t13 : List UInt8) (t14 : List yT80) (t15 : List yT75) (t16 : List yT59) (t17 : List yT59) (t18 : Int) (t19 : Bool) (m3 : List yT63) (t20 : List (List UInt8)) (t21 : List yT80) : Nat -> yT82 -> yT82 -> yT88 -> Option yT12
 | 0, _, _, _ => none
 | n + 1, left2, at2, out1 => rule_maker_run_i6_b4 k t13 t14 t15 t16 t17 t18 t19 m3 t20 t21 (rule_maker_run_i6_l4 k t13 t14 t15 t16 t17 t18 t19 m3 t20 t21 n) left2 at2 out1
def rule_maker_run_i6_b2 (k : Nat) (l1 : List (Int)) (v1 : yT16) (free1 : Bool) (go2 : Int -> yT53 -> (List UInt8) -> yT73 -> yT68 -> yT52 -> yT52 -> Int -> Bool -> yT55 -> yT88 -> yT73 -> (List (Bool)) -> Option yT12) (t12 : Int) (sets2 : List yT60) (t13 : List UInt8) (t14 : List yT80) (t15 : List yT75) (t16 : List yT59) (t17 : List yT59) (t18 : Int) (t19 : Bool) (m3 : List yT63) (t20 : List (List UInt8)) (t21 : List yT80) (t22 : List (Bool)) : Option yT12 :=
 if decide (t12 < (wi64 ((List.length l1 : Int) + (1 : Int)))) then
  (
   Option.bind (chk (0 <= t12 /\ t12 < (List.length sets2 : Int))) fun _ =>
   Option.bind (o2at sets2 t12) fun q3 =>
   if decide ((1024 : Int) < (List.length (Option.getD q3 []) : Int)) then
    some ((9 : Int), t13, t14, t15, t16, t17, t18, t19, m3, t20, t21, ([] : List (List UInt8)))
   else
    (
     Option.bind (chk (0 <= t12 /\ t12 < (List.length sets2 : Int))) fun _ =>
     rule_maker_run_i6_l3 k go2 t12 t13 t14 t15 t16 t17 t18 t19 m3 t20 t21 t22 l1 v1 free1 k (List.set sets2 (t12).toNat none) (q3.getD []) ([] : List yT89)
    )
  )
 else
  (
   Option.bind (chk (0 <= (wi64 ((List.length l1 : Int) + (1 : Int))) /\ (wi64 ((List.length l1 : Int) + (1 : Int))) < (List.length sets2 : Int))) fun _ =>
   Option.bind (o2at sets2 (wi64 ((List.length l1 : Int) + (1 : Int)))) fun q8 =>
   if decide ((1024 : Int) < (List.length (q8.getD []) : Int)) then
    some ((9 : Int), t13, t14, t15, t16, t17, t18, t19, m3, t20, t21, ([] : List (List UInt8)))
   else
    rule_maker_run_i6_l4 k t13 t14 t15 t16 t17 t18 t19 m3 t20 t21 k (q8.getD []) ([] : List yT89) ([] : List (List UInt8))
  )
def rule_maker_run_i6_l2 (k : Nat) (l1 : List (Int)) (v1 : yT16) (free1 : Bool) : Nat -> Int -> yT53 -> (List UInt8) -> yT73 -> yT68 -> yT52 -> yT52 -> Int -> Bool -> yT55 -> yT88 -> yT73 -> (List (Bool)) -> Option yT12
 | 0, _, _, _, _, _, _, _, _, _, _, _, _, _ => none
 | n + 1, t12, sets2, t13, t14, t15, t16, t17, t18, t19, m3, t20, t21, t22 => rule_maker_run_i6_b2 k l1 v1 free1 (rule_maker_run_i6_l2 k l1 v1 free1 n) t12 sets2 t13 t14 t15 t16 t17 t18 t19 m3 t20 t21 t22
def rule_maker_run_i6_b1 (k : Nat) (l1 : List (Int)) (v1 : yT16) (free1 : Bool) (go1 : Int -> yT53 -> Option yT12) (t11 : Int) (sets1 : List yT60) : Option yT12 :=
 if decide (t11 < (List.length (List.map some (List.replicate (wi64 ((List.length l1 : Int) + (2 : Int))).toNat (none : Option yT82))) : Int)) then
  (
   Option.bind (chk (0 <= t11 /\ t11 < (List.length sets1 : Int))) fun _ =>
   Option.bind (chk (0 <= t11 /\ t11 < (List.length sets1 : Int))) fun _ =>
   go1 (wi64 (t11 + (1 : Int))) (List.set sets1 (t11).toNat (some (some ([] : List yT89))))
  )
 else
  (
   Option.bind (chk (0 <= (0 : Int) /\ (0 : Int) < (List.length sets1 : Int))) fun _ =>
   Option.bind (o2at sets1 (0 : Int)) fun q1 =>
   Option.bind (o2ps sets1 (0 : Int)) fun q2 =>
   rule_maker_run_i6_l2 k l1 v1 free1 k (0 : Int) (List.set sets1 ((0 : Int)).toNat (some (some (mset (eqEl .str) q2 ([] : List UInt8) true)))) v1.1 v1.2.1 v1.2.2.1 v1.2.2.2.1 v1.2.2.2.2.1 v1.2.2.2.2.2.1 v1.2.2.2.2.2.2.1 v1.2.2.2.2.2.2.2.1 v1.2.2.2.2.2.2.2.2.1 v1.2.2.2.2.2.2.2.2.2.1 v1.2.2.2.2.2.2.2.2.2.2
  )
def rule_maker_run_i6_l1 (k : Nat) (l1 : List (Int)) (v1 : yT16) (free1 : Bool) : Nat -> Int -> yT53 -> Option yT12
 | 0, _, _ => none
 | n + 1, t11, sets1 => rule_maker_run_i6_b1 k l1 v1 free1 (rule_maker_run_i6_l1 k l1 v1 free1 n) t11 sets1
def rule_maker_run_i6 (k : Nat) (l1 : List (Int)) (free1 : Bool) (c1 : List UInt8) (c2 : List yT80) (c3 : List yT75) (c4 : List yT59) (c5 : List yT59) (c6 : Int) (c7 : Bool) (m1 : List yT63) (c8 : List (List UInt8)) (c9 : List yT80) : Option yT12 :=
 Option.bind (rule_maker_all_i1 k l1 c1 c2 c3 c4 c5 c6 c7 m1 c8 c9) fun v1 =>
 Option.bind (chk (0 < (wi64 ((List.length l1 : Int) + (2 : Int))))) fun _ =>
 Option.bind (chk (0 <= (wi64 ((List.length l1 : Int) + (2 : Int))) /\ (wi64 ((List.length l1 : Int) + (2 : Int))) <= (wi64 ((List.length l1 : Int) + (2 : Int))) /\ (wi64 ((List.length l1 : Int) + (2 : Int))) <= (lim : Int))) fun _ =>
 rule_maker_run_i6_l1 k l1 v1 free1 k (0 : Int) (List.map some (List.replicate (wi64 ((List.length l1 : Int) + (2 : Int))).toNat (none : Option yT82)))
def rule_maker_right_i1 (k : Nat) (l1 : List (Int)) (c1 : List UInt8) (c2 : List yT80) (c3 : List yT75) (c4 : List yT59) (c5 : List yT59) (c6 : Int) (c7 : Bool) (m1 : List yT63) (c8 : List (List UInt8)) (c9 : List yT80) : Option (List (Int)) :=
 some l1
def rule_maker_right_c1_i1 (k : Nat) (made1 : List UInt8) (at1 : Int) (c1 : List UInt8) (c2 : List yT80) (c3 : List yT75) (c4 : List yT59) (c5 : List yT59) (c6 : Int) (c7 : Bool) (m1 : List yT63) (c8 : List (List UInt8)) (c9 : List yT80) (c10 : List (Int)) : Option yT19 :=
 Option.bind (chk (List.length made1 <= lim)) fun _ =>
 Option.bind (sub? c10 at1 (c10.length : Int)) fun s1 =>
 Option.bind (chk (List.length (strRunes made1) + List.length s1 <= lim)) fun _ =>
 Option.bind (rule_maker_lies_i1 k ((strRunes made1) ++ s1) (List.length (strRunes made1) : Int) c1 c2 c3 c4 c5 c6 c7 m1 c8 c9) fun v1 =>
 some (v1.1, v1.2.1, v1.2.2.1, v1.2.2.2.1, v1.2.2.2.2.1, v1.2.2.2.2.2.1, v1.2.2.2.2.2.2.1, v1.2.2.2.2.2.2.2.1, v1.2.2.2.2.2.2.2.2.1, v1.2.2.2.2.2.2.2.2.2.1, v1.2.2.2.2.2.2.2.2.2.2)
def rule_maker_run_i7_j3 (t12 : Int) (sets4 : List yT60) (go3 : yT53 -> yT82 -> yT82 -> (List UInt8) -> yT73 -> yT68 -> yT52 -> yT52 -> Int -> Bool -> yT55 -> yT88 -> yT73 -> Option yT12) (p1 : yT89) (v3 : yT19) (more1 : List UInt8) : Option yT12 :=
 Option.bind (chk (0 <= (wi64 (t12 + (1 : Int))) /\ (wi64 (t12 + (1 : Int))) < (List.length sets4 : Int))) fun _ =>
 Option.bind (o2at sets4 (wi64 (t12 + (1 : Int)))) fun q4 =>
 Option.bind (o2ps sets4 (wi64 (t12 + (1 : Int)))) fun q5 =>
 go3 (List.set sets4 (wi64 (t12 + (1 : Int))).toNat (some (some (mset (eqEl .str) q5 more1 true)))) ([] : List yT89) [p1] v3.2.1 v3.2.2.1 v3.2.2.2.1 v3.2.2.2.2.1 v3.2.2.2.2.2.1 v3.2.2.2.2.2.2.1 v3.2.2.2.2.2.2.2.1 v3.2.2.2.2.2.2.2.2.1 v3.2.2.2.2.2.2.2.2.2.1 v3.2.2.2.2.2.2.2.2.2.2
def rule_maker_run_i7_j2 (t12 : Int) (l1 : List (Int)) (p1 : yT89) (sets4 : List yT60) (go3 : yT53 -> yT82 -> yT82 -> (List UInt8) -> yT73 -> yT68 -> yT52 -> yT52 -> Int -> Bool -> yT55 -> yT88 -> yT73 -> Option yT12) (v3 : yT19) (t32 : Bool) : Option yT12 :=
 if t32 then
  (
   if decide (t12 < (List.length l1 : Int)) then
    (
     Option.bind (at? l1 t12) fun x1 =>
     Option.bind (chk (List.length p1.1 + List.length ((Utf8.encode x1).data.toList) <= lim)) fun _ =>
     rule_maker_run_i7_j3 t12 sets4 go3 p1 v3 (p1.1 ++ ((Utf8.encode x1).data.toList))
    )
   else
    rule_maker_run_i7_j3 t12 sets4 go3 p1 v3 p1.1
  )
 else
  go3 sets4 ([] : List yT89) [p1] v3.2.1 v3.2.2.1 v3.2.2.2.1 v3.2.2.2.2.1 v3.2.2.2.2.2.1 v3.2.2.2.2.2.2.1 v3.2.2.2.2.2.2.2.1 v3.2.2.2.2.2.2.2.2.1 v3.2.2.2.2.2.2.2.2.2.1 v3.2.2.2.2.2.2.2.2.2.2
def rule_maker_run_i7_j1 (t12 : Int) (l1 : List (Int)) (p1 : yT89) (go3 : yT53 -> yT82 -> yT82 -> (List UInt8) -> yT73 -> yT68 -> yT52 -> yT52 -> Int -> Bool -> yT55 -> yT88 -> yT73 -> Option yT12) (v3 : yT19) (free1 : Bool) (sets4 : List yT60) : Option yT12 :=
 rule_maker_run_i7_j2 t12 l1 p1 sets4 go3 v3 ((!v3.1) || free1)
def rule_maker_run_i7_j4 (sets3 : List yT60) (t12 : Int) (l1 : List (Int)) (p1 : yT89) (go3 : yT53 -> yT82 -> yT82 -> (List UInt8) -> yT73 -> yT68 -> yT52 -> yT52 -> Int -> Bool -> yT55 -> yT88 -> yT73 -> Option yT12) (v3 : yT19) (free1 : Bool) (more2 : List UInt8) (to1 : Int) : Option yT12 :=
 Option.bind (chk (0 <= to1 /\ to1 < (List.length sets3 : Int))) fun _ =>
 Option.bind (o2at sets3 to1) fun q6 =>
 Option.bind (o2ps sets3 to1) fun q7 =>
 rule_maker_run_i7_j1 t12 l1 p1 go3 v3 free1 (List.set sets3 (to1).toNat (some (some (mset (eqEl .str) q7 more2 true))))
def rule_maker_run_i7_j5 (sets3 : List yT60) (t12 : Int) (l1 : List (Int)) (p1 : yT89) (go3 : yT53 -> yT82 -> yT82 -> (List UInt8) -> yT73 -> yT68 -> yT52 -> yT52 -> Int -> Bool -> yT55 -> yT88 -> yT73 -> Option yT12) (v3 : yT19) (free1 : Bool) (c2 : List yT80) (more3 : List UInt8) : Option yT12 :=
 rule_maker_run_i7_j4 sets3 t12 l1 p1 go3 v3 free1 more3 (wi64 ((wi64 (t12 + (List.length c2 : Int))) + (1 : Int)))
def rule_maker_run_i7_b3 (k : Nat) (go2 : Int -> yT53 -> (List (Int)) -> (List UInt8) -> yT73 -> yT68 -> yT52 -> yT52 -> Int -> Bool -> yT55 -> yT88 -> yT73 -> Option yT12) (t12 : Int) (t13 : List (Int)) (l1 : List (Int)) (c2 : List yT80) (free1 : Bool) (go3 : yT53 -> yT82 -> yT82 -> (List UInt8) -> yT73 -> yT68 -> yT52 -> yT52 -> Int -> Bool -> yT55 -> yT88 -> yT73 -> Option yT12) (sets3 : List yT60) (left1 : List yT89) (at1 : List yT89) (t23 : List UInt8) (t24 : List yT80) (t25 : List yT75) (t26 : List yT59) (t27 : List yT59) (t28 : Int) (t29 : Bool) (m4 : List yT63) (t30 : List (List UInt8)) (t31 : List yT80) : Option yT12 :=
 mcase1 left1 (
  go2 (wi64 (t12 + (1 : Int))) sets3 t13 t23 t24 t25 t26 t27 t28 t29 m4 t30 t31
 ) fun p1 => 
 Option.bind (unicode_utf8_RuneCountInString k p1.1) fun v2 =>
 if decide ((256 : Int) < (wi64 ((wi64 (v2 + (List.length l1 : Int))) - t12))) then
  some ((9 : Int), t23, t24, t25, t26, t27, t28, t29, m4, t30, t31, ([] : List (List UInt8)))
 else
  (
   Option.bind (rule_maker_right_c1_i1 k p1.1 t12 t23 t24 t25 t26 t27 t28 t29 m4 t30 t31 t13) fun v3 =>
   if v3.1 then
    (
     Option.bind (sub? l1 t12 (wi64 (t12 + (List.length c2 : Int)))) fun s1 =>
     Option.bind (rule_maker_into_i1 k s1 v3.2.1 v3.2.2.1 v3.2.2.2.1 v3.2.2.2.2.1 v3.2.2.2.2.2.1 v3.2.2.2.2.2.2.1 v3.2.2.2.2.2.2.2.1 v3.2.2.2.2.2.2.2.2.1 v3.2.2.2.2.2.2.2.2.2.1 v3.2.2.2.2.2.2.2.2.2.2) fun v4 =>
     Option.bind (chk (List.length (runesStr v4) <= lim)) fun _ =>
     Option.bind (chk (List.length p1.1 + List.length (runesStr v4) <= lim)) fun _ =>
     if (List.length c2 : Int) == (0 : Int) then
      (
       if decide (t12 < (List.length l1 : Int)) then
        (
         Option.bind (at? l1 t12) fun x2 =>
         Option.bind (chk (List.length (p1.1 ++ (runesStr v4)) + List.length ((Utf8.encode x2).data.toList) <= lim)) fun _ =>
         rule_maker_run_i7_j5 sets3 t12 l1 p1 go3 v3 free1 c2 ((p1.1 ++ (runesStr v4)) ++ ((Utf8.encode x2).data.toList))
        )
       else
        rule_maker_run_i7_j5 sets3 t12 l1 p1 go3 v3 free1 c2 (p1.1 ++ (runesStr v4))
      )
     else
      rule_maker_run_i7_j4 sets3 t12 l1 p1 go3 v3 free1 (p1.1 ++ (runesStr v4)) (wi64 (t12 + (List.length c2 : Int)))
    )
   else
    rule_maker_run_i7_j1 t12 l1 p1 go3 v3 free1 sets3
  )
def rule_maker_run_i7_l3 (k : Nat) (go2 : Int -> yT53 -> (List (Int)) -> (List UInt8) -> yT73 -> yT68 -> yT52 -> yT52 -> Int -> Bool -> yT55 -> yT88 -> yT73 -> Option yT12) (t12 : Int) (t13 : List (Int)) (l1 : List (Int)) (c2 : List yT80) (free1 : Bool) : Nat -> yT53 -> yT82 -> yT82 -> (List UInt8) -> yT73 -> yT68 -> yT52 -> yT52 -> Int -> Bool -> yT55 -> yT88 -> yT73 -> Option yT12
 | 0, _, _, _, _, _, _, _, _, _, _, _, _, _ => none
 | n + 1, sets3, left1, at1, t23, t24, t25, t26, t27, t28, t29, m4, t30, t31 => rule_maker_run_i7_b3 k go2 t12 t13 l1 c2 free1 (rule_maker_run_i7_l3 k go2 t12 t13 l1 c2 free1 n) sets3 left1 at1 t23 t24 t25 t26 t27 t28 t29 m4 t30 t31
def rule_maker_run_i7_b4 (k : Nat) (t14 : List UInt8) (t15 : List yT80) (t16 : List yT75) (t17 : List yT59) (t18 : List yT59) (t19 : Int) (t20 : Bool) (m3 : List yT63) (t21 : List (List UInt8)) (t22 : List yT80) (go4 : yT82 -> yT82 -> yT88 -> Option yT12) (left2 : List yT89) (at2 : List yT89) (out1 : List (List UInt8)) : Option yT12 :=
 mcase1 left2 (
  some ((0 : Int), t14, t15, t16, t17, t18, t19, t20, m3, t21, t22, out1)
 ) fun p2 => 
 Option.bind (unicode_utf8_RuneCountInString k p2.1) fun v5 =>
 if decide ((256 : Int) < v5) then
  some ((9 : Int), t14, t15, t16, t17, t18, t19, t20, m3, t21, t22, ([] : List (List UInt8)))
 else
  (
   Option.bind (chk (List.length out1 + List.length ([p2.1] : List (List UInt8)) <= lim)) fun _ =>
   go4 ([] : List yT89) [p2] (out1 ++ ([p2.1] : List (List UInt8)))
  )
def rule_maker_run_i7_l4 (k : Nat) (t14 : List UInt8) (t15 : List yT80) (t16 : List yT75) (t17 : List yT59) (t18 : List yT59) (t19 : Int) (t20 : Bool) (m3 : List yT63) (t21 : List (List UInt8)) (t22 : List yT80) : Nat -> yT82 -> yT82 -> yT88 -> Option yT12
 | 0, _, _, _ => none
 | n + 1, left2, at2, out1 => rule_maker_run_i7_b4 k t14 t15 t16 t17 t18 t19 t20 m3 t21 t22 (rule_maker_run_i7_l4 k t14 t15 t16 t17 t18 t19 t20 m3 t21 t22 n) left2 at2 out1
def rule_maker_run_i7_b2 (k : Nat) (l1 : List (Int)) (c2 : List yT80) (free1 : Bool) (go2 : Int -> yT53 -> (List (Int)) -> (List UInt8) -> yT73 -> yT68 -> yT52 -> yT52 -> Int -> Bool -> yT55 -> yT88 -> yT73 -> Option yT12) (t12 : Int) (sets2 : List yT60) (t13 : List (Int)) (t14 : List UInt8) (t15 : List yT80) (t16 : List yT75) (t17 : List yT59) (t18 : List yT59) (t19 : Int) (t20 : Bool) (m3 : List yT63) (t21 : List (List UInt8)) (t22 : List yT80) : Option yT12 :=
 if decide (t12 < (wi64 ((List.length l1 : Int) + (1 : Int)))) then
  (
   Option.bind (chk (0 <= t12 /\ t12 < (List.length sets2 : Int))) fun _ =>
   Option.bind (o2at sets2 t12) fun q3 =>
   if decide ((1024 : Int) < (List.length (Option.getD q3 []) : Int)) then
    some ((9 : Int), t14, t15, t16, t17, t18, t19, t20, m3, t21, t22, ([] : List (List UInt8)))
   else
    (
     Option.bind (chk (0 <= t12 /\ t12 < (List.length sets2 : Int))) fun _ =>
     rule_maker_run_i7_l3 k go2 t12 t13 l1 c2 free1 k (List.set sets2 (t12).toNat none) (q3.getD []) ([] : List yT89) t14 t15 t16 t17 t18 t19 t20 m3 t21 t22
    )
  )
 else
  (
   Option.bind (chk (0 <= (wi64 ((List.length l1 : Int) + (1 : Int))) /\ (wi64 ((List.length l1 : Int) + (1 : Int))) < (List.length sets2 : Int))) fun _ =>
   Option.bind (o2at sets2 (wi64 ((List.length l1 : Int) + (1 : Int)))) fun q8 =>
   if decide ((1024 : Int) < (List.length (q8.getD []) : Int)) then
    some ((9 : Int), t14, t15, t16, t17, t18, t19, t20, m3, t21, t22, ([] : List (List UInt8)))
   else
    rule_maker_run_i7_l4 k t14 t15 t16 t17 t18 t19 t20 m3 t21 t22 k (q8.getD []) ([] : List yT89) ([] : List (List UInt8))
  )
def rule_maker_run_i7_l2 (k : Nat) (l1 : List (Int)) (c2 : List yT80) (free1 : Bool) : Nat -> Int -> yT53 -> (List (Int)) -> (List UInt8) -> yT73 -> yT68 -> yT52 -> yT52 -> Int -> Bool -> yT55 -> yT88 -> yT73 -> Option yT12
 | 0, _, _, _, _, _, _, _, _, _, _, _, _, _ => none
 | n + 1, t12, sets2, t13, t14, t15, t16, t17, t18, t19, t20, m3, t21, t22 => rule_maker_run_i7_b2 k l1 c2 free1 (rule_maker_run_i7_l2 k l1 c2 free1 n) t12 sets2 t13 t14 t15 t16 t17 t18 t19 t20 m3 t21 t22
def rule_maker_run_i7_b1 (k : Nat) (l1 : List (Int)) (c2 : List yT80) (free1 : Bool) (v1 : List (Int)) (c1 : List UInt8) (c3 : List yT75) (c4 : List yT59) (c5 : List yT59) (c6 : Int) (c7 : Bool) (m1 : List yT63) (c8 : List (List UInt8)) (c9 : List yT80) (go1 : Int -> yT53 -> Option yT12) (t11 : Int) (sets1 : List yT60) : Option yT12 :=
 if decide (t11 < (List.length (List.map some (List.replicate (wi64 ((List.length l1 : Int) + (2 : Int))).toNat (none : Option yT82))) : Int)) then
  (
   Option.bind (chk (0 <= t11 /\ t11 < (List.length sets1 : Int))) fun _ =>
   Option.bind (chk (0 <= t11 /\ t11 < (List.length sets1 : Int))) fun _ =>
   go1 (wi64 (t11 + (1 : Int))) (List.set sets1 (t11).toNat (some (some ([] : List yT89))))
  )
 else
  (
   Option.bind (chk (0 <= (0 : Int) /\ (0 : Int) < (List.length sets1 : Int))) fun _ =>
   Option.bind (o2at sets1 (0 : Int)) fun q1 =>
   Option.bind (o2ps sets1 (0 : Int)) fun q2 =>
   rule_maker_run_i7_l2 k l1 c2 free1 k (0 : Int) (List.set sets1 ((0 : Int)).toNat (some (some (mset (eqEl .str) q2 ([] : List UInt8) true)))) v1 c1 c2 c3 c4 c5 c6 c7 m1 c8 c9
  )
def rule_maker_run_i7_l1 (k : Nat) (l1 : List (Int)) (c2 : List yT80) (free1 : Bool) (v1 : List (Int)) (c1 : List UInt8) (c3 : List yT75) (c4 : List yT59) (c5 : List yT59) (c6 : Int) (c7 : Bool) (m1 : List yT63) (c8 : List (List UInt8)) (c9 : List yT80) : Nat -> Int -> yT53 -> Option yT12
 | 0, _, _ => none
 | n + 1, t11, sets1 => rule_maker_run_i7_b1 k l1 c2 free1 v1 c1 c3 c4 c5 c6 c7 m1 c8 c9 (rule_maker_run_i7_l1 k l1 c2 free1 v1 c1 c3 c4 c5 c6 c7 m1 c8 c9 n) t11 sets1
def rule_maker_run_i7 (k : Nat) (l1 : List (Int)) (free1 : Bool) (c1 : List UInt8) (c2 : List yT80) (c3 : List yT75) (c4 : List yT59) (c5 : List yT59) (c6 : Int) (c7 : Bool) (m1 : List yT63) (c8 : List (List UInt8)) (c9 : List yT80) : Option yT12 :=
 Option.bind (rule_maker_right_i1 k l1 c1 c2 c3 c4 c5 c6 c7 m1 c8 c9) fun v1 =>
 Option.bind (chk (0 < (wi64 ((List.length l1 : Int) + (2 : Int))))) fun _ =>
 Option.bind (chk (0 <= (wi64 ((List.length l1 : Int) + (2 : Int))) /\ (wi64 ((List.length l1 : Int) + (2 : Int))) <= (wi64 ((List.length l1 : Int) + (2 : Int))) /\ (wi64 ((List.length l1 : Int) + (2 : Int))) <= (lim : Int))) fun _ =>
 rule_maker_run_i7_l1 k l1 c2 free1 v1 c1 c3 c4 c5 c6 c7 m1 c8 c9 k (0 : Int) (List.map some (List.replicate (wi64 ((List.length l1 : Int) + (2 : Int))).toNat (none : Option yT82)))
def slices_Clone___api_Slot_api_Slot__i1 (k : Nat) (s1 : List yT80) : Option yT73 :=
 Option.bind (chk (List.length ([] : List yT80) + List.length s1 <= lim)) fun _ =>
 some (([] : List yT80) ++ s1)
def slices_Clone___api_Swap_api_Swap__i1 (k : Nat) (s1 : List yT75) : Option yT68 :=
 Option.bind (chk (List.length ([] : List yT75) + List.length s1 <= lim)) fun _ =>
 some (([] : List yT75) ++ s1)
def slices_Clone___int_int__i1 (k : Nat) (s1 : List (Int)) : Option (List (Int)) :=
 Option.bind (chk (List.length ([] : List (Int)) + List.length s1 <= lim)) fun _ =>
 some (([] : List (Int)) ++ s1)
def pattern_walked_c1_i3_b1 (t1 : List (Int)) (rows1 : List yT59) (rec1 : Int -> yT52 -> Bool -> yT52 -> Option yT52) (c1 : List yT59) (c2 : Bool) (go1 : Int -> yT52 -> Option yT52) (t2 : Int) (rows3 : List yT59) : Option yT52 :=
 if decide (t2 < (List.length t1 : Int)) then
  (
   Option.bind (at? t1 t2) fun x2 =>
   Option.bind (chk (0 <= (List.length rows1 : Int) /\ (List.length rows1 : Int) < (List.length rows3 : Int))) fun _ =>
   Option.bind (at? rows3 (List.length rows1 : Int)) fun x3 =>
   Option.bind (chk (List.length x3.2.2.2.2.1 + List.length ([(List.length rows3 : Int)] : List (Int)) <= lim)) fun _ =>
   Option.bind (chk (0 <= (List.length rows1 : Int) /\ (List.length rows1 : Int) < (List.length rows3 : Int))) fun _ =>
   Option.bind (rec1 x2 c1 c2 (List.set rows3 ((List.length rows1 : Int)).toNat (x3.1, x3.2.1, x3.2.2.1, x3.2.2.2.1, x3.2.2.2.2.1 ++ ([(List.length rows3 : Int)] : List (Int)), ()))) fun v2 =>
   go1 (wi64 (t2 + (1 : Int))) v2
  )
 else
  some rows3
def pattern_walked_c1_i3_l1 (t1 : List (Int)) (rows1 : List yT59) (rec1 : Int -> yT52 -> Bool -> yT52 -> Option yT52) (c1 : List yT59) (c2 : Bool) : Nat -> Int -> yT52 -> Option yT52
 | 0, _, _ => none
 | n + 1, t2, rows3 => pattern_walked_c1_i3_b1 t1 rows1 rec1 c1 c2 (pattern_walked_c1_i3_l1 t1 rows1 rec1 c1 c2 n) t2 rows3
def pattern_walked_c1_i3_j1 (k : Nat) (rows1 : List yT59) (x1 : yT61) (rec1 : Int -> yT52 -> Bool -> yT52 -> Option yT52) (c1 : List yT59) (c2 : Bool) (t1 : List (Int)) : Option yT52 :=
 Option.bind (chk (0 <= (0 : Int) /\ (0 : Int) <= (List.length t1 : Int) /\ (List.length t1 : Int) <= (lim : Int))) fun _ =>
 Option.bind (chk (List.length rows1 + List.length ([(x1.1, x1.2.1, x1.2.2.1, x1.2.2.2.1, List.replicate ((0 : Int)).toNat (0 : Int), ())] : List yT59) <= lim)) fun _ =>
 pattern_walked_c1_i3_l1 t1 rows1 rec1 c1 c2 k (0 : Int) (rows1 ++ ([(x1.1, x1.2.1, x1.2.2.1, x1.2.2.2.1, List.replicate ((0 : Int)).toNat (0 : Int), ())] : List yT59))
def pattern_walked_c1_i3_j2 (k : Nat) (rows1 : List yT59) (x1 : yT61) (rec1 : Int -> yT52 -> Bool -> yT52 -> Option yT52) (c1 : List yT59) (c2 : Bool) (v1 : List (Int)) (t3 : Bool) : Option yT52 :=
 if t3 then
  pattern_walked_c1_i3_j1 k rows1 x1 rec1 c1 c2 (List.reverse v1)
 else
  pattern_walked_c1_i3_j1 k rows1 x1 rec1 c1 c2 v1
def pattern_walked_c1_i3 : Nat -> Int -> yT52 -> Bool -> yT52 -> Option yT52
 | 0, _, _, _, _ => none
 | k + 1, at1, c1, c2, rows1 =>
  Option.bind (at? c1 at1) fun x1 =>
  Option.bind (slices_Clone___int_int__i1 k x1.2.2.2.2.1) fun v1 =>
  pattern_walked_c1_i3_j2 k rows1 x1 (pattern_walked_c1_i3 k) c1 c2 v1 (c2 && (x1.1 == (6 : Int)))
def pattern_walked_i3 (k : Nat) (from1 : List yT59) (at1 : Int) (turned1 : Bool) (rows1 : List yT59) : Option yT52 :=
 Option.bind (pattern_walked_c1_i3 k at1 from1 turned1 rows1) fun v1 =>
 some v1
def pattern_Turned (k : Nat) (p1 : yT50) : Option (yT50 × Int) :=
 Option.bind (pattern_tree k (p1.1, ())) fun v1 =>
 if !v1 then
  some ((([] : List yT59), ()), (40 : Int))
 else
  (
   Option.bind (pattern_walked_i3 k p1.1 (0 : Int) true ([] : List yT59)) fun v2 =>
   some ((v2, ()), (0 : Int))
  )
def rule_turned_j1 (go1 : Int -> yT68 -> Option yT26) (t1 : Int) (t3 : List yT75) : Option yT26 :=
 go1 (wi64 (t1 + (1 : Int))) t3
def rule_turned_b1 (k : Nat) (v2 : List yT75) (v1 : List yT80) (r1 : yT26) (go1 : Int -> yT68 -> Option yT26) (t1 : Int) (t2 : List yT75) : Option yT26 :=
 if decide (t1 < (List.length (List.reverse v2) : Int)) then
  (
   Option.bind (at? t2 t1) fun x1 =>
   if x1.1 == (0 : Int) then
    rule_turned_j1 go1 t1 (List.set t2 (t1).toNat (x1.1, wi64 ((wi64 ((List.length (List.reverse v1) : Int) - (1 : Int))) - x1.2.1), x1.2.2.1, x1.2.2.2.1, ()))
   else
    rule_turned_j1 go1 t1 t2
  )
 else
  (
   Option.bind (pattern_Turned k (r1.2.2.2.2.1.1, ())) fun v3 =>
   Option.bind (pattern_Turned k (r1.2.2.2.1.1, ())) fun v4 =>
   some ((r1.1, List.reverse v1, t2, (v3.1.1, ()), (v4.1.1, ()), r1.2.2.2.2.2.1, r1.2.2.2.2.2.2.1, ()))
  )
def rule_turned_l1 (k : Nat) (v2 : List yT75) (v1 : List yT80) (r1 : yT26) : Nat -> Int -> yT68 -> Option yT26
 | 0, _, _ => none
 | n + 1, t1, t2 => rule_turned_b1 k v2 v1 r1 (rule_turned_l1 k v2 v1 r1 n) t1 t2
def rule_turned (k : Nat) (r1 : yT26) : Option yT26 :=
 Option.bind (slices_Clone___api_Slot_api_Slot__i1 k r1.2.1) fun v1 =>
 Option.bind (slices_Clone___api_Swap_api_Swap__i1 k r1.2.2.1) fun v2 =>
 rule_turned_l1 k v2 v1 r1 k (0 : Int) (List.reverse v2)
def rule_makes_false_b1 (v9 : yT12) (go1 : Int -> yT88 -> Option (List (List UInt8) × Int)) (t1 : Int) (t2 : List (List UInt8)) : Option (List (List UInt8) × Int) :=
 if decide (t1 < (List.length v9.2.2.2.2.2.2.2.2.2.2.2 : Int)) then
  (
   Option.bind (at? t2 t1) fun x1 =>
   Option.bind (chk (List.length x1 <= lim)) fun _ =>
   Option.bind (chk (List.length (runesStr (List.reverse (strRunes x1))) <= lim)) fun _ =>
   go1 (wi64 (t1 + (1 : Int))) (List.set t2 (t1).toNat (runesStr (List.reverse (strRunes x1))))
  )
 else
  some (t2, v9.1)
def rule_makes_false_l1 (v9 : yT12) : Nat -> Int -> yT88 -> Option (List (List UInt8) × Int)
 | 0, _, _ => none
 | n + 1, t1, t2 => rule_makes_false_b1 v9 (rule_makes_false_l1 v9 n) t1 t2
def rule_makes_false (k : Nat) (a1 : yT49) (r1 : yT26) (w1 : List UInt8) : Option (List (List UInt8) × Int) :=
 Option.bind (rule_Check k (a1.1, a1.2.1, ()) (r1.1, r1.2.1, r1.2.2.1, (r1.2.2.2.1.1, ()), (r1.2.2.2.2.1.1, ()), r1.2.2.2.2.2.1, r1.2.2.2.2.2.2.1, ())) fun v1 =>
 if v1 != (0 : Int) then
  some (([] : List (List UInt8)), v1)
 else
  (
   Option.bind (rule_letters_i1 k (a1.1, a1.2.1, ()) w1) fun v2 =>
   if v2.1 != (0 : Int) then
    some (([] : List (List UInt8)), v2.1)
   else
    (
     if r1.2.2.2.2.2.1 == (1 : Int) then
      (
       Option.bind (rule_ready_i1 k (a1.1, a1.2.1, ()) (r1.1, r1.2.1, r1.2.2.1, (r1.2.2.2.1.1, ()), (r1.2.2.2.2.1.1, ()), r1.2.2.2.2.2.1, r1.2.2.2.2.2.2.1, ())) fun v3 =>
       Option.bind (rule_maker_run_i6 k v2.2 false v3.2.2.2.1 v3.2.2.2.2.1 v3.2.2.2.2.2.1 v3.2.2.2.2.2.2.1 v3.2.2.2.2.2.2.2.1 v3.2.2.2.2.2.2.2.2.1 v3.2.2.2.2.2.2.2.2.2 v3.2.2.1 v3.1 v3.2.1) fun v4 =>
       some (v4.2.2.2.2.2.2.2.2.2.2.2, v4.1)
      )
     else
      (
       if r1.2.2.2.2.2.1 == (2 : Int) then
        (
         Option.bind (rule_ready_i1 k (a1.1, a1.2.1, ()) (r1.1, r1.2.1, r1.2.2.1, (r1.2.2.2.1.1, ()), (r1.2.2.2.2.1.1, ()), r1.2.2.2.2.2.1, r1.2.2.2.2.2.2.1, ())) fun v5 =>
         Option.bind (rule_maker_run_i7 k v2.2 false v5.2.2.2.1 v5.2.2.2.2.1 v5.2.2.2.2.2.1 v5.2.2.2.2.2.2.1 v5.2.2.2.2.2.2.2.1 v5.2.2.2.2.2.2.2.2.1 v5.2.2.2.2.2.2.2.2.2 v5.2.2.1 v5.1 v5.2.1) fun v6 =>
         some (v6.2.2.2.2.2.2.2.2.2.2.2, v6.1)
        )
       else
        (
         Option.bind (rule_turned k (r1.1, r1.2.1, r1.2.2.1, (r1.2.2.2.1.1, ()), (r1.2.2.2.2.1.1, ()), r1.2.2.2.2.2.1, r1.2.2.2.2.2.2.1, ())) fun v7 =>
         Option.bind (rule_ready_i1 k (a1.1, a1.2.1, ()) v7) fun v8 =>
         Option.bind (rule_maker_run_i7 k (List.reverse v2.2) false v8.2.2.2.1 v8.2.2.2.2.1 v8.2.2.2.2.2.1 v8.2.2.2.2.2.2.1 v8.2.2.2.2.2.2.2.1 v8.2.2.2.2.2.2.2.2.1 v8.2.2.2.2.2.2.2.2.2 v8.2.2.1 v8.1 v8.2.1) fun v9 =>
         rule_makes_false_l1 v9 k (0 : Int) v9.2.2.2.2.2.2.2.2.2.2.2
        )
      )
    )
  )
def rule_Apply (k : Nat) (a1 : yT49) (r1 : yT26) (w1 : List UInt8) : Option yT94 :=
 Option.bind (rule_makes_false k (a1.1, a1.2.1, ()) (r1.1, r1.2.1, r1.2.2.1, (r1.2.2.2.1.1, ()), (r1.2.2.2.2.1.1, ()), r1.2.2.2.2.2.1, r1.2.2.2.2.2.2.1, ()) w1) fun v1 =>
 if v1.2 != (0 : Int) then
  some (([] : List UInt8), v1.2)
 else
  (
   Option.bind (at? v1.1 (0 : Int)) fun x1 =>
   some (x1, (0 : Int))
  )
def law_behind_j1 (go1 : (List UInt8) -> Int -> (List yT67) -> Option yT46) (v1 : yT94) (t1 : Int) (steps2 : List yT67) : Option yT46 :=
 go1 v1.1 (wi64 (t1 + (1 : Int))) steps2
def law_behind_b1 (k : Nat) (l1 : List yT25) (a1 : yT49) (go1 : (List UInt8) -> Int -> (List yT67) -> Option yT46) (w2 : List UInt8) (t1 : Int) (steps1 : List yT67) : Option yT46 :=
 if decide (t1 < (List.length l1 : Int)) then
  (
   Option.bind (at? l1 t1) fun x1 =>
   Option.bind (rule_Apply k (a1.1, a1.2.1, ()) (x1.1, x1.2.1, x1.2.2.1, (x1.2.2.2.1.1, ()), (x1.2.2.2.2.1.1, ()), x1.2.2.2.2.2.1, x1.2.2.2.2.2.2.1, ()) w2) fun v1 =>
   if v1.2 != (0 : Int) then
    some (([] : List UInt8), ([] : List yT67), v1.2)
   else
    (
     if !(v1.1 == w2) then
      (
       Option.bind (chk (List.length steps1 + List.length ([(t1, w2, v1.1, ())] : List yT67) <= lim)) fun _ =>
       law_behind_j1 go1 v1 t1 (steps1 ++ ([(t1, w2, v1.1, ())] : List yT67))
      )
     else
      law_behind_j1 go1 v1 t1 steps1
    )
  )
 else
  some (w2, steps1, (0 : Int))
def law_behind_l1 (k : Nat) (l1 : List yT25) (a1 : yT49) : Nat -> (List UInt8) -> Int -> (List yT67) -> Option yT46
 | 0, _, _, _ => none
 | n + 1, w2, t1, steps1 => law_behind_b1 k l1 a1 (law_behind_l1 k l1 a1 n) w2 t1 steps1
def law_behind (k : Nat) (a1 : yT49) (w1 : List UInt8) (l1 : List yT25) : Option yT46 :=
 law_behind_l1 k l1 a1 k w1 (0 : Int) ([] : List yT67)
def law_Apply (k : Nat) (a1 : yT49) (l1 : List yT25) (w1 : List UInt8) : Option yT94 :=
 Option.bind (law_asked k (a1.1, a1.2.1, ()) w1 l1) fun v1 =>
 if v1 != (0 : Int) then
  some (([] : List UInt8), v1)
 else
  (
   Option.bind (law_behind k (a1.1, a1.2.1, ()) w1 l1) fun v2 =>
   some (v2.1, v2.2.2)
  )
def family_Down_b1 (k : Nat) (v3 : List (Int)) (f1 : yT9) (go1 : (List UInt8) -> Int -> Option yT94) (w2 : List UInt8) (t1 : Int) : Option yT94 :=
 if decide (t1 < (List.length v3 : Int)) then
  (
   Option.bind (at? v3 t1) fun x1 =>
   Option.bind (at? f1.2.1 x1) fun x2 =>
   Option.bind (law_Apply k (f1.1.1, f1.1.2.1, ()) x2.2.2.1 w2) fun v4 =>
   if v4.2 != (0 : Int) then
    some (([] : List UInt8), v4.2)
   else
    go1 v4.1 (wi64 (t1 + (1 : Int)))
  )
 else
  some (w2, (0 : Int))
def family_Down_l1 (k : Nat) (v3 : List (Int)) (f1 : yT9) : Nat -> (List UInt8) -> Int -> Option yT94
 | 0, _, _ => none
 | n + 1, w2, t1 => family_Down_b1 k v3 f1 (family_Down_l1 k v3 f1 n) w2 t1
def family_Down (k : Nat) (f1 : yT9) (tongue1 : Int) (w1 : List UInt8) : Option yT94 :=
 Option.bind (family_asked k ((f1.1.1, f1.1.2.1, ()), f1.2.1, ()) ([tongue1] : List (Int))) fun v1 =>
 if v1 != (0 : Int) then
  some (([] : List UInt8), v1)
 else
  (
   Option.bind (word_Check k (f1.1.1, f1.1.2.1, ()) w1) fun v2 =>
   if v2 != (0 : Int) then
    some (([] : List UInt8), v2)
   else
    (
     Option.bind (family_path k ((f1.1.1, f1.1.2.1, ()), f1.2.1, ()) tongue1) fun v3 =>
     family_Down_l1 k v3 f1 k w1 (0 : Int)
    )
  )
def corr_down (k : Nat) (f1 : yT9) (tongue1 : Int) (w1 : List UInt8) : Option yT94 :=
 Option.bind (family_Down k ((f1.1.1, f1.1.2.1, ()), f1.2.1, ()) tongue1 w1) fun v1 =>
 if v1.2 != (0 : Int) then
  some (([] : List UInt8), v1.2)
 else
  some (v1.1, (0 : Int))
def corr_Sets_j1 (go2 : Int -> Int -> (List (List (Int))) -> Option yT83) (t2 : Int) (n2 : Int) (rows3 : List (List (Int))) : Option yT83 :=
 go2 n2 (wi64 (t2 + (1 : Int))) rows3
def corr_Sets_b2 (v4 : (Int × List yT86 × Int)) (go1 : Int -> yT88 -> yT73 -> yT22 -> (List (List (Int))) -> Option yT83) (t1 : Int) (f2 : List (List UInt8)) (f3 : List yT80) (f4 : List yT23) (go2 : Int -> Int -> (List (List (Int))) -> Option yT83) (n1 : Int) (t2 : Int) (rows2 : List (List (Int))) : Option yT83 :=
 if decide (t2 < (List.length v4.2.1 : Int)) then
  (
   Option.bind (at? v4.2.1 t2) fun x1 =>
   if x1.1 != (0 : Int) then
    (
     Option.bind (chk (0 <= n1 /\ n1 < (List.length rows2 : Int))) fun _ =>
     Option.bind (at? rows2 n1) fun x2 =>
     Option.bind (chk (List.length x2 + List.length ([x1.2.1] : List (Int)) <= lim)) fun _ =>
     Option.bind (chk (0 <= n1 /\ n1 < (List.length rows2 : Int))) fun _ =>
     corr_Sets_j1 go2 t2 (wi64 (n1 + (1 : Int))) (List.set rows2 (n1).toNat (x2 ++ ([x1.2.1] : List (Int))))
    )
   else
    corr_Sets_j1 go2 t2 n1 rows2
  )
 else
  go1 (wi64 (t1 + (1 : Int))) f2 f3 f4 rows2
def corr_Sets_l2 (v4 : (Int × List yT86 × Int)) (go1 : Int -> yT88 -> yT73 -> yT22 -> (List (List (Int))) -> Option yT83) (t1 : Int) (f2 : List (List UInt8)) (f3 : List yT80) (f4 : List yT23) : Nat -> Int -> Int -> (List (List (Int))) -> Option yT83
 | 0, _, _, _ => none
 | n + 1, n1, t2, rows2 => corr_Sets_b2 v4 go1 t1 f2 f3 f4 (corr_Sets_l2 v4 go1 t1 f2 f3 f4 n) n1 t2 rows2
def corr_Sets_b1 (k : Nat) (f1 : yT9) (w1 : List UInt8) (go1 : Int -> yT88 -> yT73 -> yT22 -> (List (List (Int))) -> Option yT83) (t1 : Int) (f2 : List (List UInt8)) (f3 : List yT80) (f4 : List yT23) (rows1 : List (List (Int))) : Option yT83 :=
 if decide (t1 < (List.length f1.2.1 : Int)) then
  (
   Option.bind (corr_down k ((f2, f3, ()), f4, ()) t1 w1) fun v3 =>
   if v3.2 != (0 : Int) then
    some (([] : List (List (Int))), v3.2)
   else
    (
     Option.bind (align_Words k (f2, f3, ()) w1 v3.1) fun v4 =>
     if v4.2.2 != (0 : Int) then
      some (([] : List (List (Int))), v4.2.2)
     else
      corr_Sets_l2 v4 go1 t1 f2 f3 f4 k (0 : Int) (0 : Int) rows1
    )
  )
 else
  some (rows1, (0 : Int))
def corr_Sets_l1 (k : Nat) (f1 : yT9) (w1 : List UInt8) : Nat -> Int -> yT88 -> yT73 -> yT22 -> (List (List (Int))) -> Option yT83
 | 0, _, _, _, _, _ => none
 | n + 1, t1, f2, f3, f4, rows1 => corr_Sets_b1 k f1 w1 (corr_Sets_l1 k f1 w1 n) t1 f2 f3 f4 rows1
def corr_Sets (k : Nat) (f1 : yT9) (w1 : List UInt8) : Option yT83 :=
 Option.bind (family_Check k ((f1.1.1, f1.1.2.1, ()), f1.2.1, ())) fun v1 =>
 if v1 != (0 : Int) then
  some (([] : List (List (Int))), v1)
 else
  (
   Option.bind (word_Letters k (f1.1.1, f1.1.2.1, ()) w1) fun v2 =>
   if v2.2 != (0 : Int) then
    some (([] : List (List (Int))), v2.2)
   else
    (
     Option.bind (chk (0 <= (List.length v2.1 : Int) /\ (List.length v2.1 : Int) <= (List.length v2.1 : Int) /\ (List.length v2.1 : Int) <= (lim : Int))) fun _ =>
     corr_Sets_l1 k f1 w1 k (0 : Int) f1.1.1 f1.1.2.1 f1.2.1 (List.replicate ((List.length v2.1 : Int)).toNat ([] : List (Int)))
    )
  )
def corr_Counts (k : Nat) (a1 : yT49) (l1 : List yT88) : Option yT56 :=
 Option.bind (corr_aligned k (a1.1, a1.2.1, ()) l1) fun v1 =>
 if v1.2 != (0 : Int) then
  some (([] : List yT69), v1.2)
 else
  (
   Option.bind (corr_counted k (a1.1, a1.2.1, ()) v1.1) fun v2 =>
   some (v2, (0 : Int))
  )
def corr_Counts_i1 (k : Nat) (a1 : yT49) (l1 : List yT88) : Option yT57 :=
 Option.bind (corr_aligned_i2 k (a1.1, a1.2.1, ()) l1) fun v1 =>
 if v1.1 != (0 : Int) then
  some (v1.1, ([] : List yT69))
 else
  (
   Option.bind (corr_counted_i2 k (a1.1, a1.2.1, ()) v1.2) fun v2 =>
   some ((0 : Int), v2.1)
  )
def corr_Table_j2 (pairs1 : List yT88) (v2 : yT94) (v3 : yT94) (go1 : Int -> yT81 -> Option yT56) (t2 : Int) (t3 : Bool) : Option yT56 :=
 if t3 then
  some (([] : List yT69), (4 : Int))
 else
  (
   Option.bind (chk (List.length pairs1 + List.length ([([v2.1, v3.1] : List (List UInt8))] : List yT88) <= lim)) fun _ =>
   go1 (wi64 (t2 + (1 : Int))) (pairs1 ++ ([([v2.1, v3.1] : List (List UInt8))] : List yT88))
  )
def corr_Table_b1 (k : Nat) (l1 : List (List UInt8)) (f1 : yT9) (x1 : Int) (y1 : Int) (go1 : Int -> yT81 -> Option yT56) (t2 : Int) (pairs1 : List yT88) : Option yT56 :=
 if decide (t2 < (List.length l1 : Int)) then
  (
   Option.bind (at? l1 t2) fun x2 =>
   Option.bind (corr_down k ((f1.1.1, f1.1.2.1, ()), f1.2.1, ()) x1 x2) fun v2 =>
   if v2.2 != (0 : Int) then
    some (([] : List yT69), v2.2)
   else
    (
     Option.bind (corr_down k ((f1.1.1, f1.1.2.1, ()), f1.2.1, ()) y1 x2) fun v3 =>
     if v3.2 != (0 : Int) then
      some (([] : List yT69), v3.2)
     else
      (
       Option.bind (word_Check k (f1.1.1, f1.1.2.1, ()) v2.1) fun v4 =>
       if v4 != (0 : Int) then
        corr_Table_j2 pairs1 v2 v3 go1 t2 true
       else
        (
         Option.bind (word_Check k (f1.1.1, f1.1.2.1, ()) v3.1) fun v5 =>
         corr_Table_j2 pairs1 v2 v3 go1 t2 (v5 != (0 : Int))
        )
      )
    )
  )
 else
  (
   Option.bind (corr_Counts_i1 k (f1.1.1, f1.1.2.1, ()) pairs1) fun v6 =>
   some (v6.2, v6.1)
  )
def corr_Table_l1 (k : Nat) (l1 : List (List UInt8)) (f1 : yT9) (x1 : Int) (y1 : Int) : Nat -> Int -> yT81 -> Option yT56
 | 0, _, _ => none
 | n + 1, t2, pairs1 => corr_Table_b1 k l1 f1 x1 y1 (corr_Table_l1 k l1 f1 x1 y1 n) t2 pairs1
def corr_Table_j1 (k : Nat) (l1 : List (List UInt8)) (f1 : yT9) (x1 : Int) (y1 : Int) (t1 : Bool) : Option yT56 :=
 if t1 then
  some (([] : List yT69), (8 : Int))
 else
  (
   if decide ((4096 : Int) < (List.length l1 : Int)) then
    some (([] : List yT69), (4 : Int))
   else
    corr_Table_l1 k l1 f1 x1 y1 k (0 : Int) ([] : List yT88)
  )
def corr_Table (k : Nat) (f1 : yT9) (x1 : Int) (y1 : Int) (l1 : List (List UInt8)) : Option yT56 :=
 Option.bind (family_Check k ((f1.1.1, f1.1.2.1, ()), f1.2.1, ())) fun v1 =>
 if v1 != (0 : Int) then
  some (([] : List yT69), v1)
 else
  corr_Table_j1 k l1 f1 x1 y1 (decide ((mnI x1 y1) < (0 : Int)) || (decide ((List.length f1.2.1 : Int) <= (mxI x1 y1))))
def corr_Table_i1_j2 (pairs1 : List yT88) (v2 : yT94) (v3 : yT94) (go1 : Int -> yT81 -> Option yT57) (t3 : Int) (t4 : Bool) : Option yT57 :=
 if t4 then
  some ((4 : Int), ([] : List yT69))
 else
  (
   Option.bind (chk (List.length pairs1 + List.length ([([v2.1, v3.1] : List (List UInt8))] : List yT88) <= lim)) fun _ =>
   go1 (wi64 (t3 + (1 : Int))) (pairs1 ++ ([([v2.1, v3.1] : List (List UInt8))] : List yT88))
  )
def corr_Table_i1_b1 (k : Nat) (l1 : List (List UInt8)) (f1 : yT9) (x1 : Int) (y1 : Int) (go1 : Int -> yT81 -> Option yT57) (t3 : Int) (pairs1 : List yT88) : Option yT57 :=
 if decide (t3 < (List.length l1 : Int)) then
  (
   Option.bind (at? l1 t3) fun x2 =>
   Option.bind (corr_down k ((f1.1.1, f1.1.2.1, ()), f1.2.1, ()) x1 x2) fun v2 =>
   if v2.2 != (0 : Int) then
    some (v2.2, ([] : List yT69))
   else
    (
     Option.bind (corr_down k ((f1.1.1, f1.1.2.1, ()), f1.2.1, ()) y1 x2) fun v3 =>
     if v3.2 != (0 : Int) then
      some (v3.2, ([] : List yT69))
     else
      (
       Option.bind (word_Check k (f1.1.1, f1.1.2.1, ()) v2.1) fun v4 =>
       if v4 != (0 : Int) then
        corr_Table_i1_j2 pairs1 v2 v3 go1 t3 true
       else
        (
         Option.bind (word_Check k (f1.1.1, f1.1.2.1, ()) v3.1) fun v5 =>
         corr_Table_i1_j2 pairs1 v2 v3 go1 t3 (v5 != (0 : Int))
        )
      )
    )
  )
 else
  (
   Option.bind (corr_Counts_i1 k (f1.1.1, f1.1.2.1, ()) pairs1) fun v6 =>
   some (v6.1, v6.2)
  )
def corr_Table_i1_l1 (k : Nat) (l1 : List (List UInt8)) (f1 : yT9) (x1 : Int) (y1 : Int) : Nat -> Int -> yT81 -> Option yT57
 | 0, _, _ => none
 | n + 1, t3, pairs1 => corr_Table_i1_b1 k l1 f1 x1 y1 (corr_Table_i1_l1 k l1 f1 x1 y1 n) t3 pairs1
def corr_Table_i1_j1 (k : Nat) (l1 : List (List UInt8)) (f1 : yT9) (x1 : Int) (y1 : Int) (t2 : Bool) : Option yT57 :=
 if t2 then
  some ((8 : Int), ([] : List yT69))
 else
  (
   if decide ((4096 : Int) < (List.length l1 : Int)) then
    some ((4 : Int), ([] : List yT69))
   else
    corr_Table_i1_l1 k l1 f1 x1 y1 k (0 : Int) ([] : List yT88)
  )
def corr_Table_i1 (k : Nat) (f1 : yT9) (x1 : Int) (y1 : Int) (l1 : List (List UInt8)) : Option yT57 :=
 Option.bind (family_Check k ((f1.1.1, f1.1.2.1, ()), f1.2.1, ())) fun v1 =>
 if v1 != (0 : Int) then
  some (v1, ([] : List yT69))
 else
  corr_Table_i1_j1 k l1 f1 x1 y1 (decide ((mnI x1 y1) < (0 : Int)) || (decide ((List.length f1.2.1 : Int) <= (mxI x1 y1))))
def l28_count (k : Nat) (x1 : Int) (y1 : Int) (n1 : Int) : Option ((Int × Int × Unit) × Int × Unit) :=
 some (((x1, y1, ()), n1, ()))
def l28_alive_j4  (t4 : Bool) : Option Bool :=
 some (t4)
def l28_alive_j3 (k : Nat) (v3 : yT56) (t3 : Bool) : Option Bool :=
 if t3 then
  (
   Option.bind (at? v3.1 (2 : Int)) fun x1 =>
   Option.bind (l28_count k (112 : Int) (0 : Int) (1 : Int)) fun v4 =>
   l28_alive_j4 (((eqInt x1.1.1 v4.1.1) && ((eqInt x1.1.2.1 v4.1.2.1) && (true))) && ((eqInt x1.2.1 v4.2.1) && (true)))
  )
 else
  l28_alive_j4 false
def l28_alive_j2 (k : Nat) (v3 : yT56) (t2 : Bool) : Option Bool :=
 if t2 then
  (
   Option.bind (at? v3.1 (1 : Int)) fun x2 =>
   Option.bind (l28_count k (112 : Int) (98 : Int) (2 : Int)) fun v5 =>
   l28_alive_j3 k v3 (((eqInt x2.1.1 v5.1.1) && ((eqInt x2.1.2.1 v5.1.2.1) && (true))) && ((eqInt x2.2.1 v5.2.1) && (true)))
  )
 else
  l28_alive_j3 k v3 false
def l28_alive_j1 (k : Nat) (v3 : yT56) (t1 : Bool) : Option Bool :=
 if t1 then
  (
   Option.bind (at? v3.1 (0 : Int)) fun x3 =>
   Option.bind (l28_count k (97 : Int) (97 : Int) (3 : Int)) fun v6 =>
   l28_alive_j2 k v3 (((eqInt x3.1.1 v6.1.1) && ((eqInt x3.1.2.1 v6.1.2.1) && (true))) && ((eqInt x3.2.1 v6.2.1) && (true)))
  )
 else
  l28_alive_j2 k v3 false
def l28_alive (k : Nat)  : Option Bool :=
 Option.bind (l28_letters k) fun v1 =>
 Option.bind (l28_three k) fun v2 =>
 Option.bind (corr_Counts k v1 v2) fun v3 =>
 l28_alive_j1 k v3 ((v3.2 == (0 : Int)) && ((List.length v3.1 : Int) == (3 : Int)))
def l28_CorrNames_j25  (t25 : Bool) : Option Bool :=
 some (t25)
def l28_CorrNames_j24 (t23 : Bool) (t24 : Bool) : Option Bool :=
 l28_CorrNames_j25 (t24 && t23)
def l28_CorrNames_j23 (k : Nat) (t14 : Bool) (t23 : Bool) : Option Bool :=
 Option.bind (l28_alive k) fun v19 =>
 l28_CorrNames_j24 t23 (v19 && t14)
def l28_CorrNames_j22 (k : Nat) (t14 : Bool) (v18 : yT57) (t22 : Bool) : Option Bool :=
 l28_CorrNames_j23 k t14 (t22 && (v18.1 == (4 : Int)))
def l28_CorrNames_j21 (k : Nat) (t14 : Bool) (v18 : yT57) (v17 : yT56) (t21 : Bool) : Option Bool :=
 l28_CorrNames_j22 k t14 v18 (t21 && (v17.2 == (8 : Int)))
def l28_CorrNames_j20 (k : Nat) (v16 : yT57) (t14 : Bool) (v18 : yT57) (v17 : yT56) (t20 : Bool) : Option Bool :=
 if t20 then
  (
   Option.bind (at? v16.2 (1 : Int)) fun x1 =>
   Option.bind (l28_count k (97 : Int) (97 : Int) (1 : Int)) fun v20 =>
   l28_CorrNames_j21 k t14 v18 v17 (((eqInt x1.1.1 v20.1.1) && ((eqInt x1.1.2.1 v20.1.2.1) && (true))) && ((eqInt x1.2.1 v20.2.1) && (true)))
  )
 else
  l28_CorrNames_j21 k t14 v18 v17 false
def l28_CorrNames_j19 (k : Nat) (v16 : yT57) (t14 : Bool) (v18 : yT57) (v17 : yT56) (t19 : Bool) : Option Bool :=
 if t19 then
  (
   Option.bind (at? v16.2 (0 : Int)) fun x2 =>
   Option.bind (l28_count k (112 : Int) (112 : Int) (1 : Int)) fun v21 =>
   l28_CorrNames_j20 k v16 t14 v18 v17 (((eqInt x2.1.1 v21.1.1) && ((eqInt x2.1.2.1 v21.1.2.1) && (true))) && ((eqInt x2.2.1 v21.2.1) && (true)))
  )
 else
  l28_CorrNames_j20 k v16 t14 v18 v17 false
def l28_CorrNames_j18 (k : Nat) (v16 : yT57) (t14 : Bool) (v18 : yT57) (v17 : yT56) (t18 : Bool) : Option Bool :=
 l28_CorrNames_j19 k v16 t14 v18 v17 (t18 && ((List.length v16.2 : Int) == (2 : Int)))
def l28_CorrNames_j17 (k : Nat) (v16 : yT57) (t14 : Bool) (v18 : yT57) (v17 : yT56) (t17 : Bool) : Option Bool :=
 l28_CorrNames_j18 k v16 t14 v18 v17 (t17 && (v16.1 == (0 : Int)))
def l28_CorrNames_j16 (k : Nat) (v15 : yT83) (v16 : yT57) (t14 : Bool) (v18 : yT57) (v17 : yT56) (t16 : Bool) : Option Bool :=
 if t16 then
  (
   Option.bind (at? v15.1 (1 : Int)) fun x3 =>
   Option.bind (chk (List.length (runesStr x3) <= lim)) fun _ =>
   l28_CorrNames_j17 k v16 t14 v18 v17 ((runesStr x3) == ([97, 97] : List UInt8))
  )
 else
  l28_CorrNames_j17 k v16 t14 v18 v17 false
def l28_CorrNames_j15 (k : Nat) (v15 : yT83) (v16 : yT57) (t14 : Bool) (v18 : yT57) (v17 : yT56) (t15 : Bool) : Option Bool :=
 if t15 then
  (
   Option.bind (at? v15.1 (0 : Int)) fun x4 =>
   Option.bind (chk (List.length (runesStr x4) <= lim)) fun _ =>
   l28_CorrNames_j16 k v15 v16 t14 v18 v17 ((runesStr x4) == ([112, 112] : List UInt8))
  )
 else
  l28_CorrNames_j16 k v15 v16 t14 v18 v17 false
def l28_CorrNames_j14 (k : Nat) (t14 : Bool) : Option Bool :=
 Option.bind (l28_letters k) fun v14 =>
 Option.bind (corr_Sets k ((v14.1, v14.2.1, ()), ([(([112] : List UInt8), (-1 : Int), ([] : List yT25), ()), (([113] : List UInt8), (0 : Int), ([] : List yT25), ())] : List yT23), ()) ([112, 97] : List UInt8)) fun v15 =>
 Option.bind (corr_Table_i1 k ((v14.1, v14.2.1, ()), ([(([112] : List UInt8), (-1 : Int), ([] : List yT25), ()), (([113] : List UInt8), (0 : Int), ([] : List yT25), ())] : List yT23), ()) (0 : Int) (1 : Int) ([([112, 97] : List UInt8)] : List (List UInt8))) fun v16 =>
 Option.bind (corr_Table k ((v14.1, v14.2.1, ()), ([(([112] : List UInt8), (-1 : Int), ([] : List yT25), ()), (([113] : List UInt8), (0 : Int), ([] : List yT25), ())] : List yT23), ()) (9 : Int) (0 : Int) ([] : List (List UInt8))) fun v17 =>
 Option.bind (chk (0 <= (4097 : Int) /\ (4097 : Int) <= (4097 : Int) /\ (4097 : Int) <= (lim : Int))) fun _ =>
 Option.bind (corr_Table_i1 k ((v14.1, v14.2.1, ()), ([(([112] : List UInt8), (-1 : Int), ([] : List yT25), ()), (([113] : List UInt8), (0 : Int), ([] : List yT25), ())] : List yT23), ()) (0 : Int) (1 : Int) (List.replicate ((4097 : Int)).toNat ([] : List UInt8))) fun v18 =>
 l28_CorrNames_j15 k v15 v16 t14 v18 v17 ((v15.2 == (0 : Int)) && ((List.length v15.1 : Int) == (2 : Int)))
def l28_CorrNames_j13 (k : Nat) (v13 : yT93) (t13 : Bool) : Option Bool :=
 if t13 then
  (
   Option.bind (at? v13.2 (0 : Int)) fun x5 =>
   l28_CorrNames_j14 k (x5 == (0 : Int))
  )
 else
  l28_CorrNames_j14 k false
def l28_CorrNames_j12 (k : Nat) (v13 : yT93) (t12 : Bool) : Option Bool :=
 l28_CorrNames_j13 k v13 (t12 && ((List.length v13.2 : Int) == (1 : Int)))
def l28_CorrNames_j11 (k : Nat) (v13 : yT93) (t11 : Bool) : Option Bool :=
 l28_CorrNames_j12 k v13 (t11 && (v13.1 == (0 : Int)))
def l28_CorrNames_j10 (k : Nat) (v11 : yT91) (v13 : yT93) (t10 : Bool) : Option Bool :=
 if t10 then
  (
   Option.bind (at? v11.1 (0 : Int)) fun x6 =>
   l28_CorrNames_j11 k v13 (x6 == (2 : Int))
  )
 else
  l28_CorrNames_j11 k v13 false
def l28_CorrNames_j9 (k : Nat) (v11 : yT91) (v13 : yT93) (t9 : Bool) : Option Bool :=
 l28_CorrNames_j10 k v11 v13 (t9 && ((List.length v11.1 : Int) == (1 : Int)))
def l28_CorrNames_j8 (k : Nat) (v11 : yT91) (v13 : yT93) (t8 : Bool) : Option Bool :=
 l28_CorrNames_j9 k v11 v13 (t8 && (v11.2 == (0 : Int)))
def l28_CorrNames_j7 (k : Nat) (v11 : yT91) (v13 : yT93) (v8 : yT92) (t7 : Bool) : Option Bool :=
 l28_CorrNames_j8 k v11 v13 (t7 && (v8.2.2 == (0 : Int)))
def l28_CorrNames_j6 (k : Nat) (v11 : yT91) (v13 : yT93) (v8 : yT92) (t6 : Bool) : Option Bool :=
 l28_CorrNames_j7 k v11 v13 v8 (t6 && (v8.2.1 == (-1 : Int)))
def l28_CorrNames_j5 (k : Nat) (v11 : yT91) (v13 : yT93) (v8 : yT92) (t5 : Bool) : Option Bool :=
 l28_CorrNames_j6 k v11 v13 v8 (t5 && v8.1)
def l28_CorrNames_j4 (k : Nat) (v11 : yT91) (v13 : yT93) (v8 : yT92) (v6 : yT92) (t4 : Bool) : Option Bool :=
 l28_CorrNames_j5 k v11 v13 v8 (t4 && (v6.2.2 == (0 : Int)))
def l28_CorrNames_j3 (k : Nat) (v11 : yT91) (v13 : yT93) (v8 : yT92) (v6 : yT92) (t3 : Bool) : Option Bool :=
 l28_CorrNames_j4 k v11 v13 v8 v6 (t3 && (v6.2.1 == (2 : Int)))
def l28_CorrNames_j2 (k : Nat) (v11 : yT91) (v13 : yT93) (v8 : yT92) (v6 : yT92) (t2 : Bool) : Option Bool :=
 l28_CorrNames_j3 k v11 v13 v8 v6 (t2 && (!v6.1))
def l28_CorrNames_j1 (k : Nat) (v11 : yT91) (v13 : yT93) (v8 : yT92) (v6 : yT92) (v3 : yT92) (t1 : Bool) : Option Bool :=
 l28_CorrNames_j2 k v11 v13 v8 v6 (t1 && (v3.2.2 == (0 : Int)))
def l28_CorrNames (k : Nat)  : Option Bool :=
 Option.bind (l28_letters k) fun v1 =>
 Option.bind (l28_three k) fun v2 =>
 Option.bind (sub? v2 (0 : Int) (2 : Int)) fun s1 =>
 Option.bind (corr_Regular k v1 s1) fun v3 =>
 Option.bind (l28_letters k) fun v4 =>
 Option.bind (l28_three k) fun v5 =>
 Option.bind (corr_Regular k v4 v5) fun v6 =>
 Option.bind (l28_letters k) fun v7 =>
 Option.bind (corr_Regular k v7 ([] : List yT88)) fun v8 =>
 Option.bind (l28_letters k) fun v9 =>
 Option.bind (l28_three k) fun v10 =>
 Option.bind (corr_Odd k v9 v10) fun v11 =>
 Option.bind (l28_letters k) fun v12 =>
 Option.bind (corr_Odd_i2 k v12 ([([([112, 112] : List UInt8), ([112, 98] : List UInt8)] : List (List UInt8))] : List yT88)) fun v13 =>
 l28_CorrNames_j1 k v11 v13 v8 v6 v3 (v3.1 && (v3.2.1 == (-1 : Int)))
end Go.Ev
