/- Shallow functions, by program. -/
import Derived.Test.YtciikbiapmbocaaDoorEvS
import Derived.Test.YtciikbiapmbocaaDoorLibX
import Derived.Test.YtciikbiapmbocaaDoorShRu1
import Derived.Test.YtciikbiapmbocaaDoorShRu2
import Derived.Test.YtciikbiapmbocaaDoorShRu3
namespace Go.Ev
open Go
set_option linter.unusedVariables false

/-- cognate/cognateref01.sixteen -/
def r01_sixteen (k : Nat) (n1 : Int) : Option (List UInt8) :=
  Option.bind (sub? ([48, 49, 50, 51, 52, 53, 54, 55, 56, 57, 97, 98, 99, 100, 101, 102] : List UInt8) n1 (wi64 (n1 + (1 : Int)))) fun s1 =>
  some (s1)

/-- cognate/cognateref01.number -/
def r01_number : Nat → Int → Option (List UInt8)
  | 0, _ => none
  | k + 1, n1 =>
    if decide (n1 < (16 : Int)) then
      (
        Option.bind (r01_sixteen k n1) fun v1 =>
        some (v1)
      )
    else
      (
        Option.bind (chk ((16 : Int) ≠ 0)) fun _ =>
        Option.bind ((r01_number k) (wi64 (Int.tdiv n1 (16 : Int)))) fun v2 =>
        Option.bind (chk ((16 : Int) ≠ 0)) fun _ =>
        Option.bind (r01_sixteen k (Int.tmod n1 (16 : Int))) fun v3 =>
        Option.bind (chk (List.length v2 + List.length v3 ≤ lim)) fun _ =>
        some (v2 ++ v3)
      )

def r01_shown_j2 (k : Nat) (s1 : List UInt8) (p1 : (Int × Int × Int × Bool × Unit)) (t2 : Bool) : Option (List UInt8) :=
  if t2 then
    (
      Option.bind (sub? s1 p1.2.1 (wi64 (p1.2.1 + (1 : Int)))) fun s3 =>
      some (s3)
    )
  else
    (
      Option.bind (r01_number k (wi64 p1.1)) fun v3 =>
      Option.bind (chk (List.length ([92, 117] : List UInt8) + List.length v3 ≤ lim)) fun _ =>
      Option.bind (chk (List.length (([92, 117] : List UInt8) ++ v3) + List.length ([59] : List UInt8) ≤ lim)) fun _ =>
      some ((([92, 117] : List UInt8) ++ v3) ++ ([59] : List UInt8))
    )
def r01_shown_j1 (k : Nat) (s1 : List UInt8) (p1 : (Int × Int × Int × Bool × Unit)) (b1 : Int) (t1 : Bool) : Option (List UInt8) :=
  if t1 then
    (
      Option.bind (sub? s1 p1.2.1 (wi64 (p1.2.1 + (1 : Int)))) fun s2 =>
      Option.bind (chk (List.length ([92] : List UInt8) + List.length s2 ≤ lim)) fun _ =>
      some (([92] : List UInt8) ++ s2)
    )
  else
    r01_shown_j2 k s1 p1 (decide ((32 : Int) ≤ b1) && (decide (b1 ≤ (126 : Int))))
/-- cognate/cognateref01.shown -/
def r01_shown (k : Nat) (s1 : List UInt8) (p1 : (Int × Int × Int × Bool × Unit)) : Option (List UInt8) :=
  Option.bind (byteAt s1 p1.2.1) fun b1 =>
  if p1.2.2.2.1 then
    (
      Option.bind (chk ((16 : Int) ≠ 0)) fun _ =>
      Option.bind (r01_sixteen k (wi64 (Int.tdiv (wi64 b1) (16 : Int)))) fun v1 =>
      Option.bind (chk (List.length ([92, 120] : List UInt8) + List.length v1 ≤ lim)) fun _ =>
      Option.bind (chk ((16 : Int) ≠ 0)) fun _ =>
      Option.bind (r01_sixteen k (Int.tmod (wi64 b1) (16 : Int))) fun v2 =>
      Option.bind (chk (List.length (([92, 120] : List UInt8) ++ v1) + List.length v2 ≤ lim)) fun _ =>
      some ((([92, 120] : List UInt8) ++ v1) ++ v2)
    )
  else
    r01_shown_j1 k s1 p1 b1 ((b1 == (34 : Int)) || (b1 == (92 : Int)))

def r01_quote_b1 (k : Nat) (v1 : List ((Int × Int × Int × Bool × Unit))) (s1 : List UInt8) (go1 : Int → (List (Int)) → Option (List UInt8)) (i1 : Int) (t1 : List (Int)) : Option (List UInt8) :=
  if decide (i1 < (List.length v1 : Int)) then
    (
      Option.bind (at? v1 i1) fun x1 =>
      Option.bind (r01_shown k s1 x1) fun v2 =>
      Option.bind (chk (List.length t1 + List.length (bytesEl v2) ≤ lim)) fun _ =>
      go1 (wi64 (i1 + (1 : Int))) (t1 ++ (bytesEl v2))
    )
  else
    (
      Option.bind (chk (List.length t1 + List.length ([(34 : Int)] : List (Int)) ≤ lim)) fun _ =>
      some (bytesStr (t1 ++ ([(34 : Int)] : List (Int))))
    )
def r01_quote_l1 (k : Nat) (v1 : List ((Int × Int × Int × Bool × Unit))) (s1 : List UInt8) : Nat → Int → (List (Int)) → Option (List UInt8)
  | 0, _, _ => none
  | n + 1, i1, t1 => r01_quote_b1 k v1 s1 (r01_quote_l1 k v1 s1 n) i1 t1
/-- cognate/cognateref01.quote -/
def r01_quote (k : Nat) (s1 : List UInt8) : Option (List UInt8) :=
  Option.bind (r01_All k s1) fun v1 =>
  r01_quote_l1 k v1 s1 k (0 : Int) ([(34 : Int)] : List (Int))

/-- cognate/cognateref01.Quote -/
def r01_Quote (k : Nat) (s1 : List UInt8) : Option (List UInt8 × Int) :=
  if decide ((65536 : Int) < (List.length s1 : Int)) then
    some (([] : List UInt8), (3 : Int))
  else
    (
      Option.bind (r01_quote k s1) fun v1 =>
      some (v1, (0 : Int))
    )

def internal_stringslite_HasPrefix_j1  (t1 : Bool) : Option Bool :=
  some (t1)
/-- internal/stringslite.HasPrefix -/
def internal_stringslite_HasPrefix (k : Nat) (s1 : List UInt8) (prefix1 : List UInt8) : Option Bool :=
  if decide ((List.length prefix1 : Int) ≤ (List.length s1 : Int)) then
    (
      Option.bind (sub? s1 (0 : Int) (List.length prefix1 : Int)) fun s2 =>
      internal_stringslite_HasPrefix_j1 (s2 == prefix1)
    )
  else
    internal_stringslite_HasPrefix_j1 false

/-- strings.HasPrefix -/
def strings_HasPrefix (k : Nat) (s1 : List UInt8) (prefix1 : List UInt8) : Option Bool :=
  Option.bind (internal_stringslite_HasPrefix k s1 prefix1) fun v1 =>
  some (v1)

def strings_trimLeftByte_j1 (s2 : List UInt8) (go1 : (List UInt8) → Option (List UInt8)) (t1 : Bool) : Option (List UInt8) :=
  if t1 then
    (
      Option.bind (sub? s2 (1 : Int) (s2.length : Int)) fun s3 =>
      go1 s3
    )
  else
    some (s2)
def strings_trimLeftByte_b1 (c1 : Int) (go1 : (List UInt8) → Option (List UInt8)) (s2 : List UInt8) : Option (List UInt8) :=
  if decide ((0 : Int) < (List.length s2 : Int)) then
    (
      Option.bind (byteAt s2 (0 : Int)) fun b1 =>
      strings_trimLeftByte_j1 s2 go1 (b1 == c1)
    )
  else
    strings_trimLeftByte_j1 s2 go1 false
def strings_trimLeftByte_l1 (c1 : Int) : Nat → (List UInt8) → Option (List UInt8)
  | 0, _ => none
  | n + 1, s2 => strings_trimLeftByte_b1 c1 (strings_trimLeftByte_l1 c1 n) s2
/-- strings.trimLeftByte -/
def strings_trimLeftByte (k : Nat) (s1 : List UInt8) (c1 : Int) : Option (List UInt8) :=
  strings_trimLeftByte_l1 c1 k s1

def strings_makeASCIISet_b1 (chars1 : List UInt8) (go1 : Int → (List (Bool)) → Option (List (Bool) × Bool)) (i1 : Int) (blk1 : List (Bool)) : Option (List (Bool) × Bool) :=
  if decide (i1 < (List.length chars1 : Int)) then
    (
      Option.bind (byteAt chars1 i1) fun b1 =>
      if decide ((128 : Int) ≤ b1) then
        some (blk1, false)
      else
        (
          Option.bind (chk (0 ≤ b1 ∧ b1 < (256 : Int))) fun _ =>
          Option.bind (at? blk1 b1) fun x1 =>
          go1 (wi64 (i1 + (1 : Int))) (List.set blk1 (b1).toNat true)
        )
    )
  else
    some (blk1, true)
def strings_makeASCIISet_l1 (chars1 : List UInt8) : Nat → Int → (List (Bool)) → Option (List (Bool) × Bool)
  | 0, _, _ => none
  | n + 1, i1, blk1 => strings_makeASCIISet_b1 chars1 (strings_makeASCIISet_l1 chars1 n) i1 blk1
/-- strings.makeASCIISet -/
def strings_makeASCIISet (k : Nat) (chars1 : List UInt8) : Option (List (Bool) × Bool) :=
  strings_makeASCIISet_l1 chars1 k (0 : Int) (List.replicate 256 false)

/-- (*strings.asciiSet).contains -/
def strings_asciiSet_contains (k : Nat) (as1 : List (Bool)) (c1 : Int) : Option Bool :=
  Option.bind (at? as1 c1) fun x1 =>
  some (x1)

def strings_trimLeftASCII_j1  (s2 : List UInt8) : Option (List UInt8) :=
  some (s2)
def strings_trimLeftASCII_b1 (k : Nat) (as1 : List (Bool)) (go1 : (List UInt8) → Option (List UInt8)) (s3 : List UInt8) : Option (List UInt8) :=
  if decide ((0 : Int) < (List.length s3 : Int)) then
    (
      Option.bind (byteAt s3 (0 : Int)) fun b1 =>
      Option.bind (strings_asciiSet_contains k as1 b1) fun v1 =>
      if !v1 then
        strings_trimLeftASCII_j1 s3
      else
        (
          Option.bind (sub? s3 (1 : Int) (s3.length : Int)) fun s4 =>
          go1 s4
        )
    )
  else
    strings_trimLeftASCII_j1 s3
def strings_trimLeftASCII_l1 (k : Nat) (as1 : List (Bool)) : Nat → (List UInt8) → Option (List UInt8)
  | 0, _ => none
  | n + 1, s3 => strings_trimLeftASCII_b1 k as1 (strings_trimLeftASCII_l1 k as1 n) s3
/-- strings.trimLeftASCII -/
def strings_trimLeftASCII (k : Nat) (s1 : List UInt8) (as1 : List (Bool)) : Option (List UInt8) :=
  strings_trimLeftASCII_l1 k as1 k s1

/-- strings.trimLeftUnicode -/
def strings_trimLeftUnicode (k : Nat) (s1 : List UInt8) (cutset1 : List UInt8) : Option (List UInt8) :=
  none

def strings_TrimLeft_j2 (k : Nat) (cutset1 : List UInt8) (s1 : List UInt8) (t2 : Bool) : Option (List UInt8) :=
  if t2 then
    (
      Option.bind (byteAt cutset1 (0 : Int)) fun b1 =>
      Option.bind (strings_trimLeftByte k s1 b1) fun v1 =>
      some (v1)
    )
  else
    (
      Option.bind (strings_makeASCIISet k cutset1) fun v2 =>
      if v2.2 then
        (
          Option.bind (strings_trimLeftASCII k s1 v2.1) fun v3 =>
          some (v3)
        )
      else
        (
          Option.bind (strings_trimLeftUnicode k s1 cutset1) fun v4 =>
          some (v4)
        )
    )
def strings_TrimLeft_j1 (k : Nat) (s1 : List UInt8) (cutset1 : List UInt8) (t1 : Bool) : Option (List UInt8) :=
  if t1 then
    some (s1)
  else
    (
      if (List.length cutset1 : Int) == (1 : Int) then
        (
          Option.bind (byteAt cutset1 (0 : Int)) fun b2 =>
          strings_TrimLeft_j2 k cutset1 s1 (decide (b2 < (128 : Int)))
        )
      else
        strings_TrimLeft_j2 k cutset1 s1 false
    )
/-- strings.TrimLeft -/
def strings_TrimLeft (k : Nat) (s1 : List UInt8) (cutset1 : List UInt8) : Option (List UInt8) :=
  strings_TrimLeft_j1 k s1 cutset1 ((s1 == ([] : List UInt8)) || (cutset1 == ([] : List UInt8)))

/-- internal/strconv.lower -/
def internal_strconv_lower (k : Nat) (c1 : Int) : Option Int :=
  some (wu8 (BitVec.toNat (BitVec.ofInt 8 c1 ||| BitVec.ofInt 8 (32 : Int))))

def internal_strconv_underscoreOK_j3 (go1 : Int → Int → Option Bool) (i2 : Int) (saw3 : Int) : Option Bool :=
  go1 saw3 (wi64 (i2 + (1 : Int)))
def internal_strconv_underscoreOK_j5 (go1 : Int → Int → Option Bool) (i2 : Int) (s2 : List UInt8) (saw2 : Int) (t2 : Bool) : Option Bool :=
  if t2 then
    internal_strconv_underscoreOK_j3 go1 i2 (48 : Int)
  else
    (
      Option.bind (byteAt s2 i2) fun b2 =>
      if b2 == (95 : Int) then
        (
          if saw2 != (48 : Int) then
            some (false)
          else
            internal_strconv_underscoreOK_j3 go1 i2 (95 : Int)
        )
      else
        (
          if saw2 == (95 : Int) then
            some (false)
          else
            internal_strconv_underscoreOK_j3 go1 i2 (33 : Int)
        )
    )
def internal_strconv_underscoreOK_j7 (go1 : Int → Int → Option Bool) (i2 : Int) (s2 : List UInt8) (saw2 : Int) (t4 : Bool) : Option Bool :=
  internal_strconv_underscoreOK_j5 go1 i2 s2 saw2 t4
def internal_strconv_underscoreOK_j6 (k : Nat) (s2 : List UInt8) (i2 : Int) (go1 : Int → Int → Option Bool) (saw2 : Int) (t3 : Bool) : Option Bool :=
  if t3 then
    (
      Option.bind (byteAt s2 i2) fun b3 =>
      Option.bind (internal_strconv_lower k b3) fun v1 =>
      internal_strconv_underscoreOK_j7 go1 i2 s2 saw2 (decide (v1 ≤ (102 : Int)))
    )
  else
    internal_strconv_underscoreOK_j7 go1 i2 s2 saw2 false
def internal_strconv_underscoreOK_j4 (k : Nat) (go1 : Int → Int → Option Bool) (i2 : Int) (s2 : List UInt8) (saw2 : Int) (hex1 : Bool) (t1 : Bool) : Option Bool :=
  if t1 then
    internal_strconv_underscoreOK_j5 go1 i2 s2 saw2 true
  else
    (
      if hex1 then
        (
          Option.bind (byteAt s2 i2) fun b4 =>
          Option.bind (internal_strconv_lower k b4) fun v2 =>
          internal_strconv_underscoreOK_j6 k s2 i2 go1 saw2 (decide ((97 : Int) ≤ v2))
        )
      else
        internal_strconv_underscoreOK_j6 k s2 i2 go1 saw2 false
    )
def internal_strconv_underscoreOK_b1 (k : Nat) (s2 : List UInt8) (hex1 : Bool) (go1 : Int → Int → Option Bool) (saw2 : Int) (i2 : Int) : Option Bool :=
  if decide (i2 < (List.length s2 : Int)) then
    (
      Option.bind (byteAt s2 i2) fun b1 =>
      if decide ((48 : Int) ≤ b1) then
        (
          Option.bind (byteAt s2 i2) fun b5 =>
          internal_strconv_underscoreOK_j4 k go1 i2 s2 saw2 hex1 (decide (b5 ≤ (57 : Int)))
        )
      else
        internal_strconv_underscoreOK_j4 k go1 i2 s2 saw2 hex1 false
    )
  else
    some (saw2 != (95 : Int))
def internal_strconv_underscoreOK_l1 (k : Nat) (s2 : List UInt8) (hex1 : Bool) : Nat → Int → Int → Option Bool
  | 0, _, _ => none
  | n + 1, saw2, i2 => internal_strconv_underscoreOK_b1 k s2 hex1 (internal_strconv_underscoreOK_l1 k s2 hex1 n) saw2 i2
def internal_strconv_underscoreOK_j2 (k : Nat) (s2 : List UInt8) (saw1 : Int) (i1 : Int) (hex1 : Bool) : Option Bool :=
  internal_strconv_underscoreOK_l1 k s2 hex1 k saw1 i1
def internal_strconv_underscoreOK_j9 (k : Nat) (s2 : List UInt8) (t6 : Bool) : Option Bool :=
  if t6 then
    (
      Option.bind (byteAt s2 (1 : Int)) fun b6 =>
      Option.bind (internal_strconv_lower k b6) fun v3 =>
      internal_strconv_underscoreOK_j2 k s2 (48 : Int) (2 : Int) (v3 == (120 : Int))
    )
  else
    internal_strconv_underscoreOK_j2 k s2 (94 : Int) (0 : Int) false
def internal_strconv_underscoreOK_j11 (k : Nat) (s2 : List UInt8) (t8 : Bool) : Option Bool :=
  internal_strconv_underscoreOK_j9 k s2 t8
def internal_strconv_underscoreOK_j10 (k : Nat) (s2 : List UInt8) (t7 : Bool) : Option Bool :=
  if t7 then
    internal_strconv_underscoreOK_j11 k s2 true
  else
    (
      Option.bind (byteAt s2 (1 : Int)) fun b8 =>
      Option.bind (internal_strconv_lower k b8) fun v5 =>
      internal_strconv_underscoreOK_j11 k s2 (v5 == (120 : Int))
    )
def internal_strconv_underscoreOK_j8 (k : Nat) (s2 : List UInt8) (t5 : Bool) : Option Bool :=
  if t5 then
    (
      Option.bind (byteAt s2 (1 : Int)) fun b7 =>
      Option.bind (internal_strconv_lower k b7) fun v4 =>
      if v4 == (98 : Int) then
        internal_strconv_underscoreOK_j10 k s2 true
      else
        (
          Option.bind (byteAt s2 (1 : Int)) fun b9 =>
          Option.bind (internal_strconv_lower k b9) fun v6 =>
          internal_strconv_underscoreOK_j10 k s2 (v6 == (111 : Int))
        )
    )
  else
    internal_strconv_underscoreOK_j9 k s2 false
def internal_strconv_underscoreOK_j1 (k : Nat) (s2 : List UInt8) : Option Bool :=
  if decide ((2 : Int) ≤ (List.length s2 : Int)) then
    (
      Option.bind (byteAt s2 (0 : Int)) fun b10 =>
      internal_strconv_underscoreOK_j8 k s2 (b10 == (48 : Int))
    )
  else
    internal_strconv_underscoreOK_j8 k s2 false
def internal_strconv_underscoreOK_j12 (k : Nat) (s1 : List UInt8) (t9 : Bool) : Option Bool :=
  if t9 then
    (
      Option.bind (sub? s1 (1 : Int) (s1.length : Int)) fun s3 =>
      internal_strconv_underscoreOK_j1 k s3
    )
  else
    internal_strconv_underscoreOK_j1 k s1
def internal_strconv_underscoreOK_j13 (k : Nat) (s1 : List UInt8) (t10 : Bool) : Option Bool :=
  internal_strconv_underscoreOK_j12 k s1 t10
/-- internal/strconv.underscoreOK -/
def internal_strconv_underscoreOK (k : Nat) (s1 : List UInt8) : Option Bool :=
  if decide ((1 : Int) ≤ (List.length s1 : Int)) then
    (
      Option.bind (byteAt s1 (0 : Int)) fun b11 =>
      if b11 == (45 : Int) then
        internal_strconv_underscoreOK_j13 k s1 true
      else
        (
          Option.bind (byteAt s1 (0 : Int)) fun b12 =>
          internal_strconv_underscoreOK_j13 k s1 (b12 == (43 : Int))
        )
    )
  else
    internal_strconv_underscoreOK_j12 k s1 false

def internal_strconv_ParseUint_16_j3 (bitsize2 : Int) (go1 : Int → Int → Option (Int × Option (Option (Nat × Int)))) (n1 : Int) (d1 : Int) (t1 : Int) (t2 : Bool) : Option (Int × Option (Option (Nat × Int))) :=
  if t2 then
    some (wu64 ((wu64 ((1 : Int) * 2 ^ min (wu64 bitsize2).toNat 64)) - (1 : Int)), (some (some (101, (1 : Int))) : Option (Option (Nat × Int))))
  else
    go1 (wu64 ((wu64 (n1 * (16 : Int))) + (wu64 d1))) (wi64 (t1 + (1 : Int)))
def internal_strconv_ParseUint_16_j2 (n1 : Int) (bitsize2 : Int) (go1 : Int → Int → Option (Int × Option (Option (Nat × Int)))) (t1 : Int) (d1 : Int) : Option (Int × Option (Option (Nat × Int))) :=
  if decide ((16 : Int) ≤ d1) then
    some ((0 : Int), (some (some (101, (2 : Int))) : Option (Option (Nat × Int))))
  else
    (
      if decide ((1152921504606846976 : Int) ≤ n1) then
        some (wu64 ((wu64 ((1 : Int) * 2 ^ min (wu64 bitsize2).toNat 64)) - (1 : Int)), (some (some (101, (1 : Int))) : Option (Option (Nat × Int))))
      else
        internal_strconv_ParseUint_16_j3 bitsize2 go1 n1 d1 t1 (decide ((wu64 ((wu64 (n1 * (16 : Int))) + (wu64 d1))) < (wu64 (n1 * (16 : Int)))) || (decide ((wu64 ((wu64 ((1 : Int) * 2 ^ min (wu64 bitsize2).toNat 64)) - (1 : Int))) < (wu64 ((wu64 (n1 * (16 : Int))) + (wu64 d1))))))
    )
def internal_strconv_ParseUint_16_j6 (k : Nat) (x1 : Int) (n1 : Int) (bitsize2 : Int) (go1 : Int → Int → Option (Int × Option (Option (Nat × Int)))) (t1 : Int) (t4 : Bool) : Option (Int × Option (Option (Nat × Int))) :=
  if t4 then
    (
      Option.bind (internal_strconv_lower k x1) fun v2 =>
      internal_strconv_ParseUint_16_j2 n1 bitsize2 go1 t1 (wu8 ((wu8 (v2 - (97 : Int))) + (10 : Int)))
    )
  else
    some ((0 : Int), (some (some (101, (2 : Int))) : Option (Option (Nat × Int))))
def internal_strconv_ParseUint_16_j5 (k : Nat) (n1 : Int) (bitsize2 : Int) (go1 : Int → Int → Option (Int × Option (Option (Nat × Int)))) (t1 : Int) (x1 : Int) (t3 : Bool) : Option (Int × Option (Option (Nat × Int))) :=
  if t3 then
    internal_strconv_ParseUint_16_j2 n1 bitsize2 go1 t1 (wu8 (x1 - (48 : Int)))
  else
    (
      Option.bind (internal_strconv_lower k x1) fun v1 =>
      if decide ((97 : Int) ≤ v1) then
        (
          Option.bind (internal_strconv_lower k x1) fun v3 =>
          internal_strconv_ParseUint_16_j6 k x1 n1 bitsize2 go1 t1 (decide (v3 ≤ (122 : Int)))
        )
      else
        internal_strconv_ParseUint_16_j6 k x1 n1 bitsize2 go1 t1 false
    )
def internal_strconv_ParseUint_16_j4 (k : Nat) (n1 : Int) (bitsize2 : Int) (go1 : Int → Int → Option (Int × Option (Option (Nat × Int)))) (t1 : Int) (x1 : Int) : Option (Int × Option (Option (Nat × Int))) :=
  internal_strconv_ParseUint_16_j5 k n1 bitsize2 go1 t1 x1 (decide ((48 : Int) ≤ x1) && (decide (x1 ≤ (57 : Int))))
def internal_strconv_ParseUint_16_b1 (k : Nat) (s1 : List UInt8) (bitsize2 : Int) (go1 : Int → Int → Option (Int × Option (Option (Nat × Int)))) (n1 : Int) (t1 : Int) : Option (Int × Option (Option (Nat × Int))) :=
  if decide (t1 < (List.length (bytesEl s1) : Int)) then
    (
      Option.bind (at? (bytesEl s1) t1) fun x1 =>
      if x1 == (95 : Int) then
        internal_strconv_ParseUint_16_j4 k n1 bitsize2 go1 t1 x1
      else
        internal_strconv_ParseUint_16_j4 k n1 bitsize2 go1 t1 x1
    )
  else
    some (n1, (none : Option (Option (Nat × Int))))
def internal_strconv_ParseUint_16_l1 (k : Nat) (s1 : List UInt8) (bitsize2 : Int) : Nat → Int → Int → Option (Int × Option (Option (Nat × Int)))
  | 0, _, _ => none
  | n + 1, n1, t1 => internal_strconv_ParseUint_16_b1 k s1 bitsize2 (internal_strconv_ParseUint_16_l1 k s1 bitsize2 n) n1 t1
def internal_strconv_ParseUint_16_j1 (k : Nat) (s1 : List UInt8) (bitsize2 : Int) : Option (Int × Option (Option (Nat × Int))) :=
  Option.bind (chk (0 ≤ (wu64 bitsize2))) fun _ =>
  internal_strconv_ParseUint_16_l1 k s1 bitsize2 k (0 : Int) (0 : Int)
def internal_strconv_ParseUint_16_j7 (k : Nat) (s1 : List UInt8) (bitsize1 : Int) (t5 : Bool) : Option (Int × Option (Option (Nat × Int))) :=
  if t5 then
    some ((0 : Int), (some (some (101, (4 : Int))) : Option (Option (Nat × Int))))
  else
    internal_strconv_ParseUint_16_j1 k s1 bitsize1
/-- internal/strconv.ParseUint -/
def internal_strconv_ParseUint_16 (k : Nat) (s1 : List UInt8) (bitsize1 : Int) : Option (Int × Option (Option (Nat × Int))) :=
  if s1 == ([] : List UInt8) then
    some ((0 : Int), (some (some (101, (2 : Int))) : Option (Option (Nat × Int))))
  else
    (
      if bitsize1 == (0 : Int) then
        internal_strconv_ParseUint_16_j1 k s1 (64 : Int)
      else
        internal_strconv_ParseUint_16_j7 k s1 bitsize1 (decide (bitsize1 < (0 : Int)) || (decide ((64 : Int) < bitsize1)))
    )

/-- strconv.ParseUint -/
def strconv_ParseUint_16 (k : Nat) (s1 : List UInt8) (bitsize1 : Int) : Option (Int × Option (Option (Nat × Int))) :=
  Option.bind (internal_strconv_ParseUint_16 k s1 bitsize1) fun v1 =>
  if !Option.isNone v1.2 then
    (
      Option.bind (strconv_toError k ([80, 97, 114, 115, 101, 85, 105, 110, 116] : List UInt8) s1 (16 : Int) bitsize1 v1.2) fun v2 =>
      some (v1.1, v2)
    )
  else
    some (v1.1, (none : Option (Option (Nat × Int))))

def unicode_utf8_ValidRune_j2  (t2 : Bool) : Option Bool :=
  if t2 then
    some (true)
  else
    some (false)
def unicode_utf8_ValidRune_j1 (r1 : Int) (t1 : Bool) : Option Bool :=
  if t1 then
    some (true)
  else
    unicode_utf8_ValidRune_j2 (decide ((57343 : Int) < r1) && (decide (r1 ≤ (1114111 : Int))))
/-- unicode/utf8.ValidRune -/
def unicode_utf8_ValidRune (k : Nat) (r1 : Int) : Option Bool :=
  unicode_utf8_ValidRune_j1 r1 (decide ((0 : Int) ≤ r1) && (decide (r1 < (55296 : Int))))

def runes_thing_j1 (s1 : List UInt8) (t1 : Bool) : Option (List UInt8 × Int) :=
  if t1 then
    some (([] : List UInt8), (0 : Int))
  else
    (
      Option.bind (sub? s1 (0 : Int) (1 : Int)) fun s2 =>
      some (s2, (1 : Int))
    )
def runes_thing_j3 (k : Nat) (s1 : List UInt8) (t3 : Bool) : Option (List UInt8 × Int) :=
  if t3 then
    some (([] : List UInt8), (0 : Int))
  else
    (
      Option.bind (sub? s1 (2 : Int) (4 : Int)) fun s5 =>
      Option.bind (strconv_ParseUint_16 k s5 (8 : Int)) fun v2 =>
      some (bytesStr ([wu8 v2.1] : List (Int)), (4 : Int))
    )
def runes_thing_j8 (v3 : (Int × Option (Option (Nat × Int)))) (s1 : List UInt8) (v1 : List UInt8) (t8 : Bool) : Option (List UInt8 × Int) :=
  if t8 then
    some (([] : List UInt8), (0 : Int))
  else
    some ((Utf8.encode (wi32 v3.1)).data.toList, wi64 ((wi64 ((wi64 ((List.length s1 : Int) - (2 : Int))) - (List.length v1 : Int))) + (3 : Int)))
def runes_thing_j7 (k : Nat) (v3 : (Int × Option (Option (Nat × Int)))) (s1 : List UInt8) (v1 : List UInt8) (t7 : Bool) : Option (List UInt8 × Int) :=
  if t7 then
    runes_thing_j8 v3 s1 v1 true
  else
    (
      Option.bind (sub? s1 (wi64 ((2 : Int) + (wi64 ((wi64 ((List.length s1 : Int) - (2 : Int))) - (List.length v1 : Int))))) (s1.length : Int)) fun s7 =>
      Option.bind (strings_HasPrefix k s7 ([59] : List UInt8)) fun v4 =>
      runes_thing_j8 v3 s1 v1 (!v4)
    )
def runes_thing_j9 (k : Nat) (v3 : (Int × Option (Option (Nat × Int)))) (s1 : List UInt8) (v1 : List UInt8) (t9 : Bool) : Option (List UInt8 × Int) :=
  runes_thing_j7 k v3 s1 v1 t9
def runes_thing_j6 (k : Nat) (v3 : (Int × Option (Option (Nat × Int)))) (s1 : List UInt8) (v1 : List UInt8) (t6 : Bool) : Option (List UInt8 × Int) :=
  if t6 then
    runes_thing_j7 k v3 s1 v1 true
  else
    (
      Option.bind (byteAt s1 (2 : Int)) fun b4 =>
      runes_thing_j9 k v3 s1 v1 ((b4 == (48 : Int)) && (decide ((1 : Int) < (wi64 ((wi64 ((List.length s1 : Int) - (2 : Int))) - (List.length v1 : Int))))))
    )
def runes_thing_j10 (k : Nat) (v3 : (Int × Option (Option (Nat × Int)))) (s1 : List UInt8) (v1 : List UInt8) (t10 : Bool) : Option (List UInt8 × Int) :=
  runes_thing_j6 k v3 s1 v1 t10
def runes_thing_j5 (k : Nat) (v3 : (Int × Option (Option (Nat × Int)))) (s1 : List UInt8) (v1 : List UInt8) (t5 : Bool) : Option (List UInt8 × Int) :=
  if t5 then
    runes_thing_j6 k v3 s1 v1 true
  else
    runes_thing_j10 k v3 s1 v1 (decide ((32 : Int) ≤ v3.1) && (decide (v3.1 ≤ (126 : Int))))
def runes_thing_j4 (k : Nat) (v3 : (Int × Option (Option (Nat × Int)))) (s1 : List UInt8) (v1 : List UInt8) (t4 : Bool) : Option (List UInt8 × Int) :=
  if t4 then
    runes_thing_j5 k v3 s1 v1 true
  else
    (
      Option.bind (unicode_utf8_ValidRune k (wi32 v3.1)) fun v5 =>
      runes_thing_j5 k v3 s1 v1 (!v5)
    )
def runes_thing_j2 (k : Nat) (s1 : List UInt8) (b2 : Int) (v1 : List UInt8) (t2 : Bool) : Option (List UInt8 × Int) :=
  if t2 then
    (
      Option.bind (sub? s1 (1 : Int) (2 : Int)) fun s4 =>
      some (s4, (2 : Int))
    )
  else
    (
      if b2 == (120 : Int) then
        (
          if decide ((wi64 ((wi64 ((List.length s1 : Int) - (2 : Int))) - (List.length v1 : Int))) < (2 : Int)) then
            runes_thing_j3 k s1 true
          else
            (
              Option.bind (byteAt s1 (2 : Int)) fun b3 =>
              runes_thing_j3 k s1 (decide (b3 < (56 : Int)))
            )
        )
      else
        (
          if b2 == (117 : Int) then
            (
              Option.bind (sub? s1 (2 : Int) (wi64 ((2 : Int) + (wi64 ((wi64 ((List.length s1 : Int) - (2 : Int))) - (List.length v1 : Int)))))) fun s6 =>
              Option.bind (strconv_ParseUint_16 k s6 (32 : Int)) fun v3 =>
              runes_thing_j4 k v3 s1 v1 ((!Option.isNone v3.2) || (decide ((1114111 : Int) < v3.1)))
            )
          else
            some (([] : List UInt8), (0 : Int))
        )
    )
/-- cognate/runes.thing -/
def runes_thing (k : Nat) (s1 : List UInt8) : Option (List UInt8 × Int) :=
  Option.bind (byteAt s1 (0 : Int)) fun b1 =>
  if b1 != (92 : Int) then
    runes_thing_j1 s1 (decide (b1 < (32 : Int)) || (decide ((126 : Int) < b1)))
  else
    (
      if decide ((List.length s1 : Int) < (2 : Int)) then
        some (([] : List UInt8), (0 : Int))
      else
        (
          Option.bind (sub? s1 (2 : Int) (s1.length : Int)) fun s3 =>
          Option.bind (strings_TrimLeft k s3 ([48, 49, 50, 51, 52, 53, 54, 55, 56, 57, 97, 98, 99, 100, 101, 102] : List UInt8)) fun v1 =>
          Option.bind (byteAt s1 (1 : Int)) fun b2 =>
          if b2 == (34 : Int) then
            runes_thing_j2 k s1 b2 v1 (b2 == (34 : Int))
          else
            runes_thing_j2 k s1 b2 v1 (b2 == (92 : Int))
        )
    )

/-- (*strings.Builder).Len -/
def strings_Builder_Len_i1 (k : Nat) (l1 : List (Int)) : Option Int :=
  some (List.length l1 : Int)

def runes_Plain_j1 (k : Nat) (s1 : List UInt8) (at1 : Int) (t1 : List (Int)) (go1 : Int → (List (Int)) → Option (List UInt8 × Int × Int)) (t2 : Bool) : Option (List UInt8 × Int × Int) :=
  if t2 then
    (
      Option.bind (sub? s1 at1 (s1.length : Int)) fun s2 =>
      Option.bind (runes_thing k s2) fun v2 =>
      if v2.2 == (0 : Int) then
        some (([] : List UInt8), at1, (10 : Int))
      else
        (
          Option.bind (strings_Builder_WriteString_i1 k v2.1 t1) fun v3 =>
          go1 (wi64 (at1 + v2.2)) v3.2.2
        )
    )
  else
    (
      if decide ((List.length s1 : Int) ≤ at1) then
        some (([] : List UInt8), at1, (10 : Int))
      else
        (
          if decide ((wi64 (at1 + (1 : Int))) < (List.length s1 : Int)) then
            some (([] : List UInt8), wi64 (at1 + (1 : Int)), (10 : Int))
          else
            (
              Option.bind (strings_Builder_Len_i1 k t1) fun v4 =>
              if decide ((65536 : Int) < v4) then
                some (([] : List UInt8), (0 : Int), (3 : Int))
              else
                (
                  Option.bind (bld_String k t1) fun v5 =>
                  Option.bind (runes_quote k v5) fun v6 =>
                  if !(v6 == s1) then
                    some (([] : List UInt8), (0 : Int), (10 : Int))
                  else
                    (
                      Option.bind (bld_String k t1) fun v7 =>
                      some (v7, (0 : Int), (0 : Int))
                    )
                )
            )
        )
    )
def runes_Plain_b1 (k : Nat) (s1 : List UInt8) (go1 : Int → (List (Int)) → Option (List UInt8 × Int × Int)) (at1 : Int) (t1 : List (Int)) : Option (List UInt8 × Int × Int) :=
  if decide (at1 < (List.length s1 : Int)) then
    (
      Option.bind (byteAt s1 at1) fun b1 =>
      runes_Plain_j1 k s1 at1 t1 go1 (b1 != (34 : Int))
    )
  else
    runes_Plain_j1 k s1 at1 t1 go1 false
def runes_Plain_l1 (k : Nat) (s1 : List UInt8) : Nat → Int → (List (Int)) → Option (List UInt8 × Int × Int)
  | 0, _, _ => none
  | n + 1, at1, t1 => runes_Plain_b1 k s1 (runes_Plain_l1 k s1 n) at1 t1
/-- cognate/runes.Plain -/
def runes_Plain (k : Nat) (s1 : List UInt8) : Option (List UInt8 × Int × Int) :=
  if decide ((1048576 : Int) < (List.length s1 : Int)) then
    some (([] : List UInt8), (0 : Int), (3 : Int))
  else
    (
      Option.bind (strings_HasPrefix k s1 ([34] : List UInt8)) fun v1 =>
      if !v1 then
        some (([] : List UInt8), (0 : Int), (10 : Int))
      else
        runes_Plain_l1 k s1 k (1 : Int) ([] : List (Int))
    )

def r01_worth_j2 (b1 : Int) (t2 : Bool) : Option Int :=
  if t2 then
    some (wi64 ((wi64 (wu8 (b1 - (97 : Int)))) + (10 : Int)))
  else
    some ((-1 : Int))
def r01_worth_j1 (b1 : Int) (t1 : Bool) : Option Int :=
  if t1 then
    some (wi64 (wu8 (b1 - (48 : Int))))
  else
    r01_worth_j2 b1 (decide ((97 : Int) ≤ b1) && (decide (b1 ≤ (102 : Int))))
/-- cognate/cognateref01.worth -/
def r01_worth (k : Nat) (b1 : Int) : Option Int :=
  r01_worth_j1 b1 (decide ((48 : Int) ≤ b1) && (decide (b1 ≤ (57 : Int))))

def r01_thing_j2 (b1 : Int) (t2 : Bool) : Option (List (Int) × Int) :=
  if t2 then
    some (([b1] : List (Int)), (1 : Int))
  else
    some (([] : List (Int)), (0 : Int))
def r01_thing_j1 (b1 : Int) (t1 : Bool) : Option (List (Int) × Int) :=
  r01_thing_j2 b1 (t1 && (b1 != (34 : Int)))
def r01_thing_j3  : Option (List (Int) × Int) :=
  some (([] : List (Int)), (0 : Int))
def r01_thing_j6 (k : Nat) (s1 : List UInt8) (at1 : Int) (t5 : Bool) : Option (List (Int) × Int) :=
  if t5 then
    (
      Option.bind (byteAt s1 (wi64 (at1 + (2 : Int)))) fun b4 =>
      Option.bind (r01_worth k b4) fun v1 =>
      Option.bind (byteAt s1 (wi64 (at1 + (3 : Int)))) fun b5 =>
      Option.bind (r01_worth k b5) fun v2 =>
      some (([wu8 (wi64 ((wi64 ((16 : Int) * v1)) + v2))] : List (Int)), (4 : Int))
    )
  else
    r01_thing_j3
def r01_thing_j5 (k : Nat) (s1 : List UInt8) (at1 : Int) (t4 : Bool) : Option (List (Int) × Int) :=
  if t4 then
    (
      Option.bind (byteAt s1 (wi64 (at1 + (3 : Int)))) fun b6 =>
      Option.bind (r01_worth k b6) fun v3 =>
      r01_thing_j6 k s1 at1 (decide ((0 : Int) ≤ v3))
    )
  else
    r01_thing_j6 k s1 at1 false
def r01_thing_j14 (k : Nat) (r1 : Int) (k1 : Int) (at1 : Int) (t13 : Bool) : Option (List (Int) × Int) :=
  if t13 then
    some (([] : List (Int)), (0 : Int))
  else
    (
      Option.bind (r01_one k (wi32 r1)) fun v6 =>
      some (v6, wi64 ((wi64 (k1 + (1 : Int))) - at1))
    )
def r01_thing_j15 (k : Nat) (r1 : Int) (k1 : Int) (at1 : Int) (t14 : Bool) : Option (List (Int) × Int) :=
  r01_thing_j14 k r1 k1 at1 t14
def r01_thing_j13 (k : Nat) (r1 : Int) (k1 : Int) (at1 : Int) (t12 : Bool) : Option (List (Int) × Int) :=
  if t12 then
    r01_thing_j14 k r1 k1 at1 true
  else
    r01_thing_j15 k r1 k1 at1 (decide ((32 : Int) ≤ r1) && (decide (r1 ≤ (126 : Int))))
def r01_thing_j12 (k : Nat) (r1 : Int) (k1 : Int) (at1 : Int) (s1 : List UInt8) (t11 : Bool) : Option (List (Int) × Int) :=
  if t11 then
    r01_thing_j13 k r1 k1 at1 true
  else
    (
      Option.bind (r01_number k r1) fun v7 =>
      Option.bind (sub? s1 (wi64 (at1 + (2 : Int))) k1) fun s2 =>
      r01_thing_j13 k r1 k1 at1 (!(v7 == s2))
    )
def r01_thing_j11 (k : Nat) (r1 : Int) (k1 : Int) (at1 : Int) (s1 : List UInt8) (t10 : Bool) : Option (List (Int) × Int) :=
  if t10 then
    r01_thing_j12 k r1 k1 at1 s1 true
  else
    (
      Option.bind (r01_Rune k (wi32 r1)) fun v8 =>
      r01_thing_j12 k r1 k1 at1 s1 (!v8)
    )
def r01_thing_j10 (k : Nat) (r1 : Int) (k1 : Int) (at1 : Int) (s1 : List UInt8) (t9 : Bool) : Option (List (Int) × Int) :=
  r01_thing_j11 k r1 k1 at1 s1 (t9 || (decide ((1114111 : Int) < r1)))
def r01_thing_j9 (k : Nat) (r1 : Int) (k1 : Int) (at1 : Int) (s1 : List UInt8) (t8 : Bool) : Option (List (Int) × Int) :=
  if t8 then
    r01_thing_j10 k r1 k1 at1 s1 true
  else
    (
      Option.bind (byteAt s1 k1) fun b9 =>
      r01_thing_j10 k r1 k1 at1 s1 (b9 != (59 : Int))
    )
def r01_thing_j8 (k : Nat) (s1 : List UInt8) (k1 : Int) (go1 : Int → Int → Option (List (Int) × Int)) (r1 : Int) (at1 : Int) (t7 : Bool) : Option (List (Int) × Int) :=
  if t7 then
    (
      Option.bind (byteAt s1 k1) fun b8 =>
      Option.bind (r01_worth k b8) fun v5 =>
      go1 (wi64 (k1 + (1 : Int))) (wi64 ((wi64 ((16 : Int) * r1)) + v5))
    )
  else
    r01_thing_j9 k r1 k1 at1 s1 ((k1 == (wi64 (at1 + (2 : Int)))) || (decide ((List.length s1 : Int) ≤ k1)))
def r01_thing_j7 (k : Nat) (s1 : List UInt8) (k1 : Int) (go1 : Int → Int → Option (List (Int) × Int)) (r1 : Int) (at1 : Int) (t6 : Bool) : Option (List (Int) × Int) :=
  r01_thing_j8 k s1 k1 go1 r1 at1 (t6 && (decide ((wi64 (k1 - at1)) < (9 : Int))))
def r01_thing_b1 (k : Nat) (s1 : List UInt8) (at1 : Int) (go1 : Int → Int → Option (List (Int) × Int)) (k1 : Int) (r1 : Int) : Option (List (Int) × Int) :=
  if decide (k1 < (List.length s1 : Int)) then
    (
      Option.bind (byteAt s1 k1) fun b10 =>
      Option.bind (r01_worth k b10) fun v9 =>
      r01_thing_j7 k s1 k1 go1 r1 at1 (decide ((0 : Int) ≤ v9))
    )
  else
    r01_thing_j7 k s1 k1 go1 r1 at1 false
def r01_thing_l1 (k : Nat) (s1 : List UInt8) (at1 : Int) : Nat → Int → Int → Option (List (Int) × Int)
  | 0, _, _ => none
  | n + 1, k1, r1 => r01_thing_b1 k s1 at1 (r01_thing_l1 k s1 at1 n) k1 r1
def r01_thing_j4 (k : Nat) (s1 : List UInt8) (at1 : Int) (b2 : Int) (t3 : Bool) : Option (List (Int) × Int) :=
  if t3 then
    (
      Option.bind (byteAt s1 (wi64 (at1 + (1 : Int)))) fun b3 =>
      some (([b3] : List (Int)), (2 : Int))
    )
  else
    (
      if b2 == (120 : Int) then
        (
          if decide ((wi64 (at1 + (3 : Int))) < (List.length s1 : Int)) then
            (
              Option.bind (byteAt s1 (wi64 (at1 + (2 : Int)))) fun b7 =>
              Option.bind (r01_worth k b7) fun v4 =>
              r01_thing_j5 k s1 at1 (decide ((8 : Int) ≤ v4))
            )
          else
            r01_thing_j5 k s1 at1 false
        )
      else
        (
          if b2 == (117 : Int) then
            r01_thing_l1 k s1 at1 k (wi64 (at1 + (2 : Int))) (0 : Int)
          else
            r01_thing_j3
        )
    )
/-- cognate/cognateref01.thing -/
def r01_thing (k : Nat) (s1 : List UInt8) (at1 : Int) : Option (List (Int) × Int) :=
  Option.bind (byteAt s1 at1) fun b1 =>
  if b1 != (92 : Int) then
    r01_thing_j1 b1 (decide ((32 : Int) ≤ b1) && (decide (b1 ≤ (126 : Int))))
  else
    (
      if decide ((List.length s1 : Int) ≤ (wi64 (at1 + (1 : Int)))) then
        some (([] : List (Int)), (0 : Int))
      else
        (
          Option.bind (byteAt s1 (wi64 (at1 + (1 : Int)))) fun b2 =>
          if b2 == (34 : Int) then
            r01_thing_j4 k s1 at1 b2 (b2 == (34 : Int))
          else
            r01_thing_j4 k s1 at1 b2 (b2 == (92 : Int))
        )
    )

def r01_Plain_j2 (k : Nat) (s1 : List UInt8) (at1 : Int) (out1 : List (Int)) (go1 : Int → (List (Int)) → Option (List UInt8 × Int × Int)) (t2 : Bool) : Option (List UInt8 × Int × Int) :=
  if t2 then
    (
      Option.bind (r01_thing k s1 at1) fun v1 =>
      if v1.2 == (0 : Int) then
        some (([] : List UInt8), at1, (10 : Int))
      else
        (
          Option.bind (chk (List.length out1 + List.length v1.1 ≤ lim)) fun _ =>
          go1 (wi64 (at1 + v1.2)) (out1 ++ v1.1)
        )
    )
  else
    (
      if decide ((List.length s1 : Int) ≤ at1) then
        some (([] : List UInt8), at1, (10 : Int))
      else
        (
          if decide ((wi64 (at1 + (1 : Int))) < (List.length s1 : Int)) then
            some (([] : List UInt8), wi64 (at1 + (1 : Int)), (10 : Int))
          else
            (
              if decide ((65536 : Int) < (List.length out1 : Int)) then
                some (([] : List UInt8), (0 : Int), (3 : Int))
              else
                (
                  Option.bind (r01_quote k (bytesStr out1)) fun v2 =>
                  if !(v2 == s1) then
                    some (([] : List UInt8), (0 : Int), (10 : Int))
                  else
                    some (bytesStr out1, (0 : Int), (0 : Int))
                )
            )
        )
    )
def r01_Plain_b1 (k : Nat) (s1 : List UInt8) (go1 : Int → (List (Int)) → Option (List UInt8 × Int × Int)) (at1 : Int) (out1 : List (Int)) : Option (List UInt8 × Int × Int) :=
  if decide (at1 < (List.length s1 : Int)) then
    (
      Option.bind (byteAt s1 at1) fun b1 =>
      r01_Plain_j2 k s1 at1 out1 go1 (b1 != (34 : Int))
    )
  else
    r01_Plain_j2 k s1 at1 out1 go1 false
def r01_Plain_l1 (k : Nat) (s1 : List UInt8) : Nat → Int → (List (Int)) → Option (List UInt8 × Int × Int)
  | 0, _, _ => none
  | n + 1, at1, out1 => r01_Plain_b1 k s1 (r01_Plain_l1 k s1 n) at1 out1
def r01_Plain_j1 (k : Nat) (s1 : List UInt8) (t1 : Bool) : Option (List UInt8 × Int × Int) :=
  if t1 then
    some (([] : List UInt8), (0 : Int), (10 : Int))
  else
    r01_Plain_l1 k s1 k (1 : Int) ([] : List (Int))
/-- cognate/cognateref01.Plain -/
def r01_Plain (k : Nat) (s1 : List UInt8) : Option (List UInt8 × Int × Int) :=
  if decide ((1048576 : Int) < (List.length s1 : Int)) then
    some (([] : List UInt8), (0 : Int), (3 : Int))
  else
    (
      if s1 == ([] : List UInt8) then
        r01_Plain_j1 k s1 true
      else
        (
          Option.bind (byteAt s1 (0 : Int)) fun b2 =>
          r01_Plain_j1 k s1 (b2 != (34 : Int))
        )
    )

def r01_Text_b1 (k : Nat) (l1 : List (Int)) (go1 : Int → (List (Int)) → Option (List UInt8)) (i1 : Int) (out1 : List (Int)) : Option (List UInt8) :=
  if decide (i1 < (List.length l1 : Int)) then
    (
      Option.bind (at? l1 i1) fun x1 =>
      Option.bind (r01_one k x1) fun v1 =>
      Option.bind (chk (List.length out1 + List.length v1 ≤ lim)) fun _ =>
      go1 (wi64 (i1 + (1 : Int))) (out1 ++ v1)
    )
  else
    some (bytesStr out1)
def r01_Text_l1 (k : Nat) (l1 : List (Int)) : Nat → Int → (List (Int)) → Option (List UInt8)
  | 0, _, _ => none
  | n + 1, i1, out1 => r01_Text_b1 k l1 (r01_Text_l1 k l1 n) i1 out1
/-- cognate/cognateref01.Text -/
def r01_Text (k : Nat) (l1 : List (Int)) : Option (List UInt8) :=
  r01_Text_l1 k l1 k (0 : Int) ([] : List (Int))

def l01_RunesPlain_j6 (go1 : Int → Option Bool) (i1 : Int) (t6 : Bool) : Option Bool :=
  if t6 then
    some (false)
  else
    go1 (wi64 (i1 + (1 : Int)))
def l01_RunesPlain_j9  (t9 : Bool) : Option Bool :=
  some (t9)
def l01_RunesPlain_j8 (v4 : (List UInt8 × Int × Int)) (q1 : List UInt8) (t8 : Bool) : Option Bool :=
  l01_RunesPlain_j9 (t8 && (decide (v4.2.1 ≤ (List.length q1 : Int))))
def l01_RunesPlain_j7 (v4 : (List UInt8 × Int × Int)) (q1 : List UInt8) (t7 : Bool) : Option Bool :=
  l01_RunesPlain_j8 v4 q1 (t7 && (decide ((0 : Int) ≤ v4.2.1)))
def l01_RunesPlain_j12  (t12 : Bool) : Option Bool :=
  some (t12)
def l01_RunesPlain_j11 (v4 : (List UInt8 × Int × Int)) (t11 : Bool) : Option Bool :=
  l01_RunesPlain_j12 (t11 && (v4.2.1 == (0 : Int)))
def l01_RunesPlain_j10 (v4 : (List UInt8 × Int × Int)) (v5 : (List UInt8 × Int)) (q1 : List UInt8) (t10 : Bool) : Option Bool :=
  l01_RunesPlain_j11 v4 (t10 && (v5.1 == q1))
def l01_RunesPlain_b1 (k : Nat) (v2 : (List UInt8 × Int)) (q1 : List UInt8) (v1 : Bool) (go1 : Int → Option Bool) (i1 : Int) : Option Bool :=
  if decide (i1 < (List.length v2.1 : Int)) then
    (
      Option.bind (byteAt v2.1 i1) fun b1 =>
      if decide (b1 < (32 : Int)) then
        l01_RunesPlain_j6 go1 i1 true
      else
        (
          Option.bind (byteAt v2.1 i1) fun b2 =>
          l01_RunesPlain_j6 go1 i1 (decide ((126 : Int) < b2))
        )
    )
  else
    (
      Option.bind (runes_Plain k q1) fun v4 =>
      if v4.2.2 != (0 : Int) then
        l01_RunesPlain_j7 v4 q1 (v1 && (v4.1 == ([] : List UInt8)))
      else
        (
          Option.bind (runes_Quote k v4.1) fun v5 =>
          l01_RunesPlain_j10 v4 v5 q1 (v1 && (v5.2 == (0 : Int)))
        )
    )
def l01_RunesPlain_l1 (k : Nat) (v2 : (List UInt8 × Int)) (q1 : List UInt8) (v1 : Bool) : Nat → Int → Option Bool
  | 0, _ => none
  | n + 1, i1 => l01_RunesPlain_b1 k v2 q1 v1 (l01_RunesPlain_l1 k v2 q1 v1 n) i1
def l01_RunesPlain_j5 (k : Nat) (v2 : (List UInt8 × Int)) (q1 : List UInt8) (v1 : Bool) (t5 : Bool) : Option Bool :=
  if t5 then
    some (false)
  else
    l01_RunesPlain_l1 k v2 q1 v1 k (0 : Int)
def l01_RunesPlain_j4 (k : Nat) (v2 : (List UInt8 × Int)) (q1 : List UInt8) (v1 : Bool) (s1 : List UInt8) (t4 : Bool) : Option Bool :=
  l01_RunesPlain_j5 k v2 q1 v1 (t4 || (decide ((List.length v2.1 : Int) < (wi64 ((List.length s1 : Int) + (2 : Int))))))
def l01_RunesPlain_j3 (k : Nat) (v2 : (List UInt8 × Int)) (q1 : List UInt8) (v1 : Bool) (s1 : List UInt8) (v3 : (List UInt8 × Int × Int)) (t3 : Bool) : Option Bool :=
  l01_RunesPlain_j4 k v2 q1 v1 s1 (t3 || (!(v3.1 == s1)))
def l01_RunesPlain_j2 (k : Nat) (v2 : (List UInt8 × Int)) (q1 : List UInt8) (v1 : Bool) (s1 : List UInt8) (v3 : (List UInt8 × Int × Int)) (t2 : Bool) : Option Bool :=
  l01_RunesPlain_j3 k v2 q1 v1 s1 v3 (t2 || (v3.2.1 != (0 : Int)))
def l01_RunesPlain_j1 (k : Nat) (v1 : Bool) (s1 : List UInt8) (q1 : List UInt8) (t1 : Bool) : Option Bool :=
  if t1 then
    some (v1)
  else
    (
      Option.bind (runes_Quote k s1) fun v2 =>
      Option.bind (runes_Plain k v2.1) fun v3 =>
      l01_RunesPlain_j2 k v2 q1 v1 s1 v3 ((v2.2 != (0 : Int)) || (v3.2.2 != (0 : Int)))
    )
/-- cognate/cognatelaw01.RunesPlain -/
def l01_RunesPlain (k : Nat) (s1 : List UInt8) (q1 : List UInt8) : Option Bool :=
  Option.bind (l01_alive k) fun v1 =>
  l01_RunesPlain_j1 k v1 s1 q1 (decide ((5000 : Int) < (List.length s1 : Int)) || (decide ((5000 : Int) < (List.length q1 : Int))))

def l01_wrong_j2  (t2 : Bool) : Option Bool :=
  some (t2)
def l01_wrong_j1 (v1 : (List UInt8 × Int × Int)) (t1 : Bool) : Option Bool :=
  l01_wrong_j2 (t1 && (v1.2.2 == (10 : Int)))
/-- cognate/cognatelaw01.wrong -/
def l01_wrong (k : Nat) (s1 : List UInt8) (at1 : Int) : Option Bool :=
  Option.bind (runes_Plain k s1) fun v1 =>
  l01_wrong_j1 v1 ((v1.1 == ([] : List UInt8)) && (v1.2.1 == at1))

def l01_RunesNames_j30  (t30 : Bool) : Option Bool :=
  some (t30)
def l01_RunesNames_j29 (t27 : Bool) (t29 : Bool) : Option Bool :=
  l01_RunesNames_j30 (t29 && t27)
def l01_RunesNames_j28 (t27 : Bool) (t19 : Bool) (t28 : Bool) : Option Bool :=
  l01_RunesNames_j29 t27 (t28 && t19)
def l01_RunesNames_j27 (k : Nat) (t19 : Bool) (t10 : Bool) (t27 : Bool) : Option Bool :=
  Option.bind (l01_alive k) fun v11 =>
  l01_RunesNames_j28 t27 t19 (v11 && t10)
def l01_RunesNames_j26 (k : Nat) (t19 : Bool) (t10 : Bool) (t26 : Bool) : Option Bool :=
  if t26 then
    (
      Option.bind (runes_Less k ([98] : List UInt8) ([97] : List UInt8)) fun v12 =>
      l01_RunesNames_j27 k t19 t10 (!v12)
    )
  else
    l01_RunesNames_j27 k t19 t10 false
def l01_RunesNames_j25 (k : Nat) (t19 : Bool) (t10 : Bool) (t25 : Bool) : Option Bool :=
  if t25 then
    (
      Option.bind (runes_Less k ([244, 143, 191, 191] : List UInt8) ([128] : List UInt8)) fun v13 =>
      l01_RunesNames_j26 k t19 t10 v13
    )
  else
    l01_RunesNames_j26 k t19 t10 false
def l01_RunesNames_j24 (k : Nat) (t19 : Bool) (t10 : Bool) (t24 : Bool) : Option Bool :=
  if t24 then
    (
      Option.bind (runes_Less k ([97] : List UInt8) ([97, 98] : List UInt8)) fun v14 =>
      l01_RunesNames_j25 k t19 t10 v14
    )
  else
    l01_RunesNames_j25 k t19 t10 false
def l01_RunesNames_j23 (k : Nat) (t19 : Bool) (t10 : Bool) (t23 : Bool) : Option Bool :=
  if t23 then
    (
      Option.bind (runes_Less k ([97] : List UInt8) ([98] : List UInt8)) fun v15 =>
      l01_RunesNames_j24 k t19 t10 v15
    )
  else
    l01_RunesNames_j24 k t19 t10 false
def l01_RunesNames_j22 (k : Nat) (t19 : Bool) (t10 : Bool) (t22 : Bool) : Option Bool :=
  if t22 then
    (
      Option.bind (l01_wrong k ([34, 92, 117, 48, 101, 57, 59, 34] : List UInt8) (1 : Int)) fun v16 =>
      l01_RunesNames_j23 k t19 t10 v16
    )
  else
    l01_RunesNames_j23 k t19 t10 false
def l01_RunesNames_j21 (k : Nat) (t19 : Bool) (t10 : Bool) (t21 : Bool) : Option Bool :=
  if t21 then
    (
      Option.bind (l01_wrong k ([34, 92, 120, 99, 51, 92, 120, 97, 57, 34] : List UInt8) (0 : Int)) fun v17 =>
      l01_RunesNames_j22 k t19 t10 v17
    )
  else
    l01_RunesNames_j22 k t19 t10 false
def l01_RunesNames_j20 (k : Nat) (t19 : Bool) (t10 : Bool) (t20 : Bool) : Option Bool :=
  if t20 then
    (
      Option.bind (l01_wrong k ([97] : List UInt8) (0 : Int)) fun v18 =>
      l01_RunesNames_j21 k t19 t10 v18
    )
  else
    l01_RunesNames_j21 k t19 t10 false
def l01_RunesNames_j19 (k : Nat) (t10 : Bool) (t19 : Bool) : Option Bool :=
  Option.bind (l01_wrong k ([34, 97, 92, 120, 52, 49, 34] : List UInt8) (2 : Int)) fun v10 =>
  if v10 then
    (
      Option.bind (l01_wrong k ([34, 97] : List UInt8) (2 : Int)) fun v19 =>
      l01_RunesNames_j20 k t19 t10 v19
    )
  else
    l01_RunesNames_j20 k t19 t10 false
def l01_RunesNames_j18 (k : Nat) (t10 : Bool) (t18 : Bool) : Option Bool :=
  if t18 then
    (
      Option.bind (runes_Text k ([(-1 : Int)] : List (Int))) fun v20 =>
      l01_RunesNames_j19 k t10 (v20 == ([239, 191, 189] : List UInt8))
    )
  else
    l01_RunesNames_j19 k t10 false
def l01_RunesNames_j17 (k : Nat) (t10 : Bool) (t17 : Bool) : Option Bool :=
  if t17 then
    (
      Option.bind (runes_Text k ([(55296 : Int), (98 : Int)] : List (Int))) fun v21 =>
      l01_RunesNames_j18 k t10 (v21 == ([239, 191, 189, 98] : List UInt8))
    )
  else
    l01_RunesNames_j18 k t10 false
def l01_RunesNames_j16 (k : Nat) (t10 : Bool) (v9 : (List UInt8 × Int)) (t16 : Bool) : Option Bool :=
  l01_RunesNames_j17 k t10 (t16 && (v9.1 == ([34, 97, 92, 34, 98, 92, 117, 97, 59, 34] : List UInt8)))
def l01_RunesNames_j15 (k : Nat) (t10 : Bool) (v9 : (List UInt8 × Int)) (t15 : Bool) : Option Bool :=
  l01_RunesNames_j16 k t10 v9 (t15 && (v9.2 == (0 : Int)))
def l01_RunesNames_j14 (k : Nat) (t10 : Bool) (v9 : (List UInt8 × Int)) (v8 : (List UInt8 × Int)) (t14 : Bool) : Option Bool :=
  l01_RunesNames_j15 k t10 v9 (t14 && (v8.1 == ([34, 97, 92, 117, 101, 57, 59, 92, 120, 102, 102, 98, 34] : List UInt8)))
def l01_RunesNames_j13 (k : Nat) (t10 : Bool) (v9 : (List UInt8 × Int)) (v8 : (List UInt8 × Int)) (t13 : Bool) : Option Bool :=
  l01_RunesNames_j14 k t10 v9 v8 (t13 && (v8.2 == (0 : Int)))
def l01_RunesNames_j12 (k : Nat) (t10 : Bool) (v9 : (List UInt8 × Int)) (v8 : (List UInt8 × Int)) (v7 : (List UInt8 × Int)) (t12 : Bool) : Option Bool :=
  l01_RunesNames_j13 k t10 v9 v8 (t12 && (v7.2 == (10 : Int)))
def l01_RunesNames_j11 (k : Nat) (t10 : Bool) (v9 : (List UInt8 × Int)) (v8 : (List UInt8 × Int)) (v7 : (List UInt8 × Int)) (v6 : (List UInt8 × Int)) (t11 : Bool) : Option Bool :=
  l01_RunesNames_j12 k t10 v9 v8 v7 (t11 && (v6.2 == (10 : Int)))
def l01_RunesNames_j10 (k : Nat) (t10 : Bool) : Option Bool :=
  Option.bind (runes_Part k ([97, 195, 169, 255, 98] : List UInt8) (1 : Int) (3 : Int)) fun v5 =>
  Option.bind (runes_Part k ([97, 195, 169, 255, 98] : List UInt8) (3 : Int) (2 : Int)) fun v6 =>
  Option.bind (runes_Part k ([97, 195, 169, 255, 98] : List UInt8) (0 : Int) (5 : Int)) fun v7 =>
  Option.bind (runes_Quote k ([97, 195, 169, 255, 98] : List UInt8)) fun v8 =>
  Option.bind (runes_Quote k ([97, 34, 98, 10] : List UInt8)) fun v9 =>
  l01_RunesNames_j11 k t10 v9 v8 v7 v6 ((v5.2 == (0 : Int)) && (v5.1 == ([195, 169, 255] : List UInt8)))
def l01_RunesNames_j9 (k : Nat) (v4 : (Int × Int)) (t9 : Bool) : Option Bool :=
  l01_RunesNames_j10 k (t9 && (v4.1 == (-1 : Int)))
def l01_RunesNames_j8 (k : Nat) (v4 : (Int × Int)) (t8 : Bool) : Option Bool :=
  l01_RunesNames_j9 k v4 (t8 && (v4.2 == (0 : Int)))
def l01_RunesNames_j7 (k : Nat) (v4 : (Int × Int)) (v3 : (Int × Int)) (t7 : Bool) : Option Bool :=
  l01_RunesNames_j8 k v4 (t7 && (v3.1 == (3 : Int)))
def l01_RunesNames_j6 (k : Nat) (v4 : (Int × Int)) (v3 : (Int × Int)) (t6 : Bool) : Option Bool :=
  l01_RunesNames_j7 k v4 v3 (t6 && (v3.2 == (0 : Int)))
def l01_RunesNames_j5 (k : Nat) (v4 : (Int × Int)) (v3 : (Int × Int)) (v2 : (Int × Int)) (t5 : Bool) : Option Bool :=
  l01_RunesNames_j6 k v4 v3 (t5 && (v2.1 == (4 : Int)))
def l01_RunesNames_j4 (k : Nat) (v4 : (Int × Int)) (v3 : (Int × Int)) (v2 : (Int × Int)) (t4 : Bool) : Option Bool :=
  l01_RunesNames_j5 k v4 v3 v2 (t4 && (v2.2 == (0 : Int)))
def l01_RunesNames_j3 (k : Nat) (v1 : (List ((Int × Int × Int × Bool × Unit)) × Int)) (v4 : (Int × Int)) (v3 : (Int × Int)) (v2 : (Int × Int)) (t3 : Bool) : Option Bool :=
  if t3 then
    (
      Option.bind (at? v1.1 (3 : Int)) fun x1 =>
      l01_RunesNames_j4 k v4 v3 v2 ((eqInt x1.1 (98 : Int)) && ((eqInt x1.2.1 (4 : Int)) && ((eqInt x1.2.2.1 (1 : Int)) && ((eqBool x1.2.2.2.1 false) && (true)))))
    )
  else
    l01_RunesNames_j4 k v4 v3 v2 false
def l01_RunesNames_j2 (k : Nat) (v1 : (List ((Int × Int × Int × Bool × Unit)) × Int)) (v4 : (Int × Int)) (v3 : (Int × Int)) (v2 : (Int × Int)) (t2 : Bool) : Option Bool :=
  if t2 then
    (
      Option.bind (at? v1.1 (2 : Int)) fun x2 =>
      l01_RunesNames_j3 k v1 v4 v3 v2 ((eqInt x2.1 (65533 : Int)) && ((eqInt x2.2.1 (3 : Int)) && ((eqInt x2.2.2.1 (1 : Int)) && ((eqBool x2.2.2.2.1 true) && (true)))))
    )
  else
    l01_RunesNames_j3 k v1 v4 v3 v2 false
def l01_RunesNames_j1 (k : Nat) (v1 : (List ((Int × Int × Int × Bool × Unit)) × Int)) (v4 : (Int × Int)) (v3 : (Int × Int)) (v2 : (Int × Int)) (t1 : Bool) : Option Bool :=
  if t1 then
    (
      Option.bind (at? v1.1 (1 : Int)) fun x3 =>
      l01_RunesNames_j2 k v1 v4 v3 v2 ((eqInt x3.1 (233 : Int)) && ((eqInt x3.2.1 (1 : Int)) && ((eqInt x3.2.2.1 (2 : Int)) && ((eqBool x3.2.2.2.1 false) && (true)))))
    )
  else
    l01_RunesNames_j2 k v1 v4 v3 v2 false
/-- cognate/cognatelaw01.RunesNames -/
def l01_RunesNames (k : Nat)  : Option Bool :=
  Option.bind (runes_Pieces k ([97, 195, 169, 255, 98] : List UInt8)) fun v1 =>
  Option.bind (runes_Len k ([97, 195, 169, 255, 98] : List UInt8)) fun v2 =>
  Option.bind (runes_Broken k ([97, 195, 169, 255, 98] : List UInt8)) fun v3 =>
  Option.bind (runes_Broken k ([97] : List UInt8)) fun v4 =>
  l01_RunesNames_j1 k v1 v4 v3 v2 ((v1.2 == (0 : Int)) && ((List.length v1.1 : Int) == (4 : Int)))

end Go.Ev
