/- Shallow functions, by program. -/
import Derived.Test.YtciikbiapmbocaaDoorME3
import Derived.Test.YtciikbiapmbocaaDoorML1
namespace Go.Ev
open Go
set_option linter.unusedVariables false

def runes_Less_j3 (x1 : Int) (a2 : List UInt8) (v1 : (Int × Int)) (b2 : List UInt8) (v2 : (Int × Int)) (go1 : (List UInt8) → (List UInt8) → Option Bool) (y1 : Int) : Option Bool :=
  if x1 != y1 then
    some (decide (x1 < y1))
  else
    (
      Option.bind (sub? a2 v1.2 (a2.length : Int)) fun s1 =>
      Option.bind (sub? b2 v2.2 (b2.length : Int)) fun s2 =>
      go1 s1 s2
    )
def runes_Less_j4 (b2 : List UInt8) (x1 : Int) (a2 : List UInt8) (v1 : (Int × Int)) (v2 : (Int × Int)) (go1 : (List UInt8) → (List UInt8) → Option Bool) (t2 : Bool) : Option Bool :=
  if t2 then
    (
      Option.bind (byteAt b2 (0 : Int)) fun b3 =>
      runes_Less_j3 x1 a2 v1 b2 v2 go1 (wi64 ((1114112 : Int) + (wi64 b3)))
    )
  else
    runes_Less_j3 x1 a2 v1 b2 v2 go1 (wi64 v2.1)
def runes_Less_j2 (b2 : List UInt8) (a2 : List UInt8) (v1 : (Int × Int)) (v2 : (Int × Int)) (go1 : (List UInt8) → (List UInt8) → Option Bool) (x1 : Int) : Option Bool :=
  runes_Less_j4 b2 x1 a2 v1 v2 go1 ((v2.1 == (65533 : Int)) && (v2.2 == (1 : Int)))
def runes_Less_j5 (a2 : List UInt8) (b2 : List UInt8) (v1 : (Int × Int)) (v2 : (Int × Int)) (go1 : (List UInt8) → (List UInt8) → Option Bool) (t3 : Bool) : Option Bool :=
  if t3 then
    (
      Option.bind (byteAt a2 (0 : Int)) fun b4 =>
      runes_Less_j2 b2 a2 v1 v2 go1 (wi64 ((1114112 : Int) + (wi64 b4)))
    )
  else
    runes_Less_j2 b2 a2 v1 v2 go1 (wi64 v1.1)
def runes_Less_j6  (t4 : Bool) : Option Bool :=
  some (t4)
def runes_Less_j1 (k : Nat) (a2 : List UInt8) (b2 : List UInt8) (go1 : (List UInt8) → (List UInt8) → Option Bool) (t1 : Bool) : Option Bool :=
  if t1 then
    (
      Option.bind (utf8_DecodeRuneInString k a2) fun v1 =>
      Option.bind (utf8_DecodeRuneInString k b2) fun v2 =>
      runes_Less_j5 a2 b2 v1 v2 go1 ((v1.1 == (65533 : Int)) && (v1.2 == (1 : Int)))
    )
  else
    runes_Less_j6 ((a2 == ([] : List UInt8)) && (!(b2 == ([] : List UInt8))))
def runes_Less_b1 (k : Nat) (go1 : (List UInt8) → (List UInt8) → Option Bool) (a2 : List UInt8) (b2 : List UInt8) : Option Bool :=
  runes_Less_j1 k a2 b2 go1 ((!(a2 == ([] : List UInt8))) && (!(b2 == ([] : List UInt8))))
def runes_Less_l1 (k : Nat) : Nat → (List UInt8) → (List UInt8) → Option Bool
  | 0, _, _ => none
  | n + 1, a2, b2 => runes_Less_b1 k (runes_Less_l1 k n) a2 b2
/-- cognate/runes.Less -/
def runes_Less (k : Nat) (a1 : List UInt8) (b1 : List UInt8) : Option Bool :=
  runes_Less_l1 k k a1 b1

def r01_tail_j1  (t1 : Bool) : Option Bool :=
  some (t1)
/-- cognate/cognateref01.tail -/
def r01_tail (k : Nat) (b1 : Int) : Option Bool :=
  r01_tail_j1 (decide ((128 : Int) ≤ b1) && (decide (b1 < (192 : Int))))

def r01_Rune_j2  (t2 : Bool) : Option Bool :=
  some (t2)
def r01_Rune_j3  (t3 : Bool) : Option Bool :=
  r01_Rune_j2 t3
def r01_Rune_j1 (r1 : Int) (t1 : Bool) : Option Bool :=
  if t1 then
    r01_Rune_j3 (decide (r1 < (55296 : Int)) || (decide ((57343 : Int) < r1)))
  else
    r01_Rune_j2 false
/-- cognate/cognateref01.Rune -/
def r01_Rune (k : Nat) (r1 : Int) : Option Bool :=
  r01_Rune_j1 r1 (decide ((0 : Int) ≤ r1) && (decide (r1 ≤ (1114111 : Int))))

def r01_At_j3 (at1 : Int) (r2 : Int) (long1 : Int) (t2 : Bool) : Option (Int × Int × Int × Bool × Unit) :=
  if t2 then
    some (((65533 : Int), at1, (1 : Int), true, ()))
  else
    some ((r2, at1, long1, false, ()))
def r01_At_b1 (k : Nat) (long1 : Int) (s1 : List UInt8) (at1 : Int) (go1 : Int → Int → Option (Int × Int × Int × Bool × Unit)) (r2 : Int) (i1 : Int) : Option (Int × Int × Int × Bool × Unit) :=
  if decide (i1 < long1) then
    (
      Option.bind (byteAt s1 (wi64 (at1 + i1))) fun b2 =>
      Option.bind (r01_tail k b2) fun v1 =>
      if !v1 then
        some (((65533 : Int), at1, (1 : Int), true, ()))
      else
        (
          Option.bind (byteAt s1 (wi64 (at1 + i1))) fun b3 =>
          go1 (wi32 ((wi32 ((64 : Int) * r2)) + (wi32 (wu8 (b3 - (128 : Int)))))) (wi64 (i1 + (1 : Int)))
        )
    )
  else
    (
      Option.bind (at? ([(0 : Int), (0 : Int), (128 : Int), (2048 : Int), (65536 : Int)] : List (Int)) long1) fun x1 =>
      if decide (r2 < x1) then
        r01_At_j3 at1 r2 long1 true
      else
        (
          Option.bind (r01_Rune k r2) fun v2 =>
          r01_At_j3 at1 r2 long1 (!v2)
        )
    )
def r01_At_l1 (k : Nat) (long1 : Int) (s1 : List UInt8) (at1 : Int) : Nat → Int → Int → Option (Int × Int × Int × Bool × Unit)
  | 0, _, _ => none
  | n + 1, r2, i1 => r01_At_b1 k long1 s1 at1 (r01_At_l1 k long1 s1 at1 n) r2 i1
def r01_At_j2 (k : Nat) (at1 : Int) (long1 : Int) (s1 : List UInt8) (r1 : Int) (t1 : Bool) : Option (Int × Int × Int × Bool × Unit) :=
  if t1 then
    some (((65533 : Int), at1, (1 : Int), true, ()))
  else
    r01_At_l1 k long1 s1 at1 k r1 (1 : Int)
def r01_At_j1 (k : Nat) (at1 : Int) (s1 : List UInt8) (long1 : Int) (r1 : Int) : Option (Int × Int × Int × Bool × Unit) :=
  r01_At_j2 k at1 long1 s1 r1 ((long1 == (0 : Int)) || (decide ((List.length s1 : Int) < (wi64 (at1 + long1)))))
def r01_At_j6 (k : Nat) (at1 : Int) (s1 : List UInt8) (b1 : Int) (t5 : Bool) : Option (Int × Int × Int × Bool × Unit) :=
  if t5 then
    r01_At_j1 k at1 s1 (4 : Int) (wi32 (wu8 (b1 - (240 : Int))))
  else
    r01_At_j1 k at1 s1 (0 : Int) (0 : Int)
def r01_At_j5 (k : Nat) (at1 : Int) (s1 : List UInt8) (b1 : Int) (t4 : Bool) : Option (Int × Int × Int × Bool × Unit) :=
  if t4 then
    r01_At_j1 k at1 s1 (3 : Int) (wi32 (wu8 (b1 - (224 : Int))))
  else
    r01_At_j6 k at1 s1 b1 (decide ((240 : Int) ≤ b1) && (decide (b1 < (248 : Int))))
def r01_At_j4 (k : Nat) (at1 : Int) (s1 : List UInt8) (b1 : Int) (t3 : Bool) : Option (Int × Int × Int × Bool × Unit) :=
  if t3 then
    r01_At_j1 k at1 s1 (2 : Int) (wi32 (wu8 (b1 - (192 : Int))))
  else
    r01_At_j5 k at1 s1 b1 (decide ((224 : Int) ≤ b1) && (decide (b1 < (240 : Int))))
/-- cognate/cognateref01.At -/
def r01_At (k : Nat) (s1 : List UInt8) (at1 : Int) : Option (Int × Int × Int × Bool × Unit) :=
  Option.bind (byteAt s1 at1) fun b1 =>
  if decide (b1 < (128 : Int)) then
    some ((wi32 b1, at1, (1 : Int), false, ()))
  else
    r01_At_j4 k at1 s1 b1 (decide ((192 : Int) ≤ b1) && (decide (b1 < (224 : Int))))

def r01_All_b1 (k : Nat) (s1 : List UInt8) (go1 : Int → (List ((Int × Int × Int × Bool × Unit))) → Option (List ((Int × Int × Int × Bool × Unit)))) (at1 : Int) (out1 : List ((Int × Int × Int × Bool × Unit))) : Option (List ((Int × Int × Int × Bool × Unit))) :=
  if decide (at1 < (List.length s1 : Int)) then
    (
      Option.bind (r01_At k s1 at1) fun v1 =>
      Option.bind (chk (List.length out1 + List.length ([(v1.1, v1.2.1, v1.2.2.1, v1.2.2.2.1, ())] : List ((Int × Int × Int × Bool × Unit))) ≤ lim)) fun _ =>
      go1 (wi64 (at1 + v1.2.2.1)) (out1 ++ ([(v1.1, v1.2.1, v1.2.2.1, v1.2.2.2.1, ())] : List ((Int × Int × Int × Bool × Unit))))
    )
  else
    some (out1)
def r01_All_l1 (k : Nat) (s1 : List UInt8) : Nat → Int → (List ((Int × Int × Int × Bool × Unit))) → Option (List ((Int × Int × Int × Bool × Unit)))
  | 0, _, _ => none
  | n + 1, at1, out1 => r01_All_b1 k s1 (r01_All_l1 k s1 n) at1 out1
/-- cognate/cognateref01.All -/
def r01_All (k : Nat) (s1 : List UInt8) : Option (List ((Int × Int × Int × Bool × Unit))) :=
  r01_All_l1 k s1 k (0 : Int) ([] : List ((Int × Int × Int × Bool × Unit)))

/-- cognate/cognateref01.weight -/
def r01_weight (k : Nat) (s1 : List UInt8) (p1 : (Int × Int × Int × Bool × Unit)) : Option Int :=
  if p1.2.2.2.1 then
    (
      Option.bind (byteAt s1 p1.2.1) fun b1 =>
      some (wi64 ((2097152 : Int) + (wi64 b1)))
    )
  else
    some (wi64 p1.1)

def r01_Less_j1 (k : Nat) (v1 : List ((Int × Int × Int × Bool × Unit))) (i1 : Int) (a1 : List UInt8) (v2 : List ((Int × Int × Int × Bool × Unit))) (b1 : List UInt8) (go1 : Int → Option Bool) (t1 : Bool) : Option Bool :=
  if t1 then
    (
      Option.bind (at? v1 i1) fun x1 =>
      Option.bind (r01_weight k a1 x1) fun v3 =>
      Option.bind (at? v2 i1) fun x2 =>
      Option.bind (r01_weight k b1 x2) fun v4 =>
      if v3 != v4 then
        some (decide (v3 < v4))
      else
        go1 (wi64 (i1 + (1 : Int)))
    )
  else
    some (decide ((List.length v1 : Int) < (List.length v2 : Int)))
def r01_Less_b1 (k : Nat) (v1 : List ((Int × Int × Int × Bool × Unit))) (a1 : List UInt8) (v2 : List ((Int × Int × Int × Bool × Unit))) (b1 : List UInt8) (go1 : Int → Option Bool) (i1 : Int) : Option Bool :=
  r01_Less_j1 k v1 i1 a1 v2 b1 go1 (decide (i1 < (List.length v1 : Int)) && (decide (i1 < (List.length v2 : Int))))
def r01_Less_l1 (k : Nat) (v1 : List ((Int × Int × Int × Bool × Unit))) (a1 : List UInt8) (v2 : List ((Int × Int × Int × Bool × Unit))) (b1 : List UInt8) : Nat → Int → Option Bool
  | 0, _ => none
  | n + 1, i1 => r01_Less_b1 k v1 a1 v2 b1 (r01_Less_l1 k v1 a1 v2 b1 n) i1
/-- cognate/cognateref01.Less -/
def r01_Less (k : Nat) (a1 : List UInt8) (b1 : List UInt8) : Option Bool :=
  Option.bind (r01_All k a1) fun v1 =>
  Option.bind (r01_All k b1) fun v2 =>
  r01_Less_l1 k v1 a1 v2 b1 k (0 : Int)

def l01_RunesRow_j2  (t2 : Bool) : Option Bool :=
  some (t2)
def l01_RunesRow_j1 (k : Nat) (a1 : List UInt8) (b1 : List UInt8) (t1 : Bool) : Option Bool :=
  if t1 then
    some (true)
  else
    (
      Option.bind (runes_Less k a1 b1) fun v1 =>
      Option.bind (r01_Less k a1 b1) fun v2 =>
      if v1 == v2 then
        (
          Option.bind (runes_Less k b1 a1) fun v3 =>
          Option.bind (r01_Less k b1 a1) fun v4 =>
          l01_RunesRow_j2 (v3 == v4)
        )
      else
        l01_RunesRow_j2 false
    )
/-- cognate/cognatelaw01.RunesRow -/
def l01_RunesRow (k : Nat) (a1 : List UInt8) (b1 : List UInt8) : Option Bool :=
  l01_RunesRow_j1 k a1 b1 (decide ((5000 : Int) < (List.length a1 : Int)) || (decide ((5000 : Int) < (List.length b1 : Int))))

end Go.Ev

namespace Go.Ev
open Go
set_option linter.unusedVariables false

def l01_long_j2  (t2 : Bool) : Option Bool :=
  some (t2)
def l01_long_j1 (s1 : List UInt8) (t1 : Bool) : Option Bool :=
  l01_long_j2 (t1 || (decide ((66000 : Int) < (List.length s1 : Int))))
/-- cognate/cognatelaw01.long -/
def l01_long (k : Nat) (s1 : List UInt8) : Option Bool :=
  l01_long_j1 s1 (decide ((3000 : Int) < (List.length s1 : Int)) && (decide ((List.length s1 : Int) ≤ (65536 : Int))))

/-- cognate/runes.long -/
def runes_long (k : Nat) (s1 : List UInt8) : Option Int :=
  if decide ((65536 : Int) < (List.length s1 : Int)) then
    some ((3 : Int))
  else
    some ((0 : Int))

def unicode_utf8_RuneLen_j1 (r1 : Int) (t1 : Bool) : Option Int :=
  if t1 then
    some ((-1 : Int))
  else
    (
      if decide (r1 ≤ (65535 : Int)) then
        some ((3 : Int))
      else
        (
          if decide (r1 ≤ (1114111 : Int)) then
            some ((4 : Int))
          else
            some ((-1 : Int))
        )
    )
/-- unicode/utf8.RuneLen -/
def unicode_utf8_RuneLen (k : Nat) (r1 : Int) : Option Int :=
  if decide (r1 < (0 : Int)) then
    some ((-1 : Int))
  else
    (
      if decide (r1 ≤ (127 : Int)) then
        some ((1 : Int))
      else
        (
          if decide (r1 ≤ (2047 : Int)) then
            some ((2 : Int))
          else
            unicode_utf8_RuneLen_j1 r1 (decide ((55296 : Int) ≤ r1) && (decide (r1 ≤ (57343 : Int))))
        )
    )

/-- cognate/runes.Pieces.1 -/
def runes_Pieces_c1_i1 (k : Nat) (p1 : (Int × Int × Int × Bool × Unit)) (l1 : List ((Int × Int × Int × Bool × Unit))) : Option (Bool × List ((Int × Int × Int × Bool × Unit))) :=
  Option.bind (chk (List.length l1 + List.length ([(p1.1, p1.2.1, p1.2.2.1, p1.2.2.2.1, ())] : List ((Int × Int × Int × Bool × Unit))) ≤ lim)) fun _ =>
  some (true, l1 ++ ([(p1.1, p1.2.1, p1.2.2.1, p1.2.2.2.1, ())] : List ((Int × Int × Int × Bool × Unit))))

def runes_each_i1_j1 (k : Nat) (s1 : List UInt8) (pos1 : Nat) (t2 : List ((Int × Int × Int × Bool × Unit))) (go1 : Nat → (List ((Int × Int × Int × Bool × Unit))) → Option (List ((Int × Int × Int × Bool × Unit)))) (p1 : Int) (p2 : Bool) : Option (List ((Int × Int × Int × Bool × Unit))) :=
  Option.bind (runes_Pieces_c1_i1 k (runeAt s1 pos1, (pos1 : Int), p1, p2, ()) t2) fun v2 =>
  if !v2.1 then
    some v2.2
  else
    go1 (pos1 + widthAt s1 pos1) v2.2
def runes_each_i1_b1 (k : Nat) (s1 : List UInt8) (go1 : Nat → (List ((Int × Int × Int × Bool × Unit))) → Option (List ((Int × Int × Int × Bool × Unit)))) (pos1 : Nat) (t2 : List ((Int × Int × Int × Bool × Unit))) : Option (List ((Int × Int × Int × Bool × Unit))) :=
  if decide (pos1 < List.length s1) then
    (
      Option.bind (unicode_utf8_RuneLen k (runeAt s1 pos1)) fun v1 =>
      if (runeAt s1 pos1) == (65533 : Int) then
        (
          Option.bind (sub? s1 (pos1 : Int) (s1.length : Int)) fun s2 =>
          Option.bind (utf8_DecodeRuneInString k s2) fun v3 =>
          if v3.2 == (1 : Int) then
            runes_each_i1_j1 k s1 pos1 t2 go1 (1 : Int) true
          else
            runes_each_i1_j1 k s1 pos1 t2 go1 v1 false
        )
      else
        runes_each_i1_j1 k s1 pos1 t2 go1 v1 false
    )
  else
    some t2
def runes_each_i1_l1 (k : Nat) (s1 : List UInt8) : Nat → Nat → (List ((Int × Int × Int × Bool × Unit))) → Option (List ((Int × Int × Int × Bool × Unit)))
  | 0, _, _ => none
  | n + 1, pos1, t2 => runes_each_i1_b1 k s1 (runes_each_i1_l1 k s1 n) pos1 t2
/-- cognate/runes.each -/
def runes_each_i1 (k : Nat) (s1 : List UInt8) (l1 : List ((Int × Int × Int × Bool × Unit))) : Option (List ((Int × Int × Int × Bool × Unit))) :=
  runes_each_i1_l1 k s1 k 0 l1

/-- cognate/runes.Pieces -/
def runes_Pieces_i1 (k : Nat) (s1 : List UInt8) : Option (Int × List ((Int × Int × Int × Bool × Unit))) :=
  Option.bind (runes_long k s1) fun v1 =>
  if v1 != (0 : Int) then
    some (v1, ([] : List ((Int × Int × Int × Bool × Unit))))
  else
    (
      Option.bind (runes_each_i1 k s1 ([] : List ((Int × Int × Int × Bool × Unit)))) fun v2 =>
      some ((0 : Int), v2)
    )

/-- cognate/cognateref01.Pieces -/
def r01_Pieces (k : Nat) (s1 : List UInt8) : Option (List ((Int × Int × Int × Bool × Unit)) × Int) :=
  if decide ((65536 : Int) < (List.length s1 : Int)) then
    some (([] : List ((Int × Int × Int × Bool × Unit))), (3 : Int))
  else
    (
      Option.bind (r01_All k s1) fun v1 =>
      some (v1, (0 : Int))
    )

def unicode_utf8_RuneCountInString_b1 (s1 : List UInt8) (go1 : Int → Nat → Option Int) (n1 : Int) (pos1 : Nat) : Option Int :=
  if decide (pos1 < List.length s1) then
    go1 (wi64 (n1 + (1 : Int))) (pos1 + widthAt s1 pos1)
  else
    some (n1)
def unicode_utf8_RuneCountInString_l1 (s1 : List UInt8) : Nat → Int → Nat → Option Int
  | 0, _, _ => none
  | n + 1, n1, pos1 => unicode_utf8_RuneCountInString_b1 s1 (unicode_utf8_RuneCountInString_l1 s1 n) n1 pos1
/-- unicode/utf8.RuneCountInString -/
def unicode_utf8_RuneCountInString (k : Nat) (s1 : List UInt8) : Option Int :=
  unicode_utf8_RuneCountInString_l1 s1 k (0 : Int) 0

/-- cognate/runes.Len -/
def runes_Len (k : Nat) (s1 : List UInt8) : Option (Int × Int) :=
  Option.bind (runes_long k s1) fun v1 =>
  if v1 != (0 : Int) then
    some ((0 : Int), v1)
  else
    (
      Option.bind (unicode_utf8_RuneCountInString k s1) fun v2 =>
      some (v2, (0 : Int))
    )

/-- cognate/cognateref01.Len -/
def r01_Len (k : Nat) (s1 : List UInt8) : Option (Int × Int) :=
  Option.bind (r01_Pieces k s1) fun v1 =>
  some ((List.length v1.1 : Int), v1.2)

def runes_Broken_c1_i1_j1  (t2 : Int) : Option (Bool × Int) :=
  some (decide (t2 < (0 : Int)), t2)
/-- cognate/runes.Broken.1 -/
def runes_Broken_c1_i1 (k : Nat) (p1 : (Int × Int × Int × Bool × Unit)) (c1 : Int) : Option (Bool × Int) :=
  if p1.2.2.2.1 then
    runes_Broken_c1_i1_j1 p1.2.1
  else
    runes_Broken_c1_i1_j1 c1

def runes_each_i2_j1 (k : Nat) (s1 : List UInt8) (pos1 : Nat) (t2 : Int) (go1 : Nat → Int → Option Int) (p1 : Int) (p2 : Bool) : Option Int :=
  Option.bind (runes_Broken_c1_i1 k (runeAt s1 pos1, (pos1 : Int), p1, p2, ()) t2) fun v2 =>
  if !v2.1 then
    some v2.2
  else
    go1 (pos1 + widthAt s1 pos1) v2.2
def runes_each_i2_b1 (k : Nat) (s1 : List UInt8) (go1 : Nat → Int → Option Int) (pos1 : Nat) (t2 : Int) : Option Int :=
  if decide (pos1 < List.length s1) then
    (
      Option.bind (unicode_utf8_RuneLen k (runeAt s1 pos1)) fun v1 =>
      if (runeAt s1 pos1) == (65533 : Int) then
        (
          Option.bind (sub? s1 (pos1 : Int) (s1.length : Int)) fun s2 =>
          Option.bind (utf8_DecodeRuneInString k s2) fun v3 =>
          if v3.2 == (1 : Int) then
            runes_each_i2_j1 k s1 pos1 t2 go1 (1 : Int) true
          else
            runes_each_i2_j1 k s1 pos1 t2 go1 v1 false
        )
      else
        runes_each_i2_j1 k s1 pos1 t2 go1 v1 false
    )
  else
    some t2
def runes_each_i2_l1 (k : Nat) (s1 : List UInt8) : Nat → Nat → Int → Option Int
  | 0, _, _ => none
  | n + 1, pos1, t2 => runes_each_i2_b1 k s1 (runes_each_i2_l1 k s1 n) pos1 t2
/-- cognate/runes.each -/
def runes_each_i2 (k : Nat) (s1 : List UInt8) (c1 : Int) : Option Int :=
  runes_each_i2_l1 k s1 k 0 c1

/-- cognate/runes.Broken -/
def runes_Broken (k : Nat) (s1 : List UInt8) : Option (Int × Int) :=
  Option.bind (runes_long k s1) fun v1 =>
  if v1 != (0 : Int) then
    some ((0 : Int), v1)
  else
    (
      Option.bind (runes_each_i2 k s1 (-1 : Int)) fun v2 =>
      some (v2, (0 : Int))
    )

def r01_Broken_b1 (v1 : (List ((Int × Int × Int × Bool × Unit)) × Int)) (go1 : Int → Option (Int × Int)) (i1 : Int) : Option (Int × Int) :=
  if decide (i1 < (List.length v1.1 : Int)) then
    (
      Option.bind (at? v1.1 i1) fun x1 =>
      if x1.2.2.2.1 then
        some (x1.2.1, (0 : Int))
      else
        go1 (wi64 (i1 + (1 : Int)))
    )
  else
    some ((-1 : Int), (0 : Int))
def r01_Broken_l1 (v1 : (List ((Int × Int × Int × Bool × Unit)) × Int)) : Nat → Int → Option (Int × Int)
  | 0, _ => none
  | n + 1, i1 => r01_Broken_b1 v1 (r01_Broken_l1 v1 n) i1
/-- cognate/cognateref01.Broken -/
def r01_Broken (k : Nat) (s1 : List UInt8) : Option (Int × Int) :=
  Option.bind (r01_Pieces k s1) fun v1 =>
  if v1.2 != (0 : Int) then
    some ((0 : Int), v1.2)
  else
    r01_Broken_l1 v1 k (0 : Int)

/-- cognate/runes.Pieces -/
def runes_Pieces (k : Nat) (s1 : List UInt8) : Option (List ((Int × Int × Int × Bool × Unit)) × Int) :=
  Option.bind (runes_long k s1) fun v1 =>
  if v1 != (0 : Int) then
    some (([] : List ((Int × Int × Int × Bool × Unit))), v1)
  else
    (
      Option.bind (runes_each_i1 k s1 ([] : List ((Int × Int × Int × Bool × Unit)))) fun v2 =>
      some (v2, (0 : Int))
    )

/-- cognate/runes.Part.1 -/
def runes_Part_c1 (k : Nat) (i1 : Int) (t1 : List ((Int × Int × Int × Bool × Unit))) (t2 : List UInt8) : Option Int :=
  if i1 == (List.length t1 : Int) then
    some ((List.length t2 : Int))
  else
    (
      Option.bind (at? t1 i1) fun x1 =>
      some (x1.2.1)
    )

def runes_Part_j2 (k : Nat) (from1 : Int) (v1 : (List ((Int × Int × Int × Bool × Unit)) × Int)) (s1 : List UInt8) (to1 : Int) (t2 : Bool) : Option (List UInt8 × Int) :=
  if t2 then
    some (([] : List UInt8), (10 : Int))
  else
    (
      Option.bind (runes_Part_c1 k from1 v1.1 s1) fun v2 =>
      Option.bind (runes_Part_c1 k to1 v1.1 s1) fun v3 =>
      Option.bind (sub? s1 v2 v3) fun s2 =>
      some (s2, (0 : Int))
    )
def runes_Part_j1 (k : Nat) (from1 : Int) (v1 : (List ((Int × Int × Int × Bool × Unit)) × Int)) (s1 : List UInt8) (to1 : Int) (t1 : Bool) : Option (List UInt8 × Int) :=
  runes_Part_j2 k from1 v1 s1 to1 (t1 || (decide ((List.length v1.1 : Int) < to1)))
/-- cognate/runes.Part -/
def runes_Part (k : Nat) (s1 : List UInt8) (from1 : Int) (to1 : Int) : Option (List UInt8 × Int) :=
  Option.bind (runes_Pieces k s1) fun v1 =>
  if v1.2 != (0 : Int) then
    some (([] : List UInt8), v1.2)
  else
    runes_Part_j1 k from1 v1 s1 to1 (decide (from1 < (0 : Int)) || (decide (to1 < from1)))

def r01_Part_b1 (to1 : Int) (v1 : (List ((Int × Int × Int × Bool × Unit)) × Int)) (s1 : List UInt8) (go1 : Int → (List (Int)) → Option (List UInt8 × Int)) (i1 : Int) (out1 : List (Int)) : Option (List UInt8 × Int) :=
  if decide (i1 < to1) then
    (
      Option.bind (at? v1.1 i1) fun x1 =>
      Option.bind (sub? s1 x1.2.1 (wi64 (x1.2.1 + x1.2.2.1))) fun s2 =>
      Option.bind (chk (List.length out1 + List.length (bytesEl s2) ≤ lim)) fun _ =>
      go1 (wi64 (i1 + (1 : Int))) (out1 ++ (bytesEl s2))
    )
  else
    some (bytesStr out1, (0 : Int))
def r01_Part_l1 (to1 : Int) (v1 : (List ((Int × Int × Int × Bool × Unit)) × Int)) (s1 : List UInt8) : Nat → Int → (List (Int)) → Option (List UInt8 × Int)
  | 0, _, _ => none
  | n + 1, i1, out1 => r01_Part_b1 to1 v1 s1 (r01_Part_l1 to1 v1 s1 n) i1 out1
def r01_Part_j2 (k : Nat) (to1 : Int) (v1 : (List ((Int × Int × Int × Bool × Unit)) × Int)) (s1 : List UInt8) (from1 : Int) (t2 : Bool) : Option (List UInt8 × Int) :=
  if t2 then
    some (([] : List UInt8), (10 : Int))
  else
    r01_Part_l1 to1 v1 s1 k from1 ([] : List (Int))
def r01_Part_j1 (k : Nat) (to1 : Int) (v1 : (List ((Int × Int × Int × Bool × Unit)) × Int)) (s1 : List UInt8) (from1 : Int) (t1 : Bool) : Option (List UInt8 × Int) :=
  r01_Part_j2 k to1 v1 s1 from1 (t1 || (decide ((List.length v1.1 : Int) < to1)))
/-- cognate/cognateref01.Part -/
def r01_Part (k : Nat) (s1 : List UInt8) (from1 : Int) (to1 : Int) : Option (List UInt8 × Int) :=
  Option.bind (r01_Pieces k s1) fun v1 =>
  if v1.2 != (0 : Int) then
    some (([] : List UInt8), v1.2)
  else
    r01_Part_j1 k to1 v1 s1 from1 (decide (from1 < (0 : Int)) || (decide (to1 < from1)))

/-- cognate/runes.Back -/
def runes_Back (k : Nat) (s1 : List UInt8) : Option (List UInt8 × Int) :=
  Option.bind (runes_long k s1) fun v1 =>
  if v1 != (0 : Int) then
    some (([] : List UInt8), v1)
  else
    (
      Option.bind (chk (List.length s1 ≤ lim)) fun _ =>
      Option.bind (chk (List.length (runesStr (strRunes s1)) ≤ lim)) fun _ =>
      some (runesStr (strRunes s1), (0 : Int))
    )

def r01_one_j1  (r2 : Int) : Option (List (Int)) :=
  if decide (r2 < (128 : Int)) then
    some (([wu8 r2] : List (Int)))
  else
    (
      if decide (r2 < (2048 : Int)) then
        (
          Option.bind (chk ((64 : Int) ≠ 0)) fun _ =>
          Option.bind (chk ((64 : Int) ≠ 0)) fun _ =>
          some (([wu8 (wi32 ((192 : Int) + (wi32 (Int.tdiv r2 (64 : Int))))), wu8 (wi32 ((128 : Int) + (Int.tmod r2 (64 : Int))))] : List (Int)))
        )
      else
        (
          if decide (r2 < (65536 : Int)) then
            (
              Option.bind (chk ((4096 : Int) ≠ 0)) fun _ =>
              Option.bind (chk ((64 : Int) ≠ 0)) fun _ =>
              Option.bind (chk ((64 : Int) ≠ 0)) fun _ =>
              Option.bind (chk ((64 : Int) ≠ 0)) fun _ =>
              some (([wu8 (wi32 ((224 : Int) + (wi32 (Int.tdiv r2 (4096 : Int))))), wu8 (wi32 ((128 : Int) + (Int.tmod (wi32 (Int.tdiv r2 (64 : Int))) (64 : Int)))), wu8 (wi32 ((128 : Int) + (Int.tmod r2 (64 : Int))))] : List (Int)))
            )
          else
            (
              Option.bind (chk ((262144 : Int) ≠ 0)) fun _ =>
              Option.bind (chk ((4096 : Int) ≠ 0)) fun _ =>
              Option.bind (chk ((64 : Int) ≠ 0)) fun _ =>
              Option.bind (chk ((64 : Int) ≠ 0)) fun _ =>
              Option.bind (chk ((64 : Int) ≠ 0)) fun _ =>
              Option.bind (chk ((64 : Int) ≠ 0)) fun _ =>
              some (([wu8 (wi32 ((240 : Int) + (wi32 (Int.tdiv r2 (262144 : Int))))), wu8 (wi32 ((128 : Int) + (Int.tmod (wi32 (Int.tdiv r2 (4096 : Int))) (64 : Int)))), wu8 (wi32 ((128 : Int) + (Int.tmod (wi32 (Int.tdiv r2 (64 : Int))) (64 : Int)))), wu8 (wi32 ((128 : Int) + (Int.tmod r2 (64 : Int))))] : List (Int)))
            )
        )
    )
/-- cognate/cognateref01.one -/
def r01_one (k : Nat) (r1 : Int) : Option (List (Int)) :=
  Option.bind (r01_Rune k r1) fun v1 =>
  if !v1 then
    r01_one_j1 (65533 : Int)
  else
    r01_one_j1 r1

def r01_Back_b1 (k : Nat) (v1 : (List ((Int × Int × Int × Bool × Unit)) × Int)) (go1 : Int → (List (Int)) → Option (List UInt8 × Int)) (i1 : Int) (out1 : List (Int)) : Option (List UInt8 × Int) :=
  if decide (i1 < (List.length v1.1 : Int)) then
    (
      Option.bind (at? v1.1 i1) fun x1 =>
      Option.bind (r01_one k x1.1) fun v2 =>
      Option.bind (chk (List.length out1 + List.length v2 ≤ lim)) fun _ =>
      go1 (wi64 (i1 + (1 : Int))) (out1 ++ v2)
    )
  else
    some (bytesStr out1, (0 : Int))
def r01_Back_l1 (k : Nat) (v1 : (List ((Int × Int × Int × Bool × Unit)) × Int)) : Nat → Int → (List (Int)) → Option (List UInt8 × Int)
  | 0, _, _ => none
  | n + 1, i1, out1 => r01_Back_b1 k v1 (r01_Back_l1 k v1 n) i1 out1
/-- cognate/cognateref01.Back -/
def r01_Back (k : Nat) (s1 : List UInt8) : Option (List UInt8 × Int) :=
  Option.bind (r01_Pieces k s1) fun v1 =>
  if v1.2 != (0 : Int) then
    some (([] : List UInt8), v1.2)
  else
    r01_Back_l1 k v1 k (0 : Int) ([] : List (Int))

def r01_Same_b1 (a1 : List ((Int × Int × Int × Bool × Unit))) (b1 : List ((Int × Int × Int × Bool × Unit))) (go1 : Int → Option Bool) (i1 : Int) : Option Bool :=
  if decide (i1 < (List.length a1 : Int)) then
    (
      Option.bind (at? a1 i1) fun x1 =>
      Option.bind (at? b1 i1) fun x2 =>
      if !((eqInt x1.1 x2.1) && ((eqInt x1.2.1 x2.2.1) && ((eqInt x1.2.2.1 x2.2.2.1) && ((eqBool x1.2.2.2.1 x2.2.2.2.1) && (true))))) then
        some (false)
      else
        go1 (wi64 (i1 + (1 : Int)))
    )
  else
    some (true)
def r01_Same_l1 (a1 : List ((Int × Int × Int × Bool × Unit))) (b1 : List ((Int × Int × Int × Bool × Unit))) : Nat → Int → Option Bool
  | 0, _ => none
  | n + 1, i1 => r01_Same_b1 a1 b1 (r01_Same_l1 a1 b1 n) i1
/-- cognate/cognateref01.Same -/
def r01_Same (k : Nat) (a1 : List ((Int × Int × Int × Bool × Unit))) (b1 : List ((Int × Int × Int × Bool × Unit))) : Option Bool :=
  if (List.length a1 : Int) != (List.length b1 : Int) then
    some (false)
  else
    r01_Same_l1 a1 b1 k (0 : Int)

def l01_RunesTexts_j10  (t11 : Bool) : Option Bool :=
  some (t11)
def l01_RunesTexts_b1 (k : Nat) (s1 : List UInt8) (v3 : (List ((Int × Int × Int × Bool × Unit)) × Int)) (go1 : Int → (List ((Int × Int × Int × Bool × Unit))) → Option Bool) (i1 : Int) (t10 : List ((Int × Int × Int × Bool × Unit))) : Option Bool :=
  if decide (i1 < (List.length t10 : Int)) then
    (
      Option.bind (at? t10 i1) fun x1 =>
      go1 (wi64 (i1 + (1 : Int))) (List.set t10 (i1).toNat ((77 : Int), (0 : Int), (0 : Int), false, ()))
    )
  else
    (
      Option.bind (runes_Pieces_i1 k s1) fun v12 =>
      if v12.1 == v3.2 then
        (
          Option.bind (r01_Same k v12.2 v3.1) fun v13 =>
          l01_RunesTexts_j10 v13
        )
      else
        l01_RunesTexts_j10 false
    )
def l01_RunesTexts_l1 (k : Nat) (s1 : List UInt8) (v3 : (List ((Int × Int × Int × Bool × Unit)) × Int)) : Nat → Int → (List ((Int × Int × Int × Bool × Unit))) → Option Bool
  | 0, _, _ => none
  | n + 1, i1, t10 => l01_RunesTexts_b1 k s1 v3 (l01_RunesTexts_l1 k s1 v3 n) i1 t10
def l01_RunesTexts_j9 (k : Nat) (s1 : List UInt8) (v3 : (List ((Int × Int × Int × Bool × Unit)) × Int)) (v2 : (Int × List ((Int × Int × Int × Bool × Unit)))) (t9 : Bool) : Option Bool :=
  if t9 then
    some (false)
  else
    l01_RunesTexts_l1 k s1 v3 k (0 : Int) v2.2
def l01_RunesTexts_j8 (k : Nat) (s1 : List UInt8) (v3 : (List ((Int × Int × Int × Bool × Unit)) × Int)) (v2 : (Int × List ((Int × Int × Int × Bool × Unit)))) (t8 : Bool) : Option Bool :=
  if t8 then
    l01_RunesTexts_j9 k s1 v3 v2 true
  else
    (
      Option.bind (r01_Same k v2.2 v3.1) fun v14 =>
      l01_RunesTexts_j9 k s1 v3 v2 (!v14)
    )
def l01_RunesTexts_j7 (k : Nat) (s1 : List UInt8) (v3 : (List ((Int × Int × Int × Bool × Unit)) × Int)) (v2 : (Int × List ((Int × Int × Int × Bool × Unit)))) (v10 : (List UInt8 × Int)) (v11 : (List UInt8 × Int)) (t7 : Bool) : Option Bool :=
  l01_RunesTexts_j8 k s1 v3 v2 (t7 || (!(v10.1 == v11.1)))
def l01_RunesTexts_j6 (k : Nat) (s1 : List UInt8) (v3 : (List ((Int × Int × Int × Bool × Unit)) × Int)) (v2 : (Int × List ((Int × Int × Int × Bool × Unit)))) (v10 : (List UInt8 × Int)) (v11 : (List UInt8 × Int)) (v8 : (List UInt8 × Int)) (v9 : (List UInt8 × Int)) (t6 : Bool) : Option Bool :=
  l01_RunesTexts_j7 k s1 v3 v2 v10 v11 (t6 || (!(v8.1 == v9.1)))
def l01_RunesTexts_j5 (k : Nat) (s1 : List UInt8) (v3 : (List ((Int × Int × Int × Bool × Unit)) × Int)) (v2 : (Int × List ((Int × Int × Int × Bool × Unit)))) (v10 : (List UInt8 × Int)) (v11 : (List UInt8 × Int)) (v8 : (List UInt8 × Int)) (v9 : (List UInt8 × Int)) (v6 : (Int × Int)) (v7 : (Int × Int)) (t5 : Bool) : Option Bool :=
  l01_RunesTexts_j6 k s1 v3 v2 v10 v11 v8 v9 (t5 || (v6.1 != v7.1))
def l01_RunesTexts_j4 (k : Nat) (s1 : List UInt8) (v3 : (List ((Int × Int × Int × Bool × Unit)) × Int)) (v2 : (Int × List ((Int × Int × Int × Bool × Unit)))) (v10 : (List UInt8 × Int)) (v11 : (List UInt8 × Int)) (v8 : (List UInt8 × Int)) (v9 : (List UInt8 × Int)) (v6 : (Int × Int)) (v7 : (Int × Int)) (v4 : (Int × Int)) (v5 : (Int × Int)) (t4 : Bool) : Option Bool :=
  l01_RunesTexts_j5 k s1 v3 v2 v10 v11 v8 v9 v6 v7 (t4 || (v4.1 != v5.1))
def l01_RunesTexts_j3 (k : Nat) (s1 : List UInt8) (v3 : (List ((Int × Int × Int × Bool × Unit)) × Int)) (v2 : (Int × List ((Int × Int × Int × Bool × Unit)))) (v10 : (List UInt8 × Int)) (v11 : (List UInt8 × Int)) (v8 : (List UInt8 × Int)) (v9 : (List UInt8 × Int)) (v6 : (Int × Int)) (v7 : (Int × Int)) (v4 : (Int × Int)) (v5 : (Int × Int)) (t3 : Bool) : Option Bool :=
  l01_RunesTexts_j4 k s1 v3 v2 v10 v11 v8 v9 v6 v7 v4 v5 (t3 || (v10.2 != v11.2))
def l01_RunesTexts_j2 (k : Nat) (s1 : List UInt8) (v3 : (List ((Int × Int × Int × Bool × Unit)) × Int)) (v2 : (Int × List ((Int × Int × Int × Bool × Unit)))) (v10 : (List UInt8 × Int)) (v11 : (List UInt8 × Int)) (v8 : (List UInt8 × Int)) (v9 : (List UInt8 × Int)) (v6 : (Int × Int)) (v7 : (Int × Int)) (v4 : (Int × Int)) (v5 : (Int × Int)) (t2 : Bool) : Option Bool :=
  l01_RunesTexts_j3 k s1 v3 v2 v10 v11 v8 v9 v6 v7 v4 v5 (t2 || (v8.2 != v9.2))
def l01_RunesTexts_j1 (k : Nat) (s1 : List UInt8) (v3 : (List ((Int × Int × Int × Bool × Unit)) × Int)) (v2 : (Int × List ((Int × Int × Int × Bool × Unit)))) (v10 : (List UInt8 × Int)) (v11 : (List UInt8 × Int)) (v8 : (List UInt8 × Int)) (v9 : (List UInt8 × Int)) (v6 : (Int × Int)) (v7 : (Int × Int)) (v4 : (Int × Int)) (v5 : (Int × Int)) (t1 : Bool) : Option Bool :=
  l01_RunesTexts_j2 k s1 v3 v2 v10 v11 v8 v9 v6 v7 v4 v5 (t1 || (v6.2 != v7.2))
/-- cognate/cognatelaw01.RunesTexts -/
def l01_RunesTexts (k : Nat) (s1 : List UInt8) (from1 : Int) (to1 : Int) : Option Bool :=
  Option.bind (l01_long k s1) fun v1 =>
  if v1 then
    some (true)
  else
    (
      Option.bind (runes_Pieces_i1 k s1) fun v2 =>
      Option.bind (r01_Pieces k s1) fun v3 =>
      Option.bind (runes_Len k s1) fun v4 =>
      Option.bind (r01_Len k s1) fun v5 =>
      Option.bind (runes_Broken k s1) fun v6 =>
      Option.bind (r01_Broken k s1) fun v7 =>
      Option.bind (runes_Part k s1 from1 to1) fun v8 =>
      Option.bind (r01_Part k s1 from1 to1) fun v9 =>
      Option.bind (runes_Back k s1) fun v10 =>
      Option.bind (r01_Back k s1) fun v11 =>
      l01_RunesTexts_j1 k s1 v3 v2 v10 v11 v8 v9 v6 v7 v4 v5 ((v2.1 != v3.2) || (v4.2 != v5.2))
    )

end Go.Ev

namespace Go.Ev
open Go
set_option linter.unusedVariables false

/-- (*strings.Builder).WriteByte -/
def strings_Builder_WriteByte_i1 (k : Nat) (c1 : Int) (l1 : List (Int)) : Option (Option (Option (Nat × Int)) × List (Int)) :=
  Option.bind (bld_copyCheck k l1) fun v1 =>
  Option.bind (chk (List.length l1 + List.length ([c1] : List (Int)) ≤ lim)) fun _ =>
  some ((none : Option (Option (Nat × Int))), l1 ++ ([c1] : List (Int)))

/-- internal/strconv.isPowerOfTwo -/
def internal_strconv_isPowerOfTwo_16 (k : Nat)  : Option Bool :=
  some (true)

def internal_strconv_formatBits_16_false_false_j1  (i1 : Int) (d1 : List (Int)) (a1 : List (Int)) : Option (List (Int) × List UInt8) :=
  Option.bind (sub? a1 i1 (a1.length : Int)) fun s1 =>
  Option.bind (chk (List.length a1 = 65)) fun _ =>
  some (d1, bytesStr s1)
def internal_strconv_formatBits_16_false_false_b1  (go1 : Int → Int → (List (Int)) → Option (List (Int) × List UInt8)) (u2 : Int) (i2 : Int) (a2 : List (Int)) : Option (List (Int) × List UInt8) :=
  if decide ((16 : Int) ≤ u2) then
    (
      Option.bind (byteAt ([48, 49, 50, 51, 52, 53, 54, 55, 56, 57, 97, 98, 99, 100, 101, 102, 103, 104, 105, 106, 107, 108, 109, 110, 111, 112, 113, 114, 115, 116, 117, 118, 119, 120, 121, 122] : List UInt8) (wu64 (BitVec.toNat (BitVec.ofInt 64 u2 &&& BitVec.ofInt 64 (15 : Int))))) fun b1 =>
      Option.bind (at? a2 (wi64 (i2 - (1 : Int)))) fun x1 =>
      Option.bind (chk (List.length a2 = 65)) fun _ =>
      Option.bind (chk (0 ≤ (4 : Int))) fun _ =>
      go1 (Int.fdiv u2 (2 ^ min ((4 : Int)).toNat 64)) (wi64 (i2 - (1 : Int))) (List.set a2 (wi64 (i2 - (1 : Int))).toNat b1)
    )
  else
    (
      Option.bind (byteAt ([48, 49, 50, 51, 52, 53, 54, 55, 56, 57, 97, 98, 99, 100, 101, 102, 103, 104, 105, 106, 107, 108, 109, 110, 111, 112, 113, 114, 115, 116, 117, 118, 119, 120, 121, 122] : List UInt8) u2) fun b2 =>
      Option.bind (at? a2 (wi64 (i2 - (1 : Int)))) fun x2 =>
      Option.bind (chk (List.length a2 = 65)) fun _ =>
      internal_strconv_formatBits_16_false_false_j1 (wi64 (i2 - (1 : Int))) ([] : List (Int)) (List.set a2 (wi64 (i2 - (1 : Int))).toNat b2)
    )
def internal_strconv_formatBits_16_false_false_l1  : Nat → Int → Int → (List (Int)) → Option (List (Int) × List UInt8)
  | 0, _, _, _ => none
  | n + 1, u2, i2, a2 => internal_strconv_formatBits_16_false_false_b1 (internal_strconv_formatBits_16_false_false_l1 n) u2 i2 a2
/-- internal/strconv.formatBits -/
def internal_strconv_formatBits_16_false_false (k : Nat) (dst1 : List (Int)) (u1 : Int) : Option (List (Int) × List UInt8) :=
  internal_strconv_formatBits_16_false_false_l1 k u1 (65 : Int) (List.replicate 65 (0 : Int))

/-- internal/strconv.FormatUint -/
def internal_strconv_FormatUint_16 (k : Nat) (i1 : Int) : Option (List UInt8) :=
  Option.bind (internal_strconv_formatBits_16_false_false k ([] : List (Int)) i1) fun v1 =>
  some (v1.2)

/-- strconv.FormatUint -/
def strconv_FormatUint_16 (k : Nat) (i1 : Int) : Option (List UInt8) :=
  Option.bind (internal_strconv_FormatUint_16 k i1) fun v1 =>
  some (v1)

def internal_strconv_formatBits_16_false_j3 (d1 : List (Int)) (i2 : Int) (a2 : List (Int)) : Option (List (Int) × List UInt8) :=
  Option.bind (sub? a2 i2 (a2.length : Int)) fun s1 =>
  Option.bind (chk (List.length a2 = 65)) fun _ =>
  some (d1, bytesStr s1)
def internal_strconv_formatBits_16_false_j2 (neg1 : Bool) (i1 : Int) (d1 : List (Int)) (a1 : List (Int)) : Option (List (Int) × List UInt8) :=
  if neg1 then
    (
      Option.bind (at? a1 (wi64 (i1 - (1 : Int)))) fun x1 =>
      Option.bind (chk (List.length a1 = 65)) fun _ =>
      internal_strconv_formatBits_16_false_j3 d1 (wi64 (i1 - (1 : Int))) (List.set a1 (wi64 (i1 - (1 : Int))).toNat (45 : Int))
    )
  else
    internal_strconv_formatBits_16_false_j3 d1 i1 a1
def internal_strconv_formatBits_16_false_b1 (neg1 : Bool) (go1 : Int → Int → (List (Int)) → Option (List (Int) × List UInt8)) (u3 : Int) (i3 : Int) (a3 : List (Int)) : Option (List (Int) × List UInt8) :=
  if decide ((16 : Int) ≤ u3) then
    (
      Option.bind (byteAt ([48, 49, 50, 51, 52, 53, 54, 55, 56, 57, 97, 98, 99, 100, 101, 102, 103, 104, 105, 106, 107, 108, 109, 110, 111, 112, 113, 114, 115, 116, 117, 118, 119, 120, 121, 122] : List UInt8) (wu64 (BitVec.toNat (BitVec.ofInt 64 u3 &&& BitVec.ofInt 64 (15 : Int))))) fun b1 =>
      Option.bind (at? a3 (wi64 (i3 - (1 : Int)))) fun x2 =>
      Option.bind (chk (List.length a3 = 65)) fun _ =>
      Option.bind (chk (0 ≤ (4 : Int))) fun _ =>
      go1 (Int.fdiv u3 (2 ^ min ((4 : Int)).toNat 64)) (wi64 (i3 - (1 : Int))) (List.set a3 (wi64 (i3 - (1 : Int))).toNat b1)
    )
  else
    (
      Option.bind (byteAt ([48, 49, 50, 51, 52, 53, 54, 55, 56, 57, 97, 98, 99, 100, 101, 102, 103, 104, 105, 106, 107, 108, 109, 110, 111, 112, 113, 114, 115, 116, 117, 118, 119, 120, 121, 122] : List UInt8) u3) fun b2 =>
      Option.bind (at? a3 (wi64 (i3 - (1 : Int)))) fun x3 =>
      Option.bind (chk (List.length a3 = 65)) fun _ =>
      internal_strconv_formatBits_16_false_j2 neg1 (wi64 (i3 - (1 : Int))) ([] : List (Int)) (List.set a3 (wi64 (i3 - (1 : Int))).toNat b2)
    )
def internal_strconv_formatBits_16_false_l1 (neg1 : Bool) : Nat → Int → Int → (List (Int)) → Option (List (Int) × List UInt8)
  | 0, _, _, _ => none
  | n + 1, u3, i3, a3 => internal_strconv_formatBits_16_false_b1 neg1 (internal_strconv_formatBits_16_false_l1 neg1 n) u3 i3 a3
def internal_strconv_formatBits_16_false_j1 (k : Nat) (neg1 : Bool) (u2 : Int) : Option (List (Int) × List UInt8) :=
  internal_strconv_formatBits_16_false_l1 neg1 k u2 (65 : Int) (List.replicate 65 (0 : Int))
/-- internal/strconv.formatBits -/
def internal_strconv_formatBits_16_false (k : Nat) (dst1 : List (Int)) (u1 : Int) (neg1 : Bool) : Option (List (Int) × List UInt8) :=
  if neg1 then
    internal_strconv_formatBits_16_false_j1 k neg1 (negI .u64 u1)
  else
    internal_strconv_formatBits_16_false_j1 k neg1 u1

/-- internal/strconv.FormatInt -/
def internal_strconv_FormatInt_16 (k : Nat) (i1 : Int) : Option (List UInt8) :=
  Option.bind (internal_strconv_formatBits_16_false k ([] : List (Int)) (wu64 i1) (decide (i1 < (0 : Int)))) fun v1 =>
  some (v1.2)

/-- strconv.FormatInt -/
def strconv_FormatInt_16 (k : Nat) (i1 : Int) : Option (List UInt8) :=
  Option.bind (internal_strconv_FormatInt_16 k i1) fun v1 =>
  some (v1)

def runes_shown_j2 (k : Nat) (b1 : Int) (p1 : (Int × Int × Int × Bool × Unit)) (t2 : Bool) : Option (List UInt8) :=
  if t2 then
    some ((Utf8.encode b1).data.toList)
  else
    (
      Option.bind (strconv_FormatInt_16 k (wi64 p1.1)) fun v2 =>
      Option.bind (chk (List.length ([92, 117] : List UInt8) + List.length v2 ≤ lim)) fun _ =>
      Option.bind (chk (List.length (([92, 117] : List UInt8) ++ v2) + List.length ([59] : List UInt8) ≤ lim)) fun _ =>
      some ((([92, 117] : List UInt8) ++ v2) ++ ([59] : List UInt8))
    )
def runes_shown_j1 (k : Nat) (b1 : Int) (p1 : (Int × Int × Int × Bool × Unit)) (t1 : Bool) : Option (List UInt8) :=
  if t1 then
    (
      Option.bind (chk (List.length ([92] : List UInt8) + List.length ((Utf8.encode b1).data.toList) ≤ lim)) fun _ =>
      some (([92] : List UInt8) ++ ((Utf8.encode b1).data.toList))
    )
  else
    runes_shown_j2 k b1 p1 (decide ((32 : Int) ≤ b1) && (decide (b1 < (127 : Int))))
/-- cognate/runes.shown -/
def runes_shown (k : Nat) (s1 : List UInt8) (p1 : (Int × Int × Int × Bool × Unit)) : Option (List UInt8) :=
  Option.bind (byteAt s1 p1.2.1) fun b1 =>
  if p1.2.2.2.1 then
    (
      Option.bind (strconv_FormatUint_16 k (wu64 b1)) fun v1 =>
      Option.bind (chk (List.length ([92, 120] : List UInt8) + List.length v1 ≤ lim)) fun _ =>
      some (([92, 120] : List UInt8) ++ v1)
    )
  else
    (
      if b1 == (34 : Int) then
        runes_shown_j1 k b1 p1 (b1 == (34 : Int))
      else
        runes_shown_j1 k b1 p1 (b1 == (92 : Int))
    )

/-- (*strings.Builder).WriteString -/
def strings_Builder_WriteString_i1 (k : Nat) (s1 : List UInt8) (l1 : List (Int)) : Option (Option (Option (Nat × Int)) × Int × List (Int)) :=
  Option.bind (bld_copyCheck k l1) fun v1 =>
  Option.bind (chk (List.length l1 + List.length (bytesEl s1) ≤ lim)) fun _ =>
  some ((none : Option (Option (Nat × Int))), (List.length s1 : Int), l1 ++ (bytesEl s1))

/-- cognate/runes.quote.1 -/
def runes_quote_c1_i1 (k : Nat) (p1 : (Int × Int × Int × Bool × Unit)) (c1 : List UInt8) (l1 : List (Int)) : Option (Bool × List (Int)) :=
  Option.bind (runes_shown k c1 (p1.1, p1.2.1, p1.2.2.1, p1.2.2.2.1, ())) fun v1 =>
  Option.bind (strings_Builder_WriteString_i1 k v1 l1) fun v2 =>
  some (true, v2.2.2)

def runes_each_i3_j1 (k : Nat) (s1 : List UInt8) (pos1 : Nat) (c1 : List UInt8) (t3 : List (Int)) (go1 : Nat → (List (Int)) → Option (List UInt8 × List (Int))) (p1 : Int) (p2 : Bool) : Option (List UInt8 × List (Int)) :=
  Option.bind (runes_quote_c1_i1 k (runeAt s1 pos1, (pos1 : Int), p1, p2, ()) c1 t3) fun v2 =>
  if !v2.1 then
    some (c1, v2.2)
  else
    go1 (pos1 + widthAt s1 pos1) v2.2
def runes_each_i3_b1 (k : Nat) (s1 : List UInt8) (c1 : List UInt8) (go1 : Nat → (List (Int)) → Option (List UInt8 × List (Int))) (pos1 : Nat) (t3 : List (Int)) : Option (List UInt8 × List (Int)) :=
  if decide (pos1 < List.length s1) then
    (
      Option.bind (unicode_utf8_RuneLen k (runeAt s1 pos1)) fun v1 =>
      if (runeAt s1 pos1) == (65533 : Int) then
        (
          Option.bind (sub? s1 (pos1 : Int) (s1.length : Int)) fun s2 =>
          Option.bind (utf8_DecodeRuneInString k s2) fun v3 =>
          if v3.2 == (1 : Int) then
            runes_each_i3_j1 k s1 pos1 c1 t3 go1 (1 : Int) true
          else
            runes_each_i3_j1 k s1 pos1 c1 t3 go1 v1 false
        )
      else
        runes_each_i3_j1 k s1 pos1 c1 t3 go1 v1 false
    )
  else
    some (c1, t3)
def runes_each_i3_l1 (k : Nat) (s1 : List UInt8) (c1 : List UInt8) : Nat → Nat → (List (Int)) → Option (List UInt8 × List (Int))
  | 0, _, _ => none
  | n + 1, pos1, t3 => runes_each_i3_b1 k s1 c1 (runes_each_i3_l1 k s1 c1 n) pos1 t3
/-- cognate/runes.each -/
def runes_each_i3 (k : Nat) (s1 : List UInt8) (c1 : List UInt8) (l1 : List (Int)) : Option (List UInt8 × List (Int)) :=
  runes_each_i3_l1 k s1 c1 k 0 l1

/-- cognate/runes.quote -/
def runes_quote (k : Nat) (s1 : List UInt8) : Option (List UInt8) :=
  Option.bind (strings_Builder_WriteByte_i1 k (34 : Int) ([] : List (Int))) fun v1 =>
  Option.bind (runes_each_i3 k s1 s1 v1.2) fun v2 =>
  Option.bind (strings_Builder_WriteByte_i1 k (34 : Int) v2.2) fun v3 =>
  Option.bind (bld_String k v3.2) fun v4 =>
  some (v4)

/-- cognate/runes.Quote -/
def runes_Quote (k : Nat) (s1 : List UInt8) : Option (List UInt8 × Int) :=
  Option.bind (runes_long k s1) fun v1 =>
  if v1 != (0 : Int) then
    some (([] : List UInt8), v1)
  else
    (
      Option.bind (runes_quote k s1) fun v2 =>
      some (v2, (0 : Int))
    )

/-- cognate/runes.Text -/
def runes_Text (k : Nat) (l1 : List (Int)) : Option (List UInt8) :=
  Option.bind (chk (List.length (runesStr l1) ≤ lim)) fun _ =>
  some (runesStr l1)

def l01_alive_j7  (t7 : Bool) : Option Bool :=
  some (t7)
def l01_alive_j6 (k : Nat) (t6 : Bool) : Option Bool :=
  if t6 then
    (
      Option.bind (runes_Less k ([97] : List UInt8) ([98] : List UInt8)) fun v3 =>
      l01_alive_j7 v3
    )
  else
    l01_alive_j7 false
def l01_alive_j5 (k : Nat) (t5 : Bool) : Option Bool :=
  if t5 then
    (
      Option.bind (runes_Text k ([(97 : Int)] : List (Int))) fun v4 =>
      l01_alive_j6 k (v4 == ([97] : List UInt8))
    )
  else
    l01_alive_j6 k false
def l01_alive_j4 (k : Nat) (v2 : (List UInt8 × Int)) (t4 : Bool) : Option Bool :=
  l01_alive_j5 k (t4 && (v2.1 == ([34, 97, 92, 120, 102, 102, 34] : List UInt8)))
def l01_alive_j3 (k : Nat) (v2 : (List UInt8 × Int)) (t3 : Bool) : Option Bool :=
  l01_alive_j4 k v2 (t3 && (v2.2 == (0 : Int)))
def l01_alive_j2 (k : Nat) (v1 : (List ((Int × Int × Int × Bool × Unit)) × Int)) (v2 : (List UInt8 × Int)) (t2 : Bool) : Option Bool :=
  if t2 then
    (
      Option.bind (at? v1.1 (1 : Int)) fun x1 =>
      l01_alive_j3 k v2 ((eqInt x1.1 (65533 : Int)) && ((eqInt x1.2.1 (1 : Int)) && ((eqInt x1.2.2.1 (1 : Int)) && ((eqBool x1.2.2.2.1 true) && (true)))))
    )
  else
    l01_alive_j3 k v2 false
def l01_alive_j1 (k : Nat) (v1 : (List ((Int × Int × Int × Bool × Unit)) × Int)) (v2 : (List UInt8 × Int)) (t1 : Bool) : Option Bool :=
  if t1 then
    (
      Option.bind (at? v1.1 (0 : Int)) fun x2 =>
      l01_alive_j2 k v1 v2 ((eqInt x2.1 (97 : Int)) && ((eqInt x2.2.1 (0 : Int)) && ((eqInt x2.2.2.1 (1 : Int)) && ((eqBool x2.2.2.2.1 false) && (true)))))
    )
  else
    l01_alive_j2 k v1 v2 false
/-- cognate/cognatelaw01.alive -/
def l01_alive (k : Nat)  : Option Bool :=
  Option.bind (runes_Pieces k ([97, 255] : List UInt8)) fun v1 =>
  Option.bind (runes_Quote k ([97, 255] : List UInt8)) fun v2 =>
  l01_alive_j1 k v1 v2 ((v1.2 == (0 : Int)) && ((List.length v1.1 : Int) == (2 : Int)))

def l01_RunesRows_j7  (t7 : Bool) : Option Bool :=
  some (t7)
def l01_RunesRows_j6 (v4 : Bool) (t6 : Bool) : Option Bool :=
  l01_RunesRows_j7 ((!t6) || v4)
def l01_RunesRows_j5 (v4 : Bool) (v2 : Bool) (v3 : Bool) (t5 : Bool) : Option Bool :=
  if t5 then
    some (false)
  else
    l01_RunesRows_j6 v4 (v2 && v3)
def l01_RunesRows_j8 (v4 : Bool) (v2 : Bool) (v3 : Bool) (a1 : List UInt8) (b1 : List UInt8) (t8 : Bool) : Option Bool :=
  l01_RunesRows_j5 v4 v2 v3 ((a1 == b1) == t8)
def l01_RunesRows_j4 (v4 : Bool) (v2 : Bool) (v3 : Bool) (a1 : List UInt8) (b1 : List UInt8) (v5 : Bool) (t4 : Bool) : Option Bool :=
  if t4 then
    l01_RunesRows_j5 v4 v2 v3 true
  else
    l01_RunesRows_j8 v4 v2 v3 a1 b1 (v2 || v5)
def l01_RunesRows_j9 (v4 : Bool) (v2 : Bool) (v3 : Bool) (a1 : List UInt8) (b1 : List UInt8) (v5 : Bool) (t9 : Bool) : Option Bool :=
  l01_RunesRows_j4 v4 v2 v3 a1 b1 v5 t9
def l01_RunesRows_j3 (v4 : Bool) (v2 : Bool) (v3 : Bool) (a1 : List UInt8) (b1 : List UInt8) (v5 : Bool) (t3 : Bool) : Option Bool :=
  if t3 then
    l01_RunesRows_j4 v4 v2 v3 a1 b1 v5 true
  else
    l01_RunesRows_j9 v4 v2 v3 a1 b1 v5 (v2 && v5)
def l01_RunesRows_j2 (k : Nat) (a1 : List UInt8) (b1 : List UInt8) (c1 : List UInt8) (t2 : Bool) : Option Bool :=
  if t2 then
    (
      Option.bind (l01_alive k) fun v1 =>
      some (v1)
    )
  else
    (
      Option.bind (runes_Less k a1 b1) fun v2 =>
      Option.bind (runes_Less k b1 c1) fun v3 =>
      Option.bind (runes_Less k a1 c1) fun v4 =>
      Option.bind (runes_Less k b1 a1) fun v5 =>
      Option.bind (l01_alive k) fun v6 =>
      if !v6 then
        l01_RunesRows_j3 v4 v2 v3 a1 b1 v5 true
      else
        (
          Option.bind (runes_Less k a1 a1) fun v7 =>
          l01_RunesRows_j3 v4 v2 v3 a1 b1 v5 v7
        )
    )
def l01_RunesRows_j1 (k : Nat) (a1 : List UInt8) (b1 : List UInt8) (c1 : List UInt8) (t1 : Bool) : Option Bool :=
  l01_RunesRows_j2 k a1 b1 c1 (t1 || (decide ((5000 : Int) < (List.length c1 : Int))))
/-- cognate/cognatelaw01.RunesRows -/
def l01_RunesRows (k : Nat) (a1 : List UInt8) (b1 : List UInt8) (c1 : List UInt8) : Option Bool :=
  l01_RunesRows_j1 k a1 b1 c1 (decide ((5000 : Int) < (List.length a1 : Int)) || (decide ((5000 : Int) < (List.length b1 : Int))))

def l01_RunesBack_j4 (all1 : List (Int)) (v3 : (Int × Int)) (go1 : Int → Int → (List (Int)) → Option Bool) (at1 : Int) (i1 : Int) (t4 : Bool) : Option Bool :=
  if t4 then
    some (false)
  else
    (
      Option.bind (chk (List.length all1 + List.length ([v3.1] : List (Int)) ≤ lim)) fun _ =>
      go1 (wi64 (at1 + v3.2)) (wi64 (i1 + (1 : Int))) (all1 ++ ([v3.1] : List (Int)))
    )
def l01_RunesBack_j5 (all1 : List (Int)) (v3 : (Int × Int)) (go1 : Int → Int → (List (Int)) → Option Bool) (at1 : Int) (i1 : Int) (x1 : (Int × Int × Int × Bool × Unit)) (t5 : Bool) : Option Bool :=
  l01_RunesBack_j4 all1 v3 go1 at1 i1 (!(x1.2.2.2.1 == t5))
def l01_RunesBack_j3 (all1 : List (Int)) (v3 : (Int × Int)) (go1 : Int → Int → (List (Int)) → Option Bool) (at1 : Int) (i1 : Int) (x1 : (Int × Int × Int × Bool × Unit)) (t3 : Bool) : Option Bool :=
  if t3 then
    l01_RunesBack_j4 all1 v3 go1 at1 i1 true
  else
    l01_RunesBack_j5 all1 v3 go1 at1 i1 x1 ((v3.1 == (65533 : Int)) && (v3.2 == (1 : Int)))
def l01_RunesBack_j2 (k : Nat) (s1 : List UInt8) (at1 : Int) (all1 : List (Int)) (go1 : Int → Int → (List (Int)) → Option Bool) (i1 : Int) (x1 : (Int × Int × Int × Bool × Unit)) (t2 : Bool) : Option Bool :=
  if t2 then
    some (false)
  else
    (
      Option.bind (sub? s1 at1 (s1.length : Int)) fun s2 =>
      Option.bind (utf8_DecodeRuneInString k s2) fun v3 =>
      l01_RunesBack_j3 all1 v3 go1 at1 i1 x1 ((x1.1 != v3.1) || (x1.2.2.1 != v3.2))
    )
def l01_RunesBack_j1 (k : Nat) (s1 : List UInt8) (at1 : Int) (all1 : List (Int)) (go1 : Int → Int → (List (Int)) → Option Bool) (i1 : Int) (x1 : (Int × Int × Int × Bool × Unit)) (t1 : Bool) : Option Bool :=
  l01_RunesBack_j2 k s1 at1 all1 go1 i1 x1 (t1 || (decide ((List.length s1 : Int) < (wi64 (at1 + x1.2.2.1)))))
def l01_RunesBack_j16  (t16 : Bool) : Option Bool :=
  some (t16)
def l01_RunesBack_j15 (v9 : (List UInt8 × Int)) (v6 : (List UInt8 × Int)) (t15 : Bool) : Option Bool :=
  l01_RunesBack_j16 (t15 && (v9.1 == v6.1))
def l01_RunesBack_j14 (v9 : (List UInt8 × Int)) (v6 : (List UInt8 × Int)) (t14 : Bool) : Option Bool :=
  l01_RunesBack_j15 v9 v6 (t14 && (v9.2 == (0 : Int)))
def l01_RunesBack_j13 (v9 : (List UInt8 × Int)) (v6 : (List UInt8 × Int)) (v8 : (Int × Int)) (t13 : Bool) : Option Bool :=
  l01_RunesBack_j14 v9 v6 (t13 && (v8.1 == (-1 : Int)))
def l01_RunesBack_j12 (k : Nat) (v6 : (List UInt8 × Int)) (v1 : Bool) (t12 : Bool) : Option Bool :=
  if t12 then
    some (false)
  else
    (
      Option.bind (runes_Broken k v6.1) fun v8 =>
      Option.bind (runes_Back k v6.1) fun v9 =>
      l01_RunesBack_j13 v9 v6 v8 (v1 && (v8.2 == (0 : Int)))
    )
def l01_RunesBack_j11 (k : Nat) (v6 : (List UInt8 × Int)) (v1 : Bool) (all1 : List (Int)) (t11 : Bool) : Option Bool :=
  if t11 then
    l01_RunesBack_j12 k v6 v1 true
  else
    (
      Option.bind (runes_Text k all1) fun v10 =>
      l01_RunesBack_j12 k v6 v1 (!(v6.1 == v10))
    )
def l01_RunesBack_j10 (k : Nat) (v6 : (List UInt8 × Int)) (v1 : Bool) (all1 : List (Int)) (v7 : (Int × Int)) (v2 : (List ((Int × Int × Int × Bool × Unit)) × Int)) (t10 : Bool) : Option Bool :=
  l01_RunesBack_j11 k v6 v1 all1 (t10 || (v7.1 != (List.length v2.1 : Int)))
def l01_RunesBack_j9 (k : Nat) (v6 : (List UInt8 × Int)) (v1 : Bool) (all1 : List (Int)) (v7 : (Int × Int)) (v2 : (List ((Int × Int × Int × Bool × Unit)) × Int)) (v4 : (List UInt8 × Int)) (v5 : (List UInt8 × Int)) (s1 : List UInt8) (t9 : Bool) : Option Bool :=
  if t9 then
    l01_RunesBack_j10 k v6 v1 all1 v7 v2 true
  else
    (
      Option.bind (chk (List.length v4.1 + List.length v5.1 ≤ lim)) fun _ =>
      l01_RunesBack_j10 k v6 v1 all1 v7 v2 (!((v4.1 ++ v5.1) == s1))
    )
def l01_RunesBack_j8 (k : Nat) (v6 : (List UInt8 × Int)) (v1 : Bool) (all1 : List (Int)) (v7 : (Int × Int)) (v2 : (List ((Int × Int × Int × Bool × Unit)) × Int)) (v4 : (List UInt8 × Int)) (v5 : (List UInt8 × Int)) (s1 : List UInt8) (t8 : Bool) : Option Bool :=
  l01_RunesBack_j9 k v6 v1 all1 v7 v2 v4 v5 s1 (t8 || (v7.2 != (0 : Int)))
def l01_RunesBack_j7 (k : Nat) (v6 : (List UInt8 × Int)) (v1 : Bool) (all1 : List (Int)) (v7 : (Int × Int)) (v2 : (List ((Int × Int × Int × Bool × Unit)) × Int)) (v4 : (List UInt8 × Int)) (v5 : (List UInt8 × Int)) (s1 : List UInt8) (t7 : Bool) : Option Bool :=
  l01_RunesBack_j8 k v6 v1 all1 v7 v2 v4 v5 s1 (t7 || (v6.2 != (0 : Int)))
def l01_RunesBack_j6 (k : Nat) (v6 : (List UInt8 × Int)) (v1 : Bool) (all1 : List (Int)) (v7 : (Int × Int)) (v2 : (List ((Int × Int × Int × Bool × Unit)) × Int)) (v4 : (List UInt8 × Int)) (v5 : (List UInt8 × Int)) (s1 : List UInt8) (t6 : Bool) : Option Bool :=
  l01_RunesBack_j7 k v6 v1 all1 v7 v2 v4 v5 s1 (t6 || (v5.2 != (0 : Int)))
def l01_RunesBack_b1 (k : Nat) (v2 : (List ((Int × Int × Int × Bool × Unit)) × Int)) (s1 : List UInt8) (k1 : Int) (v1 : Bool) (go1 : Int → Int → (List (Int)) → Option Bool) (at1 : Int) (i1 : Int) (all1 : List (Int)) : Option Bool :=
  if decide (i1 < (List.length v2.1 : Int)) then
    (
      Option.bind (at? v2.1 i1) fun x1 =>
      l01_RunesBack_j1 k s1 at1 all1 go1 i1 x1 ((x1.2.1 != at1) || (decide (x1.2.2.1 < (1 : Int))))
    )
  else
    (
      Option.bind (chk ((wi64 ((List.length v2.1 : Int) + (1 : Int))) ≠ 0)) fun _ =>
      Option.bind (chk ((wi64 ((List.length v2.1 : Int) + (1 : Int))) ≠ 0)) fun _ =>
      Option.bind (runes_Part k s1 (0 : Int) (Int.tmod (wi64 ((Int.tmod k1 (wi64 ((List.length v2.1 : Int) + (1 : Int)))) + (wi64 ((List.length v2.1 : Int) + (1 : Int))))) (wi64 ((List.length v2.1 : Int) + (1 : Int))))) fun v4 =>
      Option.bind (runes_Part k s1 (Int.tmod (wi64 ((Int.tmod k1 (wi64 ((List.length v2.1 : Int) + (1 : Int)))) + (wi64 ((List.length v2.1 : Int) + (1 : Int))))) (wi64 ((List.length v2.1 : Int) + (1 : Int)))) (List.length v2.1 : Int)) fun v5 =>
      Option.bind (runes_Back k s1) fun v6 =>
      Option.bind (runes_Len k v6.1) fun v7 =>
      l01_RunesBack_j6 k v6 v1 all1 v7 v2 v4 v5 s1 ((at1 != (List.length s1 : Int)) || (v4.2 != (0 : Int)))
    )
def l01_RunesBack_l1 (k : Nat) (v2 : (List ((Int × Int × Int × Bool × Unit)) × Int)) (s1 : List UInt8) (k1 : Int) (v1 : Bool) : Nat → Int → Int → (List (Int)) → Option Bool
  | 0, _, _, _ => none
  | n + 1, at1, i1, all1 => l01_RunesBack_b1 k v2 s1 k1 v1 (l01_RunesBack_l1 k v2 s1 k1 v1 n) at1 i1 all1
/-- cognate/cognatelaw01.RunesBack -/
def l01_RunesBack (k : Nat) (s1 : List UInt8) (k1 : Int) : Option Bool :=
  Option.bind (l01_alive k) fun v1 =>
  if decide ((5000 : Int) < (List.length s1 : Int)) then
    some (v1)
  else
    (
      Option.bind (runes_Pieces k s1) fun v2 =>
      if v2.2 != (0 : Int) then
        some (false)
      else
        l01_RunesBack_l1 k v2 s1 k1 v1 k (0 : Int) (0 : Int) ([] : List (Int))
    )

end Go.Ev

namespace Go.Ev
open Go
set_option linter.unusedVariables false

/-- cognate/cognateref01.sixteen -/
def r01_sixteen (k : Nat) (n1 : Int) : Option (List UInt8) :=
  Option.bind (sub? ([48, 49, 50, 51, 52, 53, 54, 55, 56, 57, 97, 98, 99, 100, 101, 102] : List UInt8) n1 (wi64 (n1 + (1 : Int)))) fun s1 =>
  some (s1)

/-- cognate/cognateref01.number -/
def r01_number : Nat → Int → Option (List UInt8)
  | 0, _ => none
  | k + 1, n1 =>
    if decide (n1 < (16 : Int)) then
      (
        Option.bind (r01_sixteen k n1) fun v1 =>
        some (v1)
      )
    else
      (
        Option.bind (chk ((16 : Int) ≠ 0)) fun _ =>
        Option.bind ((r01_number k) (wi64 (Int.tdiv n1 (16 : Int)))) fun v2 =>
        Option.bind (chk ((16 : Int) ≠ 0)) fun _ =>
        Option.bind (r01_sixteen k (Int.tmod n1 (16 : Int))) fun v3 =>
        Option.bind (chk (List.length v2 + List.length v3 ≤ lim)) fun _ =>
        some (v2 ++ v3)
      )

def r01_shown_j2 (k : Nat) (s1 : List UInt8) (p1 : (Int × Int × Int × Bool × Unit)) (t2 : Bool) : Option (List UInt8) :=
  if t2 then
    (
      Option.bind (sub? s1 p1.2.1 (wi64 (p1.2.1 + (1 : Int)))) fun s3 =>
      some (s3)
    )
  else
    (
      Option.bind (r01_number k (wi64 p1.1)) fun v3 =>
      Option.bind (chk (List.length ([92, 117] : List UInt8) + List.length v3 ≤ lim)) fun _ =>
      Option.bind (chk (List.length (([92, 117] : List UInt8) ++ v3) + List.length ([59] : List UInt8) ≤ lim)) fun _ =>
      some ((([92, 117] : List UInt8) ++ v3) ++ ([59] : List UInt8))
    )
def r01_shown_j1 (k : Nat) (s1 : List UInt8) (p1 : (Int × Int × Int × Bool × Unit)) (b1 : Int) (t1 : Bool) : Option (List UInt8) :=
  if t1 then
    (
      Option.bind (sub? s1 p1.2.1 (wi64 (p1.2.1 + (1 : Int)))) fun s2 =>
      Option.bind (chk (List.length ([92] : List UInt8) + List.length s2 ≤ lim)) fun _ =>
      some (([92] : List UInt8) ++ s2)
    )
  else
    r01_shown_j2 k s1 p1 (decide ((32 : Int) ≤ b1) && (decide (b1 ≤ (126 : Int))))
/-- cognate/cognateref01.shown -/
def r01_shown (k : Nat) (s1 : List UInt8) (p1 : (Int × Int × Int × Bool × Unit)) : Option (List UInt8) :=
  Option.bind (byteAt s1 p1.2.1) fun b1 =>
  if p1.2.2.2.1 then
    (
      Option.bind (chk ((16 : Int) ≠ 0)) fun _ =>
      Option.bind (r01_sixteen k (wi64 (Int.tdiv (wi64 b1) (16 : Int)))) fun v1 =>
      Option.bind (chk (List.length ([92, 120] : List UInt8) + List.length v1 ≤ lim)) fun _ =>
      Option.bind (chk ((16 : Int) ≠ 0)) fun _ =>
      Option.bind (r01_sixteen k (Int.tmod (wi64 b1) (16 : Int))) fun v2 =>
      Option.bind (chk (List.length (([92, 120] : List UInt8) ++ v1) + List.length v2 ≤ lim)) fun _ =>
      some ((([92, 120] : List UInt8) ++ v1) ++ v2)
    )
  else
    r01_shown_j1 k s1 p1 b1 ((b1 == (34 : Int)) || (b1 == (92 : Int)))

def r01_quote_b1 (k : Nat) (v1 : List ((Int × Int × Int × Bool × Unit))) (s1 : List UInt8) (go1 : Int → (List (Int)) → Option (List UInt8)) (i1 : Int) (t1 : List (Int)) : Option (List UInt8) :=
  if decide (i1 < (List.length v1 : Int)) then
    (
      Option.bind (at? v1 i1) fun x1 =>
      Option.bind (r01_shown k s1 x1) fun v2 =>
      Option.bind (chk (List.length t1 + List.length (bytesEl v2) ≤ lim)) fun _ =>
      go1 (wi64 (i1 + (1 : Int))) (t1 ++ (bytesEl v2))
    )
  else
    (
      Option.bind (chk (List.length t1 + List.length ([(34 : Int)] : List (Int)) ≤ lim)) fun _ =>
      some (bytesStr (t1 ++ ([(34 : Int)] : List (Int))))
    )
def r01_quote_l1 (k : Nat) (v1 : List ((Int × Int × Int × Bool × Unit))) (s1 : List UInt8) : Nat → Int → (List (Int)) → Option (List UInt8)
  | 0, _, _ => none
  | n + 1, i1, t1 => r01_quote_b1 k v1 s1 (r01_quote_l1 k v1 s1 n) i1 t1
/-- cognate/cognateref01.quote -/
def r01_quote (k : Nat) (s1 : List UInt8) : Option (List UInt8) :=
  Option.bind (r01_All k s1) fun v1 =>
  r01_quote_l1 k v1 s1 k (0 : Int) ([(34 : Int)] : List (Int))

/-- cognate/cognateref01.Quote -/
def r01_Quote (k : Nat) (s1 : List UInt8) : Option (List UInt8 × Int) :=
  if decide ((65536 : Int) < (List.length s1 : Int)) then
    some (([] : List UInt8), (3 : Int))
  else
    (
      Option.bind (r01_quote k s1) fun v1 =>
      some (v1, (0 : Int))
    )

def internal_stringslite_HasPrefix_j1  (t1 : Bool) : Option Bool :=
  some (t1)
/-- internal/stringslite.HasPrefix -/
def internal_stringslite_HasPrefix (k : Nat) (s1 : List UInt8) (prefix1 : List UInt8) : Option Bool :=
  if decide ((List.length prefix1 : Int) ≤ (List.length s1 : Int)) then
    (
      Option.bind (sub? s1 (0 : Int) (List.length prefix1 : Int)) fun s2 =>
      internal_stringslite_HasPrefix_j1 (s2 == prefix1)
    )
  else
    internal_stringslite_HasPrefix_j1 false

/-- strings.HasPrefix -/
def strings_HasPrefix (k : Nat) (s1 : List UInt8) (prefix1 : List UInt8) : Option Bool :=
  Option.bind (internal_stringslite_HasPrefix k s1 prefix1) fun v1 =>
  some (v1)

def strings_trimLeftByte_j1 (s2 : List UInt8) (go1 : (List UInt8) → Option (List UInt8)) (t1 : Bool) : Option (List UInt8) :=
  if t1 then
    (
      Option.bind (sub? s2 (1 : Int) (s2.length : Int)) fun s3 =>
      go1 s3
    )
  else
    some (s2)
def strings_trimLeftByte_b1 (c1 : Int) (go1 : (List UInt8) → Option (List UInt8)) (s2 : List UInt8) : Option (List UInt8) :=
  if decide ((0 : Int) < (List.length s2 : Int)) then
    (
      Option.bind (byteAt s2 (0 : Int)) fun b1 =>
      strings_trimLeftByte_j1 s2 go1 (b1 == c1)
    )
  else
    strings_trimLeftByte_j1 s2 go1 false
def strings_trimLeftByte_l1 (c1 : Int) : Nat → (List UInt8) → Option (List UInt8)
  | 0, _ => none
  | n + 1, s2 => strings_trimLeftByte_b1 c1 (strings_trimLeftByte_l1 c1 n) s2
/-- strings.trimLeftByte -/
def strings_trimLeftByte (k : Nat) (s1 : List UInt8) (c1 : Int) : Option (List UInt8) :=
  strings_trimLeftByte_l1 c1 k s1

def strings_makeASCIISet_b1 (chars1 : List UInt8) (go1 : Int → (List (Bool)) → Option (List (Bool) × Bool)) (i1 : Int) (blk1 : List (Bool)) : Option (List (Bool) × Bool) :=
  if decide (i1 < (List.length chars1 : Int)) then
    (
      Option.bind (byteAt chars1 i1) fun b1 =>
      if decide ((128 : Int) ≤ b1) then
        some (blk1, false)
      else
        (
          Option.bind (chk (0 ≤ b1 ∧ b1 < (256 : Int))) fun _ =>
          Option.bind (at? blk1 b1) fun x1 =>
          go1 (wi64 (i1 + (1 : Int))) (List.set blk1 (b1).toNat true)
        )
    )
  else
    some (blk1, true)
def strings_makeASCIISet_l1 (chars1 : List UInt8) : Nat → Int → (List (Bool)) → Option (List (Bool) × Bool)
  | 0, _, _ => none
  | n + 1, i1, blk1 => strings_makeASCIISet_b1 chars1 (strings_makeASCIISet_l1 chars1 n) i1 blk1
/-- strings.makeASCIISet -/
def strings_makeASCIISet (k : Nat) (chars1 : List UInt8) : Option (List (Bool) × Bool) :=
  strings_makeASCIISet_l1 chars1 k (0 : Int) (List.replicate 256 false)

/-- (*strings.asciiSet).contains -/
def strings_asciiSet_contains (k : Nat) (as1 : List (Bool)) (c1 : Int) : Option Bool :=
  Option.bind (at? as1 c1) fun x1 =>
  some (x1)

def strings_trimLeftASCII_j1  (s2 : List UInt8) : Option (List UInt8) :=
  some (s2)
def strings_trimLeftASCII_b1 (k : Nat) (as1 : List (Bool)) (go1 : (List UInt8) → Option (List UInt8)) (s3 : List UInt8) : Option (List UInt8) :=
  if decide ((0 : Int) < (List.length s3 : Int)) then
    (
      Option.bind (byteAt s3 (0 : Int)) fun b1 =>
      Option.bind (strings_asciiSet_contains k as1 b1) fun v1 =>
      if !v1 then
        strings_trimLeftASCII_j1 s3
      else
        (
          Option.bind (sub? s3 (1 : Int) (s3.length : Int)) fun s4 =>
          go1 s4
        )
    )
  else
    strings_trimLeftASCII_j1 s3
def strings_trimLeftASCII_l1 (k : Nat) (as1 : List (Bool)) : Nat → (List UInt8) → Option (List UInt8)
  | 0, _ => none
  | n + 1, s3 => strings_trimLeftASCII_b1 k as1 (strings_trimLeftASCII_l1 k as1 n) s3
/-- strings.trimLeftASCII -/
def strings_trimLeftASCII (k : Nat) (s1 : List UInt8) (as1 : List (Bool)) : Option (List UInt8) :=
  strings_trimLeftASCII_l1 k as1 k s1

/-- strings.trimLeftUnicode -/
def strings_trimLeftUnicode (k : Nat) (s1 : List UInt8) (cutset1 : List UInt8) : Option (List UInt8) :=
  none

def strings_TrimLeft_j2 (k : Nat) (cutset1 : List UInt8) (s1 : List UInt8) (t2 : Bool) : Option (List UInt8) :=
  if t2 then
    (
      Option.bind (byteAt cutset1 (0 : Int)) fun b1 =>
      Option.bind (strings_trimLeftByte k s1 b1) fun v1 =>
      some (v1)
    )
  else
    (
      Option.bind (strings_makeASCIISet k cutset1) fun v2 =>
      if v2.2 then
        (
          Option.bind (strings_trimLeftASCII k s1 v2.1) fun v3 =>
          some (v3)
        )
      else
        (
          Option.bind (strings_trimLeftUnicode k s1 cutset1) fun v4 =>
          some (v4)
        )
    )
def strings_TrimLeft_j1 (k : Nat) (s1 : List UInt8) (cutset1 : List UInt8) (t1 : Bool) : Option (List UInt8) :=
  if t1 then
    some (s1)
  else
    (
      if (List.length cutset1 : Int) == (1 : Int) then
        (
          Option.bind (byteAt cutset1 (0 : Int)) fun b2 =>
          strings_TrimLeft_j2 k cutset1 s1 (decide (b2 < (128 : Int)))
        )
      else
        strings_TrimLeft_j2 k cutset1 s1 false
    )
/-- strings.TrimLeft -/
def strings_TrimLeft (k : Nat) (s1 : List UInt8) (cutset1 : List UInt8) : Option (List UInt8) :=
  strings_TrimLeft_j1 k s1 cutset1 ((s1 == ([] : List UInt8)) || (cutset1 == ([] : List UInt8)))

/-- internal/strconv.lower -/
def internal_strconv_lower (k : Nat) (c1 : Int) : Option Int :=
  some (wu8 (BitVec.toNat (BitVec.ofInt 8 c1 ||| BitVec.ofInt 8 (32 : Int))))

def internal_strconv_underscoreOK_j3 (go1 : Int → Int → Option Bool) (i2 : Int) (saw3 : Int) : Option Bool :=
  go1 saw3 (wi64 (i2 + (1 : Int)))
def internal_strconv_underscoreOK_j5 (go1 : Int → Int → Option Bool) (i2 : Int) (s2 : List UInt8) (saw2 : Int) (t2 : Bool) : Option Bool :=
  if t2 then
    internal_strconv_underscoreOK_j3 go1 i2 (48 : Int)
  else
    (
      Option.bind (byteAt s2 i2) fun b2 =>
      if b2 == (95 : Int) then
        (
          if saw2 != (48 : Int) then
            some (false)
          else
            internal_strconv_underscoreOK_j3 go1 i2 (95 : Int)
        )
      else
        (
          if saw2 == (95 : Int) then
            some (false)
          else
            internal_strconv_underscoreOK_j3 go1 i2 (33 : Int)
        )
    )
def internal_strconv_underscoreOK_j7 (go1 : Int → Int → Option Bool) (i2 : Int) (s2 : List UInt8) (saw2 : Int) (t4 : Bool) : Option Bool :=
  internal_strconv_underscoreOK_j5 go1 i2 s2 saw2 t4
def internal_strconv_underscoreOK_j6 (k : Nat) (s2 : List UInt8) (i2 : Int) (go1 : Int → Int → Option Bool) (saw2 : Int) (t3 : Bool) : Option Bool :=
  if t3 then
    (
      Option.bind (byteAt s2 i2) fun b3 =>
      Option.bind (internal_strconv_lower k b3) fun v1 =>
      internal_strconv_underscoreOK_j7 go1 i2 s2 saw2 (decide (v1 ≤ (102 : Int)))
    )
  else
    internal_strconv_underscoreOK_j7 go1 i2 s2 saw2 false
def internal_strconv_underscoreOK_j4 (k : Nat) (go1 : Int → Int → Option Bool) (i2 : Int) (s2 : List UInt8) (saw2 : Int) (hex1 : Bool) (t1 : Bool) : Option Bool :=
  if t1 then
    internal_strconv_underscoreOK_j5 go1 i2 s2 saw2 true
  else
    (
      if hex1 then
        (
          Option.bind (byteAt s2 i2) fun b4 =>
          Option.bind (internal_strconv_lower k b4) fun v2 =>
          internal_strconv_underscoreOK_j6 k s2 i2 go1 saw2 (decide ((97 : Int) ≤ v2))
        )
      else
        internal_strconv_underscoreOK_j6 k s2 i2 go1 saw2 false
    )
def internal_strconv_underscoreOK_b1 (k : Nat) (s2 : List UInt8) (hex1 : Bool) (go1 : Int → Int → Option Bool) (saw2 : Int) (i2 : Int) : Option Bool :=
  if decide (i2 < (List.length s2 : Int)) then
    (
      Option.bind (byteAt s2 i2) fun b1 =>
      if decide ((48 : Int) ≤ b1) then
        (
          Option.bind (byteAt s2 i2) fun b5 =>
          internal_strconv_underscoreOK_j4 k go1 i2 s2 saw2 hex1 (decide (b5 ≤ (57 : Int)))
        )
      else
        internal_strconv_underscoreOK_j4 k go1 i2 s2 saw2 hex1 false
    )
  else
    some (saw2 != (95 : Int))
def internal_strconv_underscoreOK_l1 (k : Nat) (s2 : List UInt8) (hex1 : Bool) : Nat → Int → Int → Option Bool
  | 0, _, _ => none
  | n + 1, saw2, i2 => internal_strconv_underscoreOK_b1 k s2 hex1 (internal_strconv_underscoreOK_l1 k s2 hex1 n) saw2 i2
def internal_strconv_underscoreOK_j2 (k : Nat) (s2 : List UInt8) (saw1 : Int) (i1 : Int) (hex1 : Bool) : Option Bool :=
  internal_strconv_underscoreOK_l1 k s2 hex1 k saw1 i1
def internal_strconv_underscoreOK_j9 (k : Nat) (s2 : List UInt8) (t6 : Bool) : Option Bool :=
  if t6 then
    (
      Option.bind (byteAt s2 (1 : Int)) fun b6 =>
      Option.bind (internal_strconv_lower k b6) fun v3 =>
      internal_strconv_underscoreOK_j2 k s2 (48 : Int) (2 : Int) (v3 == (120 : Int))
    )
  else
    internal_strconv_underscoreOK_j2 k s2 (94 : Int) (0 : Int) false
def internal_strconv_underscoreOK_j11 (k : Nat) (s2 : List UInt8) (t8 : Bool) : Option Bool :=
  internal_strconv_underscoreOK_j9 k s2 t8
def internal_strconv_underscoreOK_j10 (k : Nat) (s2 : List UInt8) (t7 : Bool) : Option Bool :=
  if t7 then
    internal_strconv_underscoreOK_j11 k s2 true
  else
    (
      Option.bind (byteAt s2 (1 : Int)) fun b8 =>
      Option.bind (internal_strconv_lower k b8) fun v5 =>
      internal_strconv_underscoreOK_j11 k s2 (v5 == (120 : Int))
    )
def internal_strconv_underscoreOK_j8 (k : Nat) (s2 : List UInt8) (t5 : Bool) : Option Bool :=
  if t5 then
    (
      Option.bind (byteAt s2 (1 : Int)) fun b7 =>
      Option.bind (internal_strconv_lower k b7) fun v4 =>
      if v4 == (98 : Int) then
        internal_strconv_underscoreOK_j10 k s2 true
      else
        (
          Option.bind (byteAt s2 (1 : Int)) fun b9 =>
          Option.bind (internal_strconv_lower k b9) fun v6 =>
          internal_strconv_underscoreOK_j10 k s2 (v6 == (111 : Int))
        )
    )
  else
    internal_strconv_underscoreOK_j9 k s2 false
def internal_strconv_underscoreOK_j1 (k : Nat) (s2 : List UInt8) : Option Bool :=
  if decide ((2 : Int) ≤ (List.length s2 : Int)) then
    (
      Option.bind (byteAt s2 (0 : Int)) fun b10 =>
      internal_strconv_underscoreOK_j8 k s2 (b10 == (48 : Int))
    )
  else
    internal_strconv_underscoreOK_j8 k s2 false
def internal_strconv_underscoreOK_j12 (k : Nat) (s1 : List UInt8) (t9 : Bool) : Option Bool :=
  if t9 then
    (
      Option.bind (sub? s1 (1 : Int) (s1.length : Int)) fun s3 =>
      internal_strconv_underscoreOK_j1 k s3
    )
  else
    internal_strconv_underscoreOK_j1 k s1
def internal_strconv_underscoreOK_j13 (k : Nat) (s1 : List UInt8) (t10 : Bool) : Option Bool :=
  internal_strconv_underscoreOK_j12 k s1 t10
/-- internal/strconv.underscoreOK -/
def internal_strconv_underscoreOK (k : Nat) (s1 : List UInt8) : Option Bool :=
  if decide ((1 : Int) ≤ (List.length s1 : Int)) then
    (
      Option.bind (byteAt s1 (0 : Int)) fun b11 =>
      if b11 == (45 : Int) then
        internal_strconv_underscoreOK_j13 k s1 true
      else
        (
          Option.bind (byteAt s1 (0 : Int)) fun b12 =>
          internal_strconv_underscoreOK_j13 k s1 (b12 == (43 : Int))
        )
    )
  else
    internal_strconv_underscoreOK_j12 k s1 false

def internal_strconv_ParseUint_16_j3 (bitsize2 : Int) (go1 : Int → Int → Option (Int × Option (Option (Nat × Int)))) (n1 : Int) (d1 : Int) (t1 : Int) (t2 : Bool) : Option (Int × Option (Option (Nat × Int))) :=
  if t2 then
    some (wu64 ((wu64 ((1 : Int) * 2 ^ min (wu64 bitsize2).toNat 64)) - (1 : Int)), (some (some (101, (1 : Int))) : Option (Option (Nat × Int))))
  else
    go1 (wu64 ((wu64 (n1 * (16 : Int))) + (wu64 d1))) (wi64 (t1 + (1 : Int)))
def internal_strconv_ParseUint_16_j2 (n1 : Int) (bitsize2 : Int) (go1 : Int → Int → Option (Int × Option (Option (Nat × Int)))) (t1 : Int) (d1 : Int) : Option (Int × Option (Option (Nat × Int))) :=
  if decide ((16 : Int) ≤ d1) then
    some ((0 : Int), (some (some (101, (2 : Int))) : Option (Option (Nat × Int))))
  else
    (
      if decide ((1152921504606846976 : Int) ≤ n1) then
        some (wu64 ((wu64 ((1 : Int) * 2 ^ min (wu64 bitsize2).toNat 64)) - (1 : Int)), (some (some (101, (1 : Int))) : Option (Option (Nat × Int))))
      else
        internal_strconv_ParseUint_16_j3 bitsize2 go1 n1 d1 t1 (decide ((wu64 ((wu64 (n1 * (16 : Int))) + (wu64 d1))) < (wu64 (n1 * (16 : Int)))) || (decide ((wu64 ((wu64 ((1 : Int) * 2 ^ min (wu64 bitsize2).toNat 64)) - (1 : Int))) < (wu64 ((wu64 (n1 * (16 : Int))) + (wu64 d1))))))
    )
def internal_strconv_ParseUint_16_j6 (k : Nat) (x1 : Int) (n1 : Int) (bitsize2 : Int) (go1 : Int → Int → Option (Int × Option (Option (Nat × Int)))) (t1 : Int) (t4 : Bool) : Option (Int × Option (Option (Nat × Int))) :=
  if t4 then
    (
      Option.bind (internal_strconv_lower k x1) fun v2 =>
      internal_strconv_ParseUint_16_j2 n1 bitsize2 go1 t1 (wu8 ((wu8 (v2 - (97 : Int))) + (10 : Int)))
    )
  else
    some ((0 : Int), (some (some (101, (2 : Int))) : Option (Option (Nat × Int))))
def internal_strconv_ParseUint_16_j5 (k : Nat) (n1 : Int) (bitsize2 : Int) (go1 : Int → Int → Option (Int × Option (Option (Nat × Int)))) (t1 : Int) (x1 : Int) (t3 : Bool) : Option (Int × Option (Option (Nat × Int))) :=
  if t3 then
    internal_strconv_ParseUint_16_j2 n1 bitsize2 go1 t1 (wu8 (x1 - (48 : Int)))
  else
    (
      Option.bind (internal_strconv_lower k x1) fun v1 =>
      if decide ((97 : Int) ≤ v1) then
        (
          Option.bind (internal_strconv_lower k x1) fun v3 =>
          internal_strconv_ParseUint_16_j6 k x1 n1 bitsize2 go1 t1 (decide (v3 ≤ (122 : Int)))
        )
      else
        internal_strconv_ParseUint_16_j6 k x1 n1 bitsize2 go1 t1 false
    )
def internal_strconv_ParseUint_16_j4 (k : Nat) (n1 : Int) (bitsize2 : Int) (go1 : Int → Int → Option (Int × Option (Option (Nat × Int)))) (t1 : Int) (x1 : Int) : Option (Int × Option (Option (Nat × Int))) :=
  internal_strconv_ParseUint_16_j5 k n1 bitsize2 go1 t1 x1 (decide ((48 : Int) ≤ x1) && (decide (x1 ≤ (57 : Int))))
def internal_strconv_ParseUint_16_b1 (k : Nat) (s1 : List UInt8) (bitsize2 : Int) (go1 : Int → Int → Option (Int × Option (Option (Nat × Int)))) (n1 : Int) (t1 : Int) : Option (Int × Option (Option (Nat × Int))) :=
  if decide (t1 < (List.length (bytesEl s1) : Int)) then
    (
      Option.bind (at? (bytesEl s1) t1) fun x1 =>
      if x1 == (95 : Int) then
        internal_strconv_ParseUint_16_j4 k n1 bitsize2 go1 t1 x1
      else
        internal_strconv_ParseUint_16_j4 k n1 bitsize2 go1 t1 x1
    )
  else
    some (n1, (none : Option (Option (Nat × Int))))
def internal_strconv_ParseUint_16_l1 (k : Nat) (s1 : List UInt8) (bitsize2 : Int) : Nat → Int → Int → Option (Int × Option (Option (Nat × Int)))
  | 0, _, _ => none
  | n + 1, n1, t1 => internal_strconv_ParseUint_16_b1 k s1 bitsize2 (internal_strconv_ParseUint_16_l1 k s1 bitsize2 n) n1 t1
def internal_strconv_ParseUint_16_j1 (k : Nat) (s1 : List UInt8) (bitsize2 : Int) : Option (Int × Option (Option (Nat × Int))) :=
  Option.bind (chk (0 ≤ (wu64 bitsize2))) fun _ =>
  internal_strconv_ParseUint_16_l1 k s1 bitsize2 k (0 : Int) (0 : Int)
def internal_strconv_ParseUint_16_j7 (k : Nat) (s1 : List UInt8) (bitsize1 : Int) (t5 : Bool) : Option (Int × Option (Option (Nat × Int))) :=
  if t5 then
    some ((0 : Int), (some (some (101, (4 : Int))) : Option (Option (Nat × Int))))
  else
    internal_strconv_ParseUint_16_j1 k s1 bitsize1
/-- internal/strconv.ParseUint -/
def internal_strconv_ParseUint_16 (k : Nat) (s1 : List UInt8) (bitsize1 : Int) : Option (Int × Option (Option (Nat × Int))) :=
  if s1 == ([] : List UInt8) then
    some ((0 : Int), (some (some (101, (2 : Int))) : Option (Option (Nat × Int))))
  else
    (
      if bitsize1 == (0 : Int) then
        internal_strconv_ParseUint_16_j1 k s1 (64 : Int)
      else
        internal_strconv_ParseUint_16_j7 k s1 bitsize1 (decide (bitsize1 < (0 : Int)) || (decide ((64 : Int) < bitsize1)))
    )

/-- strconv.ParseUint -/
def strconv_ParseUint_16 (k : Nat) (s1 : List UInt8) (bitsize1 : Int) : Option (Int × Option (Option (Nat × Int))) :=
  Option.bind (internal_strconv_ParseUint_16 k s1 bitsize1) fun v1 =>
  if !Option.isNone v1.2 then
    (
      Option.bind (strconv_toError k ([80, 97, 114, 115, 101, 85, 105, 110, 116] : List UInt8) s1 (16 : Int) bitsize1 v1.2) fun v2 =>
      some (v1.1, v2)
    )
  else
    some (v1.1, (none : Option (Option (Nat × Int))))

def unicode_utf8_ValidRune_j2  (t2 : Bool) : Option Bool :=
  if t2 then
    some (true)
  else
    some (false)
def unicode_utf8_ValidRune_j1 (r1 : Int) (t1 : Bool) : Option Bool :=
  if t1 then
    some (true)
  else
    unicode_utf8_ValidRune_j2 (decide ((57343 : Int) < r1) && (decide (r1 ≤ (1114111 : Int))))
/-- unicode/utf8.ValidRune -/
def unicode_utf8_ValidRune (k : Nat) (r1 : Int) : Option Bool :=
  unicode_utf8_ValidRune_j1 r1 (decide ((0 : Int) ≤ r1) && (decide (r1 < (55296 : Int))))

def runes_thing_j1 (s1 : List UInt8) (t1 : Bool) : Option (List UInt8 × Int) :=
  if t1 then
    some (([] : List UInt8), (0 : Int))
  else
    (
      Option.bind (sub? s1 (0 : Int) (1 : Int)) fun s2 =>
      some (s2, (1 : Int))
    )
def runes_thing_j3 (k : Nat) (s1 : List UInt8) (t3 : Bool) : Option (List UInt8 × Int) :=
  if t3 then
    some (([] : List UInt8), (0 : Int))
  else
    (
      Option.bind (sub? s1 (2 : Int) (4 : Int)) fun s5 =>
      Option.bind (strconv_ParseUint_16 k s5 (8 : Int)) fun v2 =>
      some (bytesStr ([wu8 v2.1] : List (Int)), (4 : Int))
    )
def runes_thing_j8 (v3 : (Int × Option (Option (Nat × Int)))) (s1 : List UInt8) (v1 : List UInt8) (t8 : Bool) : Option (List UInt8 × Int) :=
  if t8 then
    some (([] : List UInt8), (0 : Int))
  else
    some ((Utf8.encode (wi32 v3.1)).data.toList, wi64 ((wi64 ((wi64 ((List.length s1 : Int) - (2 : Int))) - (List.length v1 : Int))) + (3 : Int)))
def runes_thing_j7 (k : Nat) (v3 : (Int × Option (Option (Nat × Int)))) (s1 : List UInt8) (v1 : List UInt8) (t7 : Bool) : Option (List UInt8 × Int) :=
  if t7 then
    runes_thing_j8 v3 s1 v1 true
  else
    (
      Option.bind (sub? s1 (wi64 ((2 : Int) + (wi64 ((wi64 ((List.length s1 : Int) - (2 : Int))) - (List.length v1 : Int))))) (s1.length : Int)) fun s7 =>
      Option.bind (strings_HasPrefix k s7 ([59] : List UInt8)) fun v4 =>
      runes_thing_j8 v3 s1 v1 (!v4)
    )
def runes_thing_j9 (k : Nat) (v3 : (Int × Option (Option (Nat × Int)))) (s1 : List UInt8) (v1 : List UInt8) (t9 : Bool) : Option (List UInt8 × Int) :=
  runes_thing_j7 k v3 s1 v1 t9
def runes_thing_j6 (k : Nat) (v3 : (Int × Option (Option (Nat × Int)))) (s1 : List UInt8) (v1 : List UInt8) (t6 : Bool) : Option (List UInt8 × Int) :=
  if t6 then
    runes_thing_j7 k v3 s1 v1 true
  else
    (
      Option.bind (byteAt s1 (2 : Int)) fun b4 =>
      runes_thing_j9 k v3 s1 v1 ((b4 == (48 : Int)) && (decide ((1 : Int) < (wi64 ((wi64 ((List.length s1 : Int) - (2 : Int))) - (List.length v1 : Int))))))
    )
def runes_thing_j10 (k : Nat) (v3 : (Int × Option (Option (Nat × Int)))) (s1 : List UInt8) (v1 : List UInt8) (t10 : Bool) : Option (List UInt8 × Int) :=
  runes_thing_j6 k v3 s1 v1 t10
def runes_thing_j5 (k : Nat) (v3 : (Int × Option (Option (Nat × Int)))) (s1 : List UInt8) (v1 : List UInt8) (t5 : Bool) : Option (List UInt8 × Int) :=
  if t5 then
    runes_thing_j6 k v3 s1 v1 true
  else
    runes_thing_j10 k v3 s1 v1 (decide ((32 : Int) ≤ v3.1) && (decide (v3.1 ≤ (126 : Int))))
def runes_thing_j4 (k : Nat) (v3 : (Int × Option (Option (Nat × Int)))) (s1 : List UInt8) (v1 : List UInt8) (t4 : Bool) : Option (List UInt8 × Int) :=
  if t4 then
    runes_thing_j5 k v3 s1 v1 true
  else
    (
      Option.bind (unicode_utf8_ValidRune k (wi32 v3.1)) fun v5 =>
      runes_thing_j5 k v3 s1 v1 (!v5)
    )
def runes_thing_j2 (k : Nat) (s1 : List UInt8) (b2 : Int) (v1 : List UInt8) (t2 : Bool) : Option (List UInt8 × Int) :=
  if t2 then
    (
      Option.bind (sub? s1 (1 : Int) (2 : Int)) fun s4 =>
      some (s4, (2 : Int))
    )
  else
    (
      if b2 == (120 : Int) then
        (
          if decide ((wi64 ((wi64 ((List.length s1 : Int) - (2 : Int))) - (List.length v1 : Int))) < (2 : Int)) then
            runes_thing_j3 k s1 true
          else
            (
              Option.bind (byteAt s1 (2 : Int)) fun b3 =>
              runes_thing_j3 k s1 (decide (b3 < (56 : Int)))
            )
        )
      else
        (
          if b2 == (117 : Int) then
            (
              Option.bind (sub? s1 (2 : Int) (wi64 ((2 : Int) + (wi64 ((wi64 ((List.length s1 : Int) - (2 : Int))) - (List.length v1 : Int)))))) fun s6 =>
              Option.bind (strconv_ParseUint_16 k s6 (32 : Int)) fun v3 =>
              runes_thing_j4 k v3 s1 v1 ((!Option.isNone v3.2) || (decide ((1114111 : Int) < v3.1)))
            )
          else
            some (([] : List UInt8), (0 : Int))
        )
    )
/-- cognate/runes.thing -/
def runes_thing (k : Nat) (s1 : List UInt8) : Option (List UInt8 × Int) :=
  Option.bind (byteAt s1 (0 : Int)) fun b1 =>
  if b1 != (92 : Int) then
    runes_thing_j1 s1 (decide (b1 < (32 : Int)) || (decide ((126 : Int) < b1)))
  else
    (
      if decide ((List.length s1 : Int) < (2 : Int)) then
        some (([] : List UInt8), (0 : Int))
      else
        (
          Option.bind (sub? s1 (2 : Int) (s1.length : Int)) fun s3 =>
          Option.bind (strings_TrimLeft k s3 ([48, 49, 50, 51, 52, 53, 54, 55, 56, 57, 97, 98, 99, 100, 101, 102] : List UInt8)) fun v1 =>
          Option.bind (byteAt s1 (1 : Int)) fun b2 =>
          if b2 == (34 : Int) then
            runes_thing_j2 k s1 b2 v1 (b2 == (34 : Int))
          else
            runes_thing_j2 k s1 b2 v1 (b2 == (92 : Int))
        )
    )

/-- (*strings.Builder).Len -/
def strings_Builder_Len_i1 (k : Nat) (l1 : List (Int)) : Option Int :=
  some (List.length l1 : Int)

def runes_Plain_j1 (k : Nat) (s1 : List UInt8) (at1 : Int) (t1 : List (Int)) (go1 : Int → (List (Int)) → Option (List UInt8 × Int × Int)) (t2 : Bool) : Option (List UInt8 × Int × Int) :=
  if t2 then
    (
      Option.bind (sub? s1 at1 (s1.length : Int)) fun s2 =>
      Option.bind (runes_thing k s2) fun v2 =>
      if v2.2 == (0 : Int) then
        some (([] : List UInt8), at1, (10 : Int))
      else
        (
          Option.bind (strings_Builder_WriteString_i1 k v2.1 t1) fun v3 =>
          go1 (wi64 (at1 + v2.2)) v3.2.2
        )
    )
  else
    (
      if decide ((List.length s1 : Int) ≤ at1) then
        some (([] : List UInt8), at1, (10 : Int))
      else
        (
          if decide ((wi64 (at1 + (1 : Int))) < (List.length s1 : Int)) then
            some (([] : List UInt8), wi64 (at1 + (1 : Int)), (10 : Int))
          else
            (
              Option.bind (strings_Builder_Len_i1 k t1) fun v4 =>
              if decide ((65536 : Int) < v4) then
                some (([] : List UInt8), (0 : Int), (3 : Int))
              else
                (
                  Option.bind (bld_String k t1) fun v5 =>
                  Option.bind (runes_quote k v5) fun v6 =>
                  if !(v6 == s1) then
                    some (([] : List UInt8), (0 : Int), (10 : Int))
                  else
                    (
                      Option.bind (bld_String k t1) fun v7 =>
                      some (v7, (0 : Int), (0 : Int))
                    )
                )
            )
        )
    )
def runes_Plain_b1 (k : Nat) (s1 : List UInt8) (go1 : Int → (List (Int)) → Option (List UInt8 × Int × Int)) (at1 : Int) (t1 : List (Int)) : Option (List UInt8 × Int × Int) :=
  if decide (at1 < (List.length s1 : Int)) then
    (
      Option.bind (byteAt s1 at1) fun b1 =>
      runes_Plain_j1 k s1 at1 t1 go1 (b1 != (34 : Int))
    )
  else
    runes_Plain_j1 k s1 at1 t1 go1 false
def runes_Plain_l1 (k : Nat) (s1 : List UInt8) : Nat → Int → (List (Int)) → Option (List UInt8 × Int × Int)
  | 0, _, _ => none
  | n + 1, at1, t1 => runes_Plain_b1 k s1 (runes_Plain_l1 k s1 n) at1 t1
/-- cognate/runes.Plain -/
def runes_Plain (k : Nat) (s1 : List UInt8) : Option (List UInt8 × Int × Int) :=
  if decide ((1048576 : Int) < (List.length s1 : Int)) then
    some (([] : List UInt8), (0 : Int), (3 : Int))
  else
    (
      Option.bind (strings_HasPrefix k s1 ([34] : List UInt8)) fun v1 =>
      if !v1 then
        some (([] : List UInt8), (0 : Int), (10 : Int))
      else
        runes_Plain_l1 k s1 k (1 : Int) ([] : List (Int))
    )

def r01_worth_j2 (b1 : Int) (t2 : Bool) : Option Int :=
  if t2 then
    some (wi64 ((wi64 (wu8 (b1 - (97 : Int)))) + (10 : Int)))
  else
    some ((-1 : Int))
def r01_worth_j1 (b1 : Int) (t1 : Bool) : Option Int :=
  if t1 then
    some (wi64 (wu8 (b1 - (48 : Int))))
  else
    r01_worth_j2 b1 (decide ((97 : Int) ≤ b1) && (decide (b1 ≤ (102 : Int))))
/-- cognate/cognateref01.worth -/
def r01_worth (k : Nat) (b1 : Int) : Option Int :=
  r01_worth_j1 b1 (decide ((48 : Int) ≤ b1) && (decide (b1 ≤ (57 : Int))))

def r01_thing_j2 (b1 : Int) (t2 : Bool) : Option (List (Int) × Int) :=
  if t2 then
    some (([b1] : List (Int)), (1 : Int))
  else
    some (([] : List (Int)), (0 : Int))
def r01_thing_j1 (b1 : Int) (t1 : Bool) : Option (List (Int) × Int) :=
  r01_thing_j2 b1 (t1 && (b1 != (34 : Int)))
def r01_thing_j3  : Option (List (Int) × Int) :=
  some (([] : List (Int)), (0 : Int))
def r01_thing_j6 (k : Nat) (s1 : List UInt8) (at1 : Int) (t5 : Bool) : Option (List (Int) × Int) :=
  if t5 then
    (
      Option.bind (byteAt s1 (wi64 (at1 + (2 : Int)))) fun b4 =>
      Option.bind (r01_worth k b4) fun v1 =>
      Option.bind (byteAt s1 (wi64 (at1 + (3 : Int)))) fun b5 =>
      Option.bind (r01_worth k b5) fun v2 =>
      some (([wu8 (wi64 ((wi64 ((16 : Int) * v1)) + v2))] : List (Int)), (4 : Int))
    )
  else
    r01_thing_j3
def r01_thing_j5 (k : Nat) (s1 : List UInt8) (at1 : Int) (t4 : Bool) : Option (List (Int) × Int) :=
  if t4 then
    (
      Option.bind (byteAt s1 (wi64 (at1 + (3 : Int)))) fun b6 =>
      Option.bind (r01_worth k b6) fun v3 =>
      r01_thing_j6 k s1 at1 (decide ((0 : Int) ≤ v3))
    )
  else
    r01_thing_j6 k s1 at1 false
def r01_thing_j14 (k : Nat) (r1 : Int) (k1 : Int) (at1 : Int) (t13 : Bool) : Option (List (Int) × Int) :=
  if t13 then
    some (([] : List (Int)), (0 : Int))
  else
    (
      Option.bind (r01_one k (wi32 r1)) fun v6 =>
      some (v6, wi64 ((wi64 (k1 + (1 : Int))) - at1))
    )
def r01_thing_j15 (k : Nat) (r1 : Int) (k1 : Int) (at1 : Int) (t14 : Bool) : Option (List (Int) × Int) :=
  r01_thing_j14 k r1 k1 at1 t14
def r01_thing_j13 (k : Nat) (r1 : Int) (k1 : Int) (at1 : Int) (t12 : Bool) : Option (List (Int) × Int) :=
  if t12 then
    r01_thing_j14 k r1 k1 at1 true
  else
    r01_thing_j15 k r1 k1 at1 (decide ((32 : Int) ≤ r1) && (decide (r1 ≤ (126 : Int))))
def r01_thing_j12 (k : Nat) (r1 : Int) (k1 : Int) (at1 : Int) (s1 : List UInt8) (t11 : Bool) : Option (List (Int) × Int) :=
  if t11 then
    r01_thing_j13 k r1 k1 at1 true
  else
    (
      Option.bind (r01_number k r1) fun v7 =>
      Option.bind (sub? s1 (wi64 (at1 + (2 : Int))) k1) fun s2 =>
      r01_thing_j13 k r1 k1 at1 (!(v7 == s2))
    )
def r01_thing_j11 (k : Nat) (r1 : Int) (k1 : Int) (at1 : Int) (s1 : List UInt8) (t10 : Bool) : Option (List (Int) × Int) :=
  if t10 then
    r01_thing_j12 k r1 k1 at1 s1 true
  else
    (
      Option.bind (r01_Rune k (wi32 r1)) fun v8 =>
      r01_thing_j12 k r1 k1 at1 s1 (!v8)
    )
def r01_thing_j10 (k : Nat) (r1 : Int) (k1 : Int) (at1 : Int) (s1 : List UInt8) (t9 : Bool) : Option (List (Int) × Int) :=
  r01_thing_j11 k r1 k1 at1 s1 (t9 || (decide ((1114111 : Int) < r1)))
def r01_thing_j9 (k : Nat) (r1 : Int) (k1 : Int) (at1 : Int) (s1 : List UInt8) (t8 : Bool) : Option (List (Int) × Int) :=
  if t8 then
    r01_thing_j10 k r1 k1 at1 s1 true
  else
    (
      Option.bind (byteAt s1 k1) fun b9 =>
      r01_thing_j10 k r1 k1 at1 s1 (b9 != (59 : Int))
    )
def r01_thing_j8 (k : Nat) (s1 : List UInt8) (k1 : Int) (go1 : Int → Int → Option (List (Int) × Int)) (r1 : Int) (at1 : Int) (t7 : Bool) : Option (List (Int) × Int) :=
  if t7 then
    (
      Option.bind (byteAt s1 k1) fun b8 =>
      Option.bind (r01_worth k b8) fun v5 =>
      go1 (wi64 (k1 + (1 : Int))) (wi64 ((wi64 ((16 : Int) * r1)) + v5))
    )
  else
    r01_thing_j9 k r1 k1 at1 s1 ((k1 == (wi64 (at1 + (2 : Int)))) || (decide ((List.length s1 : Int) ≤ k1)))
def r01_thing_j7 (k : Nat) (s1 : List UInt8) (k1 : Int) (go1 : Int → Int → Option (List (Int) × Int)) (r1 : Int) (at1 : Int) (t6 : Bool) : Option (List (Int) × Int) :=
  r01_thing_j8 k s1 k1 go1 r1 at1 (t6 && (decide ((wi64 (k1 - at1)) < (9 : Int))))
def r01_thing_b1 (k : Nat) (s1 : List UInt8) (at1 : Int) (go1 : Int → Int → Option (List (Int) × Int)) (k1 : Int) (r1 : Int) : Option (List (Int) × Int) :=
  if decide (k1 < (List.length s1 : Int)) then
    (
      Option.bind (byteAt s1 k1) fun b10 =>
      Option.bind (r01_worth k b10) fun v9 =>
      r01_thing_j7 k s1 k1 go1 r1 at1 (decide ((0 : Int) ≤ v9))
    )
  else
    r01_thing_j7 k s1 k1 go1 r1 at1 false
def r01_thing_l1 (k : Nat) (s1 : List UInt8) (at1 : Int) : Nat → Int → Int → Option (List (Int) × Int)
  | 0, _, _ => none
  | n + 1, k1, r1 => r01_thing_b1 k s1 at1 (r01_thing_l1 k s1 at1 n) k1 r1
def r01_thing_j4 (k : Nat) (s1 : List UInt8) (at1 : Int) (b2 : Int) (t3 : Bool) : Option (List (Int) × Int) :=
  if t3 then
    (
      Option.bind (byteAt s1 (wi64 (at1 + (1 : Int)))) fun b3 =>
      some (([b3] : List (Int)), (2 : Int))
    )
  else
    (
      if b2 == (120 : Int) then
        (
          if decide ((wi64 (at1 + (3 : Int))) < (List.length s1 : Int)) then
            (
              Option.bind (byteAt s1 (wi64 (at1 + (2 : Int)))) fun b7 =>
              Option.bind (r01_worth k b7) fun v4 =>
              r01_thing_j5 k s1 at1 (decide ((8 : Int) ≤ v4))
            )
          else
            r01_thing_j5 k s1 at1 false
        )
      else
        (
          if b2 == (117 : Int) then
            r01_thing_l1 k s1 at1 k (wi64 (at1 + (2 : Int))) (0 : Int)
          else
            r01_thing_j3
        )
    )
/-- cognate/cognateref01.thing -/
def r01_thing (k : Nat) (s1 : List UInt8) (at1 : Int) : Option (List (Int) × Int) :=
  Option.bind (byteAt s1 at1) fun b1 =>
  if b1 != (92 : Int) then
    r01_thing_j1 b1 (decide ((32 : Int) ≤ b1) && (decide (b1 ≤ (126 : Int))))
  else
    (
      if decide ((List.length s1 : Int) ≤ (wi64 (at1 + (1 : Int)))) then
        some (([] : List (Int)), (0 : Int))
      else
        (
          Option.bind (byteAt s1 (wi64 (at1 + (1 : Int)))) fun b2 =>
          if b2 == (34 : Int) then
            r01_thing_j4 k s1 at1 b2 (b2 == (34 : Int))
          else
            r01_thing_j4 k s1 at1 b2 (b2 == (92 : Int))
        )
    )

def r01_Plain_j2 (k : Nat) (s1 : List UInt8) (at1 : Int) (out1 : List (Int)) (go1 : Int → (List (Int)) → Option (List UInt8 × Int × Int)) (t2 : Bool) : Option (List UInt8 × Int × Int) :=
  if t2 then
    (
      Option.bind (r01_thing k s1 at1) fun v1 =>
      if v1.2 == (0 : Int) then
        some (([] : List UInt8), at1, (10 : Int))
      else
        (
          Option.bind (chk (List.length out1 + List.length v1.1 ≤ lim)) fun _ =>
          go1 (wi64 (at1 + v1.2)) (out1 ++ v1.1)
        )
    )
  else
    (
      if decide ((List.length s1 : Int) ≤ at1) then
        some (([] : List UInt8), at1, (10 : Int))
      else
        (
          if decide ((wi64 (at1 + (1 : Int))) < (List.length s1 : Int)) then
            some (([] : List UInt8), wi64 (at1 + (1 : Int)), (10 : Int))
          else
            (
              if decide ((65536 : Int) < (List.length out1 : Int)) then
                some (([] : List UInt8), (0 : Int), (3 : Int))
              else
                (
                  Option.bind (r01_quote k (bytesStr out1)) fun v2 =>
                  if !(v2 == s1) then
                    some (([] : List UInt8), (0 : Int), (10 : Int))
                  else
                    some (bytesStr out1, (0 : Int), (0 : Int))
                )
            )
        )
    )
def r01_Plain_b1 (k : Nat) (s1 : List UInt8) (go1 : Int → (List (Int)) → Option (List UInt8 × Int × Int)) (at1 : Int) (out1 : List (Int)) : Option (List UInt8 × Int × Int) :=
  if decide (at1 < (List.length s1 : Int)) then
    (
      Option.bind (byteAt s1 at1) fun b1 =>
      r01_Plain_j2 k s1 at1 out1 go1 (b1 != (34 : Int))
    )
  else
    r01_Plain_j2 k s1 at1 out1 go1 false
def r01_Plain_l1 (k : Nat) (s1 : List UInt8) : Nat → Int → (List (Int)) → Option (List UInt8 × Int × Int)
  | 0, _, _ => none
  | n + 1, at1, out1 => r01_Plain_b1 k s1 (r01_Plain_l1 k s1 n) at1 out1
def r01_Plain_j1 (k : Nat) (s1 : List UInt8) (t1 : Bool) : Option (List UInt8 × Int × Int) :=
  if t1 then
    some (([] : List UInt8), (0 : Int), (10 : Int))
  else
    r01_Plain_l1 k s1 k (1 : Int) ([] : List (Int))
/-- cognate/cognateref01.Plain -/
def r01_Plain (k : Nat) (s1 : List UInt8) : Option (List UInt8 × Int × Int) :=
  if decide ((1048576 : Int) < (List.length s1 : Int)) then
    some (([] : List UInt8), (0 : Int), (3 : Int))
  else
    (
      if s1 == ([] : List UInt8) then
        r01_Plain_j1 k s1 true
      else
        (
          Option.bind (byteAt s1 (0 : Int)) fun b2 =>
          r01_Plain_j1 k s1 (b2 != (34 : Int))
        )
    )

def r01_Text_b1 (k : Nat) (l1 : List (Int)) (go1 : Int → (List (Int)) → Option (List UInt8)) (i1 : Int) (out1 : List (Int)) : Option (List UInt8) :=
  if decide (i1 < (List.length l1 : Int)) then
    (
      Option.bind (at? l1 i1) fun x1 =>
      Option.bind (r01_one k x1) fun v1 =>
      Option.bind (chk (List.length out1 + List.length v1 ≤ lim)) fun _ =>
      go1 (wi64 (i1 + (1 : Int))) (out1 ++ v1)
    )
  else
    some (bytesStr out1)
def r01_Text_l1 (k : Nat) (l1 : List (Int)) : Nat → Int → (List (Int)) → Option (List UInt8)
  | 0, _, _ => none
  | n + 1, i1, out1 => r01_Text_b1 k l1 (r01_Text_l1 k l1 n) i1 out1
/-- cognate/cognateref01.Text -/
def r01_Text (k : Nat) (l1 : List (Int)) : Option (List UInt8) :=
  r01_Text_l1 k l1 k (0 : Int) ([] : List (Int))

def l01_RunesQuotes_j4 (go1 : Bool → Int → Option Bool) (i1 : Int) (t4 : Bool) : Option Bool :=
  go1 t4 (wi64 (i1 + (1 : Int)))
def l01_RunesQuotes_j10  (t10 : Bool) : Option Bool :=
  some (t10)
def l01_RunesQuotes_j9 (v4 : (List UInt8 × Int × Int)) (v5 : (List UInt8 × Int × Int)) (t9 : Bool) : Option Bool :=
  l01_RunesQuotes_j10 (t9 && (v4.2.2 == v5.2.2))
def l01_RunesQuotes_j8 (v4 : (List UInt8 × Int × Int)) (v5 : (List UInt8 × Int × Int)) (t8 : Bool) : Option Bool :=
  l01_RunesQuotes_j9 v4 v5 (t8 && (v4.2.1 == v5.2.1))
def l01_RunesQuotes_j7 (v4 : (List UInt8 × Int × Int)) (v5 : (List UInt8 × Int × Int)) (t7 : Bool) : Option Bool :=
  l01_RunesQuotes_j8 v4 v5 (t7 && (v4.1 == v5.1))
def l01_RunesQuotes_j6 (v4 : (List UInt8 × Int × Int)) (v5 : (List UInt8 × Int × Int)) (v2 : (List UInt8 × Int)) (v3 : (List UInt8 × Int)) (t6 : Bool) : Option Bool :=
  l01_RunesQuotes_j7 v4 v5 (t6 && (v2.2 == v3.2))
def l01_RunesQuotes_j5 (v4 : (List UInt8 × Int × Int)) (v5 : (List UInt8 × Int × Int)) (v2 : (List UInt8 × Int)) (v3 : (List UInt8 × Int)) (t5 : Bool) : Option Bool :=
  l01_RunesQuotes_j6 v4 v5 v2 v3 (t5 && (v2.1 == v3.1))
def l01_RunesQuotes_b1 (l1 : List (Int)) (v4 : (List UInt8 × Int × Int)) (v5 : (List UInt8 × Int × Int)) (v2 : (List UInt8 × Int)) (v3 : (List UInt8 × Int)) (go1 : Bool → Int → Option Bool) (same1 : Bool) (i1 : Int) : Option Bool :=
  if decide (i1 < (List.length l1 : Int)) then
    (
      if same1 then
        (
          Option.bind (at? ((([] : List (Int)) ++ l1) ++ ([(77 : Int)] : List (Int))) i1) fun x1 =>
          Option.bind (at? l1 i1) fun x2 =>
          l01_RunesQuotes_j4 go1 i1 (x1 == x2)
        )
      else
        l01_RunesQuotes_j4 go1 i1 false
    )
  else
    (
      if same1 then
        (
          Option.bind (at? ((([] : List (Int)) ++ l1) ++ ([(77 : Int)] : List (Int))) (List.length l1 : Int)) fun x3 =>
          l01_RunesQuotes_j5 v4 v5 v2 v3 (x3 == (77 : Int))
        )
      else
        l01_RunesQuotes_j5 v4 v5 v2 v3 false
    )
def l01_RunesQuotes_l1 (l1 : List (Int)) (v4 : (List UInt8 × Int × Int)) (v5 : (List UInt8 × Int × Int)) (v2 : (List UInt8 × Int)) (v3 : (List UInt8 × Int)) : Nat → Bool → Int → Option Bool
  | 0, _, _ => none
  | n + 1, same1, i1 => l01_RunesQuotes_b1 l1 v4 v5 v2 v3 (l01_RunesQuotes_l1 l1 v4 v5 v2 v3 n) same1 i1
def l01_RunesQuotes_j3 (k : Nat) (s1 : List UInt8) (q1 : List UInt8) (l1 : List (Int)) (t3 : Bool) : Option Bool :=
  if t3 then
    some (true)
  else
    (
      Option.bind (runes_Quote k s1) fun v2 =>
      Option.bind (r01_Quote k s1) fun v3 =>
      Option.bind (runes_Plain k q1) fun v4 =>
      Option.bind (r01_Plain k q1) fun v5 =>
      Option.bind (chk (List.length ([] : List (Int)) + List.length l1 ≤ lim)) fun _ =>
      Option.bind (chk (List.length (([] : List (Int)) ++ l1) + List.length ([(77 : Int)] : List (Int)) ≤ lim)) fun _ =>
      Option.bind (sub? ((([] : List (Int)) ++ l1) ++ ([(77 : Int)] : List (Int))) (0 : Int) (List.length l1 : Int)) fun s2 =>
      Option.bind (runes_Text k s2) fun v6 =>
      Option.bind (r01_Text k l1) fun v7 =>
      l01_RunesQuotes_l1 l1 v4 v5 v2 v3 k (v6 == v7) (0 : Int)
    )
def l01_RunesQuotes_j2 (k : Nat) (s1 : List UInt8) (q1 : List UInt8) (l1 : List (Int)) (t2 : Bool) : Option Bool :=
  l01_RunesQuotes_j3 k s1 q1 l1 (t2 || (decide ((3000 : Int) < (List.length l1 : Int))))
def l01_RunesQuotes_j1 (k : Nat) (s1 : List UInt8) (q1 : List UInt8) (l1 : List (Int)) (t1 : Bool) : Option Bool :=
  l01_RunesQuotes_j2 k s1 q1 l1 (t1 || (decide ((1100000 : Int) < (List.length q1 : Int))))
def l01_RunesQuotes_j11 (k : Nat) (s1 : List UInt8) (q1 : List UInt8) (l1 : List (Int)) (t11 : Bool) : Option Bool :=
  l01_RunesQuotes_j1 k s1 q1 l1 t11
/-- cognate/cognatelaw01.RunesQuotes -/
def l01_RunesQuotes (k : Nat) (s1 : List UInt8) (q1 : List UInt8) (l1 : List (Int)) : Option Bool :=
  Option.bind (l01_long k s1) fun v1 =>
  if v1 then
    l01_RunesQuotes_j1 k s1 q1 l1 true
  else
    l01_RunesQuotes_j11 k s1 q1 l1 (decide ((5000 : Int) < (List.length q1 : Int)) && (decide ((List.length q1 : Int) ≤ (1048576 : Int))))

def l01_RunesPlain_j6 (go1 : Int → Option Bool) (i1 : Int) (t6 : Bool) : Option Bool :=
  if t6 then
    some (false)
  else
    go1 (wi64 (i1 + (1 : Int)))
def l01_RunesPlain_j9  (t9 : Bool) : Option Bool :=
  some (t9)
def l01_RunesPlain_j8 (v4 : (List UInt8 × Int × Int)) (q1 : List UInt8) (t8 : Bool) : Option Bool :=
  l01_RunesPlain_j9 (t8 && (decide (v4.2.1 ≤ (List.length q1 : Int))))
def l01_RunesPlain_j7 (v4 : (List UInt8 × Int × Int)) (q1 : List UInt8) (t7 : Bool) : Option Bool :=
  l01_RunesPlain_j8 v4 q1 (t7 && (decide ((0 : Int) ≤ v4.2.1)))
def l01_RunesPlain_j12  (t12 : Bool) : Option Bool :=
  some (t12)
def l01_RunesPlain_j11 (v4 : (List UInt8 × Int × Int)) (t11 : Bool) : Option Bool :=
  l01_RunesPlain_j12 (t11 && (v4.2.1 == (0 : Int)))
def l01_RunesPlain_j10 (v4 : (List UInt8 × Int × Int)) (v5 : (List UInt8 × Int)) (q1 : List UInt8) (t10 : Bool) : Option Bool :=
  l01_RunesPlain_j11 v4 (t10 && (v5.1 == q1))
def l01_RunesPlain_b1 (k : Nat) (v2 : (List UInt8 × Int)) (q1 : List UInt8) (v1 : Bool) (go1 : Int → Option Bool) (i1 : Int) : Option Bool :=
  if decide (i1 < (List.length v2.1 : Int)) then
    (
      Option.bind (byteAt v2.1 i1) fun b1 =>
      if decide (b1 < (32 : Int)) then
        l01_RunesPlain_j6 go1 i1 true
      else
        (
          Option.bind (byteAt v2.1 i1) fun b2 =>
          l01_RunesPlain_j6 go1 i1 (decide ((126 : Int) < b2))
        )
    )
  else
    (
      Option.bind (runes_Plain k q1) fun v4 =>
      if v4.2.2 != (0 : Int) then
        l01_RunesPlain_j7 v4 q1 (v1 && (v4.1 == ([] : List UInt8)))
      else
        (
          Option.bind (runes_Quote k v4.1) fun v5 =>
          l01_RunesPlain_j10 v4 v5 q1 (v1 && (v5.2 == (0 : Int)))
        )
    )
def l01_RunesPlain_l1 (k : Nat) (v2 : (List UInt8 × Int)) (q1 : List UInt8) (v1 : Bool) : Nat → Int → Option Bool
  | 0, _ => none
  | n + 1, i1 => l01_RunesPlain_b1 k v2 q1 v1 (l01_RunesPlain_l1 k v2 q1 v1 n) i1
def l01_RunesPlain_j5 (k : Nat) (v2 : (List UInt8 × Int)) (q1 : List UInt8) (v1 : Bool) (t5 : Bool) : Option Bool :=
  if t5 then
    some (false)
  else
    l01_RunesPlain_l1 k v2 q1 v1 k (0 : Int)
def l01_RunesPlain_j4 (k : Nat) (v2 : (List UInt8 × Int)) (q1 : List UInt8) (v1 : Bool) (s1 : List UInt8) (t4 : Bool) : Option Bool :=
  l01_RunesPlain_j5 k v2 q1 v1 (t4 || (decide ((List.length v2.1 : Int) < (wi64 ((List.length s1 : Int) + (2 : Int))))))
def l01_RunesPlain_j3 (k : Nat) (v2 : (List UInt8 × Int)) (q1 : List UInt8) (v1 : Bool) (s1 : List UInt8) (v3 : (List UInt8 × Int × Int)) (t3 : Bool) : Option Bool :=
  l01_RunesPlain_j4 k v2 q1 v1 s1 (t3 || (!(v3.1 == s1)))
def l01_RunesPlain_j2 (k : Nat) (v2 : (List UInt8 × Int)) (q1 : List UInt8) (v1 : Bool) (s1 : List UInt8) (v3 : (List UInt8 × Int × Int)) (t2 : Bool) : Option Bool :=
  l01_RunesPlain_j3 k v2 q1 v1 s1 v3 (t2 || (v3.2.1 != (0 : Int)))
def l01_RunesPlain_j1 (k : Nat) (v1 : Bool) (s1 : List UInt8) (q1 : List UInt8) (t1 : Bool) : Option Bool :=
  if t1 then
    some (v1)
  else
    (
      Option.bind (runes_Quote k s1) fun v2 =>
      Option.bind (runes_Plain k v2.1) fun v3 =>
      l01_RunesPlain_j2 k v2 q1 v1 s1 v3 ((v2.2 != (0 : Int)) || (v3.2.2 != (0 : Int)))
    )
/-- cognate/cognatelaw01.RunesPlain -/
def l01_RunesPlain (k : Nat) (s1 : List UInt8) (q1 : List UInt8) : Option Bool :=
  Option.bind (l01_alive k) fun v1 =>
  l01_RunesPlain_j1 k v1 s1 q1 (decide ((5000 : Int) < (List.length s1 : Int)) || (decide ((5000 : Int) < (List.length q1 : Int))))

def l01_wrong_j2  (t2 : Bool) : Option Bool :=
  some (t2)
def l01_wrong_j1 (v1 : (List UInt8 × Int × Int)) (t1 : Bool) : Option Bool :=
  l01_wrong_j2 (t1 && (v1.2.2 == (10 : Int)))
/-- cognate/cognatelaw01.wrong -/
def l01_wrong (k : Nat) (s1 : List UInt8) (at1 : Int) : Option Bool :=
  Option.bind (runes_Plain k s1) fun v1 =>
  l01_wrong_j1 v1 ((v1.1 == ([] : List UInt8)) && (v1.2.1 == at1))

def l01_RunesNames_j30  (t30 : Bool) : Option Bool :=
  some (t30)
def l01_RunesNames_j29 (t27 : Bool) (t29 : Bool) : Option Bool :=
  l01_RunesNames_j30 (t29 && t27)
def l01_RunesNames_j28 (t27 : Bool) (t19 : Bool) (t28 : Bool) : Option Bool :=
  l01_RunesNames_j29 t27 (t28 && t19)
def l01_RunesNames_j27 (k : Nat) (t19 : Bool) (t10 : Bool) (t27 : Bool) : Option Bool :=
  Option.bind (l01_alive k) fun v11 =>
  l01_RunesNames_j28 t27 t19 (v11 && t10)
def l01_RunesNames_j26 (k : Nat) (t19 : Bool) (t10 : Bool) (t26 : Bool) : Option Bool :=
  if t26 then
    (
      Option.bind (runes_Less k ([98] : List UInt8) ([97] : List UInt8)) fun v12 =>
      l01_RunesNames_j27 k t19 t10 (!v12)
    )
  else
    l01_RunesNames_j27 k t19 t10 false
def l01_RunesNames_j25 (k : Nat) (t19 : Bool) (t10 : Bool) (t25 : Bool) : Option Bool :=
  if t25 then
    (
      Option.bind (runes_Less k ([244, 143, 191, 191] : List UInt8) ([128] : List UInt8)) fun v13 =>
      l01_RunesNames_j26 k t19 t10 v13
    )
  else
    l01_RunesNames_j26 k t19 t10 false
def l01_RunesNames_j24 (k : Nat) (t19 : Bool) (t10 : Bool) (t24 : Bool) : Option Bool :=
  if t24 then
    (
      Option.bind (runes_Less k ([97] : List UInt8) ([97, 98] : List UInt8)) fun v14 =>
      l01_RunesNames_j25 k t19 t10 v14
    )
  else
    l01_RunesNames_j25 k t19 t10 false
def l01_RunesNames_j23 (k : Nat) (t19 : Bool) (t10 : Bool) (t23 : Bool) : Option Bool :=
  if t23 then
    (
      Option.bind (runes_Less k ([97] : List UInt8) ([98] : List UInt8)) fun v15 =>
      l01_RunesNames_j24 k t19 t10 v15
    )
  else
    l01_RunesNames_j24 k t19 t10 false
def l01_RunesNames_j22 (k : Nat) (t19 : Bool) (t10 : Bool) (t22 : Bool) : Option Bool :=
  if t22 then
    (
      Option.bind (l01_wrong k ([34, 92, 117, 48, 101, 57, 59, 34] : List UInt8) (1 : Int)) fun v16 =>
      l01_RunesNames_j23 k t19 t10 v16
    )
  else
    l01_RunesNames_j23 k t19 t10 false
def l01_RunesNames_j21 (k : Nat) (t19 : Bool) (t10 : Bool) (t21 : Bool) : Option Bool :=
  if t21 then
    (
      Option.bind (l01_wrong k ([34, 92, 120, 99, 51, 92, 120, 97, 57, 34] : List UInt8) (0 : Int)) fun v17 =>
      l01_RunesNames_j22 k t19 t10 v17
    )
  else
    l01_RunesNames_j22 k t19 t10 false
def l01_RunesNames_j20 (k : Nat) (t19 : Bool) (t10 : Bool) (t20 : Bool) : Option Bool :=
  if t20 then
    (
      Option.bind (l01_wrong k ([97] : List UInt8) (0 : Int)) fun v18 =>
      l01_RunesNames_j21 k t19 t10 v18
    )
  else
    l01_RunesNames_j21 k t19 t10 false
def l01_RunesNames_j19 (k : Nat) (t10 : Bool) (t19 : Bool) : Option Bool :=
  Option.bind (l01_wrong k ([34, 97, 92, 120, 52, 49, 34] : List UInt8) (2 : Int)) fun v10 =>
  if v10 then
    (
      Option.bind (l01_wrong k ([34, 97] : List UInt8) (2 : Int)) fun v19 =>
      l01_RunesNames_j20 k t19 t10 v19
    )
  else
    l01_RunesNames_j20 k t19 t10 false
def l01_RunesNames_j18 (k : Nat) (t10 : Bool) (t18 : Bool) : Option Bool :=
  if t18 then
    (
      Option.bind (runes_Text k ([(-1 : Int)] : List (Int))) fun v20 =>
      l01_RunesNames_j19 k t10 (v20 == ([239, 191, 189] : List UInt8))
    )
  else
    l01_RunesNames_j19 k t10 false
def l01_RunesNames_j17 (k : Nat) (t10 : Bool) (t17 : Bool) : Option Bool :=
  if t17 then
    (
      Option.bind (runes_Text k ([(55296 : Int), (98 : Int)] : List (Int))) fun v21 =>
      l01_RunesNames_j18 k t10 (v21 == ([239, 191, 189, 98] : List UInt8))
    )
  else
    l01_RunesNames_j18 k t10 false
def l01_RunesNames_j16 (k : Nat) (t10 : Bool) (v9 : (List UInt8 × Int)) (t16 : Bool) : Option Bool :=
  l01_RunesNames_j17 k t10 (t16 && (v9.1 == ([34, 97, 92, 34, 98, 92, 117, 97, 59, 34] : List UInt8)))
def l01_RunesNames_j15 (k : Nat) (t10 : Bool) (v9 : (List UInt8 × Int)) (t15 : Bool) : Option Bool :=
  l01_RunesNames_j16 k t10 v9 (t15 && (v9.2 == (0 : Int)))
def l01_RunesNames_j14 (k : Nat) (t10 : Bool) (v9 : (List UInt8 × Int)) (v8 : (List UInt8 × Int)) (t14 : Bool) : Option Bool :=
  l01_RunesNames_j15 k t10 v9 (t14 && (v8.1 == ([34, 97, 92, 117, 101, 57, 59, 92, 120, 102, 102, 98, 34] : List UInt8)))
def l01_RunesNames_j13 (k : Nat) (t10 : Bool) (v9 : (List UInt8 × Int)) (v8 : (List UInt8 × Int)) (t13 : Bool) : Option Bool :=
  l01_RunesNames_j14 k t10 v9 v8 (t13 && (v8.2 == (0 : Int)))
def l01_RunesNames_j12 (k : Nat) (t10 : Bool) (v9 : (List UInt8 × Int)) (v8 : (List UInt8 × Int)) (v7 : (List UInt8 × Int)) (t12 : Bool) : Option Bool :=
  l01_RunesNames_j13 k t10 v9 v8 (t12 && (v7.2 == (10 : Int)))
def l01_RunesNames_j11 (k : Nat) (t10 : Bool) (v9 : (List UInt8 × Int)) (v8 : (List UInt8 × Int)) (v7 : (List UInt8 × Int)) (v6 : (List UInt8 × Int)) (t11 : Bool) : Option Bool :=
  l01_RunesNames_j12 k t10 v9 v8 v7 (t11 && (v6.2 == (10 : Int)))
def l01_RunesNames_j10 (k : Nat) (t10 : Bool) : Option Bool :=
  Option.bind (runes_Part k ([97, 195, 169, 255, 98] : List UInt8) (1 : Int) (3 : Int)) fun v5 =>
  Option.bind (runes_Part k ([97, 195, 169, 255, 98] : List UInt8) (3 : Int) (2 : Int)) fun v6 =>
  Option.bind (runes_Part k ([97, 195, 169, 255, 98] : List UInt8) (0 : Int) (5 : Int)) fun v7 =>
  Option.bind (runes_Quote k ([97, 195, 169, 255, 98] : List UInt8)) fun v8 =>
  Option.bind (runes_Quote k ([97, 34, 98, 10] : List UInt8)) fun v9 =>
  l01_RunesNames_j11 k t10 v9 v8 v7 v6 ((v5.2 == (0 : Int)) && (v5.1 == ([195, 169, 255] : List UInt8)))
def l01_RunesNames_j9 (k : Nat) (v4 : (Int × Int)) (t9 : Bool) : Option Bool :=
  l01_RunesNames_j10 k (t9 && (v4.1 == (-1 : Int)))
def l01_RunesNames_j8 (k : Nat) (v4 : (Int × Int)) (t8 : Bool) : Option Bool :=
  l01_RunesNames_j9 k v4 (t8 && (v4.2 == (0 : Int)))
def l01_RunesNames_j7 (k : Nat) (v4 : (Int × Int)) (v3 : (Int × Int)) (t7 : Bool) : Option Bool :=
  l01_RunesNames_j8 k v4 (t7 && (v3.1 == (3 : Int)))
def l01_RunesNames_j6 (k : Nat) (v4 : (Int × Int)) (v3 : (Int × Int)) (t6 : Bool) : Option Bool :=
  l01_RunesNames_j7 k v4 v3 (t6 && (v3.2 == (0 : Int)))
def l01_RunesNames_j5 (k : Nat) (v4 : (Int × Int)) (v3 : (Int × Int)) (v2 : (Int × Int)) (t5 : Bool) : Option Bool :=
  l01_RunesNames_j6 k v4 v3 (t5 && (v2.1 == (4 : Int)))
def l01_RunesNames_j4 (k : Nat) (v4 : (Int × Int)) (v3 : (Int × Int)) (v2 : (Int × Int)) (t4 : Bool) : Option Bool :=
  l01_RunesNames_j5 k v4 v3 v2 (t4 && (v2.2 == (0 : Int)))
def l01_RunesNames_j3 (k : Nat) (v1 : (List ((Int × Int × Int × Bool × Unit)) × Int)) (v4 : (Int × Int)) (v3 : (Int × Int)) (v2 : (Int × Int)) (t3 : Bool) : Option Bool :=
  if t3 then
    (
      Option.bind (at? v1.1 (3 : Int)) fun x1 =>
      l01_RunesNames_j4 k v4 v3 v2 ((eqInt x1.1 (98 : Int)) && ((eqInt x1.2.1 (4 : Int)) && ((eqInt x1.2.2.1 (1 : Int)) && ((eqBool x1.2.2.2.1 false) && (true)))))
    )
  else
    l01_RunesNames_j4 k v4 v3 v2 false
def l01_RunesNames_j2 (k : Nat) (v1 : (List ((Int × Int × Int × Bool × Unit)) × Int)) (v4 : (Int × Int)) (v3 : (Int × Int)) (v2 : (Int × Int)) (t2 : Bool) : Option Bool :=
  if t2 then
    (
      Option.bind (at? v1.1 (2 : Int)) fun x2 =>
      l01_RunesNames_j3 k v1 v4 v3 v2 ((eqInt x2.1 (65533 : Int)) && ((eqInt x2.2.1 (3 : Int)) && ((eqInt x2.2.2.1 (1 : Int)) && ((eqBool x2.2.2.2.1 true) && (true)))))
    )
  else
    l01_RunesNames_j3 k v1 v4 v3 v2 false
def l01_RunesNames_j1 (k : Nat) (v1 : (List ((Int × Int × Int × Bool × Unit)) × Int)) (v4 : (Int × Int)) (v3 : (Int × Int)) (v2 : (Int × Int)) (t1 : Bool) : Option Bool :=
  if t1 then
    (
      Option.bind (at? v1.1 (1 : Int)) fun x3 =>
      l01_RunesNames_j2 k v1 v4 v3 v2 ((eqInt x3.1 (233 : Int)) && ((eqInt x3.2.1 (1 : Int)) && ((eqInt x3.2.2.1 (2 : Int)) && ((eqBool x3.2.2.2.1 false) && (true)))))
    )
  else
    l01_RunesNames_j2 k v1 v4 v3 v2 false
/-- cognate/cognatelaw01.RunesNames -/
def l01_RunesNames (k : Nat)  : Option Bool :=
  Option.bind (runes_Pieces k ([97, 195, 169, 255, 98] : List UInt8)) fun v1 =>
  Option.bind (runes_Len k ([97, 195, 169, 255, 98] : List UInt8)) fun v2 =>
  Option.bind (runes_Broken k ([97, 195, 169, 255, 98] : List UInt8)) fun v3 =>
  Option.bind (runes_Broken k ([97] : List UInt8)) fun v4 =>
  l01_RunesNames_j1 k v1 v4 v3 v2 ((v1.2 == (0 : Int)) && ((List.length v1.1 : Int) == (4 : Int)))

end Go.Ev
