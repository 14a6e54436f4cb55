/- Shallow functions, by program. -/
import Derived.Test.YtciikbiapmbocaaDoorEvS
import Derived.Test.YtciikbiapmbocaaDoorLibS
namespace Go.Ev
open Go
set_option linter.unusedVariables false

def runes_Less_j3 (x1 : Int) (a2 : List UInt8) (v1 : (Int × Int)) (b2 : List UInt8) (v2 : (Int × Int)) (go1 : (List UInt8) → (List UInt8) → Option Bool) (y1 : Int) : Option Bool :=
  if x1 != y1 then
    some (decide (x1 < y1))
  else
    (
      Option.bind (sub? a2 v1.2 (a2.length : Int)) fun s1 =>
      Option.bind (sub? b2 v2.2 (b2.length : Int)) fun s2 =>
      go1 s1 s2
    )
def runes_Less_j4 (b2 : List UInt8) (x1 : Int) (a2 : List UInt8) (v1 : (Int × Int)) (v2 : (Int × Int)) (go1 : (List UInt8) → (List UInt8) → Option Bool) (t2 : Bool) : Option Bool :=
  if t2 then
    (
      Option.bind (byteAt b2 (0 : Int)) fun b3 =>
      runes_Less_j3 x1 a2 v1 b2 v2 go1 (wi64 ((1114112 : Int) + (wi64 b3)))
    )
  else
    runes_Less_j3 x1 a2 v1 b2 v2 go1 (wi64 v2.1)
def runes_Less_j2 (b2 : List UInt8) (a2 : List UInt8) (v1 : (Int × Int)) (v2 : (Int × Int)) (go1 : (List UInt8) → (List UInt8) → Option Bool) (x1 : Int) : Option Bool :=
  runes_Less_j4 b2 x1 a2 v1 v2 go1 ((v2.1 == (65533 : Int)) && (v2.2 == (1 : Int)))
def runes_Less_j5 (a2 : List UInt8) (b2 : List UInt8) (v1 : (Int × Int)) (v2 : (Int × Int)) (go1 : (List UInt8) → (List UInt8) → Option Bool) (t3 : Bool) : Option Bool :=
  if t3 then
    (
      Option.bind (byteAt a2 (0 : Int)) fun b4 =>
      runes_Less_j2 b2 a2 v1 v2 go1 (wi64 ((1114112 : Int) + (wi64 b4)))
    )
  else
    runes_Less_j2 b2 a2 v1 v2 go1 (wi64 v1.1)
def runes_Less_j6  (t4 : Bool) : Option Bool :=
  some (t4)
def runes_Less_j1 (k : Nat) (a2 : List UInt8) (b2 : List UInt8) (go1 : (List UInt8) → (List UInt8) → Option Bool) (t1 : Bool) : Option Bool :=
  if t1 then
    (
      Option.bind (utf8_DecodeRuneInString k a2) fun v1 =>
      Option.bind (utf8_DecodeRuneInString k b2) fun v2 =>
      runes_Less_j5 a2 b2 v1 v2 go1 ((v1.1 == (65533 : Int)) && (v1.2 == (1 : Int)))
    )
  else
    runes_Less_j6 ((a2 == ([] : List UInt8)) && (!(b2 == ([] : List UInt8))))
def runes_Less_b1 (k : Nat) (go1 : (List UInt8) → (List UInt8) → Option Bool) (a2 : List UInt8) (b2 : List UInt8) : Option Bool :=
  runes_Less_j1 k a2 b2 go1 ((!(a2 == ([] : List UInt8))) && (!(b2 == ([] : List UInt8))))
def runes_Less_l1 (k : Nat) : Nat → (List UInt8) → (List UInt8) → Option Bool
  | 0, _, _ => none
  | n + 1, a2, b2 => runes_Less_b1 k (runes_Less_l1 k n) a2 b2
/-- cognate/runes.Less -/
def runes_Less (k : Nat) (a1 : List UInt8) (b1 : List UInt8) : Option Bool :=
  runes_Less_l1 k k a1 b1

def r01_tail_j1  (t1 : Bool) : Option Bool :=
  some (t1)
/-- cognate/cognateref01.tail -/
def r01_tail (k : Nat) (b1 : Int) : Option Bool :=
  r01_tail_j1 (decide ((128 : Int) ≤ b1) && (decide (b1 < (192 : Int))))

def r01_Rune_j2  (t2 : Bool) : Option Bool :=
  some (t2)
def r01_Rune_j3  (t3 : Bool) : Option Bool :=
  r01_Rune_j2 t3
def r01_Rune_j1 (r1 : Int) (t1 : Bool) : Option Bool :=
  if t1 then
    r01_Rune_j3 (decide (r1 < (55296 : Int)) || (decide ((57343 : Int) < r1)))
  else
    r01_Rune_j2 false
/-- cognate/cognateref01.Rune -/
def r01_Rune (k : Nat) (r1 : Int) : Option Bool :=
  r01_Rune_j1 r1 (decide ((0 : Int) ≤ r1) && (decide (r1 ≤ (1114111 : Int))))

def r01_At_j3 (at1 : Int) (r2 : Int) (long1 : Int) (t2 : Bool) : Option (Int × Int × Int × Bool × Unit) :=
  if t2 then
    some (((65533 : Int), at1, (1 : Int), true, ()))
  else
    some ((r2, at1, long1, false, ()))
def r01_At_b1 (k : Nat) (long1 : Int) (s1 : List UInt8) (at1 : Int) (go1 : Int → Int → Option (Int × Int × Int × Bool × Unit)) (r2 : Int) (i1 : Int) : Option (Int × Int × Int × Bool × Unit) :=
  if decide (i1 < long1) then
    (
      Option.bind (byteAt s1 (wi64 (at1 + i1))) fun b2 =>
      Option.bind (r01_tail k b2) fun v1 =>
      if !v1 then
        some (((65533 : Int), at1, (1 : Int), true, ()))
      else
        (
          Option.bind (byteAt s1 (wi64 (at1 + i1))) fun b3 =>
          go1 (wi32 ((wi32 ((64 : Int) * r2)) + (wi32 (wu8 (b3 - (128 : Int)))))) (wi64 (i1 + (1 : Int)))
        )
    )
  else
    (
      Option.bind (at? ([(0 : Int), (0 : Int), (128 : Int), (2048 : Int), (65536 : Int)] : List (Int)) long1) fun x1 =>
      if decide (r2 < x1) then
        r01_At_j3 at1 r2 long1 true
      else
        (
          Option.bind (r01_Rune k r2) fun v2 =>
          r01_At_j3 at1 r2 long1 (!v2)
        )
    )
def r01_At_l1 (k : Nat) (long1 : Int) (s1 : List UInt8) (at1 : Int) : Nat → Int → Int → Option (Int × Int × Int × Bool × Unit)
  | 0, _, _ => none
  | n + 1, r2, i1 => r01_At_b1 k long1 s1 at1 (r01_At_l1 k long1 s1 at1 n) r2 i1
def r01_At_j2 (k : Nat) (at1 : Int) (long1 : Int) (s1 : List UInt8) (r1 : Int) (t1 : Bool) : Option (Int × Int × Int × Bool × Unit) :=
  if t1 then
    some (((65533 : Int), at1, (1 : Int), true, ()))
  else
    r01_At_l1 k long1 s1 at1 k r1 (1 : Int)
def r01_At_j1 (k : Nat) (at1 : Int) (s1 : List UInt8) (long1 : Int) (r1 : Int) : Option (Int × Int × Int × Bool × Unit) :=
  r01_At_j2 k at1 long1 s1 r1 ((long1 == (0 : Int)) || (decide ((List.length s1 : Int) < (wi64 (at1 + long1)))))
def r01_At_j6 (k : Nat) (at1 : Int) (s1 : List UInt8) (b1 : Int) (t5 : Bool) : Option (Int × Int × Int × Bool × Unit) :=
  if t5 then
    r01_At_j1 k at1 s1 (4 : Int) (wi32 (wu8 (b1 - (240 : Int))))
  else
    r01_At_j1 k at1 s1 (0 : Int) (0 : Int)
def r01_At_j5 (k : Nat) (at1 : Int) (s1 : List UInt8) (b1 : Int) (t4 : Bool) : Option (Int × Int × Int × Bool × Unit) :=
  if t4 then
    r01_At_j1 k at1 s1 (3 : Int) (wi32 (wu8 (b1 - (224 : Int))))
  else
    r01_At_j6 k at1 s1 b1 (decide ((240 : Int) ≤ b1) && (decide (b1 < (248 : Int))))
def r01_At_j4 (k : Nat) (at1 : Int) (s1 : List UInt8) (b1 : Int) (t3 : Bool) : Option (Int × Int × Int × Bool × Unit) :=
  if t3 then
    r01_At_j1 k at1 s1 (2 : Int) (wi32 (wu8 (b1 - (192 : Int))))
  else
    r01_At_j5 k at1 s1 b1 (decide ((224 : Int) ≤ b1) && (decide (b1 < (240 : Int))))
/-- cognate/cognateref01.At -/
def r01_At (k : Nat) (s1 : List UInt8) (at1 : Int) : Option (Int × Int × Int × Bool × Unit) :=
  Option.bind (byteAt s1 at1) fun b1 =>
  if decide (b1 < (128 : Int)) then
    some ((wi32 b1, at1, (1 : Int), false, ()))
  else
    r01_At_j4 k at1 s1 b1 (decide ((192 : Int) ≤ b1) && (decide (b1 < (224 : Int))))

def r01_All_b1 (k : Nat) (s1 : List UInt8) (go1 : Int → (List ((Int × Int × Int × Bool × Unit))) → Option (List ((Int × Int × Int × Bool × Unit)))) (at1 : Int) (out1 : List ((Int × Int × Int × Bool × Unit))) : Option (List ((Int × Int × Int × Bool × Unit))) :=
  if decide (at1 < (List.length s1 : Int)) then
    (
      Option.bind (r01_At k s1 at1) fun v1 =>
      Option.bind (chk (List.length out1 + List.length ([(v1.1, v1.2.1, v1.2.2.1, v1.2.2.2.1, ())] : List ((Int × Int × Int × Bool × Unit))) ≤ lim)) fun _ =>
      go1 (wi64 (at1 + v1.2.2.1)) (out1 ++ ([(v1.1, v1.2.1, v1.2.2.1, v1.2.2.2.1, ())] : List ((Int × Int × Int × Bool × Unit))))
    )
  else
    some (out1)
def r01_All_l1 (k : Nat) (s1 : List UInt8) : Nat → Int → (List ((Int × Int × Int × Bool × Unit))) → Option (List ((Int × Int × Int × Bool × Unit)))
  | 0, _, _ => none
  | n + 1, at1, out1 => r01_All_b1 k s1 (r01_All_l1 k s1 n) at1 out1
/-- cognate/cognateref01.All -/
def r01_All (k : Nat) (s1 : List UInt8) : Option (List ((Int × Int × Int × Bool × Unit))) :=
  r01_All_l1 k s1 k (0 : Int) ([] : List ((Int × Int × Int × Bool × Unit)))

/-- cognate/cognateref01.weight -/
def r01_weight (k : Nat) (s1 : List UInt8) (p1 : (Int × Int × Int × Bool × Unit)) : Option Int :=
  if p1.2.2.2.1 then
    (
      Option.bind (byteAt s1 p1.2.1) fun b1 =>
      some (wi64 ((2097152 : Int) + (wi64 b1)))
    )
  else
    some (wi64 p1.1)

def r01_Less_j1 (k : Nat) (v1 : List ((Int × Int × Int × Bool × Unit))) (i1 : Int) (a1 : List UInt8) (v2 : List ((Int × Int × Int × Bool × Unit))) (b1 : List UInt8) (go1 : Int → Option Bool) (t1 : Bool) : Option Bool :=
  if t1 then
    (
      Option.bind (at? v1 i1) fun x1 =>
      Option.bind (r01_weight k a1 x1) fun v3 =>
      Option.bind (at? v2 i1) fun x2 =>
      Option.bind (r01_weight k b1 x2) fun v4 =>
      if v3 != v4 then
        some (decide (v3 < v4))
      else
        go1 (wi64 (i1 + (1 : Int)))
    )
  else
    some (decide ((List.length v1 : Int) < (List.length v2 : Int)))
def r01_Less_b1 (k : Nat) (v1 : List ((Int × Int × Int × Bool × Unit))) (a1 : List UInt8) (v2 : List ((Int × Int × Int × Bool × Unit))) (b1 : List UInt8) (go1 : Int → Option Bool) (i1 : Int) : Option Bool :=
  r01_Less_j1 k v1 i1 a1 v2 b1 go1 (decide (i1 < (List.length v1 : Int)) && (decide (i1 < (List.length v2 : Int))))
def r01_Less_l1 (k : Nat) (v1 : List ((Int × Int × Int × Bool × Unit))) (a1 : List UInt8) (v2 : List ((Int × Int × Int × Bool × Unit))) (b1 : List UInt8) : Nat → Int → Option Bool
  | 0, _ => none
  | n + 1, i1 => r01_Less_b1 k v1 a1 v2 b1 (r01_Less_l1 k v1 a1 v2 b1 n) i1
/-- cognate/cognateref01.Less -/
def r01_Less (k : Nat) (a1 : List UInt8) (b1 : List UInt8) : Option Bool :=
  Option.bind (r01_All k a1) fun v1 =>
  Option.bind (r01_All k b1) fun v2 =>
  r01_Less_l1 k v1 a1 v2 b1 k (0 : Int)

def l01_RunesRow_j2  (t2 : Bool) : Option Bool :=
  some (t2)
def l01_RunesRow_j1 (k : Nat) (a1 : List UInt8) (b1 : List UInt8) (t1 : Bool) : Option Bool :=
  if t1 then
    some (true)
  else
    (
      Option.bind (runes_Less k a1 b1) fun v1 =>
      Option.bind (r01_Less k a1 b1) fun v2 =>
      if v1 == v2 then
        (
          Option.bind (runes_Less k b1 a1) fun v3 =>
          Option.bind (r01_Less k b1 a1) fun v4 =>
          l01_RunesRow_j2 (v3 == v4)
        )
      else
        l01_RunesRow_j2 false
    )
/-- cognate/cognatelaw01.RunesRow -/
def l01_RunesRow (k : Nat) (a1 : List UInt8) (b1 : List UInt8) : Option Bool :=
  l01_RunesRow_j1 k a1 b1 (decide ((5000 : Int) < (List.length a1 : Int)) || (decide ((5000 : Int) < (List.length b1 : Int))))

end Go.Ev
