/- Shallow functions, by program. -/
import Derived.Test.YtciikbiapmbocaaDoorEvS
import Derived.Test.YtciikbiapmbocaaDoorLibS
import Derived.Test.YtciikbiapmbocaaDoorShRu1
namespace Go.Ev
open Go
set_option linter.unusedVariables false

def l01_long_j2  (t2 : Bool) : Option Bool :=
  some (t2)
def l01_long_j1 (s1 : List UInt8) (t1 : Bool) : Option Bool :=
  l01_long_j2 (t1 || (decide ((66000 : Int) < (List.length s1 : Int))))
/-- cognate/cognatelaw01.long -/
def l01_long (k : Nat) (s1 : List UInt8) : Option Bool :=
  l01_long_j1 s1 (decide ((3000 : Int) < (List.length s1 : Int)) && (decide ((List.length s1 : Int) ≤ (65536 : Int))))

/-- cognate/runes.long -/
def runes_long (k : Nat) (s1 : List UInt8) : Option Int :=
  if decide ((65536 : Int) < (List.length s1 : Int)) then
    some ((3 : Int))
  else
    some ((0 : Int))

def unicode_utf8_RuneLen_j1 (r1 : Int) (t1 : Bool) : Option Int :=
  if t1 then
    some ((-1 : Int))
  else
    (
      if decide (r1 ≤ (65535 : Int)) then
        some ((3 : Int))
      else
        (
          if decide (r1 ≤ (1114111 : Int)) then
            some ((4 : Int))
          else
            some ((-1 : Int))
        )
    )
/-- unicode/utf8.RuneLen -/
def unicode_utf8_RuneLen (k : Nat) (r1 : Int) : Option Int :=
  if decide (r1 < (0 : Int)) then
    some ((-1 : Int))
  else
    (
      if decide (r1 ≤ (127 : Int)) then
        some ((1 : Int))
      else
        (
          if decide (r1 ≤ (2047 : Int)) then
            some ((2 : Int))
          else
            unicode_utf8_RuneLen_j1 r1 (decide ((55296 : Int) ≤ r1) && (decide (r1 ≤ (57343 : Int))))
        )
    )

/-- cognate/runes.Pieces.1 -/
def runes_Pieces_c1_i1 (k : Nat) (p1 : (Int × Int × Int × Bool × Unit)) (l1 : List ((Int × Int × Int × Bool × Unit))) : Option (Bool × List ((Int × Int × Int × Bool × Unit))) :=
  Option.bind (chk (List.length l1 + List.length ([(p1.1, p1.2.1, p1.2.2.1, p1.2.2.2.1, ())] : List ((Int × Int × Int × Bool × Unit))) ≤ lim)) fun _ =>
  some (true, l1 ++ ([(p1.1, p1.2.1, p1.2.2.1, p1.2.2.2.1, ())] : List ((Int × Int × Int × Bool × Unit))))

def runes_each_i1_j1 (k : Nat) (s1 : List UInt8) (pos1 : Nat) (t2 : List ((Int × Int × Int × Bool × Unit))) (go1 : Nat → (List ((Int × Int × Int × Bool × Unit))) → Option (List ((Int × Int × Int × Bool × Unit)))) (p1 : Int) (p2 : Bool) : Option (List ((Int × Int × Int × Bool × Unit))) :=
  Option.bind (runes_Pieces_c1_i1 k (runeAt s1 pos1, (pos1 : Int), p1, p2, ()) t2) fun v2 =>
  if !v2.1 then
    some v2.2
  else
    go1 (pos1 + widthAt s1 pos1) v2.2
def runes_each_i1_b1 (k : Nat) (s1 : List UInt8) (go1 : Nat → (List ((Int × Int × Int × Bool × Unit))) → Option (List ((Int × Int × Int × Bool × Unit)))) (pos1 : Nat) (t2 : List ((Int × Int × Int × Bool × Unit))) : Option (List ((Int × Int × Int × Bool × Unit))) :=
  if decide (pos1 < List.length s1) then
    (
      Option.bind (unicode_utf8_RuneLen k (runeAt s1 pos1)) fun v1 =>
      if (runeAt s1 pos1) == (65533 : Int) then
        (
          Option.bind (sub? s1 (pos1 : Int) (s1.length : Int)) fun s2 =>
          Option.bind (utf8_DecodeRuneInString k s2) fun v3 =>
          if v3.2 == (1 : Int) then
            runes_each_i1_j1 k s1 pos1 t2 go1 (1 : Int) true
          else
            runes_each_i1_j1 k s1 pos1 t2 go1 v1 false
        )
      else
        runes_each_i1_j1 k s1 pos1 t2 go1 v1 false
    )
  else
    some t2
def runes_each_i1_l1 (k : Nat) (s1 : List UInt8) : Nat → Nat → (List ((Int × Int × Int × Bool × Unit))) → Option (List ((Int × Int × Int × Bool × Unit)))
  | 0, _, _ => none
  | n + 1, pos1, t2 => runes_each_i1_b1 k s1 (runes_each_i1_l1 k s1 n) pos1 t2
/-- cognate/runes.each -/
def runes_each_i1 (k : Nat) (s1 : List UInt8) (l1 : List ((Int × Int × Int × Bool × Unit))) : Option (List ((Int × Int × Int × Bool × Unit))) :=
  runes_each_i1_l1 k s1 k 0 l1

/-- cognate/runes.Pieces -/
def runes_Pieces_i1 (k : Nat) (s1 : List UInt8) : Option (Int × List ((Int × Int × Int × Bool × Unit))) :=
  Option.bind (runes_long k s1) fun v1 =>
  if v1 != (0 : Int) then
    some (v1, ([] : List ((Int × Int × Int × Bool × Unit))))
  else
    (
      Option.bind (runes_each_i1 k s1 ([] : List ((Int × Int × Int × Bool × Unit)))) fun v2 =>
      some ((0 : Int), v2)
    )

/-- cognate/cognateref01.Pieces -/
def r01_Pieces (k : Nat) (s1 : List UInt8) : Option (List ((Int × Int × Int × Bool × Unit)) × Int) :=
  if decide ((65536 : Int) < (List.length s1 : Int)) then
    some (([] : List ((Int × Int × Int × Bool × Unit))), (3 : Int))
  else
    (
      Option.bind (r01_All k s1) fun v1 =>
      some (v1, (0 : Int))
    )

def unicode_utf8_RuneCountInString_b1 (s1 : List UInt8) (go1 : Int → Nat → Option Int) (n1 : Int) (pos1 : Nat) : Option Int :=
  if decide (pos1 < List.length s1) then
    go1 (wi64 (n1 + (1 : Int))) (pos1 + widthAt s1 pos1)
  else
    some (n1)
def unicode_utf8_RuneCountInString_l1 (s1 : List UInt8) : Nat → Int → Nat → Option Int
  | 0, _, _ => none
  | n + 1, n1, pos1 => unicode_utf8_RuneCountInString_b1 s1 (unicode_utf8_RuneCountInString_l1 s1 n) n1 pos1
/-- unicode/utf8.RuneCountInString -/
def unicode_utf8_RuneCountInString (k : Nat) (s1 : List UInt8) : Option Int :=
  unicode_utf8_RuneCountInString_l1 s1 k (0 : Int) 0

/-- cognate/runes.Len -/
def runes_Len (k : Nat) (s1 : List UInt8) : Option (Int × Int) :=
  Option.bind (runes_long k s1) fun v1 =>
  if v1 != (0 : Int) then
    some ((0 : Int), v1)
  else
    (
      Option.bind (unicode_utf8_RuneCountInString k s1) fun v2 =>
      some (v2, (0 : Int))
    )

/-- cognate/cognateref01.Len -/
def r01_Len (k : Nat) (s1 : List UInt8) : Option (Int × Int) :=
  Option.bind (r01_Pieces k s1) fun v1 =>
  some ((List.length v1.1 : Int), v1.2)

def runes_Broken_c1_i1_j1  (t2 : Int) : Option (Bool × Int) :=
  some (decide (t2 < (0 : Int)), t2)
/-- cognate/runes.Broken.1 -/
def runes_Broken_c1_i1 (k : Nat) (p1 : (Int × Int × Int × Bool × Unit)) (c1 : Int) : Option (Bool × Int) :=
  if p1.2.2.2.1 then
    runes_Broken_c1_i1_j1 p1.2.1
  else
    runes_Broken_c1_i1_j1 c1

def runes_each_i2_j1 (k : Nat) (s1 : List UInt8) (pos1 : Nat) (t2 : Int) (go1 : Nat → Int → Option Int) (p1 : Int) (p2 : Bool) : Option Int :=
  Option.bind (runes_Broken_c1_i1 k (runeAt s1 pos1, (pos1 : Int), p1, p2, ()) t2) fun v2 =>
  if !v2.1 then
    some v2.2
  else
    go1 (pos1 + widthAt s1 pos1) v2.2
def runes_each_i2_b1 (k : Nat) (s1 : List UInt8) (go1 : Nat → Int → Option Int) (pos1 : Nat) (t2 : Int) : Option Int :=
  if decide (pos1 < List.length s1) then
    (
      Option.bind (unicode_utf8_RuneLen k (runeAt s1 pos1)) fun v1 =>
      if (runeAt s1 pos1) == (65533 : Int) then
        (
          Option.bind (sub? s1 (pos1 : Int) (s1.length : Int)) fun s2 =>
          Option.bind (utf8_DecodeRuneInString k s2) fun v3 =>
          if v3.2 == (1 : Int) then
            runes_each_i2_j1 k s1 pos1 t2 go1 (1 : Int) true
          else
            runes_each_i2_j1 k s1 pos1 t2 go1 v1 false
        )
      else
        runes_each_i2_j1 k s1 pos1 t2 go1 v1 false
    )
  else
    some t2
def runes_each_i2_l1 (k : Nat) (s1 : List UInt8) : Nat → Nat → Int → Option Int
  | 0, _, _ => none
  | n + 1, pos1, t2 => runes_each_i2_b1 k s1 (runes_each_i2_l1 k s1 n) pos1 t2
/-- cognate/runes.each -/
def runes_each_i2 (k : Nat) (s1 : List UInt8) (c1 : Int) : Option Int :=
  runes_each_i2_l1 k s1 k 0 c1

/-- cognate/runes.Broken -/
def runes_Broken (k : Nat) (s1 : List UInt8) : Option (Int × Int) :=
  Option.bind (runes_long k s1) fun v1 =>
  if v1 != (0 : Int) then
    some ((0 : Int), v1)
  else
    (
      Option.bind (runes_each_i2 k s1 (-1 : Int)) fun v2 =>
      some (v2, (0 : Int))
    )

def r01_Broken_b1 (v1 : (List ((Int × Int × Int × Bool × Unit)) × Int)) (go1 : Int → Option (Int × Int)) (i1 : Int) : Option (Int × Int) :=
  if decide (i1 < (List.length v1.1 : Int)) then
    (
      Option.bind (at? v1.1 i1) fun x1 =>
      if x1.2.2.2.1 then
        some (x1.2.1, (0 : Int))
      else
        go1 (wi64 (i1 + (1 : Int)))
    )
  else
    some ((-1 : Int), (0 : Int))
def r01_Broken_l1 (v1 : (List ((Int × Int × Int × Bool × Unit)) × Int)) : Nat → Int → Option (Int × Int)
  | 0, _ => none
  | n + 1, i1 => r01_Broken_b1 v1 (r01_Broken_l1 v1 n) i1
/-- cognate/cognateref01.Broken -/
def r01_Broken (k : Nat) (s1 : List UInt8) : Option (Int × Int) :=
  Option.bind (r01_Pieces k s1) fun v1 =>
  if v1.2 != (0 : Int) then
    some ((0 : Int), v1.2)
  else
    r01_Broken_l1 v1 k (0 : Int)

/-- cognate/runes.Pieces -/
def runes_Pieces (k : Nat) (s1 : List UInt8) : Option (List ((Int × Int × Int × Bool × Unit)) × Int) :=
  Option.bind (runes_long k s1) fun v1 =>
  if v1 != (0 : Int) then
    some (([] : List ((Int × Int × Int × Bool × Unit))), v1)
  else
    (
      Option.bind (runes_each_i1 k s1 ([] : List ((Int × Int × Int × Bool × Unit)))) fun v2 =>
      some (v2, (0 : Int))
    )

/-- cognate/runes.Part.1 -/
def runes_Part_c1 (k : Nat) (i1 : Int) (t1 : List ((Int × Int × Int × Bool × Unit))) (t2 : List UInt8) : Option Int :=
  if i1 == (List.length t1 : Int) then
    some ((List.length t2 : Int))
  else
    (
      Option.bind (at? t1 i1) fun x1 =>
      some (x1.2.1)
    )

def runes_Part_j2 (k : Nat) (from1 : Int) (v1 : (List ((Int × Int × Int × Bool × Unit)) × Int)) (s1 : List UInt8) (to1 : Int) (t2 : Bool) : Option (List UInt8 × Int) :=
  if t2 then
    some (([] : List UInt8), (10 : Int))
  else
    (
      Option.bind (runes_Part_c1 k from1 v1.1 s1) fun v2 =>
      Option.bind (runes_Part_c1 k to1 v1.1 s1) fun v3 =>
      Option.bind (sub? s1 v2 v3) fun s2 =>
      some (s2, (0 : Int))
    )
def runes_Part_j1 (k : Nat) (from1 : Int) (v1 : (List ((Int × Int × Int × Bool × Unit)) × Int)) (s1 : List UInt8) (to1 : Int) (t1 : Bool) : Option (List UInt8 × Int) :=
  runes_Part_j2 k from1 v1 s1 to1 (t1 || (decide ((List.length v1.1 : Int) < to1)))
/-- cognate/runes.Part -/
def runes_Part (k : Nat) (s1 : List UInt8) (from1 : Int) (to1 : Int) : Option (List UInt8 × Int) :=
  Option.bind (runes_Pieces k s1) fun v1 =>
  if v1.2 != (0 : Int) then
    some (([] : List UInt8), v1.2)
  else
    runes_Part_j1 k from1 v1 s1 to1 (decide (from1 < (0 : Int)) || (decide (to1 < from1)))

def r01_Part_b1 (to1 : Int) (v1 : (List ((Int × Int × Int × Bool × Unit)) × Int)) (s1 : List UInt8) (go1 : Int → (List (Int)) → Option (List UInt8 × Int)) (i1 : Int) (out1 : List (Int)) : Option (List UInt8 × Int) :=
  if decide (i1 < to1) then
    (
      Option.bind (at? v1.1 i1) fun x1 =>
      Option.bind (sub? s1 x1.2.1 (wi64 (x1.2.1 + x1.2.2.1))) fun s2 =>
      Option.bind (chk (List.length out1 + List.length (bytesEl s2) ≤ lim)) fun _ =>
      go1 (wi64 (i1 + (1 : Int))) (out1 ++ (bytesEl s2))
    )
  else
    some (bytesStr out1, (0 : Int))
def r01_Part_l1 (to1 : Int) (v1 : (List ((Int × Int × Int × Bool × Unit)) × Int)) (s1 : List UInt8) : Nat → Int → (List (Int)) → Option (List UInt8 × Int)
  | 0, _, _ => none
  | n + 1, i1, out1 => r01_Part_b1 to1 v1 s1 (r01_Part_l1 to1 v1 s1 n) i1 out1
def r01_Part_j2 (k : Nat) (to1 : Int) (v1 : (List ((Int × Int × Int × Bool × Unit)) × Int)) (s1 : List UInt8) (from1 : Int) (t2 : Bool) : Option (List UInt8 × Int) :=
  if t2 then
    some (([] : List UInt8), (10 : Int))
  else
    r01_Part_l1 to1 v1 s1 k from1 ([] : List (Int))
def r01_Part_j1 (k : Nat) (to1 : Int) (v1 : (List ((Int × Int × Int × Bool × Unit)) × Int)) (s1 : List UInt8) (from1 : Int) (t1 : Bool) : Option (List UInt8 × Int) :=
  r01_Part_j2 k to1 v1 s1 from1 (t1 || (decide ((List.length v1.1 : Int) < to1)))
/-- cognate/cognateref01.Part -/
def r01_Part (k : Nat) (s1 : List UInt8) (from1 : Int) (to1 : Int) : Option (List UInt8 × Int) :=
  Option.bind (r01_Pieces k s1) fun v1 =>
  if v1.2 != (0 : Int) then
    some (([] : List UInt8), v1.2)
  else
    r01_Part_j1 k to1 v1 s1 from1 (decide (from1 < (0 : Int)) || (decide (to1 < from1)))

/-- cognate/runes.Back -/
def runes_Back (k : Nat) (s1 : List UInt8) : Option (List UInt8 × Int) :=
  Option.bind (runes_long k s1) fun v1 =>
  if v1 != (0 : Int) then
    some (([] : List UInt8), v1)
  else
    (
      Option.bind (chk (List.length s1 ≤ lim)) fun _ =>
      Option.bind (chk (List.length (runesStr (strRunes s1)) ≤ lim)) fun _ =>
      some (runesStr (strRunes s1), (0 : Int))
    )

def r01_one_j1  (r2 : Int) : Option (List (Int)) :=
  if decide (r2 < (128 : Int)) then
    some (([wu8 r2] : List (Int)))
  else
    (
      if decide (r2 < (2048 : Int)) then
        (
          Option.bind (chk ((64 : Int) ≠ 0)) fun _ =>
          Option.bind (chk ((64 : Int) ≠ 0)) fun _ =>
          some (([wu8 (wi32 ((192 : Int) + (wi32 (Int.tdiv r2 (64 : Int))))), wu8 (wi32 ((128 : Int) + (Int.tmod r2 (64 : Int))))] : List (Int)))
        )
      else
        (
          if decide (r2 < (65536 : Int)) then
            (
              Option.bind (chk ((4096 : Int) ≠ 0)) fun _ =>
              Option.bind (chk ((64 : Int) ≠ 0)) fun _ =>
              Option.bind (chk ((64 : Int) ≠ 0)) fun _ =>
              Option.bind (chk ((64 : Int) ≠ 0)) fun _ =>
              some (([wu8 (wi32 ((224 : Int) + (wi32 (Int.tdiv r2 (4096 : Int))))), wu8 (wi32 ((128 : Int) + (Int.tmod (wi32 (Int.tdiv r2 (64 : Int))) (64 : Int)))), wu8 (wi32 ((128 : Int) + (Int.tmod r2 (64 : Int))))] : List (Int)))
            )
          else
            (
              Option.bind (chk ((262144 : Int) ≠ 0)) fun _ =>
              Option.bind (chk ((4096 : Int) ≠ 0)) fun _ =>
              Option.bind (chk ((64 : Int) ≠ 0)) fun _ =>
              Option.bind (chk ((64 : Int) ≠ 0)) fun _ =>
              Option.bind (chk ((64 : Int) ≠ 0)) fun _ =>
              Option.bind (chk ((64 : Int) ≠ 0)) fun _ =>
              some (([wu8 (wi32 ((240 : Int) + (wi32 (Int.tdiv r2 (262144 : Int))))), wu8 (wi32 ((128 : Int) + (Int.tmod (wi32 (Int.tdiv r2 (4096 : Int))) (64 : Int)))), wu8 (wi32 ((128 : Int) + (Int.tmod (wi32 (Int.tdiv r2 (64 : Int))) (64 : Int)))), wu8 (wi32 ((128 : Int) + (Int.tmod r2 (64 : Int))))] : List (Int)))
            )
        )
    )
/-- cognate/cognateref01.one -/
def r01_one (k : Nat) (r1 : Int) : Option (List (Int)) :=
  Option.bind (r01_Rune k r1) fun v1 =>
  if !v1 then
    r01_one_j1 (65533 : Int)
  else
    r01_one_j1 r1

def r01_Back_b1 (k : Nat) (v1 : (List ((Int × Int × Int × Bool × Unit)) × Int)) (go1 : Int → (List (Int)) → Option (List UInt8 × Int)) (i1 : Int) (out1 : List (Int)) : Option (List UInt8 × Int) :=
  if decide (i1 < (List.length v1.1 : Int)) then
    (
      Option.bind (at? v1.1 i1) fun x1 =>
      Option.bind (r01_one k x1.1) fun v2 =>
      Option.bind (chk (List.length out1 + List.length v2 ≤ lim)) fun _ =>
      go1 (wi64 (i1 + (1 : Int))) (out1 ++ v2)
    )
  else
    some (bytesStr out1, (0 : Int))
def r01_Back_l1 (k : Nat) (v1 : (List ((Int × Int × Int × Bool × Unit)) × Int)) : Nat → Int → (List (Int)) → Option (List UInt8 × Int)
  | 0, _, _ => none
  | n + 1, i1, out1 => r01_Back_b1 k v1 (r01_Back_l1 k v1 n) i1 out1
/-- cognate/cognateref01.Back -/
def r01_Back (k : Nat) (s1 : List UInt8) : Option (List UInt8 × Int) :=
  Option.bind (r01_Pieces k s1) fun v1 =>
  if v1.2 != (0 : Int) then
    some (([] : List UInt8), v1.2)
  else
    r01_Back_l1 k v1 k (0 : Int) ([] : List (Int))

def r01_Same_b1 (a1 : List ((Int × Int × Int × Bool × Unit))) (b1 : List ((Int × Int × Int × Bool × Unit))) (go1 : Int → Option Bool) (i1 : Int) : Option Bool :=
  if decide (i1 < (List.length a1 : Int)) then
    (
      Option.bind (at? a1 i1) fun x1 =>
      Option.bind (at? b1 i1) fun x2 =>
      if !((eqInt x1.1 x2.1) && ((eqInt x1.2.1 x2.2.1) && ((eqInt x1.2.2.1 x2.2.2.1) && ((eqBool x1.2.2.2.1 x2.2.2.2.1) && (true))))) then
        some (false)
      else
        go1 (wi64 (i1 + (1 : Int)))
    )
  else
    some (true)
def r01_Same_l1 (a1 : List ((Int × Int × Int × Bool × Unit))) (b1 : List ((Int × Int × Int × Bool × Unit))) : Nat → Int → Option Bool
  | 0, _ => none
  | n + 1, i1 => r01_Same_b1 a1 b1 (r01_Same_l1 a1 b1 n) i1
/-- cognate/cognateref01.Same -/
def r01_Same (k : Nat) (a1 : List ((Int × Int × Int × Bool × Unit))) (b1 : List ((Int × Int × Int × Bool × Unit))) : Option Bool :=
  if (List.length a1 : Int) != (List.length b1 : Int) then
    some (false)
  else
    r01_Same_l1 a1 b1 k (0 : Int)

def l01_RunesTexts_j10  (t11 : Bool) : Option Bool :=
  some (t11)
def l01_RunesTexts_b1 (k : Nat) (s1 : List UInt8) (v3 : (List ((Int × Int × Int × Bool × Unit)) × Int)) (go1 : Int → (List ((Int × Int × Int × Bool × Unit))) → Option Bool) (i1 : Int) (t10 : List ((Int × Int × Int × Bool × Unit))) : Option Bool :=
  if decide (i1 < (List.length t10 : Int)) then
    (
      Option.bind (at? t10 i1) fun x1 =>
      go1 (wi64 (i1 + (1 : Int))) (List.set t10 (i1).toNat ((77 : Int), (0 : Int), (0 : Int), false, ()))
    )
  else
    (
      Option.bind (runes_Pieces_i1 k s1) fun v12 =>
      if v12.1 == v3.2 then
        (
          Option.bind (r01_Same k v12.2 v3.1) fun v13 =>
          l01_RunesTexts_j10 v13
        )
      else
        l01_RunesTexts_j10 false
    )
def l01_RunesTexts_l1 (k : Nat) (s1 : List UInt8) (v3 : (List ((Int × Int × Int × Bool × Unit)) × Int)) : Nat → Int → (List ((Int × Int × Int × Bool × Unit))) → Option Bool
  | 0, _, _ => none
  | n + 1, i1, t10 => l01_RunesTexts_b1 k s1 v3 (l01_RunesTexts_l1 k s1 v3 n) i1 t10
def l01_RunesTexts_j9 (k : Nat) (s1 : List UInt8) (v3 : (List ((Int × Int × Int × Bool × Unit)) × Int)) (v2 : (Int × List ((Int × Int × Int × Bool × Unit)))) (t9 : Bool) : Option Bool :=
  if t9 then
    some (false)
  else
    l01_RunesTexts_l1 k s1 v3 k (0 : Int) v2.2
def l01_RunesTexts_j8 (k : Nat) (s1 : List UInt8) (v3 : (List ((Int × Int × Int × Bool × Unit)) × Int)) (v2 : (Int × List ((Int × Int × Int × Bool × Unit)))) (t8 : Bool) : Option Bool :=
  if t8 then
    l01_RunesTexts_j9 k s1 v3 v2 true
  else
    (
      Option.bind (r01_Same k v2.2 v3.1) fun v14 =>
      l01_RunesTexts_j9 k s1 v3 v2 (!v14)
    )
def l01_RunesTexts_j7 (k : Nat) (s1 : List UInt8) (v3 : (List ((Int × Int × Int × Bool × Unit)) × Int)) (v2 : (Int × List ((Int × Int × Int × Bool × Unit)))) (v10 : (List UInt8 × Int)) (v11 : (List UInt8 × Int)) (t7 : Bool) : Option Bool :=
  l01_RunesTexts_j8 k s1 v3 v2 (t7 || (!(v10.1 == v11.1)))
def l01_RunesTexts_j6 (k : Nat) (s1 : List UInt8) (v3 : (List ((Int × Int × Int × Bool × Unit)) × Int)) (v2 : (Int × List ((Int × Int × Int × Bool × Unit)))) (v10 : (List UInt8 × Int)) (v11 : (List UInt8 × Int)) (v8 : (List UInt8 × Int)) (v9 : (List UInt8 × Int)) (t6 : Bool) : Option Bool :=
  l01_RunesTexts_j7 k s1 v3 v2 v10 v11 (t6 || (!(v8.1 == v9.1)))
def l01_RunesTexts_j5 (k : Nat) (s1 : List UInt8) (v3 : (List ((Int × Int × Int × Bool × Unit)) × Int)) (v2 : (Int × List ((Int × Int × Int × Bool × Unit)))) (v10 : (List UInt8 × Int)) (v11 : (List UInt8 × Int)) (v8 : (List UInt8 × Int)) (v9 : (List UInt8 × Int)) (v6 : (Int × Int)) (v7 : (Int × Int)) (t5 : Bool) : Option Bool :=
  l01_RunesTexts_j6 k s1 v3 v2 v10 v11 v8 v9 (t5 || (v6.1 != v7.1))
def l01_RunesTexts_j4 (k : Nat) (s1 : List UInt8) (v3 : (List ((Int × Int × Int × Bool × Unit)) × Int)) (v2 : (Int × List ((Int × Int × Int × Bool × Unit)))) (v10 : (List UInt8 × Int)) (v11 : (List UInt8 × Int)) (v8 : (List UInt8 × Int)) (v9 : (List UInt8 × Int)) (v6 : (Int × Int)) (v7 : (Int × Int)) (v4 : (Int × Int)) (v5 : (Int × Int)) (t4 : Bool) : Option Bool :=
  l01_RunesTexts_j5 k s1 v3 v2 v10 v11 v8 v9 v6 v7 (t4 || (v4.1 != v5.1))
def l01_RunesTexts_j3 (k : Nat) (s1 : List UInt8) (v3 : (List ((Int × Int × Int × Bool × Unit)) × Int)) (v2 : (Int × List ((Int × Int × Int × Bool × Unit)))) (v10 : (List UInt8 × Int)) (v11 : (List UInt8 × Int)) (v8 : (List UInt8 × Int)) (v9 : (List UInt8 × Int)) (v6 : (Int × Int)) (v7 : (Int × Int)) (v4 : (Int × Int)) (v5 : (Int × Int)) (t3 : Bool) : Option Bool :=
  l01_RunesTexts_j4 k s1 v3 v2 v10 v11 v8 v9 v6 v7 v4 v5 (t3 || (v10.2 != v11.2))
def l01_RunesTexts_j2 (k : Nat) (s1 : List UInt8) (v3 : (List ((Int × Int × Int × Bool × Unit)) × Int)) (v2 : (Int × List ((Int × Int × Int × Bool × Unit)))) (v10 : (List UInt8 × Int)) (v11 : (List UInt8 × Int)) (v8 : (List UInt8 × Int)) (v9 : (List UInt8 × Int)) (v6 : (Int × Int)) (v7 : (Int × Int)) (v4 : (Int × Int)) (v5 : (Int × Int)) (t2 : Bool) : Option Bool :=
  l01_RunesTexts_j3 k s1 v3 v2 v10 v11 v8 v9 v6 v7 v4 v5 (t2 || (v8.2 != v9.2))
def l01_RunesTexts_j1 (k : Nat) (s1 : List UInt8) (v3 : (List ((Int × Int × Int × Bool × Unit)) × Int)) (v2 : (Int × List ((Int × Int × Int × Bool × Unit)))) (v10 : (List UInt8 × Int)) (v11 : (List UInt8 × Int)) (v8 : (List UInt8 × Int)) (v9 : (List UInt8 × Int)) (v6 : (Int × Int)) (v7 : (Int × Int)) (v4 : (Int × Int)) (v5 : (Int × Int)) (t1 : Bool) : Option Bool :=
  l01_RunesTexts_j2 k s1 v3 v2 v10 v11 v8 v9 v6 v7 v4 v5 (t1 || (v6.2 != v7.2))
/-- cognate/cognatelaw01.RunesTexts -/
def l01_RunesTexts (k : Nat) (s1 : List UInt8) (from1 : Int) (to1 : Int) : Option Bool :=
  Option.bind (l01_long k s1) fun v1 =>
  if v1 then
    some (true)
  else
    (
      Option.bind (runes_Pieces_i1 k s1) fun v2 =>
      Option.bind (r01_Pieces k s1) fun v3 =>
      Option.bind (runes_Len k s1) fun v4 =>
      Option.bind (r01_Len k s1) fun v5 =>
      Option.bind (runes_Broken k s1) fun v6 =>
      Option.bind (r01_Broken k s1) fun v7 =>
      Option.bind (runes_Part k s1 from1 to1) fun v8 =>
      Option.bind (r01_Part k s1 from1 to1) fun v9 =>
      Option.bind (runes_Back k s1) fun v10 =>
      Option.bind (r01_Back k s1) fun v11 =>
      l01_RunesTexts_j1 k s1 v3 v2 v10 v11 v8 v9 v6 v7 v4 v5 ((v2.1 != v3.2) || (v4.2 != v5.2))
    )

end Go.Ev
