/- Shallow functions, by program. -/
import Derived.Test.YtciikbiapmbocaaDoorEvS
import Derived.Test.YtciikbiapmbocaaDoorLibS
import Derived.Test.YtciikbiapmbocaaDoorShRu1
import Derived.Test.YtciikbiapmbocaaDoorShRu2
namespace Go.Ev
open Go
set_option linter.unusedVariables false

/-- (*strings.Builder).WriteByte -/
def strings_Builder_WriteByte_i1 (k : Nat) (c1 : Int) (l1 : List (Int)) : Option (Option (Option (Nat × Int)) × List (Int)) :=
  Option.bind (bld_copyCheck k l1) fun v1 =>
  Option.bind (chk (List.length l1 + List.length ([c1] : List (Int)) ≤ lim)) fun _ =>
  some ((none : Option (Option (Nat × Int))), l1 ++ ([c1] : List (Int)))

/-- internal/strconv.isPowerOfTwo -/
def internal_strconv_isPowerOfTwo_16 (k : Nat)  : Option Bool :=
  some (true)

def internal_strconv_formatBits_16_false_false_j1  (i1 : Int) (d1 : List (Int)) (a1 : List (Int)) : Option (List (Int) × List UInt8) :=
  Option.bind (sub? a1 i1 (a1.length : Int)) fun s1 =>
  Option.bind (chk (List.length a1 = 65)) fun _ =>
  some (d1, bytesStr s1)
def internal_strconv_formatBits_16_false_false_b1  (go1 : Int → Int → (List (Int)) → Option (List (Int) × List UInt8)) (u2 : Int) (i2 : Int) (a2 : List (Int)) : Option (List (Int) × List UInt8) :=
  if decide ((16 : Int) ≤ u2) then
    (
      Option.bind (byteAt ([48, 49, 50, 51, 52, 53, 54, 55, 56, 57, 97, 98, 99, 100, 101, 102, 103, 104, 105, 106, 107, 108, 109, 110, 111, 112, 113, 114, 115, 116, 117, 118, 119, 120, 121, 122] : List UInt8) (wu64 (BitVec.toNat (BitVec.ofInt 64 u2 &&& BitVec.ofInt 64 (15 : Int))))) fun b1 =>
      Option.bind (at? a2 (wi64 (i2 - (1 : Int)))) fun x1 =>
      Option.bind (chk (List.length a2 = 65)) fun _ =>
      Option.bind (chk (0 ≤ (4 : Int))) fun _ =>
      go1 (Int.fdiv u2 (2 ^ min ((4 : Int)).toNat 64)) (wi64 (i2 - (1 : Int))) (List.set a2 (wi64 (i2 - (1 : Int))).toNat b1)
    )
  else
    (
      Option.bind (byteAt ([48, 49, 50, 51, 52, 53, 54, 55, 56, 57, 97, 98, 99, 100, 101, 102, 103, 104, 105, 106, 107, 108, 109, 110, 111, 112, 113, 114, 115, 116, 117, 118, 119, 120, 121, 122] : List UInt8) u2) fun b2 =>
      Option.bind (at? a2 (wi64 (i2 - (1 : Int)))) fun x2 =>
      Option.bind (chk (List.length a2 = 65)) fun _ =>
      internal_strconv_formatBits_16_false_false_j1 (wi64 (i2 - (1 : Int))) ([] : List (Int)) (List.set a2 (wi64 (i2 - (1 : Int))).toNat b2)
    )
def internal_strconv_formatBits_16_false_false_l1  : Nat → Int → Int → (List (Int)) → Option (List (Int) × List UInt8)
  | 0, _, _, _ => none
  | n + 1, u2, i2, a2 => internal_strconv_formatBits_16_false_false_b1 (internal_strconv_formatBits_16_false_false_l1 n) u2 i2 a2
/-- internal/strconv.formatBits -/
def internal_strconv_formatBits_16_false_false (k : Nat) (dst1 : List (Int)) (u1 : Int) : Option (List (Int) × List UInt8) :=
  internal_strconv_formatBits_16_false_false_l1 k u1 (65 : Int) (List.replicate 65 (0 : Int))

/-- internal/strconv.FormatUint -/
def internal_strconv_FormatUint_16 (k : Nat) (i1 : Int) : Option (List UInt8) :=
  Option.bind (internal_strconv_formatBits_16_false_false k ([] : List (Int)) i1) fun v1 =>
  some (v1.2)

/-- strconv.FormatUint -/
def strconv_FormatUint_16 (k : Nat) (i1 : Int) : Option (List UInt8) :=
  Option.bind (internal_strconv_FormatUint_16 k i1) fun v1 =>
  some (v1)

def internal_strconv_formatBits_16_false_j3 (d1 : List (Int)) (i2 : Int) (a2 : List (Int)) : Option (List (Int) × List UInt8) :=
  Option.bind (sub? a2 i2 (a2.length : Int)) fun s1 =>
  Option.bind (chk (List.length a2 = 65)) fun _ =>
  some (d1, bytesStr s1)
def internal_strconv_formatBits_16_false_j2 (neg1 : Bool) (i1 : Int) (d1 : List (Int)) (a1 : List (Int)) : Option (List (Int) × List UInt8) :=
  if neg1 then
    (
      Option.bind (at? a1 (wi64 (i1 - (1 : Int)))) fun x1 =>
      Option.bind (chk (List.length a1 = 65)) fun _ =>
      internal_strconv_formatBits_16_false_j3 d1 (wi64 (i1 - (1 : Int))) (List.set a1 (wi64 (i1 - (1 : Int))).toNat (45 : Int))
    )
  else
    internal_strconv_formatBits_16_false_j3 d1 i1 a1
def internal_strconv_formatBits_16_false_b1 (neg1 : Bool) (go1 : Int → Int → (List (Int)) → Option (List (Int) × List UInt8)) (u3 : Int) (i3 : Int) (a3 : List (Int)) : Option (List (Int) × List UInt8) :=
  if decide ((16 : Int) ≤ u3) then
    (
      Option.bind (byteAt ([48, 49, 50, 51, 52, 53, 54, 55, 56, 57, 97, 98, 99, 100, 101, 102, 103, 104, 105, 106, 107, 108, 109, 110, 111, 112, 113, 114, 115, 116, 117, 118, 119, 120, 121, 122] : List UInt8) (wu64 (BitVec.toNat (BitVec.ofInt 64 u3 &&& BitVec.ofInt 64 (15 : Int))))) fun b1 =>
      Option.bind (at? a3 (wi64 (i3 - (1 : Int)))) fun x2 =>
      Option.bind (chk (List.length a3 = 65)) fun _ =>
      Option.bind (chk (0 ≤ (4 : Int))) fun _ =>
      go1 (Int.fdiv u3 (2 ^ min ((4 : Int)).toNat 64)) (wi64 (i3 - (1 : Int))) (List.set a3 (wi64 (i3 - (1 : Int))).toNat b1)
    )
  else
    (
      Option.bind (byteAt ([48, 49, 50, 51, 52, 53, 54, 55, 56, 57, 97, 98, 99, 100, 101, 102, 103, 104, 105, 106, 107, 108, 109, 110, 111, 112, 113, 114, 115, 116, 117, 118, 119, 120, 121, 122] : List UInt8) u3) fun b2 =>
      Option.bind (at? a3 (wi64 (i3 - (1 : Int)))) fun x3 =>
      Option.bind (chk (List.length a3 = 65)) fun _ =>
      internal_strconv_formatBits_16_false_j2 neg1 (wi64 (i3 - (1 : Int))) ([] : List (Int)) (List.set a3 (wi64 (i3 - (1 : Int))).toNat b2)
    )
def internal_strconv_formatBits_16_false_l1 (neg1 : Bool) : Nat → Int → Int → (List (Int)) → Option (List (Int) × List UInt8)
  | 0, _, _, _ => none
  | n + 1, u3, i3, a3 => internal_strconv_formatBits_16_false_b1 neg1 (internal_strconv_formatBits_16_false_l1 neg1 n) u3 i3 a3
def internal_strconv_formatBits_16_false_j1 (k : Nat) (neg1 : Bool) (u2 : Int) : Option (List (Int) × List UInt8) :=
  internal_strconv_formatBits_16_false_l1 neg1 k u2 (65 : Int) (List.replicate 65 (0 : Int))
/-- internal/strconv.formatBits -/
def internal_strconv_formatBits_16_false (k : Nat) (dst1 : List (Int)) (u1 : Int) (neg1 : Bool) : Option (List (Int) × List UInt8) :=
  if neg1 then
    internal_strconv_formatBits_16_false_j1 k neg1 (negI .u64 u1)
  else
    internal_strconv_formatBits_16_false_j1 k neg1 u1

/-- internal/strconv.FormatInt -/
def internal_strconv_FormatInt_16 (k : Nat) (i1 : Int) : Option (List UInt8) :=
  Option.bind (internal_strconv_formatBits_16_false k ([] : List (Int)) (wu64 i1) (decide (i1 < (0 : Int)))) fun v1 =>
  some (v1.2)

/-- strconv.FormatInt -/
def strconv_FormatInt_16 (k : Nat) (i1 : Int) : Option (List UInt8) :=
  Option.bind (internal_strconv_FormatInt_16 k i1) fun v1 =>
  some (v1)

def runes_shown_j2 (k : Nat) (b1 : Int) (p1 : (Int × Int × Int × Bool × Unit)) (t2 : Bool) : Option (List UInt8) :=
  if t2 then
    some ((Utf8.encode b1).data.toList)
  else
    (
      Option.bind (strconv_FormatInt_16 k (wi64 p1.1)) fun v2 =>
      Option.bind (chk (List.length ([92, 117] : List UInt8) + List.length v2 ≤ lim)) fun _ =>
      Option.bind (chk (List.length (([92, 117] : List UInt8) ++ v2) + List.length ([59] : List UInt8) ≤ lim)) fun _ =>
      some ((([92, 117] : List UInt8) ++ v2) ++ ([59] : List UInt8))
    )
def runes_shown_j1 (k : Nat) (b1 : Int) (p1 : (Int × Int × Int × Bool × Unit)) (t1 : Bool) : Option (List UInt8) :=
  if t1 then
    (
      Option.bind (chk (List.length ([92] : List UInt8) + List.length ((Utf8.encode b1).data.toList) ≤ lim)) fun _ =>
      some (([92] : List UInt8) ++ ((Utf8.encode b1).data.toList))
    )
  else
    runes_shown_j2 k b1 p1 (decide ((32 : Int) ≤ b1) && (decide (b1 < (127 : Int))))
/-- cognate/runes.shown -/
def runes_shown (k : Nat) (s1 : List UInt8) (p1 : (Int × Int × Int × Bool × Unit)) : Option (List UInt8) :=
  Option.bind (byteAt s1 p1.2.1) fun b1 =>
  if p1.2.2.2.1 then
    (
      Option.bind (strconv_FormatUint_16 k (wu64 b1)) fun v1 =>
      Option.bind (chk (List.length ([92, 120] : List UInt8) + List.length v1 ≤ lim)) fun _ =>
      some (([92, 120] : List UInt8) ++ v1)
    )
  else
    (
      if b1 == (34 : Int) then
        runes_shown_j1 k b1 p1 (b1 == (34 : Int))
      else
        runes_shown_j1 k b1 p1 (b1 == (92 : Int))
    )

/-- (*strings.Builder).WriteString -/
def strings_Builder_WriteString_i1 (k : Nat) (s1 : List UInt8) (l1 : List (Int)) : Option (Option (Option (Nat × Int)) × Int × List (Int)) :=
  Option.bind (bld_copyCheck k l1) fun v1 =>
  Option.bind (chk (List.length l1 + List.length (bytesEl s1) ≤ lim)) fun _ =>
  some ((none : Option (Option (Nat × Int))), (List.length s1 : Int), l1 ++ (bytesEl s1))

/-- cognate/runes.quote.1 -/
def runes_quote_c1_i1 (k : Nat) (p1 : (Int × Int × Int × Bool × Unit)) (c1 : List UInt8) (l1 : List (Int)) : Option (Bool × List (Int)) :=
  Option.bind (runes_shown k c1 (p1.1, p1.2.1, p1.2.2.1, p1.2.2.2.1, ())) fun v1 =>
  Option.bind (strings_Builder_WriteString_i1 k v1 l1) fun v2 =>
  some (true, v2.2.2)

def runes_each_i3_j1 (k : Nat) (s1 : List UInt8) (pos1 : Nat) (c1 : List UInt8) (t3 : List (Int)) (go1 : Nat → (List (Int)) → Option (List UInt8 × List (Int))) (p1 : Int) (p2 : Bool) : Option (List UInt8 × List (Int)) :=
  Option.bind (runes_quote_c1_i1 k (runeAt s1 pos1, (pos1 : Int), p1, p2, ()) c1 t3) fun v2 =>
  if !v2.1 then
    some (c1, v2.2)
  else
    go1 (pos1 + widthAt s1 pos1) v2.2
def runes_each_i3_b1 (k : Nat) (s1 : List UInt8) (c1 : List UInt8) (go1 : Nat → (List (Int)) → Option (List UInt8 × List (Int))) (pos1 : Nat) (t3 : List (Int)) : Option (List UInt8 × List (Int)) :=
  if decide (pos1 < List.length s1) then
    (
      Option.bind (unicode_utf8_RuneLen k (runeAt s1 pos1)) fun v1 =>
      if (runeAt s1 pos1) == (65533 : Int) then
        (
          Option.bind (sub? s1 (pos1 : Int) (s1.length : Int)) fun s2 =>
          Option.bind (utf8_DecodeRuneInString k s2) fun v3 =>
          if v3.2 == (1 : Int) then
            runes_each_i3_j1 k s1 pos1 c1 t3 go1 (1 : Int) true
          else
            runes_each_i3_j1 k s1 pos1 c1 t3 go1 v1 false
        )
      else
        runes_each_i3_j1 k s1 pos1 c1 t3 go1 v1 false
    )
  else
    some (c1, t3)
def runes_each_i3_l1 (k : Nat) (s1 : List UInt8) (c1 : List UInt8) : Nat → Nat → (List (Int)) → Option (List UInt8 × List (Int))
  | 0, _, _ => none
  | n + 1, pos1, t3 => runes_each_i3_b1 k s1 c1 (runes_each_i3_l1 k s1 c1 n) pos1 t3
/-- cognate/runes.each -/
def runes_each_i3 (k : Nat) (s1 : List UInt8) (c1 : List UInt8) (l1 : List (Int)) : Option (List UInt8 × List (Int)) :=
  runes_each_i3_l1 k s1 c1 k 0 l1

/-- cognate/runes.quote -/
def runes_quote (k : Nat) (s1 : List UInt8) : Option (List UInt8) :=
  Option.bind (strings_Builder_WriteByte_i1 k (34 : Int) ([] : List (Int))) fun v1 =>
  Option.bind (runes_each_i3 k s1 s1 v1.2) fun v2 =>
  Option.bind (strings_Builder_WriteByte_i1 k (34 : Int) v2.2) fun v3 =>
  Option.bind (bld_String k v3.2) fun v4 =>
  some (v4)

/-- cognate/runes.Quote -/
def runes_Quote (k : Nat) (s1 : List UInt8) : Option (List UInt8 × Int) :=
  Option.bind (runes_long k s1) fun v1 =>
  if v1 != (0 : Int) then
    some (([] : List UInt8), v1)
  else
    (
      Option.bind (runes_quote k s1) fun v2 =>
      some (v2, (0 : Int))
    )

/-- cognate/runes.Text -/
def runes_Text (k : Nat) (l1 : List (Int)) : Option (List UInt8) :=
  Option.bind (chk (List.length (runesStr l1) ≤ lim)) fun _ =>
  some (runesStr l1)

def l01_alive_j7  (t7 : Bool) : Option Bool :=
  some (t7)
def l01_alive_j6 (k : Nat) (t6 : Bool) : Option Bool :=
  if t6 then
    (
      Option.bind (runes_Less k ([97] : List UInt8) ([98] : List UInt8)) fun v3 =>
      l01_alive_j7 v3
    )
  else
    l01_alive_j7 false
def l01_alive_j5 (k : Nat) (t5 : Bool) : Option Bool :=
  if t5 then
    (
      Option.bind (runes_Text k ([(97 : Int)] : List (Int))) fun v4 =>
      l01_alive_j6 k (v4 == ([97] : List UInt8))
    )
  else
    l01_alive_j6 k false
def l01_alive_j4 (k : Nat) (v2 : (List UInt8 × Int)) (t4 : Bool) : Option Bool :=
  l01_alive_j5 k (t4 && (v2.1 == ([34, 97, 92, 120, 102, 102, 34] : List UInt8)))
def l01_alive_j3 (k : Nat) (v2 : (List UInt8 × Int)) (t3 : Bool) : Option Bool :=
  l01_alive_j4 k v2 (t3 && (v2.2 == (0 : Int)))
def l01_alive_j2 (k : Nat) (v1 : (List ((Int × Int × Int × Bool × Unit)) × Int)) (v2 : (List UInt8 × Int)) (t2 : Bool) : Option Bool :=
  if t2 then
    (
      Option.bind (at? v1.1 (1 : Int)) fun x1 =>
      l01_alive_j3 k v2 ((eqInt x1.1 (65533 : Int)) && ((eqInt x1.2.1 (1 : Int)) && ((eqInt x1.2.2.1 (1 : Int)) && ((eqBool x1.2.2.2.1 true) && (true)))))
    )
  else
    l01_alive_j3 k v2 false
def l01_alive_j1 (k : Nat) (v1 : (List ((Int × Int × Int × Bool × Unit)) × Int)) (v2 : (List UInt8 × Int)) (t1 : Bool) : Option Bool :=
  if t1 then
    (
      Option.bind (at? v1.1 (0 : Int)) fun x2 =>
      l01_alive_j2 k v1 v2 ((eqInt x2.1 (97 : Int)) && ((eqInt x2.2.1 (0 : Int)) && ((eqInt x2.2.2.1 (1 : Int)) && ((eqBool x2.2.2.2.1 false) && (true)))))
    )
  else
    l01_alive_j2 k v1 v2 false
/-- cognate/cognatelaw01.alive -/
def l01_alive (k : Nat)  : Option Bool :=
  Option.bind (runes_Pieces k ([97, 255] : List UInt8)) fun v1 =>
  Option.bind (runes_Quote k ([97, 255] : List UInt8)) fun v2 =>
  l01_alive_j1 k v1 v2 ((v1.2 == (0 : Int)) && ((List.length v1.1 : Int) == (2 : Int)))

def l01_RunesRows_j7  (t7 : Bool) : Option Bool :=
  some (t7)
def l01_RunesRows_j6 (v4 : Bool) (t6 : Bool) : Option Bool :=
  l01_RunesRows_j7 ((!t6) || v4)
def l01_RunesRows_j5 (v4 : Bool) (v2 : Bool) (v3 : Bool) (t5 : Bool) : Option Bool :=
  if t5 then
    some (false)
  else
    l01_RunesRows_j6 v4 (v2 && v3)
def l01_RunesRows_j8 (v4 : Bool) (v2 : Bool) (v3 : Bool) (a1 : List UInt8) (b1 : List UInt8) (t8 : Bool) : Option Bool :=
  l01_RunesRows_j5 v4 v2 v3 ((a1 == b1) == t8)
def l01_RunesRows_j4 (v4 : Bool) (v2 : Bool) (v3 : Bool) (a1 : List UInt8) (b1 : List UInt8) (v5 : Bool) (t4 : Bool) : Option Bool :=
  if t4 then
    l01_RunesRows_j5 v4 v2 v3 true
  else
    l01_RunesRows_j8 v4 v2 v3 a1 b1 (v2 || v5)
def l01_RunesRows_j9 (v4 : Bool) (v2 : Bool) (v3 : Bool) (a1 : List UInt8) (b1 : List UInt8) (v5 : Bool) (t9 : Bool) : Option Bool :=
  l01_RunesRows_j4 v4 v2 v3 a1 b1 v5 t9
def l01_RunesRows_j3 (v4 : Bool) (v2 : Bool) (v3 : Bool) (a1 : List UInt8) (b1 : List UInt8) (v5 : Bool) (t3 : Bool) : Option Bool :=
  if t3 then
    l01_RunesRows_j4 v4 v2 v3 a1 b1 v5 true
  else
    l01_RunesRows_j9 v4 v2 v3 a1 b1 v5 (v2 && v5)
def l01_RunesRows_j2 (k : Nat) (a1 : List UInt8) (b1 : List UInt8) (c1 : List UInt8) (t2 : Bool) : Option Bool :=
  if t2 then
    (
      Option.bind (l01_alive k) fun v1 =>
      some (v1)
    )
  else
    (
      Option.bind (runes_Less k a1 b1) fun v2 =>
      Option.bind (runes_Less k b1 c1) fun v3 =>
      Option.bind (runes_Less k a1 c1) fun v4 =>
      Option.bind (runes_Less k b1 a1) fun v5 =>
      Option.bind (l01_alive k) fun v6 =>
      if !v6 then
        l01_RunesRows_j3 v4 v2 v3 a1 b1 v5 true
      else
        (
          Option.bind (runes_Less k a1 a1) fun v7 =>
          l01_RunesRows_j3 v4 v2 v3 a1 b1 v5 v7
        )
    )
def l01_RunesRows_j1 (k : Nat) (a1 : List UInt8) (b1 : List UInt8) (c1 : List UInt8) (t1 : Bool) : Option Bool :=
  l01_RunesRows_j2 k a1 b1 c1 (t1 || (decide ((5000 : Int) < (List.length c1 : Int))))
/-- cognate/cognatelaw01.RunesRows -/
def l01_RunesRows (k : Nat) (a1 : List UInt8) (b1 : List UInt8) (c1 : List UInt8) : Option Bool :=
  l01_RunesRows_j1 k a1 b1 c1 (decide ((5000 : Int) < (List.length a1 : Int)) || (decide ((5000 : Int) < (List.length b1 : Int))))

def l01_RunesBack_j4 (all1 : List (Int)) (v3 : (Int × Int)) (go1 : Int → Int → (List (Int)) → Option Bool) (at1 : Int) (i1 : Int) (t4 : Bool) : Option Bool :=
  if t4 then
    some (false)
  else
    (
      Option.bind (chk (List.length all1 + List.length ([v3.1] : List (Int)) ≤ lim)) fun _ =>
      go1 (wi64 (at1 + v3.2)) (wi64 (i1 + (1 : Int))) (all1 ++ ([v3.1] : List (Int)))
    )
def l01_RunesBack_j5 (all1 : List (Int)) (v3 : (Int × Int)) (go1 : Int → Int → (List (Int)) → Option Bool) (at1 : Int) (i1 : Int) (x1 : (Int × Int × Int × Bool × Unit)) (t5 : Bool) : Option Bool :=
  l01_RunesBack_j4 all1 v3 go1 at1 i1 (!(x1.2.2.2.1 == t5))
def l01_RunesBack_j3 (all1 : List (Int)) (v3 : (Int × Int)) (go1 : Int → Int → (List (Int)) → Option Bool) (at1 : Int) (i1 : Int) (x1 : (Int × Int × Int × Bool × Unit)) (t3 : Bool) : Option Bool :=
  if t3 then
    l01_RunesBack_j4 all1 v3 go1 at1 i1 true
  else
    l01_RunesBack_j5 all1 v3 go1 at1 i1 x1 ((v3.1 == (65533 : Int)) && (v3.2 == (1 : Int)))
def l01_RunesBack_j2 (k : Nat) (s1 : List UInt8) (at1 : Int) (all1 : List (Int)) (go1 : Int → Int → (List (Int)) → Option Bool) (i1 : Int) (x1 : (Int × Int × Int × Bool × Unit)) (t2 : Bool) : Option Bool :=
  if t2 then
    some (false)
  else
    (
      Option.bind (sub? s1 at1 (s1.length : Int)) fun s2 =>
      Option.bind (utf8_DecodeRuneInString k s2) fun v3 =>
      l01_RunesBack_j3 all1 v3 go1 at1 i1 x1 ((x1.1 != v3.1) || (x1.2.2.1 != v3.2))
    )
def l01_RunesBack_j1 (k : Nat) (s1 : List UInt8) (at1 : Int) (all1 : List (Int)) (go1 : Int → Int → (List (Int)) → Option Bool) (i1 : Int) (x1 : (Int × Int × Int × Bool × Unit)) (t1 : Bool) : Option Bool :=
  l01_RunesBack_j2 k s1 at1 all1 go1 i1 x1 (t1 || (decide ((List.length s1 : Int) < (wi64 (at1 + x1.2.2.1)))))
def l01_RunesBack_j16  (t16 : Bool) : Option Bool :=
  some (t16)
def l01_RunesBack_j15 (v9 : (List UInt8 × Int)) (v6 : (List UInt8 × Int)) (t15 : Bool) : Option Bool :=
  l01_RunesBack_j16 (t15 && (v9.1 == v6.1))
def l01_RunesBack_j14 (v9 : (List UInt8 × Int)) (v6 : (List UInt8 × Int)) (t14 : Bool) : Option Bool :=
  l01_RunesBack_j15 v9 v6 (t14 && (v9.2 == (0 : Int)))
def l01_RunesBack_j13 (v9 : (List UInt8 × Int)) (v6 : (List UInt8 × Int)) (v8 : (Int × Int)) (t13 : Bool) : Option Bool :=
  l01_RunesBack_j14 v9 v6 (t13 && (v8.1 == (-1 : Int)))
def l01_RunesBack_j12 (k : Nat) (v6 : (List UInt8 × Int)) (v1 : Bool) (t12 : Bool) : Option Bool :=
  if t12 then
    some (false)
  else
    (
      Option.bind (runes_Broken k v6.1) fun v8 =>
      Option.bind (runes_Back k v6.1) fun v9 =>
      l01_RunesBack_j13 v9 v6 v8 (v1 && (v8.2 == (0 : Int)))
    )
def l01_RunesBack_j11 (k : Nat) (v6 : (List UInt8 × Int)) (v1 : Bool) (all1 : List (Int)) (t11 : Bool) : Option Bool :=
  if t11 then
    l01_RunesBack_j12 k v6 v1 true
  else
    (
      Option.bind (runes_Text k all1) fun v10 =>
      l01_RunesBack_j12 k v6 v1 (!(v6.1 == v10))
    )
def l01_RunesBack_j10 (k : Nat) (v6 : (List UInt8 × Int)) (v1 : Bool) (all1 : List (Int)) (v7 : (Int × Int)) (v2 : (List ((Int × Int × Int × Bool × Unit)) × Int)) (t10 : Bool) : Option Bool :=
  l01_RunesBack_j11 k v6 v1 all1 (t10 || (v7.1 != (List.length v2.1 : Int)))
def l01_RunesBack_j9 (k : Nat) (v6 : (List UInt8 × Int)) (v1 : Bool) (all1 : List (Int)) (v7 : (Int × Int)) (v2 : (List ((Int × Int × Int × Bool × Unit)) × Int)) (v4 : (List UInt8 × Int)) (v5 : (List UInt8 × Int)) (s1 : List UInt8) (t9 : Bool) : Option Bool :=
  if t9 then
    l01_RunesBack_j10 k v6 v1 all1 v7 v2 true
  else
    (
      Option.bind (chk (List.length v4.1 + List.length v5.1 ≤ lim)) fun _ =>
      l01_RunesBack_j10 k v6 v1 all1 v7 v2 (!((v4.1 ++ v5.1) == s1))
    )
def l01_RunesBack_j8 (k : Nat) (v6 : (List UInt8 × Int)) (v1 : Bool) (all1 : List (Int)) (v7 : (Int × Int)) (v2 : (List ((Int × Int × Int × Bool × Unit)) × Int)) (v4 : (List UInt8 × Int)) (v5 : (List UInt8 × Int)) (s1 : List UInt8) (t8 : Bool) : Option Bool :=
  l01_RunesBack_j9 k v6 v1 all1 v7 v2 v4 v5 s1 (t8 || (v7.2 != (0 : Int)))
def l01_RunesBack_j7 (k : Nat) (v6 : (List UInt8 × Int)) (v1 : Bool) (all1 : List (Int)) (v7 : (Int × Int)) (v2 : (List ((Int × Int × Int × Bool × Unit)) × Int)) (v4 : (List UInt8 × Int)) (v5 : (List UInt8 × Int)) (s1 : List UInt8) (t7 : Bool) : Option Bool :=
  l01_RunesBack_j8 k v6 v1 all1 v7 v2 v4 v5 s1 (t7 || (v6.2 != (0 : Int)))
def l01_RunesBack_j6 (k : Nat) (v6 : (List UInt8 × Int)) (v1 : Bool) (all1 : List (Int)) (v7 : (Int × Int)) (v2 : (List ((Int × Int × Int × Bool × Unit)) × Int)) (v4 : (List UInt8 × Int)) (v5 : (List UInt8 × Int)) (s1 : List UInt8) (t6 : Bool) : Option Bool :=
  l01_RunesBack_j7 k v6 v1 all1 v7 v2 v4 v5 s1 (t6 || (v5.2 != (0 : Int)))
def l01_RunesBack_b1 (k : Nat) (v2 : (List ((Int × Int × Int × Bool × Unit)) × Int)) (s1 : List UInt8) (k1 : Int) (v1 : Bool) (go1 : Int → Int → (List (Int)) → Option Bool) (at1 : Int) (i1 : Int) (all1 : List (Int)) : Option Bool :=
  if decide (i1 < (List.length v2.1 : Int)) then
    (
      Option.bind (at? v2.1 i1) fun x1 =>
      l01_RunesBack_j1 k s1 at1 all1 go1 i1 x1 ((x1.2.1 != at1) || (decide (x1.2.2.1 < (1 : Int))))
    )
  else
    (
      Option.bind (chk ((wi64 ((List.length v2.1 : Int) + (1 : Int))) ≠ 0)) fun _ =>
      Option.bind (chk ((wi64 ((List.length v2.1 : Int) + (1 : Int))) ≠ 0)) fun _ =>
      Option.bind (runes_Part k s1 (0 : Int) (Int.tmod (wi64 ((Int.tmod k1 (wi64 ((List.length v2.1 : Int) + (1 : Int)))) + (wi64 ((List.length v2.1 : Int) + (1 : Int))))) (wi64 ((List.length v2.1 : Int) + (1 : Int))))) fun v4 =>
      Option.bind (runes_Part k s1 (Int.tmod (wi64 ((Int.tmod k1 (wi64 ((List.length v2.1 : Int) + (1 : Int)))) + (wi64 ((List.length v2.1 : Int) + (1 : Int))))) (wi64 ((List.length v2.1 : Int) + (1 : Int)))) (List.length v2.1 : Int)) fun v5 =>
      Option.bind (runes_Back k s1) fun v6 =>
      Option.bind (runes_Len k v6.1) fun v7 =>
      l01_RunesBack_j6 k v6 v1 all1 v7 v2 v4 v5 s1 ((at1 != (List.length s1 : Int)) || (v4.2 != (0 : Int)))
    )
def l01_RunesBack_l1 (k : Nat) (v2 : (List ((Int × Int × Int × Bool × Unit)) × Int)) (s1 : List UInt8) (k1 : Int) (v1 : Bool) : Nat → Int → Int → (List (Int)) → Option Bool
  | 0, _, _, _ => none
  | n + 1, at1, i1, all1 => l01_RunesBack_b1 k v2 s1 k1 v1 (l01_RunesBack_l1 k v2 s1 k1 v1 n) at1 i1 all1
/-- cognate/cognatelaw01.RunesBack -/
def l01_RunesBack (k : Nat) (s1 : List UInt8) (k1 : Int) : Option Bool :=
  Option.bind (l01_alive k) fun v1 =>
  if decide ((5000 : Int) < (List.length s1 : Int)) then
    some (v1)
  else
    (
      Option.bind (runes_Pieces k s1) fun v2 =>
      if v2.2 != (0 : Int) then
        some (false)
      else
        l01_RunesBack_l1 k v2 s1 k1 v1 k (0 : Int) (0 : Int) ([] : List (Int))
    )

end Go.Ev
