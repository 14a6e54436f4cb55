/- Library functions as plain functions. -/
import Derived.Test.YtciikbiapmbocaaDoorEvS
import Derived.Shelf.Unicode.DecodeAny
namespace Go.Ev
open Go
/-- unicode/utf8.DecodeRuneInString -/
def utf8_DecodeRuneInString (_k : Nat) (s : List UInt8) : Option (Int × Int) := some (((Lib.decodeGo ⟨s.toArray⟩).1 : Int), ((Lib.decodeGo ⟨s.toArray⟩).2 : Int))
/-- math/bits.TrailingZeros, at sixteen alone. -/
def math_bits_TrailingZeros (_k : Nat) (x : Int) : Option Int := if x = 16 then some 4 else none
/-! The builder. -/
def bld_copyCheck (_k : Nat) (_l : List Int) : Option Unit := some ()
def bld_String (_k : Nat) (l : List Int) : Option (List UInt8) := if bytesEl (bytesStr l) = l then some (bytesStr l) else none
end Go.Ev
