/- Library functions as plain functions. -/
import Derived.Test.YtciikbiapmbocaaDoorEvS
import Derived.Shelf.Unicode.DecodeAny
namespace Go.Ev
open Go
/-- unicode/utf8.DecodeRuneInString -/
def utf8_DecodeRuneInString (_k : Nat) (s : List UInt8) : Option (Int × Int) := some (((Lib.decodeGo ⟨s.toArray⟩).1 : Int), ((Lib.decodeGo ⟨s.toArray⟩).2 : Int))
end Go.Ev
