/- RunesNames is true of the shallow functions. -/
import Derived.Test.YtciikbiapmbocaaDoorShRu4
namespace Go.Ev
open Go

def K_RunesNames : Nat := 80000
set_option maxRecDepth 100000 in
theorem RunesNames_true' : l01_RunesNames K_RunesNames = some true := by decide +kernel
end Go.Ev
