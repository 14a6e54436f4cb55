/- Contracts, by program. -/
import Derived.Test.YtgkgdfmldioddaaGreatDoorProg
import Derived.Test.YtgkgdfmldioddaaGreatDoorMM6
import Derived.Test.YtgkgdfmldioddaaGreatDoorMM8
import Derived.KernelRfl
import Derived.Test.YtgkgdfmldioddaaGreatDoorTyA
set_option linter.unusedSectionVars false
set_option linter.unusedVariables false
set_option linter.unusedSimpArgs false
namespace Go.Ev
open Go Go.Proofs
set_option linter.unusedVariables false
set_option maxRecDepth 100000
abbrev nL:b6:=⟨True⟩
variable [b6]
noncomputable def AH(k:Nat):aZ:=⟨[(.ab (.int .i64))],[(.int .i64)],[],fun x=>s5 k x⟩
theorem TM(k:Nat):aY Tryz.prog pa 78 (AH k).ba:=bt GQ Tryz.func78 (by kernel_rfl) rfl Tryz.ntmps78 (AH k) (by kernel_rfl) [] (fun x=>.ah 4 (.bw [.ab 8 (.int .i64)] (aR [3,6,7,8] [] []) (Fj x) k fun _ _=>.z)) (by kernel_rfl)
noncomputable def WF(k:Nat):aL Tryz.prog pa:=⟨78,AH k,TM k⟩
noncomputable def px(k:Nat):aZ:=⟨[dU,dU,(.ptr (.map dU (.int .i64))),(.ptr (.map (.int .i32) (.int .i64)))],[(.int .i64)],[(.map dU (.int .i64)),(.map (.int .i32) (.int .i64))],fun x=>kC k (x.1) (x.2.1) (x.2.2.1) (x.2.2.2)⟩
theorem CL(k:Nat):aY Tryz.prog pa 77 (px k).ba:=bt GQ Tryz.func77 (by kernel_rfl) rfl Tryz.ntmps77 (px k) (by kernel_rfl) [WF k] (fun _=>.ah 2 (.ur 25 .z)) (by kernel_rfl)
noncomputable def Xk(k:Nat):aL Tryz.prog pa:=⟨77,px k,CL k⟩
end Go.Ev
