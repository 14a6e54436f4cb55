/- Contracts, by program. -/
import Derived.Test.YtgkgdfmldioddaaGreatDoorProg
import Derived.Test.YtgkgdfmldioddaaGreatDoorMM6
import Derived.Test.YtgkgdfmldioddaaGreatDoorMM8
import Derived.Test.YtgkgdfmldioddaaGreatDoorMM9
import Derived.Test.YtgkgdfmldioddaaGreatDoorCtCfP4
import Derived.KernelRfl
import Derived.Test.YtgkgdfmldioddaaGreatDoorTyA
set_option linter.unusedSectionVars false
set_option linter.unusedVariables false
set_option linter.unusedSimpArgs false
namespace Go.Ev
open Go Go.Proofs
set_option linter.unusedVariables false
set_option maxRecDepth 100000
noncomputable def Dc(k:Nat):cJ rX (List (Int)) where
 n:=6
 S:=fun z=>⟨[(0,.ptr 6 0),(1,.val bg (z.1))],[(6,.cells [bd (z.2.1),.val aq (z.2.2.1),.val bh (z.2.2.2.1),.val au (z.2.2.2.2.1),.val au (z.2.2.2.2.2.1),bO (z.2.2.2.2.2.2.1),aM (z.2.2.2.2.2.2.2.1),.iter 7,.clos 163 [8]] 241),(7,.mp bf bi (z.2.2.2.2.2.2.2.2.1)),(8,.cells [.val (.ab .str) (z.2.2.2.2.2.2.2.2.2.1),.val aq (z.2.2.2.2.2.2.2.2.2.2)] 25)],[]⟩
 be:=fun z y=>⟨[],[(2,.cells [.ptr 6 0] 212),(3,.cells [.val bg (y)] 50),(6,.cells [bd (z.2.1),.val aq (z.2.2.1),.val bh (z.2.2.2.1),.val au (z.2.2.2.2.1),.val au (z.2.2.2.2.2.1),bO (z.2.2.2.2.2.2.1),aM (z.2.2.2.2.2.2.2.1),.iter 7,.clos 163 [8]] 241),(7,.mp bf bi (z.2.2.2.2.2.2.2.2.1)),(8,.cells [.val (.ab .str) (z.2.2.2.2.2.2.2.2.2.1),.val aq (z.2.2.2.2.2.2.2.2.2.2)] 25)],[]⟩
 ar:=fun z y=>[.clos 170 [2,3]]
 rel:=fun z y=>uD k (z.1) (z.2.1) (z.2.2.1) (z.2.2.2.1) (z.2.2.2.2.1) (z.2.2.2.2.2.1) (z.2.2.2.2.2.2.1) (z.2.2.2.2.2.2.2.1) (z.2.2.2.2.2.2.2.2.1) (z.2.2.2.2.2.2.2.2.2.1) (z.2.2.2.2.2.2.2.2.2.2)=some y
theorem GX(k:Nat):cF Tryz.prog an 138 (Dc k):=fp Tryz.func138 (by kernel_rfl) rfl (Dc k) Tryz.ntmps138 [] (fun z=>uD k (z.1) (z.2.1) (z.2.2.1) (z.2.2.2.1) (z.2.2.2.2.1) (z.2.2.2.2.2.1) (z.2.2.2.2.2.2.1) (z.2.2.2.2.2.2.2.1) (z.2.2.2.2.2.2.2.2.1) (z.2.2.2.2.2.2.2.2.2.1) (z.2.2.2.2.2.2.2.2.2.2)) (fun _ _ h=>h) (fun st=>bW st [.ad 3 0 bg]) [2,3,6,7,8] [] (fun _=>.z) (by kernel_rfl)
noncomputable def Xs(k:Nat):dp Tryz.prog an rX (List (Int)):=⟨138,Dc k,fun st=>bW st [.ab 1 bg,.ad 6 0 .str,.ad 6 1 aq,.ad 6 2 bh,.ad 6 3 au,.ad 6 4 au,.ad 6 5 (.int .u8),.ad 6 6 .bool,.mp 7 bf bi,.ad 8 0 (.ab .str),.ad 8 1 aq],fun z=>uD k (z.1) (z.2.1) (z.2.2.1) (z.2.2.2.1) (z.2.2.2.2.1) (z.2.2.2.2.2.1) (z.2.2.2.2.2.2.1) (z.2.2.2.2.2.2.2.1) (z.2.2.2.2.2.2.2.2.1) (z.2.2.2.2.2.2.2.2.2.1) (z.2.2.2.2.2.2.2.2.2.2),(GX k),fun _ _ h=>h⟩
noncomputable def Ag(k:Nat):cJ MD gG where
 n:=19
 S:=fun z=>⟨[(0,bd (z.1)),(1,aw (z.2.1)),(2,.ptr 19 0),(3,.ptr 23 0)],[(19,.cells [.ptr 20 0] 212),(20,.cells [bd (z.2.2.1),.val aq (z.2.2.2.1),.val bh (z.2.2.2.2.1),.val au (z.2.2.2.2.2.1),.val au (z.2.2.2.2.2.2.1),bO (z.2.2.2.2.2.2.2.1),aM (z.2.2.2.2.2.2.2.2.1),.iter 21,.clos 163 [22]] 241),(21,.mp bf bi (z.2.2.2.2.2.2.2.2.2.1)),(22,.cells [.val (.ab .str) (z.2.2.2.2.2.2.2.2.2.2.1),.val aq (z.2.2.2.2.2.2.2.2.2.2.2.1)] 25),(23,.cells [.val bg (z.2.2.2.2.2.2.2.2.2.2.2.2)] 50)],[]⟩
 be:=fun z y=>⟨[],[(19,.cells [.ptr 20 0] 212),(20,.cells [bd (y.2.1),.val aq (y.2.2.1),.val bh (y.2.2.2.1),.val au (y.2.2.2.2.1),.val au (y.2.2.2.2.2.1),bO (y.2.2.2.2.2.2.1),aM (y.2.2.2.2.2.2.2.1),.iter 21,.clos 163 [22]] 241),(21,.mp bf bi (y.2.2.2.2.2.2.2.2.1)),(22,.cells [.val (.ab .str) (y.2.2.2.2.2.2.2.2.2.1),.val aq (y.2.2.2.2.2.2.2.2.2.2)] 25),(23,.cells [.val bg (z.2.2.2.2.2.2.2.2.2.2.2.2)] 50)],[]⟩
 ar:=fun z y=>[aM (y.1)]
 rel:=fun z y=>qC k (z.1) (z.2.1) (z.2.2.1) (z.2.2.2.1) (z.2.2.2.2.1) (z.2.2.2.2.2.1) (z.2.2.2.2.2.2.1) (z.2.2.2.2.2.2.2.1) (z.2.2.2.2.2.2.2.2.1) (z.2.2.2.2.2.2.2.2.2.1) (z.2.2.2.2.2.2.2.2.2.2.1) (z.2.2.2.2.2.2.2.2.2.2.2.1) (z.2.2.2.2.2.2.2.2.2.2.2.2)=some y
theorem HI(k:Nat):cF Tryz.prog an 170 (Ag k):=fp Tryz.func170 (by kernel_rfl) rfl (Ag k) Tryz.ntmps170 [] (fun z=>qC k (z.1) (z.2.1) (z.2.2.1) (z.2.2.2.1) (z.2.2.2.2.1) (z.2.2.2.2.2.1) (z.2.2.2.2.2.2.1) (z.2.2.2.2.2.2.2.1) (z.2.2.2.2.2.2.2.2.1) (z.2.2.2.2.2.2.2.2.2.1) (z.2.2.2.2.2.2.2.2.2.2.1) (z.2.2.2.2.2.2.2.2.2.2.2.1) (z.2.2.2.2.2.2.2.2.2.2.2.2)) (fun _ _ h=>h) (fun st=>bW st [.ab 0 .bool,.ad 20 0 .str,.ad 20 1 aq,.ad 20 2 bh,.ad 20 3 au,.ad 20 4 au,.ad 20 5 (.int .u8),.ad 20 6 .bool,.mp 21 bf bi,.ad 22 0 (.ab .str),.ad 22 1 aq]) [19,20,21,22,23] [] (fun _=>.ah 3 (.cU [[],[0],[1],[2],[3],[6],[1,0],[2,0],[3,0],[6,0],[2,1],[3,1],[6,1],[3,2],[6,2],[6,3],[7,6],[2,1,0],[3,1,0],[6,1,0],[3,2,0],[6,2,0],[6,3,0],[7,6,0],[3,2,1],[6,2,1],[6,3,1],[7,6,1],[4,3,2],[6,3,2],[7,6,2],[7,6,3],[3,2,1,0],[6,2,1,0],[6,3,1,0],[7,6,1,0],[4,3,2,0],[6,3,2,0],[7,6,2,0],[7,6,3,0],[4,3,2,1],[6,3,2,1],[7,6,2,1],[7,6,3,1],[6,4,3,2],[7,6,3,2],[4,3,2,1,0],[6,3,2,1,0],[7,6,2,1,0],[7,6,3,1,0],[6,4,3,2,0],[7,6,3,2,0],[5,4,3,2,1],[6,4,3,2,1],[7,6,3,2,1],[7,6,4,3,2],[5,4,3,2,1,0],[6,4,3,2,1,0],[7,6,3,2,1,0],[7,6,4,3,2,0],[6,5,4,3,2,1],[7,6,4,3,2,1],[6,5,4,3,2,1,0],[7,6,4,3,2,1,0],[7,6,5,4,3,2,1],[7,6,5,4,3,2,1,0],[8,7,6,5,4,3,2,1,0],[9,8,7,6,5,4,3,2,1,0]] (.ah 1 (.un 15 (.rU 9 (.bN (Et k) [(20,91),(21,92),(22,93)] [(91,20),(92,21),(93,22)] (fun _=>.z))))))) (by kernel_rfl)
noncomputable def Xm(k:Nat):dp Tryz.prog an MD gG:=⟨170,Ag k,fun st=>bW st [.ab 0 .str,.ab 1 (.int .i64),.ad 20 0 .str,.ad 20 1 aq,.ad 20 2 bh,.ad 20 3 au,.ad 20 4 au,.ad 20 5 (.int .u8),.ad 20 6 .bool,.mp 21 bf bi,.ad 22 0 (.ab .str),.ad 22 1 aq,.ad 23 0 bg],fun z=>qC k (z.1) (z.2.1) (z.2.2.1) (z.2.2.2.1) (z.2.2.2.2.1) (z.2.2.2.2.2.1) (z.2.2.2.2.2.2.1) (z.2.2.2.2.2.2.2.1) (z.2.2.2.2.2.2.2.2.1) (z.2.2.2.2.2.2.2.2.2.1) (z.2.2.2.2.2.2.2.2.2.2.1) (z.2.2.2.2.2.2.2.2.2.2.2.1) (z.2.2.2.2.2.2.2.2.2.2.2.2),(HI k),fun _ _ h=>h⟩
end Go.Ev
