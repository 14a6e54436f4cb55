/- Contracts, by program. -/
import Derived.Test.YteopobecmacgdaaGreatDoorProg
import Derived.Test.YteopobecmacgdaaGreatDoorMM6
import Derived.Test.YteopobecmacgdaaGreatDoorMM8
import Derived.Test.YteopobecmacgdaaGreatDoorCtGwP4
import Derived.KernelRfl
import Derived.Test.YteopobecmacgdaaGreatDoorTyA
set_option linter.unusedSectionVars false
set_option linter.unusedVariables false
set_option linter.unusedSimpArgs false
namespace Go.Ev
open Go Go.Proofs
set_option linter.unusedVariables false
set_option maxRecDepth 100000
noncomputable def DR(k:Nat):cY rf (List (Int)) where
 n:=6
 S:=fun z=>⟨[(0,.ptr 6 0),(1,.val bg (z.1))],[(6,.cells [aN (z.2.1),.val ax (z.2.2.1),.val br (z.2.2.2.1),.val az (z.2.2.2.2.1),.val az (z.2.2.2.2.2.1),bR (z.2.2.2.2.2.2.1),aO (z.2.2.2.2.2.2.2.1),.iter 7,.clos 161 [8]] 280),(7,.mp bn bo (z.2.2.2.2.2.2.2.2.1)),(8,.cells [.val (.ab .str) (z.2.2.2.2.2.2.2.2.2.1),.val ax (z.2.2.2.2.2.2.2.2.2.2)] 25)],[]⟩
 bq:=fun z y=>⟨[],[(2,.cells [.ptr 6 0] 240),(3,.cells [.val bg (y)] 61),(6,.cells [aN (z.2.1),.val ax (z.2.2.1),.val br (z.2.2.2.1),.val az (z.2.2.2.2.1),.val az (z.2.2.2.2.2.1),bR (z.2.2.2.2.2.2.1),aO (z.2.2.2.2.2.2.2.1),.iter 7,.clos 161 [8]] 280),(7,.mp bn bo (z.2.2.2.2.2.2.2.2.1)),(8,.cells [.val (.ab .str) (z.2.2.2.2.2.2.2.2.2.1),.val ax (z.2.2.2.2.2.2.2.2.2.2)] 25)],[]⟩
 au:=fun z y=>[.clos 164 [2,3]]
 rel:=fun z y=>tn k (z.1) (z.2.1) (z.2.2.1) (z.2.2.2.1) (z.2.2.2.2.1) (z.2.2.2.2.2.1) (z.2.2.2.2.2.2.1) (z.2.2.2.2.2.2.2.1) (z.2.2.2.2.2.2.2.2.1) (z.2.2.2.2.2.2.2.2.2.1) (z.2.2.2.2.2.2.2.2.2.2)=some y
theorem M5(k:Nat):dc Tryz.prog aq 129 (DR k):=fQ Tryz.func129 (by kernel_rfl) rfl (DR k) Tryz.ntmps129 [] (fun z=>tn k (z.1) (z.2.1) (z.2.2.1) (z.2.2.2.1) (z.2.2.2.2.1) (z.2.2.2.2.2.1) (z.2.2.2.2.2.2.1) (z.2.2.2.2.2.2.2.1) (z.2.2.2.2.2.2.2.2.1) (z.2.2.2.2.2.2.2.2.2.1) (z.2.2.2.2.2.2.2.2.2.2)) (fun _ _ h=>h) (fun st=>cF st [.ad 3 0 bg]) [2,3,6,7,8] [] (fun _=>.z) (by kernel_rfl)
noncomputable def Yd(k:Nat):dM Tryz.prog aq rf (List (Int)):=⟨129,DR k,fun st=>cF st [.ab 1 bg,.ad 6 0 .str,.ad 6 1 ax,.ad 6 2 br,.ad 6 3 az,.ad 6 4 az,.ad 6 5 (.int .u8),.ad 6 6 .bool,.mp 7 bn bo,.ad 8 0 (.ab .str),.ad 8 1 ax],fun z=>tn k (z.1) (z.2.1) (z.2.2.1) (z.2.2.2.1) (z.2.2.2.2.1) (z.2.2.2.2.2.1) (z.2.2.2.2.2.2.1) (z.2.2.2.2.2.2.2.1) (z.2.2.2.2.2.2.2.2.1) (z.2.2.2.2.2.2.2.2.2.1) (z.2.2.2.2.2.2.2.2.2.2),(M5 k),fun _ _ h=>h⟩
noncomputable def CX(k:Nat):cY Mm gC where
 n:=19
 S:=fun z=>⟨[(0,aN (z.1)),(1,ay (z.2.1)),(2,.ptr 19 0),(3,.ptr 23 0)],[(19,.cells [.ptr 20 0] 240),(20,.cells [aN (z.2.2.1),.val ax (z.2.2.2.1),.val br (z.2.2.2.2.1),.val az (z.2.2.2.2.2.1),.val az (z.2.2.2.2.2.2.1),bR (z.2.2.2.2.2.2.2.1),aO (z.2.2.2.2.2.2.2.2.1),.iter 21,.clos 161 [22]] 280),(21,.mp bn bo (z.2.2.2.2.2.2.2.2.2.1)),(22,.cells [.val (.ab .str) (z.2.2.2.2.2.2.2.2.2.2.1),.val ax (z.2.2.2.2.2.2.2.2.2.2.2.1)] 25),(23,.cells [.val bg (z.2.2.2.2.2.2.2.2.2.2.2.2)] 61)],[]⟩
 bq:=fun z y=>⟨[],[(19,.cells [.ptr 20 0] 240),(20,.cells [aN (y.2.1),.val ax (y.2.2.1),.val br (y.2.2.2.1),.val az (y.2.2.2.2.1),.val az (y.2.2.2.2.2.1),bR (y.2.2.2.2.2.2.1),aO (y.2.2.2.2.2.2.2.1),.iter 21,.clos 161 [22]] 280),(21,.mp bn bo (y.2.2.2.2.2.2.2.2.1)),(22,.cells [.val (.ab .str) (y.2.2.2.2.2.2.2.2.2.1),.val ax (y.2.2.2.2.2.2.2.2.2.2)] 25),(23,.cells [.val bg (z.2.2.2.2.2.2.2.2.2.2.2.2)] 61)],[]⟩
 au:=fun z y=>[aO (y.1)]
 rel:=fun z y=>pU k (z.1) (z.2.1) (z.2.2.1) (z.2.2.2.1) (z.2.2.2.2.1) (z.2.2.2.2.2.1) (z.2.2.2.2.2.2.1) (z.2.2.2.2.2.2.2.1) (z.2.2.2.2.2.2.2.2.1) (z.2.2.2.2.2.2.2.2.2.1) (z.2.2.2.2.2.2.2.2.2.2.1) (z.2.2.2.2.2.2.2.2.2.2.2.1) (z.2.2.2.2.2.2.2.2.2.2.2.2)=some y
theorem MP(k:Nat):dc Tryz.prog aq 164 (CX k):=fQ Tryz.func164 (by kernel_rfl) rfl (CX k) Tryz.ntmps164 [] (fun z=>pU k (z.1) (z.2.1) (z.2.2.1) (z.2.2.2.1) (z.2.2.2.2.1) (z.2.2.2.2.2.1) (z.2.2.2.2.2.2.1) (z.2.2.2.2.2.2.2.1) (z.2.2.2.2.2.2.2.2.1) (z.2.2.2.2.2.2.2.2.2.1) (z.2.2.2.2.2.2.2.2.2.2.1) (z.2.2.2.2.2.2.2.2.2.2.2.1) (z.2.2.2.2.2.2.2.2.2.2.2.2)) (fun _ _ h=>h) (fun st=>cF st [.ab 0 .bool,.ad 20 0 .str,.ad 20 1 ax,.ad 20 2 br,.ad 20 3 az,.ad 20 4 az,.ad 20 5 (.int .u8),.ad 20 6 .bool,.mp 21 bn bo,.ad 22 0 (.ab .str),.ad 22 1 ax]) [19,20,21,22,23] [] (fun _=>.aj 3 (.dl [[],[0],[1],[2],[3],[6],[1,0],[2,0],[3,0],[6,0],[2,1],[3,1],[6,1],[3,2],[6,2],[6,3],[7,6],[2,1,0],[3,1,0],[6,1,0],[3,2,0],[6,2,0],[6,3,0],[7,6,0],[3,2,1],[6,2,1],[6,3,1],[7,6,1],[4,3,2],[6,3,2],[7,6,2],[7,6,3],[3,2,1,0],[6,2,1,0],[6,3,1,0],[7,6,1,0],[4,3,2,0],[6,3,2,0],[7,6,2,0],[7,6,3,0],[4,3,2,1],[6,3,2,1],[7,6,2,1],[7,6,3,1],[6,4,3,2],[7,6,3,2],[4,3,2,1,0],[6,3,2,1,0],[7,6,2,1,0],[7,6,3,1,0],[6,4,3,2,0],[7,6,3,2,0],[5,4,3,2,1],[6,4,3,2,1],[7,6,3,2,1],[7,6,4,3,2],[5,4,3,2,1,0],[6,4,3,2,1,0],[7,6,3,2,1,0],[7,6,4,3,2,0],[6,5,4,3,2,1],[7,6,4,3,2,1],[6,5,4,3,2,1,0],[7,6,4,3,2,1,0],[7,6,5,4,3,2,1],[7,6,5,4,3,2,1,0],[8,7,6,5,4,3,2,1,0],[9,8,7,6,5,4,3,2,1,0]] (.aj 1 (.un 15 (.rq 9 (.cP (By k) [(20,91),(21,92),(22,93)] [(91,20),(92,21),(93,22)] (fun _=>.z))))))) (by kernel_rfl)
noncomputable def Yh(k:Nat):dM Tryz.prog aq Mm gC:=⟨164,CX k,fun st=>cF st [.ab 0 .str,.ab 1 (.int .i64),.ad 20 0 .str,.ad 20 1 ax,.ad 20 2 br,.ad 20 3 az,.ad 20 4 az,.ad 20 5 (.int .u8),.ad 20 6 .bool,.mp 21 bn bo,.ad 22 0 (.ab .str),.ad 22 1 ax,.ad 23 0 bg],fun z=>pU k (z.1) (z.2.1) (z.2.2.1) (z.2.2.2.1) (z.2.2.2.2.1) (z.2.2.2.2.2.1) (z.2.2.2.2.2.2.1) (z.2.2.2.2.2.2.2.1) (z.2.2.2.2.2.2.2.2.1) (z.2.2.2.2.2.2.2.2.2.1) (z.2.2.2.2.2.2.2.2.2.2.1) (z.2.2.2.2.2.2.2.2.2.2.2.1) (z.2.2.2.2.2.2.2.2.2.2.2.2),(MP k),fun _ _ h=>h⟩
end Go.Ev
