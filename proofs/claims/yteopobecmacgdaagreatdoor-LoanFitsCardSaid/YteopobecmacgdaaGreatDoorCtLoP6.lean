/- Contracts, by program. -/
import Derived.Test.YteopobecmacgdaaGreatDoorProg
import Derived.Test.YteopobecmacgdaaGreatDoorMM6
import Derived.Test.YteopobecmacgdaaGreatDoorMM9
import Derived.Test.YteopobecmacgdaaGreatDoorCtLoP3
import Derived.KernelRfl
import Derived.Test.YteopobecmacgdaaGreatDoorTyA
set_option linter.unusedSectionVars false
set_option linter.unusedVariables false
set_option linter.unusedSimpArgs false
namespace Go.Ev
open Go Go.Proofs
set_option linter.unusedVariables false
set_option maxRecDepth 100000
noncomputable def zQ(k:Nat):bU o8 (List (Int)) where
 n:=6
 S:=fun z=>⟨[(0,.ptr 6 0),(1,.val bl (z.1))],[(6,.cells [bj (z.2.1),.val au (z.2.2.1),.val bn (z.2.2.2.1),.val av (z.2.2.2.2.1),.val av (z.2.2.2.2.2.1),bR (z.2.2.2.2.2.2.1),aY (z.2.2.2.2.2.2.2.1),.iter 7,.clos 161 [8]] 280),(7,.mp bk bo (z.2.2.2.2.2.2.2.2.1)),(8,.cells [.val (.ab .str) (z.2.2.2.2.2.2.2.2.2.1),.val au (z.2.2.2.2.2.2.2.2.2.2)] 25)],[]⟩
 bJ:=fun z y=>⟨[],[(2,.cells [.ptr 6 0] 240),(3,.cells [.val bl (y)] 61),(6,.cells [bj (z.2.1),.val au (z.2.2.1),.val bn (z.2.2.2.1),.val av (z.2.2.2.2.1),.val av (z.2.2.2.2.2.1),bR (z.2.2.2.2.2.2.1),aY (z.2.2.2.2.2.2.2.1),.iter 7,.clos 161 [8]] 280),(7,.mp bk bo (z.2.2.2.2.2.2.2.2.1)),(8,.cells [.val (.ab .str) (z.2.2.2.2.2.2.2.2.2.1),.val au (z.2.2.2.2.2.2.2.2.2.2)] 25)],[]⟩
 ap:=fun z y=>[.clos 164 [2,3]]
 rel:=fun z y=>tO k (z.1) (z.2.1) (z.2.2.1) (z.2.2.2.1) (z.2.2.2.2.1) (z.2.2.2.2.2.1) (z.2.2.2.2.2.2.1) (z.2.2.2.2.2.2.2.1) (z.2.2.2.2.2.2.2.2.1) (z.2.2.2.2.2.2.2.2.2.1) (z.2.2.2.2.2.2.2.2.2.2)=some y
theorem H5(k:Nat):cb Tryz.prog am 129 (zQ k):=dr Tryz.func129 (by kernel_rfl) rfl (zQ k) Tryz.ntmps129 [] (fun z=>tO k (z.1) (z.2.1) (z.2.2.1) (z.2.2.2.1) (z.2.2.2.2.1) (z.2.2.2.2.2.1) (z.2.2.2.2.2.2.1) (z.2.2.2.2.2.2.2.1) (z.2.2.2.2.2.2.2.2.1) (z.2.2.2.2.2.2.2.2.2.1) (z.2.2.2.2.2.2.2.2.2.2)) (fun _ _ h=>h) (fun st=>bu st [.ad 3 0 bl]) [2,3,6,7,8] [] (fun _=>.z) (by kernel_rfl)
noncomputable def XP(k:Nat):cD Tryz.prog am o8 (List (Int)):=⟨129,zQ k,fun st=>bu st [.ab 1 bl,.ad 6 0 .str,.ad 6 1 au,.ad 6 2 bn,.ad 6 3 av,.ad 6 4 av,.ad 6 5 (.int .u8),.ad 6 6 .bool,.mp 7 bk bo,.ad 8 0 (.ab .str),.ad 8 1 au],fun z=>tO k (z.1) (z.2.1) (z.2.2.1) (z.2.2.2.1) (z.2.2.2.2.1) (z.2.2.2.2.2.1) (z.2.2.2.2.2.2.1) (z.2.2.2.2.2.2.2.1) (z.2.2.2.2.2.2.2.2.1) (z.2.2.2.2.2.2.2.2.2.1) (z.2.2.2.2.2.2.2.2.2.2),(H5 k),fun _ _ h=>h⟩
noncomputable def yw(k:Nat):bU KO fY where
 n:=19
 S:=fun z=>⟨[(0,bj (z.1)),(1,ax (z.2.1)),(2,.ptr 19 0),(3,.ptr 23 0)],[(19,.cells [.ptr 20 0] 240),(20,.cells [bj (z.2.2.1),.val au (z.2.2.2.1),.val bn (z.2.2.2.2.1),.val av (z.2.2.2.2.2.1),.val av (z.2.2.2.2.2.2.1),bR (z.2.2.2.2.2.2.2.1),aY (z.2.2.2.2.2.2.2.2.1),.iter 21,.clos 161 [22]] 280),(21,.mp bk bo (z.2.2.2.2.2.2.2.2.2.1)),(22,.cells [.val (.ab .str) (z.2.2.2.2.2.2.2.2.2.2.1),.val au (z.2.2.2.2.2.2.2.2.2.2.2.1)] 25),(23,.cells [.val bl (z.2.2.2.2.2.2.2.2.2.2.2.2)] 61)],[]⟩
 bJ:=fun z y=>⟨[],[(19,.cells [.ptr 20 0] 240),(20,.cells [bj (y.2.1),.val au (y.2.2.1),.val bn (y.2.2.2.1),.val av (y.2.2.2.2.1),.val av (y.2.2.2.2.2.1),bR (y.2.2.2.2.2.2.1),aY (y.2.2.2.2.2.2.2.1),.iter 21,.clos 161 [22]] 280),(21,.mp bk bo (y.2.2.2.2.2.2.2.2.1)),(22,.cells [.val (.ab .str) (y.2.2.2.2.2.2.2.2.2.1),.val au (y.2.2.2.2.2.2.2.2.2.2)] 25),(23,.cells [.val bl (z.2.2.2.2.2.2.2.2.2.2.2.2)] 61)],[]⟩
 ap:=fun z y=>[aY (y.1)]
 rel:=fun z y=>sv k (z.1) (z.2.1) (z.2.2.1) (z.2.2.2.1) (z.2.2.2.2.1) (z.2.2.2.2.2.1) (z.2.2.2.2.2.2.1) (z.2.2.2.2.2.2.2.1) (z.2.2.2.2.2.2.2.2.1) (z.2.2.2.2.2.2.2.2.2.1) (z.2.2.2.2.2.2.2.2.2.2.1) (z.2.2.2.2.2.2.2.2.2.2.2.1) (z.2.2.2.2.2.2.2.2.2.2.2.2)=some y
theorem HS(k:Nat):cb Tryz.prog am 164 (yw k):=dr Tryz.func164 (by kernel_rfl) rfl (yw k) Tryz.ntmps164 [] (fun z=>sv k (z.1) (z.2.1) (z.2.2.1) (z.2.2.2.1) (z.2.2.2.2.1) (z.2.2.2.2.2.1) (z.2.2.2.2.2.2.1) (z.2.2.2.2.2.2.2.1) (z.2.2.2.2.2.2.2.2.1) (z.2.2.2.2.2.2.2.2.2.1) (z.2.2.2.2.2.2.2.2.2.2.1) (z.2.2.2.2.2.2.2.2.2.2.2.1) (z.2.2.2.2.2.2.2.2.2.2.2.2)) (fun _ _ h=>h) (fun st=>bu st [.ab 0 .bool,.ad 20 0 .str,.ad 20 1 au,.ad 20 2 bn,.ad 20 3 av,.ad 20 4 av,.ad 20 5 (.int .u8),.ad 20 6 .bool,.mp 21 bk bo,.ad 22 0 (.ab .str),.ad 22 1 au]) [19,20,21,22,23] [] (fun _=>.ae 3 (.dh [[],[0],[1],[2],[3],[6],[1,0],[2,0],[3,0],[6,0],[2,1],[3,1],[6,1],[3,2],[6,2],[6,3],[7,6],[2,1,0],[3,1,0],[6,1,0],[3,2,0],[6,2,0],[6,3,0],[7,6,0],[3,2,1],[6,2,1],[6,3,1],[7,6,1],[4,3,2],[6,3,2],[7,6,2],[7,6,3],[3,2,1,0],[6,2,1,0],[6,3,1,0],[7,6,1,0],[4,3,2,0],[6,3,2,0],[7,6,2,0],[7,6,3,0],[4,3,2,1],[6,3,2,1],[7,6,2,1],[7,6,3,1],[6,4,3,2],[7,6,3,2],[4,3,2,1,0],[6,3,2,1,0],[7,6,2,1,0],[7,6,3,1,0],[6,4,3,2,0],[7,6,3,2,0],[5,4,3,2,1],[6,4,3,2,1],[7,6,3,2,1],[7,6,4,3,2],[5,4,3,2,1,0],[6,4,3,2,1,0],[7,6,3,2,1,0],[7,6,4,3,2,0],[6,5,4,3,2,1],[7,6,4,3,2,1],[6,5,4,3,2,1,0],[7,6,4,3,2,1,0],[7,6,5,4,3,2,1],[7,6,5,4,3,2,1,0],[8,7,6,5,4,3,2,1,0],[9,8,7,6,5,4,3,2,1,0]] (.ae 1 (.un 15 (.jT 9 (.bI (A4 k) [(20,91),(21,92),(22,93)] [(91,20),(92,21),(93,22)] (fun _=>.z))))))) (by kernel_rfl)
noncomputable def XU(k:Nat):cD Tryz.prog am KO fY:=⟨164,yw k,fun st=>bu st [.ab 0 .str,.ab 1 (.int .i64),.ad 20 0 .str,.ad 20 1 au,.ad 20 2 bn,.ad 20 3 av,.ad 20 4 av,.ad 20 5 (.int .u8),.ad 20 6 .bool,.mp 21 bk bo,.ad 22 0 (.ab .str),.ad 22 1 au,.ad 23 0 bl],fun z=>sv k (z.1) (z.2.1) (z.2.2.1) (z.2.2.2.1) (z.2.2.2.2.1) (z.2.2.2.2.2.1) (z.2.2.2.2.2.2.1) (z.2.2.2.2.2.2.2.1) (z.2.2.2.2.2.2.2.2.1) (z.2.2.2.2.2.2.2.2.2.1) (z.2.2.2.2.2.2.2.2.2.2.1) (z.2.2.2.2.2.2.2.2.2.2.2.1) (z.2.2.2.2.2.2.2.2.2.2.2.2),(HS k),fun _ _ h=>h⟩
end Go.Ev
