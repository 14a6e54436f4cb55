/- Contracts, by program. -/
import Derived.Test.YteopobecmacgdaaGreatDoorProg
import Derived.Test.YteopobecmacgdaaGreatDoorMM6
import Derived.Test.YteopobecmacgdaaGreatDoorMM9
import Derived.Test.YteopobecmacgdaaGreatDoorMM10
import Derived.Test.YteopobecmacgdaaGreatDoorCtLoP3
import Derived.KernelRfl
import Derived.Test.YteopobecmacgdaaGreatDoorTyA
set_option linter.unusedSectionVars false
set_option linter.unusedVariables false
set_option linter.unusedSimpArgs false
namespace Go.Ev
open Go Go.Proofs
set_option linter.unusedVariables false
set_option maxRecDepth 100000
noncomputable def AO(k:Nat):b8 qt (List (Int)) where
 n:=6
 S:=fun z=>⟨[(0,.ptr 6 0),(1,.val bq (z.1))],[(6,.cells [bo (z.2.1),.val av (z.2.2.1),.val bt (z.2.2.2.1),.val aw (z.2.2.2.2.1),.val aw (z.2.2.2.2.2.1),bZ (z.2.2.2.2.2.2.1),a8 (z.2.2.2.2.2.2.2.1),.iter 7,.clos 161 [8]] 280),(7,.mp bp bu (z.2.2.2.2.2.2.2.2.1)),(8,.cells [.val (.ab .str) (z.2.2.2.2.2.2.2.2.2.1),.val av (z.2.2.2.2.2.2.2.2.2.2)] 25)],[]⟩
 bg:=fun z y=>⟨[],[(2,.cells [.ptr 6 0] 240),(3,.cells [.val bq (y)] 61),(6,.cells [bo (z.2.1),.val av (z.2.2.1),.val bt (z.2.2.2.1),.val aw (z.2.2.2.2.1),.val aw (z.2.2.2.2.2.1),bZ (z.2.2.2.2.2.2.1),a8 (z.2.2.2.2.2.2.2.1),.iter 7,.clos 161 [8]] 280),(7,.mp bp bu (z.2.2.2.2.2.2.2.2.1)),(8,.cells [.val (.ab .str) (z.2.2.2.2.2.2.2.2.2.1),.val av (z.2.2.2.2.2.2.2.2.2.2)] 25)],[]⟩
 aq:=fun z y=>[.clos 164 [2,3]]
 rel:=fun z y=>rX k (z.1) (z.2.1) (z.2.2.1) (z.2.2.2.1) (z.2.2.2.2.1) (z.2.2.2.2.2.1) (z.2.2.2.2.2.2.1) (z.2.2.2.2.2.2.2.1) (z.2.2.2.2.2.2.2.2.1) (z.2.2.2.2.2.2.2.2.2.1) (z.2.2.2.2.2.2.2.2.2.2)=some y
theorem Pl(k:Nat):cq Tryz.prog am 129 (AO k):=dO Tryz.func129 (by kernel_rfl) rfl (AO k) Tryz.ntmps129 [] (fun z=>rX k (z.1) (z.2.1) (z.2.2.1) (z.2.2.2.1) (z.2.2.2.2.1) (z.2.2.2.2.2.1) (z.2.2.2.2.2.2.1) (z.2.2.2.2.2.2.2.1) (z.2.2.2.2.2.2.2.2.1) (z.2.2.2.2.2.2.2.2.2.1) (z.2.2.2.2.2.2.2.2.2.2)) (fun _ _ h=>h) (fun st=>bz st [.ae 3 0 bq]) [2,3,6,7,8] [] (fun _=>.z) (by kernel_rfl)
noncomputable def acz(k:Nat):cX Tryz.prog am qt (List (Int)):=⟨129,AO k,fun st=>bz st [.ab 1 bq,.ae 6 0 .str,.ae 6 1 av,.ae 6 2 bt,.ae 6 3 aw,.ae 6 4 aw,.ae 6 5 (.int .u8),.ae 6 6 .bool,.mp 7 bp bu,.ae 8 0 (.ab .str),.ae 8 1 av],fun z=>rX k (z.1) (z.2.1) (z.2.2.1) (z.2.2.2.1) (z.2.2.2.2.1) (z.2.2.2.2.2.1) (z.2.2.2.2.2.2.1) (z.2.2.2.2.2.2.2.1) (z.2.2.2.2.2.2.2.2.1) (z.2.2.2.2.2.2.2.2.2.1) (z.2.2.2.2.2.2.2.2.2.2),(Pl k),fun _ _ h=>h⟩
noncomputable def C8(k:Nat):b8 N2 gE where
 n:=19
 S:=fun z=>⟨[(0,bo (z.1)),(1,ay (z.2.1)),(2,.ptr 19 0),(3,.ptr 23 0)],[(19,.cells [.ptr 20 0] 240),(20,.cells [bo (z.2.2.1),.val av (z.2.2.2.1),.val bt (z.2.2.2.2.1),.val aw (z.2.2.2.2.2.1),.val aw (z.2.2.2.2.2.2.1),bZ (z.2.2.2.2.2.2.2.1),a8 (z.2.2.2.2.2.2.2.2.1),.iter 21,.clos 161 [22]] 280),(21,.mp bp bu (z.2.2.2.2.2.2.2.2.2.1)),(22,.cells [.val (.ab .str) (z.2.2.2.2.2.2.2.2.2.2.1),.val av (z.2.2.2.2.2.2.2.2.2.2.2.1)] 25),(23,.cells [.val bq (z.2.2.2.2.2.2.2.2.2.2.2.2)] 61)],[]⟩
 bg:=fun z y=>⟨[],[(19,.cells [.ptr 20 0] 240),(20,.cells [bo (y.2.1),.val av (y.2.2.1),.val bt (y.2.2.2.1),.val aw (y.2.2.2.2.1),.val aw (y.2.2.2.2.2.1),bZ (y.2.2.2.2.2.2.1),a8 (y.2.2.2.2.2.2.2.1),.iter 21,.clos 161 [22]] 280),(21,.mp bp bu (y.2.2.2.2.2.2.2.2.1)),(22,.cells [.val (.ab .str) (y.2.2.2.2.2.2.2.2.2.1),.val av (y.2.2.2.2.2.2.2.2.2.2)] 25),(23,.cells [.val bq (z.2.2.2.2.2.2.2.2.2.2.2.2)] 61)],[]⟩
 aq:=fun z y=>[a8 (y.1)]
 rel:=fun z y=>qK k (z.1) (z.2.1) (z.2.2.1) (z.2.2.2.1) (z.2.2.2.2.1) (z.2.2.2.2.2.1) (z.2.2.2.2.2.2.1) (z.2.2.2.2.2.2.2.1) (z.2.2.2.2.2.2.2.2.1) (z.2.2.2.2.2.2.2.2.2.1) (z.2.2.2.2.2.2.2.2.2.2.1) (z.2.2.2.2.2.2.2.2.2.2.2.1) (z.2.2.2.2.2.2.2.2.2.2.2.2)=some y
theorem KP(k:Nat):cq Tryz.prog am 164 (C8 k):=dO Tryz.func164 (by kernel_rfl) rfl (C8 k) Tryz.ntmps164 [] (fun z=>qK k (z.1) (z.2.1) (z.2.2.1) (z.2.2.2.1) (z.2.2.2.2.1) (z.2.2.2.2.2.1) (z.2.2.2.2.2.2.1) (z.2.2.2.2.2.2.2.1) (z.2.2.2.2.2.2.2.2.1) (z.2.2.2.2.2.2.2.2.2.1) (z.2.2.2.2.2.2.2.2.2.2.1) (z.2.2.2.2.2.2.2.2.2.2.2.1) (z.2.2.2.2.2.2.2.2.2.2.2.2)) (fun _ _ h=>h) (fun st=>bz st [.ab 0 .bool,.ae 20 0 .str,.ae 20 1 av,.ae 20 2 bt,.ae 20 3 aw,.ae 20 4 aw,.ae 20 5 (.int .u8),.ae 20 6 .bool,.mp 21 bp bu,.ae 22 0 (.ab .str),.ae 22 1 av]) [19,20,21,22,23] [] (fun _=>.ad 3 (.cT [[],[0],[1],[2],[3],[6],[1,0],[2,0],[3,0],[6,0],[2,1],[3,1],[6,1],[3,2],[6,2],[6,3],[7,6],[2,1,0],[3,1,0],[6,1,0],[3,2,0],[6,2,0],[6,3,0],[7,6,0],[3,2,1],[6,2,1],[6,3,1],[7,6,1],[4,3,2],[6,3,2],[7,6,2],[7,6,3],[3,2,1,0],[6,2,1,0],[6,3,1,0],[7,6,1,0],[4,3,2,0],[6,3,2,0],[7,6,2,0],[7,6,3,0],[4,3,2,1],[6,3,2,1],[7,6,2,1],[7,6,3,1],[6,4,3,2],[7,6,3,2],[4,3,2,1,0],[6,3,2,1,0],[7,6,2,1,0],[7,6,3,1,0],[6,4,3,2,0],[7,6,3,2,0],[5,4,3,2,1],[6,4,3,2,1],[7,6,3,2,1],[7,6,4,3,2],[5,4,3,2,1,0],[6,4,3,2,1,0],[7,6,3,2,1,0],[7,6,4,3,2,0],[6,5,4,3,2,1],[7,6,4,3,2,1],[6,5,4,3,2,1,0],[7,6,4,3,2,1,0],[7,6,5,4,3,2,1],[7,6,5,4,3,2,1,0],[8,7,6,5,4,3,2,1,0],[9,8,7,6,5,4,3,2,1,0]] (.ad 1 (.un 15 (.mV 9 (.bQ (Bm k) [(20,91),(21,92),(22,93)] [(91,20),(92,21),(93,22)] (fun _=>.z))))))) (by kernel_rfl)
noncomputable def acs(k:Nat):cX Tryz.prog am N2 gE:=⟨164,C8 k,fun st=>bz st [.ab 0 .str,.ab 1 (.int .i64),.ae 20 0 .str,.ae 20 1 av,.ae 20 2 bt,.ae 20 3 aw,.ae 20 4 aw,.ae 20 5 (.int .u8),.ae 20 6 .bool,.mp 21 bp bu,.ae 22 0 (.ab .str),.ae 22 1 av,.ae 23 0 bq],fun z=>qK k (z.1) (z.2.1) (z.2.2.1) (z.2.2.2.1) (z.2.2.2.2.1) (z.2.2.2.2.2.1) (z.2.2.2.2.2.2.1) (z.2.2.2.2.2.2.2.1) (z.2.2.2.2.2.2.2.2.1) (z.2.2.2.2.2.2.2.2.2.1) (z.2.2.2.2.2.2.2.2.2.2.1) (z.2.2.2.2.2.2.2.2.2.2.2.1) (z.2.2.2.2.2.2.2.2.2.2.2.2),(KP k),fun _ _ h=>h⟩
end Go.Ev
