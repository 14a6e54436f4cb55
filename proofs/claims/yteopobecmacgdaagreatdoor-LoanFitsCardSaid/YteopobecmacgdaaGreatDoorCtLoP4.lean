/- Contracts, by program. -/
import Derived.Test.YteopobecmacgdaaGreatDoorProg
import Derived.Test.YteopobecmacgdaaGreatDoorMM6
import Derived.Test.YteopobecmacgdaaGreatDoorMM9
import Derived.Test.YteopobecmacgdaaGreatDoorCtLoP1
import Derived.Test.YteopobecmacgdaaGreatDoorCtLoP3
import Derived.KernelRfl
import Derived.Test.YteopobecmacgdaaGreatDoorTyA
set_option linter.unusedSectionVars false
set_option linter.unusedVariables false
set_option linter.unusedSimpArgs false
namespace Go.Ev
open Go Go.Proofs
set_option linter.unusedVariables false
set_option maxRecDepth 100000
noncomputable def wS(k:Nat):bU o8 gA where
 n:=35
 S:=fun z=>⟨[(0,.ptr 35 0),(1,.val bl (z.1))],[(35,.cells [bj (z.2.1),.val au (z.2.2.1),.val bn (z.2.2.2.1),.val av (z.2.2.2.2.1),.val av (z.2.2.2.2.2.1),bR (z.2.2.2.2.2.2.1),aY (z.2.2.2.2.2.2.2.1),.iter 36,.clos 161 [37]] 280),(36,.mp bk bo (z.2.2.2.2.2.2.2.2.1)),(37,.cells [.val (.ab .str) (z.2.2.2.2.2.2.2.2.2.1),.val au (z.2.2.2.2.2.2.2.2.2.2)] 25)],[]⟩
 bJ:=fun z y=>⟨[],[(5,.cells [.row 10] 78),(35,.cells [bj (y.1),.val au (y.2.1),.val bn (y.2.2.1),.val av (y.2.2.2.1),.val av (y.2.2.2.2.1),bR (y.2.2.2.2.2.1),aY (y.2.2.2.2.2.2.1),.iter 36,.clos 161 [37]] 280),(36,.mp bk bo (y.2.2.2.2.2.2.2.1)),(37,.cells [.val (.ab .str) (y.2.2.2.2.2.2.2.2.1),.val au (y.2.2.2.2.2.2.2.2.2.1)] 25)],[(10,⟨4,.bool,(y.2.2.2.2.2.2.2.2.2.2)⟩)]⟩
 ap:=fun z y=>[.clos 163 [5]]
 rel:=fun z y=>vo k (z.1) (z.2.1) (z.2.2.1) (z.2.2.2.1) (z.2.2.2.2.1) (z.2.2.2.2.2.1) (z.2.2.2.2.2.2.1) (z.2.2.2.2.2.2.2.1) (z.2.2.2.2.2.2.2.2.1) (z.2.2.2.2.2.2.2.2.2.1) (z.2.2.2.2.2.2.2.2.2.2)=some y
theorem GR(k:Nat):cb Tryz.prog am 128 (wS k):=dr Tryz.func128 (by kernel_rfl) rfl (wS k) Tryz.ntmps128 [] (fun z=>vo k (z.1) (z.2.1) (z.2.2.1) (z.2.2.2.1) (z.2.2.2.2.1) (z.2.2.2.2.2.1) (z.2.2.2.2.2.2.1) (z.2.2.2.2.2.2.2.1) (z.2.2.2.2.2.2.2.2.1) (z.2.2.2.2.2.2.2.2.2.1) (z.2.2.2.2.2.2.2.2.2.2)) (fun _ _ h=>h) (fun st=>bu st [.ad 35 0 .str,.ad 35 1 au,.ad 35 2 bn,.ad 35 3 av,.ad 35 4 av,.ad 35 5 (.int .u8),.ad 35 6 .bool,.mp 36 bk bo,.ad 37 0 (.ab .str),.ad 37 1 au,.rw 10 4 .bool]) [5,35,36,37] [10] (fun z=>.ae 5 (.bg [.ab 6 (.int .i64),.ad 35 0 .str,.ad 35 1 au,.ad 35 2 bn,.ad 35 3 av,.ad 35 4 av,.ad 35 5 (.int .u8),.ad 35 6 .bool,.mp 36 bk bo,.ad 37 0 (.ab .str),.ad 37 1 au,.rw 10 4 .bool] (aB [0,1,5,6] [5,35,36,37] [10]) (fun n=>ug (zR k (z.1) n)) k fun o _=>.ae 2 (.t (.j [.ab 6 (.int .i64),.ad 35 0 .str,.ad 35 1 au,.ad 35 2 bn,.ad 35 3 av,.ad 35 4 av,.ad 35 5 (.int .u8),.ad 35 6 .bool,.mp 36 bk bo,.ad 37 0 (.ab .str),.ad 37 1 au,.rw 10 4 .bool] (aB [0,1,5,6] [5,35,36,37] [10]) (ug (xA (zv o))) (.ae 1 (.bI (A4 k) [(35,91),(36,92),(37,93)] [(91,35),(92,36),(93,37)] (fun _=>.t (.ae 2 (.u 0 .z))))) (fun _=>.z))))) (by kernel_rfl)
noncomputable def X0(k:Nat):cD Tryz.prog am o8 gA:=⟨128,wS k,fun st=>bu st [.ab 1 bl,.ad 35 0 .str,.ad 35 1 au,.ad 35 2 bn,.ad 35 3 av,.ad 35 4 av,.ad 35 5 (.int .u8),.ad 35 6 .bool,.mp 36 bk bo,.ad 37 0 (.ab .str),.ad 37 1 au],fun z=>vo k (z.1) (z.2.1) (z.2.2.1) (z.2.2.2.1) (z.2.2.2.2.1) (z.2.2.2.2.2.1) (z.2.2.2.2.2.2.1) (z.2.2.2.2.2.2.2.1) (z.2.2.2.2.2.2.2.2.1) (z.2.2.2.2.2.2.2.2.2.1) (z.2.2.2.2.2.2.2.2.2.2),(GR k),fun _ _ h=>h⟩
noncomputable def xd(k:Nat):aU:=⟨[.str,(.int .i64),(.ptr (.ab .bool))],[.bool],[(.ab .bool)],fun x=>GK k (x.1) (x.2.1) (x.2.2)⟩
theorem Om(k:Nat):aV Tryz.prog am 163 (xd k).aW:=bi bf Tryz.func163 (by kernel_rfl) rfl Tryz.ntmps163 (xd k) (by kernel_rfl) [] (fun _=>.z) (by kernel_rfl)
noncomputable def VP(k:Nat):aF Tryz.prog am:=⟨163,xd k,Om k⟩
noncomputable def Bz(k:Nat):aU:=⟨[dK,dK],[(.int .i64)],[],fun x=>tq k (x.1) (x.2)⟩
theorem M6(k:Nat):aV Tryz.prog am 142 (Bz k).aW:=bi bf Tryz.func142 (by kernel_rfl) rfl Tryz.ntmps142 (Bz k) (by kernel_rfl) [JK k] (fun _=>.z) (by kernel_rfl)
noncomputable def If(k:Nat):aF Tryz.prog am:=⟨142,Bz k,M6 k⟩
noncomputable def CZ(k:Nat):aU:=⟨[dK,dK,uU],[(.int .i64)],[dK],fun x=>LH k (x.1) (x.2.1) (x.2.2)⟩
theorem Wx(k:Nat):aV Tryz.prog am 141 (CZ k).aW:=bi bf Tryz.func141 (by kernel_rfl) rfl Tryz.ntmps141 (CZ k) (by kernel_rfl) [If k] (fun _=>.z) (by kernel_rfl)
noncomputable def Jc(k:Nat):aF Tryz.prog am:=⟨141,CZ k,Wx k⟩
noncomputable def yx(k:Nat):aU:=⟨[au,(.fn 141 (.pair uU .unit))],[dK],[],fun x=>F2 k (x.1) (x.2)⟩
theorem UD(k:Nat):aV Tryz.prog am 92 (yx k).aW:=bi bf Tryz.func92 (by kernel_rfl) rfl Tryz.ntmps92 (yx k) (by kernel_rfl) [Jc k] (fun x=>.ae 3 (.f (.ae 4 (.bg [.ab 6 (.int .i64),.ad 5 0 (.int .i32),.ad 5 1 (.int .u32),.ad 5 2 (.int .u32)] (aB [0,1,4,5,6] [4,5] []) (fun n=>qk (AC k (x.1) (x.2) n)) k fun o q=>.ae 2 (.t (.j [.ad 5 0 (.int .i32),.ad 5 1 (.int .u32),.ad 5 2 (.int .u32)] (aB [0,1,4,5,6] [4,5] []) (gj (yg (tX o) (q.1))) (.ae 4 (.t (.u 0 .z))) (fun _=>.z))))))) (by kernel_rfl)
noncomputable def WB(k:Nat):aF Tryz.prog am:=⟨92,yx k,UD k⟩
noncomputable def DZ(k:Nat):aU:=⟨[bP,(.int .i32),(.int .u32),(.int .u32)],[(.int .i32),(.int .i64)],[],fun x=>JV k (x.1) (x.2.1) (x.2.2.1) (x.2.2.2)⟩
theorem SW(k:Nat):aV Tryz.prog am 114 (DZ k).aW:=bi bf Tryz.func114 (by kernel_rfl) rfl Tryz.ntmps114 (DZ k) (by kernel_rfl) [oV k,tv k,Jc k,WB k] (fun _=>.z) (by kernel_rfl)
noncomputable def Oy(k:Nat):aF Tryz.prog am:=⟨114,DZ k,SW k⟩
noncomputable def yX(k:Nat):aU:=⟨[(.int .i32),nd,(.ptr bP)],[(.int .i32)],[bP],fun x=>Ft k (x.1) (x.2.1) (x.2.2)⟩
theorem Ws(k:Nat):aV Tryz.prog am 161 (yX k).aW:=bi bf Tryz.func161 (by kernel_rfl) rfl Tryz.ntmps161 (yX k) (by kernel_rfl) [Oy k] (fun _=>.z) (by kernel_rfl)
noncomputable def Rn(k:Nat):aF Tryz.prog am:=⟨161,yX k,Ws k⟩
noncomputable def zS(k:Nat):bU o8 (List (Int)) where
 n:=42
 S:=fun z=>⟨[(0,.ptr 42 0),(1,.val bl (z.1))],[(42,.cells [bj (z.2.1),.val au (z.2.2.1),.val bn (z.2.2.2.1),.val av (z.2.2.2.2.1),.val av (z.2.2.2.2.2.1),bR (z.2.2.2.2.2.2.1),aY (z.2.2.2.2.2.2.2.1),.iter 43,.clos 161 [44]] 280),(43,.mp bk bo (z.2.2.2.2.2.2.2.2.1)),(44,.cells [.val (.ab .str) (z.2.2.2.2.2.2.2.2.2.1),.val au (z.2.2.2.2.2.2.2.2.2.2)] 25)],[]⟩
 bJ:=fun z y=>⟨[],[(42,.cells [bj (z.2.1),.val au (z.2.2.1),.val bn (z.2.2.2.1),.val av (z.2.2.2.2.1),.val av (z.2.2.2.2.2.1),bR (z.2.2.2.2.2.2.1),aY (z.2.2.2.2.2.2.2.1),.iter 43,.clos 161 [44]] 280),(43,.mp bk bo (z.2.2.2.2.2.2.2.2.1)),(44,.cells [.val (.ab .str) (z.2.2.2.2.2.2.2.2.2.1),.val au (z.2.2.2.2.2.2.2.2.2.2)] 25)],[(5,⟨21,(.int .i32),(y)⟩)]⟩
 ap:=fun z y=>[.row 5]
 rel:=fun z y=>pO k (z.1) (z.2.1) (z.2.2.1) (z.2.2.2.1) (z.2.2.2.2.1) (z.2.2.2.2.2.1) (z.2.2.2.2.2.2.1) (z.2.2.2.2.2.2.2.1) (z.2.2.2.2.2.2.2.2.1) (z.2.2.2.2.2.2.2.2.2.1) (z.2.2.2.2.2.2.2.2.2.2)=some y
theorem yv(k:Nat):cb Tryz.prog am 162 (zS k):=dr Tryz.func162 (by kernel_rfl) rfl (zS k) Tryz.ntmps162 [Rn k] (fun z=>pO k (z.1) (z.2.1) (z.2.2.1) (z.2.2.2.1) (z.2.2.2.2.1) (z.2.2.2.2.2.1) (z.2.2.2.2.2.2.1) (z.2.2.2.2.2.2.2.1) (z.2.2.2.2.2.2.2.2.1) (z.2.2.2.2.2.2.2.2.2.1) (z.2.2.2.2.2.2.2.2.2.2)) (fun _ _ h=>h) (fun st=>bu st [.rw 5 21 (.int .i32)]) [42,43,44] [5] (fun z=>.ae 6 (.bg [.ab 14 (.int .i64),.rw 5 21 (.int .i32)] (aB [0,1,5,12,13,14] [42,43,44] [5]) (fun n=>b7 (A8 k (z.2.2.2.1) (z.1) (z.2.2.2.2.2.2.2.2.2.1) (z.2.2.2.2.2.2.2.2.2.2) n)) k fun o q=>.ae 2 (.t (.j [.rw 5 21 (.int .i32)] (aB [0,1,5,12,13,14] [42,43,44] [5]) (DO (dq o) (q.1)) (.ae 3 (.f (.fO [0,1,2,3,5,6] [4,7,8,9,10,11] [12,13,14] .z))) (fun _=>.z))))) (by kernel_rfl)
noncomputable def XY(k:Nat):cD Tryz.prog am o8 (List (Int)):=⟨162,zS k,fun st=>bu st [.ab 1 bl,.ad 42 0 .str,.ad 42 1 au,.ad 42 2 bn,.ad 42 3 av,.ad 42 4 av,.ad 42 5 (.int .u8),.ad 42 6 .bool,.mp 43 bk bo,.ad 44 0 (.ab .str),.ad 44 1 au],fun z=>pO k (z.1) (z.2.1) (z.2.2.1) (z.2.2.2.1) (z.2.2.2.2.1) (z.2.2.2.2.2.1) (z.2.2.2.2.2.2.1) (z.2.2.2.2.2.2.2.1) (z.2.2.2.2.2.2.2.2.1) (z.2.2.2.2.2.2.2.2.2.1) (z.2.2.2.2.2.2.2.2.2.2),(yv k),fun _ _ h=>h⟩
end Go.Ev
