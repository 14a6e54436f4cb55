/- Contracts, by program. -/
import Derived.Test.YteopobecmacgdaaGreatDoorProg
import Derived.Test.YteopobecmacgdaaGreatDoorMM6
import Derived.Test.YteopobecmacgdaaGreatDoorMM9
import Derived.Test.YteopobecmacgdaaGreatDoorCtLoP1
import Derived.Test.YteopobecmacgdaaGreatDoorCtLoP3
import Derived.KernelRfl
import Derived.Test.YteopobecmacgdaaGreatDoorTyA
set_option linter.unusedSectionVars false
set_option linter.unusedVariables false
set_option linter.unusedSimpArgs false
namespace Go.Ev
open Go Go.Proofs
set_option linter.unusedVariables false
set_option maxRecDepth 100000
noncomputable def tZ(k:Nat):bP nf fY where
 n:=35
 S:=fun z=>⟨[(0,.ptr 35 0),(1,.val bk (z.1))],[(35,.cells [bg (z.2.1),.val au (z.2.2.1),.val bj (z.2.2.2.1),.val av (z.2.2.2.2.1),.val av (z.2.2.2.2.2.1),bN (z.2.2.2.2.2.2.1),aU (z.2.2.2.2.2.2.2.1),.iter 36,.clos 161 [37]] 280),(36,.mp bi bl (z.2.2.2.2.2.2.2.2.1)),(37,.cells [.val (.ab .str) (z.2.2.2.2.2.2.2.2.2.1),.val au (z.2.2.2.2.2.2.2.2.2.2)] 25)],[]⟩
 bE:=fun z y=>⟨[],[(5,.cells [.row 10] 78),(35,.cells [bg (y.1),.val au (y.2.1),.val bj (y.2.2.1),.val av (y.2.2.2.1),.val av (y.2.2.2.2.1),bN (y.2.2.2.2.2.1),aU (y.2.2.2.2.2.2.1),.iter 36,.clos 161 [37]] 280),(36,.mp bi bl (y.2.2.2.2.2.2.2.1)),(37,.cells [.val (.ab .str) (y.2.2.2.2.2.2.2.2.1),.val au (y.2.2.2.2.2.2.2.2.2.1)] 25)],[(10,⟨4,.bool,(y.2.2.2.2.2.2.2.2.2.2)⟩)]⟩
 ap:=fun z y=>[.clos 163 [5]]
 rel:=fun z y=>qR k (z.1) (z.2.1) (z.2.2.1) (z.2.2.2.1) (z.2.2.2.2.1) (z.2.2.2.2.2.1) (z.2.2.2.2.2.2.1) (z.2.2.2.2.2.2.2.1) (z.2.2.2.2.2.2.2.2.1) (z.2.2.2.2.2.2.2.2.2.1) (z.2.2.2.2.2.2.2.2.2.2)=some y
theorem EH(k:Nat):bZ Tryz.prog am 128 (tZ k):=de Tryz.func128 (by kernel_rfl) rfl (tZ k) Tryz.ntmps128 [] (fun z=>qR k (z.1) (z.2.1) (z.2.2.1) (z.2.2.2.1) (z.2.2.2.2.1) (z.2.2.2.2.2.1) (z.2.2.2.2.2.2.1) (z.2.2.2.2.2.2.2.1) (z.2.2.2.2.2.2.2.2.1) (z.2.2.2.2.2.2.2.2.2.1) (z.2.2.2.2.2.2.2.2.2.2)) (fun _ _ h=>h) (fun st=>bp st [.ad 35 0 .str,.ad 35 1 au,.ad 35 2 bj,.ad 35 3 av,.ad 35 4 av,.ad 35 5 (.int .u8),.ad 35 6 .bool,.mp 36 bi bl,.ad 37 0 (.ab .str),.ad 37 1 au,.rw 10 4 .bool]) [5,35,36,37] [10] (fun z=>.ae 5 (.be [.ab 6 (.int .i64),.ad 35 0 .str,.ad 35 1 au,.ad 35 2 bj,.ad 35 3 av,.ad 35 4 av,.ad 35 5 (.int .u8),.ad 35 6 .bool,.mp 36 bi bl,.ad 37 0 (.ab .str),.ad 37 1 au,.rw 10 4 .bool] (az [0,1,5,6] [5,35,36,37] [10]) (fun n=>rV (CX k (z.1) n)) k fun o _=>.ae 2 (.t (.j [.ab 6 (.int .i64),.ad 35 0 .str,.ad 35 1 au,.ad 35 2 bj,.ad 35 3 av,.ad 35 4 av,.ad 35 5 (.int .u8),.ad 35 6 .bool,.mp 36 bi bl,.ad 37 0 (.ab .str),.ad 37 1 au,.rw 10 4 .bool] (az [0,1,5,6] [5,35,36,37] [10]) (rV (CU (zx o))) (.ae 1 (.bG (uW k) [(35,91),(36,92),(37,93)] [(91,35),(92,36),(93,37)] (fun _=>.t (.ae 2 (.u 0 .z))))) (fun _=>.z))))) (by kernel_rfl)
noncomputable def UA(k:Nat):cn Tryz.prog am nf fY:=⟨128,tZ k,fun st=>bp st [.ab 1 bk,.ad 35 0 .str,.ad 35 1 au,.ad 35 2 bj,.ad 35 3 av,.ad 35 4 av,.ad 35 5 (.int .u8),.ad 35 6 .bool,.mp 36 bi bl,.ad 37 0 (.ab .str),.ad 37 1 au],fun z=>qR k (z.1) (z.2.1) (z.2.2.1) (z.2.2.2.1) (z.2.2.2.2.1) (z.2.2.2.2.2.1) (z.2.2.2.2.2.2.1) (z.2.2.2.2.2.2.2.1) (z.2.2.2.2.2.2.2.2.1) (z.2.2.2.2.2.2.2.2.2.1) (z.2.2.2.2.2.2.2.2.2.2),(EH k),fun _ _ h=>h⟩
noncomputable def Aa(k:Nat):aQ:=⟨[.str,(.int .i64),(.ptr (.ab .bool))],[.bool],[(.ab .bool)],fun x=>Ix k (x.1) (x.2.1) (x.2.2)⟩
theorem Km(k:Nat):aR Tryz.prog am 163 (Aa k).aS:=bh bd Tryz.func163 (by kernel_rfl) rfl Tryz.ntmps163 (Aa k) (by kernel_rfl) [] (fun _=>.z) (by kernel_rfl)
noncomputable def N1(k:Nat):aD Tryz.prog am:=⟨163,Aa k,Km k⟩
noncomputable def Ba(k:Nat):aQ:=⟨[dz,dz],[(.int .i64)],[],fun x=>s5 k (x.1) (x.2)⟩
theorem NI(k:Nat):aR Tryz.prog am 142 (Ba k).aS:=bh bd Tryz.func142 (by kernel_rfl) rfl Tryz.ntmps142 (Ba k) (by kernel_rfl) [EN k] (fun _=>.z) (by kernel_rfl)
noncomputable def HC(k:Nat):aD Tryz.prog am:=⟨142,Ba k,NI k⟩
noncomputable def up(k:Nat):aQ:=⟨[dz,dz,sS],[(.int .i64)],[dz],fun x=>FU k (x.1) (x.2.1) (x.2.2)⟩
theorem Rm(k:Nat):aR Tryz.prog am 141 (up k).aS:=bh bd Tryz.func141 (by kernel_rfl) rfl Tryz.ntmps141 (up k) (by kernel_rfl) [HC k] (fun _=>.z) (by kernel_rfl)
noncomputable def EB(k:Nat):aD Tryz.prog am:=⟨141,up k,Rm k⟩
noncomputable def xH(k:Nat):aQ:=⟨[au,(.fn 141 (.pair sS .unit))],[dz],[],fun x=>Eg k (x.1) (x.2)⟩
theorem Rr(k:Nat):aR Tryz.prog am 92 (xH k).aS:=bh bd Tryz.func92 (by kernel_rfl) rfl Tryz.ntmps92 (xH k) (by kernel_rfl) [EB k] (fun x=>.ae 3 (.f (.ae 4 (.be [.ab 6 (.int .i64),.ad 5 0 (.int .i32),.ad 5 1 (.int .u32),.ad 5 2 (.int .u32)] (az [0,1,4,5,6] [4,5] []) (fun n=>oW (xD k (x.1) (x.2) n)) k fun o q=>.ae 2 (.t (.j [.ad 5 0 (.int .i32),.ad 5 1 (.int .u32),.ad 5 2 (.int .u32)] (az [0,1,4,5,6] [4,5] []) (fK (CL (qe o) (q.1))) (.ae 4 (.t (.u 0 .z))) (fun _=>.z))))))) (by kernel_rfl)
noncomputable def Tq(k:Nat):aD Tryz.prog am:=⟨92,xH k,Rr k⟩
noncomputable def yr(k:Nat):aQ:=⟨[bI,(.int .i32),(.int .u32),(.int .u32)],[(.int .i32),(.int .i64)],[],fun x=>Fl k (x.1) (x.2.1) (x.2.2.1) (x.2.2.2)⟩
theorem S5(k:Nat):aR Tryz.prog am 114 (yr k).aS:=bh bd Tryz.func114 (by kernel_rfl) rfl Tryz.ntmps114 (yr k) (by kernel_rfl) [nw k,rP k,EB k,Tq k] (fun _=>.z) (by kernel_rfl)
noncomputable def Lo(k:Nat):aD Tryz.prog am:=⟨114,yr k,S5 k⟩
noncomputable def xk(k:Nat):aQ:=⟨[(.int .i32),kY,(.ptr bI)],[(.int .i32)],[bI],fun x=>Hk k (x.1) (x.2.1) (x.2.2)⟩
theorem Lz(k:Nat):aR Tryz.prog am 161 (xk k).aS:=bh bd Tryz.func161 (by kernel_rfl) rfl Tryz.ntmps161 (xk k) (by kernel_rfl) [Lo k] (fun _=>.z) (by kernel_rfl)
noncomputable def Qk(k:Nat):aD Tryz.prog am:=⟨161,xk k,Lz k⟩
noncomputable def B4(k:Nat):bP nf (List (Int)) where
 n:=42
 S:=fun z=>⟨[(0,.ptr 42 0),(1,.val bk (z.1))],[(42,.cells [bg (z.2.1),.val au (z.2.2.1),.val bj (z.2.2.2.1),.val av (z.2.2.2.2.1),.val av (z.2.2.2.2.2.1),bN (z.2.2.2.2.2.2.1),aU (z.2.2.2.2.2.2.2.1),.iter 43,.clos 161 [44]] 280),(43,.mp bi bl (z.2.2.2.2.2.2.2.2.1)),(44,.cells [.val (.ab .str) (z.2.2.2.2.2.2.2.2.2.1),.val au (z.2.2.2.2.2.2.2.2.2.2)] 25)],[]⟩
 bE:=fun z y=>⟨[],[(42,.cells [bg (z.2.1),.val au (z.2.2.1),.val bj (z.2.2.2.1),.val av (z.2.2.2.2.1),.val av (z.2.2.2.2.2.1),bN (z.2.2.2.2.2.2.1),aU (z.2.2.2.2.2.2.2.1),.iter 43,.clos 161 [44]] 280),(43,.mp bi bl (z.2.2.2.2.2.2.2.2.1)),(44,.cells [.val (.ab .str) (z.2.2.2.2.2.2.2.2.2.1),.val au (z.2.2.2.2.2.2.2.2.2.2)] 25)],[(5,⟨21,(.int .i32),(y)⟩)]⟩
 ap:=fun z y=>[.row 5]
 rel:=fun z y=>pC k (z.1) (z.2.1) (z.2.2.1) (z.2.2.2.1) (z.2.2.2.2.1) (z.2.2.2.2.2.1) (z.2.2.2.2.2.2.1) (z.2.2.2.2.2.2.2.1) (z.2.2.2.2.2.2.2.2.1) (z.2.2.2.2.2.2.2.2.2.1) (z.2.2.2.2.2.2.2.2.2.2)=some y
theorem yR(k:Nat):bZ Tryz.prog am 162 (B4 k):=de Tryz.func162 (by kernel_rfl) rfl (B4 k) Tryz.ntmps162 [Qk k] (fun z=>pC k (z.1) (z.2.1) (z.2.2.1) (z.2.2.2.1) (z.2.2.2.2.1) (z.2.2.2.2.2.1) (z.2.2.2.2.2.2.1) (z.2.2.2.2.2.2.2.1) (z.2.2.2.2.2.2.2.2.1) (z.2.2.2.2.2.2.2.2.2.1) (z.2.2.2.2.2.2.2.2.2.2)) (fun _ _ h=>h) (fun st=>bp st [.rw 5 21 (.int .i32)]) [42,43,44] [5] (fun z=>.ae 6 (.be [.ab 14 (.int .i64),.rw 5 21 (.int .i32)] (az [0,1,5,12,13,14] [42,43,44] [5]) (fun n=>bY (vI k (z.2.2.2.1) (z.1) (z.2.2.2.2.2.2.2.2.2.1) (z.2.2.2.2.2.2.2.2.2.2) n)) k fun o q=>.ae 2 (.t (.j [.rw 5 21 (.int .i32)] (az [0,1,5,12,13,14] [42,43,44] [5]) (CJ (dh o) (q.1)) (.ae 3 (.f (.fl [0,1,2,3,5,6] [4,7,8,9,10,11] [12,13,14] .z))) (fun _=>.z))))) (by kernel_rfl)
noncomputable def Up(k:Nat):cn Tryz.prog am nf (List (Int)):=⟨162,B4 k,fun st=>bp st [.ab 1 bk,.ad 42 0 .str,.ad 42 1 au,.ad 42 2 bj,.ad 42 3 av,.ad 42 4 av,.ad 42 5 (.int .u8),.ad 42 6 .bool,.mp 43 bi bl,.ad 44 0 (.ab .str),.ad 44 1 au],fun z=>pC k (z.1) (z.2.1) (z.2.2.1) (z.2.2.2.1) (z.2.2.2.2.1) (z.2.2.2.2.2.1) (z.2.2.2.2.2.2.1) (z.2.2.2.2.2.2.2.1) (z.2.2.2.2.2.2.2.2.1) (z.2.2.2.2.2.2.2.2.2.1) (z.2.2.2.2.2.2.2.2.2.2),(yR k),fun _ _ h=>h⟩
end Go.Ev
