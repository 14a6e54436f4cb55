/- Contracts, by program. -/
import Derived.Test.YteopobecmacgdaaGreatDoorProg
import Derived.Test.YteopobecmacgdaaGreatDoorMM6
import Derived.Test.YteopobecmacgdaaGreatDoorMM9
import Derived.Test.YteopobecmacgdaaGreatDoorMM10
import Derived.Test.YteopobecmacgdaaGreatDoorCtLoP1
import Derived.Test.YteopobecmacgdaaGreatDoorCtLoP3
import Derived.KernelRfl
import Derived.Test.YteopobecmacgdaaGreatDoorTyA
set_option linter.unusedSectionVars false
set_option linter.unusedVariables false
set_option linter.unusedSimpArgs false
namespace Go.Ev
open Go Go.Proofs
set_option linter.unusedVariables false
set_option maxRecDepth 100000
noncomputable def DT(k:Nat):b8 qt ii where
 n:=35
 S:=fun z=>⟨[(0,.ptr 35 0),(1,.val bq (z.1))],[(35,.cells [bo (z.2.1),.val av (z.2.2.1),.val bt (z.2.2.2.1),.val aw (z.2.2.2.2.1),.val aw (z.2.2.2.2.2.1),bZ (z.2.2.2.2.2.2.1),a8 (z.2.2.2.2.2.2.2.1),.iter 36,.clos 161 [37]] 280),(36,.mp bp bu (z.2.2.2.2.2.2.2.2.1)),(37,.cells [.val (.ab .str) (z.2.2.2.2.2.2.2.2.2.1),.val av (z.2.2.2.2.2.2.2.2.2.2)] 25)],[]⟩
 bg:=fun z y=>⟨[],[(5,.cells [.row 10] 78),(35,.cells [bo (y.1),.val av (y.2.1),.val bt (y.2.2.1),.val aw (y.2.2.2.1),.val aw (y.2.2.2.2.1),bZ (y.2.2.2.2.2.1),a8 (y.2.2.2.2.2.2.1),.iter 36,.clos 161 [37]] 280),(36,.mp bp bu (y.2.2.2.2.2.2.2.1)),(37,.cells [.val (.ab .str) (y.2.2.2.2.2.2.2.2.1),.val av (y.2.2.2.2.2.2.2.2.2.1)] 25)],[(10,⟨4,.bool,(y.2.2.2.2.2.2.2.2.2.2)⟩)]⟩
 aq:=fun z y=>[.clos 163 [5]]
 rel:=fun z y=>ti k (z.1) (z.2.1) (z.2.2.1) (z.2.2.2.1) (z.2.2.2.2.1) (z.2.2.2.2.2.1) (z.2.2.2.2.2.2.1) (z.2.2.2.2.2.2.2.1) (z.2.2.2.2.2.2.2.2.1) (z.2.2.2.2.2.2.2.2.2.1) (z.2.2.2.2.2.2.2.2.2.2)=some y
theorem JE(k:Nat):cq Tryz.prog am 128 (DT k):=dO Tryz.func128 (by kernel_rfl) rfl (DT k) Tryz.ntmps128 [] (fun z=>ti k (z.1) (z.2.1) (z.2.2.1) (z.2.2.2.1) (z.2.2.2.2.1) (z.2.2.2.2.2.1) (z.2.2.2.2.2.2.1) (z.2.2.2.2.2.2.2.1) (z.2.2.2.2.2.2.2.2.1) (z.2.2.2.2.2.2.2.2.2.1) (z.2.2.2.2.2.2.2.2.2.2)) (fun _ _ h=>h) (fun st=>bz st [.ae 35 0 .str,.ae 35 1 av,.ae 35 2 bt,.ae 35 3 aw,.ae 35 4 aw,.ae 35 5 (.int .u8),.ae 35 6 .bool,.mp 36 bp bu,.ae 37 0 (.ab .str),.ae 37 1 av,.rw 10 4 .bool]) [5,35,36,37] [10] (fun z=>.ad 5 (.bi [.ab 6 (.int .i64),.ae 35 0 .str,.ae 35 1 av,.ae 35 2 bt,.ae 35 3 aw,.ae 35 4 aw,.ae 35 5 (.int .u8),.ae 35 6 .bool,.mp 36 bp bu,.ae 37 0 (.ab .str),.ae 37 1 av,.rw 10 4 .bool] (aB [0,1,5,6] [5,35,36,37] [10]) (fun n=>zC (p7 k (z.1) n)) k fun o _=>.ad 2 (.t (.j [.ab 6 (.int .i64),.ae 35 0 .str,.ae 35 1 av,.ae 35 2 bt,.ae 35 3 aw,.ae 35 4 aw,.ae 35 5 (.int .u8),.ae 35 6 .bool,.mp 36 bp bu,.ae 37 0 (.ab .str),.ae 37 1 av,.rw 10 4 .bool] (aB [0,1,5,6] [5,35,36,37] [10]) (zC (uZ (Dw o))) (.ad 1 (.bQ (Bm k) [(35,91),(36,92),(37,93)] [(91,35),(92,36),(93,37)] (fun _=>.t (.ad 2 (.u 0 .z))))) (fun _=>.z))))) (by kernel_rfl)
noncomputable def acu(k:Nat):cX Tryz.prog am qt ii:=⟨128,DT k,fun st=>bz st [.ab 1 bq,.ae 35 0 .str,.ae 35 1 av,.ae 35 2 bt,.ae 35 3 aw,.ae 35 4 aw,.ae 35 5 (.int .u8),.ae 35 6 .bool,.mp 36 bp bu,.ae 37 0 (.ab .str),.ae 37 1 av],fun z=>ti k (z.1) (z.2.1) (z.2.2.1) (z.2.2.2.1) (z.2.2.2.2.1) (z.2.2.2.2.2.1) (z.2.2.2.2.2.2.1) (z.2.2.2.2.2.2.2.1) (z.2.2.2.2.2.2.2.2.1) (z.2.2.2.2.2.2.2.2.2.1) (z.2.2.2.2.2.2.2.2.2.2),(JE k),fun _ _ h=>h⟩
noncomputable def F9(k:Nat):aS:=⟨[.str,(.int .i64),(.ptr (.ab .bool))],[.bool],[(.ab .bool)],fun x=>Dq k (x.1) (x.2.1) (x.2.2)⟩
theorem abl(k:Nat):aV Tryz.prog am 163 (F9 k).aT:=bl bk Tryz.func163 (by kernel_rfl) rfl Tryz.ntmps163 (F9 k) (by kernel_rfl) [] (fun _=>.z) (by kernel_rfl)
noncomputable def UJ(k:Nat):aG Tryz.prog am:=⟨163,F9 k,abl k⟩
noncomputable def DU(k:Nat):aS:=⟨[eh,eh],[(.int .i64)],[],fun x=>rn k (x.1) (x.2)⟩
theorem QN(k:Nat):aV Tryz.prog am 142 (DU k).aT:=bl bk Tryz.func142 (by kernel_rfl) rfl Tryz.ntmps142 (DU k) (by kernel_rfl) [NG k] (fun _=>.z) (by kernel_rfl)
noncomputable def Jj(k:Nat):aG Tryz.prog am:=⟨142,DU k,QN k⟩
noncomputable def HB(k:Nat):aS:=⟨[eh,eh,wj],[(.int .i64)],[eh],fun x=>ED k (x.1) (x.2.1) (x.2.2)⟩
theorem abY(k:Nat):aV Tryz.prog am 141 (HB k).aT:=bl bk Tryz.func141 (by kernel_rfl) rfl Tryz.ntmps141 (HB k) (by kernel_rfl) [Jj k] (fun _=>.z) (by kernel_rfl)
noncomputable def HR(k:Nat):aG Tryz.prog am:=⟨141,HB k,abY k⟩
noncomputable def Hg(k:Nat):aS:=⟨[av,(.fn 141 (.pair wj .unit))],[eh],[],fun x=>G6 k (x.1) (x.2)⟩
theorem YL(k:Nat):aV Tryz.prog am 92 (Hg k).aT:=bl bk Tryz.func92 (by kernel_rfl) rfl Tryz.ntmps92 (Hg k) (by kernel_rfl) [HR k] (fun x=>.ad 3 (.f (.ad 4 (.bi [.ab 6 (.int .i64),.ae 5 0 (.int .i32),.ae 5 1 (.int .u32),.ae 5 2 (.int .u32)] (aB [0,1,4,5,6] [4,5] []) (fun n=>uH (sx k (x.1) (x.2) n)) k fun o q=>.ad 2 (.t (.j [.ae 5 0 (.int .i32),.ae 5 1 (.int .u32),.ae 5 2 (.int .u32)] (aB [0,1,4,5,6] [4,5] []) (gD (zD (vZ o) (q.1))) (.ad 4 (.t (.u 0 .z))) (fun _=>.z))))))) (by kernel_rfl)
noncomputable def Xy(k:Nat):aG Tryz.prog am:=⟨92,Hg k,YL k⟩
noncomputable def E0(k:Nat):aS:=⟨[bV,(.int .i32),(.int .u32),(.int .u32)],[(.int .i32),(.int .i64)],[],fun x=>wX k (x.1) (x.2.1) (x.2.2.1) (x.2.2.2)⟩
theorem Zb(k:Nat):aV Tryz.prog am 114 (E0 k).aT:=bl bk Tryz.func114 (by kernel_rfl) rfl Tryz.ntmps114 (E0 k) (by kernel_rfl) [p9 k,yl k,HR k,Xy k] (fun _=>.z) (by kernel_rfl)
noncomputable def X5(k:Nat):aG Tryz.prog am:=⟨114,E0 k,Zb k⟩
noncomputable def EL(k:Nat):aS:=⟨[(.int .i32),pp,(.ptr bV)],[(.int .i32)],[bV],fun x=>DB k (x.1) (x.2.1) (x.2.2)⟩
theorem Xp(k:Nat):aV Tryz.prog am 161 (EL k).aT:=bl bk Tryz.func161 (by kernel_rfl) rfl Tryz.ntmps161 (EL k) (by kernel_rfl) [X5 k] (fun _=>.z) (by kernel_rfl)
noncomputable def ZX(k:Nat):aG Tryz.prog am:=⟨161,EL k,Xp k⟩
noncomputable def Dj(k:Nat):b8 qt (List (Int)) where
 n:=42
 S:=fun z=>⟨[(0,.ptr 42 0),(1,.val bq (z.1))],[(42,.cells [bo (z.2.1),.val av (z.2.2.1),.val bt (z.2.2.2.1),.val aw (z.2.2.2.2.1),.val aw (z.2.2.2.2.2.1),bZ (z.2.2.2.2.2.2.1),a8 (z.2.2.2.2.2.2.2.1),.iter 43,.clos 161 [44]] 280),(43,.mp bp bu (z.2.2.2.2.2.2.2.2.1)),(44,.cells [.val (.ab .str) (z.2.2.2.2.2.2.2.2.2.1),.val av (z.2.2.2.2.2.2.2.2.2.2)] 25)],[]⟩
 bg:=fun z y=>⟨[],[(42,.cells [bo (z.2.1),.val av (z.2.2.1),.val bt (z.2.2.2.1),.val aw (z.2.2.2.2.1),.val aw (z.2.2.2.2.2.1),bZ (z.2.2.2.2.2.2.1),a8 (z.2.2.2.2.2.2.2.1),.iter 43,.clos 161 [44]] 280),(43,.mp bp bu (z.2.2.2.2.2.2.2.2.1)),(44,.cells [.val (.ab .str) (z.2.2.2.2.2.2.2.2.2.1),.val av (z.2.2.2.2.2.2.2.2.2.2)] 25)],[(5,⟨21,(.int .i32),(y)⟩)]⟩
 aq:=fun z y=>[.row 5]
 rel:=fun z y=>pg k (z.1) (z.2.1) (z.2.2.1) (z.2.2.2.1) (z.2.2.2.2.1) (z.2.2.2.2.2.1) (z.2.2.2.2.2.2.1) (z.2.2.2.2.2.2.2.1) (z.2.2.2.2.2.2.2.2.1) (z.2.2.2.2.2.2.2.2.2.1) (z.2.2.2.2.2.2.2.2.2.2)=some y
theorem DA(k:Nat):cq Tryz.prog am 162 (Dj k):=dO Tryz.func162 (by kernel_rfl) rfl (Dj k) Tryz.ntmps162 [ZX k] (fun z=>pg k (z.1) (z.2.1) (z.2.2.1) (z.2.2.2.1) (z.2.2.2.2.1) (z.2.2.2.2.2.1) (z.2.2.2.2.2.2.1) (z.2.2.2.2.2.2.2.1) (z.2.2.2.2.2.2.2.2.1) (z.2.2.2.2.2.2.2.2.2.1) (z.2.2.2.2.2.2.2.2.2.2)) (fun _ _ h=>h) (fun st=>bz st [.rw 5 21 (.int .i32)]) [42,43,44] [5] (fun z=>.ad 6 (.bi [.ab 14 (.int .i64),.rw 5 21 (.int .i32)] (aB [0,1,5,12,13,14] [42,43,44] [5]) (fun n=>cg (up k (z.2.2.2.1) (z.1) (z.2.2.2.2.2.2.2.2.2.1) (z.2.2.2.2.2.2.2.2.2.2) n)) k fun o q=>.ad 2 (.t (.j [.rw 5 21 (.int .i32)] (aB [0,1,5,12,13,14] [42,43,44] [5]) (vo (dF o) (q.1)) (.ad 3 (.f (.gm [0,1,2,3,5,6] [4,7,8,9,10,11] [12,13,14] .z))) (fun _=>.z))))) (by kernel_rfl)
noncomputable def acD(k:Nat):cX Tryz.prog am qt (List (Int)):=⟨162,Dj k,fun st=>bz st [.ab 1 bq,.ae 42 0 .str,.ae 42 1 av,.ae 42 2 bt,.ae 42 3 aw,.ae 42 4 aw,.ae 42 5 (.int .u8),.ae 42 6 .bool,.mp 43 bp bu,.ae 44 0 (.ab .str),.ae 44 1 av],fun z=>pg k (z.1) (z.2.1) (z.2.2.1) (z.2.2.2.1) (z.2.2.2.2.1) (z.2.2.2.2.2.1) (z.2.2.2.2.2.2.1) (z.2.2.2.2.2.2.2.1) (z.2.2.2.2.2.2.2.2.1) (z.2.2.2.2.2.2.2.2.2.1) (z.2.2.2.2.2.2.2.2.2.2),(DA k),fun _ _ h=>h⟩
end Go.Ev
