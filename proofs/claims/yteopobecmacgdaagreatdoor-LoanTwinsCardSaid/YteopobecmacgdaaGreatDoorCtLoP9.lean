/- Contracts, by program. -/
import Derived.Test.YteopobecmacgdaaGreatDoorProg
import Derived.Test.YteopobecmacgdaaGreatDoorMM6
import Derived.Test.YteopobecmacgdaaGreatDoorMM9
import Derived.Test.YteopobecmacgdaaGreatDoorMM10
import Derived.Test.YteopobecmacgdaaGreatDoorCtLoP1
import Derived.Test.YteopobecmacgdaaGreatDoorCtLoP2
import Derived.Test.YteopobecmacgdaaGreatDoorCtLoP3
import Derived.Test.YteopobecmacgdaaGreatDoorCtLoP4
import Derived.Test.YteopobecmacgdaaGreatDoorCtLoP8
import Derived.KernelRfl
import Derived.Test.YteopobecmacgdaaGreatDoorTyA
set_option linter.unusedSectionVars false
set_option linter.unusedVariables false
set_option linter.unusedSimpArgs false
namespace Go.Ev
open Go Go.Proofs
set_option linter.unusedVariables false
set_option maxRecDepth 100000
noncomputable def A6(k:Nat):aS:=⟨[(.int .i32),(.int .i32),qJ],[(.int .i64)],[oH],fun x=>KY k (x.1) (x.2.1) (x.2.2)⟩
theorem Tq(k:Nat):aV Tryz.prog am 104 (A6 k).aT:=bl bk Tryz.func104 (by kernel_rfl) rfl Tryz.ntmps104 (A6 k) (by kernel_rfl) [] (fun _=>.z) (by kernel_rfl)
noncomputable def IF(k:Nat):aG Tryz.prog am:=⟨104,A6 k,Tq k⟩
noncomputable def z8(k:Nat):aS:=⟨[bq,bq,(.fn 104 (.pair qJ .unit))],[(.int .i64)],[],fun x=>Mi k (x.1) (x.2.1) (x.2.2)⟩
theorem VM(k:Nat):aV Tryz.prog am 84 (z8 k).aT:=bl bk Tryz.func84 (by kernel_rfl) rfl Tryz.ntmps84 (z8 k) (by kernel_rfl) [IF k] (fun x=>.ad 3 (.bi [.ab 13 (.int .i64)] (aB [0,1,2,11,12,13] [] []) (F7 k (x.1) (x.2.1) (x.2.2)) k fun _ _=>.z)) (by kernel_rfl)
noncomputable def Tp(k:Nat):aG Tryz.prog am:=⟨84,z8 k,VM k⟩
noncomputable def Ew(k:Nat):aS:=⟨[.str,.str,qJ],[(.int .i64)],[oH],fun x=>Lw k (x.1) (x.2.1) (x.2.2)⟩
theorem Us(k:Nat):aV Tryz.prog am 103 (Ew k).aT:=bl bk Tryz.func103 (by kernel_rfl) rfl Tryz.ntmps103 (Ew k) (by kernel_rfl) [IF k,Tp k] (fun _=>.z) (by kernel_rfl)
noncomputable def Vv(k:Nat):aG Tryz.prog am:=⟨103,Ew k,Us k⟩
noncomputable def CK(k:Nat):b8 wK cQ where
 n:=53
 S:=fun z=>⟨[(0,.row 10000000),(1,ay (z.1)),(2,ay (z.2.1)),(3,.clos 103 [54])],[(54,.cells [.iter 55] 119),(55,.mp (.int .i32) (.int .i64) (z.2.2.1))],[(10000000,⟨9,.str,(z.2.2.2)⟩)]⟩
 bg:=fun z y=>⟨[],[(54,.cells [.iter 55] 119),(55,.mp (.int .i32) (.int .i64) (y.1))],[(10000000,⟨9,.str,(y.2)⟩)]⟩
 aq:=fun z y=>[]
 rel:=fun z y=>yu k (z.1) (z.2.1) (z.2.2.1) (z.2.2.2)=some y
theorem aa6(k:Nat):cq Tryz.prog am 170 (CK k):=dO Tryz.func170 (by kernel_rfl) rfl (CK k) Tryz.ntmps170 [Vv k] (fun z=>yu k (z.1) (z.2.1) (z.2.2.1) (z.2.2.2)) (fun _ _ h=>h) (fun st=>bz st [.mp 55 (.int .i32) (.int .i64),.rw 10000000 9 .str]) [54,55] [10000000] (fun z=>.ad 1 (.bi [.ab 8 (.int .i64),.mp 55 (.int .i32) (.int .i64),.rw 10000000 9 .str] (aB [0,1,2,3,8] [54,55] [10000000]) (fun n=>gD (DH k (z.2.1) (z.1) n)) k fun q o=>.ad 2 (.t (.ad 2 (.bi [.ab 9 (.int .i64),.rw 10000000 9 .str] (aB [0,1,2,3,8,9] [54,55] [10000000]) (fun n=>cg (Gp k (z.1) (o.2.1) (gM q) (o.1) n)) k fun R O=>.ad 3 (.g 12 (Bc (O.2) (O.1) (dF R) (gM q) (o.1) (o.2.1)) (.ad 6 (.u 0 (.ad 6 (.u 0 .z)))) .z (fun _=>.t (.ad 1 (.gm [0,1,2,3,4,5,6,7,8,10,11,12] [9,13,14] [15,16,17] (.ad 2 (.u 1 (.u 0 (.u 0 (.u 0 (.ad 1 (.u 0 .z)))))))))))))))) (by kernel_rfl)
noncomputable def U1(k:Nat):cX Tryz.prog am wK cQ:=⟨170,CK k,fun st=>bz st [.ab 1 (.int .i64),.ab 2 (.int .i64),.mp 55 (.int .i32) (.int .i64),.rw 10000000 9 .str],fun z=>yu k (z.1) (z.2.1) (z.2.2.1) (z.2.2.2),(aa6 k),fun _ _ h=>h⟩
noncomputable def B9(k:Nat):b8 wH cQ where
 n:=148
 S:=fun z=>⟨[(0,.row 10000000),(1,ay (z.1)),(2,ay (z.2.1)),(3,ay (z.2.2.1)),(4,.clos 103 [149])],[(149,.cells [.iter 150] 119),(150,.mp (.int .i32) (.int .i64) (z.2.2.2.1))],[(10000000,⟨9,.str,(z.2.2.2.2)⟩)]⟩
 bg:=fun z y=>⟨[],[(149,.cells [.iter 150] 119),(150,.mp (.int .i32) (.int .i64) (y.1))],[(10000000,⟨9,.str,(y.2)⟩)]⟩
 aq:=fun z y=>[]
 rel:=fun z y=>yK k (z.1) (z.2.1) (z.2.2.1) (z.2.2.2.1) (z.2.2.2.2)=some y
theorem Tz(k:Nat):cq Tryz.prog am 132 (B9 k):=dO Tryz.func132 (by kernel_rfl) rfl (B9 k) Tryz.ntmps132 [] (fun z=>yK k (z.1) (z.2.1) (z.2.2.1) (z.2.2.2.1) (z.2.2.2.2)) (fun _ _ h=>h) (fun st=>bz st [.mp 150 (.int .i32) (.int .i64),.rw 10000000 9 .str]) [149,150] [10000000] (fun z=>.ad 2 (.bi [] (aB [0,1,2,3,4,10,11] [149,150] [10000000]) (fun n=>vC (Dy k (z.2.1) (z.1) (z.2.2.2.1) (z.2.2.2.2) n)) k fun _ _=>.ad 3 (.c (.ad 1 (.bQ (U1 k) [(10000000,10000000),(149,54),(150,55)] [(54,149),(55,150),(10000000,10000000)] (fun _=>.z))) (.gX [999999] [] [] .z)))) (by kernel_rfl)
noncomputable def RL(k:Nat):cX Tryz.prog am wH cQ:=⟨132,B9 k,fun st=>bz st [.ab 1 (.int .i64),.ab 2 (.int .i64),.ab 3 (.int .i64),.mp 150 (.int .i32) (.int .i64),.rw 10000000 9 .str],fun z=>yK k (z.1) (z.2.1) (z.2.2.1) (z.2.2.2.1) (z.2.2.2.2),(Tz k),fun _ _ h=>h⟩
noncomputable def AT(k:Nat):b8 cQ cQ where
 n:=14
 S:=fun z=>⟨[(0,.row 10000000),(1,.clos 103 [15])],[(15,.cells [.iter 16] 119),(16,.mp (.int .i32) (.int .i64) (z.1))],[(10000000,⟨9,.str,(z.2)⟩)]⟩
 bg:=fun z y=>⟨[],[(15,.cells [.iter 16] 119),(16,.mp (.int .i32) (.int .i64) (y.1))],[(10000000,⟨9,.str,(y.2)⟩)]⟩
 aq:=fun z y=>[]
 rel:=fun z y=>xF k (z.1) (z.2)=some y
theorem XD(k:Nat):cq Tryz.prog am 100 (AT k):=dO Tryz.func100 (by kernel_rfl) rfl (AT k) Tryz.ntmps100 [JH k] (fun z=>xF k (z.1) (z.2)) (fun _ _ h=>h) (fun st=>bz st [.mp 16 (.int .i32) (.int .i64),.rw 10000000 9 .str]) [15,16] [10000000] (fun _=>.ad 2 (.bQ (RL k) [(10000000,10000000),(15,149),(16,150)] [(149,15),(150,16),(10000000,10000000)] (fun _=>.z))) (by kernel_rfl)
noncomputable def Tb(k:Nat):cX Tryz.prog am cQ cQ:=⟨100,AT k,fun st=>bz st [.mp 16 (.int .i32) (.int .i64),.rw 10000000 9 .str],fun z=>xF k (z.1) (z.2),(XD k),fun _ _ h=>h⟩
noncomputable def CV(k:Nat):aS:=⟨[(.ab .str)],[(.ab .str)],[],fun x=>Xx k x⟩
theorem QE(k:Nat):aV Tryz.prog am 105 (CV k).aT:=bl bk Tryz.func105 (by kernel_rfl) rfl Tryz.ntmps105 (CV k) (by kernel_rfl) [] (fun x=>.ad 4 (.f (.ad 2 (.bi [.ab 3 (.int .i64)] (aB [0,3] [] []) (Au x) k fun _ _=>.ad 2 (.t (.ad 5 (.t (.gX [999999] [] [] .z)))))))) (by kernel_rfl)
noncomputable def acI(k:Nat):aG Tryz.prog am:=⟨105,CV k,QE k⟩
noncomputable def CU(k:Nat):b8 aD Unit where
 n:=61
 S:=fun z=>⟨[(0,.row 10000000)],[],[(10000000,⟨9,.str,(z)⟩)]⟩
 bg:=fun z y=>⟨[],[],[(10000000,⟨9,.str,(z)⟩)]⟩
 aq:=fun z y=>[.row 10000000]
 rel:=fun z y=>wn k (z)=some y
theorem T6(k:Nat):cq Tryz.prog am 105 (CU k):=dO Tryz.func105 (by kernel_rfl) rfl (CU k) Tryz.ntmps105 [] (fun z=>wn k (z)) (fun _ _ h=>h) (fun st=>bz st []) [] [10000000] (fun z=>.ad 4 (.f (.ad 2 (.bi [.ab 3 (.int .i64)] (aB [0,3] [] [10000000]) (CG z) k fun _ _=>.ad 2 (.t (.ad 4 (.u 0 (.ad 1 (.u 0 (.t (.gX [999999] [] [] .z))))))))))) (by kernel_rfl)
noncomputable def WW(k:Nat):cX Tryz.prog am aD Unit:=⟨105,CU k,fun st=>bz st [.rw 10000000 9 .str],fun z=>wn k (z),(T6 k),fun _ _ h=>h⟩
noncomputable def CO(k:Nat):b8 (aH×List (List UInt8)) aD where
 n:=27
 S:=fun z=>⟨[(0,.val bV (z.1)),(1,.row 10000000)],[],[(10000000,⟨9,.str,(z.2)⟩)]⟩
 bg:=fun z y=>⟨[],[],[(10000000,⟨9,.str,(y)⟩)]⟩
 aq:=fun z y=>[.row 10000000]
 rel:=fun z y=>yT k (z.1) (z.2)=some y
theorem Wr(k:Nat):cq Tryz.prog am 66 (CO k):=dO Tryz.func66 (by kernel_rfl) rfl (CO k) Tryz.ntmps66 [] (fun z=>yT k (z.1) (z.2)) (fun _ _ h=>h) (fun st=>bz st [.rw 10000000 9 .str]) [] [10000000] (fun z=>.ad 5 (.bi [.ab 12 (.int .i64),.mp 8 (.int .i32) (.int .i64)] (aB [1,5,10,11,12] [5,8] [10000000]) (fun n=>cg (AH k (z.1) (z.2) n)) k fun _ _=>.ad 2 (.f (.ad 1 (.bQ (Tb k) [(10000000,10000000),(5,15),(8,16)] [(15,5),(16,8),(10000000,10000000)] (fun _=>.ad 1 (.bQ (WW k) [(10000000,10000000)] [(10000000,10000000)] (fun _=>.z)))))))) (by kernel_rfl)
noncomputable def QX(k:Nat):cX Tryz.prog am (aH×List (List UInt8)) aD:=⟨66,CO k,fun st=>bz st [.ab 0 bV,.rw 10000000 9 .str],fun z=>yT k (z.1) (z.2),(Wr k),fun _ _ h=>h⟩
noncomputable def Cj(k:Nat):aS:=⟨[bV,mN,.str],[(.ab .str),(.int .i64)],[],fun x=>OP k (x.1) (x.2.1) (x.2.2)⟩
theorem T8(k:Nat):aV Tryz.prog am 32 (Cj k).aT:=bl bk Tryz.func32 (by kernel_rfl) rfl Tryz.ntmps32 (Cj k) (by kernel_rfl) [KC k,Zy k] (fun x=>.ad 6 (.f (.ad 3 (.bi [.ab 31 (.int .i64),.ae 3 0 (.ab .str),.ae 3 1 av,.rw 28 9 .str] (aB [3,9,29,30,31] [3] [28]) (fun n=>uH (E6 k (x.2.1) n)) k fun O q=>.ad 2 (.t (.ad 8 (.bi [.ab 38 (.int .i64),.ae 3 0 (.ab .str),.ae 3 1 av,.ae 11 0 .str,.ae 11 1 av,.ae 11 2 bt,.ae 11 3 aw,.ae 11 4 aw,.ae 11 5 (.int .u8),.ae 11 6 .bool,.mp 35 .str .bool,.rw 13 9 .str,.rw 28 9 .str] (aB [3,11,12,13,29,30,31,36,37,38] [3,11,35] [13,28]) (fun n=>V0 (Ej k (q.2.2.2) (vZ O) (q.1) n)) k fun R o=>.ad 2 (.c (.ad 3 (.u 0 (.ad 1 (.ac [(.ab .str),(.int .i64)] fun v2=>.ad 2 (.f (.ad 2 (.bi [.ab 54 (.int .i64),.mp 35 .str .bool,.rw 13 9 .str] (aB [3,11,12,13,29,30,31,36,37,38,52,53,54] [3,11,35] [13,28]) (fun n=>gD (B3 v2 (Pz R) (o.1) (o.2.1) (o.2.2.1) (o.2.2.2.1) (o.2.2.2.2.1) (o.2.2.2.2.2.1) (o.2.2.2.2.2.2.1) (o.2.2.2.2.2.2.2.1) (o.2.2.2.2.2.2.2.2.1) (o.2.2.2.2.2.2.2.2.2.1) (o.2.2.2.2.2.2.2.2.2.2.2.2) n)) k fun U W=>.ad 2 (.t (.j [.mp 35 .str .bool,.rw 13 9 .str] (aB [3,11,12,13,29,30,31,36,37,38,52,53,54] [3,11,35] [13,28]) (cg (CF (gM U) (W.1))) .z (fun _=>.z)))))))))) (.bQ (QX k) [(13,10000000)] [(10000000,13)] (fun _=>.fJ [3,9,29,30,31] [3] [13] [(3,3),(13,28)])))))))))) (by kernel_rfl)
noncomputable def ach(k:Nat):aG Tryz.prog am:=⟨32,Cj k,T8 k⟩
noncomputable def Fh(k:Nat):aS:=⟨[(.ab .str),.str],[(.int .i64)],[],fun x=>sC k (x.1) (x.2)⟩
theorem Sj(k:Nat):aV Tryz.prog am 98 (Fh k).aT:=bl bk Tryz.func98 (by kernel_rfl) rfl Tryz.ntmps98 (Fh k) (by kernel_rfl) [] (fun x=>.ad 3 (.bi [.ab 8 (.int .i64)] (aB [0,1,7,8] [] []) (sU (x.1) (x.2)) k fun _ _=>.z)) (by kernel_rfl)
noncomputable def Oj(k:Nat):aG Tryz.prog am:=⟨98,Fh k,Sj k⟩
noncomputable def HL(k:Nat):aS:=⟨[(.ab .str),.str],[.bool],[],fun x=>tG k (x.1) (x.2)⟩
theorem ab4(k:Nat):aV Tryz.prog am 63 (HL k).aT:=bl bk Tryz.func63 (by kernel_rfl) rfl Tryz.ntmps63 (HL k) (by kernel_rfl) [Oj k] (fun _=>.z) (by kernel_rfl)
noncomputable def JY(k:Nat):aG Tryz.prog am:=⟨63,HL k,ab4 k⟩
noncomputable def Hi(k:Nat):aS:=⟨[iG,.str,.str],[fL,(.int .i64)],[],fun x=>HI k (x.1) (x.2.1) (x.2.2)⟩
theorem Rd(k:Nat):aV Tryz.prog am 58 (Hi k).aT:=bl bk Tryz.func58 (by kernel_rfl) rfl Tryz.ntmps58 (Hi k) (by kernel_rfl) [ach k,JY k] (fun x=>.ad 6 (.bi [.ab 16 (.int .i64),.rw 8 3 (.int .i64)] (aB [1,2,3,8,15,16] [3] [8]) (fun n=>cg (EI k (x.1) (x.2.1) (x.2.2) n)) k fun o q=>.ad 2 (.t (.j [.rw 8 3 (.int .i64)] (aB [1,2,3,8,15,16] [3] [8]) (An (dF o) (q.1)) (.ad 2 (.cT [[],[0],[2],[4],[6],[1,0],[2,0],[4,0],[6,0],[3,2],[4,2],[6,2],[6,4],[2,1,0],[4,1,0],[6,1,0],[3,2,0],[4,2,0],[6,2,0],[6,4,0],[4,3,2],[6,3,2],[6,4,2],[3,2,1,0],[4,2,1,0],[6,2,1,0],[6,4,1,0],[4,3,2,0],[6,3,2,0],[6,4,2,0],[5,4,3,2],[6,4,3,2],[4,3,2,1,0],[6,3,2,1,0],[6,4,2,1,0],[5,4,3,2,0],[6,4,3,2,0],[6,5,4,3,2],[5,4,3,2,1,0],[6,4,3,2,1,0],[6,5,4,3,2,0],[6,5,4,3,2,1,0],[7,6,5,4,3,2,1,0],[8,7,6,5,4,3,2,1,0],[9,8,7,6,5,4,3,2,1,0],[10,8,7,6,5,4,3,2,1,0],[10,9,8,7,6,5,4,3,2,1,0],[11,9,8,7,6,5,4,3,2,1,0],[11,10,9,8,7,6,5,4,3,2,1,0],[12,11,10,9,8,7,6,5,4,3,2,1,0]] .z)) (fun _=>.z))))) (by kernel_rfl)
noncomputable def JM(k:Nat):aG Tryz.prog am:=⟨58,Hi k,Rd k⟩
noncomputable def Ea(k:Nat):aS:=⟨[bV,iG,.str,.str],[fL,(.int .i64)],[],fun x=>zv k (x.1) (x.2.1) (x.2.2.1) (x.2.2.2)⟩
theorem Xc(k:Nat):aV Tryz.prog am 27 (Ea k).aT:=bl bk Tryz.func27 (by kernel_rfl) rfl Tryz.ntmps27 (Ea k) (by kernel_rfl) [Gc k,tD k,JM k] (fun _=>.z) (by kernel_rfl)
noncomputable def J1(k:Nat):aG Tryz.prog am:=⟨27,Ea k,Xc k⟩
noncomputable def AS(k:Nat):b8 (Int×List (Int)×List (Int)) (List (Int)×List (Int)) where
 n:=5
 S:=fun z=>⟨[(0,.ptr 5 0),(1,.ptr 6 0),(2,.ptr 7 0)],[(5,.cells [ay (z.1)] 34),(6,.cells [.val fL (z.2.1)] 69),(7,.cells [.val fL (z.2.2)] 69)],[]⟩
 bg:=fun z y=>⟨[],[(5,.cells [ay (z.1)] 34),(6,.cells [.val fL (y.1)] 69),(7,.cells [.val fL (y.2)] 69)],[]⟩
 aq:=fun z y=>[]
 rel:=fun z y=>ke k (z.1) (z.2.1) (z.2.2)=some y
theorem Ql(k:Nat):u5 Tryz.prog am 59 (AS k):=K4 Tryz.func59 (by kernel_rfl) rfl (AS k) Tryz.ntmps59 [] (fun z=>ke k (z.1) (z.2.1) (z.2.2)) (fun _ _ h=>h) (fun st=>bz st [.ae 6 0 fL,.ae 7 0 fL]) [5,6,7] [] (fun _=>.z) (by kernel_rfl)
noncomputable def nx(k:Nat):D5 Tryz.prog am (Int×List (Int)×List (Int)) (List (Int)×List (Int)):=⟨59,AS k,fun st=>bz st [.ae 5 0 (.int .i64),.ae 6 0 fL,.ae 7 0 fL],fun z=>ke k (z.1) (z.2.1) (z.2.2),(Ql k),fun _ _ h=>h⟩
noncomputable def Aj(k:Nat):aS:=⟨[bV,(.int .i32),(.int .i32)],[(.int .i64),(.int .i64)],[],fun x=>Pc k (x.1) (x.2.1) (x.2.2)⟩
theorem TY(k:Nat):aV Tryz.prog am 134 (Aj k).aT:=bl bk Tryz.func134 (by kernel_rfl) rfl Tryz.ntmps134 (Aj k) (by kernel_rfl) [p9 k,Jj k] (fun _=>.z) (by kernel_rfl)
noncomputable def VT(k:Nat):aG Tryz.prog am:=⟨134,Aj k,TY k⟩
noncomputable def BU(k:Nat):aS:=⟨[bV,(.int .i32),(.int .i32)],[(.int .i64)],[],fun x=>xx k (x.1) (x.2.1) (x.2.2)⟩
theorem abG(k:Nat):aV Tryz.prog am 107 (BU k).aT:=bl bk Tryz.func107 (by kernel_rfl) rfl Tryz.ntmps107 (BU k) (by kernel_rfl) [VT k] (fun _=>.ad 3 (.f (.ad 2 (.bc 2 .z)))) (by kernel_rfl)
noncomputable def Fu(k:Nat):aG Tryz.prog am:=⟨107,BU k,abG k⟩
noncomputable def GU(k:Nat):b8 (aH×List (Int)×List (Int)) bR where
 n:=174
 S:=fun z=>⟨[(0,.val bV (z.1)),(1,.val bq (z.2.1)),(2,.val bq (z.2.2))],[],[]⟩
 bg:=fun z y=>⟨[],[(18,.aY kp (y) 155)],[]⟩
 aq:=fun z y=>[.dP 18 []]
 rel:=fun z y=>xS k (z.1) (z.2.1) (z.2.2)=some y
theorem Om(k:Nat):cq Tryz.prog am 106 (GU k):=dO Tryz.func106 (by kernel_rfl) rfl (GU k) Tryz.ntmps106 [Fu k] (fun z=>xS k (z.1) (z.2.1) (z.2.2)) (fun _ _ h=>h) (fun st=>bz st [.mL 18 kp]) [18] [] (fun z=>.ad 2 (.un 18 (.ad 5 (.bi [.ab 8 (.int .i64),.ae 3 0 (.ab .str),.ae 3 1 av,.mL 18 kp] (aB [1,2,3,7,8] [3,18] []) (fun n=>uH (Eg k (z.2.1) (z.2.2) n)) k fun Y q=>.ad 2 (.t (.ad 2 (.bi [.ab 9 (.int .i64),.mL 18 kp] (aB [1,2,3,7,8,9] [3,18] []) (fun n=>cg (GD k (z.2.1) (q.1) (z.2.2) (q.2.1) (q.2.2.1) (vZ Y) n)) k fun O o=>.ad 2 (.t (.j [.mL 18 kp] (aB [1,2,3,7,8,9] [3,18] []) (D6 (dF O) (o.1)) (.ad 2 (.bc 4 (.f (.ad 1 (.j [.ab 10 (.int .i64)] (aB [1,2,3,7,8,9,10,11,12] [3,18] []) (Ck (q.1) (z.2.1) (o.1) (o.2) (z.2.2) (dF O)) (.ad 1 (.bc 4 .z)) (fun R=>.j [.ab 11 (.int .i64)] (aB [1,2,3,7,8,9,10,11,12] [3,18] []) (CX (o.1) (z.2.2) (q.1) (o.2) R (dF O)) .z (fun U=>.j [.ab 12 (.int .i64)] (aB [1,2,3,7,8,9,10,11,12] [3,18] []) (EO R U (q.1) (o.1) (o.2) (dF O)) .z (fun W=>.ad 2 (.j [.ab 14 (.int .i64)] (aB [1,2,3,7,8,9,11,12,13,14] [3,18] []) (Gq U R W (q.1) (o.1) (o.2) (dF O)) .z (fun _=>.j [.ab 14 (.int .i64)] (aB [1,2,3,7,8,9,12,13,14] [3,18] []) (Bw W R U (q.1) (o.1) (o.2) (dF O)) .z (fun _=>.j [.ab 14 (.int .i64)] (aB [1,2,3,7,8,9,13,14] [3,18] []) (Do (q.1) (o.1) (o.2) (dF O) R U W) .z (fun _=>.gm [0,1,2,3,4,5,6,7,8,9,10,11,12,14,15,16] [] [13,17,18] .z)))))))))))) (fun _=>.z)))))))))) (by kernel_rfl)
noncomputable def acv(k:Nat):cX Tryz.prog am (aH×List (Int)×List (Int)) bR:=⟨106,GU k,fun st=>bz st [.ab 0 bV,.ab 1 bq,.ab 2 bq],fun z=>xS k (z.1) (z.2.1) (z.2.2),(Om k),fun _ _ h=>h⟩
noncomputable def JQ(k:Nat):b8 (aH×List UInt8×List UInt8) (Sum Int Cx) where
 n:=33
 S:=fun z=>⟨[(0,.val bV (z.1)),(1,bo (z.2.1)),(2,bo (z.2.2))],[],[]⟩
 bg:=fun z y=>match y with|.inl y=>⟨[],[],[]⟩|.inr y=>⟨[],[(32,.aY kp (y.2) 155)],[]⟩
 aq:=fun z y=>match y with|.inl y=>[.any,ay (y)]|.inr y=>[.dP 32 [],ay (y.1)]
 rel:=fun z y=>sd k (z.1) (z.2.1) (z.2.2)=some y
noncomputable def Yn(k:Nat):Env:=cC Tryz.prog am 33 [xy k]
theorem HK(k:Nat):cq Tryz.prog am 67 (JQ k):=by
 refine pb (fn:=Tryz.f67) Tryz.func67 (by kernel_rfl) rfl Tryz.ntmps67 ?_
 rintro cx U W Y ⟨q,Z,la⟩ lb h
 have o:bE (Yn k) cx:=jy U W Y
 replace h:sd k q Z la=some lb:=h
 unfold sd at h
 refine aM (aZ (bK o [1,2,3] [3] [] (orc:=[]) (by kernel_rfl) .n (aN (aM (aZ ?_)))))
 obtain⟨v1,lc,h⟩:=bind_some h
 refine bK o [2,3,8,9] [3] [] (orc:=[⟨bq,v1.1⟩,mW v1.2]) (by kernel_rfl) (.c lc .n) (aN (aM (aM (aZ (bK o [2,3,8,9,18] [3] [] (orc:=[]) (by kernel_rfl) .n (aN (dI (b:=v1.2 !=(0:Int)) (by kernel_rfl) (fun O=>?_) (fun O=>?_))))))))
 ·replace h:=eO O h
  refine aM (aZ (dh o (st':=⟨[(7,ay v1.2)],[],[]⟩) (orc:=[]) (by kernel_rfl) .n (aN (ft (dX ?_)))))
  replace h:=Option.some.inj h
  subst h
  exact Ge [7] [] [] (by kernel_rfl) (fN o.P [] [] (.inl rfl) (by kernel_rfl) (by kernel_rfl))
 ·replace h:=eV O h
  refine dV (aN (aM (aZ ?_)))
  obtain⟨v2,ld,h⟩:=bind_some h
  refine bK o [3,8,9,10] [3] [] (orc:=[⟨bq,v2.1⟩,mW v2.2]) (by kernel_rfl) (.c ld .n) (aN (aM (aM (aZ (bK o [3,8,9,10,27] [3] [] (orc:=[]) (by kernel_rfl) .n (aN (dI (b:=v2.2 !=(0:Int)) (by kernel_rfl) (fun R=>?_) (fun R=>?_))))))))
  ·replace h:=eO R h
   refine aM (aZ (dh o (st':=⟨[(7,ay v2.2)],[],[]⟩) (orc:=[]) (by kernel_rfl) .n (aN (ft (dX ?_)))))
   replace h:=Option.some.inj h
   subst h
   exact Ge [7] [] [] (by kernel_rfl) (fN o.P [] [] (.inl rfl) (by kernel_rfl) (by kernel_rfl))
  ·replace h:=eV R h
   refine dV (aN (aM (aZ (jK o 3 [29,30,31] [] [] (orc:=[]) (by kernel_rfl) .n ?_))))
   obtain⟨v3,le,h⟩:=bind_some h
   refine wh o (Om k) ((q.1,q.2.1,()),v1.1,v2.1) v3 le (ρ:=[]) (ρ':=[(18,32)]) (n:=174) (by kernel_rfl) [32] [32] [] (by kernel_rfl) (by kernel_rfl) (st':=⟨[(32,.dP 32 [])],[(32,.aY kp v3 155)],[]⟩) (by kernel_rfl) (bK o [6,7] [32] [] (orc:=[]) (by kernel_rfl) .n (aN (ft ?_)))
   replace h:=Option.some.inj h
   subst h
   exact Ge [6,7] [32] [] (by kernel_rfl) (fN o.P [32] [] (.inl rfl) (by kernel_rfl) (by kernel_rfl))
noncomputable def acG(k:Nat):cX Tryz.prog am (aH×List UInt8×List UInt8) (Sum Int Cx):=⟨67,JQ k,fun st=>bz st [.ab 0 bV,.ab 1 .str,.ab 2 .str],fun z=>sd k (z.1) (z.2.1) (z.2.2),(HK k),fun _ _ h=>h⟩
noncomputable def ER(k:Nat):aS:=⟨[(.ptr kp),bV],[(.ab mJ)],[],fun x=>abJ k (x.1) (x.2)⟩
theorem UM(k:Nat):aV Tryz.prog am 68 (ER k).aT:=bl bk Tryz.func68 (by kernel_rfl) rfl Tryz.ntmps68 (ER k) (by kernel_rfl) [Fu k] (fun x=>.ad 6 (.bi [.ab 6 (.int .i64),.ab 7 (.int .i64),.rw 5 203 mJ] (aB [0,3,5,6,7] [3] [5]) (fun n=>gD (Cg k (x.1) (x.2) n)) k fun q o=>.ad 2 (.bc 7 (.t (.ad 2 (.a (.int .i64) fun O=>.ad 2 (.bc 7 (.g 29 (Bk (x.1) (o.1) (o.2.1) (o.2.2) (gM q) O) .z .z (fun _=>.c (.ad 1 (.gm [0,1,2,3,5,8,9,10,12] [4,6,7,11,13,14,15] [16,17,18] .z)) (.ad 1 (.g 12 (DD (x.1) (o.1) (o.2.2) (gM q) (o.2.1)) .z .z (fun _=>.z)))))))))))) (by kernel_rfl)
noncomputable def act(k:Nat):aG Tryz.prog am:=⟨68,ER k,UM k⟩
noncomputable def Gm(k:Nat):b8 KS aF where
 n:=152
 S:=fun z=>⟨[(0,.dP 152 []),(1,.val bV (z.1))],[(152,.aY kp (z.2) 155)],[]⟩
 bg:=fun z y=>⟨[],[(152,.aY kp (z.2) 155)],[(5,⟨203,mJ,(y)⟩)]⟩
 aq:=fun z y=>[.row 5]
 rel:=fun z y=>yk k (z.1) (z.2)=some y
theorem Ij(k:Nat):cq Tryz.prog am 68 (Gm k):=dO Tryz.func68 (by kernel_rfl) rfl (Gm k) Tryz.ntmps68 [Fu k] (fun z=>yk k (z.1) (z.2)) (fun _ _ h=>h) (fun st=>bz st [.rw 5 203 mJ]) [152] [5] (fun z=>.ad 6 (.bi [.ab 6 (.int .i64),.ab 7 (.int .i64),.rw 5 203 mJ] (aB [0,3,5,6,7] [3,152] [5]) (fun n=>gD (Hs k (z.2) (z.1) n)) k fun q o=>.ad 2 (.bc 7 (.t (.ad 2 (.a (.int .i64) fun O=>.ad 2 (.bc 7 (.g 29 (Bu (z.2) (o.1) (o.2.1) (o.2.2) (gM q) O) .z .z (fun _=>.c (.ad 1 (.gm [0,1,2,3,5,8,9,10,12] [4,6,7,11,13,14,15] [16,17,18] .z)) (.ad 1 (.g 12 (F8 (z.2) (o.1) (o.2.2) (gM q) (o.2.1)) .z .z (fun _=>.z)))))))))))) (by kernel_rfl)
noncomputable def acH(k:Nat):cX Tryz.prog am KS aF:=⟨68,Gm k,fun st=>bz st [.ab 1 bV,.mL 152 kp],fun z=>yk k (z.1) (z.2),(Ij k),fun _ _ h=>h⟩
noncomputable def LC(k:Nat):aS:=⟨[bV,.str,.str],[(.int .i64),(.ab mJ),(.int .i64)],[],fun x=>ya k (x.1) (x.2.1) (x.2.2)⟩
noncomputable def Rm(k:Nat):Env:=cC Tryz.prog am 30 []
theorem Z3(k:Nat):aV Tryz.prog am 33 (LC k).aT:=by
 refine By bk (fn:=Tryz.f33) Tryz.func33 (by kernel_rfl) rfl (U7 Tryz.ntmps33 (by kernel_rfl)) ?_
 rintro w0 M _ _ li h
 obtain⟨⟨q,O,R⟩,⟨le,lf,lg⟩,rfl,rfl,h⟩:=jp h
 change aH at q
 change List UInt8 at O
 change List UInt8 at R
 change Int at le
 change List bI at lf
 change Int at lg
 replace h:ya k q O R=some (le,lf,lg):=h
 have o:bE (Rm k) ⟨Tryz.prog,Tryz.f33.ntmps,w0,M,fun _=>False,fun _=>undef⟩:=jy rfl Tryz.ntmps33 li
 unfold ya at h
 refine aM (aZ (bK o [1,2,3] [3] [] (orc:=[]) (by kernel_rfl) .n (aN (aM (aZ (jK o 3 [3,12,13,14] [3] [] (orc:=[]) (by kernel_rfl) .n ?_))))))
 obtain⟨v1,lh,h⟩:=bind_some h
 rcases v1 with v2|v3
 ·replace h:=Y0 h
  refine qA o (HK k) ((q.1,q.2.1,()),O,R) (.inl v2) lh (ρ:=[]) (ρ':=[]) (n:=33) (by kernel_rfl) [3,15] [3] [] (by kernel_rfl) (by kernel_rfl) (by kernel_rfl) (bK o [3,9,10] [3] [] (orc:=[]) (by kernel_rfl) .n (aN (aM (aM (aZ (bK o [3,9,10,19] [3] [] (orc:=[]) (by kernel_rfl) .n (aN (dI (b:=v2 !=(0:Int)) (by kernel_rfl) (fun U=>?_) (fun U=>?_)))))))))
  ·replace h:=eO U h
   refine aM (aZ (dh o (st':=⟨[(6,ay (0:Int)),(7,.row 7),(8,ay v2)],[],[(7,⟨203,mJ,([]:List bI)⟩)]⟩) (orc:=[]) (by kernel_rfl) .n (aN (ft (dX ?_)))))
   cases h
   exact xP (.inl rfl) (by kernel_rfl)
  ·replace h:=eV U h
   refine dV (aN (aM ?_))
   cases h
 ·replace h:=Ue h
  refine qA o (HK k) ((q.1,q.2.1,()),O,R) (.inr v3) lh (ρ:=[]) (ρ':=[(32,15)]) (n:=33) (by kernel_rfl) [3,15] [3,15] [] (by kernel_rfl) (by kernel_rfl) (by kernel_rfl) (bK o [3,9,10] [3,15] [] (orc:=[]) (by kernel_rfl) .n (aN (aM (aM (aZ (bK o [3,9,10,19] [3,15] [] (orc:=[]) (by kernel_rfl) .n (aN (dI (b:=v3.1 !=(0:Int)) (by kernel_rfl) (fun W=>?_) (fun W=>?_)))))))))
  ·replace h:=eO W h
   refine aM (aZ (dh o (st':=⟨[(6,ay (0:Int)),(7,.row 7),(8,ay v3.1)],[],[(7,⟨203,mJ,([]:List bI)⟩)]⟩) (orc:=[]) (by kernel_rfl) .n (aN (ft (dX ?_)))))
   cases h
   exact xP (.inl rfl) (by kernel_rfl)
  ·replace h:=eV W h
   refine dV (aN (aM ?_))
   obtain⟨_,Y,h⟩:=bind_some h
   replace Y:=dH Y
   obtain⟨_,Z,h⟩:=bind_some h
   replace Z:=dH Z
   obtain⟨la,lb,h⟩:=bind_some h
   obtain⟨lc,ld,h⟩:=bind_some h
   refine PJ o [0,1,2,3,4,6] [] 5 7 [8] [9,10,11] [3,25,26,27] [3,15] [] (orc:=[]) (orci:=[⟨(.arr 65 (.int .i64)),la⟩,mW lc]) (by rfl) (by rfl) (by rfl) (by kernel_rfl) (by kernel_rfl) (by kernel_rfl) (by kernel_rfl) (by kernel_rfl) (by kernel_rfl) (by kernel_rfl) (by kernel_rfl) (.c Y (.c Z (.c lb (.c ld .n)))) (bK o [25,26,27,28] [15] [] (orc:=[]) (by kernel_rfl) .n (Zx o (orc:=[⟨(.arr 65 (.int .i64)),la⟩,mW lc]) (by kernel_rfl) (by kernel_rfl) (by kernel_rfl) (by kernel_rfl) (.c lb (.c ld .n)) (by rfl) ?_))
   obtain⟨v4,lj,h⟩:=bind_some h
   refine qA o (Ij k) ((q.1,q.2.1,()),v3.2) v4 lj (ρ:=[(15,152)]) (ρ':=[(152,15),(5,29)]) (n:=152) (by kernel_rfl) [25,26,29] [15] [29] (by kernel_rfl) (by kernel_rfl) (by kernel_rfl) (kN (Yq o (orc:=[⟨(.arr 65 (.int .i64)),la⟩,mW lc]) (by kernel_rfl) (by kernel_rfl) (by kernel_rfl) (by kernel_rfl) (.c lb (.c ld .n)) (bK o [6,7,8] [] [29] (orc:=[]) (by kernel_rfl) .n (Xh (aN (ft ?_))))))
   cases h
   exact xP (.inl rfl) (by kernel_rfl)
noncomputable def WI(k:Nat):aG Tryz.prog am:=⟨33,LC k,Z3 k⟩
noncomputable def ET(k:Nat):aS:=⟨[dm,dm],[(.int .i64)],[],fun x=>tj k (x.1) (x.2)⟩
theorem Qc(k:Nat):aV Tryz.prog am 61 (ET k).aT:=bl bk Tryz.func61 (by kernel_rfl) rfl Tryz.ntmps61 (ET k) (by kernel_rfl) [] (fun _=>.z) (by kernel_rfl)
noncomputable def JD(k:Nat):aG Tryz.prog am:=⟨61,ET k,Qc k⟩
noncomputable def Cy(k:Nat):b8 (Int×Int×List bI) aF where
 n:=53
 S:=fun z=>⟨[(0,.row 10000000),(1,ay (z.1)),(2,ay (z.2.1)),(3,.clos 61 [])],[],[(10000000,⟨140,dm,(z.2.2)⟩)]⟩
 bg:=fun z y=>⟨[],[],[(10000000,⟨140,dm,(y)⟩)]⟩
 aq:=fun z y=>[]
 rel:=fun z y=>uL k (z.1) (z.2.1) (z.2.2)=some y
theorem PF(k:Nat):cq Tryz.prog am 120 (Cy k):=dO Tryz.func120 (by kernel_rfl) rfl (Cy k) Tryz.ntmps120 [JD k] (fun z=>uL k (z.1) (z.2.1) (z.2.2)) (fun _ _ h=>h) (fun st=>bz st [.rw 10000000 140 dm]) [] [10000000] (fun z=>.ad 1 (.bi [.ab 8 (.int .i64),.rw 10000000 140 dm] (aB [0,1,2,3,8] [] [10000000]) (fun n=>cg (EU k (z.2.1) (z.1) n)) k fun o q=>.ad 2 (.t (.ad 2 (.bi [.ab 9 (.int .i64),.rw 10000000 140 dm] (aB [0,1,2,3,8,9] [] [10000000]) (fun n=>cg (Fc k (z.1) (dF o) (q.1) n)) k fun R O=>.ad 3 (.g 12 (GC (O.2) (O.1) (dF R) (dF o) (q.1)) (.ad 6 (.u 0 (.ad 6 (.u 0 .z)))) .z (fun _=>.t (.ad 1 (.gm [0,1,2,3,4,5,6,7,8,10,11,12] [9,13,14] [15,16,17] (.ad 2 (.u 1 (.u 0 (.u 0 (.u 0 (.ad 1 (.u 0 .z)))))))))))))))) (by kernel_rfl)
noncomputable def MN(k:Nat):cX Tryz.prog am (Int×Int×List bI) aF:=⟨120,Cy k,fun st=>bz st [.ab 1 (.int .i64),.ab 2 (.int .i64),.rw 10000000 140 dm],fun z=>uL k (z.1) (z.2.1) (z.2.2),(PF k),fun _ _ h=>h⟩
end Go.Ev
