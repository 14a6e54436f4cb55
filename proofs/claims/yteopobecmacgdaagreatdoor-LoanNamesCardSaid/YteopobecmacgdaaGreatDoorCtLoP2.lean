/- Contracts, by program. -/
import Derived.Test.YteopobecmacgdaaGreatDoorProg
import Derived.Test.YteopobecmacgdaaGreatDoorMM6
import Derived.Test.YteopobecmacgdaaGreatDoorMM9
import Derived.Test.YteopobecmacgdaaGreatDoorCtLoP1
import Derived.KernelRfl
import Derived.Test.YteopobecmacgdaaGreatDoorTyA
set_option linter.unusedSectionVars false
set_option linter.unusedVariables false
set_option linter.unusedSimpArgs false
namespace Go.Ev
open Go Go.Proofs
set_option linter.unusedVariables false
set_option maxRecDepth 100000
noncomputable def wZ(k:Nat):aQ:=⟨[.str],[.bool],[],fun x=>HP k x⟩
theorem Py(k:Nat):aR Tryz.prog am 143 (wZ k).aS:=bh bd Tryz.func143 (by kernel_rfl) rfl Tryz.ntmps143 (wZ k) (by kernel_rfl) [u4 k] (fun _=>.ae 2 (.g 3 Bn .z .z (fun _=>.z))) (by kernel_rfl)
noncomputable def Th(k:Nat):aD Tryz.prog am:=⟨143,wZ k,Py k⟩
noncomputable def BY(k:Nat):aQ:=⟨[bI,(.int .i32)],[.bool],[],fun x=>ry k (x.1) (x.2)⟩
theorem QT(k:Nat):aR Tryz.prog am 159 (BY k).aS:=bh bd Tryz.func159 (by kernel_rfl) rfl Tryz.ntmps159 (BY k) (by kernel_rfl) [nw k] (fun _=>.z) (by kernel_rfl)
noncomputable def zM(k:Nat):aD Tryz.prog am:=⟨159,BY k,QT k⟩
noncomputable def Az(k:Nat):bP (List UInt8×List (Int)) (Option (Option (Nat×Int))×Int×List (Int)) where
 n:=19
 S:=fun z=>⟨[(0,.ptr 19 0),(1,bg (z.1))],[(19,.cells [.eI 19,.row 20] 319)],[(20,⟨5,(.int .u8),(z.2)⟩)]⟩
 bE:=fun z y=>⟨[],[(19,.cells [.eI 19,.row 20] 319)],[(20,⟨5,(.int .u8),(y.2.2)⟩)]⟩
 ap:=fun z y=>[ax (y.2.1),.val .err (y.1)]
 rel:=fun z y=>p0 k (z.1) (z.2)=some y
theorem Kf(k:Nat):bZ Tryz.prog am 199 (Az k):=de Tryz.func199 (by kernel_rfl) rfl (Az k) Tryz.ntmps199 [] (fun z=>p0 k (z.1) (z.2)) (fun _ _ h=>h) (fun st=>bp st [.ab 1 .err,.ab 0 (.int .i64),.rw 20 5 (.int .u8)]) [19] [20] (fun _=>.ae 2 (.bG (Tp k) [(19,20),(20,21)] [(20,19),(21,20)] (fun _=>.z))) (by kernel_rfl)
noncomputable def ET(k:Nat):cn Tryz.prog am (List UInt8×List (Int)) (Option (Option (Nat×Int))×Int×List (Int)):=⟨199,Az k,fun st=>bp st [.ab 1 .str,.rw 20 5 (.int .u8)],fun z=>p0 k (z.1) (z.2),(Kf k),fun _ _ h=>h⟩
noncomputable def AU(k:Nat):aQ:=⟨[bI,(.int .u32),(.int .u32)],[.str,(.int .i64)],[],fun x=>yO k (x.1) (x.2.1) (x.2.2)⟩
theorem LZ(k:Nat):aR Tryz.prog am 183 (AU k).aS:=bh bd Tryz.func183 (by kernel_rfl) rfl Tryz.ntmps183 (AU k) (by kernel_rfl) [gI k,rP k] (fun x=>.ae 5 (.f (.ae 3 (.f (.ae 3 (.be [.ab 25 (.int .i64),.rw 1000009 5 (.int .u8)] (az [1,2,9,23,24,25] [9] [1000009]) (fun n=>bY (vD k (x.1) (x.2.1) (x.2.2) n)) k fun o q=>.ae 2 (.c (.j [.rw 1000009 5 (.int .u8)] (az [1,2,9,23,24,25] [9] [1000009]) (qc (dh o) (q.1)) (.ae 3 (.c (.bG (ET k) [(9,19),(1000009,20)] [(19,9),(20,1000009)] (fun _=>.z)) (.ae 1 (.t (.bG (ET k) [(9,19),(1000009,20)] [(19,9),(20,1000009)] (fun _=>.z)))))) (fun _=>.z)) (.ae 1 (.bG (RU k) [(9,14),(1000009,15)] [] (fun _=>.z)))))))))) (by kernel_rfl)
noncomputable def IB(k:Nat):aD Tryz.prog am:=⟨183,AU k,LZ k⟩
noncomputable def wB(k:Nat):aQ:=⟨[bI,(.int .u32),(.int .u32)],[.bool],[],fun x=>In k (x.1) (x.2.1) (x.2.2)⟩
theorem TS(k:Nat):aR Tryz.prog am 181 (wB k).aS:=bh bd Tryz.func181 (by kernel_rfl) rfl Tryz.ntmps181 (wB k) (by kernel_rfl) [IB k] (fun _=>.z) (by kernel_rfl)
noncomputable def KJ(k:Nat):aD Tryz.prog am:=⟨181,wB k,TS k⟩
noncomputable def tF(k:Nat):aQ:=⟨[bI,(.int .i32),(.int .u32),(.int .u32)],[.bool],[],fun x=>u7 k (x.1) (x.2.1) (x.2.2.1) (x.2.2.2)⟩
theorem Sm(k:Nat):aR Tryz.prog am 144 (tF k).aS:=bh bd Tryz.func144 (by kernel_rfl) rfl Tryz.ntmps144 (tF k) (by kernel_rfl) [zM k,KJ k] (fun _=>.ae 3 (.t (.ae 2 (.bf 4 .z)))) (by kernel_rfl)
noncomputable def GI(k:Nat):aD Tryz.prog am:=⟨144,tF k,Sm k⟩
noncomputable def wQ(k:Nat):aQ:=⟨[bI,kY,(.int .i64)],[.bool],[],fun x=>F0 k (x.1) (x.2.1) (x.2.2)⟩
theorem Rs(k:Nat):aR Tryz.prog am 145 (wQ k).aS:=bh bd Tryz.func145 (by kernel_rfl) rfl Tryz.ntmps145 (wQ k) (by kernel_rfl) [GI k] (fun x=>.ae 3 (.bf 3 (.gT 14 [.ab 30 .bool] (az [3,4,30] [3,4] []) (Ak k (x.1) (x.2.1)) .z (.ae 4 (.gT 9 [.ab 29 .bool] (az [3,4,15,29] [3,4] []) (uv k (x.1) (x.2.1)) (.ae 4 (.bf 4 .z)) .z (fun _=>.z))) (fun _=>.z)))) (by kernel_rfl)
noncomputable def Ni(k:Nat):aD Tryz.prog am:=⟨145,wQ k,Rs k⟩
noncomputable def Bl(k:Nat):aQ:=⟨[(.ab .bool),.bool],[(.int .i64)],[],fun x=>De k (x.1) (x.2)⟩
theorem RJ(k:Nat):aR Tryz.prog am 202 (Bl k).aS:=bh bd Tryz.func202 (by kernel_rfl) rfl Tryz.ntmps202 (Bl k) (by kernel_rfl) [] (fun x=>.ae 3 (.be [.ab 8 (.int .i64)] (az [0,1,7,8] [] []) (CS (x.1) (x.2)) k fun _ _=>.z)) (by kernel_rfl)
noncomputable def Qm(k:Nat):aD Tryz.prog am:=⟨202,Bl k,RJ k⟩
noncomputable def As(k:Nat):aQ:=⟨[(.ab .bool),.bool],[.bool],[],fun x=>By k (x.1) (x.2)⟩
theorem Ts(k:Nat):aR Tryz.prog am 186 (As k).aS:=bh bd Tryz.func186 (by kernel_rfl) rfl Tryz.ntmps186 (As k) (by kernel_rfl) [Qm k] (fun _=>.z) (by kernel_rfl)
noncomputable def Ih(k:Nat):aD Tryz.prog am:=⟨186,As k,Ts k⟩
noncomputable def xm(k:Nat):aQ:=⟨[jb],[.bool],[],fun x=>AN k x⟩
theorem Ox(k:Nat):aR Tryz.prog am 182 (xm k).aS:=bh bd Tryz.func182 (by kernel_rfl) rfl Tryz.ntmps182 (xm k) (by kernel_rfl) [Ih k] (fun x=>.ae 4 (.bf 2 (.f (.ae 4 (.be [.ab 23 (.int .i64),.rw 19 4 .bool] (az [3,4,21,22,23] [] [19]) (fun n=>bY (Aw k x n)) k fun q o=>.ae 2 (.t (.ae 2 (.a gE fun L=>.j [] (az [3,4,5,6,21,22,23] [6] [19]) (rO (rX k L (o.1) x (dh q) (o.2))) (.ae 1 (.j [.ab 30 .bool] (az [3,4,5,6,21,22,23,29,30] [6] [19]) (wV k L (o.1) x (dh q) (o.2)) .z (fun _=>.f (.j [.ab 33 .bool] (az [3,4,5,6,21,22,23,29,33] [6] [19]) (wk k L (o.1) x (dh q) (o.2)) .z (fun _=>.f (.j [.ab 40 .bool] (az [3,4,5,6,21,22,23,40] [6] [19]) (nB k L (o.1) x (dh q) (o.2)) .z (fun _=>.z))))))) (fun _=>.ae 2 (.bf 3 (.gT 11 [.ab 70 .bool] (az [3,4,5,6,21,22,23,70] [6] [19]) (BT k L (o.1) x (dh q) (o.2)) .z (.ae 7 (.bf 3 .z)) (fun _=>.f (.ae 1 (.be [.ab 74 (.int .i64),.rw 19 4 .bool] (az [3,4,5,21,22,23,72,73,74] [] [19]) (fun n=>bY (AQ L (o.1) x (dh q) n)) k fun R O=>.ae 2 (.t (.ae 2 (.a (.int .i64) fun U=>.ae 2 (.bf 3 (.g 4 (xF (O.2) U (dh R) (O.1)) .z (.ae 5 (.u 0 .z)) (fun _=>.f (.ae 1 (.u 0 .z)))))))))))))))))))))) (by kernel_rfl)
noncomputable def Gb(k:Nat):aD Tryz.prog am:=⟨182,xm k,Ox k⟩
noncomputable def wr(k:Nat):aQ:=⟨[bI,jb],[(.int .i64)],[],fun x=>BQ k (x.1) (x.2)⟩
theorem Oi(k:Nat):aR Tryz.prog am 146 (wr k).aS:=bh bd Tryz.func146 (by kernel_rfl) rfl Tryz.ntmps146 (wr k) (by kernel_rfl) [gI k,Gb k,nw k,IB k] (fun x=>.ae 5 (.f (.ae 3 (.f (.ae 2 (.be [.ab 23 (.int .i64)] (az [2,21,22,23] [2] []) (yg k (x.2) (x.1)) k fun o q=>.ae 2 (.t (.j [] (az [2,21,22,23] [2] []) (rO (sN o q)) .z (fun _=>.z))))))))) (by kernel_rfl)
noncomputable def Td(k:Nat):aD Tryz.prog am:=⟨146,wr k,Oi k⟩
noncomputable def y7(k:Nat):aQ:=⟨[bI,gp],[(.int .i64)],[],fun x=>pz k (x.1) (x.2)⟩
theorem On(k:Nat):aR Tryz.prog am 115 (y7 k).aS:=bh bd Tryz.func115 (by kernel_rfl) rfl Tryz.ntmps115 (y7 k) (by kernel_rfl) [gI k,Th k,GI k,Ni k,Td k] (fun x=>.ae 5 (.f (.ae 3 (.bf 3 (.bf 3 (.bf 4 (.bf 4 (.bf 8 (.f (.ae 2 (.be [.ab 54 (.int .i64)] (az [2,3,52,53,54] [2,3] []) (yU k (x.2) (x.1)) k fun _ _=>.ae 2 (.f (.ae 2 (.be [.ab 71 (.int .i64)] (az [2,3,69,70,71] [2,3] []) (AD k (x.2) (x.1)) k fun _ _=>.ae 2 (.f (.ae 3 (.g 5 xK .z .z (fun _=>.z)))))))))))))))))) (by kernel_rfl)
noncomputable def rd(k:Nat):aD Tryz.prog am:=⟨115,y7 k,On k⟩
noncomputable def yH(k:Nat):aQ:=⟨[bI,mc],[(.int .i64)],[],fun x=>uk k (x.1) (x.2)⟩
theorem LJ(k:Nat):aR Tryz.prog am 81 (yH k).aS:=bh bd Tryz.func81 (by kernel_rfl) rfl Tryz.ntmps81 (yH k) (by kernel_rfl) [gI k,rd k] (fun x=>.ae 5 (.f (.ae 2 (.f (.ae 2 (.be [.ab 19 (.int .i64)] (az [2,17,18,19] [2] []) (B7 k (x.2) (x.1)) k fun _ _=>.z)))))) (by kernel_rfl)
noncomputable def Dj(k:Nat):aD Tryz.prog am:=⟨81,yH k,LJ k⟩
noncomputable def y2(k:Nat):aQ:=⟨[(.int .i32)],[.bool],[],fun x=>DP k x⟩
theorem Mo(k:Nat):aR Tryz.prog am 124 (y2 k).aS:=bh bd Tryz.func124 (by kernel_rfl) rfl Tryz.ntmps124 (y2 k) (by kernel_rfl) [] (fun _=>.ae 2 (.bf 2 .z)) (by kernel_rfl)
noncomputable def sP(k:Nat):aD Tryz.prog am:=⟨124,y2 k,Mo k⟩
noncomputable def wY(k:Nat):aQ:=⟨[.str,(.fn 124 .unit),.bool],[(.int .i64)],[],fun x=>II k (x.1) (x.2.1) (x.2.2)⟩
theorem TA(k:Nat):aR Tryz.prog am 191 (wY k).aS:=bh bd Tryz.func191 (by kernel_rfl) rfl Tryz.ntmps191 (wY k) (by kernel_rfl) [sP k] (fun x=>.ae 3 (.be [.it 10] (az [1,2,10] [10] []) (CW k (x.1) (x.2.2)) k fun _ _=>.ae 1 (.c (.ae 1 (.T .z)) (.ae 1 (.F .z))))) (by kernel_rfl)
noncomputable def JH(k:Nat):aD Tryz.prog am:=⟨191,wY k,TA k⟩
noncomputable def C4(k:Nat):aQ:=⟨[.str,(.fn 124 .unit)],[(.int .i64)],[],fun x=>GM k (x.1) (x.2)⟩
theorem NC(k:Nat):aR Tryz.prog am 157 (C4 k).aS:=bh bd Tryz.func157 (by kernel_rfl) rfl Tryz.ntmps157 (C4 k) (by kernel_rfl) [sP k,JH k] (fun _=>.z) (by kernel_rfl)
noncomputable def Mn(k:Nat):aD Tryz.prog am:=⟨157,C4 k,NC k⟩
noncomputable def xh(k:Nat):aQ:=⟨[.str,(.fn 124 .unit)],[.bool],[],fun x=>Ii k (x.1) (x.2)⟩
theorem Lg(k:Nat):aR Tryz.prog am 123 (xh k).aS:=bh bd Tryz.func123 (by kernel_rfl) rfl Tryz.ntmps123 (xh k) (by kernel_rfl) [sP k,Mn k] (fun _=>.z) (by kernel_rfl)
noncomputable def K6(k:Nat):aD Tryz.prog am:=⟨123,xh k,Lg k⟩
noncomputable def zh(k:Nat):aQ:=⟨[(.ab .str)],[(.int .i64)],[],fun x=>H4 k x⟩
theorem PZ(k:Nat):aR Tryz.prog am 97 (zh k).aS:=bh bd Tryz.func97 (by kernel_rfl) rfl Tryz.ntmps97 (zh k) (by kernel_rfl) [sP k,K6 k] (fun x=>.ae 3 (.f (.ae 3 (.be [.ab 14 (.int .i64),.mp 11 .str .unit] (az [3,12,13,14] [11] []) (fun n=>bY (wS k x n)) k fun q o=>.ae 2 (.t (.ae 2 (.a .str fun L=>.ae 3 (.bf 2 (.bf 3 (.g 2 (uL (dh q) (o.1) (o.2) L) .z .z (fun _=>.z))))))))))) (by kernel_rfl)
noncomputable def I6(k:Nat):aD Tryz.prog am:=⟨97,zh k,PZ k⟩
noncomputable def uK(k:Nat):aQ:=⟨[jT],[(.int .i64)],[],fun x=>tB k x⟩
theorem Sr(k:Nat):aR Tryz.prog am 62 (uK k).aS:=bh bd Tryz.func62 (by kernel_rfl) rfl Tryz.ntmps62 (uK k) (by kernel_rfl) [gI k,Od k,Sx k,Dj k,I6 k] (fun x=>.ae 5 (.f (.ae 3 (.bf 8 (.f (.ae 2 (.f (.ae 2 (.be [.ab 48 (.int .i64)] (az [1,46,47,48] [1] []) (xx k x) k fun _ _=>.ae 2 (.f (.ae 2 (.f (.ae 2 (.be [.ab 67 (.int .i64)] (az [1,65,66,67] [1] []) (uD k x) k fun _ _=>.ae 2 (.f (.ae 4 (.f (.ae 4 (.f (.ae 2 (.be [.ab 95 (.int .i64),.ad 1 0 (.ab .str),.ad 1 1 au,.ad 1 2 (.int .u32),.ad 1 3 (.int .u32),.ad 1 4 (.ab qb),.ad 1 5 (.ab (.pair .str (.pair (.int .i64) (.pair .str (.pair (.int .i64) .unit))))),.ad 1 6 mc,.ad 1 7 (.ab .str)] (az [1,93,94,95] [1] []) (fun n=>MT (uy k x n)) k fun q o=>.ae 2 (.t (.ae 2 (.a qb fun L=>.ae 1 (.be [.ab 102 (.int .i64)] (az [1,93,94,95,100,101,102] [1] []) (Cu L (o.2.2.2.2.2.2.2.2) (Ry q) (o.1) (o.2.1) (o.2.2.1) (o.2.2.2.1) (o.2.2.2.2.1) (o.2.2.2.2.2.1) (o.2.2.2.2.2.2.1) (o.2.2.2.2.2.2.2.1)) k fun _ _=>.z))))))))))))))))))))))))) (by kernel_rfl)
noncomputable def Hj(k:Nat):aD Tryz.prog am:=⟨62,uK k,Sr k⟩
noncomputable def uY(k:Nat):aQ:=⟨[bI,jT,.str],[.str,(.int .i64)],[],fun x=>sX k (x.1) (x.2.1) (x.2.2)⟩
theorem S9(k:Nat):aR Tryz.prog am 56 (uY k).aS:=bh bd Tryz.func56 (by kernel_rfl) rfl Tryz.ntmps56 (uY k) (by kernel_rfl) [gI k,Hj k,oz k] (fun _=>.z) (by kernel_rfl)
noncomputable def BL(k:Nat):aD Tryz.prog am:=⟨56,uY k,S9 k⟩
noncomputable def yY(k:Nat):aQ:=⟨[bI],[gp],[],fun x=>Dx k x⟩
theorem Rj(k:Nat):aR Tryz.prog am 117 (yY k).aS:=bh bd Tryz.func117 (by kernel_rfl) rfl Tryz.ntmps117 (yY k) (by kernel_rfl) [] (fun _=>.z) (by kernel_rfl)
noncomputable def MD(k:Nat):aD Tryz.prog am:=⟨117,yY k,Rj k⟩
noncomputable def Aq(k:Nat):aQ:=⟨[bI,.str],[bk,(.int .i64)],[],fun x=>Ex k (x.1) (x.2)⟩
theorem KY(k:Nat):aR Tryz.prog am 125 (Aq k).aS:=bh bd Tryz.func125 (by kernel_rfl) rfl Tryz.ntmps125 (Aq k) (by kernel_rfl) [C3 k,zM k] (fun x=>.ae 5 (.be [.ab 1 .str,.rw 6 21 (.int .i32)] (az [1,2,6] [2] [6]) (fun n=>bY (wg k (x.1) n)) k fun _ _=>.ae 2 (.t (.ae 4 (.bf 2 .z))))) (by kernel_rfl)
noncomputable def Tl(k:Nat):aD Tryz.prog am:=⟨125,Aq k,KY k⟩
noncomputable def Al(k:Nat):aQ:=⟨[dz,(.int .u32),(.int .u32)],[.bool],[],fun x=>Fo k (x.1) (x.2.1) (x.2.2)⟩
theorem Np(k:Nat):aR Tryz.prog am 138 (Al k).aS:=bh bd Tryz.func138 (by kernel_rfl) rfl Tryz.ntmps138 (Al k) (by kernel_rfl) [] (fun _=>.ae 2 (.bf 5 .z)) (by kernel_rfl)
noncomputable def Qw(k:Nat):aD Tryz.prog am:=⟨138,Al k,Np k⟩
noncomputable def yN(k:Nat):aQ:=⟨[bI,(.int .u32),(.int .u32)],[bk,(.int .i64)],[],fun x=>D3 k (x.1) (x.2.1) (x.2.2)⟩
theorem OC(k:Nat):aR Tryz.prog am 110 (yN k).aS:=bh bd Tryz.func110 (by kernel_rfl) rfl Tryz.ntmps110 (yN k) (by kernel_rfl) [gI k,rP k,Qw k] (fun x=>.ae 6 (.f (.ae 3 (.f (.ae 4 (.be [.ab 25 (.int .i64),.rw 9 21 (.int .i32)] (az [1,2,9,23,24,25] [] [9]) (fun n=>bY (w9 k (x.1) (x.2.1) (x.2.2) n)) k fun o q=>.ae 2 (.t (.j [.rw 9 21 (.int .i32)] (az [1,2,9,23,24,25] [] [9]) (zC (dh o) (q.1)) .z (fun _=>.z))))))))) (by kernel_rfl)
noncomputable def Lr(k:Nat):aD Tryz.prog am:=⟨110,yN k,OC k⟩
noncomputable def vN(k:Nat):bP Ei cd where
 n:=36
 S:=fun z=>⟨[(0,eY (z.1)),(1,eY (z.2.1)),(2,.ptr 36 0),(3,.ptr 37 0)],[(36,.cells [.val (.ab .str) (z.2.2.1),.val au (z.2.2.2.1)] 25),(37,.cells [.ptr 38 0] 240),(38,.cells [bg (z.2.2.2.2.1),.val au (z.2.2.2.2.2.1),.val bj (z.2.2.2.2.2.2.1),.val av (z.2.2.2.2.2.2.2.1),.val av (z.2.2.2.2.2.2.2.2.1),bN (z.2.2.2.2.2.2.2.2.2.1),aU (z.2.2.2.2.2.2.2.2.2.2.1),.iter 39,.any] 280),(39,.mp bi bl (z.2.2.2.2.2.2.2.2.2.2.2))],[]⟩
 bE:=fun z y=>⟨[],[(36,.cells [.val (.ab .str) (z.2.2.1),.val au (z.2.2.2.1)] 25),(37,.cells [.ptr 38 0] 240),(38,.cells [bg (z.2.2.2.2.1),.val au (z.2.2.2.2.2.1),.val bj (z.2.2.2.2.2.2.1),.val av (z.2.2.2.2.2.2.2.1),.val av (z.2.2.2.2.2.2.2.2.1),bN (z.2.2.2.2.2.2.2.2.2.1),aU (z.2.2.2.2.2.2.2.2.2.2.1),.iter 39,.any] 280),(39,.mp bi bl (y))],[]⟩
 ap:=fun z y=>[]
 rel:=fun z y=>pk k (z.1) (z.2.1) (z.2.2.1) (z.2.2.2.1) (z.2.2.2.2.1) (z.2.2.2.2.2.1) (z.2.2.2.2.2.2.1) (z.2.2.2.2.2.2.2.1) (z.2.2.2.2.2.2.2.2.1) (z.2.2.2.2.2.2.2.2.2.1) (z.2.2.2.2.2.2.2.2.2.2.1) (z.2.2.2.2.2.2.2.2.2.2.2)=some y
theorem Rn(k:Nat):bZ Tryz.prog am 160 (vN k):=de Tryz.func160 (by kernel_rfl) rfl (vN k) Tryz.ntmps160 [Lr k] (fun z=>pk k (z.1) (z.2.1) (z.2.2.1) (z.2.2.2.1) (z.2.2.2.2.1) (z.2.2.2.2.2.1) (z.2.2.2.2.2.2.1) (z.2.2.2.2.2.2.2.1) (z.2.2.2.2.2.2.2.2.1) (z.2.2.2.2.2.2.2.2.2.1) (z.2.2.2.2.2.2.2.2.2.2.1) (z.2.2.2.2.2.2.2.2.2.2.2)) (fun _ _ h=>h) (fun st=>bp st [.mp 39 bi bl]) [36,37,38,39] [] (fun z=>.ae 1 (.ac [bk,(.int .i64)] fun v1=>.ae 3 (.be [.ab 21 (.int .i64),.mp 18 (.int .i32) .bool] (az [0,1,2,3,8,19,20,21] [18,36,37,38,39] []) (fun n=>bY (xS v1 (z.2.2.2.2.2.2.2.2.2.2.2) (z.1) (z.2.1) n)) k fun _ _=>.z))) (by kernel_rfl)
noncomputable def HZ(k:Nat):cn Tryz.prog am Ei cd:=⟨160,vN k,fun st=>bp st [.ab 0 (.int .u32),.ab 1 (.int .u32),.ad 36 0 (.ab .str),.ad 36 1 au,.ad 38 0 .str,.ad 38 1 au,.ad 38 2 bj,.ad 38 3 av,.ad 38 4 av,.ad 38 5 (.int .u8),.ad 38 6 .bool,.mp 39 bi bl],fun z=>pk k (z.1) (z.2.1) (z.2.2.1) (z.2.2.2.1) (z.2.2.2.2.1) (z.2.2.2.2.2.1) (z.2.2.2.2.2.2.1) (z.2.2.2.2.2.2.2.1) (z.2.2.2.2.2.2.2.2.1) (z.2.2.2.2.2.2.2.2.2.1) (z.2.2.2.2.2.2.2.2.2.2.1) (z.2.2.2.2.2.2.2.2.2.2.2),(Rn k),fun _ _ h=>h⟩
noncomputable def ue(k:Nat):bP Gh gq where
 n:=62
 S:=fun z=>⟨[(0,.val bI (z.1)),(1,.val gp (z.2))],[],[]⟩
 bE:=fun z y=>⟨[],[(2,.cells [.val (.ab .str) (y.1),.val au (y.2.1)] 25),(14,.mp bi bl (y.2.2.1)),(16,.cells [bg (y.2.2.2.1),.val au (y.2.2.2.2.1),.val bj (y.2.2.2.2.2.1),.val av (y.2.2.2.2.2.2.1),.val av (y.2.2.2.2.2.2.2.1),bN (y.2.2.2.2.2.2.2.2.1),aU (y.2.2.2.2.2.2.2.2.2),.iter 14,.clos 161 [2]] 280)],[]⟩
 ap:=fun z y=>[.ptr 16 0]
 rel:=fun z y=>ja k (z.1) (z.2)=some y
theorem Jk(k:Nat):bZ Tryz.prog am 126 (ue k):=de Tryz.func126 (by kernel_rfl) rfl (ue k) Tryz.ntmps126 [] (fun z=>ja k (z.1) (z.2)) (fun _ _ h=>h) (fun st=>bp st [.ad 2 0 (.ab .str),.ad 2 1 au,.mp 14 bi bl,.ad 16 0 .str,.ad 16 1 au,.ad 16 2 bj,.ad 16 3 av,.ad 16 4 av,.ad 16 5 (.int .u8),.ad 16 6 .bool]) [2,14,16] [] (fun z=>.ae 5 (.be [.ab 21 (.int .i64),.mp 14 bi bl] (az [2,3,5,6,19,20,21] [2,3,5,14,16] []) (fun n=>bY (zL k (z.2) (z.1) n)) k fun _ _=>.ae 2 (.c (.ae 3 (.bG (HZ k) [(2,36),(5,37),(16,38),(14,39)] [(36,2),(37,5),(38,16),(39,14)] (fun _=>.z))) (.ae 2 (.be [.ab 38 (.int .i64),.ad 2 0 (.ab .str),.ad 2 1 au,.mp 14 bi bl,.ad 16 0 .str,.ad 16 1 au,.ad 16 2 bj,.ad 16 3 av,.ad 16 4 av,.ad 16 5 (.int .u8),.ad 16 6 .bool,.rw 36 58 jb] (az [2,5,6,36,37,38] [2,5,14,16] [36]) (fun n=>rV (tH k (z.2) n)) k fun q o=>.ae 2 (.t (.ae 2 (.a jb fun L=>.u 0 (.ae 1 (.be [.ab 45 (.int .i64),.mp 14 bi bl] (az [2,5,6,36,37,38,43,44,45] [2,5,14,16] [36]) (fun n=>bY (wF k L (o.2.1) (o.2.2.1) (o.2.2.2.2.1) (o.2.2.2.2.2.1) (o.2.2.2.2.2.2.1) (o.2.2.2.2.2.2.2.1) (o.2.2.2.2.2.2.2.2.1) (o.2.2.2.2.2.2.2.2.2.1) (o.2.2.2.2.2.2.2.2.2.2.1) (zx q) (o.1) (o.2.2.2.2.2.2.2.2.2.2.2) n)) k fun _ _=>.ae 2 (.t (.ae 3 (.bG (HZ k) [(2,36),(5,37),(16,38),(14,39)] [(36,2),(37,5),(38,16),(39,14)] (fun _=>.z)))))))))))))) (by kernel_rfl)
noncomputable def mw(k:Nat):cn Tryz.prog am Gh gq:=⟨126,ue k,fun st=>bp st [.ab 0 bI,.ab 1 gp],fun z=>ja k (z.1) (z.2),(Jk k),fun _ _ h=>h⟩
noncomputable def vV(k:Nat):bP Eb Bool where
 n:=26
 S:=fun z=>⟨[(0,.ptr 26 0),(1,jc (z.1)),(2,jc (z.2.1)),(3,eY (z.2.2.1)),(4,eY (z.2.2.2.1))],[(26,.cells [bg (z.2.2.2.2.1),.val au (z.2.2.2.2.2.1),.val bj (z.2.2.2.2.2.2.1),.val av (z.2.2.2.2.2.2.2.1),.val av (z.2.2.2.2.2.2.2.2.1),bN (z.2.2.2.2.2.2.2.2.2.1),aU (z.2.2.2.2.2.2.2.2.2.2.1),.iter 27,.clos 161 [28]] 280),(27,.mp bi bl (z.2.2.2.2.2.2.2.2.2.2.2.1)),(28,.cells [.val (.ab .str) (z.2.2.2.2.2.2.2.2.2.2.2.2.1),.val au (z.2.2.2.2.2.2.2.2.2.2.2.2.2)] 25)],[]⟩
 bE:=fun z y=>⟨[],[(26,.cells [bg (z.2.2.2.2.1),.val au (z.2.2.2.2.2.1),.val bj (z.2.2.2.2.2.2.1),.val av (z.2.2.2.2.2.2.2.1),.val av (z.2.2.2.2.2.2.2.2.1),bN (z.2.2.2.2.2.2.2.2.2.1),aU (z.2.2.2.2.2.2.2.2.2.2.1),.iter 27,.clos 161 [28]] 280),(27,.mp bi bl (z.2.2.2.2.2.2.2.2.2.2.2.1)),(28,.cells [.val (.ab .str) (z.2.2.2.2.2.2.2.2.2.2.2.2.1),.val au (z.2.2.2.2.2.2.2.2.2.2.2.2.2)] 25)],[]⟩
 ap:=fun z y=>[aU (y)]
 rel:=fun z y=>nV k (z.1) (z.2.1) (z.2.2.1) (z.2.2.2.1) (z.2.2.2.2.1) (z.2.2.2.2.2.1) (z.2.2.2.2.2.2.1) (z.2.2.2.2.2.2.2.1) (z.2.2.2.2.2.2.2.2.1) (z.2.2.2.2.2.2.2.2.2.1) (z.2.2.2.2.2.2.2.2.2.2.1) (z.2.2.2.2.2.2.2.2.2.2.2.1) (z.2.2.2.2.2.2.2.2.2.2.2.2.1) (z.2.2.2.2.2.2.2.2.2.2.2.2.2)=some y
theorem ME(k:Nat):bZ Tryz.prog am 184 (vV k):=de Tryz.func184 (by kernel_rfl) rfl (vV k) Tryz.ntmps184 [] (fun z=>nV k (z.1) (z.2.1) (z.2.2.1) (z.2.2.2.1) (z.2.2.2.2.1) (z.2.2.2.2.2.1) (z.2.2.2.2.2.2.1) (z.2.2.2.2.2.2.2.1) (z.2.2.2.2.2.2.2.2.1) (z.2.2.2.2.2.2.2.2.2.1) (z.2.2.2.2.2.2.2.2.2.2.1) (z.2.2.2.2.2.2.2.2.2.2.2.1) (z.2.2.2.2.2.2.2.2.2.2.2.2.1) (z.2.2.2.2.2.2.2.2.2.2.2.2.2)) (fun _ _ h=>h) (fun st=>bp st [.ab 0 .bool]) [26,27,28] [] (fun _=>.z) (by kernel_rfl)
noncomputable def Gl(k:Nat):cn Tryz.prog am Eb Bool:=⟨184,vV k,fun st=>bp st [.ab 1 (.int .i32),.ab 2 (.int .i32),.ab 3 (.int .u32),.ab 4 (.int .u32),.ad 26 0 .str,.ad 26 1 au,.ad 26 2 bj,.ad 26 3 av,.ad 26 4 av,.ad 26 5 (.int .u8),.ad 26 6 .bool,.mp 27 bi bl,.ad 28 0 (.ab .str),.ad 28 1 au],fun z=>nV k (z.1) (z.2.1) (z.2.2.1) (z.2.2.2.1) (z.2.2.2.2.1) (z.2.2.2.2.2.1) (z.2.2.2.2.2.2.1) (z.2.2.2.2.2.2.2.1) (z.2.2.2.2.2.2.2.2.1) (z.2.2.2.2.2.2.2.2.2.1) (z.2.2.2.2.2.2.2.2.2.2.1) (z.2.2.2.2.2.2.2.2.2.2.2.1) (z.2.2.2.2.2.2.2.2.2.2.2.2.1) (z.2.2.2.2.2.2.2.2.2.2.2.2.2),(ME k),fun _ _ h=>h⟩
end Go.Ev
